import PyProof.Rows.All
import Wide.All
import OpenK.AllK
import Wide.FinOn
import KE.KStateDown
import Lean
import HandS.ForMost
import HandS.Wide
import HandS.Style
import HandS.Conv
import HandS.Zip
import HandS.TupAny
import HandS.TupMul
import HandS.SortInts
import HandS.SortRule
import HandS.IsInst
import HandS.Defaults
import HandS.Head0
import HandS.Head1
import HandS.Head2
import HandS.HeadEnd
import HandS.HeadHook1
import HandS.HeadHook2
import PySem.Challenge.RW_primessure_k56_whole_even_perfect_number
set_option Elab.async false
set_option linter.all false
set_option maxRecDepth 100000
set_option maxHeartbeats 0

/-! A pure layer over the hand layer: data, what stands for it, and judgements that do not speak of the heap. -/
namespace PL
open PySem L2

/-- data as the program sees it; op: a value that is handed on as it is -/
inductive D where
  | non
  | bl (b : Bool)
  | int (i : Int)
  | str (x : Str)
  | tup (xs : List D)
  | lst (xs : List D)
  | op (v : V)
  | scr (K : PySem.W.Frag) (ns : List Int)
theorem sqm {K : PySem.W.Frag} {G G' : Hp} {a : Addr} {xs : List V} (e : Same G G') (h : SqL K G a xs) : SqL K G' a xs := by
  rcases h with h | h
  · rcases h with h | ⟨o, h⟩
    · exact .inl (.inl (e _ _ h))
    · exact .inl (.inr ⟨o, e _ _ h⟩)
  · exact .inr h

mutual
inductive Rep (G : Hp) : V → D → Prop
  | non : Rep G .non .non
  | bl (b : Bool) : Rep G (.bl b) (.bl b)
  | int (i : Int) : Rep G (.int i) (.int i)
  | str (x : Str) : Rep G (.str x) (.str x)
  | tup {a : Addr} {vs : List V} {ds : List D} (h : G a = some (.tup vs)) (r : Reps G vs ds) : Rep G (.ref a) (.tup ds)
  | lst {a : Addr} {vs : List V} {ds : List D} (h : G a = some (.lst vs)) (r : Reps G vs ds) : Rep G (.ref a) (.lst ds)
  | op (v : V) : Rep G v (.op v)
  | scr {K : PySem.W.Frag} {a : Addr} {ns : List Int} (h : SqL K G a (ns.map V.int)) : Rep G (.ref a) (.scr K ns)
inductive Reps (G : Hp) : List V → List D → Prop
  | nil : Reps G [] []
  | cons {v : V} {d : D} {vs : List V} {ds : List D} (h : Rep G v d) (t : Reps G vs ds) : Reps G (v :: vs) (d :: ds)
end

mutual
theorem Rep.mono {G G' : Hp} (e : Same G G') : ∀ {v : V} {d : D}, Rep G v d → Rep G' v d
  | _, _, .non => .non
  | _, _, .bl b => .bl b
  | _, _, .int i => .int i
  | _, _, .str x => .str x
  | _, _, .tup h r => .tup (e _ _ h) (Reps.mono e r)
  | _, _, .lst h r => .lst (e _ _ h) (Reps.mono e r)
  | _, _, .op v => .op v
  | _, _, .scr h => .scr (sqm e h)
theorem Reps.mono {G G' : Hp} (e : Same G G') : ∀ {vs : List V} {ds : List D}, Reps G vs ds → Reps G' vs ds
  | _, _, .nil => .nil
  | _, _, .cons h t => .cons (Rep.mono e h) (Reps.mono e t)
end

section
variable {G : Hp}
theorem Reps.length {vs : List V} {ds : List D} (r : Reps G vs ds) : vs.length = ds.length := by
  induction ds generalizing vs with
  | nil => cases r; rfl
  | cons d ds ih =>
    cases r with
    | cons h t => rw [List.length_cons, List.length_cons, ih t]
theorem Reps.append {vs ws : List V} {ds es : List D} (r : Reps G vs ds) (q : Reps G ws es) : Reps G (vs ++ ws) (ds ++ es) := by
  induction ds generalizing vs with
  | nil => cases r; exact q
  | cons d ds ih =>
    cases r with
    | cons h t => exact .cons h (ih t)
theorem Reps.snoc {vs : List V} {ds : List D} {v : V} {d : D} (r : Reps G vs ds) (q : Rep G v d) : Reps G (vs ++ [v]) (ds ++ [d]) := r.append (.cons q .nil)
theorem Reps.get {vs : List V} {ds : List D} (r : Reps G vs ds) {i : Nat} {d : D} (e : ds[i]? = some d) : ∃ v, vs[i]? = some v ∧ Rep G v d := by
  induction ds generalizing vs i with
  | nil => simp at e
  | cons x ds ih =>
    cases r with
    | cons h t =>
      cases i with
      | zero =>
        simp at e
        subst e
        exact ⟨_, rfl, h⟩
      | succ i =>
        simp at e
        obtain ⟨v, h1, h2⟩ := ih t e
        exact ⟨v, by simpa using h1, h2⟩
theorem Reps.getV {vs : List V} {ds : List D} (r : Reps G vs ds) {i : Nat} {v : V} (e : vs[i]? = some v) : ∃ d, ds[i]? = some d ∧ Rep G v d := by
  have hi : i < ds.length := by
    have := (List.getElem?_eq_some_iff.mp e).1
    rw [r.length] at this
    exact this
  obtain ⟨w, h1, h2⟩ := r.get (List.getElem?_eq_getElem hi)
  rw [e] at h1
  cases h1
  exact ⟨_, List.getElem?_eq_getElem hi, h2⟩
theorem Reps.take {vs : List V} {ds : List D} (n : Nat) (r : Reps G vs ds) : Reps G (vs.take n) (ds.take n) := by
  induction ds generalizing vs n with
  | nil => cases r; simp; exact .nil
  | cons x ds ih =>
    cases r with
    | cons h t =>
      cases n with
      | zero => exact .nil
      | succ n => exact .cons h (ih n t)
theorem Reps.drop {vs : List V} {ds : List D} (n : Nat) (r : Reps G vs ds) : Reps G (vs.drop n) (ds.drop n) := by
  induction ds generalizing vs n with
  | nil => cases r; simp; exact .nil
  | cons x ds ih =>
    cases r with
    | cons h t =>
      cases n with
      | zero => exact .cons h t
      | succ n => exact ih n t
theorem Reps.reverse {vs : List V} {ds : List D} (r : Reps G vs ds) : Reps G vs.reverse ds.reverse := by
  induction ds generalizing vs with
  | nil => cases r; exact .nil
  | cons x ds ih =>
    cases r with
    | cons h t => rw [List.reverse_cons, List.reverse_cons]; exact (ih t).snoc h
theorem Reps.set {vs : List V} {ds : List D} {v : V} {d : D} (r : Reps G vs ds) (q : Rep G v d) (i : Nat) : Reps G (vs.set i v) (ds.set i d) := by
  induction ds generalizing vs i with
  | nil => cases r; exact .nil
  | cons x ds ih =>
    cases r with
    | cons h t =>
      cases i with
      | zero => exact .cons q t
      | succ i => exact .cons h (ih t i)
theorem Reps.dropLast {vs : List V} {ds : List D} (r : Reps G vs ds) : Reps G vs.dropLast ds.dropLast := by
  rw [List.dropLast_eq_take, List.dropLast_eq_take, r.length]
  exact r.take _
theorem Reps.replicate {vs : List V} {ds : List D} (r : Reps G vs ds) (n : Nat) : Reps G (List.replicate n vs).flatten (List.replicate n ds).flatten := by
  induction n with
  | zero => exact .nil
  | succ n ih =>
    rw [List.replicate_succ, List.replicate_succ, List.flatten_cons, List.flatten_cons]
    exact r.append ih
theorem Reps.ints {vs : List V} {ns : List Int} (r : Reps G vs (ns.map D.int)) : vs = ns.map V.int := by
  induction ns generalizing vs with
  | nil => cases r; rfl
  | cons n ns ih =>
    cases r with
    | cons h t =>
      cases h
      rw [ih t]
      rfl
theorem Reps.of_ints {ns : List Int} : Reps G (ns.map V.int) (ns.map D.int) := by
  induction ns with
  | nil => exact .nil
  | cons n ns ih => exact .cons (.int n) ih
theorem Reps.bls {vs : List V} {bs : List Bool} (r : Reps G vs (bs.map D.bl)) : vs = bs.map V.bl := by
  induction bs generalizing vs with
  | nil => cases r; rfl
  | cons n ns ih =>
    cases r with
    | cons h t =>
      cases h
      rw [ih t]
      rfl
theorem Reps.strs {vs : List V} {xs : List Str} (r : Reps G vs (xs.map D.str)) : vs = xs.map V.str := by
  induction xs generalizing vs with
  | nil => cases r; rfl
  | cons n ns ih =>
    cases r with
    | cons h t =>
      cases h
      rw [ih t]
      rfl
end

/-! ### how heaps grow: G what is settled, H what stands -/
structure Gr (G H G' H' : Hp) : Prop where
  g : Same G G'
  h : Same H H'
  s : Same G' H'
  fr : ∀ a o, H a = some o → G a = none → G' a = none
theorem Gr.refl {G H : Hp} (s : Same G H) : Gr G H G H := ⟨Same.refl _, Same.refl _, s, fun _ _ _ h => h⟩
theorem Gr.trans {G H G1 H1 G2 H2 : Hp} (a : Gr G H G1 H1) (b : Gr G1 H1 G2 H2) : Gr G H G2 H2 :=
  ⟨a.g.trans b.g, a.h.trans b.h, b.s, fun x o h1 h2 => b.fr x o (a.h x o h1) (a.fr x o h1 h2)⟩
theorem same_new {H : Hp} {p : Addr} {o : HO} (h : H p = none) : Same H (upd H p o) := fun a u e => by
  rw [upd_ne (ne_of_none e h)]
  exact e
/-- a new object that is settled at once -/
theorem Gr.new {G H : Hp} {p : Addr} {o : HO} (s : Same G H) (h : H p = none) : Gr G H (upd G p o) (upd H p o) := by
  refine ⟨same_new ((Same.free s h)), same_new h, fun a u e => ?_, fun a u e1 e2 => ?_⟩
  · by_cases q : a = p
    · subst q
      rw [upd_same] at e ⊢
      exact e
    · rw [upd_ne q] at e ⊢
      exact s a u e
  · rw [upd_ne (ne_of_none e1 h)]
    exact e2
/-- a new object of one's own -/
theorem Gr.own {G H : Hp} {p : Addr} {o : HO} (s : Same G H) (h : H p = none) : Gr G H G (upd H p o) :=
  ⟨Same.refl _, same_new h, fun a u e => same_new h a u (s a u e), fun _ _ _ e => e⟩
/-- an object that the entry did not know is settled -/
theorem Gr.settle {G0 B G H : Hp} {p : Addr} {o : HO} (g : Gr G0 B G H) (h : H p = some o) (hb : B p = none) (hg : G p = none) : Gr G0 B (upd G p o) H := by
  refine ⟨fun a u e => same_new hg a u (g.g a u e), g.h, fun a u e => ?_, fun a u e1 e2 => ?_⟩
  · by_cases q : a = p
    · subst q
      rw [upd_same] at e
      rw [h]
      exact e
    · rw [upd_ne q] at e
      exact g.s a u e
  · rw [upd_ne (ne_of_none e1 hb)]
    exact g.fr a u e1 e2
/-- an object that the entry did not know is written -/
theorem Gr.write {G0 B G H : Hp} {p : Addr} {o : HO} (g : Gr G0 B G H) (hb : B p = none) (hg : G p = none) : Gr G0 B G (upd H p o) := by
  refine ⟨g.g, fun a u e => ?_, fun a u e => ?_, g.fr⟩
  · rw [upd_ne (ne_of_none e hb)]
    exact g.h a u e
  · rw [upd_ne (ne_of_none e hg)]
    exact g.s a u e

/-! ### the pure state -/
abbrev Cup := Option (Int × Int)
def cupO (c : Int × Int) : HO := .lst [.int c.1, .int c.2]
def bs (H0 : Hp) (cp : Addr) : Cup → Hp
  | none => H0
  | some c => upd H0 cp (cupO c)
inductive Sl where
  | dead
  | dat (d : D)
  | own (xs : List D)
  | odk (kvs : List (Key × D))
  | cup
def Sl.isOwn : Sl → Bool
  | .own _ => true
  | .odk _ => true
  | _ => false
def RepK (G : Hp) : List (Key × V) → List (Key × D) → Prop
  | [], [] => True
  | p :: ps, q :: qs => p.1 = q.1 ∧ Rep G p.2 q.2 ∧ RepK G ps qs
  | _, _ => False
theorem RepK.mono {G G' : Hp} (e : Same G G') : ∀ {ps : List (Key × V)} {qs : List (Key × D)}, RepK G ps qs → RepK G' ps qs
  | [], [], _ => trivial
  | p :: ps, q :: qs, h => ⟨h.1, h.2.1.mono e, RepK.mono e h.2.2⟩
  | [], _ :: _, h => h.elim
  | _ :: _, [], h => h.elim
theorem RepK.length {G : Hp} : ∀ {ps : List (Key × V)} {qs : List (Key × D)}, RepK G ps qs → ps.length = qs.length
  | [], [], _ => rfl
  | p :: ps, q :: qs, h => by rw [List.length_cons, List.length_cons, RepK.length h.2.2]
  | [], _ :: _, h => h.elim
  | _ :: _, [], h => h.elim
def SlOk (B G H : Hp) (cp : Addr) (o : Option V) : Sl → Prop
  | .dead => True
  | .dat d => ∃ v, o = some v ∧ Rep G v d
  | .own xs => ∃ p vs, o = some (.ref p) ∧ B p = none ∧ G p = none ∧ H p = some (.lst vs) ∧ Reps G vs xs
  | .odk kvs => ∃ p kv, o = some (.ref p) ∧ B p = none ∧ G p = none ∧ H p = some (.dK kv) ∧ RepK G kv kvs
  | .cup => o = some (.ref cp)

structure EnvR (G0 H0 : Hp) (cp : Addr) (G H : Hp) (σ : L2.St) (ρ : List Sl) (c : Cup) : Prop where
  gr : Gr G0 (bs H0 cp c) G H
  c0 : c ≠ none → G0 cp = none
  len : σ.length = ρ.length
  sl : ∀ (i : Nat) (o : Option V) (s : Sl), σ[i]? = some o → ρ[i]? = some s → SlOk (bs H0 cp c) G H cp o s
  ap : ∀ (i j : Nat) (si sj : Sl) (p : Addr), ρ[i]? = some si → ρ[j]? = some sj → si.isOwn = true → sj.isOwn = true → σ[i]? = some (some (.ref p)) → σ[j]? = some (some (.ref p)) → i = j

section
variable {G0 H0 G H G' H' : Hp} {cp : Addr} {σ : L2.St} {ρ : List Sl} {c : Cup}
theorem SlOk.mono {B : Hp} (g : Gr G H G' H') {o : Option V} {s : Sl} (h : SlOk B G H cp o s) : SlOk B G' H' cp o s := by
  cases s with
  | dead => trivial
  | dat d => obtain ⟨v, e, r⟩ := h; exact ⟨v, e, r.mono g.g⟩
  | own xs => obtain ⟨p, vs, e, b, q, e2, r⟩ := h; exact ⟨p, vs, e, b, g.fr _ _ e2 q, g.h _ _ e2, r.mono g.g⟩
  | odk kvs => obtain ⟨p, vs, e, b, q, e2, r⟩ := h; exact ⟨p, vs, e, b, g.fr _ _ e2 q, g.h _ _ e2, r.mono g.g⟩
  | cup => exact h
theorem EnvR.mono (e : EnvR G0 H0 cp G H σ ρ c) (g : Gr G H G' H') : EnvR G0 H0 cp G' H' σ ρ c :=
  ⟨e.gr.trans g, e.c0, e.len, fun i o s a b => (e.sl i o s a b).mono g, e.ap⟩
theorem EnvR.at (e : EnvR G0 H0 cp G H σ ρ c) {i : Nat} {s : Sl} (h : ρ[i]? = some s) : ∃ o, σ[i]? = some o ∧ SlOk (bs H0 cp c) G H cp o s := by
  have hi : i < σ.length := by
    rw [e.len]
    exact (List.getElem?_eq_some_iff.mp h).1
  exact ⟨σ[i], List.getElem?_eq_getElem hi, e.sl i _ s (List.getElem?_eq_getElem hi) h⟩
theorem EnvR.dat (e : EnvR G0 H0 cp G H σ ρ c) {i : Nat} {d : D} (h : ρ[i]? = some (.dat d)) : ∃ v, σ[i]? = some (some v) ∧ Rep G v d := by
  obtain ⟨o, h1, v, h2, h3⟩ := e.at h
  subst h2
  exact ⟨v, h1, h3⟩
theorem EnvR.own (e : EnvR G0 H0 cp G H σ ρ c) {i : Nat} {xs : List D} (h : ρ[i]? = some (.own xs)) : ∃ p vs, σ[i]? = some (some (.ref p)) ∧ bs H0 cp c p = none ∧ G p = none ∧ H p = some (.lst vs) ∧ Reps G vs xs := by
  obtain ⟨o, h1, p, vs, h2, h3⟩ := e.at h
  subst h2
  exact ⟨p, vs, h1, h3⟩
theorem EnvR.odk (e : EnvR G0 H0 cp G H σ ρ c) {i : Nat} {xs : List (Key × D)} (h : ρ[i]? = some (.odk xs)) : ∃ p vs, σ[i]? = some (some (.ref p)) ∧ bs H0 cp c p = none ∧ G p = none ∧ H p = some (.dK vs) ∧ RepK G vs xs := by
  obtain ⟨o, h1, p, vs, h2, h3⟩ := e.at h
  subst h2
  exact ⟨p, vs, h1, h3⟩
theorem EnvR.isCup (e : EnvR G0 H0 cp G H σ ρ c) {i : Nat} (h : ρ[i]? = some .cup) : σ[i]? = some (some (.ref cp)) := by
  obtain ⟨o, h1, h2⟩ := e.at h
  rw [h1, h2]
theorem EnvR.cupH {x : Int × Int} (e : EnvR G0 H0 cp G H σ ρ (some x)) : H cp = some (cupO x) := e.gr.h _ _ upd_same
theorem EnvR.cupG {x : Int × Int} (e : EnvR G0 H0 cp G H σ ρ (some x)) : G cp = none := e.gr.fr _ _ upd_same (e.c0 (by simp))
/-- a slot is stored -/
theorem EnvR.set (e : EnvR G0 H0 cp G H σ ρ c) (i : Nat) {o : Option V} {s : Sl} (hs : SlOk (bs H0 cp c) G H cp o s)
    (ha : s.isOwn = true → ∀ (p : Addr) (j : Nat) (sj : Sl), o = some (.ref p) → ρ[j]? = some sj → sj.isOwn = true → σ[j]? = some (some (.ref p)) → j = i) : EnvR G0 H0 cp G H (σ.set i o) (ρ.set i s) c := by
  refine ⟨e.gr, e.c0, by rw [List.length_set, List.length_set, e.len], fun j o' s' h1 h2 => ?_, fun j k sj sk p h1 h2 h3 h4 h5 h6 => ?_⟩
  · by_cases q : i = j
    · subst q
      by_cases hi : i < σ.length
      · rw [List.getElem?_set_self hi] at h1
        rw [List.getElem?_set_self (by rw [← e.len]; exact hi)] at h2
        cases h1
        cases h2
        exact hs
      · rw [List.getElem?_eq_none (by rw [List.length_set]; omega)] at h1
        cases h1
    · rw [List.getElem?_set_ne q] at h1 h2
      exact e.sl j o' s' h1 h2
  · have key : ∀ (j : Nat) (sj : Sl), (ρ.set i s)[j]? = some sj → sj.isOwn = true → (σ.set i o)[j]? = some (some (.ref p)) → (j = i ∧ s.isOwn = true ∧ o = some (.ref p)) ∨ (j ≠ i ∧ ρ[j]? = some sj ∧ σ[j]? = some (some (.ref p))) := by
      intro j sj a b d
      by_cases q : i = j
      · subst q
        by_cases hi : i < σ.length
        · rw [List.getElem?_set_self hi] at d
          rw [List.getElem?_set_self (by rw [← e.len]; exact hi)] at a
          cases a
          cases d
          exact .inl ⟨rfl, b, rfl⟩
        · rw [List.getElem?_eq_none (by rw [List.length_set]; omega)] at d
          cases d
      · rw [List.getElem?_set_ne q] at a d
        exact .inr ⟨fun z => q z.symm, a, d⟩
    rcases key j sj h1 h3 h5 with ⟨a1, a2, a3⟩ | ⟨a1, a2, a3⟩
    · rcases key k sk h2 h4 h6 with ⟨b1, b2, b3⟩ | ⟨b1, b2, b3⟩
      · rw [a1, b1]
      · exact absurd (ha a2 p k sk a3 b2 h4 b3) b1
    · rcases key k sk h2 h4 h6 with ⟨b1, b2, b3⟩ | ⟨b1, b2, b3⟩
      · exact absurd (ha b2 p j sj b3 a2 h3 a3) a1
      · exact e.ap j k sj sk p a2 b2 h3 h4 a3 b3
theorem EnvR.setDat (e : EnvR G0 H0 cp G H σ ρ c) (i : Nat) {v : V} {d : D} (r : Rep G v d) : EnvR G0 H0 cp G H (σ.set i (some v)) (ρ.set i (.dat d)) c :=
  e.set i (s := .dat d) ⟨v, rfl, r⟩ (fun h => by cases h)
theorem EnvR.setDead (e : EnvR G0 H0 cp G H σ ρ c) (i : Nat) (o : Option V) : EnvR G0 H0 cp G H (σ.set i o) (ρ.set i .dead) c :=
  e.set i (s := .dead) trivial (fun h => by cases h)
theorem list_set_self {α : Type} : ∀ {l : List α} {i : Nat} {x : α}, l[i]? = some x → l.set i x = l
  | [], i, x, h => by simp at h
  | a :: r, 0, x, h => by simp at h; subst h; rfl
  | a :: r, i + 1, x, h => by
    simp at h
    rw [List.set_cons_succ, list_set_self h]
/-- the list of a slot is settled -/
theorem EnvR.freeze (e : EnvR G0 H0 cp G H σ ρ c) {i : Nat} {xs : List D} (h : ρ[i]? = some (.own xs)) : ∃ G', Same G G' ∧ EnvR G0 H0 cp G' H σ (ρ.set i (.dat (.lst xs))) c := by
  obtain ⟨p, vs, h1, hb, hg, hp, r⟩ := e.own h
  have sm : Same G (upd G p (.lst vs)) := same_new hg
  have gr := e.gr.settle hp hb hg
  have e2 := e.setDead i (some (.ref p))
  rw [list_set_self h1] at e2
  have notp : ∀ (j : Nat) (sj : Sl), (ρ.set i .dead)[j]? = some sj → sj.isOwn = true → σ[j]? ≠ some (some (.ref p)) := by
    intro j sj a b d
    by_cases q : i = j
    · subst q
      rw [List.getElem?_set_self (List.getElem?_eq_some_iff.mp h).1] at a
      cases a
      cases b
    · rw [List.getElem?_set_ne q] at a
      exact q (e.ap i j _ _ p h a rfl b h1 d)
  have e3 : EnvR G0 H0 cp (upd G p (.lst vs)) H σ (ρ.set i .dead) c := by
    refine ⟨gr, e2.c0, e2.len, fun j o s a b => ?_, e2.ap⟩
    have z := e2.sl j o s a b
    cases s with
    | dead => trivial
    | dat d => obtain ⟨v, q, r⟩ := z; exact ⟨v, q, r.mono sm⟩
    | own ys =>
      obtain ⟨q, vs', e1, b1, g1, e3, r⟩ := z
      subst e1
      refine ⟨q, vs', rfl, b1, ?_, e3, r.mono sm⟩
      rw [upd_ne (fun z => notp j _ b rfl (by rw [a, z]))]
      exact g1
    | odk ys =>
      obtain ⟨q, vs', e1, b1, g1, e3, r⟩ := z
      subst e1
      refine ⟨q, vs', rfl, b1, ?_, e3, r.mono sm⟩
      rw [upd_ne (fun z => notp j _ b rfl (by rw [a, z]))]
      exact g1
    | cup => exact z
  refine ⟨upd G p (.lst vs), sm, ?_⟩
  have e4 := e3.setDat i (v := .ref p) (d := .lst xs) (.lst upd_same (r.mono sm))
  rw [list_set_self h1, List.set_set] at e4
  exact e4
/-- the object of an own slot is written -/
theorem EnvR.write (e : EnvR G0 H0 cp G H σ ρ c) {i : Nat} {s0 s : Sl} {p : Addr} {o : HO} (h : ρ[i]? = some s0) (ho : s0.isOwn = true) (h1 : σ[i]? = some (some (.ref p))) (hb : bs H0 cp c p = none) (hg : G p = none)
    (hs : SlOk (bs H0 cp c) G (upd H p o) cp (some (.ref p)) s) (hso : s.isOwn = true) : EnvR G0 H0 cp G (upd H p o) σ (ρ.set i s) c := by
  have e2 := e.setDead i (some (.ref p))
  rw [list_set_self h1] at e2
  have notp : ∀ (j : Nat) (sj : Sl), (ρ.set i .dead)[j]? = some sj → sj.isOwn = true → σ[j]? ≠ some (some (.ref p)) := by
    intro j sj a b d
    by_cases q : i = j
    · subst q
      rw [List.getElem?_set_self (List.getElem?_eq_some_iff.mp h).1] at a
      cases a
      cases b
    · rw [List.getElem?_set_ne q] at a
      exact q (e.ap i j _ _ p h a ho b h1 d)
  have e3 : EnvR G0 H0 cp G (upd H p o) σ (ρ.set i .dead) c := by
    refine ⟨e2.gr.write hb hg, e2.c0, e2.len, fun j o s a b => ?_, e2.ap⟩
    have z := e2.sl j o s a b
    cases s with
    | dead => trivial
    | dat d => exact z
    | own ys =>
      obtain ⟨q, vs', e1, b1, g1, e3, r⟩ := z
      subst e1
      refine ⟨q, vs', rfl, b1, g1, ?_, r⟩
      rw [upd_ne (fun z => notp j _ b rfl (by rw [a, z]))]
      exact e3
    | odk ys =>
      obtain ⟨q, vs', e1, b1, g1, e3, r⟩ := z
      subst e1
      refine ⟨q, vs', rfl, b1, g1, ?_, r⟩
      rw [upd_ne (fun z => notp j _ b rfl (by rw [a, z]))]
      exact e3
    | cup => exact z
  have e4 := e3.set i (o := some (.ref p)) (s := s) hs fun _ q j sj eq a b d => by
    cases eq
    exact absurd d (notp j sj a b)
  rw [list_set_self h1, List.set_set] at e4
  exact e4
/-- the cup is written -/
theorem EnvR.pour {x : Int × Int} (e : EnvR G0 H0 cp G H σ ρ (some x)) (y : Int × Int) : EnvR G0 H0 cp G (upd H cp (cupO y)) σ ρ (some y) := by
  have hg := e.cupG
  have bne : ∀ a, a ≠ cp → bs H0 cp (some y) a = bs H0 cp (some x) a := fun a z => by
    show upd _ _ _ _ = upd _ _ _ _
    rw [upd_ne z, upd_ne z]
  refine ⟨⟨e.gr.g, fun a u q => ?_, fun a u q => ?_, fun a u q1 q2 => ?_⟩, fun _ => e.c0 (by simp), e.len, fun i o s a b => ?_, e.ap⟩
  · by_cases z : a = cp
    · subst z
      rw [show bs H0 a (some y) a = some (cupO y) from upd_same] at q
      rw [upd_same]
      exact q
    · rw [bne a z] at q
      rw [upd_ne z]
      exact e.gr.h a u q
  · by_cases z : a = cp
    · subst z
      rw [hg] at q
      cases q
    · rw [upd_ne z]
      exact e.gr.s a u q
  · by_cases z : a = cp
    · subst z
      exact hg
    · rw [bne a z] at q1
      exact e.gr.fr a u q1 q2
  · have z := e.sl i o s a b
    have nb : ∀ q, bs H0 cp (some x) q = none → q ≠ cp ∧ bs H0 cp (some y) q = none := fun q hq => by
      have ne : q ≠ cp := fun w => by
        subst w
        rw [show bs H0 q (some x) q = some (cupO x) from upd_same] at hq
        cases hq
      exact ⟨ne, by rw [bne q ne]; exact hq⟩
    cases s with
    | dead => trivial
    | dat d => exact z
    | own ys =>
      obtain ⟨q, vs', e1, b1, g1, e3, r⟩ := z
      obtain ⟨n1, n2⟩ := nb q b1
      exact ⟨q, vs', e1, n2, g1, by rw [upd_ne n1]; exact e3, r⟩
    | odk ys =>
      obtain ⟨q, vs', e1, b1, g1, e3, r⟩ := z
      obtain ⟨n1, n2⟩ := nb q b1
      exact ⟨q, vs', e1, n2, g1, by rw [upd_ne n1]; exact e3, r⟩
    | cup => exact z
/-- behind a call that pours -/
theorem EnvR.poured {x y : Int × Int} (e : EnvR G0 H0 cp G H σ ρ (some x)) (g : Gr G (upd H cp (cupO y)) G' H') : EnvR G0 H0 cp G' H' σ ρ (some y) := (e.pour y).mono g
end
end PL

namespace PL
open PySem L2

/-! ### judgements of expressions -/
/-- a value that stands for d in this state: settled, or the object of an own slot -/
def Hnd (G : Hp) (σ : L2.St) (ρ : List Sl) (v : V) (d : D) : Prop := Rep G v d ∨ ∃ (i : Nat) (xs : List D), d = .lst xs ∧ ρ[i]? = some (.own xs) ∧ σ[i]? = some (some v)
def Ev (te : TE) (ρ : List Sl) (c : Cup) (d : D) (c' : Cup) : Prop :=
  ∀ (G0 H0 : Hp) (cp : Addr) (G H : Hp) (σ : L2.St), EnvR G0 H0 cp G H σ ρ c → ∀ Q : VK, (∀ v G' H', EnvR G0 H0 cp G' H' σ ρ c' → Same G G' → Rep G' v d → Q v H') → te σ H Q
def Eb (te : TE) (ρ : List Sl) (c : Cup) (d : D) (c' : Cup) : Prop :=
  ∀ (G0 H0 : Hp) (cp : Addr) (G H : Hp) (σ : L2.St), EnvR G0 H0 cp G H σ ρ c → ∀ Q : VK, (∀ v G' H', EnvR G0 H0 cp G' H' σ ρ c' → Same G G' → Hnd G' σ ρ v d → Q v H') → te σ H Q
def EvT (tt : TT) (ρ : List Sl) (c : Cup) (b : Bool) (c' : Cup) : Prop :=
  ∀ (G0 H0 : Hp) (cp : Addr) (G H : Hp) (σ : L2.St), EnvR G0 H0 cp G H σ ρ c → ∀ Q : Bool → Hp → Prop, (∀ G' H', EnvR G0 H0 cp G' H' σ ρ c' → Same G G' → Q b H') → tt σ H Q
def EvA (ta : TA) (ρ : List Sl) (c : Cup) (ds : List D) (c' : Cup) : Prop :=
  ∀ (G0 H0 : Hp) (cp : Addr) (G H : Hp) (σ : L2.St), EnvR G0 H0 cp G H σ ρ c → ∀ Q : List V → Hp → Prop, (∀ vs G' H', EnvR G0 H0 cp G' H' σ ρ c' → Same G G' → Reps G' vs ds → Q vs H') → ta σ H Q
/-- argument lists of built-ins: handles -/
def Hnds (G : Hp) (σ : L2.St) (ρ : List Sl) : List V → List D → Prop
  | [], [] => True
  | v :: vs, d :: ds => Hnd G σ ρ v d ∧ Hnds G σ ρ vs ds
  | _, _ => False
def EbA (ta : TA) (ρ : List Sl) (c : Cup) (ds : List D) (c' : Cup) : Prop :=
  ∀ (G0 H0 : Hp) (cp : Addr) (G H : Hp) (σ : L2.St), EnvR G0 H0 cp G H σ ρ c → ∀ Q : List V → Hp → Prop, (∀ vs G' H', EnvR G0 H0 cp G' H' σ ρ c' → Same G G' → Hnds G' σ ρ vs ds → Q vs H') → ta σ H Q
/-- a new list of one's own -/
structure New (G : Hp) (H : Hp) (σ : L2.St) (ρ : List Sl) (B : Hp) (p : Addr) (o : HO) : Prop where
  b : B p = none
  g : G p = none
  h : H p = some o
  n : ∀ (i : Nat) (s : Sl), ρ[i]? = some s → s.isOwn = true → σ[i]? ≠ some (some (.ref p))
def EvN (te : TE) (ρ : List Sl) (c : Cup) (xs : List D) (c' : Cup) : Prop :=
  ∀ (G0 H0 : Hp) (cp : Addr) (G H : Hp) (σ : L2.St), EnvR G0 H0 cp G H σ ρ c → ∀ Q : VK, (∀ p vs G' H', EnvR G0 H0 cp G' H' σ ρ c' → Same G G' → New G' H' σ ρ (bs H0 cp c') p (.lst vs) → Reps G' vs xs → Q (.ref p) H') → te σ H Q
def EvK (te : TE) (ρ : List Sl) (c : Cup) (kvs : List (Key × D)) (c' : Cup) : Prop :=
  ∀ (G0 H0 : Hp) (cp : Addr) (G H : Hp) (σ : L2.St), EnvR G0 H0 cp G H σ ρ c → ∀ Q : VK, (∀ p vs G' H', EnvR G0 H0 cp G' H' σ ρ c' → Same G G' → New G' H' σ ρ (bs H0 cp c') p (.dK vs) → RepK G' vs kvs → Q (.ref p) H') → te σ H Q

section
variable {G0 H0 G H G' H' : Hp} {cp : Addr} {σ : L2.St} {ρ : List Sl} {c c1 c2 c3 c' : Cup} {te ta tb : TE} {t u : TT} {d d1 d2 : D}
theorem Hnd.mono (s : Same G G') {v : V} (h : Hnd G σ ρ v d) : Hnd G' σ ρ v d := by
  rcases h with h | h
  · exact .inl (h.mono s)
  · exact .inr h
theorem Hnds.mono (s : Same G G') : ∀ {vs : List V} {ds : List D}, Hnds G σ ρ vs ds → Hnds G' σ ρ vs ds
  | [], [], _ => trivial
  | _ :: _, _ :: _, h => ⟨h.1.mono s, h.2.mono s⟩
  | [], _ :: _, h => h.elim
  | _ :: _, [], h => h.elim
theorem Reps.hnds : ∀ {vs : List V} {ds : List D}, Reps G vs ds → Hnds G σ ρ vs ds
  | _, _, .nil => trivial
  | _, _, .cons h t => ⟨.inl h, Reps.hnds t⟩
theorem Ev.b (h : Ev te ρ c d c') : Eb te ρ c d c' := fun G0 H0 cp G H σ e Q q => h G0 H0 cp G H σ e Q fun v G' H' e' s r => q v G' H' e' s (.inl r)
theorem EvA.b {tl : TA} {ds : List D} (h : EvA tl ρ c ds c') : EbA tl ρ c ds c' := fun G0 H0 cp G H σ e Q q => h G0 H0 cp G H σ e Q fun v G' H' e' s r => q v G' H' e' s r.hnds
/-- what a handle of a list shows -/
theorem Hnd.list {v : V} {xs : List D} (h : Hnd G σ ρ v (.lst xs)) (e : EnvR G0 H0 cp G H σ ρ c) : ∃ p vs, v = .ref p ∧ H p = some (.lst vs) ∧ Reps G vs xs := by
  rcases h with h | ⟨i, ys, e1, e2, e3⟩
  · cases h with
    | lst h r => exact ⟨_, _, rfl, e.gr.s _ _ h, r⟩
  · cases e1
    obtain ⟨p, vs, h1, _, _, h4, h5⟩ := e.own e2
    rw [e3] at h1
    cases h1
    exact ⟨p, vs, rfl, h4, h5⟩
theorem Hnd.tup {v : V} {xs : List D} (h : Hnd G σ ρ v (.tup xs)) (e : EnvR G0 H0 cp G H σ ρ c) : ∃ p vs, v = .ref p ∧ H p = some (.tup vs) ∧ Reps G vs xs := by
  rcases h with h | ⟨i, ys, e1, e2, e3⟩
  · cases h with
    | tup h r => exact ⟨_, _, rfl, e.gr.s _ _ h, r⟩
  · cases e1
theorem Hnd.int {v : V} {i : Int} (h : Hnd G σ ρ v (.int i)) : v = .int i := by
  rcases h with h | ⟨j, ys, e1, _⟩
  · cases h; rfl
  · cases e1
theorem Hnd.bl {v : V} {i : Bool} (h : Hnd G σ ρ v (.bl i)) : v = .bl i := by
  rcases h with h | ⟨j, ys, e1, _⟩
  · cases h; rfl
  · cases e1
theorem Hnd.non {v : V} (h : Hnd G σ ρ v .non) : v = .non := by
  rcases h with h | ⟨j, ys, e1, _⟩
  · cases h; rfl
  · cases e1
theorem Hnd.str {v : V} {x : Str} (h : Hnd G σ ρ v (.str x)) : v = .str x := by
  rcases h with h | ⟨j, ys, e1, _⟩
  · cases h; rfl
  · cases e1
theorem Hnd.scr {v : V} {K : PySem.W.Frag} {ns : List Int} (h : Hnd G σ ρ v (.scr K ns)) : ∃ p, v = .ref p ∧ SqL K G p (ns.map V.int) := by
  rcases h with h | ⟨i, xs, e, _⟩
  · cases h with
    | scr h => exact ⟨_, rfl, h⟩
  · cases e
theorem Hnd.opv {v w : V} (h : Hnd G σ ρ v (.op w)) : v = w := by
  rcases h with h | ⟨j, ys, e1, _⟩
  · cases h; rfl
  · cases e1

/-- a new object is settled at once -/
theorem EnvR.newIn (e : EnvR G0 H0 cp G H σ ρ c) {p : Addr} (o : HO) (h : H p = none) : EnvR G0 H0 cp (upd G p o) (upd H p o) σ ρ c := e.mono (Gr.new e.gr.s h)
theorem EnvR.newOwn (e : EnvR G0 H0 cp G H σ ρ c) {p : Addr} (o : HO) (h : H p = none) : EnvR G0 H0 cp G (upd H p o) σ ρ c := e.mono (Gr.own e.gr.s h)
theorem EnvR.newFor (e : EnvR G0 H0 cp G H σ ρ c) {p : Addr} (o : HO) (h : H p = none) : New G (upd H p o) σ ρ (bs H0 cp c) p o := by
  refine ⟨Same.free e.gr.h h, Same.free e.gr.s h, upd_same, fun i s a b d => ?_⟩
  cases s with
  | own xs =>
    obtain ⟨q, vs, h1, _, _, h4, _⟩ := e.own a
    rw [d] at h1
    cases h1
    rw [h] at h4
    cases h4
  | odk xs =>
    obtain ⟨q, vs, h1, _, _, h4, _⟩ := e.odk a
    rw [d] at h1
    cases h1
    rw [h] at h4
    cases h4
  | _ => cases b
/-- .. is settled later -/
theorem New.settle (n : New G H σ ρ (bs H0 cp c) p o) (e : EnvR G0 H0 cp G H σ ρ c) : EnvR G0 H0 cp (upd G p o) H σ ρ c := by
  have sm : Same G (upd G p o) := same_new n.g
  refine ⟨e.gr.settle n.h n.b n.g, e.c0, e.len, fun j o' s a b => ?_, e.ap⟩
  have z := e.sl j o' s a b
  cases s with
  | dead => trivial
  | dat d => obtain ⟨v, q, r⟩ := z; exact ⟨v, q, r.mono sm⟩
  | own ys =>
    obtain ⟨q, vs', e1, b1, g1, e3, r⟩ := z
    subst e1
    refine ⟨q, vs', rfl, b1, ?_, e3, r.mono sm⟩
    rw [upd_ne (fun z => n.n j _ b rfl (by rw [a, z]))]
    exact g1
  | odk ys =>
    obtain ⟨q, vs', e1, b1, g1, e3, r⟩ := z
    subst e1
    refine ⟨q, vs', rfl, b1, ?_, e3, r.mono sm⟩
    rw [upd_ne (fun z => n.n j _ b rfl (by rw [a, z]))]
    exact g1
  | cup => exact z
theorem EvN.ev {xs : List D} (h : EvN te ρ c xs c') : Ev te ρ c (.lst xs) c' := fun G0 H0 cp G H σ e Q q => h G0 H0 cp G H σ e Q fun p vs G' H' e' s n r =>
  have sm : Same G' (upd G' p (.lst vs)) := same_new n.g
  q (.ref p) (upd G' p (.lst vs)) H' (n.settle e') (s.trans sm) (.lst upd_same (r.mono sm))

/-! ### names and constants -/
theorem ev_var {i : Nat} (h : ρ[i]? = some (.dat d)) : Ev (tVar i) ρ c d c := fun G0 H0 cp G H σ e Q q => by
  obtain ⟨v, h1, r⟩ := e.dat h
  exact ⟨v, h1, q v G H e (Same.refl _) r⟩
theorem eb_own {i : Nat} {xs : List D} (h : ρ[i]? = some (.own xs)) : Eb (tVar i) ρ c (.lst xs) c := fun G0 H0 cp G H σ e Q q => by
  obtain ⟨p, vs, h1, _⟩ := e.own h
  exact ⟨.ref p, h1, q _ G H e (Same.refl _) (.inr ⟨i, xs, rfl, h, h1⟩)⟩
theorem ev_int {i : Int} : Ev (tC (.int i)) ρ c (.int i) c := fun G0 H0 cp G H σ e Q q => q _ G H e (Same.refl _) (.int i)
theorem ev_bl {b : Bool} : Ev (tC (.bl b)) ρ c (.bl b) c := fun G0 H0 cp G H σ e Q q => q _ G H e (Same.refl _) (.bl b)
theorem ev_non : Ev (tC .non) ρ c .non c := fun G0 H0 cp G H σ e Q q => q _ G H e (Same.refl _) .non
theorem ev_str {x : Str} : Ev (tC (.str x)) ρ c (.str x) c := fun G0 H0 cp G H σ e Q q => q _ G H e (Same.refl _) (.str x)
theorem ev_op {v : V} : Ev (tC v) ρ c (.op v) c := fun G0 H0 cp G H σ e Q q => q _ G H e (Same.refl _) (.op v)

/-! ### operators, by handles -/
/-- a two-place operation on handles gives d -/
def RO (r : R2) (ρ : List Sl) (c : Cup) (d1 d2 d : D) : Prop := ∀ (G0 H0 : Hp) (cp : Addr) (G H : Hp) (σ : L2.St) (v w : V), EnvR G0 H0 cp G H σ ρ c → Hnd G σ ρ v d1 → Hnd G σ ρ w d2 →
  ∀ Q : VK, (∀ z G' H', EnvR G0 H0 cp G' H' σ ρ c → Same G G' → Rep G' z d → Q z H') → r v w H Q
def RON (r : R2) (ρ : List Sl) (c : Cup) (d1 d2 : D) (xs : List D) : Prop := ∀ (G0 H0 : Hp) (cp : Addr) (G H : Hp) (σ : L2.St) (v w : V), EnvR G0 H0 cp G H σ ρ c → Hnd G σ ρ v d1 → Hnd G σ ρ w d2 →
  ∀ Q : VK, (∀ p vs G' H', EnvR G0 H0 cp G' H' σ ρ c → Same G G' → New G' H' σ ρ (bs H0 cp c) p (.lst vs) → Reps G' vs xs → Q (.ref p) H') → r v w H Q
theorem ev_bin {r : R2} (ha : Eb ta ρ c d1 c1) (hb : Eb tb ρ c1 d2 c2) (hr : RO r ρ c2 d1 d2 d) : Ev (tOp r ta tb) ρ c d c2 := fun G0 H0 cp G H σ e Q q =>
  ha G0 H0 cp G H σ e _ fun v G1 H1 e1 s1 h1 => hb G0 H0 cp G1 H1 σ e1 _ fun w G2 H2 e2 s2 h2 => hr G0 H0 cp G2 H2 σ v w e2 (h1.mono s2) h2 Q fun z G3 H3 e3 s3 r3 => q z G3 H3 e3 (s1.trans (s2.trans s3)) r3
theorem en_bin {r : R2} {xs : List D} (ha : Eb ta ρ c d1 c1) (hb : Eb tb ρ c1 d2 c2) (hr : RON r ρ c2 d1 d2 xs) : EvN (tOp r ta tb) ρ c xs c2 := fun G0 H0 cp G H σ e Q q =>
  ha G0 H0 cp G H σ e _ fun v G1 H1 e1 s1 h1 => hb G0 H0 cp G1 H1 σ e1 _ fun w G2 H2 e2 s2 h2 => hr G0 H0 cp G2 H2 σ v w e2 (h1.mono s2) h2 Q fun p vs G3 H3 e3 s3 n r3 => q p vs G3 H3 e3 (s1.trans (s2.trans s3)) n r3
theorem RON.ro {r : R2} {xs : List D} (h : RON r ρ c d1 d2 xs) : RO r ρ c d1 d2 (.lst xs) := fun G0 H0 cp G H σ v w e h1 h2 Q q => h G0 H0 cp G H σ v w e h1 h2 Q fun p vs G' H' e' s n r =>
  have sm : Same G' (upd G' p (.lst vs)) := same_new n.g
  q (.ref p) (upd G' p (.lst vs)) H' (n.settle e') (s.trans sm) (.lst upd_same (r.mono sm))
theorem ro_I0 {g : Int → Int → Int} {i j : Int} : RO (rI0 fun i j => .int (g i j)) ρ c (.int i) (.int j) (.int (g i j)) := fun G0 H0 cp G H σ v w e h1 h2 Q q => by
  rw [h1.int, h2.int]
  exact ⟨i, j, rfl, rfl, q _ G H e (Same.refl _) (.int _)⟩
theorem ro_B0 {g : Int → Int → Bool} {i j : Int} : RO (rI0 fun i j => .bl (g i j)) ρ c (.int i) (.int j) (.bl (g i j)) := fun G0 H0 cp G H σ v w e h1 h2 Q q => by
  rw [h1.int, h2.int]
  exact ⟨i, j, rfl, rfl, q _ G H e (Same.refl _) (.bl _)⟩
theorem ro_I {C : Int → Int → Prop} {g : Int → Int → Int} {i j : Int} (hc : C i j) : RO (rI C fun i j => .int (g i j)) ρ c (.int i) (.int j) (.int (g i j)) := fun G0 H0 cp G H σ v w e h1 h2 Q q => by
  rw [h1.int, h2.int]
  exact ⟨i, j, rfl, rfl, hc, q _ G H e (Same.refl _) (.int _)⟩
theorem RO.inl {r r' : R2} (h : RO r ρ c d1 d2 d) : RO (fun x y H Q => r x y H Q ∨ r' x y H Q) ρ c d1 d2 d := fun G0 H0 cp G H σ v w e h1 h2 Q q => .inl (h G0 H0 cp G H σ v w e h1 h2 Q q)
theorem RO.inr {r r' : R2} (h : RO r' ρ c d1 d2 d) : RO (fun x y H Q => r x y H Q ∨ r' x y H Q) ρ c d1 d2 d := fun G0 H0 cp G H σ v w e h1 h2 Q q => .inr (h G0 H0 cp G H σ v w e h1 h2 Q q)
theorem RON.inl {r r' : R2} {xs : List D} (h : RON r ρ c d1 d2 xs) : RON (fun x y H Q => r x y H Q ∨ r' x y H Q) ρ c d1 d2 xs := fun G0 H0 cp G H σ v w e h1 h2 Q q => .inl (h G0 H0 cp G H σ v w e h1 h2 Q q)
theorem RON.inr {r r' : R2} {xs : List D} (h : RON r' ρ c d1 d2 xs) : RON (fun x y H Q => r x y H Q ∨ r' x y H Q) ρ c d1 d2 xs := fun G0 H0 cp G H σ v w e h1 h2 Q q => .inr (h G0 H0 cp G H σ v w e h1 h2 Q q)
end

/-! ### the operators of the terms: one for each sign, whatever stands at its sides -/
section
variable {X : Cx}
def rAdd (K : PySem.W.Frag) : R2 := fun x y H Q => (rI0 fun i j => .int (i + j)) x y H Q ∨ ((fun x y H Q => rCat x y H Q ∨ rCatA K x y H Q) x y H Q)
theorem op_addP : OpR X (binaryOp .Add) (rAdd X.K) := op_add.or (op_cat.or op_catA)
/-- a product that is small enough, or has one small factor -/
def CM (i j : Int) : Prop := CMulW i j ∨ CMul i j
theorem op_mulCM : OpR X (binaryOp .Mult) (rI CM fun i j => .int (i * j)) := by
  intro pins s σ H x y v u Q I rx ry h
  obtain ⟨i, j, e1, e2, hc, q⟩ := h
  rcases hc with hc | hc
  · exact op_mulW pins s σ H x y v u Q I rx ry ⟨i, j, e1, e2, hc, q⟩
  · exact op_mul pins s σ H x y v u Q I rx ry ⟨i, j, e1, e2, hc, q⟩
def rMul (K : PySem.W.Frag) : R2 := fun x y H Q => (rI CM fun i j => .int (i * j)) x y H Q ∨ ((fun x y H Q => rRep x y H Q ∨ rRepT K x y H Q) x y H Q)
theorem op_mulP : OpR X (binaryOp .Mult) (rMul X.K) := op_mulCM.or (op_rep.or op_repT)
end
section
variable {K : PySem.W.Frag} {G0 H0 G H G' H' : Hp} {cp : Addr} {σ : L2.St} {ρ : List Sl} {c c1 c2 c3 c' : Cup} {te ta tb : TE} {t u : TT} {d d1 d2 : D} {i j : Int}
theorem ro_add : RO (rAdd K) ρ c (.int i) (.int j) (.int (i + j)) := RO.inl ro_I0
theorem ro_sub : RO (rI0 fun i j => .int (i - j)) ρ c (.int i) (.int j) (.int (i - j)) := ro_I0
theorem ro_mul (h : CM i j) : RO (rMul K) ρ c (.int i) (.int j) (.int (i * j)) := RO.inl (ro_I h)
/-- written bounds are enough -/
theorem log2_small {n : Nat} (h : n ≤ 10 ^ 300) : n.log2 < 1000 := by
  by_cases z : n = 0
  · subst z; decide
  · refine (Nat.log2_lt z).mpr (Nat.lt_of_le_of_lt h ?_)
    decide +kernel
theorem cm_of {i j : Int} (h1 : -10 ^ 300 ≤ i) (h2 : i ≤ 10 ^ 300) (h3 : -10 ^ 300 ≤ j) (h4 : j ≤ 10 ^ 300) : CM i j := by
  have a : i.natAbs ≤ 10 ^ 300 := by omega
  have b : j.natAbs ≤ 10 ^ 300 := by omega
  have := log2_small a
  have := log2_small b
  exact .inl (show _ + _ < _ by omega)
theorem cdiv_of {i j : Int} (h3 : 0 < j) (h4 : j ≤ 10 ^ 300) : CDivW i j := by
  have b : j.natAbs ≤ 10 ^ 300 := by omega
  have := log2_small b
  exact ⟨h3, by omega⟩
theorem ro_fdiv (h : CDivW i j) : RO (rI CDivW fun i j => .int (i / j)) ρ c (.int i) (.int j) (.int (i / j)) := ro_I h
theorem ro_mod (h : 0 < j) : RO (rI (fun _ j => 0 < j) fun i j => .int (i % j)) ρ c (.int i) (.int j) (.int (i % j)) := ro_I (C := fun _ j => 0 < j) h
theorem ron_cat {xs ys : List D} (h : xs.length + ys.length ≤ sizeLine) : RON (rAdd K) ρ c (.lst xs) (.lst ys) (xs ++ ys) := RON.inr (RON.inl fun G0 H0 cp G H σ v w e h1 h2 Q q => by
  obtain ⟨p, vs, rfl, hp, r1⟩ := h1.list e
  obtain ⟨p2, ws, rfl, hp2, r2⟩ := h2.list e
  refine ⟨p, p2, vs, ws, rfl, rfl, hp, hp2, by rw [r1.length, r2.length]; exact h, fun z hz => ?_⟩
  exact q z _ G _ (e.newOwn _ hz) (Same.refl _) (e.newFor _ hz) (r1.append r2))
theorem ro_catT {xs ys : List D} (h : xs.length + ys.length ≤ sizeLine) : RO (rAdd K) ρ c (.tup xs) (.tup ys) (.tup (xs ++ ys)) := RO.inr (RO.inr fun G0 H0 cp G H σ v w e h1 h2 Q q => by
  have g1 : Rep G v (.tup xs) := h1.elim id fun ⟨_, _, z, _⟩ => by cases z
  have g2 : Rep G w (.tup ys) := h2.elim id fun ⟨_, _, z, _⟩ => by cases z
  obtain ⟨p, vs, rfl, hp, r1⟩ := h1.tup e
  obtain ⟨p2, ws, rfl, hp2, r2⟩ := h2.tup e
  refine ⟨p, p2, vs, ws, rfl, rfl, SqT.of hp, SqT.of hp2, by rw [r1.length, r2.length]; exact h, fun z => ?_, fun _ z => ?_, fun _ _ z hz => ?_⟩
  · subst z
    cases r1
    exact q _ G H e (Same.refl _) g2
  · subst z
    cases r2
    exact q _ G H e (Same.refl _) (by rw [List.append_nil]; exact g1)
  · have sm : Same G (upd G z (.tup (vs ++ ws))) := same_new (Same.free e.gr.s hz)
    exact q _ (upd G z (.tup (vs ++ ws))) _ (e.newIn _ hz) sm (.tup upd_same ((r1.append r2).mono sm)))
theorem ron_rep {xs : List D} {k : Int} (h1 : -(2 ^ 63) ≤ k) (h2 : k < 2 ^ 63) (h : xs.length * k.toNat ≤ sizeLine) : RON (rMul K) ρ c (.lst xs) (.int k) (List.replicate k.toNat xs).flatten := RON.inr (RON.inl fun G0 H0 cp G H σ v w e g1 g2 Q q => by
  obtain ⟨p, vs, rfl, hp, r1⟩ := g1.list e
  rw [g2.int]
  refine ⟨p, k, vs, rfl, rfl, hp, h1, h2, by rw [r1.length]; exact h, fun z hz => ?_⟩
  exact q z _ G _ (e.newOwn _ hz) (Same.refl _) (e.newFor _ hz) (r1.replicate _))
theorem ro_lt : RO (rI0 fun i j => .bl (decide (i < j))) ρ c (.int i) (.int j) (.bl (decide (i < j))) := ro_B0
theorem ro_le : RO (rI0 fun i j => .bl (decide (i ≤ j))) ρ c (.int i) (.int j) (.bl (decide (i ≤ j))) := ro_B0
theorem ro_gt : RO (rI0 fun i j => .bl (decide (j < i))) ρ c (.int i) (.int j) (.bl (decide (j < i))) := ro_B0
theorem ro_ge : RO (rI0 fun i j => .bl (decide (j ≤ i))) ρ c (.int i) (.int j) (.bl (decide (j ≤ i))) := ro_B0

/-! ### == and != of data -/
mutual
def D.py : D → PyData
  | .non => .none
  | .bl b => .bool b
  | .int i => .int i
  | .str x => .str x
  | .tup xs => .tuple (D.pys xs)
  | .lst xs => .list (D.pys xs)
  | .op _ => .none
  | .scr _ _ => .none
def D.pys : List D → List PyData
  | [] => []
  | x :: xs => D.py x :: D.pys xs
end
mutual
/-- plain data, at most n deep -/
def D.ok : D → Nat → Bool
  | .tup xs, n => (match n with | 0 => false | n + 1 => D.oks xs n)
  | .lst xs, n => (match n with | 0 => false | n + 1 => D.oks xs n)
  | .non, _ => true
  | .bl _, _ => true
  | .int _, _ => true
  | .str x, _ => x.cps.all (· < 0x110000)
  | .op _, _ => false
  | .scr _ _, _ => false
def D.oks : List D → Nat → Bool
  | [], _ => true
  | x :: xs, n => D.ok x n && D.oks xs n
end
mutual
theorem D.ok_lay : ∀ (d : D) (n : Nat), D.ok d n = true → PyData.canLay0 (D.py d) = true ∧ PyData.depth (D.py d) ≤ n
  | .non, n, _ => ⟨rfl, Nat.zero_le _⟩
  | .bl _, n, _ => ⟨rfl, Nat.zero_le _⟩
  | .int _, n, _ => ⟨rfl, Nat.zero_le _⟩
  | .str x, n, h => ⟨by simpa [D.ok, D.py, PyData.canLay0, PyData.strOk] using h, Nat.zero_le _⟩
  | .op _, n, h => by simp [D.ok] at h
  | .scr _ _, n, h => by simp [D.ok] at h
  | .tup xs, 0, h => by simp [D.ok] at h
  | .lst xs, 0, h => by simp [D.ok] at h
  | .tup xs, n + 1, h => by
    obtain ⟨h1, h2⟩ := D.oks_lay xs n (by simpa [D.ok] using h)
    exact ⟨by simpa [D.py, PyData.canLay0] using h1, by simpa [D.py, PyData.depth] using h2⟩
  | .lst xs, n + 1, h => by
    obtain ⟨h1, h2⟩ := D.oks_lay xs n (by simpa [D.ok] using h)
    exact ⟨by simpa [D.py, PyData.canLay0] using h1, by simpa [D.py, PyData.depth] using h2⟩
theorem D.oks_lay : ∀ (ds : List D) (n : Nat), D.oks ds n = true → PyData.canLayAll0 (D.pys ds) = true ∧ PyData.depthAll (D.pys ds) ≤ n
  | [], n, _ => ⟨rfl, Nat.zero_le _⟩
  | x :: xs, n, h => by
    have h' : D.ok x n = true ∧ D.oks xs n = true := by simpa [D.oks] using h
    obtain ⟨a1, a2⟩ := D.ok_lay x n h'.1
    obtain ⟨b1, b2⟩ := D.oks_lay xs n h'.2
    refine ⟨by simp [D.pys, PyData.canLayAll0, a1, b1], ?_⟩
    simp only [D.pys, PyData.depthAll]
    omega
end
theorem D.shaped {d : D} (h : D.ok d 64 = true) : SeqAt.shaped (D.py d) = true := by
  obtain ⟨h1, h2⟩ := D.ok_lay d 64 h
  unfold SeqAt.shaped
  rw [h1, Bool.true_and]
  exact decide_eq_true h2
mutual
theorem Rep.dp {G H : Hp} (s : Same G H) : ∀ {v : V} {d : D} {n : Nat}, Rep G v d → D.ok d n = true → Dp K H v (D.py d)
  | _, _, _, .non, _ => .non
  | _, _, _, .bl b, _ => .bl b
  | _, _, _, .int i, _ => .int i
  | _, _, _, .str x, _ => .str x
  | _, _, 0, .tup h r, o => by simp [D.ok] at o
  | _, _, n + 1, .tup h r, o => .tup (SqT.of (s _ _ h)) (Reps.dp (n := n) s r (by simpa [D.ok] using o))
  | _, _, 0, .lst h r, o => by simp [D.ok] at o
  | _, _, n + 1, .lst h r, o => .lst (SqL.of (s _ _ h)) (Reps.dp (n := n) s r (by simpa [D.ok] using o))
  | _, _, _, .op v, o => by simp [D.ok] at o
  | _, _, _, .scr _, o => by simp [D.ok] at o
theorem Reps.dp {G H : Hp} (s : Same G H) : ∀ {vs : List V} {ds : List D} {n : Nat}, Reps G vs ds → D.oks ds n = true → DpAll K H vs (D.pys ds)
  | _, _, _, .nil, _ => .nil
  | _, _, _, .cons h t, o => by
    simp only [D.oks, Bool.and_eq_true] at o
    exact .cons (Rep.dp s h o.1) (Reps.dp s t o.2)
end
theorem Hnd.dp {v : V} {n : Nat} (h : Hnd G σ ρ v d) (e : EnvR G0 H0 cp G H σ ρ c) (o : D.ok d n = true) : Dp K H v (D.py d) := by
  rcases id h with g | ⟨i, xs, e1, e2, e3⟩
  · exact g.dp e.gr.s o
  · subst e1
    obtain ⟨p, vs, rfl, hp, r⟩ := h.list e
    cases n with
    | zero => simp [D.ok] at o
    | succ n => exact .lst (SqL.of hp) (r.dp (n := n) e.gr.s (by simpa [D.ok] using o))
/-- == as Python has it -/
def D.eqv (a b : D) : Bool := PyData.eqv (D.py a) (D.py b)
theorem ro_eq (h1 : D.ok d1 64 = true) (h2 : D.ok d2 64 = true) : RO (rEqD K) ρ c d1 d2 (.bl (D.eqv d1 d2)) := fun G0 H0 cp G H σ v w e g1 g2 Q q =>
  ⟨_, _, g1.dp e h1, g2.dp e h2, D.shaped h1, D.shaped h2, q _ G H e (Same.refl _) (.bl _)⟩
theorem ro_ne (h1 : D.ok d1 64 = true) (h2 : D.ok d2 64 = true) : RO (rNeD K) ρ c d1 d2 (.bl (!D.eqv d1 d2)) := fun G0 H0 cp G H σ v w e g1 g2 Q q =>
  ⟨_, _, g1.dp e h1, g2.dp e h2, D.shaped h1, D.shaped h2, q _ G H e (Same.refl _) (.bl _)⟩
theorem ro_eqI : RO (rEqD K) ρ c (.int i) (.int j) (.bl (decide (i = j))) := by
  have h : D.eqv (.int i) (.int j) = decide (i = j) := by
    show (i == j) = decide (i = j)
    exact Bool.beq_eq_decide_eq i j
  have := ro_eq (K := K) (ρ := ρ) (c := c) (d1 := .int i) (d2 := .int j) rfl rfl
  rw [h] at this
  exact this
theorem ro_neI : RO (rNeD K) ρ c (.int i) (.int j) (.bl (!decide (i = j))) := by
  have h : D.eqv (.int i) (.int j) = decide (i = j) := by
    show (i == j) = decide (i = j)
    exact Bool.beq_eq_decide_eq i j
  have := ro_ne (K := K) (ρ := ρ) (c := c) (d1 := .int i) (d2 := .int j) rfl rfl
  rw [h] at this
  exact this
/-- is None -/
def rIsN1 : R2 := fun x y H Q => y = .non ∧ Q (.bl (decide (x = .non))) H
def rNotN1 : R2 := fun x y H Q => y = .non ∧ Q (.bl (!decide (x = .non))) H
theorem op_isNP {X : Cx} : OpR X (compareOp .Is) rIsN1 := op_isN
theorem op_notNP {X : Cx} : OpR X (compareOp .IsNot) rNotN1 := op_notN
def D.isNon : D → Bool
  | .non => true
  | .op v => decide (v = .non)
  | _ => false
theorem Hnd.isNon {v : V} (h : Hnd G σ ρ v d) (e : EnvR G0 H0 cp G H σ ρ c) : decide (v = .non) = d.isNon := by
  cases d with
  | non => rw [h.non]; rfl
  | bl b => rw [h.bl]; rfl
  | int b => rw [h.int]; rfl
  | str b => rw [h.str]; rfl
  | tup xs => obtain ⟨p, vs, rfl, _⟩ := h.tup e; rfl
  | lst xs => obtain ⟨p, vs, rfl, _⟩ := h.list e; rfl
  | op w => rw [h.opv]; rfl
  | scr K ns => obtain ⟨p, rfl, _⟩ := h.scr; rfl
theorem ro_isN : RO rIsN1 ρ c d .non (.bl d.isNon) := fun G0 H0 cp G H σ v w e h1 h2 Q q => by
  rw [h2.non]
  refine ⟨rfl, ?_⟩
  rw [h1.isNon e]
  exact q _ G H e (Same.refl _) (.bl _)
theorem ro_notN : RO rNotN1 ρ c d .non (.bl (!d.isNon)) := fun G0 H0 cp G H σ v w e h1 h2 Q q => by
  rw [h2.non]
  refine ⟨rfl, ?_⟩
  rw [h1.isNon e]
  exact q _ G H e (Same.refl _) (.bl _)

/-! ### places -/
theorem ixN_lt {n : Nat} {i : Int} {j : Nat} (h : ixN n i = some j) : j < n := (ixN_seq h).2.1
theorem atI_len {α β : Type} {xs : List α} {ys : List β} (h : xs.length = ys.length) {i : Int} {x : α} (e : atI xs i = some x) : ∃ j, ixN ys.length i = some j ∧ xs[j]? = some x := by
  unfold atI at e
  rw [h] at e
  cases q : ixN ys.length i with
  | none => rw [q] at e; cases e
  | some j => rw [q] at e; exact ⟨j, rfl, e⟩
theorem Reps.atI {vs : List V} {ds : List D} (r : Reps G vs ds) {i : Int} (e : L2.atI ds i = some d) : ∃ v, L2.atI vs i = some v ∧ Rep G v d := by
  obtain ⟨j, h1, h2⟩ := atI_len r.length.symm e
  obtain ⟨v, h3, h4⟩ := r.get h2
  refine ⟨v, ?_, h4⟩
  unfold L2.atI
  rw [h1]
  exact h3
theorem ro_ixL {xs : List D} (h : atI xs i = some d) : RO (rIx K) ρ c (.lst xs) (.int i) d := RO.inl fun G0 H0 cp G H σ v w e h1 h2 Q q => by
  obtain ⟨p, vs, rfl, hp, r⟩ := h1.list e
  rw [h2.int]
  obtain ⟨z, h3, h4⟩ := r.atI h
  exact ⟨p, vs, i, z, rfl, rfl, SqL.of hp, h3, q z G H e (Same.refl _) h4⟩
theorem ro_ixT {xs : List D} (h : atI xs i = some d) : RO (rIx K) ρ c (.tup xs) (.int i) d := RO.inr (RO.inl fun G0 H0 cp G H σ v w e h1 h2 Q q => by
  obtain ⟨p, vs, rfl, hp, r⟩ := h1.tup e
  rw [h2.int]
  obtain ⟨z, h3, h4⟩ := r.atI h
  exact ⟨p, vs, i, z, rfl, rfl, SqT.of hp, h3, q z G H e (Same.refl _) h4⟩)
/-- the cup's two places -/
theorem ev_cup0 {a b : Int} {k : Nat} (h : ρ[k]? = some .cup) : Ev (tOp (rIx K) (tVar k) (tC (.int 0))) ρ (some (a, b)) (.int a) (some (a, b)) := fun G0 H0 cp G H σ e Q q =>
  ⟨_, e.isCup h, .inl ⟨cp, [.int a, .int b], 0, .int a, rfl, rfl, SqL.of e.cupH, rfl, q _ G H e (Same.refl _) (.int a)⟩⟩
theorem ev_cup1 {a b : Int} {k : Nat} (h : ρ[k]? = some .cup) : Ev (tOp (rIx K) (tVar k) (tC (.int 1))) ρ (some (a, b)) (.int b) (some (a, b)) := fun G0 H0 cp G H σ e Q q =>
  ⟨_, e.isCup h, .inl ⟨cp, [.int a, .int b], 1, .int b, rfl, rfl, SqL.of e.cupH, rfl, q _ G H e (Same.refl _) (.int b)⟩⟩

/-! ### in -/
def D.flat : D → Bool
  | .non => true
  | .bl _ => true
  | .int _ => true
  | .str _ => true
  | _ => false
theorem Hnd.flat {v : V} (h : Hnd G σ ρ v d) (f : d.flat = true) : flatV v = true := by
  cases d with
  | non => rw [h.non]; rfl
  | bl b => rw [h.bl]; rfl
  | int b => rw [h.int]; rfl
  | str b => rw [h.str]; rfl
  | _ => cases f
def D.eqF : D → D → Bool
  | .non, .non => true
  | .bl a, .bl b => a == b
  | .bl a, .int b => (if a then 1 else 0) == b
  | .int a, .bl b => a == (if b then 1 else 0)
  | .int a, .int b => a == b
  | .str a, .str b => a == b
  | _, _ => false
def D.mem (d : D) (xs : List D) : Bool := xs.any fun y => D.eqF y d
theorem eqF_V {v w : V} {a b : D} (h1 : Rep G v a) (h2 : Rep G w b) (f1 : a.flat = true) (f2 : b.flat = true) : eqV v w = D.eqF a b := by
  cases h1 <;> cases h2 <;> first | rfl | exact Bool.noConfusion f1 | exact Bool.noConfusion f2
theorem Hnd.rep_flat {v : V} (h : Hnd G σ ρ v d) (f : d.flat = true) : Rep G v d := by
  rcases h with h | ⟨i, xs, e, _⟩
  · exact h
  · subst e; cases f
theorem reps_flat : ∀ {vs : List V} {ds : List D}, Reps G vs ds → ds.all D.flat = true → vs.all flatV = true
  | _, _, .nil, _ => rfl
  | _, _, .cons h t, f => by
    rw [List.all_cons, Bool.and_eq_true] at f
    rw [List.all_cons, reps_flat t f.2, Bool.and_true]
    exact Hnd.flat (σ := []) (ρ := []) (.inl h) f.1
theorem mem_V {w : V} {b : D} (h2 : Rep G w b) (f2 : b.flat = true) : ∀ {vs : List V} {ds : List D}, Reps G vs ds → ds.all D.flat = true → inV w vs = D.mem b ds
  | _, _, .nil, _ => rfl
  | _, _, .cons h t, f => by
    rw [List.all_cons, Bool.and_eq_true] at f
    have ih := mem_V h2 f2 t f.2
    unfold inV D.mem at ih ⊢
    rw [List.any_cons, List.any_cons, ih, eqF_V h h2 f.1 f2]
theorem ro_inS {neg : Bool} {xs : List D} (hl : d2 = .lst xs ∨ d2 = .tup xs) (f1 : d1.flat = true) (f2 : xs.all D.flat = true) : RO (rIn K neg) ρ c d1 d2 (.bl (if neg then !D.mem d1 xs else D.mem d1 xs)) := fun G0 H0 cp G H σ v w e h1 h2 Q q => by
  have r1 := h1.rep_flat f1
  rcases hl with hl | hl
  · subst hl
    obtain ⟨p, vs, rfl, hp, r⟩ := h2.list e
    refine ⟨p, vs, rfl, .inl (SqL.of hp), h1.flat f1, reps_flat r f2, ?_⟩
    rw [mem_V r1 f1 r f2]
    exact q _ G H e (Same.refl _) (.bl _)
  · subst hl
    obtain ⟨p, vs, rfl, hp, r⟩ := h2.tup e
    refine ⟨p, vs, rfl, .inr (SqT.of hp), h1.flat f1, reps_flat r f2, ?_⟩
    rw [mem_V r1 f1 r f2]
    exact q _ G H e (Same.refl _) (.bl _)

/-! ### argument lists, displays -/
theorem ea_nil : EvA tNil ρ c [] c := fun G0 H0 cp G H σ e Q q => q [] G H e (Same.refl _) .nil
theorem ea_cons {tr : TA} {ds : List D} (h : Ev te ρ c d c1) (hr : EvA tr ρ c1 ds c2) : EvA (tCons te tr) ρ c (d :: ds) c2 := fun G0 H0 cp G H σ e Q q =>
  h G0 H0 cp G H σ e _ fun v G1 H1 e1 s1 r1 => hr G0 H0 cp G1 H1 σ e1 _ fun vs G2 H2 e2 s2 r2 => q _ G2 H2 e2 (s1.trans s2) (.cons (r1.mono s2) r2)
theorem eb_nil : EbA tNil ρ c [] c := fun G0 H0 cp G H σ e Q q => q [] G H e (Same.refl _) trivial
theorem eb_cons {tr : TA} {ds : List D} (h : Eb te ρ c d c1) (hr : EbA tr ρ c1 ds c2) : EbA (tCons te tr) ρ c (d :: ds) c2 := fun G0 H0 cp G H σ e Q q =>
  h G0 H0 cp G H σ e _ fun v G1 H1 e1 s1 r1 => hr G0 H0 cp G1 H1 σ e1 _ fun vs G2 H2 e2 s2 r2 => q _ G2 H2 e2 (s1.trans s2) ⟨r1.mono s2, r2⟩
theorem ev_tup {ta : TA} {ds : List D} (h : EvA ta ρ c ds c1) (hl : ds.length ≤ sizeLine) : Ev (tTup ta) ρ c (.tup ds) c1 := fun G0 H0 cp G H σ e Q q =>
  h G0 H0 cp G H σ e _ fun vs G1 H1 e1 s1 r1 => ⟨by rw [r1.length]; exact hl, fun p hp => by
    have sm : Same G1 (upd G1 p (.tup vs)) := same_new (Same.free e1.gr.s hp)
    exact q _ _ _ (e1.newIn (.tup vs) hp) (s1.trans sm) (.tup upd_same (r1.mono sm))⟩
theorem en_lst {ta : TA} {ds : List D} (h : EvA ta ρ c ds c1) (hl : ds.length ≤ sizeLine) : EvN (tLst ta) ρ c ds c1 := fun G0 H0 cp G H σ e Q q =>
  h G0 H0 cp G H σ e _ fun vs G1 H1 e1 s1 r1 => ⟨by rw [r1.length]; exact hl, fun p hp => q p vs G1 _ (e1.newOwn _ hp) s1 (e1.newFor _ hp) r1⟩

/-! ### tests -/
theorem et_test {b : Bool} (h : Ev te ρ c (.bl b) c1) : EvT (tTest te) ρ c b c1 := fun G0 H0 cp G H σ e Q q => h G0 H0 cp G H σ e _ fun v G1 H1 e1 s1 r => by
  cases r
  exact ⟨b, rfl, q G1 H1 e1 s1⟩
theorem et_B {b : Bool} (h : Ev te ρ c (.bl b) c1) : EvT (tB te) ρ c b c1 := fun G0 H0 cp G H σ e Q q => h G0 H0 cp G H σ e _ fun v G1 H1 e1 s1 r => by
  cases r
  exact ⟨b, rfl, q G1 H1 e1 s1⟩
theorem et_yes : EvT tYes ρ c true c := fun G0 H0 cp G H σ e Q q => q G H e (Same.refl _)
theorem et_not {b : Bool} (h : EvT t ρ c b c1) : EvT (tNot t) ρ c (!b) c1 := fun G0 H0 cp G H σ e Q q => h G0 H0 cp G H σ e _ fun G1 H1 e1 s1 => q G1 H1 e1 s1
theorem et_and {a b : Bool} (h1 : EvT t ρ c a c1) (h2 : a = true → EvT u ρ c1 b c2) (h3 : a = false → b = false ∧ c2 = c1) : EvT (tAnd t u) ρ c b c2 := fun G0 H0 cp G H σ e Q q => h1 G0 H0 cp G H σ e _ fun G1 H1 e1 s1 => by
  cases a with
  | true => exact h2 rfl G0 H0 cp G1 H1 σ e1 Q fun G2 H2 e2 s2 => q G2 H2 e2 (s1.trans s2)
  | false =>
    obtain ⟨z1, z2⟩ := h3 rfl
    subst z1 z2
    exact q G1 H1 e1 s1
theorem et_or {a b : Bool} (h1 : EvT t ρ c a c1) (h2 : a = false → EvT u ρ c1 b c2) (h3 : a = true → b = true ∧ c2 = c1) : EvT (tOr t u) ρ c b c2 := fun G0 H0 cp G H σ e Q q => h1 G0 H0 cp G H σ e _ fun G1 H1 e1 s1 => by
  cases a with
  | false => exact h2 rfl G0 H0 cp G1 H1 σ e1 Q fun G2 H2 e2 s2 => q G2 H2 e2 (s1.trans s2)
  | true =>
    obtain ⟨z1, z2⟩ := h3 rfl
    subst z1 z2
    exact q G1 H1 e1 s1
/-- without a cup at work -/
theorem et_and' {a b : Bool} (h1 : EvT t ρ c a c) (h2 : a = true → EvT u ρ c b c) : EvT (tAnd t u) ρ c (a && b) c := et_and (a := a) h1 (fun z => by subst z; exact h2 rfl) (fun z => by subst z; exact ⟨rfl, rfl⟩)
theorem et_or' {a b : Bool} (h1 : EvT t ρ c a c) (h2 : a = false → EvT u ρ c b c) : EvT (tOr t u) ρ c (a || b) c := et_or (a := a) h1 (fun z => by subst z; exact h2 rfl) (fun z => by subst z; exact ⟨rfl, rfl⟩)
theorem ev_andV {a b : Bool} (h1 : Ev ta ρ c (.bl a) c1) (h2 : a = true → Ev tb ρ c1 (.bl b) c2) (h3 : a = false → b = false ∧ c2 = c1) : Ev (tAndV ta tb) ρ c (.bl b) c2 := fun G0 H0 cp G H σ e Q q => h1 G0 H0 cp G H σ e _ fun v G1 H1 e1 s1 r => by
  cases r
  refine ⟨a, rfl, ?_⟩
  cases a with
  | true => exact h2 rfl G0 H0 cp G1 H1 σ e1 Q fun v G2 H2 e2 s2 => q v G2 H2 e2 (s1.trans s2)
  | false =>
    obtain ⟨z1, z2⟩ := h3 rfl
    subst z1 z2
    exact q _ G1 H1 e1 s1 (.bl false)
theorem ev_orV {a b : Bool} (h1 : Ev ta ρ c (.bl a) c1) (h2 : a = false → Ev tb ρ c1 (.bl b) c2) (h3 : a = true → b = true ∧ c2 = c1) : Ev (tOrV ta tb) ρ c (.bl b) c2 := fun G0 H0 cp G H σ e Q q => h1 G0 H0 cp G H σ e _ fun v G1 H1 e1 s1 r => by
  cases r
  refine ⟨a, rfl, ?_⟩
  cases a with
  | false => exact h2 rfl G0 H0 cp G1 H1 σ e1 Q fun v G2 H2 e2 s2 => q v G2 H2 e2 (s1.trans s2)
  | true =>
    obtain ⟨z1, z2⟩ := h3 rfl
    subst z1 z2
    exact q _ G1 H1 e1 s1 (.bl true)
theorem ev_andV' {a b : Bool} (h1 : Ev ta ρ c (.bl a) c) (h2 : a = true → Ev tb ρ c (.bl b) c) : Ev (tAndV ta tb) ρ c (.bl (a && b)) c := ev_andV (a := a) h1 (fun z => by subst z; exact h2 rfl) (fun z => by subst z; exact ⟨rfl, rfl⟩)
theorem ev_orV' {a b : Bool} (h1 : Ev ta ρ c (.bl a) c) (h2 : a = false → Ev tb ρ c (.bl b) c) : Ev (tOrV ta tb) ρ c (.bl (a || b)) c := ev_orV (a := a) h1 (fun z => by subst z; exact h2 rfl) (fun z => by subst z; exact ⟨rfl, rfl⟩)
theorem ev_notV {a : Bool} (h1 : Ev ta ρ c (.bl a) c1) : Ev (tNotV ta) ρ c (.bl (!a)) c1 := fun G0 H0 cp G H σ e Q q => h1 G0 H0 cp G H σ e _ fun v G1 H1 e1 s1 r => by
  cases r
  exact ⟨a, rfl, q _ G1 H1 e1 s1 (.bl _)⟩
theorem ev_if {b : Bool} (h : EvT t ρ c b c1) (h1 : b = true → Ev ta ρ c1 d c2) (h2 : b = false → Ev tb ρ c1 d c2) : Ev (tIf t ta tb) ρ c d c2 := fun G0 H0 cp G H σ e Q q => h G0 H0 cp G H σ e _ fun G1 H1 e1 s1 => by
  cases b with
  | true => exact h1 rfl G0 H0 cp G1 H1 σ e1 Q fun v G2 H2 e2 s2 => q v G2 H2 e2 (s1.trans s2)
  | false => exact h2 rfl G0 H0 cp G1 H1 σ e1 Q fun v G2 H2 e2 s2 => q v G2 H2 e2 (s1.trans s2)
theorem ev_if' {b : Bool} (h : EvT t ρ c b c) (h1 : b = true → Ev ta ρ c d1 c) (h2 : b = false → Ev tb ρ c d2 c) : Ev (tIf t ta tb) ρ c (if b then d1 else d2) c := ev_if (b := b) h (fun z => by subst z; exact h1 rfl) (fun z => by subst z; exact h2 rfl)
theorem ev_chain {r r' : R2} {tc : TE} {d3 : D} {a b : Bool} (ha : Eb ta ρ c d1 c1) (hb : Eb tb ρ c1 d2 c2) (hr : RO r ρ c2 d1 d2 (.bl a)) (hc : a = true → Eb tc ρ c2 d3 c2) (hr' : a = true → RO r' ρ c2 d2 d3 (.bl b)) (hab : a = false → b = false) :
    Ev (tChain r r' ta tb tc) ρ c (.bl b) c2 := fun G0 H0 cp G H σ e Q q =>
  ha G0 H0 cp G H σ e _ fun v G1 H1 e1 s1 h1 => hb G0 H0 cp G1 H1 σ e1 _ fun w G2 H2 e2 s2 h2 => hr G0 H0 cp G2 H2 σ v w e2 (h1.mono s2) h2 _ fun z G3 H3 e3 s3 r3 => by
    cases r3
    refine ⟨a, rfl, ?_⟩
    cases a with
    | true =>
      show tc σ H3 _
      exact hc rfl G0 H0 cp G3 H3 σ e3 _ fun y G4 H4 e4 s4 h4 => hr' rfl G0 H0 cp G4 H4 σ w y e4 ((h2.mono s3).mono s4) h4 Q fun z G5 H5 e5 s5 r5 => q z G5 H5 e5 (s1.trans (s2.trans (s3.trans (s4.trans s5)))) r5
    | false =>
      show Q (.bl false) H3
      have z := hab rfl
      subst z
      exact q _ G3 H3 e3 (s1.trans (s2.trans s3)) (.bl false)
end
end PL

namespace PL
open PySem L2

/-! ### promises -/
def SpR (R : List D → D → Prop) : Sp := fun vs H Q _ => ∃ (G : Hp) (ds : List D) (d : D), Same G H ∧ Reps G vs ds ∧ R ds d ∧ ∀ v G' H', Gr G H G' H' → Rep G' v d → Q v H'
/-- .. of a def whose first argument is the cup -/
def SpC (R : List D → Int × Int → D → Int × Int → Prop) : Sp := fun vs H Q _ => ∃ (G : Hp) (p : Addr) (ws : List V) (ds : List D) (x : Int × Int) (d : D) (y : Int × Int), vs = .ref p :: ws ∧ Same G H ∧ G p = none ∧ H p = some (cupO x) ∧ Reps G ws ds ∧ R ds x d y ∧
  ∀ v G' H', Gr G (upd H p (cupO y)) G' H' → Rep G' v d → Q v H'

/-! ### judgements of statements -/
structure Pk where
  nx : List Sl → Cup → Prop := fun _ _ => False
  rt : D → Cup → Prop := fun _ _ => False
  bk : List Sl → Cup → Prop := fun _ _ => False
  ct : List Sl → Cup → Prop := fun _ _ => False
def Ho (ts : TS) (ρ : List Sl) (c : Cup) (P : Pk) : Prop :=
  ∀ (G0 H0 : Hp) (cp : Addr) (G H : Hp) (σ : L2.St), EnvR G0 H0 cp G H σ ρ c → ∀ E : Ends,
    (∀ ρ' c' G' H' σ', EnvR G0 H0 cp G' H' σ' ρ' c' → Same G G' → P.nx ρ' c' → E.nx σ' H') →
    (∀ d c' v G' H', Gr G0 (bs H0 cp c') G' H' → Same G G' → Rep G' v d → P.rt d c' → E.rt v H') →
    (∀ ρ' c' G' H' σ', EnvR G0 H0 cp G' H' σ' ρ' c' → Same G G' → P.bk ρ' c' → E.bk σ' H') →
    (∀ ρ' c' G' H' σ', EnvR G0 H0 cp G' H' σ' ρ' c' → Same G G' → P.ct ρ' c' → E.ct σ' H') → ts E σ H
/-- a target -/
def AsT (g : TG) (d : D) (ρ ρ' : List Sl) (is : List Nat) : Prop :=
  ∀ (G0 H0 : Hp) (cp : Addr) (G H : Hp) (σ : L2.St) (c : Cup) (v : V), EnvR G0 H0 cp G H σ ρ c → Rep G v d → ∀ Q : L2.St → Hp → Prop,
    (∀ σ', EnvR G0 H0 cp G H σ' ρ' c → (∀ vs : List Nat, (∀ i ∈ is, i ∈ vs) → wipe σ' vs = wipe σ vs) → Q σ' H) → g v σ H Q
def AsTs (g : TGs) (ds : List D) (ρ ρ' : List Sl) (is : List Nat) : Prop :=
  ∀ (G0 H0 : Hp) (cp : Addr) (G H : Hp) (σ : L2.St) (c : Cup) (vs : List V), EnvR G0 H0 cp G H σ ρ c → Reps G vs ds → ∀ Q : L2.St → Hp → Prop,
    (∀ σ', EnvR G0 H0 cp G H σ' ρ' c → (∀ vs : List Nat, (∀ i ∈ is, i ∈ vs) → wipe σ' vs = wipe σ vs) → Q σ' H) → g vs σ H Q
/-- what a loop walks -/
structure Yl (J : It) (G : Hp) (xs : List D) : Prop where
  go : ∀ G1 H1, Same G G1 → Same G1 H1 → ∀ i : Nat, i < xs.length → J.go i H1
  yl : ∀ G1 H1, Same G G1 → Same G1 H1 → ∀ (i : Nat) (x : D), xs[i]? = some x → ∀ v H2, J.yld i H1 v H2 → ∃ G2, Gr G1 H1 G2 H2 ∧ Rep G2 v x
  st : ∀ G1 H1, Same G G1 → Same G1 H1 → ∀ i : Nat, xs.length ≤ i → J.stop i H1
def EvI (wi : TI) (ρ : List Sl) (c : Cup) (xs : List D) (c' : Cup) : Prop :=
  ∀ (G0 H0 : Hp) (cp : Addr) (G H : Hp) (σ : L2.St), EnvR G0 H0 cp G H σ ρ c → ∀ R : It → Hp → Prop, (∀ J G' H', EnvR G0 H0 cp G' H' σ ρ c' → Same G G' → Yl J G' xs → R J H') → wi σ H R

section
variable {K : PySem.W.Frag} {G0 H0 G H G' H' : Hp} {cp : Addr} {σ : L2.St} {ρ ρ' ρ1 ρ2 ρ3 : List Sl} {c c1 c2 c3 c' : Cup} {te ta tb : TE} {t u : TT} {d d1 d2 : D} {i j : Int} {P : Pk} {ts tu tw : TS} {g : TG} {gs : TGs}
theorem reps_nil_app {ws : List V} {ds : List D} (r : Reps G ws ds) : Reps G (ws ++ []) ds := by rw [List.append_nil]; exact r
theorem ev_call {R : List D → D → Prop} {E : XK} {tl : TA} {ds : List D} (h : EvA tl ρ c ds c1) (hR : R ds d) : Ev (tCall (SpR R) [] E tl) ρ c d c1 := fun G0 H0 cp G H σ e Q q =>
  h G0 H0 cp G H σ e _ fun vs G1 H1 e1 s1 r1 => ⟨G1, ds, d, e1.gr.s, reps_nil_app r1, hR, fun v G' H' gg r => q v G' H' (e1.mono gg) (s1.trans gg.g) r⟩
theorem ev_callC {R : List D → Int × Int → D → Int × Int → Prop} {E : XK} {tl : TA} {ds : List D} {k : Nat} {x y : Int × Int} (hk : ρ[k]? = some .cup) (h : EvA tl ρ c ds (some x)) (hR : R ds x d y) :
    Ev (tCall (SpC R) [] E (tCons (tVar k) tl)) ρ c d (some y) := fun G0 H0 cp G H σ e Q q =>
  ⟨_, e.isCup hk, h G0 H0 cp G H σ e _ fun vs G1 H1 e1 s1 r1 => ⟨G1, cp, vs ++ [], ds, x, d, y, rfl, e1.gr.s, e1.cupG, e1.cupH, reps_nil_app r1, hR, fun v G' H' gg r => q v G' H' (e1.poured gg) (s1.trans gg.g) r⟩⟩

/-! ### statements -/
theorem ho_seq (h : Ho ts ρ c { nx := fun ρ' c' => Ho tu ρ' c' P, rt := P.rt, bk := P.bk, ct := P.ct }) : Ho (tSeq ts tu) ρ c P := fun G0 H0 cp G H σ e E hn hr hb hc =>
  h G0 H0 cp G H σ e { E with nx := tu E } (fun ρ' c' G' H' σ' e' s k => k G0 H0 cp G' H' σ' e' E (fun ρ2 c2 G2 H2 σ2 e2 s2 => hn ρ2 c2 G2 H2 σ2 e2 (s.trans s2)) (fun d2 c2 v2 G2 H2 g2 s2 => hr d2 c2 v2 G2 H2 g2 (s.trans s2))
    (fun ρ2 c2 G2 H2 σ2 e2 s2 => hb ρ2 c2 G2 H2 σ2 e2 (s.trans s2)) (fun ρ2 c2 G2 H2 σ2 e2 s2 => hc ρ2 c2 G2 H2 σ2 e2 (s.trans s2))) hr hb hc
theorem ho_mono {P' : Pk} (h : Ho ts ρ c P') (h1 : ∀ ρ' c', P'.nx ρ' c' → P.nx ρ' c') (h2 : ∀ d c', P'.rt d c' → P.rt d c') (h3 : ∀ ρ' c', P'.bk ρ' c' → P.bk ρ' c') (h4 : ∀ ρ' c', P'.ct ρ' c' → P.ct ρ' c') : Ho ts ρ c P :=
  fun G0 H0 cp G H σ e E hn hr hb hc => h G0 H0 cp G H σ e E (fun ρ' c' G' H' σ' e' s k => hn ρ' c' G' H' σ' e' s (h1 _ _ k)) (fun d c' v G' H' gg s r k => hr d c' v G' H' gg s r (h2 _ _ k))
    (fun ρ' c' G' H' σ' e' s k => hb ρ' c' G' H' σ' e' s (h3 _ _ k)) (fun ρ' c' G' H' σ' e' s k => hc ρ' c' G' H' σ' e' s (h4 _ _ k))
theorem ho_next (h : P.nx ρ c) : Ho tNext ρ c P := fun G0 H0 cp G H σ e E hn _ _ _ => hn ρ c G H σ e (Same.refl _) h
theorem ho_brk (h : P.bk ρ c) : Ho tBreak ρ c P := fun G0 H0 cp G H σ e E _ _ hb _ => hb ρ c G H σ e (Same.refl _) h
theorem ho_cont (h : P.ct ρ c) : Ho tCont ρ c P := fun G0 H0 cp G H σ e E _ _ _ hc => hc ρ c G H σ e (Same.refl _) h
theorem ho_asg {k : Nat} (h : Ev te ρ c d c1) (q : P.nx (ρ.set k (.dat d)) c1) : Ho (tAsg te (gName k)) ρ c P := fun G0 H0 cp G H σ e E hn _ _ _ =>
  h G0 H0 cp G H σ e _ fun v G1 H1 e1 s1 r => hn _ c1 G1 H1 _ (e1.setDat k r) s1 q
theorem ho_asgN {k : Nat} {xs : List D} (h : EvN te ρ c xs c1) (q : P.nx (ρ.set k (.own xs)) c1) : Ho (tAsg te (gName k)) ρ c P := fun G0 H0 cp G H σ e E hn _ _ _ =>
  h G0 H0 cp G H σ e _ fun p vs G1 H1 e1 s1 n r => hn _ c1 G1 H1 _ (e1.set k (o := some (.ref p)) (s := .own xs) ⟨p, vs, rfl, n.b, n.g, n.h, r⟩ fun _ p' j sj ep a b dd => by
    cases ep
    exact absurd dd (n.n j sj a b)) s1 q
theorem ho_asgK {k : Nat} {xs : List (Key × D)} (h : EvK te ρ c xs c1) (q : P.nx (ρ.set k (.odk xs)) c1) : Ho (tAsg te (gName k)) ρ c P := fun G0 H0 cp G H σ e E hn _ _ _ =>
  h G0 H0 cp G H σ e _ fun p vs G1 H1 e1 s1 n r => hn _ c1 G1 H1 _ (e1.set k (o := some (.ref p)) (s := .odk xs) ⟨p, vs, rfl, n.b, n.g, n.h, r⟩ fun _ p' j sj ep a b dd => by
    cases ep
    exact absurd dd (n.n j sj a b)) s1 q
theorem ho_asgT {is : List Nat} (h : Ev te ρ c d c1) (ha : AsT g d ρ ρ' is) (q : P.nx ρ' c1) : Ho (tAsg te g) ρ c P := fun G0 H0 cp G H σ e E hn _ _ _ =>
  h G0 H0 cp G H σ e _ fun v G1 H1 e1 s1 r => ha G0 H0 cp G1 H1 σ c1 v e1 r _ fun σ' e2 _ => hn _ c1 G1 H1 σ' e2 s1 q
theorem ho_if {b : Bool} (h : EvT t ρ c b c1) (h1 : b = true → Ho tu ρ c1 P) (h2 : b = false → Ho tw ρ c1 P) : Ho (tIfS t tu tw) ρ c P := fun G0 H0 cp G H σ e E hn hr hb hc => h G0 H0 cp G H σ e _ fun G1 H1 e1 s1 => by
  cases b with
  | true => exact h1 rfl G0 H0 cp G1 H1 σ e1 E (fun ρ2 c2 G2 H2 σ2 e2 s2 => hn ρ2 c2 G2 H2 σ2 e2 (s1.trans s2)) (fun d2 c2 v2 G2 H2 g2 s2 => hr d2 c2 v2 G2 H2 g2 (s1.trans s2)) (fun ρ2 c2 G2 H2 σ2 e2 s2 => hb ρ2 c2 G2 H2 σ2 e2 (s1.trans s2)) (fun ρ2 c2 G2 H2 σ2 e2 s2 => hc ρ2 c2 G2 H2 σ2 e2 (s1.trans s2))
  | false => exact h2 rfl G0 H0 cp G1 H1 σ e1 E (fun ρ2 c2 G2 H2 σ2 e2 s2 => hn ρ2 c2 G2 H2 σ2 e2 (s1.trans s2)) (fun d2 c2 v2 G2 H2 g2 s2 => hr d2 c2 v2 G2 H2 g2 (s1.trans s2)) (fun ρ2 c2 G2 H2 σ2 e2 s2 => hb ρ2 c2 G2 H2 σ2 e2 (s1.trans s2)) (fun ρ2 c2 G2 H2 σ2 e2 s2 => hc ρ2 c2 G2 H2 σ2 e2 (s1.trans s2))
theorem ho_ret (h : Ev te ρ c d c1) (q : P.rt d c1) : Ho (tRet te) ρ c P := fun G0 H0 cp G H σ e E _ hr _ _ =>
  h G0 H0 cp G H σ e _ fun v G1 H1 e1 s1 r => hr d c1 v G1 H1 e1.gr s1 r q
theorem ho_retN (q : P.rt .non c) : Ho tRetN ρ c P := fun G0 H0 cp G H σ e E _ hr _ _ => hr .non c .non G H e.gr (Same.refl _) .non q
theorem ho_expr (h : Ev te ρ c d c1) (q : P.nx ρ c1) : Ho (tDrop te) ρ c P := fun G0 H0 cp G H σ e E hn _ _ _ =>
  h G0 H0 cp G H σ e _ fun v G1 H1 e1 s1 r => hn ρ c1 G1 H1 σ e1 s1 q
theorem ho_freeze {k : Nat} {xs : List D} (hk : ρ[k]? = some (.own xs)) (h : Ho ts (ρ.set k (.dat (.lst xs))) c P) : Ho ts ρ c P := fun G0 H0 cp G H σ e E hn hr hb hc => by
  obtain ⟨G1, s1, e1⟩ := e.freeze hk
  exact h G0 H0 cp G1 H σ e1 E (fun ρ2 c2 G2 H2 σ2 e2 s2 => hn ρ2 c2 G2 H2 σ2 e2 (s1.trans s2)) (fun d2 c2 v2 G2 H2 g2 s2 => hr d2 c2 v2 G2 H2 g2 (s1.trans s2)) (fun ρ2 c2 G2 H2 σ2 e2 s2 => hb ρ2 c2 G2 H2 σ2 e2 (s1.trans s2)) (fun ρ2 c2 G2 H2 σ2 e2 s2 => hc ρ2 c2 G2 H2 σ2 e2 (s1.trans s2))
/-- a, b = x, y -/
theorem ho_par {a b : Nat} {tl : TA} (h : EvA tl ρ c [d1, d2] c1) (q : P.nx ((ρ.set a (.dat d1)).set b (.dat d2)) c1) : Ho (tPar a b tl) ρ c P := fun G0 H0 cp G H σ e E hn _ _ _ =>
  h G0 H0 cp G H σ e _ fun vs G1 H1 e1 s1 r => by
    cases r with
    | cons r1 r =>
      cases r with
      | cons r2 r =>
        cases r
        exact ⟨_, _, rfl, hn _ c1 G1 H1 _ ((e1.setDat a r1).setDat b r2) s1 q⟩
theorem ho_par3 {a b l : Nat} {d3 : D} {tl : TA} (h : EvA tl ρ c [d1, d2, d3] c1) (q : P.nx (((ρ.set a (.dat d1)).set b (.dat d2)).set l (.dat d3)) c1) : Ho (tPar3 a b l tl) ρ c P := fun G0 H0 cp G H σ e E hn _ _ _ =>
  h G0 H0 cp G H σ e _ fun vs G1 H1 e1 s1 r => by
    cases r with
    | cons r1 r =>
      cases r with
      | cons r2 r =>
        cases r with
        | cons r3 r =>
          cases r
          exact ⟨_, _, _, rfl, hn _ c1 G1 H1 _ (((e1.setDat a r1).setDat b r2).setDat l r3) s1 q⟩

/-! ### targets -/
theorem wipe_set {σ : L2.St} {k : Nat} {o : Option V} : ∀ {vs : List Nat}, k ∈ vs → wipe (σ.set k o) vs = wipe σ vs
  | v :: vs, h => by
    unfold wipe
    by_cases q : k ∈ vs
    · rw [wipe_set q]
    · have e : k = v := by
        rcases List.mem_cons.mp h with z | z
        · exact z
        · exact absurd z q
      subst e
      have key : ∀ (ws : List Nat), k ∉ ws → wipe (σ.set k o) ws = (wipe σ ws).set k o := by
        intro ws
        induction ws with
        | nil => intro _; rfl
        | cons w ws ih =>
          intro hw
          simp only [List.mem_cons, not_or] at hw
          unfold wipe
          rw [ih hw.2, List.set_comm _ _ hw.1]
      rw [key vs q, List.set_set]
theorem as_name {k : Nat} : AsT (gName k) d ρ (ρ.set k (.dat d)) [k] := fun G0 H0 cp G H σ c v e r Q q => q _ (e.setDat k r) fun vs h => wipe_set (h k (by simp))
theorem as_nil : AsTs gNil [] ρ ρ [] := fun G0 H0 cp G H σ c vs e r Q q => by
  cases r
  exact ⟨rfl, q σ e fun _ _ => rfl⟩
theorem as_cons {is js : List Nat} {ds : List D} (h : AsT g d ρ ρ1 is) (h2 : AsTs gs ds ρ1 ρ2 js) : AsTs (gCons g gs) (d :: ds) ρ ρ2 (is ++ js) := fun G0 H0 cp G H σ c vs e r Q q => by
  cases r with
  | cons r1 r2 =>
    refine ⟨_, _, rfl, h G0 H0 cp G H σ c _ e r1 _ fun σ1 e1 w1 => h2 G0 H0 cp G H σ1 c _ e1 r2 _ fun σ2 e2 w2 => q σ2 e2 fun ws hw => ?_⟩
    rw [w2 ws fun i hi => hw i (List.mem_append_right _ hi), w1 ws fun i hi => hw i (List.mem_append_left _ hi)]
theorem as_tup {is : List Nat} {ds : List D} {n : Nat} (hn : ds.length = n) (h : AsTs gs ds ρ ρ1 is) : AsT (gTup K n gs) (.tup ds) ρ ρ1 is := fun G0 H0 cp G H σ c v e r Q q => by
  cases r with
  | tup hp r => exact ⟨_, _, rfl, SqT.of (e.gr.s _ _ hp), by rw [r.length]; exact hn, h G0 H0 cp G H σ c _ e r Q q⟩

/-! ### what is walked -/
theorem yl_list {a : Addr} {vs : List V} {xs : List D} (h : G a = some (.lst vs)) (r : Reps G vs xs) : Yl (Itl K a) G xs := by
  have at_ : ∀ G1 H1, Same G G1 → Same G1 H1 → SqL K H1 a vs := fun G1 H1 s1 s2 => SqL.of (s2 _ _ (s1 _ _ h))
  refine ⟨fun G1 H1 s1 s2 i hi => ?_, fun G1 H1 s1 s2 i x hx v H2 y => ?_, fun G1 H1 s1 s2 i hi => ?_⟩
  · obtain ⟨v, h1, _⟩ := r.get (List.getElem?_eq_getElem hi)
    exact ⟨vs, v, at_ G1 H1 s1 s2, h1⟩
  · obtain ⟨e, y⟩ := y
    subst e
    obtain ⟨w, h1, h2⟩ := r.get hx
    have h3 := y vs (at_ G1 _ s1 s2)
    rw [h1] at h3
    cases h3
    exact ⟨G1, Gr.refl s2, h2.mono s1⟩
  · exact ⟨vs, at_ G1 H1 s1 s2, by rw [r.length]; exact hi⟩
theorem yl_tup {a : Addr} {vs : List V} {xs : List D} (h : G a = some (.tup vs)) (r : Reps G vs xs) : Yl (Itt K a) G xs := by
  have at_ : ∀ G1 H1, Same G G1 → Same G1 H1 → SqT K H1 a vs := fun G1 H1 s1 s2 => SqT.of (s2 _ _ (s1 _ _ h))
  refine ⟨fun G1 H1 s1 s2 i hi => ?_, fun G1 H1 s1 s2 i x hx v H2 y => ?_, fun G1 H1 s1 s2 i hi => ?_⟩
  · obtain ⟨v, h1, _⟩ := r.get (List.getElem?_eq_getElem hi)
    exact ⟨vs, v, at_ G1 H1 s1 s2, h1⟩
  · obtain ⟨e, y⟩ := y
    subst e
    obtain ⟨w, h1, h2⟩ := r.get hx
    have h3 := y vs (at_ G1 _ s1 s2)
    rw [h1] at h3
    cases h3
    exact ⟨G1, Gr.refl s2, h2.mono s1⟩
  · exact ⟨vs, at_ G1 H1 s1 s2, by rw [r.length]; exact hi⟩
/-- lo, lo + 1, .. (n of them) -/
def rng (lo : Int) (n : Nat) : List D := (List.range n).map fun k => D.int (lo + (k : Nat))
theorem rng_length (lo : Int) (n : Nat) : (rng lo n).length = n := by unfold rng; rw [List.length_map, List.length_range]
theorem rng_get {lo : Int} {n k : Nat} {x : D} (h : (rng lo n)[k]? = some x) : k < n ∧ x = .int (lo + (k : Nat)) := by
  have hk : k < n := by
    have := (List.getElem?_eq_some_iff.mp h).1
    rw [rng_length] at this
    exact this
  refine ⟨hk, ?_⟩
  unfold rng at h
  rw [List.getElem?_map, List.getElem?_range hk] at h
  exact (Option.some.inj h).symm
theorem yl_rng {lo : Int} {n : Nat} : Yl (Itr lo n) G (rng lo n) := by
  refine ⟨fun G1 H1 s1 s2 i hi => by rw [rng_length] at hi; exact hi, fun G1 H1 s1 s2 i x hx v H2 y => ?_, fun G1 H1 s1 s2 i hi => by rw [rng_length] at hi; exact hi⟩
  obtain ⟨e, y⟩ := y
  subst e y
  obtain ⟨_, e⟩ := rng_get hx
  subst e
  exact ⟨G1, Gr.refl s2, .int _⟩
/-- lo, lo + c, .. -/
def rngC (lo c : Int) (n : Nat) : List D := (List.range n).map fun k => D.int (lo + (k : Nat) * c)
theorem rngC_length (lo c : Int) (n : Nat) : (rngC lo c n).length = n := by unfold rngC; rw [List.length_map, List.length_range]
theorem yl_rngC {lo c : Int} {n : Nat} : Yl (Itc lo c n) G (rngC lo c n) := by
  refine ⟨fun G1 H1 s1 s2 i hi => by rw [rngC_length] at hi; exact hi, fun G1 H1 s1 s2 i x hx v H2 y => ?_, fun G1 H1 s1 s2 i hi => by rw [rngC_length] at hi; exact hi⟩
  obtain ⟨e, y⟩ := y
  subst e y
  have hk : i < n := by
    have := (List.getElem?_eq_some_iff.mp hx).1
    rw [rngC_length] at this
    exact this
  unfold rngC at hx
  rw [List.getElem?_map, List.getElem?_range hk] at hx
  cases hx
  exact ⟨G1, Gr.refl s2, .int _⟩
/-- a list or a tuple -/
def iSeq (K : PySem.W.Frag) (tl : TE) : TI := fun σ H R => iList K tl σ H R ∨ iTup K tl σ H R
theorem pi_seq {X : Cx} {tg l : Expr} {tl : TE} (hl : PE X l tl) : PI X tg l (iSeq X.K tl) := by
  refine ⟨fun pins s σ H R I h => ?_⟩
  rcases h with h | h
  · exact (pi_list hl).run pins s σ H R I h
  · exact (pi_tup hl).run pins s σ H R I h
theorem ei_lst {xs : List D} (h : Ev te ρ c (.lst xs) c1) : EvI (iSeq K te) ρ c xs c1 := fun G0 H0 cp G H σ e R q => .inl (h G0 H0 cp G H σ e _ fun v G1 H1 e1 s1 r => by
  cases r with
  | lst hp r => exact ⟨_, rfl, ⟨_, SqL.of (e1.gr.s _ _ hp)⟩, q _ G1 H1 e1 s1 (yl_list hp r)⟩)
theorem ei_tup {xs : List D} (h : Ev te ρ c (.tup xs) c1) : EvI (iSeq K te) ρ c xs c1 := fun G0 H0 cp G H σ e R q => .inr (h G0 H0 cp G H σ e _ fun v G1 H1 e1 s1 r => by
  cases r with
  | tup hp r => exact ⟨_, rfl, ⟨_, SqT.of (e1.gr.s _ _ hp)⟩, q _ G1 H1 e1 s1 (yl_tup hp r)⟩)
theorem ei_rng1 {tl : TA} (h : EvA tl ρ c [.int j] c1) (h1 : -(2 ^ 62) ≤ j) (h2 : j < 2 ^ 62) : EvI (iRng1 tl) ρ c (rng 0 j.toNat) c1 := fun G0 H0 cp G H σ e R q => h G0 H0 cp G H σ e _ fun vs G1 H1 e1 s1 r => by
  cases r with
  | cons r1 r =>
    cases r
    cases r1
    exact ⟨j, rfl, h1, h2, q _ G1 H1 e1 s1 yl_rng⟩
theorem ei_rng2 {tl : TA} (h : EvA tl ρ c [.int i, .int j] c1) (h1 : -(2 ^ 62) ≤ i) (h2 : i < 2 ^ 62) (h3 : -(2 ^ 62) ≤ j) (h4 : j < 2 ^ 62) : EvI (iRng2 tl) ρ c (rng i (j - i).toNat) c1 := fun G0 H0 cp G H σ e R q => h G0 H0 cp G H σ e _ fun vs G1 H1 e1 s1 r => by
  cases r with
  | cons r1 r =>
    cases r with
    | cons r2 r =>
      cases r
      cases r1
      cases r2
      exact ⟨i, j, rfl, ⟨h1, h2, h3, h4⟩, q _ G1 H1 e1 s1 yl_rng⟩
theorem ei_rng3 {tl : TA} {k : Int} {n : Nat} (h : EvA tl ρ c [.int i, .int j, .int k] c1) (hr : RgC i j k n) : EvI (iRng3 tl) ρ c (rngC i k n) c1 := fun G0 H0 cp G H σ e R q => h G0 H0 cp G H σ e _ fun vs G1 H1 e1 s1 r => by
  cases r with
  | cons r1 r =>
    cases r with
    | cons r2 r =>
      cases r with
      | cons r3 r =>
        cases r
        cases r1
        cases r2
        cases r3
        exact ⟨i, j, k, n, rfl, hr, q _ G1 H1 e1 s1 yl_rngC⟩

/-! ### loops -/
theorem ho_for {wi : TI} {xs : List D} (W : List D → List Sl → Cup → Prop) (hi : EvI wi ρ c xs c1) (h0 : W xs ρ c1)
    (hs : ∀ x r ρ1 c1, W (x :: r) ρ1 c1 → ∃ ρ2 is, AsT g x ρ1 ρ2 is ∧ Ho ts ρ2 c1 { nx := W r, ct := W r, bk := P.nx, rt := P.rt }) (hd : ∀ ρ1 c1, W [] ρ1 c1 → P.nx ρ1 c1) : Ho (tFor wi g ts) ρ c P := fun G0 H0 cp G H σ e E hn hr hb hc =>
  hi G0 H0 cp G H σ e _ fun J G1 H1 e1 s1 y => by
    refine ⟨fun k m σ' H' => ∃ ρ' c' G', m = xs.length - k ∧ k ≤ xs.length ∧ EnvR G0 H0 cp G' H' σ' ρ' c' ∧ Same G1 G' ∧ W (xs.drop k) ρ' c', ⟨xs.length, ρ, c1, G1, by simp, Nat.zero_le _, e1, Same.refl _, h0⟩, ?_⟩
    rintro k m σ' H' ⟨ρ', c', G', rfl, hk, e', s', w⟩
    by_cases hlt : k < xs.length
    · refine .inr ⟨y.go G' H' s' e'.gr.s k hlt, fun σ2 H2 => ∃ ρ2 c2 G2, EnvR G0 H0 cp G2 H2 σ2 ρ2 c2 ∧ Same G1 G2 ∧ W (xs.drop (k + 1)) ρ2 c2, fun σ2 H2 ⟨ρ2, c2, G2, a, b, w2⟩ => ⟨xs.length - (k + 1), by omega, ρ2, c2, G2, rfl, hlt, a, b, w2⟩, fun v H2 yl => ?_⟩
      rw [List.drop_eq_getElem_cons hlt] at w
      obtain ⟨ρ2, is, ha, hb2⟩ := hs _ _ _ _ w
      obtain ⟨G2, gr2, r2⟩ := y.yl G' H' s' e'.gr.s k xs[k] (List.getElem?_eq_getElem hlt) v H2 yl
      refine ha G0 H0 cp G2 H2 σ' c' v (e'.mono gr2) r2 _ fun σ3 e3 _ => ?_
      have s3 := s'.trans gr2.g
      exact hb2 G0 H0 cp G2 H2 σ3 e3 _ (fun ρ4 c4 G4 H4 σ4 e4 s4 w4 => ⟨ρ4, c4, G4, e4, s3.trans s4, w4⟩) (fun d4 c4 v4 G4 H4 g4 s4 r4 q4 => hr d4 c4 v4 G4 H4 g4 (s1.trans (s3.trans s4)) r4 q4)
        (fun ρ4 c4 G4 H4 σ4 e4 s4 w4 => hn ρ4 c4 G4 H4 σ4 e4 (s1.trans (s3.trans s4)) w4) (fun ρ4 c4 G4 H4 σ4 e4 s4 w4 => ⟨ρ4, c4, G4, e4, s3.trans s4, w4⟩)
    · have ek : k = xs.length := by omega
      subst ek
      rw [List.drop_length] at w
      exact .inl ⟨y.st G' H' s' e'.gr.s _ (Nat.le_refl _), hn ρ' c' G' H' σ' e' (s1.trans s') (hd _ _ w)⟩
theorem ho_while (W : Nat → List Sl → Cup → Prop) (m0 : Nat) (h0 : W m0 ρ c)
    (hs : ∀ m ρ1 c1, W m ρ1 c1 → ∃ b c2, EvT t ρ1 c1 b c2 ∧ (b = true → Ho ts ρ1 c2 { nx := fun ρ' c' => ∃ m', m' < m ∧ W m' ρ' c', ct := fun ρ' c' => ∃ m', m' < m ∧ W m' ρ' c', bk := P.nx, rt := P.rt }) ∧ (b = false → P.nx ρ1 c2)) : Ho (tWhile t ts) ρ c P :=
  fun G0 H0 cp G H σ e E hn hr hb hc => by
    refine ⟨fun m σ' H' => ∃ ρ' c' G', EnvR G0 H0 cp G' H' σ' ρ' c' ∧ Same G G' ∧ W m ρ' c', ⟨m0, ρ, c, G, e, Same.refl _, h0⟩, ?_⟩
    rintro m σ' H' ⟨ρ', c', G', e', s', w⟩
    obtain ⟨b, c2, ht, h1, h2⟩ := hs m ρ' c' w
    refine ht G0 H0 cp G' H' σ' e' _ fun G2 H2 e2 s2 => ?_
    have s3 := s'.trans s2
    cases b with
    | true =>
      refine ⟨fun σ4 H4 => ∃ m', m' < m ∧ ∃ ρ4 c4 G4, EnvR G0 H0 cp G4 H4 σ4 ρ4 c4 ∧ Same G G4 ∧ W m' ρ4 c4, fun σ4 H4 ⟨m', hm, q⟩ => ⟨m', hm, q⟩, ?_⟩
      exact h1 rfl G0 H0 cp G2 H2 σ' e2 _ (fun ρ4 c4 G4 H4 σ4 e4 s4 ⟨m', hm, w4⟩ => ⟨m', hm, ρ4, c4, G4, e4, s3.trans s4, w4⟩) (fun d4 c4 v4 G4 H4 g4 s4 r4 q4 => hr d4 c4 v4 G4 H4 g4 (s3.trans s4) r4 q4)
        (fun ρ4 c4 G4 H4 σ4 e4 s4 w4 => hn ρ4 c4 G4 H4 σ4 e4 (s3.trans s4) w4) (fun ρ4 c4 G4 H4 σ4 e4 s4 ⟨m', hm, w4⟩ => ⟨m', hm, ρ4, c4, G4, e4, s3.trans s4, w4⟩)
    | false =>
      show E.nx σ' H2
      exact hn ρ' c2 G2 H2 σ' e2 s3 (h2 rfl)

/-! ### the whole of a def -/
def st0 (n : Nat) (ds : List D) : List Sl := ds.map Sl.dat ++ List.replicate (n - ds.length) Sl.dead
theorem env_start {N : List Str} {vs : List V} {ds : List D} (s : Same G H) (r : Reps G vs ds) : EnvR G H cp G H (L2.start N vs) (st0 N.length ds) none := by
  have l := r.length
  refine ⟨Gr.refl s, fun h => absurd rfl h, ?_, fun k o sl h1 h2 => ?_, fun k j si sj p h1 h2 h3 h4 _ _ => ?_⟩
  · unfold L2.start st0
    rw [List.length_append, List.length_append, List.length_map, List.length_map, List.length_replicate, List.length_replicate, l]
  · unfold L2.start at h1
    unfold st0 at h2
    by_cases hk : k < vs.length
    · rw [List.getElem?_append_left (by rw [List.length_map]; exact hk), List.getElem?_map] at h1
      rw [List.getElem?_append_left (by rw [List.length_map, ← l]; exact hk), List.getElem?_map] at h2
      cases q : ds[k]? with
      | none => rw [q] at h2; cases h2
      | some d =>
        obtain ⟨v, h3, h4⟩ := r.get q
        rw [q] at h2
        rw [h3] at h1
        cases h1
        cases h2
        exact ⟨v, rfl, h4⟩
    · rw [List.getElem?_append_right (by rw [List.length_map, ← l]; omega), List.getElem?_replicate] at h2
      split at h2
      · cases h2
        trivial
      · cases h2
  · unfold st0 at h1
    have key : ∀ (k : Nat) (s : Sl), (ds.map Sl.dat ++ List.replicate (N.length - ds.length) Sl.dead)[k]? = some s → s.isOwn = false := by
      intro k s hk
      have hm := List.mem_of_getElem? hk
      rcases List.mem_append.mp hm with z | z
      · obtain ⟨d, _, e⟩ := List.mem_map.mp z
        subst e
        rfl
      · rw [(List.mem_replicate.mp z).2]
        rfl
    rw [key k si h1] at h3
    cases h3
theorem ho_fn {N : List Str} {R : List D → D → Prop} {vs : List V} {Q : VK} {E : XK} (h : ∀ ds d, R ds d → Ho ts (st0 N.length ds) none { nx := fun _ c' => d = .non ∧ c' = none, rt := fun d' c' => d' = d ∧ c' = none }) (hsp : SpR R vs H Q E) :
    ts { nx := fun _ H' => Q .non H', rt := Q } (L2.start N vs) H := by
  obtain ⟨G, ds, d, s, r, hR, q⟩ := hsp
  refine h ds d hR G H 0 G H _ (env_start s r) _ (fun ρ' c' G' H' σ' e' _ z => ?_) (fun d' c' v G' H' gg _ r z => ?_) (fun _ _ _ _ _ _ _ z => z.elim) (fun _ _ _ _ _ _ _ z => z.elim)
  · obtain ⟨z1, z2⟩ := z
    subst z1 z2
    exact q .non G' H' e'.gr .non
  · obtain ⟨z1, z2⟩ := z
    subst z1 z2
    exact q v G' H' gg r
/-- .. whose first parameter is the cup -/
def stC (n : Nat) (ds : List D) : List Sl := .cup :: st0 (n - 1) ds
theorem env_startC {N : List Str} {ws : List V} {ds : List D} {p : Addr} {x : Int × Int} (s : Same G H) (hg : G p = none) (hp : H p = some (cupO x)) (r : Reps G ws ds) : EnvR G H p G H (L2.start N (.ref p :: ws)) (stC N.length ds) (some x) := by
  have l := r.length
  have hb : bs H p (some x) = H := by
    funext a
    show upd H p (cupO x) a = H a
    by_cases q : a = p
    · subst q
      rw [upd_same, hp]
    · rw [upd_ne q]
  have es : L2.start N (.ref p :: ws) = some (.ref p) :: (ws.map some ++ List.replicate (N.length - (ws.length + 1)) none) := rfl
  refine ⟨?_, fun _ => hg, ?_, fun k o sl h1 h2 => ?_, fun k j si sj q h1 h2 h3 h4 _ _ => ?_⟩
  · rw [hb]
    exact Gr.refl s
  · rw [es]
    unfold stC st0
    rw [List.length_cons, List.length_cons, List.length_append, List.length_append, List.length_map, List.length_map, List.length_replicate, List.length_replicate, l]
    omega
  · rw [es] at h1
    cases k with
    | zero =>
      cases h1
      cases h2
      rfl
    | succ k =>
      unfold stC st0 at h2
      rw [List.getElem?_cons_succ] at h1 h2
      by_cases hk : k < ws.length
      · rw [List.getElem?_append_left (by rw [List.length_map]; exact hk), List.getElem?_map] at h1
        rw [List.getElem?_append_left (by rw [List.length_map, ← l]; exact hk), List.getElem?_map] at h2
        cases q : ds[k]? with
        | none => rw [q] at h2; cases h2
        | some d =>
          obtain ⟨v, h3, h4⟩ := r.get q
          rw [q] at h2
          rw [h3] at h1
          cases h1
          cases h2
          exact ⟨v, rfl, h4⟩
      · rw [List.getElem?_append_right (by rw [List.length_map, ← l]; omega), List.getElem?_replicate] at h2
        split at h2
        · cases h2
          trivial
        · cases h2
  · have key : ∀ (k : Nat) (s : Sl), (stC N.length ds)[k]? = some s → s.isOwn = false := by
      intro k s hk
      cases k with
      | zero => cases hk; rfl
      | succ k =>
        unfold stC st0 at hk
        rw [List.getElem?_cons_succ] at hk
        have hm := List.mem_of_getElem? hk
        rcases List.mem_append.mp hm with z | z
        · obtain ⟨d, _, e⟩ := List.mem_map.mp z
          subst e
          rfl
        · rw [(List.mem_replicate.mp z).2]
          rfl
    rw [key k si h1] at h3
    cases h3
theorem ho_fnC {N : List Str} {R : List D → Int × Int → D → Int × Int → Prop} {vs : List V} {Q : VK} {E : XK} (h : ∀ ds x d y, R ds x d y → Ho ts (stC N.length ds) (some x) { nx := fun _ c' => d = .non ∧ c' = some y, rt := fun d' c' => d' = d ∧ c' = some y }) (hsp : SpC R vs H Q E) :
    ts { nx := fun _ H' => Q .non H', rt := Q } (L2.start N vs) H := by
  obtain ⟨G, p, ws, ds, x, d, y, rfl, s, hg, hp, r, hR, q⟩ := hsp
  refine h ds x d y hR G H p G H _ (env_startC s hg hp r) _ (fun ρ' c' G' H' σ' e' _ z => ?_) (fun d' c' v G' H' gg _ r z => ?_) (fun _ _ _ _ _ _ _ z => z.elim) (fun _ _ _ _ _ _ _ z => z.elim)
  · obtain ⟨z1, z2⟩ := z
    subst z1 z2
    exact q .non G' H' e'.gr .non
  · obtain ⟨z1, z2⟩ := z
    subst z1 z2
    exact q v G' H' gg r
end
end PL

namespace PL
open PySem L2

section
variable {K : PySem.W.Frag} {G0 H0 G H G' H' : Hp} {cp : Addr} {σ : L2.St} {ρ ρ' ρ1 ρ2 ρ3 : List Sl} {c c1 c2 c3 c' : Cup} {te ta tb : TE} {t u : TT} {d d1 d2 : D} {i j : Int} {P : Pk} {ts tu tw : TS} {g : TG} {gs : TGs}

/-! ### calls of what is built in, by handles -/
def CO (r : List V → Hp → VK → Prop) (ρ : List Sl) (c : Cup) (ds : List D) (d : D) : Prop := ∀ (G0 H0 : Hp) (cp : Addr) (G H : Hp) (σ : L2.St) (vs : List V), EnvR G0 H0 cp G H σ ρ c → Hnds G σ ρ vs ds →
  ∀ Q : VK, (∀ z G' H', EnvR G0 H0 cp G' H' σ ρ c → Same G G' → Rep G' z d → Q z H') → r vs H Q
def CON (r : List V → Hp → VK → Prop) (ρ : List Sl) (c : Cup) (ds : List D) (xs : List D) : Prop := ∀ (G0 H0 : Hp) (cp : Addr) (G H : Hp) (σ : L2.St) (vs : List V), EnvR G0 H0 cp G H σ ρ c → Hnds G σ ρ vs ds →
  ∀ Q : VK, (∀ p ws G' H', EnvR G0 H0 cp G' H' σ ρ c → Same G G' → New G' H' σ ρ (bs H0 cp c) p (.lst ws) → Reps G' ws xs → Q (.ref p) H') → r vs H Q
theorem ev_cb {r : List V → Hp → VK → Prop} {tl : TA} {ds : List D} (h : EbA tl ρ c ds c1) (hr : CO r ρ c1 ds d) : Ev (tCB r tl) ρ c d c1 := fun G0 H0 cp G H σ e Q q =>
  h G0 H0 cp G H σ e _ fun vs G1 H1 e1 s1 r1 => hr G0 H0 cp G1 H1 σ vs e1 r1 Q fun z G2 H2 e2 s2 r2 => q z G2 H2 e2 (s1.trans s2) r2
theorem en_cb {r : List V → Hp → VK → Prop} {tl : TA} {ds xs : List D} (h : EbA tl ρ c ds c1) (hr : CON r ρ c1 ds xs) : EvN (tCB r tl) ρ c xs c1 := fun G0 H0 cp G H σ e Q q =>
  h G0 H0 cp G H σ e _ fun vs G1 H1 e1 s1 r1 => hr G0 H0 cp G1 H1 σ vs e1 r1 Q fun p ws G2 H2 e2 s2 n r2 => q p ws G2 H2 e2 (s1.trans s2) n r2
theorem hnds1 {vs : List V} (h : Hnds G σ ρ vs [d]) : ∃ v, vs = [v] ∧ Hnd G σ ρ v d := by
  cases vs with
  | nil => exact h.elim
  | cons v vs =>
    cases vs with
    | nil => exact ⟨v, rfl, h.1⟩
    | cons w vs => exact h.2.elim
theorem hnds2 {vs : List V} (h : Hnds G σ ρ vs [d1, d2]) : ∃ v w, vs = [v, w] ∧ Hnd G σ ρ v d1 ∧ Hnd G σ ρ w d2 := by
  cases vs with
  | nil => exact h.elim
  | cons v vs =>
    obtain ⟨w, e, h2⟩ := hnds1 h.2
    subst e
    exact ⟨v, w, rfl, h.1, h2⟩
theorem CO.inl {r r' : List V → Hp → VK → Prop} {ds : List D} (h : CO r ρ c ds d) : CO (fun xs H Q => r xs H Q ∨ r' xs H Q) ρ c ds d := fun G0 H0 cp G H σ vs e h1 Q q => .inl (h G0 H0 cp G H σ vs e h1 Q q)
theorem CO.inr {r r' : List V → Hp → VK → Prop} {ds : List D} (h : CO r' ρ c ds d) : CO (fun xs H Q => r xs H Q ∨ r' xs H Q) ρ c ds d := fun G0 H0 cp G H σ vs e h1 Q q => .inr (h G0 H0 cp G H σ vs e h1 Q q)
/-- the reading of len -/
def rLen (K : PySem.W.Frag) : List V → Hp → VK → Prop := fun xs H Q => (∃ p ys, xs = [.ref p] ∧ (SqL K H p ys ∨ SqT K H p ys) ∧ Q (.int ys.length) H) ∨ (∃ z, xs = [.str z] ∧ z.length ≤ sizeLine ∧ Q (.int z.length) H)
theorem call_lenP {X : Cx} : CallR X (.builtin "len") (rLen X.K) := call_len_seq.or call_len_str
theorem co_lenL {xs : List D} : CO (rLen K) ρ c [.lst xs] (.int xs.length) := fun G0 H0 cp G H σ vs e h Q q => by
  obtain ⟨v, rfl, hh⟩ := hnds1 h
  obtain ⟨p, ws, rfl, hp, r⟩ := hh.list e
  refine .inl ⟨p, ws, rfl, .inl (SqL.of hp), ?_⟩
  rw [r.length]
  exact q _ G H e (Same.refl _) (.int _)
theorem co_lenT {xs : List D} : CO (rLen K) ρ c [.tup xs] (.int xs.length) := fun G0 H0 cp G H σ vs e h Q q => by
  obtain ⟨v, rfl, hh⟩ := hnds1 h
  obtain ⟨p, ws, rfl, hp, r⟩ := hh.tup e
  refine .inl ⟨p, ws, rfl, .inr (SqT.of hp), ?_⟩
  rw [r.length]
  exact q _ G H e (Same.refl _) (.int _)
/-- abs, int, max, min of ints -/
def rAbs : List V → Hp → VK → Prop := fun xs H Q => ∃ i, xs = [.int i] ∧ Q (.int (if i < 0 then -i else i)) H
theorem call_absP {X : Cx} : CallR X (.builtin "abs") rAbs := call_abs
theorem co_abs : CO rAbs ρ c [.int i] (.int (if i < 0 then -i else i)) := fun G0 H0 cp G H σ vs e h Q q => by
  obtain ⟨v, rfl, hh⟩ := hnds1 h
  rw [hh.int]
  exact ⟨i, rfl, q _ G H e (Same.refl _) (.int _)⟩
def rInt : List V → Hp → VK → Prop := fun xs H Q => (∃ i, xs = [.int i] ∧ Q (.int i) H) ∨ ∃ k, xs = [.bl k] ∧ Q (.int (if k then 1 else 0)) H
theorem call_intP {X : Cx} : CallR X (.type "int") rInt := call_int1
theorem co_int : CO rInt ρ c [.int i] (.int i) := fun G0 H0 cp G H σ vs e h Q q => by
  obtain ⟨v, rfl, hh⟩ := hnds1 h
  rw [hh.int]
  exact .inl ⟨i, rfl, q _ G H e (Same.refl _) (.int _)⟩
def rMax2 : List V → Hp → VK → Prop := fun xs H Q => ∃ i j, xs = [.int i, .int j] ∧ Q (.int (if j > i then j else i)) H
def rMin2 : List V → Hp → VK → Prop := fun xs H Q => ∃ i j, xs = [.int i, .int j] ∧ Q (.int (if j < i then j else i)) H
theorem call_max2P {X : Cx} (hc : X.calm = true) : CallR X (.builtin "max") rMax2 := call_max2 hc
theorem call_min2P {X : Cx} (hc : X.calm = true) : CallR X (.builtin "min") rMin2 := call_min2 hc
theorem co_max2 : CO rMax2 ρ c [.int i, .int j] (.int (max i j)) := fun G0 H0 cp G H σ vs e h Q q => by
  obtain ⟨v, w, rfl, h1, h2⟩ := hnds2 h
  rw [h1.int, h2.int]
  refine ⟨i, j, rfl, ?_⟩
  have z : (if j > i then j else i) = max i j := by
    split <;> omega
  rw [z]
  exact q _ G H e (Same.refl _) (.int _)
theorem co_min2 : CO rMin2 ρ c [.int i, .int j] (.int (min i j)) := fun G0 H0 cp G H σ vs e h Q q => by
  obtain ⟨v, w, rfl, h1, h2⟩ := hnds2 h
  rw [h1.int, h2.int]
  refine ⟨i, j, rfl, ?_⟩
  have z : (if j < i then j else i) = min i j := by
    split <;> omega
  rw [z]
  exact q _ G H e (Same.refl _) (.int _)
/-- of a list of ints -/
theorem co_sum {ns : List Int} : CO (rSum K) ρ c [.lst (ns.map D.int)] (.int ns.sum) := fun G0 H0 cp G H σ vs e h Q q => by
  obtain ⟨v, rfl, hh⟩ := hnds1 h
  obtain ⟨p, ws, rfl, hp, r⟩ := hh.list e
  rw [r.ints] at hp
  exact ⟨p, ns, rfl, SqL.of hp, q _ G H e (Same.refl _) (.int _)⟩
theorem co_maxL {ns : List Int} {m : Int} (h0 : m ∈ ns) (h1 : ∀ y ∈ ns, y ≤ m) : CO (rMax K) ρ c [.lst (ns.map D.int)] (.int m) := fun G0 H0 cp G H σ vs e h Q q => by
  obtain ⟨v, rfl, hh⟩ := hnds1 h
  obtain ⟨p, ws, rfl, hp, r⟩ := hh.list e
  rw [r.ints] at hp
  refine ⟨p, ns, rfl, SqL.of hp, List.length_pos_of_mem h0, fun m' a b => ?_⟩
  have z : m' = m := Int.le_antisymm (h1 m' a) (b m h0)
  subst z
  exact q _ G H e (Same.refl _) (.int _)
theorem co_minL {ns : List Int} {m : Int} (h0 : m ∈ ns) (h1 : ∀ y ∈ ns, m ≤ y) : CO (rMin K) ρ c [.lst (ns.map D.int)] (.int m) := fun G0 H0 cp G H σ vs e h Q q => by
  obtain ⟨v, rfl, hh⟩ := hnds1 h
  obtain ⟨p, ws, rfl, hp, r⟩ := hh.list e
  rw [r.ints] at hp
  refine ⟨p, ns, rfl, SqL.of hp, List.length_pos_of_mem h0, fun m' a b => ?_⟩
  have z : m' = m := Int.le_antisymm (b m h0) (h1 m' a)
  subst z
  exact q _ G H e (Same.refl _) (.int _)
theorem con_sorted {ns ms : List Int} (h1 : ms.Perm ns) (h2 : ms.Pairwise (· ≤ ·)) : CON (rSortedI K) ρ c [.lst (ns.map D.int)] (ms.map D.int) := fun G0 H0 cp G H σ vs e h Q q => by
  obtain ⟨v, rfl, hh⟩ := hnds1 h
  obtain ⟨p, ws, rfl, hp, r⟩ := hh.list e
  rw [r.ints] at hp
  refine ⟨p, ns, rfl, SqL.of hp, fun ns' z a b hz => ?_⟩
  have eq : ns' = ms := List.Perm.eq_of_pairwise (fun x y _ _ h1 h2 => Int.le_antisymm h1 h2) b h2 (a.trans h1.symm)
  subst eq
  exact q z _ G _ (e.newOwn _ hz) (Same.refl _) (e.newFor _ hz) Reps.of_ints
/-- list(x), tuple(x) -/
def rListOf (K : PySem.W.Frag) : List V → Hp → VK → Prop := fun xs H Q => ∃ p ys, xs = [.ref p] ∧ (SqL K H p ys ∨ SqT K H p ys) ∧ ∀ l, H l = none → Q (.ref l) (upd H l (.lst ys))
theorem call_listP {X : Cx} : CallR X (.type "list") (rListOf X.K) := call_list_of
theorem con_list {xs : List D} (hd : d = .lst xs ∨ d = .tup xs) : CON (rListOf K) ρ c [d] xs := fun G0 H0 cp G H σ vs e h Q q => by
  obtain ⟨v, rfl, hh⟩ := hnds1 h
  rcases hd with hd | hd
  · subst hd
    obtain ⟨p, ws, rfl, hp, r⟩ := hh.list e
    exact ⟨p, ws, rfl, .inl (SqL.of hp), fun z hz => q z ws G _ (e.newOwn _ hz) (Same.refl _) (e.newFor _ hz) r⟩
  · subst hd
    obtain ⟨p, ws, rfl, hp, r⟩ := hh.tup e
    exact ⟨p, ws, rfl, .inr (SqT.of hp), fun z hz => q z ws G _ (e.newOwn _ hz) (Same.refl _) (e.newFor _ hz) r⟩
theorem con_listS {ns : List Int} : CON (rListOf K) ρ c [.scr K ns] (ns.map D.int) := fun G0 H0 cp G H σ vs e h Q q => by
  obtain ⟨v, rfl, hh⟩ := hnds1 h
  obtain ⟨p, rfl, hS⟩ := hh.scr
  exact ⟨p, ns.map V.int, rfl, .inl (sqm e.gr.s hS), fun l hl => q l _ G _ (e.newOwn _ hl) (Same.refl _) (e.newFor _ hl) Reps.of_ints⟩
def rTupleOf (K : PySem.W.Frag) : List V → Hp → VK → Prop := fun xs H Q => ∃ p ys, xs = [.ref p] ∧ ((SqL K H p ys ∧ ∀ l, H l = none → Q (.ref l) (upd H l (.tup ys))) ∨ (SqT K H p ys ∧ Q (.ref p) H))
theorem call_tupleP {X : Cx} : CallR X (.type "tuple") (rTupleOf X.K) := call_tuple_of
theorem co_tuple {xs : List D} (hd : d = .lst xs ∨ d = .tup xs) : CO (rTupleOf K) ρ c [d] (.tup xs) := fun G0 H0 cp G H σ vs e h Q q => by
  obtain ⟨v, rfl, hh⟩ := hnds1 h
  rcases hd with hd | hd
  · subst hd
    obtain ⟨p, ws, rfl, hp, r⟩ := hh.list e
    refine ⟨p, ws, rfl, .inl ⟨SqL.of hp, fun z hz => ?_⟩⟩
    have sm : Same G (upd G z (.tup ws)) := same_new (Same.free e.gr.s hz)
    exact q _ _ _ (e.newIn (.tup ws) hz) sm (.tup upd_same (r.mono sm))
  · subst hd
    have g1 : Rep G v (.tup xs) := hh.elim id fun ⟨_, _, z, _⟩ => by cases z
    obtain ⟨p, ws, rfl, hp, r⟩ := hh.tup e
    exact ⟨p, ws, rfl, .inr ⟨SqT.of hp, q _ G H e (Same.refl _) g1⟩⟩
/-- all, any of a list of bools -/
theorem co_all {l : List Bool} : CO (rAll K) ρ c [.lst (l.map D.bl)] (.bl (l.all id)) := fun G0 H0 cp G H σ vs e h Q q => by
  obtain ⟨v, rfl, hh⟩ := hnds1 h
  obtain ⟨p, ws, rfl, hp, r⟩ := hh.list e
  rw [r.bls] at hp
  exact ⟨p, l, rfl, SqL.of hp, q _ G H e (Same.refl _) (.bl _)⟩
theorem co_any {l : List Bool} : CO (rAny K) ρ c [.lst (l.map D.bl)] (.bl (l.any id)) := fun G0 H0 cp G H σ vs e h Q q => by
  obtain ⟨v, rfl, hh⟩ := hnds1 h
  obtain ⟨p, ws, rfl, hp, r⟩ := hh.list e
  rw [r.bls] at hp
  exact ⟨p, l, rfl, SqL.of hp, q _ G H e (Same.refl _) (.bl _)⟩
/-- isinstance(x, T), T built in -/
def D.ty : D → Option String
  | .non => some "NoneType"
  | .bl _ => some "bool"
  | .int _ => some "int"
  | .str _ => some "str"
  | .tup _ => some "tuple"
  | .lst _ => some "list"
  | .op _ => none
  | .scr _ _ => none
theorem Hnd.tyX {v : V} {T : String} (h : Hnd G σ ρ v d) (e : EnvR G0 H0 cp G H σ ρ c) (ht : d.ty = some T) : TyX K H v (.type T) := by
  cases d with
  | non => cases ht; rw [h.non]; exact .base .non
  | bl b => cases ht; rw [h.bl]; exact .base (.bl b)
  | int b => cases ht; rw [h.int]; exact .base (.int b)
  | str b => cases ht; rw [h.str]; exact .base (.str b)
  | tup xs =>
    cases ht
    obtain ⟨p, ws, rfl, hp, r⟩ := h.tup e
    exact .base (.tup hp)
  | lst xs =>
    cases ht
    obtain ⟨p, ws, rfl, hp, r⟩ := h.list e
    exact .base (.lst hp)
  | op v => cases ht
  | scr K ns => cases ht
/-- the answers: T a type of the data, U the class asked -/
def isI (T U : String) : Bool := T == U || (T == "bool" && U == "int")
theorem isI_ok {T U : String} (hT : T ∈ ["NoneType", "bool", "int", "str", "tuple", "list"]) (hU : U ∈ ["bool", "int", "str", "tuple", "list"]) : PySem.W.kitOne K (.type T) (.type U) = some (isI T U) := by
  refine kit_ty ?_
  have all : (["NoneType", "bool", "int", "str", "tuple", "list"].all fun T => ["bool", "int", "str", "tuple", "list"].all fun U => decide (kitB T U = some (isI T U))) = true := by decide +kernel
  have h1 := List.all_eq_true.mp all T hT
  have h2 := List.all_eq_true.mp h1 U hU
  exact of_decide_eq_true h2
theorem ty_mem {T : String} (h : d.ty = some T) : T ∈ ["NoneType", "bool", "int", "str", "tuple", "list"] := by
  cases d <;> cases h <;> simp
theorem co_isi {T U : String} (ht : d.ty = some T) (hU : U ∈ ["bool", "int", "str", "tuple", "list"]) : CO (rIsi K) ρ c [d, .op (.ty U)] (.bl (isI T U)) := fun G0 H0 cp G H σ vs e h Q q => by
  obtain ⟨v, w, rfl, h1, h2⟩ := hnds2 h
  rw [h2.opv]
  exact ⟨v, .ty U, .type T, .type U, _, rfl, .ty U, h1.tyX e ht, isI_ok (ty_mem ht) hU, q _ G H e (Same.refl _) (.bl _)⟩

/-! ### -x -/
theorem ev_neg (h : Eb te ρ c (.int i) c1) : Ev (tUn (rU fun i => .int (-i)) te) ρ c (.int (-i)) c1 := fun G0 H0 cp G H σ e Q q =>
  h G0 H0 cp G H σ e _ fun v G1 H1 e1 s1 r => by
    rw [r.int]
    exact ⟨i, rfl, q _ G1 H1 e1 s1 (.int _)⟩

/-! ### slices -/
def EvO (to : TO) (ρ : List Sl) (c : Cup) (o : Option Int) (c' : Cup) : Prop :=
  ∀ (G0 H0 : Hp) (cp : Addr) (G H : Hp) (σ : L2.St), EnvR G0 H0 cp G H σ ρ c → ∀ Q : Option Int → Hp → Prop, (∀ G' H', EnvR G0 H0 cp G' H' σ ρ c' → Same G G' → Q o H') → to σ H Q
theorem eo_none : EvO tNoPart ρ c none c := fun G0 H0 cp G H σ e Q q => q G H e (Same.refl _)
theorem eo_some (h : Eb te ρ c (.int i) c1) : EvO (tPart te) ρ c (some i) c1 := fun G0 H0 cp G H σ e Q q => h G0 H0 cp G H σ e _ fun v G1 H1 e1 s1 r => by
  rw [r.int]
  exact ⟨i, rfl, q G1 H1 e1 s1⟩
/-- the items of xs[lo:hi] -/
def cutD (xs : List D) (lo hi : Option Int) : List D := (xs.drop (HT.sIx xs.length 0 lo)).take (HT.sIx xs.length xs.length hi - HT.sIx xs.length 0 lo)
theorem cut_reps {vs : List V} {xs : List D} {lo hi : Option Int} (r : Reps G vs xs) : Reps G (cutV vs lo hi) (cutD xs lo hi) := by
  unfold cutV cutD
  rw [r.length]
  exact (r.drop _).take _
def rSlP (K : PySem.W.Frag) : V → Option Int → Option Int → Hp → VK → Prop := fun x lo hi H Q => rSlL K x lo hi H Q ∨ ((fun x lo hi H Q => rSlA K x lo hi H Q ∨ rSlS x lo hi H Q) x lo hi H Q)
theorem sl_any {X : Cx} : SlR X (rSlP X.K) := sl_list.or (sl_tupA.or sl_str)
theorem en_slL {tl th : TO} {xs : List D} {lo hi : Option Int} (h : Eb te ρ c (.lst xs) c1) (h1 : EvO tl ρ c1 lo c2) (h2 : EvO th ρ c2 hi c3) : EvN (tSl (rSlP K) te tl th) ρ c (cutD xs lo hi) c3 := fun G0 H0 cp G H σ e Q q =>
  h G0 H0 cp G H σ e _ fun v G1 H1 e1 s1 r => h1 G0 H0 cp G1 H1 σ e1 _ fun G2 H2 e2 s2 => h2 G0 H0 cp G2 H2 σ e2 _ fun G3 H3 e3 s3 => by
    obtain ⟨p, ws, rfl, hp, r⟩ := (r.mono (s2.trans s3)).list e3
    exact .inl ⟨p, ws, rfl, SqL.of hp, fun z hz => q z _ G3 _ (e3.newOwn _ hz) (s1.trans (s2.trans s3)) (e3.newFor _ hz) (cut_reps r)⟩
theorem ev_slT {tl th : TO} {xs : List D} {lo hi : Option Int} (h : Eb te ρ c (.tup xs) c1) (h1 : EvO tl ρ c1 lo c2) (h2 : EvO th ρ c2 hi c3) : Ev (tSl (rSlP K) te tl th) ρ c (.tup (cutD xs lo hi)) c3 := fun G0 H0 cp G H σ e Q q =>
  h G0 H0 cp G H σ e _ fun v G1 H1 e1 s1 r => h1 G0 H0 cp G1 H1 σ e1 _ fun G2 H2 e2 s2 => h2 G0 H0 cp G2 H2 σ e2 _ fun G3 H3 e3 s3 => by
    have r := r.mono (s2.trans s3)
    have g1 : Rep G3 v (.tup xs) := r.elim id fun ⟨_, _, z, _⟩ => by cases z
    obtain ⟨p, ws, rfl, hp, r⟩ := r.tup e3
    refine .inr (.inl ⟨p, ws, rfl, SqT.of hp, fun z => ?_, fun _ z hz => ?_⟩)
    · have ez : cutD xs lo hi = xs := by
        unfold cutD
        rw [← r.length, z.1, z.2, List.drop_zero, Nat.sub_zero, r.length, List.take_length]
      rw [ez] at q
      exact q _ G3 H3 e3 (s1.trans (s2.trans s3)) g1
    · have sm : Same G3 (upd G3 z (.tup (cutV ws lo hi))) := same_new (Same.free e3.gr.s hz)
      exact q _ _ _ (e3.newIn _ hz) ((s1.trans (s2.trans s3)).trans sm) (.tup upd_same ((cut_reps r).mono sm))
theorem en_rev {xs : List D} (h : Eb te ρ c (.lst xs) c1) : EvN (tRevL K te) ρ c xs.reverse c1 := fun G0 H0 cp G H σ e Q q =>
  h G0 H0 cp G H σ e _ fun v G1 H1 e1 s1 r => by
    obtain ⟨p, ws, rfl, hp, r⟩ := r.list e1
    exact ⟨p, ws, rfl, SqL.of hp, fun z hz => q z _ G1 _ (e1.newOwn _ hz) s1 (e1.newFor _ hz) r.reverse⟩
/-- list(range(..)) -/
theorem en_lstRg1 (h : Ev te ρ c (.int i) c1) (h0 : -(2 ^ 62) ≤ i) (h1 : i ≤ 16777216) : EvN (tLstRg (tRg1 te)) ρ c (rng 0 i.toNat) c1 := fun G0 H0 cp G H σ e Q q =>
  h G0 H0 cp G H σ e _ fun v G1 H1 e1 s1 r => by
    cases r
    refine ⟨i, rfl, ⟨by omega, by omega, h0, by omega, by omega⟩, fun z hz => q z _ G1 _ (e1.newOwn _ hz) s1 (e1.newFor _ hz) ?_⟩
    have key : ∀ n : Nat, ∀ lo : Int, Reps G1 ((List.range n).map fun k : Nat => V.int (lo + (k : Nat))) ((List.range n).map fun k : Nat => D.int (lo + (k : Nat))) := by
      intro n lo
      have := Reps.of_ints (G := G1) (ns := (List.range n).map fun k : Nat => lo + (k : Nat))
      rw [List.map_map, List.map_map] at this
      exact this
    have ez : (i - 0).toNat = i.toNat := by omega
    unfold rgV rng
    rw [ez]
    exact key i.toNat 0

/-! ### zip, enumerate -/
def zipD : List D → List D → List D
  | x :: xs, y :: ys => .tup [x, y] :: zipD xs ys
  | _, _ => []
theorem zipD_len : ∀ xs ys : List D, (zipD xs ys).length = min xs.length ys.length
  | [], _ => by simp [zipD]
  | _ :: _, [] => by simp [zipD]
  | x :: xs, y :: ys => by
    show (zipD xs ys).length + 1 = _
    rw [zipD_len xs ys, List.length_cons, List.length_cons]
    omega
theorem zipD_get : ∀ {xs ys : List D} {k : Nat} {z : D}, (zipD xs ys)[k]? = some z → ∃ x y, xs[k]? = some x ∧ ys[k]? = some y ∧ z = .tup [x, y]
  | [], _, k, z, h => by simp [zipD] at h
  | _ :: _, [], k, z, h => by simp [zipD] at h
  | x :: xs, y :: ys, 0, z, h => by
    simp [zipD] at h
    exact ⟨x, y, rfl, rfl, h.symm⟩
  | x :: xs, y :: ys, k + 1, z, h => by
    have h' : (zipD xs ys)[k]? = some z := by simpa [zipD] using h
    obtain ⟨a, b, h1, h2, h3⟩ := zipD_get h'
    exact ⟨a, b, by simpa using h1, by simpa using h2, h3⟩
theorem yl_zipL {a b : Addr} {vs ws : List V} {xs ys : List D} (h : G a = some (.lst vs)) (h' : G b = some (.lst ws)) (r : Reps G vs xs) (r' : Reps G ws ys) : Yl (Itz K a b) G (zipD xs ys) := by
  have at_ : ∀ G1 H1, Same G G1 → Same G1 H1 → SqL K H1 a vs := fun G1 H1 s1 s2 => SqL.of (s2 _ _ (s1 _ _ h))
  have at2 : ∀ G1 H1, Same G G1 → Same G1 H1 → SqL K H1 b ws := fun G1 H1 s1 s2 => SqL.of (s2 _ _ (s1 _ _ h'))
  refine ⟨fun G1 H1 s1 s2 i hi => ?_, fun G1 H1 s1 s2 i z hz v H2 y => ?_, fun G1 H1 s1 s2 i hi => ?_⟩
  · obtain ⟨x, y, h1, h2, _⟩ := zipD_get (List.getElem?_eq_getElem hi)
    obtain ⟨v, h3, _⟩ := r.get h1
    obtain ⟨w, h4, _⟩ := r'.get h2
    exact ⟨vs, ws, v, w, at_ G1 H1 s1 s2, at2 G1 H1 s1 s2, h3, h4⟩
  · obtain ⟨T, v1, w1, rfl, hT, rfl, y1, y2⟩ := y
    obtain ⟨x, y, h1, h2, rfl⟩ := zipD_get hz
    obtain ⟨v, h3, h5⟩ := r.get h1
    obtain ⟨w, h4, h6⟩ := r'.get h2
    have e1 := y1 vs (at_ G1 H1 s1 s2)
    have e2 := y2 ws (at2 G1 H1 s1 s2)
    rw [h3] at e1
    rw [h4] at e2
    cases e1
    cases e2
    have sm : Same G1 (upd G1 T (.tup [v1, w1])) := same_new (Same.free s2 hT)
    exact ⟨upd G1 T (.tup [v1, w1]), Gr.new s2 hT, .tup upd_same (.cons (h5.mono (s1.trans sm)) (.cons (h6.mono (s1.trans sm)) .nil))⟩
  · rw [zipD_len] at hi
    refine ⟨vs, ws, at_ G1 H1 s1 s2, at2 G1 H1 s1 s2, ?_⟩
    rw [r.length, r'.length]
    omega
theorem yl_zipT {a b : Addr} {vs ws : List V} {xs ys : List D} (h : G a = some (.tup vs)) (h' : G b = some (.tup ws)) (r : Reps G vs xs) (r' : Reps G ws ys) : Yl (RZ.ItzT K a b) G (zipD xs ys) := by
  have at_ : ∀ G1 H1, Same G G1 → Same G1 H1 → SqT K H1 a vs := fun G1 H1 s1 s2 => SqT.of (s2 _ _ (s1 _ _ h))
  have at2 : ∀ G1 H1, Same G G1 → Same G1 H1 → SqT K H1 b ws := fun G1 H1 s1 s2 => SqT.of (s2 _ _ (s1 _ _ h'))
  refine ⟨fun G1 H1 s1 s2 i hi => ?_, fun G1 H1 s1 s2 i z hz v H2 y => ?_, fun G1 H1 s1 s2 i hi => ?_⟩
  · obtain ⟨x, y, h1, h2, _⟩ := zipD_get (List.getElem?_eq_getElem hi)
    obtain ⟨v, h3, _⟩ := r.get h1
    obtain ⟨w, h4, _⟩ := r'.get h2
    exact ⟨vs, ws, v, w, at_ G1 H1 s1 s2, at2 G1 H1 s1 s2, h3, h4⟩
  · obtain ⟨T, v1, w1, rfl, hT, rfl, y1, y2⟩ := y
    obtain ⟨x, y, h1, h2, rfl⟩ := zipD_get hz
    obtain ⟨v, h3, h5⟩ := r.get h1
    obtain ⟨w, h4, h6⟩ := r'.get h2
    have e1 := y1 vs (at_ G1 H1 s1 s2)
    have e2 := y2 ws (at2 G1 H1 s1 s2)
    rw [h3] at e1
    rw [h4] at e2
    cases e1
    cases e2
    have sm : Same G1 (upd G1 T (.tup [v1, w1])) := same_new (Same.free s2 hT)
    exact ⟨upd G1 T (.tup [v1, w1]), Gr.new s2 hT, .tup upd_same (.cons (h5.mono (s1.trans sm)) (.cons (h6.mono (s1.trans sm)) .nil))⟩
  · rw [zipD_len] at hi
    refine ⟨vs, ws, at_ G1 H1 s1 s2, at2 G1 H1 s1 s2, ?_⟩
    rw [r.length, r'.length]
    omega
theorem ei_zipL {tl : TA} {xs ys : List D} (h : EvA tl ρ c [.lst xs, .lst ys] c1) : EvI (RZ.iZipA K tl) ρ c (zipD xs ys) c1 := fun G0 H0 cp G H σ e R q => h G0 H0 cp G H σ e _ fun vs G1 H1 e1 s1 r => by
  cases r with
  | cons r1 r =>
    cases r with
    | cons r2 r =>
      cases r
      cases r1 with
      | lst a1 b1 =>
        cases r2 with
        | lst a2 b2 => exact ⟨_, _, _, _, rfl, .inl ⟨SqL.of (e1.gr.s _ _ a1), SqL.of (e1.gr.s _ _ a2), q _ G1 H1 e1 s1 (yl_zipL a1 a2 b1 b2)⟩⟩
theorem ei_zipT {tl : TA} {xs ys : List D} (h : EvA tl ρ c [.tup xs, .tup ys] c1) : EvI (RZ.iZipA K tl) ρ c (zipD xs ys) c1 := fun G0 H0 cp G H σ e R q => h G0 H0 cp G H σ e _ fun vs G1 H1 e1 s1 r => by
  cases r with
  | cons r1 r =>
    cases r with
    | cons r2 r =>
      cases r
      cases r1 with
      | tup a1 b1 =>
        cases r2 with
        | tup a2 b2 => exact ⟨_, _, _, _, rfl, .inr ⟨SqT.of (e1.gr.s _ _ a1), SqT.of (e1.gr.s _ _ a2), q _ G1 H1 e1 s1 (yl_zipT a1 a2 b1 b2)⟩⟩
def enumD (k : Nat) : List D → List D
  | [] => []
  | x :: xs => .tup [.int k, x] :: enumD (k + 1) xs
theorem enumD_len : ∀ (k : Nat) (xs : List D), (enumD k xs).length = xs.length
  | _, [] => rfl
  | k, x :: xs => by
    show (enumD (k + 1) xs).length + 1 = xs.length + 1
    rw [enumD_len (k + 1) xs]
theorem enumD_get : ∀ {k : Nat} {xs : List D} {i : Nat} {z : D}, (enumD k xs)[i]? = some z → ∃ x, xs[i]? = some x ∧ z = .tup [.int ((k + i : Nat) : Int), x]
  | k, [], i, z, h => by simp [enumD] at h
  | k, x :: xs, 0, z, h => by
    simp [enumD] at h
    exact ⟨x, rfl, h.symm⟩
  | k, x :: xs, i + 1, z, h => by
    have h' : (enumD (k + 1) xs)[i]? = some z := by simpa [enumD] using h
    obtain ⟨a, h1, h3⟩ := enumD_get h'
    refine ⟨a, by simpa using h1, ?_⟩
    rw [h3, show k + 1 + i = k + (i + 1) by omega]
theorem yl_enum {a : Addr} {vs : List V} {xs : List D} (h : G a = some (.lst vs)) (r : Reps G vs xs) : Yl (Ite K a) G (enumD 0 xs) := by
  have at_ : ∀ G1 H1, Same G G1 → Same G1 H1 → SqL K H1 a vs := fun G1 H1 s1 s2 => SqL.of (s2 _ _ (s1 _ _ h))
  refine ⟨fun G1 H1 s1 s2 i hi => ?_, fun G1 H1 s1 s2 i z hz v H2 y => ?_, fun G1 H1 s1 s2 i hi => ?_⟩
  · obtain ⟨x, h1, _⟩ := enumD_get (List.getElem?_eq_getElem hi)
    obtain ⟨v, h3, _⟩ := r.get h1
    exact ⟨vs, v, at_ G1 H1 s1 s2, h3⟩
  · obtain ⟨T, v1, rfl, hT, rfl, y1⟩ := y
    obtain ⟨x, h1, rfl⟩ := enumD_get hz
    obtain ⟨v, h3, h5⟩ := r.get h1
    have e1 := y1 vs (at_ G1 H1 s1 s2)
    rw [h3] at e1
    cases e1
    have sm : Same G1 (upd G1 T (.tup [.int (i : Nat), v1])) := same_new (Same.free s2 hT)
    rw [Nat.zero_add]
    exact ⟨upd G1 T (.tup [.int (i : Nat), v1]), Gr.new s2 hT, .tup upd_same (.cons (.int _) (.cons (h5.mono (s1.trans sm)) .nil))⟩
  · rw [enumD_len] at hi
    exact ⟨vs, at_ G1 H1 s1 s2, by rw [r.length]; exact hi⟩
theorem ei_enum {tl : TA} {xs : List D} (h : EvA tl ρ c [.lst xs] c1) : EvI (iEnum K tl) ρ c (enumD 0 xs) c1 := fun G0 H0 cp G H σ e R q => h G0 H0 cp G H σ e _ fun vs G1 H1 e1 s1 r => by
  cases r with
  | cons r1 r =>
    cases r
    cases r1 with
    | lst a1 b1 => exact ⟨_, _, rfl, SqL.of (e1.gr.s _ _ a1), q _ G1 H1 e1 s1 (yl_enum a1 b1)⟩

/-! ### lists of one's own -/
theorem ho_append {k : Nat} {xs : List D} (h : Ev te ρ c d c1) (hk : ρ[k]? = some (.own xs)) (hz : xs.length < sizeLine) (q : P.nx (ρ.set k (.own (xs ++ [d]))) c1) : Ho (tDrop (tBM K "list" rAppend (tVar k) (tCons te tNil))) ρ c P := fun G0 H0 cp G H σ e E hn _ _ _ => by
  obtain ⟨p0, vs0, h1, hb0, hg0, hp0, r0⟩ := e.own hk
  refine ⟨.ref p0, h1, .inl ⟨rfl, vs0, SqL.of hp0⟩, h G0 H0 cp G H σ e _ fun v G1 H1 e1 s1 r => ?_⟩
  obtain ⟨p, vs, h2, hb, hg, hp, r2⟩ := e1.own hk
  rw [h1] at h2
  cases h2
  refine ⟨p0, vs, v, rfl, rfl, hp, by rw [r2.length]; exact hz, ?_⟩
  exact hn _ c1 G1 _ σ (e1.write (s := .own (xs ++ [d])) hk rfl h1 hb hg ⟨p0, vs ++ [v], rfl, hb, hg, upd_same, r2.snoc r⟩ rfl) s1 q
theorem ho_setL {k n : Nat} {xs : List D} (hv : Ev te ρ c d c1) (hi : Eb tb ρ c1 (.int i) c2) (hk : ρ[k]? = some (.own xs)) (hn : ixN xs.length i = some n) (q : P.nx (ρ.set k (.own (xs.set n d))) c2) : Ho (tAsg te (gSub (tVar k) tb rSetL)) ρ c P := fun G0 H0 cp G H σ e E hnx _ _ _ =>
  hv G0 H0 cp G H σ e _ fun v G1 H1 e1 s1 r => by
    obtain ⟨p0, vs0, h1, _⟩ := e1.own hk
    refine ⟨.ref p0, h1, hi G0 H0 cp G1 H1 σ e1 _ fun w G2 H2 e2 s2 r2 => ?_⟩
    obtain ⟨p, vs, h2, hb, hg, hp, r3⟩ := e2.own hk
    rw [h1] at h2
    cases h2
    rw [r2.int]
    refine ⟨p0, vs, i, n, rfl, rfl, hp, by rw [r3.length]; exact hn, ?_⟩
    exact hnx _ c2 G2 _ σ (e2.write (s := .own (xs.set n d)) hk rfl h1 hb hg ⟨p0, vs.set n v, rfl, hb, hg, upd_same, r3.set (r.mono s2) n⟩ rfl) (s1.trans s2) q
/-- x = xs.pop() -/
theorem ho_pop {k : Nat} {xs : List D} {x : D} {is : List Nat} (hk : ρ[k]? = some (.own (xs ++ [x]))) (ha : AsT g x (ρ.set k (.own xs)) ρ' is) (q : P.nx ρ' c) : Ho (tAsg (tBM0 K "list" rPop (tVar k)) g) ρ c P := fun G0 H0 cp G H σ e E hnx _ _ _ => by
  obtain ⟨p, vs, h1, hb, hg, hp, r⟩ := e.own hk
  have hl := r.length
  rw [List.length_append] at hl
  have hl1 : vs.length - 1 = xs.length := by simp at hl; omega
  obtain ⟨v, h2, h3⟩ := r.get (i := xs.length) (d := x) (by simp)
  refine ⟨.ref p, h1, .inl ⟨rfl, vs, SqL.of hp⟩, p, vs, v, rfl, rfl, hp, by rw [hl1]; exact h2, ?_⟩
  have rd := r.dropLast
  rw [List.dropLast_concat] at rd
  have e2 := e.write (s := .own xs) hk rfl h1 hb hg ⟨p, vs.dropLast, rfl, hb, hg, upd_same, rd⟩ rfl
  exact ha G0 H0 cp G _ σ c v e2 h3 _ fun σ' e3 _ => hnx _ c G _ σ' e3 (Same.refl _) q
/-- cup[0] = e, cup[1] = e -/
theorem ho_cup0 {k : Nat} {x : Int × Int} {a : Int} (hv : Ev te ρ c (.int a) (some x)) (hk : ρ[k]? = some .cup) (q : P.nx ρ (some (a, x.2))) : Ho (tAsg te (gSub (tVar k) (tC (.int 0)) rSetL)) ρ c P := fun G0 H0 cp G H σ e E hnx _ _ _ =>
  hv G0 H0 cp G H σ e _ fun v G1 H1 e1 s1 r => by
    cases r
    exact ⟨_, e1.isCup hk, cp, [.int x.1, .int x.2], 0, 0, rfl, rfl, e1.cupH, rfl, hnx _ _ G1 _ σ (e1.pour (a, x.2)) s1 q⟩
theorem ho_cup1 {k : Nat} {x : Int × Int} {a : Int} (hv : Ev te ρ c (.int a) (some x)) (hk : ρ[k]? = some .cup) (q : P.nx ρ (some (x.1, a))) : Ho (tAsg te (gSub (tVar k) (tC (.int 1)) rSetL)) ρ c P := fun G0 H0 cp G H σ e E hnx _ _ _ =>
  hv G0 H0 cp G H σ e _ fun v G1 H1 e1 s1 r => by
    cases r
    exact ⟨_, e1.isCup hk, cp, [.int x.1, .int x.2], 1, 1, rfl, rfl, e1.cupH, rfl, hnx _ _ G1 _ σ (e1.pour (x.1, a)) s1 q⟩

/-! ### comprehensions -/
/-- the slots ahead of a turn -/
def wipeS (ρ : List Sl) : List Nat → List Sl
  | [] => ρ
  | v :: vs => (wipeS ρ vs).set v .dead
theorem EnvR.wiped (e : EnvR G0 H0 cp G H σ ρ c) : ∀ vs : List Nat, EnvR G0 H0 cp G H (wipe σ vs) (wipeS ρ vs) c
  | [] => e
  | v :: vs => (e.wiped vs).setDead v none
/-- what a comprehension gives, and how the cup goes -/
inductive LcR (g : TG) (t : TT) (te : TE) (ρw : List Sl) (is : List Nat) : List D → Cup → List D → Cup → Prop
  | nil (c : Cup) : LcR g t te ρw is [] c [] c
  | skip {x : D} {xs ys : List D} {c c1 c2 : Cup} {ρ2 : List Sl} {js : List Nat} (ha : AsT g x ρw ρ2 js) (hj : ∀ j ∈ js, j ∈ is) (hw : wipeS ρ2 is = ρw) (ht : EvT t ρ2 c false c1) (hn : c = none → c1 = none) (r : LcR g t te ρw is xs c1 ys c2) : LcR g t te ρw is (x :: xs) c ys c2
  | take {x y : D} {xs ys : List D} {c c1 c2 c3 : Cup} {ρ2 : List Sl} {js : List Nat} (ha : AsT g x ρw ρ2 js) (hj : ∀ j ∈ js, j ∈ is) (hw : wipeS ρ2 is = ρw) (ht : EvT t ρ2 c true c1) (he : Ev te ρ2 c1 y c2) (hn : c = none → c2 = none) (r : LcR g t te ρw is xs c2 ys c3) : LcR g t te ρw is (x :: xs) c (y :: ys) c3
theorem LcR.len {is : List Nat} {xs ys : List D} (h : LcR g t te ρ is xs c ys c') : ys.length ≤ xs.length := by
  induction h with
  | nil => exact Nat.le_refl _
  | skip _ _ _ _ _ _ ih => rw [List.length_cons]; omega
  | take _ _ _ _ _ _ _ ih => rw [List.length_cons, List.length_cons]; omega
/-- each item by itself, no cup -/
theorem LcR.of {is : List Nat} {xs : List D} (p : D → Bool) (f : D → D) (h : ∀ x ∈ xs, ∃ ρ2 js, AsT g x ρ ρ2 js ∧ (∀ j ∈ js, j ∈ is) ∧ wipeS ρ2 is = ρ ∧ EvT t ρ2 c (p x) c ∧ (p x = true → Ev te ρ2 c (f x) c)) : LcR g t te ρ is xs c ((xs.filter p).map f) c := by
  induction xs with
  | nil => exact .nil c
  | cons x xs ih =>
    obtain ⟨ρ2, js, h1, h2, hw, h3, h4⟩ := h x List.mem_cons_self
    have ih := ih fun y hy => h y (List.mem_cons_of_mem _ hy)
    cases q : p x with
    | true =>
      rw [List.filter_cons, if_pos q, List.map_cons]
      rw [q] at h3
      exact .take h1 h2 hw h3 (h4 q) id ih
    | false =>
      rw [List.filter_cons, if_neg (by rw [q]; exact Bool.false_ne_true)]
      rw [q] at h3
      exact .skip h1 h2 hw h3 id ih
/-- the entry knows one object more -/
theorem EnvR.guard {p : Addr} {o : HO} (e : EnvR G0 H0 cp G H σ ρ c) (n : New G H σ ρ (bs H0 cp c) p o) : EnvR G0 (upd H0 p o) cp G H σ ρ c ∧ H0 p = none := by
  have hb0 : H0 p = none ∧ (c ≠ none → p ≠ cp) := by
    cases c with
    | none => exact ⟨n.b, fun z => absurd rfl z⟩
    | some x =>
      have ne : p ≠ cp := fun z => by
        have := n.b
        rw [z] at this
        rw [show bs H0 cp (some x) cp = some (cupO x) from upd_same] at this
        cases this
      have := n.b
      rw [show bs H0 cp (some x) p = H0 p from upd_ne ne] at this
      exact ⟨this, fun _ => ne⟩
  have bz : ∀ a, bs (upd H0 p o) cp c a = if a = p then some o else bs H0 cp c a := by
    intro a
    cases c with
    | none => rfl
    | some x =>
      have ne := hb0.2 (by simp)
      show upd (upd H0 p o) cp (cupO x) a = if a = p then some o else upd H0 cp (cupO x) a
      by_cases z : a = cp
      · subst z
        rw [upd_same, if_neg (Ne.symm ne), upd_same]
      · rw [upd_ne z, upd_ne z]
        rfl
  refine ⟨⟨⟨e.gr.g, fun a u q => ?_, e.gr.s, fun a u q1 q2 => ?_⟩, e.c0, e.len, fun k o' s a b => ?_, e.ap⟩, hb0.1⟩
  · rw [bz] at q
    by_cases z : a = p
    · rw [if_pos z] at q
      cases q
      rw [z]
      exact n.h
    · rw [if_neg z] at q
      exact e.gr.h a u q
  · rw [bz] at q1
    by_cases z : a = p
    · rw [z]
      exact n.g
    · rw [if_neg z] at q1
      exact e.gr.fr a u q1 q2
  · have w := e.sl k o' s a b
    have nb : ∀ q, bs H0 cp c q = none → q ≠ p → bs (upd H0 p o) cp c q = none := fun q h1 h2 => by rw [bz, if_neg h2]; exact h1
    cases s with
    | dead => trivial
    | dat d => exact w
    | own ys =>
      obtain ⟨q, vs', e1, b1, g1, e3, r⟩ := w
      subst e1
      exact ⟨q, vs', rfl, nb q b1 (fun z => n.n k _ b rfl (by rw [a, z])), g1, e3, r⟩
    | odk ys =>
      obtain ⟨q, vs', e1, b1, g1, e3, r⟩ := w
      subst e1
      exact ⟨q, vs', rfl, nb q b1 (fun z => n.n k _ b rfl (by rw [a, z])), g1, e3, r⟩
    | cup => exact w
theorem EnvR.unguard {p : Addr} {o : HO} (e : EnvR G0 (upd H0 p o) cp G H σ ρ c) (h0 : H0 p = none) (hg0 : G0 p = none) (hc : c ≠ none → p ≠ cp) : EnvR G0 H0 cp G H σ ρ c ∧ New G H σ ρ (bs H0 cp c) p o := by
  have bz : ∀ a, bs (upd H0 p o) cp c a = if a = p then some o else bs H0 cp c a := by
    intro a
    cases c with
    | none => rfl
    | some x =>
      have ne := hc (by simp)
      show upd (upd H0 p o) cp (cupO x) a = if a = p then some o else upd H0 cp (cupO x) a
      by_cases z : a = cp
      · subst z
        rw [upd_same, if_neg (Ne.symm ne), upd_same]
      · rw [upd_ne z, upd_ne z]
        rfl
  have bp : bs H0 cp c p = none := by
    cases c with
    | none => exact h0
    | some x => exact (upd_ne (hc (by simp))).trans h0
  have sub : ∀ a u, bs H0 cp c a = some u → bs (upd H0 p o) cp c a = some u := fun a u q => by
    rw [bz, if_neg (fun z => by rw [z, bp] at q; cases q)]
    exact q
  have back : ∀ q, bs (upd H0 p o) cp c q = none → bs H0 cp c q = none ∧ q ≠ p := fun q h1 => by
    rw [bz] at h1
    by_cases z : q = p
    · rw [if_pos z] at h1; cases h1
    · rw [if_neg z] at h1; exact ⟨h1, z⟩
  have hp : H p = some o := e.gr.h p o (by rw [bz, if_pos rfl])
  have hg : G p = none := e.gr.fr p o (by rw [bz, if_pos rfl]) hg0
  refine ⟨⟨⟨e.gr.g, fun a u q => e.gr.h a u (sub a u q), e.gr.s, fun a u q1 q2 => e.gr.fr a u (sub a u q1) q2⟩, e.c0, e.len, fun k o' s a b => ?_, e.ap⟩, bp, hg, hp, fun k s a b z => ?_⟩
  · have w := e.sl k o' s a b
    cases s with
    | dead => trivial
    | dat d => exact w
    | own ys => obtain ⟨q, vs', e1, b1, g1, e3, r⟩ := w; exact ⟨q, vs', e1, (back q b1).1, g1, e3, r⟩
    | odk ys => obtain ⟨q, vs', e1, b1, g1, e3, r⟩ := w; exact ⟨q, vs', e1, (back q b1).1, g1, e3, r⟩
    | cup => exact w
  · cases s with
    | own ys =>
      obtain ⟨q, vs', e1, b1, _⟩ := e.own a
      rw [z] at e1
      cases e1
      exact (back p b1).2 rfl
    | odk ys =>
      obtain ⟨q, vs', e1, b1, _⟩ := e.odk a
      rw [z] at e1
      cases e1
      exact (back p b1).2 rfl
    | _ => cases b
theorem wipeS_get {ρ : List Sl} {k : Nat} : ∀ {vs : List Nat}, k ∉ vs → (wipeS ρ vs)[k]? = ρ[k]?
  | [], _ => rfl
  | v :: vs, h => by
    simp only [List.mem_cons, not_or] at h
    unfold wipeS
    rw [List.getElem?_set_ne (Ne.symm h.1), wipeS_get h.2]
theorem wipe_get {σ : L2.St} {k : Nat} : ∀ {vs : List Nat}, k ∉ vs → (wipe σ vs)[k]? = σ[k]?
  | [], _ => rfl
  | v :: vs, h => by
    simp only [List.mem_cons, not_or] at h
    unfold wipe
    rw [List.getElem?_set_ne (Ne.symm h.1), wipe_get h.2]
theorem wipeS_len {ρ : List Sl} : ∀ {vs : List Nat}, (wipeS ρ vs).length = ρ.length
  | [] => rfl
  | v :: vs => by
    unfold wipeS
    rw [List.length_set, wipeS_len]
/-- behind a turn: the slots as they were -/
theorem EnvR.restore {σ3 : L2.St} {G4 H4 : Hp} {c4 : Cup} {vs : List Nat} (e0 : EnvR G0 H0 cp G H σ ρ c) (e4 : EnvR G0 H0 cp G4 H4 σ3 ρ2 c4) (sm : Same G G4) (hσ : wipe σ3 vs = wipe σ vs) (hρ : wipeS ρ2 vs = wipeS ρ vs)
    (hno : ∀ k s, k ∈ vs → ρ[k]? = some s → s.isOwn = false) : EnvR G0 H0 cp G4 H4 σ ρ c4 := by
  have s3 : ∀ k, k ∉ vs → σ3[k]? = σ[k]? := fun k hk => by rw [← wipe_get hk, hσ, wipe_get hk]
  have r3 : ∀ k, k ∉ vs → ρ2[k]? = ρ[k]? := fun k hk => by rw [← wipeS_get hk, hρ, wipeS_get hk]
  have own_out : ∀ k s, ρ[k]? = some s → s.isOwn = true → k ∉ vs := fun k s h1 h2 hk => by rw [hno k s hk h1] at h2; cases h2
  refine ⟨e4.gr, e4.c0, e0.len, fun k o s a b => ?_, fun k j sk sj p h1 h2 h3 h4 h5 h6 => ?_⟩
  · by_cases hk : k ∈ vs
    · have w := e0.sl k o s a b
      have no := hno k s hk b
      cases s with
      | dead => trivial
      | dat d => obtain ⟨v, q, r⟩ := w; exact ⟨v, q, r.mono sm⟩
      | own _ => cases no
      | odk _ => cases no
      | cup => exact w
    · exact e4.sl k o s (by rw [s3 k hk]; exact a) (by rw [r3 k hk]; exact b)
  · have k1 := own_out k sk h1 h3
    have k2 := own_out j sj h2 h4
    exact e4.ap k j sk sj p (by rw [r3 k k1]; exact h1) (by rw [r3 j k2]; exact h2) h3 h4 (by rw [s3 k k1]; exact h5) (by rw [s3 j k2]; exact h6)
theorem New.mono {p : Addr} {o : HO} (n : New G H σ ρ (bs H0 cp c) p o) (g : Gr G H G' H') : New G' H' σ ρ (bs H0 cp c) p o := ⟨n.b, g.fr _ _ n.h n.g, g.h _ _ n.h, n.n⟩
theorem New.ncp {p : Addr} {o : HO} (n : New G H σ ρ (bs H0 cp c) p o) : c ≠ none → p ≠ cp := fun hc z => by
  cases c with
  | none => exact hc rfl
  | some x =>
    have := n.b
    rw [z] at this
    rw [show bs H0 cp (some x) cp = some (cupO x) from upd_same] at this
    cases this
theorem New.write {p : Addr} {o o' : HO} (n : New G H σ ρ (bs H0 cp c) p o) (e : EnvR G0 H0 cp G H σ ρ c) : EnvR G0 H0 cp G (upd H p o') σ ρ c ∧ New G (upd H p o') σ ρ (bs H0 cp c) p o' := by
  refine ⟨⟨e.gr.write n.b n.g, e.c0, e.len, fun k o s a b => ?_, e.ap⟩, n.b, n.g, upd_same, n.n⟩
  have z := e.sl k o s a b
  cases s with
  | dead => trivial
  | dat d => exact z
  | own ys =>
    obtain ⟨q, vs', e1, b1, g1, e3, r⟩ := z
    subst e1
    refine ⟨q, vs', rfl, b1, g1, ?_, r⟩
    rw [upd_ne (fun z => n.n k _ b rfl (by rw [a, z]))]
    exact e3
  | odk ys =>
    obtain ⟨q, vs', e1, b1, g1, e3, r⟩ := z
    subst e1
    refine ⟨q, vs', rfl, b1, g1, ?_, r⟩
    rw [upd_ne (fun z => n.n k _ b rfl (by rw [a, z]))]
    exact e3
  | cup => exact z
theorem wipe_wipe (σ : L2.St) (ws : List Nat) : wipe (wipe σ ws) ws = wipe σ ws := by
  apply List.ext_getElem?
  intro k
  by_cases hk : k ∈ ws
  · have key : ∀ (τ : L2.St) (us : List Nat), k ∈ us → (wipe τ us)[k]? = τ[k]?.map fun _ => none := by
      intro τ us
      induction us with
      | nil => intro z; simp at z
      | cons u us ih =>
        intro z
        unfold wipe
        by_cases q : u = k
        · subst q
          rw [List.getElem?_set]
          simp only [if_true, wipe_length]
          by_cases hl : u < τ.length
          · rw [if_pos hl, List.getElem?_eq_getElem hl]
            rfl
          · rw [if_neg hl, List.getElem?_eq_none (by omega)]
            rfl
        · rw [List.getElem?_set_ne q]
          refine ih ?_
          rcases List.mem_cons.mp z with z | z
          · exact absurd z.symm q
          · exact z
    rw [key _ ws hk, key _ ws hk, Option.map_map]
    cases σ[k]? <;> rfl
  · rw [wipe_get hk]
theorem en_lc {wi : TI} {is : List Nat} {xs ys : List D} (hi : EvI wi ρ c xs c1) (hno : ∀ k s, k ∈ is → ρ[k]? = some s → s.isOwn = false) (h : LcR g t te (wipeS ρ is) is xs c1 ys c2) (hz : ys.length ≤ sizeLine) : EvN (tLc wi g t te is) ρ c ys c2 := fun G0 H0 cp G H σ e Q q =>
  hi G0 H0 cp G H σ e _ fun J G1 H1 e1 s1 y D hD => by
    have n1 := e1.newFor (.lst []) hD
    have e1' := e1.newOwn (.lst []) hD
    refine ⟨fun k m H' => ∃ c' G' acc ds rest, m = xs.length - k ∧ k ≤ xs.length ∧ EnvR G0 H0 cp G' H' σ ρ c' ∧ New G' H' σ ρ (bs H0 cp c') D (.lst acc) ∧ Same G1 G' ∧ Reps G' acc ds ∧ ds ++ rest = ys ∧ LcR g t te (wipeS ρ is) is (xs.drop k) c' rest c2,
      ⟨xs.length, c1, G1, [], [], ys, by simp, Nat.zero_le _, e1', n1, Same.refl _, .nil, rfl, h⟩, ?_⟩
    rintro k m H' ⟨c', G', acc, ds, rest, rfl, hk, e', n', s', ra, hd, lc⟩
    have hacc : acc.length + rest.length = ys.length := by rw [ra.length, ← hd, List.length_append]
    by_cases hlt : k < xs.length
    · rw [List.drop_eq_getElem_cons hlt] at lc
      refine .inr ⟨y.go G' H' s' e'.gr.s k hlt, fun H2 => ∃ c' G' acc ds rest, EnvR G0 H0 cp G' H2 σ ρ c' ∧ New G' H2 σ ρ (bs H0 cp c') D (.lst acc) ∧ Same G1 G' ∧ Reps G' acc ds ∧ ds ++ rest = ys ∧ LcR g t te (wipeS ρ is) is (xs.drop (k + 1)) c' rest c2,
        fun H2 ⟨c', G', acc, ds, rest, w⟩ => ⟨xs.length - (k + 1), by omega, c', G', acc, ds, rest, rfl, hlt, w⟩, fun v H2 yl => ?_⟩
      obtain ⟨G2, gr2, r2⟩ := y.yl G' H' s' e'.gr.s k xs[k] (List.getElem?_eq_getElem hlt) v H2 yl
      have e2 := e'.mono gr2
      have n2 := n'.mono gr2
      obtain ⟨eg, hD0⟩ := e2.guard n2
      have hg0 : G0 D = none := Same.free e2.gr.g n2.g
      have s2 := s'.trans gr2.g
      have ra2 := ra.mono gr2.g
      have wok : ∀ (σ3 : L2.St) (js : List Nat), (∀ j ∈ js, j ∈ is) → (∀ vs : List Nat, (∀ i ∈ js, i ∈ vs) → wipe σ3 vs = wipe (wipe σ is) vs) → wipe σ3 is = wipe σ is := fun σ3 js hj w3 => (w3 is hj).trans (wipe_wipe σ is)
      cases lc with
      | skip ha hj hw ht hn r =>
        refine ha G0 _ cp G2 H2 _ c' v (eg.wiped is) r2 _ fun σ3 e3 w3 => ?_
        have hw3 := wok σ3 _ hj w3
        refine ⟨hw3, ht G0 _ cp G2 H2 σ3 e3 _ fun G4 H4 e4 s4 => ?_⟩
        show ∃ c' G' acc ds rest, _
        obtain ⟨e5, n5⟩ := (eg.restore e4 s4 hw3 hw hno).unguard hD0 hg0 (fun hc1 => n2.ncp fun z => hc1 (hn z))
        exact ⟨_, G4, acc, ds, rest, e5, n5, s2.trans s4, ra2.mono s4, hd, r⟩
      | take ha hj hw ht he hn r =>
        refine ha G0 _ cp G2 H2 _ c' v (eg.wiped is) r2 _ fun σ3 e3 w3 => ?_
        have hw3 := wok σ3 _ hj w3
        refine ⟨hw3, ht G0 _ cp G2 H2 σ3 e3 _ fun G4 H4 e4 s4 => ?_⟩
        show te σ3 H4 _
        refine he G0 _ cp G4 H4 σ3 e4 _ fun w G5 H5 e5 s5 r5 => ?_
        have s6 := s4.trans s5
        obtain ⟨e6, n6⟩ := (eg.restore e5 s6 hw3 hw hno).unguard hD0 hg0 (fun hc1 => n2.ncp fun z => hc1 (hn z))
        obtain ⟨e7, n7⟩ := n6.write (o' := .lst (acc ++ [w])) e6
        refine ⟨acc, n6.h, ?_, _, G5, acc ++ [w], ds ++ [_], _, e7, n7, s2.trans s6, (ra2.mono s6).snoc r5, ?_, r⟩
        · rw [List.length_cons] at hacc
          omega
        · rw [List.append_assoc]
          exact hd
    · have ek : k = xs.length := by omega
      subst ek
      rw [List.drop_length] at lc
      cases lc
      rw [List.append_nil] at hd
      subst hd
      exact .inl ⟨y.st G' H' s' e'.gr.s _ (Nat.le_refl _), q D acc G' H' e' (s1.trans s') n' ra⟩
end
end PL

/-! The terms' words: rules with the written part K said aloud; defs that are called by name. -/
namespace PL
open PySem L2

section
variable {X : Cx}
theorem kadd (K : PySem.W.Frag) (h : X.K = K := by rfl) : OpR X (binaryOp .Add) (rAdd K) := by subst h; exact op_addP
theorem kmul (K : PySem.W.Frag) (h : X.K = K := by rfl) : OpR X (binaryOp .Mult) (rMul K) := by subst h; exact op_mulP
theorem keq (K : PySem.W.Frag) (hu : X.A.units + 64 < cLine) (h : X.K = K := by rfl) : OpR X (compareOp .Eq) (rEqD K) := by subst h; exact op_eqD hu
theorem kne (K : PySem.W.Frag) (hu : X.A.units + 64 < cLine) (h : X.K = K := by rfl) : OpR X (compareOp .NotEq) (rNeD K) := by subst h; exact op_neD hu
theorem kin (K : PySem.W.Frag) (h : X.K = K := by rfl) : OpR X (compareOp .In) (rIn K false) := by subst h; exact op_in_seq
theorem knin (K : PySem.W.Frag) (h : X.K = K := by rfl) : OpR X (compareOp .NotIn) (rIn K true) := by subst h; exact op_notIn_seq
theorem kix (K : PySem.W.Frag) (h : X.K = K := by rfl) : IxR X (rIx K) := by subst h; exact ix_seq
theorem ksl (K : PySem.W.Frag) (h : X.K = K := by rfl) : SlR X (rSlP K) := by subst h; exact sl_any
theorem klen (K : PySem.W.Frag) (h : X.K = K := by rfl) : CallR X (.builtin "len") (rLen K) := by subst h; exact call_lenP
theorem ksum (K : PySem.W.Frag) (hc : X.calm = true := by rfl) (h : X.K = K := by rfl) : CallR X (.builtin "sum") (rSum K) := by subst h; exact cr_sum hc
theorem kmaxL (K : PySem.W.Frag) (hc : X.calm = true := by rfl) (h : X.K = K := by rfl) : CallR X (.builtin "max") (rMax K) := by subst h; exact cr_max hc
theorem kminL (K : PySem.W.Frag) (hc : X.calm = true := by rfl) (h : X.K = K := by rfl) : CallR X (.builtin "min") (rMin K) := by subst h; exact cr_min hc
theorem ksorted (K : PySem.W.Frag) (h : X.K = K := by rfl) : CallR X (.builtin "sorted") (rSortedI K) := by subst h; exact cr_sortedI
theorem klist (K : PySem.W.Frag) (h : X.K = K := by rfl) : CallR X (.type "list") (rListOf K) := by subst h; exact call_listP
theorem ktuple (K : PySem.W.Frag) (h : X.K = K := by rfl) : CallR X (.type "tuple") (rTupleOf K) := by subst h; exact call_tupleP
theorem kall (K : PySem.W.Frag) (hc : X.calm = true := by rfl) (h : X.K = K := by rfl) : CallR X (.builtin "all") (rAll K) := by subst h; exact cr_all hc
theorem kany (K : PySem.W.Frag) (hc : X.calm = true := by rfl) (h : X.K = K := by rfl) : CallR X (.builtin "any") (rAny K) := by subst h; exact cr_any hc
theorem kisi (K : PySem.W.Frag) (h : X.K = K := by rfl) : CallR X (.builtin "isinstance") (rIsi K) := by subst h; exact call_isi
theorem kseq (K : PySem.W.Frag) {tg l : Expr} {tl : TE} (hl : PE X l tl) (h : X.K = K := by rfl) : PI X tg l (iSeq K tl) := by subst h; exact pi_seq hl
theorem kg_tup (K : PySem.W.Frag) {es : List Expr} {k : Nat} {t : TGs} {n : Nat} {pos : Pos} (h : PGs X es t) (hc : X.calm = true := by rfl) (hn : (assignEach es X.env).length = n := by rfl) (hst : (assignEach es X.env).findIdx? (·.1) = none := by rfl)
    (hK : X.K = K := by rfl) : PG X (.Tuple es k pos) (gTup K n t) := by subst hK; exact pg_tup hc h hn hst
theorem kzip (K : PySem.W.Frag) {e e2 : Expr} {ta : TA} {p pos tpos : Pos} {elts : List Expr} {kk : Nat} (hm : X.mg "zip" = none) (ha : PA X [e, e2] ta) (hg : Gl X "zip" := by rfl)
    (hs : starEach [e, e2] X.env = (false, eval e X.env) :: starEach [e2] X.env := by rfl) (hpl : (backTo pos (starEach [e2] X.env)).any (·.1) = false := by rfl) (h : X.K = K := by rfl) :
    PI X (.Tuple elts kk tpos) (.Call (.Name "zip" p) [e, e2] [] pos) (RZ.iZipA K ta) := by subst h; exact RZ.pi_zipA hg hm ha hs hpl
theorem kenum (K : PySem.W.Frag) {e : Expr} {ta : TA} {p pos tpos : Pos} {elts : List Expr} {kk : Nat} (hm : X.mg "enumerate" = none) (ha : PA X [e] ta) (hg : Gl X "enumerate" := by rfl)
    (hs : starEach [e] X.env = [(false, eval e X.env)] := by rfl) (h : X.K = K := by rfl) : PI X (.Tuple elts kk tpos) (.Call (.Name "enumerate" p) [e] [] pos) (iEnum K ta) := by subst h; exact pi_enum hg hm ha hs
theorem kappend (K : PySem.W.Frag) {o e : Expr} {to te : TE} {apos cpos : Pos} (ho : PE X o to) (ha : PE X e te) (hK : X.K = K := by rfl) (h1 : attributeBase o "append" X.env (eval o X.env) = eval o X.env := by rfl)
    (h2 : ((backTo cpos (starEach [e] X.env)).all (fun x => !x.1) && (backToKw cpos (keywordEach [] X.env)).all (fun x => x.1.isSome) && decide (([e] : List Expr).length + ([] : List Keyword).length + (if ([] : List Keyword).isEmpty then 0 else 1) < 30)) = true := by rfl)
    (h3 : (apos.endLine == cpos.line) = true := by rfl) (h4 : starEach [e] X.env = (false, eval e X.env) :: starEach [] X.env := by rfl) (h5 : (backTo cpos (starEach [] X.env)).any (·.1) = false := by rfl) :
    PE X (.Call (.Attribute o "append" apos) [e] [] cpos) (tBM K "list" rAppend to (tCons te tNil)) := by
  subst hK
  exact pe_bm PySem.F.plainAttrs_list PySem.F.slot_list_append PySem.F.type_list_append mt_append ho (pa_cons ha pa_nil h4) h1 h2 h3 h4 h5
theorem kpop (K : PySem.W.Frag) {o : Expr} {to : TE} {apos cpos : Pos} (ho : PE X o to) (hK : X.K = K := by rfl) (h1 : attributeBase o "pop" X.env (eval o X.env) = eval o X.env := by rfl) (h3 : (apos.endLine == cpos.line) = true := by rfl) :
    PE X (.Call (.Attribute o "pop" apos) [] [] cpos) (tBM0 K "list" rPop to) := by
  subst hK
  exact pe_bm0 PySem.F.plainAttrs_list PySem.F.slot_list_pop PySem.F.type_list_pop mt_pop ho h1 h3
theorem krev (K : PySem.W.Frag) {e : Expr} {te : TE} {k : Nat} {p1 p2 p3 pos : Pos} (he : PE X e te) (hK : X.K = K := by rfl) : PE X (.Subscript e (.Slice none none (some (.UnaryOp .USub (.Constant (.int 1) k p1) p2)) p3) pos) (tRevL K te) := by
  subst hK
  exact pe_revL he
end

/-! ### a def that is called by its name -/
def Cal (P : Program) (w : World) (K : PySem.W.Frag) (mg : Str → Option Value) (base : Heap) (CX : CXT) (x : Str) (k : Nat) (ps : List Str) (sp : Sp) : Prop :=
  ∃ (f : Addr) (fd : FuncData), FnOk P w K mg base CX k f fd ps sp ∧ mg x = some (.ref f) ∧ PySem.W.keepIn K (.ref f) = true ∧ Binds K fd ps []
section
variable {P : Program} {w : World} {K : PySem.W.Frag} {mg : Str → Option Value} {base : Heap} {X : Cx} {x : Str} {k : Nat} {ps : List Str} {sp : Sp} {p pos : Pos} {e : Expr} {es : List Expr} {t : TA}
theorem kcall (C : Cal P w K mg base CX0 x k ps sp) (hr : Room k X.A) (ha : PA X (e :: es) t) (hX : X.prog = P ∧ X.w = w ∧ X.K = K ∧ X.mg = mg ∧ X.base = base := by exact ⟨rfl, rfl, rfl, rfl, rfl⟩) (hg : Gl X x := by rfl) (hdb : (x == ("__debug__" : Str)) = false := by decide)
    (he : starEach (e :: es) X.env = (false, eval e X.env) :: starEach es X.env := by rfl) (hpl : (backTo pos (starEach es X.env)).any (·.1) = false := by rfl) : PE X (.Call (.Name x p) (e :: es) [] pos) (tCall sp [] E0 t) := by
  obtain ⟨h1, h2, h3, h4, h5⟩ := hX
  subst h1 h2 h3 h4 h5
  obtain ⟨f, fd, F, g, kp, b⟩ := C
  exact pe_call F hr hg g kp b .nil pass0 ha hdb he hpl
theorem kcall0 (C : Cal P w K mg base CX0 x k ps sp) (hr : Room k X.A) (hX : X.prog = P ∧ X.w = w ∧ X.K = K ∧ X.mg = mg ∧ X.base = base := by exact ⟨rfl, rfl, rfl, rfl, rfl⟩) (hg : Gl X x := by rfl) (hdb : (x == ("__debug__" : Str)) = false := by decide) :
    PE X (.Call (.Name x p) [] [] pos) (tCall sp [] E0 tNil) := by
  obtain ⟨h1, h2, h3, h4, h5⟩ := hX
  subst h1 h2 h3 h4 h5
  obtain ⟨f, fd, F, g, kp, b⟩ := C
  exact pe_call0 F hr hg g kp b .nil pass0 hdb
theorem Cal.mono {j : Nat} {CX : CXT} (C : Cal P w K mg base CX x j ps sp) (h : j ≤ k) : Cal P w K mg base CX x k ps sp := by
  obtain ⟨f, fd, F, g, kp, b⟩ := C
  exact ⟨f, fd, F.mono h, g, kp, b⟩
end
end PL

namespace PL
open PySem L2

/-! ### several stores at once, new lists and dicts among them -/
def RepX (G H : Hp) (σ : L2.St) (ρ : List Sl) (B : Hp) : List Addr → List V → List Sl → Prop
  | _, [], [] => True
  | us, v :: vs, .dat d :: ss => Rep G v d ∧ RepX G H σ ρ B us vs ss
  | us, v :: vs, .own xs :: ss => ∃ p ws, v = .ref p ∧ p ∉ us ∧ New G H σ ρ B p (.lst ws) ∧ Reps G ws xs ∧ RepX G H σ ρ B (p :: us) vs ss
  | us, v :: vs, .odk xs :: ss => ∃ p ws, v = .ref p ∧ p ∉ us ∧ New G H σ ρ B p (.dK ws) ∧ RepK G ws xs ∧ RepX G H σ ρ B (p :: us) vs ss
  | _, _, _ => False
def EvX (ta : TA) (ρ : List Sl) (c : Cup) (ss : List Sl) (c' : Cup) : Prop :=
  ∀ (G0 H0 : Hp) (cp : Addr) (G H : Hp) (σ : L2.St), EnvR G0 H0 cp G H σ ρ c → ∀ Q : List V → Hp → Prop, (∀ vs G' H', EnvR G0 H0 cp G' H' σ ρ c' → Same G G' → RepX G' H' σ ρ (bs H0 cp c') [] vs ss → Q vs H') → ta σ H Q
section
variable {K : PySem.W.Frag} {G0 H0 G H G' H' B : Hp} {cp : Addr} {σ : L2.St} {ρ ρ' ρ1 ρ2 ρ3 : List Sl} {c c1 c2 c3 c' : Cup} {te ta tb : TE} {t u : TT} {d d1 d2 : D} {i j : Int} {P : Pk} {ts tu tw : TS} {g : TG} {gs : TGs} {tl : TA} {ss : List Sl}
theorem RepX.less : ∀ {us us' : List Addr} {vs : List V} {ss : List Sl}, RepX G H σ ρ B us vs ss → (∀ u ∈ us', u ∈ us) → RepX G H σ ρ B us' vs ss
  | _, _, [], [], _, _ => trivial
  | _, _, v :: vs, .dat d :: ss, h, k => ⟨h.1, RepX.less h.2 k⟩
  | us, us', v :: vs, .own xs :: ss, h, k => by
    obtain ⟨p, ws, e, a, n, r, t⟩ := h
    exact ⟨p, ws, e, fun z => a (k p z), n, r, RepX.less t fun u hu => (List.mem_cons.mp hu).elim (fun z => by rw [z]; exact List.mem_cons_self) fun z => List.mem_cons_of_mem _ (k u z)⟩
  | us, us', v :: vs, .odk xs :: ss, h, k => by
    obtain ⟨p, ws, e, a, n, r, t⟩ := h
    exact ⟨p, ws, e, fun z => a (k p z), n, r, RepX.less t fun u hu => (List.mem_cons.mp hu).elim (fun z => by rw [z]; exact List.mem_cons_self) fun z => List.mem_cons_of_mem _ (k u z)⟩
  | _, _, [], _ :: _, h, _ => h.elim
  | _, _, _ :: _, [], h, _ => h.elim
  | _, _, _ :: _, .dead :: _, h, _ => h.elim
  | _, _, _ :: _, .cup :: _, h, _ => h.elim
theorem RepX.rebase {p : Addr} (hb : ∀ q, B q = none → G' q = none ∧ q ≠ p) : ∀ {us : List Addr} {vs : List V} {ss : List Sl}, RepX G H σ ρ B us vs ss → RepX G H σ ρ G' (p :: us) vs ss
  | _, [], [], _ => trivial
  | _, v :: vs, .dat d :: ss, h => ⟨h.1, RepX.rebase hb h.2⟩
  | us, v :: vs, .own xs :: ss, h => by
    obtain ⟨q, ws, e, a, n, r, t⟩ := h
    obtain ⟨b1, b2⟩ := hb q n.b
    refine ⟨q, ws, e, fun z => (List.mem_cons.mp z).elim b2 a, ⟨b1, n.g, n.h, n.n⟩, r, (RepX.rebase hb t).less fun u hu => ?_⟩
    simp only [List.mem_cons] at hu ⊢
    rcases hu with h | h | h
    · exact .inr (.inl h)
    · exact .inl h
    · exact .inr (.inr h)
  | us, v :: vs, .odk xs :: ss, h => by
    obtain ⟨q, ws, e, a, n, r, t⟩ := h
    obtain ⟨b1, b2⟩ := hb q n.b
    refine ⟨q, ws, e, fun z => (List.mem_cons.mp z).elim b2 a, ⟨b1, n.g, n.h, n.n⟩, r, (RepX.rebase hb t).less fun u hu => ?_⟩
    simp only [List.mem_cons] at hu ⊢
    rcases hu with h | h | h
    · exact .inr (.inl h)
    · exact .inl h
    · exact .inr (.inr h)
  | _, [], _ :: _, h => h.elim
  | _, _ :: _, [], h => h.elim
  | _, _ :: _, .dead :: _, h => h.elim
  | _, _ :: _, .cup :: _, h => h.elim
theorem RepX.store {a : Nat} {v1 : V} {s1 : Sl} : ∀ {us : List Addr} {vs : List V} {ss : List Sl}, (s1.isOwn = true → ∀ p, v1 = .ref p → p ∈ us) → RepX G H σ ρ B us vs ss → RepX G H (σ.set a (some v1)) (ρ.set a s1) B us vs ss
  | _, [], [], _, _ => trivial
  | _, v :: vs, .dat d :: ss, k, h => ⟨h.1, RepX.store k h.2⟩
  | us, v :: vs, .own xs :: ss, k, h => by
    obtain ⟨q, ws, e, x, n, r, t⟩ := h
    refine ⟨q, ws, e, x, ⟨n.b, n.g, n.h, fun j s h1 h2 h3 => ?_⟩, r, RepX.store (fun z p hp => List.mem_cons_of_mem _ (k z p hp)) t⟩
    by_cases z : a = j
    · subst z
      have ha : a < ρ.length := by
        have := (List.getElem?_eq_some_iff.mp h1).1
        rw [List.length_set] at this
        exact this
      rw [List.getElem?_set_self ha] at h1
      cases h1
      rw [List.getElem?_set] at h3
      simp only [if_true] at h3
      split at h3
      · cases h3
        exact x (k h2 q rfl)
      · cases h3
    · rw [List.getElem?_set_ne z] at h1 h3
      exact n.n j s h1 h2 h3
  | us, v :: vs, .odk xs :: ss, k, h => by
    obtain ⟨q, ws, e, x, n, r, t⟩ := h
    refine ⟨q, ws, e, x, ⟨n.b, n.g, n.h, fun j s h1 h2 h3 => ?_⟩, r, RepX.store (fun z p hp => List.mem_cons_of_mem _ (k z p hp)) t⟩
    by_cases z : a = j
    · subst z
      have ha : a < ρ.length := by
        have := (List.getElem?_eq_some_iff.mp h1).1
        rw [List.length_set] at this
        exact this
      rw [List.getElem?_set_self ha] at h1
      cases h1
      rw [List.getElem?_set] at h3
      simp only [if_true] at h3
      split at h3
      · cases h3
        exact x (k h2 q rfl)
      · cases h3
    · rw [List.getElem?_set_ne z] at h1 h3
      exact n.n j s h1 h2 h3
  | _, [], _ :: _, _, h => h.elim
  | _, _ :: _, [], _, h => h.elim
  | _, _ :: _, .dead :: _, _, h => h.elim
  | _, _ :: _, .cup :: _, _, h => h.elim
/-- the first one is stored -/
theorem RepX.one {us : List Addr} {v1 : V} {vs : List V} {s1 : Sl} (a : Nat) (h : RepX G H σ ρ (bs H0 cp c) us (v1 :: vs) (s1 :: ss)) (e : EnvR G0 H0 cp G H σ ρ c) :
    EnvR G0 H0 cp G H (σ.set a (some v1)) (ρ.set a s1) c ∧ RepX G H (σ.set a (some v1)) (ρ.set a s1) (bs H0 cp c) us vs ss := by
  cases s1 with
  | dat d => exact ⟨e.setDat a h.1, h.2.store fun z => by cases z⟩
  | own xs =>
    obtain ⟨p, ws, rfl, hu, n, r, t⟩ := h
    refine ⟨e.set a (s := .own xs) ⟨p, ws, rfl, n.b, n.g, n.h, r⟩ fun _ q j sj ep b dd w => ?_, (RepX.store (fun _ q hq => by cases hq; exact List.mem_cons_self) t).less fun u hu => List.mem_cons_of_mem _ hu⟩
    cases ep
    exact absurd w (n.n j sj b dd)
  | odk xs =>
    obtain ⟨p, ws, rfl, hu, n, r, t⟩ := h
    refine ⟨e.set a (s := .odk xs) ⟨p, ws, rfl, n.b, n.g, n.h, r⟩ fun _ q j sj ep b dd w => ?_, (RepX.store (fun _ q hq => by cases hq; exact List.mem_cons_self) t).less fun u hu => List.mem_cons_of_mem _ hu⟩
    cases ep
    exact absurd w (n.n j sj b dd)
  | dead => exact h.elim
  | cup => exact h.elim
theorem RepX.len2 {us : List Addr} {vs : List V} {s1 s2 : Sl} (h : RepX G H σ ρ B us vs [s1, s2]) : ∃ v1 v2, vs = [v1, v2] := by
  have key : ∀ (us : List Addr) (vs : List V), RepX G H σ ρ B us vs [] → vs = [] := fun us vs h => by
    cases vs with
    | nil => rfl
    | cons _ _ => cases us <;> exact h.elim
  have one : ∀ (us : List Addr) (vs : List V) (s : Sl), RepX G H σ ρ B us vs [s] → ∃ v, vs = [v] := fun us vs s h => by
    cases vs with
    | nil => cases us <;> cases s <;> exact h.elim
    | cons v vs =>
      cases s with
      | dat d => exact ⟨v, by rw [key _ _ h.2]⟩
      | own xs => obtain ⟨p, ws, _, _, _, _, t⟩ := h; exact ⟨v, by rw [key _ _ t]⟩
      | odk xs => obtain ⟨p, ws, _, _, _, _, t⟩ := h; exact ⟨v, by rw [key _ _ t]⟩
      | dead => exact h.elim
      | cup => exact h.elim
  cases vs with
  | nil => cases us <;> cases s1 <;> exact h.elim
  | cons v vs =>
    cases s1 with
    | dat d => obtain ⟨w, e⟩ := one _ _ _ h.2; exact ⟨v, w, by rw [e]⟩
    | own xs => obtain ⟨p, ws, _, _, _, _, t⟩ := h; obtain ⟨w, e⟩ := one _ _ _ t; exact ⟨v, w, by rw [e]⟩
    | odk xs => obtain ⟨p, ws, _, _, _, _, t⟩ := h; obtain ⟨w, e⟩ := one _ _ _ t; exact ⟨v, w, by rw [e]⟩
    | dead => exact h.elim
    | cup => exact h.elim
theorem RepX.tail {us : List Addr} {vs : List V} {s1 : Sl} (h : RepX G H σ ρ B us vs (s1 :: ss)) : ∃ v us' ws, vs = v :: ws ∧ RepX G H σ ρ B us' ws ss := by
  cases vs with
  | nil => cases us <;> cases s1 <;> exact h.elim
  | cons v vs =>
    cases s1 with
    | dat d => exact ⟨v, us, vs, rfl, h.2⟩
    | own xs => obtain ⟨p, ws, _, _, _, _, t⟩ := h; exact ⟨v, _, vs, rfl, t⟩
    | odk xs => obtain ⟨p, ws, _, _, _, _, t⟩ := h; exact ⟨v, _, vs, rfl, t⟩
    | dead => exact h.elim
    | cup => exact h.elim
theorem ex_nil : EvX tNil ρ c [] c := fun G0 H0 cp G H σ e Q q => q [] G H e (Same.refl _) trivial
theorem RepX.monoG_nil : True := trivial
theorem ex_dat (h : Ev te ρ c d c1) (hr : EvX tl ρ c1 ss c2) : EvX (tCons te tl) ρ c (.dat d :: ss) c2 := fun G0 H0 cp G H σ e Q q =>
  h G0 H0 cp G H σ e _ fun v G1 H1 e1 s1 r1 => hr G0 H0 cp G1 H1 σ e1 _ fun vs G2 H2 e2 s2 r2 => q _ G2 H2 e2 (s1.trans s2) ⟨r1.mono s2, r2⟩
theorem bs_guard {p : Addr} {o : HO} (h0 : H0 p = none) (hc : c ≠ none → p ≠ cp) : ∀ q, bs (upd H0 p o) cp c q = none → bs H0 cp c q = none ∧ q ≠ p := fun q h1 => by
  have bz : bs (upd H0 p o) cp c q = if q = p then some o else bs H0 cp c q := by
    cases c with
    | none => rfl
    | some x =>
      have ne := hc (by simp)
      show upd (upd H0 p o) cp (cupO x) q = if q = p then some o else upd H0 cp (cupO x) q
      by_cases z : q = cp
      · subst z
        rw [upd_same, if_neg (Ne.symm ne), upd_same]
      · rw [upd_ne z, upd_ne z]
        rfl
  rw [bz] at h1
  by_cases z : q = p
  · rw [if_pos z] at h1; cases h1
  · rw [if_neg z] at h1; exact ⟨h1, z⟩
theorem ex_own {xs : List D} (h : EvN te ρ c xs c1) (hr : EvX tl ρ c1 ss c2) (hn : c1 = none → c2 = none := by first | exact id | (intro h; cases h)) : EvX (tCons te tl) ρ c (.own xs :: ss) c2 := fun G0 H0 cp G H σ e Q q =>
  h G0 H0 cp G H σ e _ fun p ws G1 H1 e1 s1 n r1 => by
    obtain ⟨eg, h0⟩ := e1.guard n
    have hg0 : G0 p = none := Same.free e1.gr.g n.g
    refine hr G0 _ cp G1 H1 σ eg _ fun vs G2 H2 e2 s2 r2 => ?_
    have hc : c2 ≠ none → p ≠ cp := fun z => n.ncp fun y => z (hn y)
    obtain ⟨e3, n3⟩ := e2.unguard h0 hg0 hc
    exact q _ G2 H2 e3 (s1.trans s2) ⟨p, ws, rfl, by simp, n3, r1.mono s2, r2.rebase (bs_guard h0 hc)⟩
theorem ex_odk {xs : List (Key × D)} (h : EvK te ρ c xs c1) (hr : EvX tl ρ c1 ss c2) (hn : c1 = none → c2 = none := by first | exact id | (intro h; cases h)) : EvX (tCons te tl) ρ c (.odk xs :: ss) c2 := fun G0 H0 cp G H σ e Q q =>
  h G0 H0 cp G H σ e _ fun p ws G1 H1 e1 s1 n r1 => by
    obtain ⟨eg, h0⟩ := e1.guard n
    have hg0 : G0 p = none := Same.free e1.gr.g n.g
    refine hr G0 _ cp G1 H1 σ eg _ fun vs G2 H2 e2 s2 r2 => ?_
    have hc : c2 ≠ none → p ≠ cp := fun z => n.ncp fun y => z (hn y)
    obtain ⟨e3, n3⟩ := e2.unguard h0 hg0 hc
    exact q _ G2 H2 e3 (s1.trans s2) ⟨p, ws, rfl, by simp, n3, r1.mono s2, r2.rebase (bs_guard h0 hc)⟩
theorem hx_par {a b : Nat} {s1 s2 : Sl} (h : EvX tl ρ c [s1, s2] c1) (q : P.nx ((ρ.set a s1).set b s2) c1) : Ho (tPar a b tl) ρ c P := fun G0 H0 cp G H σ e E hn _ _ _ =>
  h G0 H0 cp G H σ e _ fun vs G1 H1 e1 sm r => by
    obtain ⟨v1, v2, rfl⟩ := r.len2
    obtain ⟨e2, r2⟩ := r.one a e1
    obtain ⟨e3, _⟩ := r2.one b e2
    exact ⟨v1, v2, rfl, hn _ c1 G1 H1 _ e3 sm q⟩
theorem hx_par3 {a b l : Nat} {s1 s2 s3 : Sl} (h : EvX tl ρ c [s1, s2, s3] c1) (q : P.nx (((ρ.set a s1).set b s2).set l s3) c1) : Ho (tPar3 a b l tl) ρ c P := fun G0 H0 cp G H σ e E hn _ _ _ =>
  h G0 H0 cp G H σ e _ fun vs G1 H1 e1 sm r => by
    obtain ⟨v1, us', ws, rfl, r'⟩ := RepX.tail r
    obtain ⟨v2, v3, rfl⟩ := r'.len2
    obtain ⟨e2, r2⟩ := r.one a e1
    obtain ⟨e3, r3⟩ := r2.one b e2
    obtain ⟨e4, _⟩ := r3.one l e3
    exact ⟨v1, v2, v3, rfl, hn _ c1 G1 H1 _ e4 sm q⟩
end

/-! ### constants, types, dicts -/
section
variable {X : Cx} {x : Str} {pos : Pos}
theorem kcon {i : Int} (h : ∃ t, X.mg x = some (.int i t)) (hg : Gl X x := by rfl) (hd : (x == ("__debug__" : Str)) = false := by decide) : PE X (.Name x pos) (tC (.int i)) := by
  obtain ⟨t, h⟩ := h
  exact pe_glob hg h ⟨t, rfl⟩ hd
theorem kty {T : String} (hm : X.mg x = none) (hv : bootBuiltins x = some (.type T)) (hg : Gl X x := by rfl) (hn : x ≠ "__name__" := by decide) (hd : (x == ("__debug__" : Str)) = false := by decide) : PE X (.Name x pos) (tC (.ty T)) :=
  pe_bltn hg hm hv rfl hn hd
end
end PL

namespace PL
open PySem L2
section
variable {K : PySem.W.Frag} {ρ ρ1 : List Sl} {c c1 c2 c3 : Cup} {te ta tb tc : TE} {t u : TT} {d d1 d2 d3 : D} {i j : Int} {P : Pk} {ts tu tw : TS} {g : TG}
theorem ev_tup1 (h1 : Ev ta ρ c d1 c1) : Ev (tTup (tCons ta tNil)) ρ c (.tup [d1]) c1 := ev_tup (ea_cons h1 ea_nil) (by simp; decide)
theorem ev_tup2 (h1 : Ev ta ρ c d1 c1) (h2 : Ev tb ρ c1 d2 c2) : Ev (tTup (tCons ta (tCons tb tNil))) ρ c (.tup [d1, d2]) c2 := ev_tup (ea_cons h1 (ea_cons h2 ea_nil)) (by simp; decide)
theorem ev_tup3 (h1 : Ev ta ρ c d1 c1) (h2 : Ev tb ρ c1 d2 c2) (h3 : Ev tc ρ c2 d3 c3) : Ev (tTup (tCons ta (tCons tb (tCons tc tNil)))) ρ c (.tup [d1, d2, d3]) c3 := ev_tup (ea_cons h1 (ea_cons h2 (ea_cons h3 ea_nil))) (by simp; decide)
theorem ev_eq {d' : D} (h : Ev te ρ c d c1) (e : d = d') : Ev te ρ c d' c1 := e ▸ h
theorem et_eq {b b' : Bool} (h : EvT t ρ c b c1) (e : b = b') : EvT t ρ c b' c1 := e ▸ h
theorem dint {i j : Int} (h : i = j) : D.int i = D.int j := by rw [h]
/-- the cup stays -/
theorem ho_ifc {b : Bool} (h : EvT t ρ c b c) (h1 : b = true → Ho tu ρ c P) (h2 : b = false → Ho tw ρ c P) : Ho (tIfS t tu tw) ρ c P := ho_if h h1 h2
theorem ev_ifc {b : Bool} (h : EvT t ρ c b c) (h1 : b = true → Ev ta ρ c d c) (h2 : b = false → Ev tb ρ c d c) : Ev (tIf t ta tb) ρ c d c := ev_if h h1 h2
theorem ho_asgc {k : Nat} (h : Ev te ρ c d c) (q : P.nx (ρ.set k (.dat d)) c) : Ho (tAsg te (gName k)) ρ c P := ho_asg h q
theorem ho_asgNc {k : Nat} {xs : List D} (h : EvN te ρ c xs c) (q : P.nx (ρ.set k (.own xs)) c) : Ho (tAsg te (gName k)) ρ c P := ho_asgN h q
theorem ho_retc (h : Ev te ρ c d c) (q : P.rt d c) : Ho (tRet te) ρ c P := ho_ret h q
theorem ho_exprc (h : Ev te ρ c d c) (q : P.nx ρ c) : Ho (tDrop te) ρ c P := ho_expr h q
theorem ev_binc {r : R2} (ha : Eb ta ρ c d1 c) (hb : Eb tb ρ c d2 c) (hr : RO r ρ c d1 d2 d) : Ev (tOp r ta tb) ρ c d c := ev_bin ha hb hr
theorem ho_appendc {k : Nat} {xs : List D} (h : Ev te ρ c d c) (hk : ρ[k]? = some (.own xs)) (hz : xs.length < sizeLine) (q : P.nx (ρ.set k (.own (xs ++ [d]))) c) : Ho (tDrop (tBM K "list" rAppend (tVar k) (tCons te tNil))) ρ c P := ho_append h hk hz q
theorem ev_cbc {r : List V → Hp → VK → Prop} {tl : TA} {ds : List D} (h : EbA tl ρ c ds c) (hr : CO r ρ c ds d) : Ev (tCB r tl) ρ c d c := ev_cb h hr
theorem ev_callc {R : List D → D → Prop} {E : XK} {tl : TA} {ds : List D} (h : EvA tl ρ c ds c) (hR : R ds d) : Ev (tCall (SpR R) [] E tl) ρ c d c := ev_call h hR
/-- .. in a loop -/
theorem ho_whilec (W : Nat → List Sl → Prop) (m0 : Nat) (h0 : W m0 ρ)
    (hs : ∀ m ρ1, W m ρ1 → ∃ b, EvT t ρ1 c b c ∧ (b = true → Ho ts ρ1 c { nx := fun ρ' c' => c' = c ∧ ∃ m', m' < m ∧ W m' ρ', ct := fun ρ' c' => c' = c ∧ ∃ m', m' < m ∧ W m' ρ', bk := P.nx, rt := P.rt }) ∧ (b = false → P.nx ρ1 c)) : Ho (tWhile t ts) ρ c P :=
  ho_while (fun m ρ' c' => c' = c ∧ W m ρ') m0 ⟨rfl, h0⟩ fun m ρ1 c1 w => by
    obtain ⟨rfl, w⟩ := w
    obtain ⟨b, h1, h2, h3⟩ := hs m ρ1 w
    exact ⟨b, _, h1, fun z => ho_mono (h2 z) (fun _ _ q => ⟨q.2.choose, q.2.choose_spec.1, q.1, q.2.choose_spec.2⟩) (fun _ _ q => q) (fun _ _ q => q) (fun _ _ q => ⟨q.2.choose, q.2.choose_spec.1, q.1, q.2.choose_spec.2⟩), h3⟩
theorem ho_forc {wi : TI} {xs : List D} (W : List D → List Sl → Prop) (hi : EvI wi ρ c xs c) (h0 : W xs ρ)
    (hs : ∀ x r ρ1, W (x :: r) ρ1 → ∃ ρ2 is, AsT g x ρ1 ρ2 is ∧ Ho ts ρ2 c { nx := fun ρ' c' => c' = c ∧ W r ρ', ct := fun ρ' c' => c' = c ∧ W r ρ', bk := P.nx, rt := P.rt }) (hd : ∀ ρ1, W [] ρ1 → P.nx ρ1 c) : Ho (tFor wi g ts) ρ c P :=
  ho_for (fun r ρ' c' => c' = c ∧ W r ρ') hi ⟨rfl, h0⟩ (fun x r ρ1 c1 w => by obtain ⟨rfl, w⟩ := w; exact hs x r ρ1 w) (fun ρ1 c1 w => by obtain ⟨rfl, w⟩ := w; exact hd ρ1 w)
end

section
variable {K : PySem.W.Frag} {ρ ρ1 : List Sl} {c c1 c2 c3 : Cup} {te ta tb tc : TE} {t u : TT} {d d1 d2 d3 : D} {i j : Int} {P : Pk} {ts tu tw : TS} {g : TG} {wi : TI} {α : Type}
/-- a loop over a list: what was walked, what is left -/
theorem ho_forL {L : List α} {e : α → D} (W : List α → List Sl → Cup → Prop) (hi : EvI wi ρ c (L.map e) c1) (h0 : W [] ρ c1)
    (hs : ∀ l x r ρ1 c1, L = l ++ x :: r → W l ρ1 c1 → ∃ ρ2 is, AsT g (e x) ρ1 ρ2 is ∧ Ho ts ρ2 c1 { nx := W (l ++ [x]), ct := W (l ++ [x]), bk := P.nx, rt := P.rt }) (hd : ∀ ρ1 c1, W L ρ1 c1 → P.nx ρ1 c1) : Ho (tFor wi g ts) ρ c P := by
  refine ho_for (fun xs ρ' c' => ∃ l r, L = l ++ r ∧ xs = r.map e ∧ W l ρ' c') hi ⟨[], L, rfl, rfl, h0⟩ ?_ ?_
  · rintro x r ρ1 c1 ⟨l, r', hL, hx, w⟩
    cases r' with
    | nil => cases hx
    | cons a r' =>
      cases hx
      obtain ⟨ρ2, is, h1, h2⟩ := hs l a r' ρ1 c1 hL w
      exact ⟨ρ2, is, h1, ho_mono h2 (fun _ _ q => ⟨l ++ [a], r', by rw [hL]; simp, rfl, q⟩) (fun _ _ q => q) (fun _ _ q => q) (fun _ _ q => ⟨l ++ [a], r', by rw [hL]; simp, rfl, q⟩)⟩
  · rintro ρ1 c1 ⟨l, r, hL, hx, w⟩
    cases r with
    | nil => rw [List.append_nil] at hL; subst hL; exact hd ρ1 c1 w
    | cons a r => cases hx
theorem ho_forLc {L : List α} {e : α → D} (W : List α → List Sl → Prop) (hi : EvI wi ρ c (L.map e) c) (h0 : W [] ρ)
    (hs : ∀ l x r ρ1, L = l ++ x :: r → W l ρ1 → ∃ ρ2 is, AsT g (e x) ρ1 ρ2 is ∧ Ho ts ρ2 c { nx := fun ρ' c' => c' = c ∧ W (l ++ [x]) ρ', ct := fun ρ' c' => c' = c ∧ W (l ++ [x]) ρ', bk := P.nx, rt := P.rt }) (hd : ∀ ρ1, W L ρ1 → P.nx ρ1 c) : Ho (tFor wi g ts) ρ c P :=
  ho_forL (fun l ρ' c' => c' = c ∧ W l ρ') hi ⟨rfl, h0⟩ (fun l x r ρ1 c1 hL w => by obtain ⟨rfl, w⟩ := w; exact hs l x r ρ1 hL w) (fun ρ1 c1 w => by obtain ⟨rfl, w⟩ := w; exact hd ρ1 w)
/-- .. over a range -/
theorem ho_forR {lo : Int} {n : Nat} (W : Nat → List Sl → Cup → Prop) (hi : EvI wi ρ c (rng lo n) c1) (h0 : W 0 ρ c1)
    (hs : ∀ k ρ1 c1, k < n → W k ρ1 c1 → ∃ ρ2 is, AsT g (.int (lo + (k : Nat))) ρ1 ρ2 is ∧ Ho ts ρ2 c1 { nx := W (k + 1), ct := W (k + 1), bk := P.nx, rt := P.rt }) (hd : ∀ ρ1 c1, W n ρ1 c1 → P.nx ρ1 c1) : Ho (tFor wi g ts) ρ c P := by
  refine ho_for (fun xs ρ' c' => ∃ k, k ≤ n ∧ xs = (rng lo n).drop k ∧ W k ρ' c') hi ⟨0, Nat.zero_le _, rfl, h0⟩ ?_ ?_
  · rintro x r ρ1 c1 ⟨k, hk, hx, w⟩
    by_cases h : k < n
    · rw [List.drop_eq_getElem_cons (by rw [rng_length]; exact h)] at hx
      cases hx
      obtain ⟨ρ2, is, h1, h2⟩ := hs k ρ1 c1 h w
      refine ⟨ρ2, is, ?_, ho_mono h2 (fun _ _ q => ⟨k + 1, h, rfl, q⟩) (fun _ _ q => q) (fun _ _ q => q) (fun _ _ q => ⟨k + 1, h, rfl, q⟩)⟩
      have : (rng lo n)[k]'(by rw [rng_length]; exact h) = .int (lo + (k : Nat)) := by simp [rng]
      rw [this]
      exact h1
    · rw [List.drop_eq_nil_of_le (by rw [rng_length]; omega)] at hx
      cases hx
  · rintro ρ1 c1 ⟨k, hk, hx, w⟩
    have : k = n := by
      have := congrArg List.length hx
      rw [List.length_drop, rng_length, List.length_nil] at this
      omega
    subst this
    exact hd ρ1 c1 w
theorem ho_forRc {lo : Int} {n : Nat} (W : Nat → List Sl → Prop) (hi : EvI wi ρ c (rng lo n) c) (h0 : W 0 ρ)
    (hs : ∀ k ρ1, k < n → W k ρ1 → ∃ ρ2 is, AsT g (.int (lo + (k : Nat))) ρ1 ρ2 is ∧ Ho ts ρ2 c { nx := fun ρ' c' => c' = c ∧ W (k + 1) ρ', ct := fun ρ' c' => c' = c ∧ W (k + 1) ρ', bk := P.nx, rt := P.rt }) (hd : ∀ ρ1, W n ρ1 → P.nx ρ1 c) : Ho (tFor wi g ts) ρ c P :=
  ho_forR (fun l ρ' c' => c' = c ∧ W l ρ') hi ⟨rfl, h0⟩ (fun k ρ1 c1 hk w => by obtain ⟨rfl, w⟩ := w; exact hs k ρ1 hk w) (fun ρ1 c1 w => by obtain ⟨rfl, w⟩ := w; exact hd ρ1 w)
/-- a comprehension with one name -/
theorem en_lc1 {L : List α} {k : Nat} (e : α → D) (p : α → Bool) (f : α → D) (hi : EvI wi ρ c (L.map e) c) (hno : ∀ s, ρ[k]? = some s → s.isOwn = false) (hz : L.length ≤ sizeLine)
    (h : ∀ x ∈ L, EvT t (ρ.set k (.dat (e x))) c (p x) c ∧ (p x = true → Ev te (ρ.set k (.dat (e x))) c (f x) c)) : EvN (tLc wi (gName k) t te [k]) ρ c ((L.filter p).map f) c := by
  refine en_lc hi (fun j s hj => by rw [List.mem_singleton] at hj; subst hj; exact hno s) ?_ (by rw [List.length_map]; exact Nat.le_trans (List.length_filter_le _ _) hz)
  clear hi hz
  induction L with
  | nil => exact .nil c
  | cons x L ih =>
    obtain ⟨h1, h2⟩ := h x List.mem_cons_self
    have ih := ih fun y hy => h y (List.mem_cons_of_mem _ hy)
    have ew : (wipeS ρ [k]).set k (.dat (e x)) = ρ.set k (.dat (e x)) := by show (ρ.set k .dead).set k _ = _; rw [List.set_set]
    have ha : AsT (gName k) (e x) (wipeS ρ [k]) (ρ.set k (.dat (e x))) [k] := by rw [← ew]; exact as_name
    have hw : wipeS (ρ.set k (.dat (e x))) [k] = wipeS ρ [k] := by show (ρ.set k _).set k .dead = ρ.set k .dead; rw [List.set_set]
    cases q : p x with
    | true =>
      rw [List.filter_cons, if_pos q, List.map_cons]
      rw [q] at h1
      exact .take ha (fun _ z => z) hw h1 (h2 q) id ih
    | false =>
      rw [List.filter_cons, if_neg (by rw [q]; exact Bool.false_ne_true)]
      rw [q] at h1
      exact .skip ha (fun _ z => z) hw h1 id ih
/-- .. with two -/
theorem en_lc2 {L : List α} {k m : Nat} (e1 e2 : α → D) (p : α → Bool) (f : α → D) (hi : EvI wi ρ c (L.map fun x => .tup [e1 x, e2 x]) c) (hno : ∀ s, ρ[k]? = some s → s.isOwn = false) (hno2 : ∀ s, ρ[m]? = some s → s.isOwn = false) (hkm : k ≠ m) (hz : L.length ≤ sizeLine)
    (h : ∀ x ∈ L, EvT t ((ρ.set k (.dat (e1 x))).set m (.dat (e2 x))) c (p x) c ∧ (p x = true → Ev te ((ρ.set k (.dat (e1 x))).set m (.dat (e2 x))) c (f x) c)) : EvN (tLc wi (gTup K 2 (gCons (gName k) (gCons (gName m) gNil))) t te [k, m]) ρ c ((L.filter p).map f) c := by
  refine en_lc hi (fun j s hj => by rcases List.mem_cons.mp hj with z | z; · subst z; exact hno s
                                    · rw [List.mem_singleton] at z; subst z; exact hno2 s) ?_ (by rw [List.length_map]; exact Nat.le_trans (List.length_filter_le _ _) hz)
  clear hi hz
  induction L with
  | nil => exact .nil c
  | cons x L ih =>
    obtain ⟨h1, h2⟩ := h x List.mem_cons_self
    have ih := ih fun y hy => h y (List.mem_cons_of_mem _ hy)
    have w0 : wipeS ρ [k, m] = (ρ.set m .dead).set k .dead := rfl
    have ew : ((wipeS ρ [k, m]).set k (.dat (e1 x))).set m (.dat (e2 x)) = (ρ.set k (.dat (e1 x))).set m (.dat (e2 x)) := by
      rw [w0, List.set_set, List.set_comm _ _ hkm, List.set_set, List.set_comm _ _ (Ne.symm hkm)]
    have ha : AsT (gTup K 2 (gCons (gName k) (gCons (gName m) gNil))) (.tup [e1 x, e2 x]) (wipeS ρ [k, m]) ((ρ.set k (.dat (e1 x))).set m (.dat (e2 x))) [k, m] := by
      rw [← ew]
      exact as_tup rfl (as_cons as_name (as_cons as_name as_nil))
    have hw : wipeS ((ρ.set k (.dat (e1 x))).set m (.dat (e2 x))) [k, m] = wipeS ρ [k, m] := by
      show ((((ρ.set k _).set m _).set m .dead).set k .dead) = _
      rw [List.set_set, List.set_comm _ _ hkm, List.set_set, w0]
    cases q : p x with
    | true =>
      rw [List.filter_cons, if_pos q, List.map_cons]
      rw [q] at h1
      exact .take ha (fun _ z => z) hw h1 (h2 q) id ih
    | false =>
      rw [List.filter_cons, if_neg (by rw [q]; exact Bool.false_ne_true)]
      rw [q] at h1
      exact .skip ha (fun _ z => z) hw h1 id ih
end
/-- lists of numbers -/
def nlD (F : List Nat) : List D := F.map fun x : Nat => D.int (x : Int)
theorem nlD_append (F E : List Nat) : nlD (F ++ E) = nlD F ++ nlD E := by simp [nlD]
theorem nlD_len (F : List Nat) : (nlD F).length = F.length := by simp [nlD]
theorem nlD_ints (F : List Nat) : nlD F = (F.map fun x : Nat => (x : Int)).map D.int := by simp [nlD]
theorem con_sortedN {K : PySem.W.Frag} {ρ : List Sl} {c : Cup} {F E : List Nat} (h1 : E.Perm F) (h2 : E.Pairwise (· ≤ ·)) : CON (rSortedI K) ρ c [.lst (nlD F)] (nlD E) := by
  rw [nlD_ints, nlD_ints]
  refine con_sorted (h1.map _) ?_
  rw [List.pairwise_map]
  exact h2.imp fun h => by omega
theorem sum_ints (F : List Nat) : (F.map fun x : Nat => (x : Int)).sum = ((F.sum : Nat) : Int) := by
  induction F with
  | nil => rfl
  | cons a F ih => rw [List.map_cons, List.sum_cons, List.sum_cons, ih]; omega
theorem co_sumN {K : PySem.W.Frag} {ρ : List Sl} {c : Cup} {F : List Nat} : CO (rSum K) ρ c [.lst (nlD F)] (.int ((F.sum : Nat) : Int)) := by
  rw [nlD_ints, ← sum_ints]
  exact co_sum
theorem filter_yes {α : Type} (L : List α) : L.filter (fun _ => true) = L := by simp
end PL

namespace PL
open PySem L2
section
variable {K : PySem.W.Frag} {G0 H0 G H G' H' : Hp} {cp : Addr} {σ : L2.St} {ρ ρ1 : List Sl} {c c1 c2 c3 : Cup} {te ta tb tc : TE} {t u : TT} {d d1 d2 d3 : D} {i j : Int} {P : Pk} {ts tu tw : TS} {g : TG}
theorem ro_pow (h1 : 0 ≤ j) (h2 : j ≤ 1000000) (h3 : i.natAbs < 2 ^ 64) : RO (rI CPow fun i j => .int (i ^ j.toNat)) ρ c (.int i) (.int j) (.int (i ^ j.toNat)) := ro_I (C := CPow) ⟨h1, h2, h3⟩
theorem ro_shl (h1 : 0 ≤ j) (h2 : j ≤ 1000000) (h3 : i.natAbs < 2 ^ 64) : RO (rI CPow fun i j => .int (i * 2 ^ j.toNat)) ρ c (.int i) (.int j) (.int (i * 2 ^ j.toNat)) := ro_I (C := CPow) ⟨h1, h2, h3⟩
/-! ### a new list is given back -/
def SpN (R : List D → List D → Prop) : Sp := fun vs H Q _ => ∃ (G : Hp) (ds xs : List D), Same G H ∧ Reps G vs ds ∧ R ds xs ∧ ∀ p ws G' H', Gr G H G' H' → H p = none → G' p = none → H' p = some (.lst ws) → Reps G' ws xs → Q (.ref p) H'
theorem en_call {R : List D → List D → Prop} {E : XK} {tl : TA} {ds xs : List D} (h : EvA tl ρ c ds c1) (hR : R ds xs) : EvN (tCall (SpN R) [] E tl) ρ c xs c1 := fun G0 H0 cp G H σ e Q q =>
  h G0 H0 cp G H σ e _ fun vs G1 H1 e1 s1 r1 => ⟨G1, ds, xs, e1.gr.s, reps_nil_app r1, hR, fun p ws G' H' gg h1 h2 h3 r => by
    have nb : bs H0 cp c1 p = none := Same.free e1.gr.h h1
    refine q p ws G' H' (e1.mono gg) (s1.trans gg.g) ⟨nb, h2, h3, fun k s hk ho hs => ?_⟩ r
    cases s with
    | own ys =>
      obtain ⟨q, vs', z1, _, _, z2, _⟩ := e1.own hk
      rw [hs] at z1
      cases z1
      rw [h1] at z2
      cases z2
    | odk ys =>
      obtain ⟨q, vs', z1, _, _, z2, _⟩ := e1.odk hk
      rw [hs] at z1
      cases z1
      rw [h1] at z2
      cases z2
    | _ => cases ho⟩
def HoN (ts : TS) (ρ : List Sl) (c : Cup) (X : List D → Cup → Prop) : Prop :=
  ∀ (G0 H0 : Hp) (cp : Addr) (G H : Hp) (σ : L2.St), EnvR G0 H0 cp G H σ ρ c → ∀ E : Ends,
    (∀ xs c' p ws G' H', Gr G0 (bs H0 cp c') G' H' → Same G G' → bs H0 cp c' p = none → G' p = none → H' p = some (.lst ws) → Reps G' ws xs → X xs c' → E.rt (.ref p) H') → ts E σ H
theorem hn_seq {X : List D → Cup → Prop} (h : Ho ts ρ c { nx := fun ρ' c' => HoN tu ρ' c' X }) : HoN (tSeq ts tu) ρ c X := fun G0 H0 cp G H σ e E hr =>
  h G0 H0 cp G H σ e { E with nx := tu E } (fun ρ' c' G' H' σ' e' s k => k G0 H0 cp G' H' σ' e' E fun xs c' p ws G2 H2 g2 s2 => hr xs c' p ws G2 H2 g2 (s.trans s2)) (fun _ _ _ _ _ _ _ _ z => z.elim) (fun _ _ _ _ _ _ _ z => z.elim) (fun _ _ _ _ _ _ _ z => z.elim)
theorem hn_ret {X : List D → Cup → Prop} {xs : List D} (h : EvN te ρ c xs c1) (q : X xs c1) : HoN (tRet te) ρ c X := fun G0 H0 cp G H σ e E hr =>
  h G0 H0 cp G H σ e _ fun p ws G1 H1 e1 s1 n r => hr xs c1 p ws G1 H1 e1.gr s1 n.b n.g n.h r q
theorem ho_fnL {N : List Str} {R : List D → List D → Prop} {vs : List V} {Q : VK} {E : XK} (h : ∀ ds xs, R ds xs → HoN ts (st0 N.length ds) none fun ys c' => ys = xs ∧ c' = none) (hsp : SpN R vs H Q E) :
    ts { nx := fun _ H' => Q .non H', rt := Q } (L2.start N vs) H := by
  obtain ⟨G, ds, xs, s, r, hR, q⟩ := hsp
  refine h ds xs hR G H 0 G H _ (env_start s r) _ fun ys c' p ws G' H' gg _ h1 h2 h3 r z => ?_
  obtain ⟨z1, z2⟩ := z
  subst z1 z2
  exact q p ws G' H' gg h1 h2 h3 r
/-! ### the cup begins -/
def noCup : Sl → Bool
  | .cup => false
  | _ => true
theorem ho_cupIn {k : Nat} {x : Int × Int} (h : EvN te ρ none [.int x.1, .int x.2] none) (hc : ρ.all noCup = true)
    (hr : Ho ts (ρ.set k .cup) (some x) { rt := fun d c' => c' ≠ none ∧ P.rt d none }) : Ho (tSeq (tAsg te (gName k)) ts) ρ none P := fun G0 H0 cp G H σ e E hnx hrt hbk hct =>
  h G0 H0 cp G H σ e _ fun p ws G1 H1 e1 s1 n r => by
    have hw : ws = [.int x.1, .int x.2] := by
      have := r.ints (ns := [x.1, x.2])
      exact this
    subst hw
    have hH0 : H0 p = none := n.b
    have hG0 : G0 p = none := Same.free e1.gr.g n.g
    have e2 : EnvR G0 H0 p G1 H1 σ ρ (some x) := by
      refine ⟨⟨e1.gr.g, fun a u z => ?_, e1.gr.s, fun a u z1 z2 => ?_⟩, fun _ => hG0, e1.len, fun i o s a b => ?_, e1.ap⟩
      · by_cases q : a = p
        · subst q
          rw [show bs H0 a (some x) a = some (cupO x) from upd_same] at z
          cases z
          exact n.h
        · rw [show bs H0 p (some x) a = H0 a from upd_ne q] at z
          exact e1.gr.h a u z
      · by_cases q : a = p
        · subst q; exact n.g
        · rw [show bs H0 p (some x) a = H0 a from upd_ne q] at z1
          exact e1.gr.fr a u z1 z2
      · have w := e1.sl i o s a b
        have nb : ∀ q, H0 q = none → q ≠ p → bs H0 p (some x) q = none := fun q z1 z2 => (upd_ne z2).trans z1
        cases s with
        | dead => trivial
        | dat d => exact w
        | own ys =>
          obtain ⟨q, vs', z1, b1, g1, e3, r⟩ := w
          subst z1
          exact ⟨q, vs', rfl, nb q b1 (fun z => n.n i _ b rfl (by rw [a, z])), g1, e3, r⟩
        | odk ys =>
          obtain ⟨q, vs', z1, b1, g1, e3, r⟩ := w
          subst z1
          exact ⟨q, vs', rfl, nb q b1 (fun z => n.n i _ b rfl (by rw [a, z])), g1, e3, r⟩
        | cup =>
          have := List.all_eq_true.mp hc .cup (List.mem_of_getElem? b)
          cases this
    have e3 := e2.set k (o := some (.ref p)) (s := .cup) rfl (fun z => by cases z)
    refine hr G0 H0 p G1 H1 _ e3 E (fun _ _ _ _ _ _ _ z => z.elim) (fun d c' v G' H' gg sm rr z => ?_) (fun _ _ _ _ _ _ _ z => z.elim) (fun _ _ _ _ _ _ _ z => z.elim)
    obtain ⟨z1, z2⟩ := z
    obtain ⟨y, rfl⟩ : ∃ y, c' = some y := by
      cases c' with
      | none => exact absurd rfl z1
      | some y => exact ⟨y, rfl⟩
    have ne : ∀ a u, H0 a = some u → a ≠ p := fun a u q z => by rw [z, hH0] at q; cases q
    refine hrt d none v G' H' ⟨gg.g, fun a u q => gg.h a u ((upd_ne (ne a u q)).trans q), gg.s, fun a u q1 q2 => gg.fr a u ((upd_ne (ne a u q1)).trans q1) q2⟩ (s1.trans sm) rr z2
end

/-! ### small helpers -/
section
variable {K : PySem.W.Frag} {ρ ρ1 : List Sl} {c c1 c2 c3 : Cup} {te ta tb tc : TE} {t u : TT} {d d1 d2 d3 : D} {i j : Int} {P : Pk} {ts tu tw : TS} {g : TG} {tl : TA}
/-- if not f(..): return False -/
theorem ho_unless {R : List D → D → Prop} {E : XK} {ds : List D} (h : EvA tl ρ c ds c) (hR : R ds (.bl true)) (q : P.nx ρ c) : Ho (tIfS (tNot (tTest (tCall (SpR R) [] E tl))) tu tNext) ρ c P :=
  ho_ifc (b := false) (et_not (b := true) (et_test (ev_callc h hR))) (fun h => by cases h) (fun _ => ho_next q)
theorem ho_unlessC {R : List D → Int × Int → D → Int × Int → Prop} {E : XK} {ds : List D} {k : Nat} {x y : Int × Int} (hk : ρ[k]? = some .cup) (h : EvA tl ρ c ds (some x)) (hR : R ds x (.bl true) y) (q : P.nx ρ (some y)) : Ho (tIfS (tNot (tTest (tCall (SpC R) [] E (tCons (tVar k) tl)))) tu tNext) ρ c P :=
  ho_if (b := false) (et_not (b := true) (et_test (ev_callC hk h hR))) (fun h => by cases h) (fun _ => ho_next q)
theorem eqv_bl (a b : Bool) : D.eqv (.bl a) (.bl b) = (a == b) := by cases a <;> cases b <;> rfl
theorem eqv_nil (xs : List D) : D.eqv (.lst xs) (.lst []) = xs.isEmpty := by cases xs <;> rfl
theorem ro_eqB {a b : Bool} : RO (rEqD K) ρ c (.bl a) (.bl b) (.bl (a == b)) := by rw [← eqv_bl]; exact ro_eq rfl rfl
theorem oks_of : ∀ {xs : List D} {n : Nat}, (∀ x ∈ xs, D.ok x n = true) → D.oks xs n = true
  | [], _, _ => by unfold D.oks; rfl
  | y :: xs, n, h => by
    unfold D.oks
    rw [h y List.mem_cons_self, oks_of fun x hx => h x (List.mem_cons_of_mem _ hx)]
    rfl
theorem ok_nl (F : List Nat) : D.ok (.lst (nlD F)) 64 = true := by
  unfold D.ok
  refine oks_of fun x hx => ?_
  obtain ⟨n, _, rfl⟩ := List.mem_map.mp hx
  rfl
theorem ro_neE {xs : List D} (h : D.ok (.lst xs) 64 = true) : RO (rNeD K) ρ c (.lst xs) (.lst []) (.bl (!xs.isEmpty)) := by rw [← eqv_nil]; exact ro_ne h rfl
theorem ro_eqE {xs : List D} (h : D.ok (.lst xs) 64 = true) : RO (rEqD K) ρ c (.lst xs) (.lst []) (.bl (xs.isEmpty)) := by rw [← eqv_nil]; exact ro_eq h rfl
theorem cm_nat {a b : Nat} (ha : a ≤ 10 ^ 200) (hb : b ≤ 10 ^ 200) : CM (a : Int) (b : Int) := by
  have h1 : (a : Int) ≤ 10 ^ 200 := by exact_mod_cast ha
  have h2 : (b : Int) ≤ 10 ^ 200 := by exact_mod_cast hb
  exact cm_of (by omega) (by omega) (by omega) (by omega)
end

/-! ### a loop over few items, unrolled -/
def ForS (g : TG) (ts : TS) (P : Pk) : List D → List Sl → Cup → Prop
  | [], ρ, c => P.nx ρ c
  | x :: r, ρ, c => ∃ ρ2 is, AsT g x ρ ρ2 is ∧ Ho ts ρ2 c { nx := ForS g ts P r, ct := ForS g ts P r, bk := P.nx, rt := P.rt }
theorem ho_forU {wi : TI} {g : TG} {ts : TS} {ρ : List Sl} {c c1 : Cup} {P : Pk} {xs : List D} (hi : EvI wi ρ c xs c1) (h : ForS g ts P xs ρ c1) : Ho (tFor wi g ts) ρ c P :=
  ho_for (ForS g ts P) hi h (fun _ _ _ _ h => h) (fun _ _ h => h)
theorem cut_dropLast (xs : List D) : cutD xs none (some (-1)) = xs.dropLast := by
  unfold cutD HT.sIx
  rw [List.dropLast_eq_take]
  simp
  congr 1
  omega
end PL

/-! Dicts of one's own. -/
namespace PL
open PySem L2
def keyD : Key → D
  | .inl i => .int i
  | .inr x => .str x
def valD (kvs : List (Key × D)) (k : Key) : Option D := (kvs.find? fun kv => decide (kv.1 = k)).map (·.2)
def putD (kvs : List (Key × D)) (k : Key) (v : D) : List (Key × D) :=
  if (kvs.any fun kv => decide (kv.1 = k)) = true then kvs.map (fun kv => if kv.1 = k then (kv.1, v) else kv) else kvs ++ [(k, v)]
def mergeD (kvs more : List (Key × D)) : List (Key × D) := more.foldl (fun acc kv => putD acc kv.1 kv.2) kvs
section
variable {K : PySem.W.Frag} {G0 H0 G H G' H' : Hp} {cp : Addr} {σ : L2.St} {ρ ρ1 : List Sl} {c c1 c2 c3 : Cup} {te ta tb tc : TE} {t u : TT} {d d1 d2 d3 : D} {i j : Int} {P : Pk} {ts tu tw : TS} {g : TG} {tl : TA}
theorem RepK.val (k : Key) : ∀ {ps : List (Key × V)} {qs : List (Key × D)}, RepK G ps qs → (valV ps k = none ∧ valD qs k = none) ∨ ∃ v d, valV ps k = some v ∧ valD qs k = some d ∧ Rep G v d
  | [], [], _ => .inl ⟨rfl, rfl⟩
  | p :: ps, q :: qs, h => by
    obtain ⟨h1, h2, h3⟩ := h
    by_cases e : p.1 = k
    · refine .inr ⟨p.2, q.2, valV_pos e, ?_, h2⟩
      have e' : q.1 = k := h1 ▸ e
      simp [valD, List.find?_cons, e']
    · have e' : ¬ q.1 = k := h1 ▸ e
      have eq1 : valD (q :: qs) k = valD qs k := by simp [valD, List.find?_cons, e']
      rw [valV_neg e, eq1]
      exact RepK.val k h3
  | [], _ :: _, h => h.elim
  | _ :: _, [], h => h.elim
theorem RepK.any (k : Key) : ∀ {ps : List (Key × V)} {qs : List (Key × D)}, RepK G ps qs → (ps.any fun kv => decide (kv.1 = k)) = (qs.any fun kv => decide (kv.1 = k))
  | [], [], _ => rfl
  | p :: ps, q :: qs, h => by rw [List.any_cons, List.any_cons, h.1, RepK.any k h.2.2]
  | [], _ :: _, h => h.elim
  | _ :: _, [], h => h.elim
theorem RepK.app : ∀ {ps ps' : List (Key × V)} {qs qs' : List (Key × D)}, RepK G ps qs → RepK G ps' qs' → RepK G (ps ++ ps') (qs ++ qs')
  | [], _, [], _, _, h => h
  | p :: ps, _, q :: qs, _, h, h' => ⟨h.1, h.2.1, RepK.app h.2.2 h'⟩
  | [], _, _ :: _, _, h, _ => h.elim
  | _ :: _, _, [], _, h, _ => h.elim
theorem RepK.mapPut (k : Key) {v : V} (r : Rep G v d) : ∀ {ps : List (Key × V)} {qs : List (Key × D)}, RepK G ps qs → RepK G (ps.map fun kv => if kv.1 = k then (kv.1, v) else kv) (qs.map fun kv => if kv.1 = k then (kv.1, d) else kv)
  | [], [], _ => trivial
  | p :: ps, q :: qs, h => by
    obtain ⟨h1, h2, h3⟩ := h
    rw [List.map_cons, List.map_cons]
    by_cases e : p.1 = k
    · have e' : q.1 = k := h1 ▸ e
      rw [if_pos e, if_pos e']
      exact ⟨h1, r, RepK.mapPut k r h3⟩
    · have e' : ¬ q.1 = k := h1 ▸ e
      rw [if_neg e, if_neg e']
      exact ⟨h1, h2, RepK.mapPut k r h3⟩
  | [], _ :: _, h => h.elim
  | _ :: _, [], h => h.elim
theorem RepK.put (k : Key) {v : V} (r : Rep G v d) {ps : List (Key × V)} {qs : List (Key × D)} (h : RepK G ps qs) : RepK G (putK ps k v) (putD qs k d) := by
  unfold putK putD
  rw [h.any k]
  by_cases e : (qs.any fun kv => decide (kv.1 = k)) = true
  · rw [if_pos e, if_pos e]
    exact h.mapPut k r
  · rw [if_neg e, if_neg e]
    exact h.app (ps' := [(k, v)]) (qs' := [(k, d)]) ⟨rfl, r, trivial⟩
theorem RepK.merge : ∀ {ms : List (Key × V)} {ns : List (Key × D)} {ps : List (Key × V)} {qs : List (Key × D)}, RepK G ps qs → RepK G ms ns → RepK G (mergeK ps ms) (mergeD qs ns)
  | [], [], _, _, h, _ => h
  | m :: ms, n :: ns, ps, qs, h, h' => by
    have e : putK ps m.1 m.2 = putK ps n.1 m.2 := by rw [h'.1]
    show RepK G (mergeK (putK ps m.1 m.2) ms) (mergeD (putD qs n.1 n.2) ns)
    rw [e]
    exact RepK.merge (h.put n.1 h'.2.1) h'.2.2
  | [], _ :: _, _, _, _, h => h.elim
  | _ :: _, [], _, _, _, h => h.elim
theorem rep_key {k : Key} {v : V} (h : Rep G v (keyD k)) : v = kV k := by
  cases k with
  | inl i => cases h; rfl
  | inr x => cases h; rfl
theorem rep_keyD (k : Key) : Rep G (kV k) (keyD k) := by
  cases k with
  | inl i => exact .int i
  | inr x => exact .str x
theorem EnvR.dget (e : EnvR G0 H0 cp G H σ ρ c) {m : Nat} {kvs : List (Key × D)} (hm : ρ[m]? = some (.odk kvs)) (k : Key) : ∃ p o, σ[m]? = some (some (.ref p)) ∧ DGet H p (kV k) o ∧ IsD H p ∧ ((o = none ∧ valD kvs k = none) ∨ ∃ v d, o = some v ∧ valD kvs k = some d ∧ Rep G v d) := by
  obtain ⟨p, kv, h1, _, _, h2, r⟩ := e.odk hm
  exact ⟨p, valV kv k, h1, .inl ⟨kv, k, .inl h2, rfl, rfl⟩, .inl ⟨kv, .inl h2⟩, r.val k⟩
theorem ev_dget {m : Nat} {kvs : List (Key × D)} {k : Key} (hm : ρ[m]? = some (.odk kvs)) (hk : Ev ta ρ c (keyD k) c1) (hv : valD kvs k = some d) : Ev (tDGet (tVar m) ta) ρ c d c1 := fun G0 H0 cp G H σ e Q q => by
  obtain ⟨p, o, h1, _⟩ := e.dget hm k
  refine ⟨_, h1, hk G0 H0 cp G H σ e _ fun v G1 H1 e1 s1 r1 => ?_⟩
  obtain ⟨p', o', g1, g2, _, g3⟩ := e1.dget hm k
  rw [h1] at g1
  cases g1
  rcases g3 with ⟨_, g⟩ | ⟨w, d', z1, z2, z3⟩
  · rw [hv] at g; cases g
  · rw [hv] at z2
    cases z2
    subst z1
    rw [rep_key r1]
    exact ⟨_, w, rfl, g2, q w G1 H1 e1 s1 z3⟩
theorem ev_dget2 {m : Nat} {kvs : List (Key × D)} {k : Key} (hm : ρ[m]? = some (.odk kvs)) (hk : Ev ta ρ c (keyD k) c1) (hx : Ev tb ρ c1 d c2) : Ev (tDGet2 (tVar m) ta tb) ρ c ((valD kvs k).getD d) c2 := fun G0 H0 cp G H σ e Q q => by
  obtain ⟨p, o, h1, _, hD, _⟩ := e.dget hm k
  refine ⟨_, h1, p, rfl, hD, hk G0 H0 cp G H σ e _ fun v G1 H1 e1 s1 r1 => hx G0 H0 cp G1 H1 σ e1 _ fun w G2 H2 e2 s2 r2 => ?_⟩
  obtain ⟨p', o', g1, g2, _, g3⟩ := e2.dget hm k
  rw [h1] at g1
  cases g1
  rw [rep_key r1]
  refine ⟨o', g2, ?_⟩
  rcases g3 with ⟨z, g⟩ | ⟨w', d', z1, z2, z3⟩
  · subst z
    rw [g] at q
    exact q w G2 H2 e2 (s1.trans s2) r2
  · subst z1
    rw [z2] at q
    exact q w' G2 H2 e2 (s1.trans s2) z3
theorem ev_din {m : Nat} {kvs : List (Key × D)} {k : Key} (hm : ρ[m]? = some (.odk kvs)) (hk : Ev ta ρ c (keyD k) c1) : Ev (tDIn ta (tVar m)) ρ c (.bl (valD kvs k).isSome) c1 := fun G0 H0 cp G H σ e Q q =>
  hk G0 H0 cp G H σ e _ fun v G1 H1 e1 s1 r1 => by
    obtain ⟨p, o, h1, h2, _, h3⟩ := e1.dget hm k
    rw [rep_key r1]
    refine ⟨_, h1, p, o, rfl, h2, ?_⟩
    have : o.isSome = (valD kvs k).isSome := by
      rcases h3 with ⟨z, g⟩ | ⟨w', d', z1, z2, z3⟩
      · rw [z, g]; rfl
      · rw [z1, z2]; rfl
    rw [this]
    exact q _ G1 H1 e1 s1 (.bl _)
theorem ev_dnin {m : Nat} {kvs : List (Key × D)} {k : Key} (hm : ρ[m]? = some (.odk kvs)) (hk : Ev ta ρ c (keyD k) c1) : Ev (tDNotIn ta (tVar m)) ρ c (.bl (!(valD kvs k).isSome)) c1 := fun G0 H0 cp G H σ e Q q =>
  hk G0 H0 cp G H σ e _ fun v G1 H1 e1 s1 r1 => by
    obtain ⟨p, o, h1, h2, _, h3⟩ := e1.dget hm k
    rw [rep_key r1]
    refine ⟨_, h1, p, o, rfl, h2, ?_⟩
    have : o.isSome = (valD kvs k).isSome := by
      rcases h3 with ⟨z, g⟩ | ⟨w', d', z1, z2, z3⟩
      · rw [z, g]; rfl
      · rw [z1, z2]; rfl
    rw [this]
    exact q _ G1 H1 e1 s1 (.bl _)
theorem ho_dput {m : Nat} {kvs : List (Key × D)} {k : Key} (hm : ρ[m]? = some (.odk kvs)) (hv : Ev tb ρ c d c1) (hk : Ev ta ρ c1 (keyD k) c2) (hz : kvs.length < sizeLine) (q : P.nx (ρ.set m (.odk (putD kvs k d))) c2) : Ho (sDPut (tVar m) ta tb) ρ c P := fun G0 H0 cp G H σ e E hnx _ _ _ =>
  hv G0 H0 cp G H σ e _ fun v G1 H1 e1 s1 r1 => by
    obtain ⟨p0, kv0, h0, _⟩ := e1.odk hm
    refine ⟨_, h0, hk G0 H0 cp G1 H1 σ e1 _ fun w G2 H2 e2 s2 r2 => ?_⟩
    obtain ⟨p, kv, h1, hb, hg, h2, r⟩ := e2.odk hm
    rw [h0] at h1
    cases h1
    rw [rep_key r2]
    refine ⟨_, _, rfl, .inl ⟨kv, k, h2, rfl, by rw [r.length]; exact hz, rfl⟩, ?_⟩
    exact hnx _ c2 G2 _ σ (e2.write (s := .odk (putD kvs k d)) hm rfl h0 hb hg ⟨_, putK kv k v, rfl, hb, hg, upd_same, r.put k (r1.mono s2)⟩ rfl) (s1.trans s2) q
theorem ek_new : EvK tDNewK ρ c [] c := fun G0 H0 cp G H σ e Q q p hp => q p [] G _ (e.newOwn _ hp) (Same.refl _) (e.newFor _ hp) trivial
end

def rDictP (K : PySem.W.Frag) : List V → Hp → VK → Prop := fun xs H Q => ∃ (a : Addr) (ps : List Addr) (kvs : List (Key × V)), xs = [.ref a] ∧ SqL K H a (ps.map V.ref) ∧ Paired (fun p kv => SqT K H p [kV kv.1, kv.2]) ps kvs ∧
    ∀ p, H p = none → Q (.ref p) (upd H p (.dK (mergeK [] kvs)))
theorem kdict {X : Cx} (K : PySem.W.Frag) (hc : X.calm = true := by rfl) (h : X.K = K := by rfl) : CallR X (.type "dict") (rDictP K) := by subst h; exact call_dictP hc
def pairD (kv : Key × D) : D := .tup [keyD kv.1, kv.2]
theorem reps_pairs {K : PySem.W.Frag} {G H : Hp} (s : Same G H) : ∀ {vs : List V} {kvs : List (Key × D)}, Reps G vs (kvs.map pairD) → ∃ (ps : List Addr) (kv : List (Key × V)), vs = ps.map V.ref ∧ Paired (fun p kv => SqT K H p [kV kv.1, kv.2]) ps kv ∧ RepK G kv kvs
  | [], [], _ => ⟨[], [], rfl, .nil, trivial⟩
  | v :: vs, kv :: kvs, r => by
    rw [List.map_cons] at r
    cases r with
    | cons h t =>
      obtain ⟨ps, kv', h1, h2, h3⟩ := reps_pairs s t
      cases h with
      | tup hp rr =>
        cases rr with
        | cons r1 rr =>
          cases rr with
          | cons r2 rr =>
            cases rr
            rename_i a v1 v2
            have e := rep_key r1
            subst e
            exact ⟨a :: ps, (kv.1, v2) :: kv', by rw [h1]; rfl, .cons (SqT.of (s _ _ hp)) h2, rfl, r2, h3⟩
  | [], _ :: _, r => by cases r
  | _ :: _, [], r => by cases r
theorem ek_dict {K : PySem.W.Frag} {ρ : List Sl} {c c1 : Cup} {te : TE} {kvs : List (Key × D)} (h : EbA (tCons te tNil) ρ c [.lst (kvs.map pairD)] c1) : EvK (tCB (rDictP K) (tCons te tNil)) ρ c (mergeD [] kvs) c1 := fun G0 H0 cp G H σ e Q q =>
  h G0 H0 cp G H σ e _ fun vs G1 H1 e1 s1 hh => by
    obtain ⟨v, rfl, hv⟩ := hnds1 hh
    obtain ⟨a, ws, rfl, hp, r⟩ := hv.list e1
    obtain ⟨ps, kv, z1, z2, z3⟩ := reps_pairs (K := K) e1.gr.s r
    subst z1
    refine ⟨a, ps, kv, rfl, SqL.of hp, z2, fun p hp => q p _ G1 _ (e1.newOwn _ hp) s1 (e1.newFor _ hp) ?_⟩
    exact RepK.merge (ps := []) (qs := []) trivial z3
end PL

/-! t[::-1] of a tuple. -/
namespace PL
open PySem PySem.Spec PyProof.Rows L2 HT
theorem range_pick {α : Type} : ∀ M : List α, ((List.range M.length).filterMap fun k => M[k]?) = M
  | [] => rfl
  | a :: M => by
    rw [List.length_cons, List.range_succ_eq_map, List.filterMap_cons, List.filterMap_map]
    have ih := range_pick M
    show a :: ((List.range M.length).filterMap fun k => (a :: M)[k + 1]?) = a :: M
    congr 1
theorem fm_congr {α β : Type} {f g : α → Option β} : ∀ {l : List α}, (∀ x ∈ l, f x = g x) → l.filterMap f = l.filterMap g
  | [], _ => rfl
  | a :: l, h => by rw [List.filterMap_cons, List.filterMap_cons, h a List.mem_cons_self, fm_congr fun x hx => h x (List.mem_cons_of_mem _ hx)]
theorem rev_pick (xs : Array Value) : ((List.range xs.size).filterMap fun (k : Nat) => xs[((xs.size : Int) - 1 + (k : Int) * -1).toNat]?).toArray = xs.toList.reverse.toArray := by
  congr 1
  have h := range_pick xs.toList.reverse
  rw [List.length_reverse, Array.length_toList] at h
  rw [← h]
  apply fm_congr
  intro k hk
  rw [List.mem_range] at hk
  rw [List.getElem?_reverse (by rw [Array.length_toList]; exact hk), Array.length_toList, Array.getElem?_toList]
  congr 1
  omega
theorem rev_adjust (n : Nat) : Builtin.Slice.sliceAdjust none none (-1) (n : Int) = ((n : Int) - 1, -1) := by
  unfold Builtin.Slice.sliceAdjust
  rfl
theorem rev_places (n : Nat) : Builtin.Slice.slicePlaces ((n : Int) - 1) (-1) (-1) = n := by
  unfold Builtin.Slice.slicePlaces
  rw [if_neg (by omega)]
  by_cases h : ((n : Int) - 1) > -1
  · rw [if_pos h, Int.neg_neg, Int.ediv_one]
    omega
  · rw [if_neg h]
    omega
section
variable {prog : Program} {w : World} {A : Around} {E : Value → Shared → Prop} {s : Shared}
theorem rev_applied {sl : Addr} {vl vu vs : Value} {n : Nat} {Q : Int × Int × Nat → Shared → Prop} (hs : s.heap.IsSliceOf sl vl vu vs) (pl : IsPart vl none) (pu : IsPart vu none) (ps : IsPart vs (some (-1)))
    (h : Q ((n : Int) - 1, -1, n) s) : wpAny (model prog w) A (Builtin.Slice.sliceApplied (.ref sl) (pure (n : Int))) Q E s := by
  obtain ⟨z, z1, _, z2⟩ := id hs
  unfold Builtin.Slice.sliceApplied Builtin.Slice.sliceFields
  refine wpAny_bind (wpAny_bind (wpAny_field z1 z2 (x := vl) rfl (wpAny_bind (wpAny_field z1 z2 (x := vu) rfl
    (wpAny_bind (wpAny_field z1 z2 (x := vs) rfl (wpAny_pure ?_)))))))
  refine wpAny_bind (slicePart_ ps ?_)
  show wpAny _ _ (if ((-1 : Int) == 0) = true then _ else _) _ _ s
  rw [if_neg (by decide)]
  refine wpAny_bind (slicePart_ pl
    (wpAny_bind (slicePart_ pu (wpAny_bind (wpAny_pure ?_)))))
  show wpAny _ _ (match Builtin.Slice.sliceAdjust none none (-1) (n : Int) with | (a, b) => pure (a, (-1 : Int), Builtin.Slice.slicePlaces a b (-1))) _ _ s
  rw [rev_adjust n]
  show wpAny _ _ (pure ((n : Int) - 1, (-1 : Int), Builtin.Slice.slicePlaces ((n : Int) - 1) (-1) (-1))) _ _ s
  rw [rev_places]
  exact wpAny_pure h
theorem rev_item {t sl : Addr} {xs : Array Value} {vl vu vs : Value} {Q : Value → Shared → Prop} (ht : IsTup s.heap t xs) (hs : s.heap.IsSliceOf sl vl vu vs) (pl : IsPart vl none) (pu : IsPart vu none) (ps : IsPart vs (some (-1)))
    (h : Q (.ref s.heap.objs.size) { s with heap := s.heap.push { cls := .type "tuple", data := .seq xs.toList.reverse.toArray } }) (hz : xs.size ≤ sizeLine) : wpAny (model prog w) A (getItem (.ref t) (.ref sl)) Q E s := by
  have hk : sizeOk (.seq xs.toList.reverse.toArray) := by
    show xs.toList.reverse.toArray.size ≤ sizeLine
    rw [List.size_toArray, List.length_reverse, Array.length_toList]
    exact hz
  obtain ⟨z, z1, z3, z2⟩ := id hs
  have hT : s.TypeIs (.ref sl) "slice" := ⟨z, z1, z3⟩
  unfold getItem
  try with_reducible refine wpAny_holding ?_
  first
    | refine wpAny_bind (wpAny_pure ?_)
    | skip
  refine wpAny_bind
    (wpAny_sequenceKey ht.typeIs (by decide) ?_)
  refine wpAny_bind (wpAny_callSpecial?_slot (name := Str.ofString "__getitem__") ht.typeIs slot_tuple_getitem
    (wpAny_call_entry slot_tuple_getitem ht.typeIs entry_tuple_getitem ?_ (args_tuple_getitem _ _)))
  show wpAny _ _ (Builtin.Tuple.tupleItemsOf (.ref t) >>= _) _ _ s
  refine wpAny_bind
    (tupleItemsOf_ ht ?_)
  refine wpAny_bind
    (wpAny_typeOf hT ?_)
  rw [if_pos (by decide)]
  refine wpAny_bind (rev_applied hs pl pu ps ?_)
  show wpAny _ _ (if (((xs.size : Int) - 1) == 0 && (-1 : Int) == 1 && xs.size == xs.size) = true then _ else _) _ _ s
  rw [if_neg (by simp), rev_pick]
  first
    | exact wpAny_bind (m := Builtin.Tuple.tupleExact _)
        (wpAny_newObj_type (wpAny_pure ⟨_, rfl, wpAny_pure h⟩) hk)
    | exact wpAny_bind (m := Builtin.Tuple.tupleExact _)
        (wpAny_newObj_type (wpAny_bind (wpAny_pure (wpAny_pure ⟨_, rfl, wpAny_pure h⟩))) hk)
    | exact wpAny_bind (wpAny_bind (m := Builtin.Tuple.tupleExact _)
        (wpAny_newObj_type (wpAny_pure (wpAny_pure ⟨_, rfl, wpAny_pure h⟩)) hk))
    | exact wpAny_bind (wpAny_bind (m := Builtin.Tuple.tupleExact _)
        (wpAny_newObj_type (wpAny_pure ⟨_, rfl, wpAny_pure h⟩) hk))
end
def tRevT (K : PySem.W.Frag) (te : TE) : TE := fun σ H Q => te σ H fun x H1 => ∃ a xs, x = .ref a ∧ SqT K H1 a xs ∧ ∀ p, H1 p = none → Q (.ref p) (upd H1 p (.tup xs.reverse))
theorem pe_revT {X : Cx} {e : Expr} {te : TE} {k : Nat} {p1 p2 p3 pos : Pos} (he : PE X e te) : PE X (.Subscript e (.Slice none none (some (.UnaryOp .USub (.Constant (.int 1) k p1) p2)) p3) pos) (tRevT X.K te) := by
  refine ⟨fun pins s σ H Q I h => ?_⟩
  refine Subscript_ (thn (he.run pins s σ H _ I h) ?_)
  rintro v s1 ⟨x, H1, I1, r1, a, xs, rfl, hx, q⟩
  cases r1
  have hm : PO X (some (.UnaryOp .USub (.Constant (.int 1) k p1) p2)) (tPart (tUn (rU fun i => .int (-i)) (tC (.int 1)))) := po_some (pe_un un_neg pe_int)
  refine wpAny_Slice (thn (po_none.run pins s1 σ H1 (fun o G => o = none ∧ G = H1) I1 ⟨rfl, rfl⟩) ?_)
  rintro vl s2 ⟨l, H2, I2, pl, rfl, rfl⟩
  refine thn (po_none.run pins s2 σ H2 (fun o G => o = none ∧ G = H2) I2 ⟨rfl, rfl⟩) ?_
  rintro vu s3 ⟨u, H3, I3, pu, rfl, rfl⟩
  refine thn (hm.run pins s3 σ H3 (fun o G => o = some (-1) ∧ G = H3) I3 ⟨1, rfl, -1, rfl, rfl, rfl⟩) ?_
  rintro vs s4 ⟨o, H4, I4, ps, rfl, rfl⟩
  have I5 : Inv X pins σ H4 { s4 with heap := s4.heap.push { cls := .type "slice", data := .fields #[vl, vu, vs] } } :=
    I4.kept (t' := s4.toks) fun b ob z => Heap.get?_push_of_some _ z
  obtain ⟨its, r, ht, hz⟩ := I5.tuple hx
  have hl := r.length
  show wpAny (model X.prog X.w) X.A (subscriptTail e (.Slice none none (some (.UnaryOp .USub (.Constant (.int 1) k p1) p2)) p3) (.ref a) (.ref s4.heap.objs.size)) (EP X pins σ Q) X.xe
    { s4 with heap := s4.heap.push { cls := .type "slice", data := .fields #[vl, vu, vs] } }
  refine tail_any (ops := [.ref a, .ref s4.heap.objs.size]) ht.typeIs slot_tuple_getitem.lookup ?_ (by with_unfolding_all rfl)
  refine rev_item ht (Heap.IsSliceOf.new _ vl vu vs) pl pu ps ?_ (by rw [List.size_toArray]; omega)
  refine ⟨.ref _, _, I5.laid (t' := s4.toks) (o := .tup xs.reverse)
    (fun b ob z => Heap.get?_push_of_some _ z) (Nat.le_refl _) ?_, rfl, q _ (I5.hok.fresh (Nat.le_refl _))⟩
  exact ⟨by rw [List.length_reverse]; exact hz, _, r.reverse, IsTup.new _ _⟩
theorem krevT {X : Cx} (K : PySem.W.Frag) {e : Expr} {te : TE} {k : Nat} {p1 p2 p3 pos : Pos} (he : PE X e te) (hK : X.K = K := by rfl) : PE X (.Subscript e (.Slice none none (some (.UnaryOp .USub (.Constant (.int 1) k p1) p2)) p3) pos) (tRevT K te) := by
  subst hK
  exact pe_revT he
theorem ev_revT {K : PySem.W.Frag} {ρ : List Sl} {c c1 : Cup} {te : TE} {xs : List D} (h : Eb te ρ c (.tup xs) c1) : Ev (tRevT K te) ρ c (.tup xs.reverse) c1 := fun G0 H0 cp G H σ e Q q =>
  h G0 H0 cp G H σ e _ fun v G1 H1 e1 s1 hh => by
    obtain ⟨a, vs, rfl, hp, r⟩ := hh.tup e1
    refine ⟨a, vs, rfl, SqT.of hp, fun p hp => ?_⟩
    have sm : Same G1 (upd G1 p (.tup vs.reverse)) := same_new (Same.free e1.gr.s hp)
    exact q _ _ _ (e1.newIn (.tup vs.reverse) hp) (s1.trans sm) (.tup upd_same (r.reverse.mono sm))

/-- x[::-1] of a list or of a tuple -/
def tRevP (K : PySem.W.Frag) (te : TE) : TE := fun σ H Q => tRevL K te σ H Q ∨ tRevT K te σ H Q
theorem krevP {X : Cx} (K : PySem.W.Frag) {e : Expr} {te : TE} {k : Nat} {p1 p2 p3 pos : Pos} (he : PE X e te) (hK : X.K = K := by rfl) : PE X (.Subscript e (.Slice none none (some (.UnaryOp .USub (.Constant (.int 1) k p1) p2)) p3) pos) (tRevP K te) := by
  subst hK
  refine ⟨fun pins s σ H Q I h => ?_⟩
  rcases h with h | h
  · exact (pe_revL he).run pins s σ H Q I h
  · exact (pe_revT he).run pins s σ H Q I h
theorem en_revP {K : PySem.W.Frag} {ρ : List Sl} {c c1 : Cup} {te : TE} {xs : List D} (h : Eb te ρ c (.lst xs) c1) : EvN (tRevP K te) ρ c xs.reverse c1 := fun G0 H0 cp G H σ e Q q => .inl (en_rev h G0 H0 cp G H σ e Q q)
theorem ev_revP {K : PySem.W.Frag} {ρ : List Sl} {c c1 : Cup} {te : TE} {xs : List D} (h : Eb te ρ c (.tup xs) c1) : Ev (tRevP K te) ρ c (.tup xs.reverse) c1 := fun G0 H0 cp G H σ e Q q => .inr (ev_revT h G0 H0 cp G H σ e Q q)
end PL

namespace Hd
open PySem PySem.Spec PyProof.Rows L2
def top (i : Nat) : Stmt := PySem.Challenge.pw_primessure_k56_whole_even_perfect_number.main.body.getD i (.Pass ⟨0, 0, 0, 0⟩)
abbrev s_is_integer : Stmt := top 6
def d_is_integer : He.DefD := ⟨("is_integer", none), "is_integer", "is_integer", defArgs s_is_integer, defBody s_is_integer, defScope s_is_integer, [], []⟩
abbrev s_is_whole : Stmt := top 7
def d_is_whole : He.DefD := ⟨("is_whole", none), "is_whole", "is_whole", defArgs s_is_whole, defBody s_is_whole, defScope s_is_whole, [], []⟩
abbrev s_need_whole : Stmt := top 8
def d_need_whole : He.DefD := ⟨("need_whole", none), "need_whole", "need_whole", defArgs s_need_whole, defBody s_need_whole, defScope s_need_whole, [], []⟩
abbrev s_is_tuple_of : Stmt := top 9
def d_is_tuple_of : He.DefD := ⟨("is_tuple_of", none), "is_tuple_of", "is_tuple_of", defArgs s_is_tuple_of, defBody s_is_tuple_of, defScope s_is_tuple_of, [], []⟩
abbrev s_need_number : Stmt := top 10
def d_need_number : He.DefD := ⟨("need_number", none), "need_number", "need_number", defArgs s_need_number, defBody s_need_number, defScope s_need_number, [], []⟩
abbrev s_need_great : Stmt := top 11
def d_need_great : He.DefD := ⟨("need_great", none), "need_great", "need_great", defArgs s_need_great, defBody s_need_great, defScope s_need_great, [], []⟩
abbrev s_least_factor : Stmt := top 12
def d_least_factor : He.DefD := ⟨("least_factor", none), "least_factor", "least_factor", defArgs s_least_factor, defBody s_least_factor, defScope s_least_factor, [], []⟩
abbrev s_is_prime_in : Stmt := top 13
def d_is_prime_in : He.DefD := ⟨("is_prime_in", none), "is_prime_in", "is_prime_in", defArgs s_is_prime_in, defBody s_is_prime_in, defScope s_is_prime_in, [], []⟩
abbrev s_factors_in : Stmt := top 14
def d_factors_in : He.DefD := ⟨("factors_in", none), "factors_in", "factors_in", defArgs s_factors_in, defBody s_factors_in, defScope s_factors_in, [], []⟩
abbrev s_is_prime : Stmt := top 15
def d_is_prime : He.DefD := ⟨("is_prime", none), "is_prime", "is_prime", defArgs s_is_prime, defBody s_is_prime, defScope s_is_prime, [], []⟩
abbrev s_is_lone : Stmt := top 18
def d_is_lone : He.DefD := ⟨("is_lone", none), "is_lone", "is_lone", defArgs s_is_lone, defBody s_is_lone, defScope s_is_lone, [], []⟩
abbrev s_paper_of : Stmt := top 19
def d_paper_of : He.DefD := ⟨("paper_of", none), "paper_of", "paper_of", defArgs s_paper_of, defBody s_paper_of, defScope s_paper_of, [], []⟩
abbrev s_is_even_perfect : Stmt := top 20
def d_is_even_perfect : He.DefD := ⟨("is_even_perfect", none), "is_even_perfect", "is_even_perfect", defArgs s_is_even_perfect, defBody s_is_even_perfect, defScope s_is_even_perfect, [], []⟩
abbrev s_even_paper : Stmt := top 21
def d_even_paper : He.DefD := ⟨("even_paper", none), "even_paper", "even_paper", defArgs s_even_paper, defBody s_even_paper, defScope s_even_paper, [], []⟩
abbrev s_is_even_paper : Stmt := top 22
def d_is_even_paper : He.DefD := ⟨("is_even_paper", none), "is_even_paper", "is_even_paper", defArgs s_is_even_paper, defBody s_is_even_paper, defScope s_is_even_paper, [], []⟩
abbrev s_even_perfect_to : Stmt := top 23
def d_even_perfect_to : He.DefD := ⟨("even_perfect_to", none), "even_perfect_to", "even_perfect_to", defArgs s_even_perfect_to, defBody s_even_perfect_to, defScope s_even_perfect_to, [], []⟩
abbrev s_sum_of_powers : Stmt := top 25
def d_sum_of_powers : He.DefD := ⟨("sum_of_powers", none), "sum_of_powers", "sum_of_powers", defArgs s_sum_of_powers, defBody s_sum_of_powers, defScope s_sum_of_powers, [], []⟩
abbrev s_multiplied : Stmt := top 26
def d_multiplied : He.DefD := ⟨("multiplied", none), "multiplied", "multiplied", defArgs s_multiplied, defBody s_multiplied, defScope s_multiplied, [], []⟩
abbrev s_summed : Stmt := top 27
def d_summed : He.DefD := ⟨("summed", none), "summed", "summed", defArgs s_summed, defBody s_summed, defScope s_summed, [], []⟩
abbrev s_kind_by : Stmt := top 28
def d_kind_by : He.DefD := ⟨("kind_by", none), "kind_by", "kind_by", defArgs s_kind_by, defBody s_kind_by, defScope s_kind_by, [], []⟩
abbrev s_kind_of_number : Stmt := top 29
def d_kind_of_number : He.DefD := ⟨("kind_of_number", none), "kind_of_number", "kind_of_number", defArgs s_kind_of_number, defBody s_kind_of_number, defScope s_kind_of_number, [], []⟩
abbrev s__law_cup : Stmt := top 31
def d__law_cup : He.DefD := ⟨("_law_cup", none), "_law_cup", "_law_cup", defArgs s__law_cup, defBody s__law_cup, defScope s__law_cup, [], []⟩
abbrev s__law_roll : Stmt := top 32
def d__law_roll : He.DefD := ⟨("_law_roll", none), "_law_roll", "_law_roll", defArgs s__law_roll, defBody s__law_roll, defScope s__law_roll, [], []⟩
abbrev s__law_some : Stmt := top 33
def d__law_some : He.DefD := ⟨("_law_some", none), "_law_some", "_law_some", defArgs s__law_some, defBody s__law_some, defScope s__law_some, [], []⟩
abbrev s__law_sort : Stmt := top 34
def d__law_sort : He.DefD := ⟨("_law_sort", none), "_law_sort", "_law_sort", defArgs s__law_sort, defBody s__law_sort, defScope s__law_sort, [], []⟩
abbrev s__law_like : Stmt := top 35
def d__law_like : He.DefD := ⟨("_law_like", none), "_law_like", "_law_like", defArgs s__law_like, defBody s__law_like, defScope s__law_like, [], []⟩
abbrev s__law_is_prime : Stmt := top 36
def d__law_is_prime : He.DefD := ⟨("_law_is_prime", none), "_law_is_prime", "_law_is_prime", defArgs s__law_is_prime, defBody s__law_is_prime, defScope s__law_is_prime, [], []⟩
abbrev s__law_bent : Stmt := top 37
def d__law_bent : He.DefD := ⟨("_law_bent", none), "_law_bent", "_law_bent", defArgs s__law_bent, defBody s__law_bent, defScope s__law_bent, [], []⟩
abbrev s__law_perfect : Stmt := top 38
def d__law_perfect : He.DefD := ⟨("_law_perfect", none), "_law_perfect", "_law_perfect", defArgs s__law_perfect, defBody s__law_perfect, defScope s__law_perfect, [], []⟩
abbrev s__law_right : Stmt := top 39
def d__law_right : He.DefD := ⟨("_law_right", none), "_law_right", "_law_right", defArgs s__law_right, defBody s__law_right, defScope s__law_right, [], []⟩
abbrev s__law_lists_right : Stmt := top 40
def d__law_lists_right : He.DefD := ⟨("_law_lists_right", none), "_law_lists_right", "_law_lists_right", defArgs s__law_lists_right, defBody s__law_lists_right, defScope s__law_lists_right, [], []⟩
abbrev s__law_written : Stmt := top 41
def d__law_written : He.DefD := ⟨("_law_written", none), "_law_written", "_law_written", defArgs s__law_written, defBody s__law_written, defScope s__law_written, [], []⟩
abbrev s_law : Stmt := top 42
def d_law : He.DefD := ⟨("law", none), "law", "law", defArgs s_law, defBody s_law, defScope s_law, [], []⟩
def fn0 : List He.DefD := [d_is_integer, d_is_whole, d_need_whole, d_is_tuple_of, d_need_number, d_need_great, d_least_factor, d_is_prime_in, d_factors_in, d_is_prime, d_is_lone, d_paper_of, d_is_even_perfect, d_even_paper, d_is_even_paper, d_even_perfect_to, d_sum_of_powers, d_multiplied, d_summed, d_kind_by]
def fn1 : List He.DefD := [d_kind_of_number, d__law_cup, d__law_roll, d__law_some, d__law_sort, d__law_like, d__law_is_prime, d__law_bent, d__law_perfect, d__law_right, d__law_lists_right, d__law_written, d_law]
def fn : List He.DefD := fn0 ++ fn1
def fa0 : List He.Fa := [.glo "is_integer", .glo "is_whole", .glo "need_whole", .glo "is_tuple_of", .glo "need_number", .glo "need_great", .glo "least_factor", .glo "is_prime_in", .glo "factors_in", .glo "is_prime", .glo "is_lone", .glo "paper_of", .glo "is_even_perfect", .glo "even_paper", .glo "is_even_paper", .glo "even_perfect_to", .glo "sum_of_powers", .glo "multiplied", .glo "summed", .glo "kind_by"]
def fa1 : List He.Fa := [.glo "kind_of_number", .glo "_law_cup", .glo "_law_roll", .glo "_law_some", .glo "_law_sort", .glo "_law_like", .glo "_law_is_prime", .glo "_law_bent", .glo "_law_perfect", .glo "_law_right", .glo "_law_lists_right", .glo "_law_written", .glo "law", .int "MOST" 10000000000, .int "GREAT" 10000000000000000000000000000000000000000, .int "BITS" 140, .free "abs", .free "any", .free "bool", .free "dict"]
def fa2 : List He.Fa := [.free "int", .free "isinstance", .free "len", .free "list", .free "range", .free "str", .free "tuple", .free "zip"]
def fa : List He.Fa := fa0 ++ fa1 ++ fa2
def nms0 : List Str := ["PrimeError", "InvalidNumber", "MOST", "GREAT", "is_integer", "is_whole", "need_whole", "is_tuple_of", "need_number", "need_great", "least_factor", "is_prime_in", "factors_in", "is_prime", "BITS", "is_lone", "paper_of", "is_even_perfect", "even_paper", "is_even_paper"]
def nms1 : List Str := ["even_perfect_to", "sum_of_powers", "multiplied", "summed", "kind_by", "kind_of_number", "_law_cup", "_law_roll", "_law_some", "_law_sort", "_law_like", "_law_is_prime", "_law_bent", "_law_perfect", "_law_right", "_law_lists_right", "_law_written"]
def nms : List Str := nms0 ++ nms1
abbrev R : PySem.W.OpenRow := PySem.W.OpenLaw.row PySem.Challenge.rw_primessure_k56_whole_even_perfect_number
abbrev hk : PySem.W.Hook := He.hookD 4 fa fn
def ob (s : PySem.W.SharedT) : He.AlD := He.obsDG 4 fa fn (HandSHeadRun.getT s)
theorem ob_eq (s : PySem.W.SharedT) : ob s = hk.obs s.abs := He.obsDG_eq (HandSHeadRun.getT_eq s)
theorem run (w : World) : HandSHeadRun.RunEq R (PySem.W.view R.prog [42]) hk ob 4000 nms w := by
  intro os
  kernel_rfl
/-- what the top leaves -/
structure Txt (K : PySem.W.Frag) (mg : Str → Option Value) : Prop where
  ex : ∃ h : Heap, K.In h ∧ h.Ns mainGlobals mg
  c : He.SaysD fa fn K
section
variable {K : PySem.W.Frag} {mg : Str → Option Value}
theorem Txt.con_MOST (T : Txt K mg) : ∃ t, mg "MOST" = some (.int 10000000000 t) := by
  obtain ⟨h, X, G⟩ := T.ex
  exact He.int_ok X G (T.c.fact 33 (f := .int "MOST" 10000000000) rfl)
theorem Txt.con_GREAT (T : Txt K mg) : ∃ t, mg "GREAT" = some (.int 10000000000000000000000000000000000000000 t) := by
  obtain ⟨h, X, G⟩ := T.ex
  exact He.int_ok X G (T.c.fact 34 (f := .int "GREAT" 10000000000000000000000000000000000000000) rfl)
theorem Txt.con_BITS (T : Txt K mg) : ∃ t, mg "BITS" = some (.int 140 t) := by
  obtain ⟨h, X, G⟩ := T.ex
  exact He.int_ok X G (T.c.fact 35 (f := .int "BITS" 140) rfl)
theorem Txt.f_abs (T : Txt K mg) : mg "abs" = none := by
  obtain ⟨h, X, G⟩ := T.ex
  exact He.free_ok X G (T.c.fact 36 (f := .free "abs") rfl)
theorem Txt.f_any (T : Txt K mg) : mg "any" = none := by
  obtain ⟨h, X, G⟩ := T.ex
  exact He.free_ok X G (T.c.fact 37 (f := .free "any") rfl)
theorem Txt.f_bool (T : Txt K mg) : mg "bool" = none := by
  obtain ⟨h, X, G⟩ := T.ex
  exact He.free_ok X G (T.c.fact 38 (f := .free "bool") rfl)
theorem Txt.f_dict (T : Txt K mg) : mg "dict" = none := by
  obtain ⟨h, X, G⟩ := T.ex
  exact He.free_ok X G (T.c.fact 39 (f := .free "dict") rfl)
theorem Txt.f_int (T : Txt K mg) : mg "int" = none := by
  obtain ⟨h, X, G⟩ := T.ex
  exact He.free_ok X G (T.c.fact 40 (f := .free "int") rfl)
theorem Txt.f_isinstance (T : Txt K mg) : mg "isinstance" = none := by
  obtain ⟨h, X, G⟩ := T.ex
  exact He.free_ok X G (T.c.fact 41 (f := .free "isinstance") rfl)
theorem Txt.f_len (T : Txt K mg) : mg "len" = none := by
  obtain ⟨h, X, G⟩ := T.ex
  exact He.free_ok X G (T.c.fact 42 (f := .free "len") rfl)
theorem Txt.f_list (T : Txt K mg) : mg "list" = none := by
  obtain ⟨h, X, G⟩ := T.ex
  exact He.free_ok X G (T.c.fact 43 (f := .free "list") rfl)
theorem Txt.f_range (T : Txt K mg) : mg "range" = none := by
  obtain ⟨h, X, G⟩ := T.ex
  exact He.free_ok X G (T.c.fact 44 (f := .free "range") rfl)
theorem Txt.f_str (T : Txt K mg) : mg "str" = none := by
  obtain ⟨h, X, G⟩ := T.ex
  exact He.free_ok X G (T.c.fact 45 (f := .free "str") rfl)
theorem Txt.f_tuple (T : Txt K mg) : mg "tuple" = none := by
  obtain ⟨h, X, G⟩ := T.ex
  exact He.free_ok X G (T.c.fact 46 (f := .free "tuple") rfl)
theorem Txt.f_zip (T : Txt K mg) : mg "zip" = none := by
  obtain ⟨h, X, G⟩ := T.ex
  exact He.free_ok X G (T.c.fact 47 (f := .free "zip") rfl)
end
section
open PL
variable {P : Program} {w : World} {K : PySem.W.Frag} {mg : Str → Option Value} {base : Heap} {d : He.DefD} {N ps : List Str} {k : Nat}
theorem calOf {Rl : List PL.D → PL.D → Prop} (T : Txt K mg) (i : Nat) (S : FnScope N ps d.scope)
    (hb : ∀ (kV doc pm : Value) (an : Option Addr) (cdv ct : Value) (us : List Value), us.length = ps.length → bindArgs (PySem.W.fnOf d.name d.qual d.params d.body d.scope .none kV doc pm an cdv ct) ⟨us, []⟩ = pure (ps.zip us))
    (hl : ∀ ds e, Rl ds e → ds.length = ps.length)
    (body : ∀ (cdv : Value) (A : Around) (outer : List Env) (s : Shared) (H : Hp) (E : XK), Room k (A.deeper (envOfC d.qual d.scope s.heap.objs.size (He.ga K d.name) cdv)) →
      ∃ t, PSs (cxOf CX0 P w K mg base N d.qual d.scope (He.ga K d.name) cdv A outer s H E) d.body t ∧ ∀ ds e, Rl ds e → Ho t (st0 N.length ds) none { nx := fun _ c' => e = .non ∧ c' = none, rt := fun d' c' => d' = e ∧ c' = none })
    (hd : fn[i]? = some d := by rfl) (hf : fa[i]? = some (.glo d.name) := by rfl) (hat : d.at_ = (d.name, none) := by rfl) (h0 : d.dfl = [] := by rfl) (h1 : d.kwd = [] := by rfl) : Cal P w K mg base CX0 d.name (k + 1) ps (SpR Rl) := by
  obtain ⟨h, X, G⟩ := T.ex
  obtain ⟨fd, F⟩ := T.c.def_ i hd
  have g := He.glo_ok X G (T.c.fact i hf)
  have e1 : d.dvs K = [] := by unfold He.DefD.dvs; rw [h0]; rfl
  have e2 : d.kws K = [] := by unfold He.DefD.kws; rw [h1]; rfl
  have e3 : He.fAd K d.at_ = He.ga K d.name := by rw [hat]; rfl
  rw [e1, e2, e3] at F
  refine ⟨He.ga K d.name, fd, F.ok S (fun vs H Q E z => ?_) (fun cdv A outer s H vs Q E hr z => ?_), g, F.kp, F.bindsN hb⟩
  · obtain ⟨G', ds, e, _, r, hR, _⟩ := z
    rw [r.length]
    exact hl ds e hR
  · obtain ⟨t, h3, h4⟩ := body cdv A outer s H E hr
    exact ⟨t, h3, ho_fn h4 z⟩
theorem calC {Rl : List PL.D → Int × Int → PL.D → Int × Int → Prop} (T : Txt K mg) (i : Nat) (S : FnScope N ps d.scope)
    (hb : ∀ (kV doc pm : Value) (an : Option Addr) (cdv ct : Value) (us : List Value), us.length = ps.length → bindArgs (PySem.W.fnOf d.name d.qual d.params d.body d.scope .none kV doc pm an cdv ct) ⟨us, []⟩ = pure (ps.zip us))
    (hl : ∀ ds x e y, Rl ds x e y → ds.length + 1 = ps.length)
    (body : ∀ (cdv : Value) (A : Around) (outer : List Env) (s : Shared) (H : Hp) (E : XK), Room k (A.deeper (envOfC d.qual d.scope s.heap.objs.size (He.ga K d.name) cdv)) →
      ∃ t, PSs (cxOf CX0 P w K mg base N d.qual d.scope (He.ga K d.name) cdv A outer s H E) d.body t ∧ ∀ ds x e y, Rl ds x e y → Ho t (stC N.length ds) (some x) { nx := fun _ c' => e = .non ∧ c' = some y, rt := fun d' c' => d' = e ∧ c' = some y })
    (hd : fn[i]? = some d := by rfl) (hf : fa[i]? = some (.glo d.name) := by rfl) (hat : d.at_ = (d.name, none) := by rfl) (h0 : d.dfl = [] := by rfl) (h1 : d.kwd = [] := by rfl) : Cal P w K mg base CX0 d.name (k + 1) ps (SpC Rl) := by
  obtain ⟨h, X, G⟩ := T.ex
  obtain ⟨fd, F⟩ := T.c.def_ i hd
  have g := He.glo_ok X G (T.c.fact i hf)
  have e1 : d.dvs K = [] := by unfold He.DefD.dvs; rw [h0]; rfl
  have e2 : d.kws K = [] := by unfold He.DefD.kws; rw [h1]; rfl
  have e3 : He.fAd K d.at_ = He.ga K d.name := by rw [hat]; rfl
  rw [e1, e2, e3] at F
  refine ⟨He.ga K d.name, fd, F.ok S (fun vs H Q E z => ?_) (fun cdv A outer s H vs Q E hr z => ?_), g, F.kp, F.bindsN hb⟩
  · obtain ⟨G', p, ws, ds, x, e, y, rfl, _, _, _, r, hR, _⟩ := z
    rw [List.length_cons, r.length]
    exact hl ds x e y hR
  · obtain ⟨t, h3, h4⟩ := body cdv A outer s H E hr
    exact ⟨t, h3, ho_fnC h4 z⟩
def CalT (P : Program) (w : World) (K : PySem.W.Frag) (mg : Str → Option Value) (CX : CXT) (x : Str) (k : Nat) (ps : List Str) (sp : Sp) : Prop :=
  ∃ (f : Addr) (fd : FuncData), (∀ base : Heap, FnOk P w K mg base CX k f fd ps sp) ∧ mg x = some (.ref f) ∧ ∀ (s : Shared) (v : Value), BindsTo s fd ⟨[v], []⟩ [("script", v)]
theorem calTop {Rl : List PL.D → PL.D → Prop} (T : Txt K mg) (i : Nat) (S : FnScope N ["script"] d.scope)
    (hb : ∀ (kV doc pm : Value) (an : Option Addr) (cdv ct : Value) (us : List Value), us.length = ["script"].length → bindArgs (PySem.W.fnOf d.name d.qual d.params d.body d.scope .none kV doc pm an cdv ct) ⟨us, []⟩ = pure (([("script" : Str)]).zip us))
    (hl : ∀ ds e, Rl ds e → ds.length = ["script"].length)
    (body : ∀ (base : Heap) (cdv : Value) (A : Around) (outer : List Env) (s : Shared) (H : Hp) (E : XK), Room k (A.deeper (envOfC d.qual d.scope s.heap.objs.size (He.ga K d.name) cdv)) →
      ∃ t, PSs (cxOf CX0 P w K mg base N d.qual d.scope (He.ga K d.name) cdv A outer s H E) d.body t ∧ ∀ ds e, Rl ds e → Ho t (st0 N.length ds) none { nx := fun _ c' => e = .non ∧ c' = none, rt := fun d' c' => d' = e ∧ c' = none })
    (hd : fn[i]? = some d := by rfl) (hf : fa[i]? = some (.glo d.name) := by rfl) (hat : d.at_ = (d.name, none) := by rfl) (h0 : d.dfl = [] := by rfl) (h1 : d.kwd = [] := by rfl) (ps : List Str := ["script"]) : CalT P w K mg CX0 d.name (k + 1) ["script"] (SpR Rl) := by
  obtain ⟨h, X, G⟩ := T.ex
  obtain ⟨fd, F⟩ := T.c.def_ i hd
  have g := He.glo_ok X G (T.c.fact i hf)
  have e1 : d.dvs K = [] := by unfold He.DefD.dvs; rw [h0]; rfl
  have e2 : d.kws K = [] := by unfold He.DefD.kws; rw [h1]; rfl
  have e3 : He.fAd K d.at_ = He.ga K d.name := by rw [hat]; rfl
  rw [e1, e2, e3] at F
  have b := FunD.bindsA (ps := ["script"]) F hb
  refine ⟨He.ga K d.name, fd, fun base => F.ok S (fun vs H Q E z => ?_) (fun cdv A outer s H vs Q E hr z => ?_), g, fun s v => b s [v] rfl⟩
  · obtain ⟨G', ds, e, _, r, hR, _⟩ := z
    rw [r.length]
    exact hl ds e hR
  · obtain ⟨t, h3, h4⟩ := body base cdv A outer s H E hr
    exact ⟨t, h3, ho_fn h4 z⟩
theorem calN {Rl : List PL.D → List PL.D → Prop} (T : Txt K mg) (i : Nat) (S : FnScope N ps d.scope)
    (hb : ∀ (kV doc pm : Value) (an : Option Addr) (cdv ct : Value) (us : List Value), us.length = ps.length → bindArgs (PySem.W.fnOf d.name d.qual d.params d.body d.scope .none kV doc pm an cdv ct) ⟨us, []⟩ = pure (ps.zip us))
    (hl : ∀ ds e, Rl ds e → ds.length = ps.length)
    (body : ∀ (cdv : Value) (A : Around) (outer : List Env) (s : Shared) (H : Hp) (E : XK), Room k (A.deeper (envOfC d.qual d.scope s.heap.objs.size (He.ga K d.name) cdv)) →
      ∃ t, PSs (cxOf CX0 P w K mg base N d.qual d.scope (He.ga K d.name) cdv A outer s H E) d.body t ∧ ∀ ds xs, Rl ds xs → HoN t (st0 N.length ds) none fun ys c' => ys = xs ∧ c' = none)
    (hd : fn[i]? = some d := by rfl) (hf : fa[i]? = some (.glo d.name) := by rfl) (hat : d.at_ = (d.name, none) := by rfl) (h0 : d.dfl = [] := by rfl) (h1 : d.kwd = [] := by rfl) : Cal P w K mg base CX0 d.name (k + 1) ps (SpN Rl) := by
  obtain ⟨h, X, G⟩ := T.ex
  obtain ⟨fd, F⟩ := T.c.def_ i hd
  have g := He.glo_ok X G (T.c.fact i hf)
  have e1 : d.dvs K = [] := by unfold He.DefD.dvs; rw [h0]; rfl
  have e2 : d.kws K = [] := by unfold He.DefD.kws; rw [h1]; rfl
  have e3 : He.fAd K d.at_ = He.ga K d.name := by rw [hat]; rfl
  rw [e1, e2, e3] at F
  refine ⟨He.ga K d.name, fd, F.ok S (fun vs H Q E z => ?_) (fun cdv A outer s H vs Q E hr z => ?_), g, F.kp, F.bindsN hb⟩
  · obtain ⟨G', ds, xs, _, r, hR, _⟩ := z
    rw [r.length]
    exact hl ds xs hR
  · obtain ⟨t, h3, h4⟩ := body cdv A outer s H E hr
    exact ⟨t, h3, ho_fnL h4 z⟩
end
end Hd
/-! Numbers: primes, factors, divisors. Plain Lean. -/
namespace NT

def Pr (p : Nat) : Prop := 2 ≤ p ∧ ∀ d, d ∣ p → d = 1 ∨ d = p
theorem Pr.two {p : Nat} (h : Pr p) : 2 ≤ p := h.1
theorem Pr.pos {p : Nat} (h : Pr p) : 0 < p := by have := h.1; omega
theorem exists_prime : ∀ n : Nat, 2 ≤ n → ∃ p, Pr p ∧ p ∣ n := by
  intro n
  induction n using Nat.strongRecOn with
  | ind n ih =>
    intro h
    by_cases hp : Pr n
    · exact ⟨n, hp, Nat.dvd_refl n⟩
    · have : ∃ d, d ∣ n ∧ d ≠ 1 ∧ d ≠ n := by
        apply Classical.byContradiction
        intro hc
        refine hp ⟨h, fun d hd => ?_⟩
        apply Classical.byContradiction
        intro hc2
        exact hc ⟨d, hd, fun z => hc2 (.inl z), fun z => hc2 (.inr z)⟩
      obtain ⟨d, h1, h2, h3⟩ := this
      have hd0 : d ≠ 0 := fun z => by subst z; rw [Nat.zero_dvd] at h1; omega
      have hle := Nat.le_of_dvd (by omega) h1
      obtain ⟨p, a, b⟩ := ih d (by omega) (by omega)
      exact ⟨p, a, Nat.dvd_trans b h1⟩
theorem Pr.coprime {p a : Nat} (h : Pr p) (ha : ¬ p ∣ a) : Nat.Coprime p a := by
  rcases h.2 _ (Nat.gcd_dvd_left p a) with e | e
  · exact e
  · exact absurd (e ▸ Nat.gcd_dvd_right p a) ha
theorem Pr.dvd_mul {p a b : Nat} (h : Pr p) (hd : p ∣ a * b) : p ∣ a ∨ p ∣ b := by
  by_cases ha : p ∣ a
  · exact .inl ha
  · exact .inr ((h.coprime ha).dvd_of_dvd_mul_left hd)
theorem Pr.dvd_pow {p a e : Nat} (h : Pr p) (hd : p ∣ a ^ e) : p ∣ a := by
  induction e with
  | zero =>
    rw [Nat.pow_zero] at hd
    have := Nat.le_of_dvd (by omega) hd
    have := h.1
    omega
  | succ e ih =>
    rw [Nat.pow_succ] at hd
    rcases h.dvd_mul hd with z | z
    · exact ih z
    · exact z
theorem Pr.eq_of_dvd {p q : Nat} (h : Pr p) (hq : Pr q) (hd : p ∣ q) : p = q := by
  rcases hq.2 p hd with z | z
  · have := h.1; omega
  · exact z
theorem Pr.pow_dvd_cop {p e m d : Nat} (h : Pr p) (hm : ¬ p ∣ m) : Nat.Coprime (p ^ e) m := Nat.Coprime.pow_left e (h.coprime hm)

/-! ### factors -/
def prodF : List (Nat × Nat) → Nat
  | [] => 1
  | q :: r => q.1 ^ q.2 * prodF r
structure Fac (l : List (Nat × Nat)) (n : Nat) : Prop where
  asc : l.Pairwise (fun a b => a.1 < b.1)
  pr : ∀ q ∈ l, Pr q.1 ∧ 1 ≤ q.2
  prod : prodF l = n
theorem prodF_append (l r : List (Nat × Nat)) : prodF (l ++ r) = prodF l * prodF r := by
  induction l with
  | nil => simp [prodF]
  | cons a l ih => simp [prodF, ih, Nat.mul_assoc]
theorem prodF_pos {l : List (Nat × Nat)} (h : ∀ q ∈ l, Pr q.1 ∧ 1 ≤ q.2) : 0 < prodF l := by
  induction l with
  | nil => simp [prodF]
  | cons a l ih =>
    have := (h a List.mem_cons_self).1.pos
    exact Nat.mul_pos (Nat.pow_pos this) (ih fun q hq => h q (List.mem_cons_of_mem _ hq))
theorem prime_dvd_prodF {p : Nat} (hp : Pr p) {l : List (Nat × Nat)} (h : ∀ q ∈ l, Pr q.1 ∧ 1 ≤ q.2) (hd : p ∣ prodF l) : ∃ q ∈ l, p = q.1 := by
  induction l with
  | nil =>
    have := Nat.le_of_dvd (by simp [prodF]) hd
    have := hp.1
    simp [prodF] at *
    omega
  | cons a l ih =>
    rcases hp.dvd_mul hd with z | z
    · exact ⟨a, List.mem_cons_self, hp.eq_of_dvd (h a List.mem_cons_self).1 (hp.dvd_pow z)⟩
    · obtain ⟨q, h1, h2⟩ := ih (fun q hq => h q (List.mem_cons_of_mem _ hq)) z
      exact ⟨q, List.mem_cons_of_mem _ h1, h2⟩
theorem Fac.tail {q : Nat × Nat} {l : List (Nat × Nat)} {n : Nat} (h : Fac (q :: l) n) : Fac l (prodF l) := ⟨(List.pairwise_cons.mp h.asc).2, fun z hz => h.pr z (List.mem_cons_of_mem _ hz), rfl⟩
theorem Fac.head_not {q : Nat × Nat} {l : List (Nat × Nat)} {n : Nat} (h : Fac (q :: l) n) : ¬ q.1 ∣ prodF l := fun hd => by
  obtain ⟨z, h1, h2⟩ := prime_dvd_prodF (h.pr q List.mem_cons_self).1 (fun z hz => h.pr z (List.mem_cons_of_mem _ hz)) hd
  have := (List.pairwise_cons.mp h.asc).1 z h1
  omega
theorem pow_mul_inj {p e f m k : Nat} (hp : Pr p) (hm : ¬ p ∣ m) (hk : ¬ p ∣ k) (h : p ^ e * m = p ^ f * k) : e = f ∧ m = k := by
  have key : ∀ e f m k : Nat, ¬ p ∣ m → ¬ p ∣ k → e ≤ f → p ^ e * m = p ^ f * k → e = f ∧ m = k := by
    intro e f m k hm hk hle h
    have e1 : p ^ f = p ^ e * p ^ (f - e) := by rw [← Nat.pow_add]; congr 1; omega
    rw [e1, Nat.mul_assoc] at h
    have h2 := Nat.eq_of_mul_eq_mul_left (Nat.pow_pos hp.pos) h
    by_cases z : f - e = 0
    · rw [z, Nat.pow_zero, Nat.one_mul] at h2
      exact ⟨by omega, h2⟩
    · exfalso
      apply hm
      rw [h2]
      exact Nat.dvd_trans (Nat.dvd_trans (by obtain ⟨t, ht⟩ : ∃ t, f - e = t + 1 := ⟨f - e - 1, by omega⟩; rw [ht, Nat.pow_succ]; exact Nat.dvd_mul_left p _) (Nat.dvd_refl _)) (Nat.dvd_mul_right _ k)
  rcases Nat.le_total e f with z | z
  · exact key e f m k hm hk z h
  · obtain ⟨a, b⟩ := key f e k m hk hm z h.symm
    exact ⟨a.symm, b.symm⟩
theorem Fac.uniq : ∀ {l r : List (Nat × Nat)} {n : Nat}, Fac l n → Fac r n → l = r
  | [], [], _, _, _ => rfl
  | [], b :: r, n, h, h' => by
    exfalso
    have e : b.1 ^ b.2 * prodF r = 1 := by have := h.prod.trans h'.prod.symm; simpa [prodF] using this.symm
    have hb := h'.pr b List.mem_cons_self
    have : b.1 ∣ 1 := by
      rw [← e]
      obtain ⟨t, ht⟩ : ∃ t, b.2 = t + 1 := ⟨b.2 - 1, by omega⟩
      rw [ht, Nat.pow_succ]
      exact Nat.dvd_trans (Nat.dvd_mul_left _ _) (Nat.dvd_mul_right _ _)
    have := Nat.le_of_dvd (by omega) this
    have := hb.1.1
    omega
  | a :: l, [], n, h, h' => by
    exfalso
    have e : a.1 ^ a.2 * prodF l = 1 := by have := h'.prod.trans h.prod.symm; simpa [prodF] using this.symm
    have hb := h.pr a List.mem_cons_self
    have : a.1 ∣ 1 := by
      rw [← e]
      obtain ⟨t, ht⟩ : ∃ t, a.2 = t + 1 := ⟨a.2 - 1, by omega⟩
      rw [ht, Nat.pow_succ]
      exact Nat.dvd_trans (Nat.dvd_mul_left _ _) (Nat.dvd_mul_right _ _)
    have := Nat.le_of_dvd (by omega) this
    have := hb.1.1
    omega
  | a :: l, b :: r, n, h, h' => by
    have ha := h.pr a List.mem_cons_self
    have hb := h'.pr b List.mem_cons_self
    have self_dvd : ∀ (q : Nat × Nat) (t : List (Nat × Nat)), 1 ≤ q.2 → q.1 ∣ prodF (q :: t) := fun q t hq => by
      obtain ⟨k, hk⟩ : ∃ k, q.2 = k + 1 := ⟨q.2 - 1, by omega⟩
      show q.1 ∣ q.1 ^ q.2 * prodF t
      rw [hk, Nat.pow_succ]
      exact Nat.dvd_trans (Nat.dvd_mul_left _ _) (Nat.dvd_mul_right _ _)
    have d1 : a.1 ∣ prodF (b :: r) := by rw [h'.prod, ← h.prod]; exact self_dvd a l ha.2
    have d2 : b.1 ∣ prodF (a :: l) := by rw [h.prod, ← h'.prod]; exact self_dvd b r hb.2
    have le1 : b.1 ≤ a.1 := by
      obtain ⟨q, h1, h2⟩ := prime_dvd_prodF ha.1 h'.pr d1
      rcases List.mem_cons.mp h1 with z | z
      · rw [h2, z]; exact Nat.le_refl _
      · rw [h2]; exact Nat.le_of_lt ((List.pairwise_cons.mp h'.asc).1 q z)
    have le2 : a.1 ≤ b.1 := by
      obtain ⟨q, h1, h2⟩ := prime_dvd_prodF hb.1 h.pr d2
      rcases List.mem_cons.mp h1 with z | z
      · rw [h2, z]; exact Nat.le_refl _
      · rw [h2]; exact Nat.le_of_lt ((List.pairwise_cons.mp h.asc).1 q z)
    have e1 : a.1 = b.1 := Nat.le_antisymm le2 le1
    have hp := h.prod.trans h'.prod.symm
    have hp2 : a.1 ^ a.2 * prodF l = a.1 ^ b.2 * prodF r := by
      have : a.1 ^ a.2 * prodF l = b.1 ^ b.2 * prodF r := hp
      rw [this, e1]
    obtain ⟨e2, e3⟩ := pow_mul_inj ha.1 h.head_not (by rw [e1]; exact h'.head_not) hp2
    have := Fac.uniq h.tail (show Fac r (prodF l) by rw [e3]; exact h'.tail)
    rw [this, show a = b from Prod.ext e1 e2]

/-- a prime's power, and what is left -/
theorem split_pow (p : Nat) (hp : 2 ≤ p) : ∀ n : Nat, 0 < n → ∃ e m, n = p ^ e * m ∧ ¬ p ∣ m := by
  intro n
  induction n using Nat.strongRecOn with
  | ind n ih =>
    intro h
    by_cases hd : p ∣ n
    · obtain ⟨k, hk⟩ := hd
      have hk0 : 0 < k := by
        rcases Nat.eq_zero_or_pos k with z | z
        · subst z; omega
        · exact z
      have hlt : k < n := by
        rw [hk]
        calc k = 1 * k := (Nat.one_mul k).symm
          _ < p * k := Nat.mul_lt_mul_of_pos_right (by omega) hk0
      obtain ⟨e, m, h1, h2⟩ := ih k hlt hk0
      exact ⟨e + 1, m, by rw [hk, h1, Nat.pow_succ]; ac_rfl, h2⟩
    · exact ⟨0, n, by simp, hd⟩
end NT

namespace NT

/-- the least divisor from 2 on -/
def LPF (p n : Nat) : Prop := 2 ≤ p ∧ p ∣ n ∧ ∀ q, 2 ≤ q → q ∣ n → p ≤ q
theorem LPF.pr {p n : Nat} (h : LPF p n) : Pr p := by
  refine ⟨h.1, fun d hd => ?_⟩
  by_cases h1 : d = 1
  · exact .inl h1
  · have hp0 : 0 < p := by have := h.1; omega
    have hd0 : 0 < d := Nat.pos_of_dvd_of_pos hd hp0
    have := h.2.2 d (by omega) (Nat.dvd_trans hd h.2.1)
    have := Nat.le_of_dvd hp0 hd
    exact .inr (by omega)
theorem LPF.self {n : Nat} (h : LPF n n) : Pr n := h.pr
theorem LPF.of_pr {n : Nat} (h : Pr n) : LPF n n := by
  refine ⟨h.1, Nat.dvd_refl n, fun q hq hd => ?_⟩
  rcases h.2 q hd with z | z <;> omega
theorem LPF.uniq {p q n : Nat} (h : LPF p n) (g : LPF q n) : p = q := Nat.le_antisymm (h.2.2 q g.1 g.2.1) (g.2.2 p h.1 h.2.1)
theorem LPF.prime_iff {p n : Nat} (h : LPF p n) : p = n ↔ Pr n := ⟨fun e => by subst e; exact h.pr, fun g => h.uniq (.of_pr g)⟩
/-- nothing below k divides -/
def NoD (k n : Nat) : Prop := ∀ d, 2 ≤ d → d < k → ¬ d ∣ n
theorem NoD.lpf {k n : Nat} (h : NoD k n) (hk : 2 ≤ k) (hd : k ∣ n) : LPF k n := ⟨hk, hd, fun q hq hqd => Nat.le_of_not_lt fun hl => h q hq hl hqd⟩
theorem NoD.prime {k n : Nat} (h : NoD k n) (hn : 2 ≤ n) (hk : n < k * k) : LPF n n := by
  refine ⟨hn, Nat.dvd_refl n, fun q hq hd => ?_⟩
  obtain ⟨m, hm⟩ := hd
  apply Nat.le_of_not_lt
  intro hlt
  have hqk : k ≤ q := Nat.le_of_not_lt fun hl => h q hq hl ⟨m, hm⟩
  have hm2 : 2 ≤ m := by
    rcases Nat.lt_or_ge m 2 with z | z
    · rcases Nat.lt_or_ge m 1 with y | y
      · have : m = 0 := by omega
        subst this; omega
      · have : m = 1 := by omega
        subst this; omega
    · exact z
  have hmk : k ≤ m := Nat.le_of_not_lt fun hl => h m hm2 hl ⟨q, by rw [hm, Nat.mul_comm]⟩
  have := Nat.mul_le_mul hqk hmk
  omega
theorem NoD.dvd {k n m : Nat} (h : NoD k n) (hd : m ∣ n) : NoD k m := fun d h1 h2 h3 => h d h1 h2 (Nat.dvd_trans h3 hd)
theorem NoD.succ {k n : Nat} (h : NoD k n) (hk : ¬ k ∣ n) : NoD (k + 1) n := fun d h1 h2 => by
  by_cases e : d = k
  · rw [e]; exact hk
  · exact h d h1 (by omega)
theorem NoD.even {k n : Nat} (h : NoD k n) (hk : 2 < k) (he : k % 2 = 0) : NoD (k + 1) n := h.succ fun hd => h 2 (by omega) hk (Nat.dvd_trans (by omega) hd)
theorem NoD.three {k n : Nat} (h : NoD k n) (hk : 3 < k) (he : k % 3 = 0) : NoD (k + 1) n := h.succ fun hd => h 3 (by omega) hk (Nat.dvd_trans (by omega) hd)
theorem NoD.le {k j n : Nat} (h : NoD k n) (hj : j ≤ k) : NoD j n := fun d h1 h2 => h d h1 (by omega)

/-! ### factors come out of dividing -/
theorem exists_fac : ∀ n : Nat, 1 ≤ n → ∀ k : Nat, NoD k n → ∃ l, Fac l n ∧ ∀ q ∈ l, k ≤ q.1 := by
  intro n
  induction n using Nat.strongRecOn with
  | ind n ih =>
    intro hn k hk
    by_cases h1 : n = 1
    · subst h1; exact ⟨[], ⟨List.Pairwise.nil, by simp, rfl⟩, by simp⟩
    · obtain ⟨p0, hp0, hd0⟩ := exists_prime n (by omega)
      have ex : ∃ p, LPF p n := by
        have : ∀ m, NoD m n ∨ ∃ p, LPF p n := by
          intro m
          induction m with
          | zero => exact .inl fun d _ h => by omega
          | succ m ihm =>
            rcases ihm with h | h
            · by_cases hm : 2 ≤ m ∧ m ∣ n
              · exact .inr ⟨m, h.lpf hm.1 hm.2⟩
              · refine .inl fun d h1 h2 h3 => ?_
                by_cases e : d = m
                · subst e; exact hm ⟨h1, h3⟩
                · exact h d h1 (by omega) h3
            · exact .inr h
        rcases this (p0 + 1) with h | h
        · exact absurd hd0 (h p0 hp0.1 (by omega))
        · exact h
      obtain ⟨p, hp⟩ := ex
      obtain ⟨e, m, h2, h3⟩ := split_pow p hp.1 n (by omega)
      have he : 1 ≤ e := by
        rcases Nat.eq_zero_or_pos e with z | z
        · subst z
          rw [Nat.pow_zero, Nat.one_mul] at h2
          subst h2
          exact absurd hp.2.1 h3
        · exact z
      have hm0 : 1 ≤ m := by
        rcases Nat.eq_zero_or_pos m with z | z
        · subst z; simp at h3
        · exact z
      have hpe : 2 ≤ p ^ e := Nat.le_trans hp.1 (by
        obtain ⟨t, ht⟩ : ∃ t, e = t + 1 := ⟨e - 1, by omega⟩
        rw [ht, Nat.pow_succ]
        exact Nat.le_mul_of_pos_left p (Nat.pow_pos hp.pr.pos))
      have hlt : m < n := by
        rw [h2]
        calc m = 1 * m := (Nat.one_mul m).symm
          _ < p ^ e * m := Nat.mul_lt_mul_of_pos_right (by omega) hm0
      have hno : NoD (p + 1) m := fun d h4 h5 h6 => by
        by_cases z : d = p
        · rw [z] at h6; exact h3 h6
        · have := hp.2.2 d h4 (Nat.dvd_trans h6 (by rw [h2]; exact Nat.dvd_mul_left m _))
          omega
      obtain ⟨l, hl, hb⟩ := ih m hlt hm0 (p + 1) hno
      refine ⟨(p, e) :: l, ⟨List.pairwise_cons.mpr ⟨fun q hq => ?_, hl.asc⟩, fun q hq => ?_, ?_⟩, fun q hq => ?_⟩
      · have := hb q hq; show p < q.1; omega
      · rcases List.mem_cons.mp hq with z | z
        · subst z; exact ⟨hp.pr, he⟩
        · exact hl.pr q z
      · show p ^ e * prodF l = n
        rw [hl.prod, h2]
      · have hkp : k ≤ p := Nat.le_of_not_lt fun z => hk p hp.1 z hp.2.1
        rcases List.mem_cons.mp hq with z | z
        · subst z; exact hkp
        · have := hb q z; omega
theorem fac_ex (n : Nat) (h : 1 ≤ n) : ∃ l, Fac l n := by
  obtain ⟨l, hl, _⟩ := exists_fac n h 0 (fun d _ h => by omega)
  exact ⟨l, hl⟩
theorem prodF_len {l : List (Nat × Nat)} (h : ∀ q ∈ l, Pr q.1 ∧ 1 ≤ q.2) : 2 ^ l.length ≤ prodF l := by
  induction l with
  | nil => simp [prodF]
  | cons a l ih =>
    have ih := ih fun q hq => h q (List.mem_cons_of_mem _ hq)
    obtain ⟨h1, h2⟩ := h a List.mem_cons_self
    have : 2 ≤ a.1 ^ a.2 := Nat.le_trans h1.1 (by
      obtain ⟨t, ht⟩ : ∃ t, a.2 = t + 1 := ⟨a.2 - 1, by omega⟩
      rw [ht, Nat.pow_succ]
      exact Nat.le_mul_of_pos_left _ (Nat.pow_pos h1.pos))
    rw [List.length_cons, Nat.pow_succ, Nat.mul_comm]
    exact Nat.mul_le_mul this ih
theorem Fac.len {l : List (Nat × Nat)} {n k : Nat} (h : Fac l n) (hk : n < 2 ^ k) : l.length < k := by
  have := prodF_len h.pr
  rw [h.prod] at this
  exact (Nat.pow_lt_pow_iff_right (by omega)).mp (by omega : 2 ^ l.length < 2 ^ k)
/-- the state of dividing -/
structure FacS (l : List (Nat × Nat)) (left part n : Nat) : Prop where
  asc : l.Pairwise (fun a b => a.1 < b.1)
  pr : ∀ q ∈ l, Pr q.1 ∧ 1 ≤ q.2
  lt : ∀ q ∈ l, q.1 < part
  prod : prodF l * left = n
  no : NoD part left
  pos : 1 ≤ left
theorem FacS.le {l : List (Nat × Nat)} {left part n : Nat} (h : FacS l left part n) : left ≤ n := by
  rw [← h.prod]
  exact Nat.le_mul_of_pos_left _ (prodF_pos h.pr)
theorem FacS.len {l : List (Nat × Nat)} {left part n k : Nat} (h : FacS l left part n) (hk : n < 2 ^ k) : l.length < k := by
  have h1 := prodF_len h.pr
  have h2 : prodF l ≤ n := by rw [← h.prod]; exact Nat.le_mul_of_pos_right _ h.pos
  exact (Nat.pow_lt_pow_iff_right (by omega)).mp (by omega : 2 ^ l.length < 2 ^ k)
theorem FacS.start {n : Nat} (h : 1 ≤ n) : FacS [] n 2 n := ⟨.nil, by simp, by simp, by simp [prodF], fun d h1 h2 => by omega, h⟩
theorem FacS.end_one {l : List (Nat × Nat)} {part n : Nat} (h : FacS l 1 part n) : Fac l n := ⟨h.asc, h.pr, by rw [← h.prod, Nat.mul_one]⟩
theorem FacS.end_left {l : List (Nat × Nat)} {left part n : Nat} (h : FacS l left part n) (h1 : 1 < left) (hk : left < part * part) : Fac (l ++ [(left, 1)]) n := by
  have hp := (h.no.prime h1 hk).pr
  refine ⟨List.pairwise_append.mpr ⟨h.asc, List.pairwise_singleton _ _, fun a ha b hb => ?_⟩, fun q hq => ?_, ?_⟩
  · rw [List.mem_singleton] at hb
    subst hb
    have h2 := h.lt a ha
    exact Nat.lt_of_lt_of_le h2 (Nat.le_of_not_lt fun hl => h.no left hp.1 hl (Nat.dvd_refl _))
  · rcases List.mem_append.mp hq with z | z
    · exact h.pr q z
    · rw [List.mem_singleton] at z
      subst z
      exact ⟨hp, Nat.le_refl _⟩
  · rw [prodF_append, ← h.prod]
    simp [prodF]
theorem FacS.skip {l : List (Nat × Nat)} {left part n : Nat} (h : FacS l left part n) (hd : ¬ part ∣ left) : FacS l left (part + 1) n :=
  ⟨h.asc, h.pr, fun q hq => by have := h.lt q hq; omega, h.prod, h.no.succ hd, h.pos⟩
/-- a prime is taken out -/
theorem FacS.take {l : List (Nat × Nat)} {left part n e m : Nat} (h : FacS l left part n) (h2 : 2 ≤ part) (he : 1 ≤ e) (hl : left = part ^ e * m) (hm : ¬ part ∣ m) (hm0 : 1 ≤ m) : FacS (l ++ [(part, e)]) m (part + 1) n := by
  have hd : part ∣ left := by
    rw [hl]
    obtain ⟨t, ht⟩ : ∃ t, e = t + 1 := ⟨e - 1, by omega⟩
    rw [ht, Nat.pow_succ]
    exact Nat.dvd_trans (Nat.dvd_mul_left _ _) (Nat.dvd_mul_right _ _)
  refine ⟨List.pairwise_append.mpr ⟨h.asc, List.pairwise_singleton _ _, fun a ha b hb => ?_⟩, fun q hq => ?_, fun q hq => ?_, ?_, ?_, hm0⟩
  · rw [List.mem_singleton] at hb
    subst hb
    exact h.lt a ha
  · rcases List.mem_append.mp hq with z | z
    · exact h.pr q z
    · rw [List.mem_singleton] at z
      subst z
      exact ⟨(h.no.lpf h2 hd).pr, he⟩
  · rcases List.mem_append.mp hq with z | z
    · have := h.lt q z; omega
    · rw [List.mem_singleton] at z
      subst z
      show part < part + 1
      omega
  · rw [prodF_append, ← h.prod, hl]
    simp [prodF, Nat.mul_assoc]
  · exact (h.no.dvd (by rw [hl]; exact Nat.dvd_mul_left _ _)).succ hm
theorem FacS.even {l : List (Nat × Nat)} {left part n : Nat} (h : FacS l left part n) (hk : 2 < part) (he : part % 2 = 0) : FacS l left (part + 1) n :=
  ⟨h.asc, h.pr, fun q hq => by have := h.lt q hq; omega, h.prod, h.no.even hk he, h.pos⟩

theorem lpf_ex {n : Nat} (h : 2 ≤ n) : ∃ p, LPF p n := by
  obtain ⟨p0, hp0, hd0⟩ := exists_prime n h
  have : ∀ m, NoD m n ∨ ∃ p, LPF p n := by
    intro m
    induction m with
    | zero => exact .inl fun d _ h => by omega
    | succ m ihm =>
      rcases ihm with h | h
      · by_cases hm : 2 ≤ m ∧ m ∣ n
        · exact .inr ⟨m, h.lpf hm.1 hm.2⟩
        · refine .inl fun d h1 h2 h3 => ?_
          by_cases e : d = m
          · subst e; exact hm ⟨h1, h3⟩
          · exact h d h1 (by omega) h3
      · exact .inr h
  rcases this (p0 + 1) with h | h
  · exact absurd hd0 (h p0 hp0.1 (by omega))
  · exact h

/-! ### primes that can be seen -/
def prGo : Nat → Nat → Nat → Bool
  | 0, _, _ => true
  | f + 1, d, n => if n < d * d then true else if n % d = 0 then false else prGo f (d + 1) n
def prB (n : Nat) : Bool := decide (2 ≤ n) && prGo n 2 n
theorem prGo_ok : ∀ (f d n : Nat), 2 ≤ n → 2 ≤ d → NoD d n → n < f + d → (prGo f d n = true ↔ Pr n)
  | 0, d, n, h2, hd, hno, hf => by
    refine ⟨fun _ => ?_, fun _ => rfl⟩
    exact absurd (Nat.dvd_refl n) (hno n h2 (by omega))
  | f + 1, d, n, h2, hd, hno, hf => by
    unfold prGo
    by_cases h : n < d * d
    · rw [if_pos h]
      exact ⟨fun _ => (hno.prime h2 h).pr, fun _ => rfl⟩
    · rw [if_neg h]
      by_cases h3 : n % d = 0
      · rw [if_pos h3]
        refine ⟨fun h => (by cases h), fun hp => ?_⟩
        have hdv := Nat.dvd_of_mod_eq_zero h3
        rcases hp.2 d hdv with z | z
        · omega
        · subst z
          exfalso
          apply h
          calc d = d * 1 := (Nat.mul_one d).symm
            _ < d * d := Nat.mul_lt_mul_of_pos_left (by omega) (by omega)
      · rw [if_neg h3]
        exact prGo_ok f (d + 1) n h2 (by omega) (hno.succ fun z => h3 (Nat.mod_eq_zero_of_dvd z)) (by omega)
theorem prB_iff (n : Nat) : prB n = true ↔ Pr n := by
  unfold prB
  by_cases h : 2 ≤ n
  · rw [decide_eq_true h, Bool.true_and]
    exact prGo_ok n 2 n h (by omega) (fun d _ _ => by omega) (by omega)
  · rw [decide_eq_false h, Bool.false_and]
    exact ⟨fun h => (by cases h), fun hp => absurd hp.1 h⟩
theorem pr_of {n : Nat} (h : prB n = true) : Pr n := (prB_iff n).mp h
end NT

/-! Divisors and their sums. -/
namespace NT
open List

theorem perm_sum {l r : List Nat} (h : l.Perm r) : l.sum = r.sum := by
  induction h with
  | nil => rfl
  | cons x _ ih => rw [List.sum_cons, List.sum_cons, ih]
  | swap x y l => simp only [List.sum_cons]; omega
  | trans _ _ h1 h2 => rw [h1, h2]
def divs (n : Nat) : List Nat := (List.range (n + 1)).filter fun d => decide (0 < d) && n % d == 0
theorem mem_divs {n d : Nat} (hn : 0 < n) : d ∈ divs n ↔ d ∣ n := by
  unfold divs
  rw [List.mem_filter, List.mem_range, Bool.and_eq_true, decide_eq_true_iff, beq_iff_eq]
  constructor
  · rintro ⟨_, _, h⟩
    exact Nat.dvd_of_mod_eq_zero h
  · intro h
    have := Nat.le_of_dvd hn h
    exact ⟨by omega, Nat.pos_of_dvd_of_pos h hn, Nat.mod_eq_zero_of_dvd h⟩
theorem asc_divs (n : Nat) : (divs n).Pairwise (· < ·) := List.Pairwise.filter _ List.pairwise_lt_range
theorem nodup_divs (n : Nat) : (divs n).Nodup := (asc_divs n).imp Nat.ne_of_lt
/-- a list of all divisors -/
structure DivL (F : List Nat) (n : Nat) : Prop where
  nd : F.Nodup
  mem : ∀ d, d ∈ F ↔ d ∣ n
theorem divL (n : Nat) (h : 0 < n) : DivL (divs n) n := ⟨nodup_divs n, fun _ => mem_divs h⟩
theorem DivL.perm {F E : List Nat} {n : Nat} (h : DivL F n) (g : DivL E n) : F.Perm E := (List.perm_ext_iff_of_nodup h.nd g.nd).mpr fun a => by rw [h.mem, g.mem]
/-- ascending lists with the same members -/
theorem asc_uniq : ∀ {l r : List Nat}, l.Pairwise (· < ·) → r.Pairwise (· < ·) → (∀ d, d ∈ l ↔ d ∈ r) → l = r
  | [], [], _, _, _ => rfl
  | [], b :: r, _, _, h => by have := (h b).mpr List.mem_cons_self; simp at this
  | a :: l, [], _, _, h => by have := (h a).mp List.mem_cons_self; simp at this
  | a :: l, b :: r, hl, hr, h => by
    rw [List.pairwise_cons] at hl hr
    have e : a = b := by
      have h1 := (h a).mp List.mem_cons_self
      have h2 := (h b).mpr List.mem_cons_self
      rcases List.mem_cons.mp h1 with z | z
      · exact z
      · rcases List.mem_cons.mp h2 with y | y
        · exact y.symm
        · have := hr.1 a z; have := hl.1 b y; omega
    subst e
    rw [asc_uniq hl.2 hr.2 fun d => ?_]
    constructor
    · intro hd
      rcases List.mem_cons.mp ((h d).mp (List.mem_cons_of_mem _ hd)) with z | z
      · have := hl.1 d hd; omega
      · exact z
    · intro hd
      rcases List.mem_cons.mp ((h d).mpr (List.mem_cons_of_mem _ hd)) with z | z
      · have := hr.1 d hd; omega
      · exact z
/-- at most twice a root -/
theorem DivL.len {F : List Nat} {n m : Nat} (h : DivL F n) (hn : 0 < n) (hm : n ≤ m * m) : F.length ≤ 2 * m := by
  have h1 : (F.filter fun d => decide (d ≤ m)).length ≤ m := by
    have hs : (F.filter fun d => decide (d ≤ m)) ⊆ List.range' 1 m := fun d hd => by
      rw [List.mem_filter, decide_eq_true_iff] at hd
      have := Nat.pos_of_dvd_of_pos ((h.mem d).mp hd.1) hn
      rw [List.mem_range'_1]
      omega
    have := (h.nd.sublist List.filter_sublist).length_le_of_subset hs
    rwa [List.length_range'] at this
  have h2 : (F.filter fun d => !decide (d ≤ m)).length ≤ m := by
    have inj : ∀ a ∈ F, ∀ b ∈ F, n / a = n / b → a = b := fun a ha b hb e => by
      obtain ⟨x, hx⟩ := (h.mem a).mp ha
      obtain ⟨y, hy⟩ := (h.mem b).mp hb
      have ha0 := Nat.pos_of_dvd_of_pos ((h.mem a).mp ha) hn
      have hb0 := Nat.pos_of_dvd_of_pos ((h.mem b).mp hb) hn
      rw [hx, Nat.mul_div_cancel_left _ ha0, ← hx, hy, Nat.mul_div_cancel_left _ hb0] at e
      subst e
      have hx0 : 0 < x := Nat.pos_of_ne_zero fun z => by subst z; omega
      exact Nat.eq_of_mul_eq_mul_right hx0 (hx.symm.trans hy)
    have hnd : ((F.filter fun d => !decide (d ≤ m)).map fun d => n / d).Nodup := by
      have key : ∀ L : List Nat, L.Nodup → (∀ a ∈ L, a ∈ F) → (L.map fun d => n / d).Nodup := by
        intro L
        induction L with
        | nil => intro _ _; exact List.nodup_nil
        | cons a L ih =>
          intro hL hF
          rw [List.nodup_cons] at hL
          rw [List.map_cons, List.nodup_cons]
          refine ⟨fun hm => ?_, ih hL.2 fun x hx => hF x (List.mem_cons_of_mem _ hx)⟩
          obtain ⟨b, hb, e⟩ := List.mem_map.mp hm
          exact hL.1 (inj b (hF b (List.mem_cons_of_mem _ hb)) a (hF a List.mem_cons_self) e ▸ hb)
      exact key _ (h.nd.sublist List.filter_sublist) fun a ha => (List.mem_filter.mp ha).1
    have hs : ((F.filter fun d => !decide (d ≤ m)).map fun d => n / d) ⊆ List.range' 1 m := fun q hq => by
      obtain ⟨d, hd, rfl⟩ := List.mem_map.mp hq
      rw [List.mem_filter] at hd
      have hd1 := (h.mem d).mp hd.1
      have hd2 : m < d := by simpa using hd.2
      obtain ⟨x, hx⟩ := hd1
      have hd0 : 0 < d := by omega
      have hx0 : 0 < x := Nat.pos_of_ne_zero fun z => by subst z; omega
      rw [hx, Nat.mul_div_cancel_left _ hd0, List.mem_range'_1]
      refine ⟨hx0, ?_⟩
      apply Nat.lt_of_not_le
      intro hle
      have a1 : (m + 1) * (1 + m) ≤ d * x := Nat.mul_le_mul hd2 hle
      have a2 : (m + 1) * (1 + m) = m * m + 2 * m + 1 := by
        rw [Nat.add_mul, Nat.mul_add]; omega
      omega
    have := hnd.length_le_of_subset hs
    rwa [List.length_map, List.length_range'] at this
  have h3 : F.length = (F.filter fun d => decide (d ≤ m)).length + (F.filter fun d => !decide (d ≤ m)).length := by
    have := List.length_eq_countP_add_countP (fun d => decide (d ≤ m)) (l := F)
    simp only [List.countP_eq_length_filter] at this
    rw [show (fun d => !decide (d ≤ m)) = fun d => decide (m < d) from funext fun d => by rw [Bool.eq_iff_iff]; simp]
    simpa using this
  omega
/-- times the powers of a prime -/
def ext (F : List Nat) (p : Nat) : Nat → List Nat
  | 0 => []
  | t + 1 => ext F p t ++ F.map fun f => f * p ^ t
theorem mem_ext {F : List Nat} {p t d : Nat} : d ∈ ext F p t ↔ ∃ i f, i < t ∧ f ∈ F ∧ d = f * p ^ i := by
  induction t with
  | zero => simp [ext]
  | succ t ih =>
    rw [ext, List.mem_append, ih, List.mem_map]
    constructor
    · rintro (⟨i, f, h1, h2, h3⟩ | ⟨f, h1, h2⟩)
      · exact ⟨i, f, by omega, h2, h3⟩
      · exact ⟨t, f, by omega, h1, h2.symm⟩
    · rintro ⟨i, f, h1, h2, h3⟩
      by_cases e : i = t
      · subst e; exact .inr ⟨f, h2, h3.symm⟩
      · exact .inl ⟨i, f, by omega, h2, h3⟩
theorem DivL.ext {F : List Nat} {m p e : Nat} (h : DivL F m) (hp : Pr p) (hm : ¬ p ∣ m) (hm0 : 0 < m) : DivL (ext F p (e + 1)) (p ^ e * m) := by
  have hf : ∀ f ∈ F, ¬ p ∣ f := fun f hf hd => hm (Nat.dvd_trans hd ((h.mem f).mp hf))
  refine ⟨?_, fun d => ?_⟩
  · have key : ∀ t, (NT.ext F p t).Nodup := by
      intro t
      induction t with
      | zero => exact List.nodup_nil
      | succ t ih =>
        rw [NT.ext, List.nodup_append]
        refine ⟨ih, ?_, fun a ha b hb e => ?_⟩
        · have : ∀ L : List Nat, L.Nodup → (L.map fun f => f * p ^ t).Nodup := by
            intro L
            induction L with
            | nil => intro _; exact List.nodup_nil
            | cons a L ihL =>
              intro hL
              rw [List.nodup_cons] at hL
              rw [List.map_cons, List.nodup_cons]
              refine ⟨fun hh => ?_, ihL hL.2⟩
              obtain ⟨b, hb, e⟩ := List.mem_map.mp hh
              exact hL.1 (Nat.eq_of_mul_eq_mul_right (Nat.pow_pos hp.pos) e ▸ hb)
          exact this F h.nd
        · obtain ⟨i, f, h1, h2, h3⟩ := mem_ext.mp ha
          obtain ⟨g, h4, h5⟩ := List.mem_map.mp hb
          subst e
          have : p ^ i * f = p ^ t * g := by rw [Nat.mul_comm, ← h3, ← h5, Nat.mul_comm]
          have := (pow_mul_inj hp (hf f h2) (hf g h4) this).1
          omega
    exact key _
  · rw [mem_ext]
    constructor
    · rintro ⟨i, f, h1, h2, rfl⟩
      rw [Nat.mul_comm f]
      exact Nat.mul_dvd_mul (Nat.pow_dvd_pow p (by omega)) ((h.mem f).mp h2)
    · intro hd
      have hn0 : 0 < p ^ e * m := Nat.mul_pos (Nat.pow_pos hp.pos) hm0
      have hd0 : 0 < d := Nat.pos_of_dvd_of_pos hd hn0
      obtain ⟨i, f, h1, h2⟩ := split_pow p hp.1 d hd0
      have hfm : f ∣ m := by
        have : f ∣ p ^ e * m := Nat.dvd_trans ⟨p ^ i, by rw [h1, Nat.mul_comm]⟩ hd
        exact (Nat.Coprime.symm (Nat.Coprime.pow_left e (hp.coprime h2))).dvd_of_dvd_mul_left this
      have hie : i ≤ e := by
        have : p ^ i ∣ p ^ e * m := Nat.dvd_trans ⟨f, h1⟩ hd
        have h3 : p ^ i ∣ p ^ e := (Nat.Coprime.pow_left i (hp.coprime hm)).dvd_of_dvd_mul_right this
        exact (Nat.pow_dvd_pow_iff_le_right (by have := hp.1; omega)).mp h3
      exact ⟨i, f, by omega, (h.mem f).mpr hfm, by rw [h1, Nat.mul_comm]⟩

/-! ### sums -/
def spow (k : Nat) (F : List Nat) : Nat := (F.map fun d => d ^ k).sum
def sig (k n : Nat) : Nat := spow k (divs n)
theorem spow_append (k : Nat) (F E : List Nat) : spow k (F ++ E) = spow k F + spow k E := by
  unfold spow
  rw [List.map_append, List.sum_append_nat]
theorem spow_perm {F E : List Nat} (k : Nat) (h : F.Perm E) : spow k F = spow k E := perm_sum (h.map _)
theorem DivL.spow {F : List Nat} {n : Nat} (h : DivL F n) (hn : 0 < n) (k : Nat) : spow k F = sig k n := spow_perm k (h.perm (divL n hn))
/-- 1 + s + .. (t of them), s = p ^ k -/
def geo (s : Nat) : Nat → Nat
  | 0 => 0
  | t + 1 => geo s t + s ^ t
theorem spow_map (k c : Nat) (F : List Nat) : spow k (F.map fun f => f * c) = spow k F * c ^ k := by
  unfold spow
  induction F with
  | nil => simp
  | cons a F ih =>
    simp only [List.map_cons, List.sum_cons] at ih ⊢
    rw [ih, Nat.add_mul, Nat.mul_pow]
theorem spow_ext (k : Nat) (F : List Nat) (p t : Nat) : spow k (ext F p t) = spow k F * geo (p ^ k) t := by
  induction t with
  | zero => simp [ext, geo, spow]
  | succ t ih =>
    rw [ext, spow_append, ih, spow_map, geo, Nat.mul_add, ← Nat.pow_mul, ← Nat.pow_mul, Nat.mul_comm t k]
theorem sig_mul {p e m : Nat} (k : Nat) (hp : Pr p) (hm : ¬ p ∣ m) (hm0 : 0 < m) : sig k (p ^ e * m) = sig k m * geo (p ^ k) (e + 1) := by
  rw [← ((divL m hm0).ext hp hm hm0).spow (Nat.mul_pos (Nat.pow_pos hp.pos) hm0), spow_ext]
  rfl
theorem sig_one (k : Nat) : sig k 1 = 1 := by
  show ((divs 1).map fun d => d ^ k).sum = 1
  rw [show divs 1 = [1] by decide]
  simp
/-- sums of coprime numbers -/
theorem sig_coprime (k : Nat) : ∀ a b : Nat, 0 < a → 0 < b → Nat.Coprime a b → sig k (a * b) = sig k a * sig k b := by
  intro a
  induction a using Nat.strongRecOn with
  | ind a ih =>
    intro b ha hb hc
    by_cases h1 : a = 1
    · subst h1; rw [Nat.one_mul, sig_one, Nat.one_mul]
    · obtain ⟨p, hp, hd⟩ := exists_prime a (by omega)
      obtain ⟨e, m, h2, h3⟩ := split_pow p hp.1 a ha
      have hm0 : 0 < m := Nat.pos_of_ne_zero fun z => by subst z; simp at h3
      have he : e ≠ 0 := fun z => by
        subst z
        rw [Nat.pow_zero, Nat.one_mul] at h2
        subst h2
        exact h3 hd
      have hpe : 2 ≤ p ^ e := by
        obtain ⟨t, ht⟩ : ∃ t, e = t + 1 := ⟨e - 1, by omega⟩
        rw [ht, Nat.pow_succ]
        exact Nat.le_trans hp.1 (Nat.le_mul_of_pos_left p (Nat.pow_pos hp.pos))
      have hlt : m < a := by
        rw [h2]
        calc m = 1 * m := (Nat.one_mul m).symm
          _ < p ^ e * m := Nat.mul_lt_mul_of_pos_right (by omega) hm0
      have hpb : ¬ p ∣ b := fun hd2 => by
        have : p ∣ Nat.gcd a b := Nat.dvd_gcd hd hd2
        rw [hc] at this
        have := Nat.le_of_dvd (by omega) this
        have := hp.1
        omega
      have hmb : ¬ p ∣ m * b := fun z => (hp.dvd_mul z).elim h3 hpb
      have hcm : Nat.Coprime m b := Nat.Coprime.coprime_dvd_left ⟨p ^ e, by rw [h2, Nat.mul_comm]⟩ hc
      rw [h2, Nat.mul_assoc, sig_mul k hp hmb (Nat.mul_pos hm0 hb), ih m hlt b hm0 hb hcm, sig_mul k hp h3 hm0]
      ac_rfl
theorem sig_le (k n : Nat) (hn : 0 < n) : sig k n ≤ n * n ^ k := by
  have h1 : (divs n).length ≤ n := by
    have hs : divs n ⊆ List.range' 1 n := fun d hd => by
      have := (mem_divs hn).mp hd
      have h2 := Nat.le_of_dvd hn this
      have h3 := Nat.pos_of_dvd_of_pos this hn
      rw [List.mem_range'_1]
      omega
    have := (nodup_divs n).length_le_of_subset hs
    rwa [List.length_range'] at this
  have key : ∀ L : List Nat, (∀ d ∈ L, d ≤ n) → (L.map fun d => d ^ k).sum ≤ L.length * n ^ k := by
    intro L
    induction L with
    | nil => simp
    | cons a L ih =>
      intro h
      rw [List.map_cons, List.sum_cons, List.length_cons, Nat.succ_mul, Nat.add_comm]
      exact Nat.add_le_add (ih fun d hd => h d (List.mem_cons_of_mem _ hd)) (Nat.pow_le_pow_left (h a List.mem_cons_self) k)
  exact Nat.le_trans (key _ fun d hd => Nat.le_of_dvd hn ((mem_divs hn).mp hd)) (Nat.mul_le_mul_right _ h1)
theorem mem_le_sum {x : Nat} {L : List Nat} (h : x ∈ L) : x ≤ L.sum := by
  induction L with
  | nil => simp at h
  | cons a L ih =>
    rw [List.sum_cons]
    rcases List.mem_cons.mp h with z | z
    · omega
    · have := ih z; omega
theorem sig_ge {n : Nat} (hn : 0 < n) : n ≤ sig 1 n := by
  have : n ∈ (divs n).map fun d => d ^ 1 := List.mem_map.mpr ⟨n, (mem_divs hn).mpr (Nat.dvd_refl n), Nat.pow_one n⟩
  exact mem_le_sum this
theorem sig1 (n : Nat) : sig 1 n = (divs n).sum := by
  show ((divs n).map fun d => d ^ 1).sum = _
  rw [show (fun d : Nat => d ^ 1) = id from funext fun d => Nat.pow_one d, List.map_id]
theorem sig0 (n : Nat) : sig 0 n = (divs n).length := by
  show ((divs n).map fun d => d ^ 0).sum = _
  induction divs n with
  | nil => rfl
  | cons a l ih => rw [List.map_cons, List.sum_cons, ih, List.length_cons, Nat.pow_zero, Nat.add_comm]

theorem divL_one : DivL [1] 1 := ⟨by simp, fun d => by rw [List.mem_singleton, Nat.dvd_one]⟩
theorem ext_len (F : List Nat) (p t : Nat) : (ext F p t).length = t * F.length := by
  induction t with
  | zero => simp [ext]
  | succ t ih => rw [ext, List.length_append, ih, List.length_map, Nat.succ_mul]
theorem ext_len_mono (F : List Nat) (p : Nat) {t u : Nat} (h : t ≤ u) : (ext F p t).length ≤ (ext F p u).length := by
  rw [ext_len, ext_len]
  exact Nat.mul_le_mul_right _ h
theorem Fac.cut {L l r : List (Nat × Nat)} {p e n : Nat} (hL : Fac L n) (hl : L = l ++ (p, e) :: r) : Pr p ∧ ¬ p ∣ prodF l ∧ 0 < prodF l ∧ p ^ e * prodF l ≤ n ∧ 1 ≤ e ∧ prodF (l ++ [(p, e)]) = p ^ e * prodF l := by
  have hpe := hL.pr (p, e) (by rw [hl]; simp)
  have hp : Pr p := hpe.1
  have hlpr : ∀ q ∈ l, Pr q.1 ∧ 1 ≤ q.2 := fun q hq => hL.pr q (by rw [hl]; simp [hq])
  have hx : prodF (l ++ [(p, e)]) = p ^ e * prodF l := by rw [prodF_append]; simp [prodF, Nat.mul_comm]
  refine ⟨hp, fun hd => ?_, prodF_pos hlpr, ?_, hpe.2, hx⟩
  · obtain ⟨q, h1, h2⟩ := prime_dvd_prodF hp hlpr hd
    have := hL.asc
    rw [hl, List.pairwise_append] at this
    have := this.2.2 q h1 (p, e) (by simp)
    simp at this
    omega
  · rw [← hx, ← hL.prod, hl, show l ++ (p, e) :: r = (l ++ [(p, e)]) ++ r by simp, prodF_append (l ++ [(p, e)]) r]
    exact Nat.le_mul_of_pos_right _ (prodF_pos (l := r) fun q hq => hL.pr q (by rw [hl]; simp [hq]))
end NT

/-! Kinds of numbers, by sums of divisors. -/
namespace NT
open List

theorem sum_le_sub : ∀ {L E : List Nat}, L.Nodup → (∀ a ∈ L, a ∈ E) → L.sum ≤ E.sum
  | [], _, _, _ => Nat.zero_le _
  | a :: L, E, hn, hs => by
    rw [List.nodup_cons] at hn
    have ha := hs a List.mem_cons_self
    have hp := List.perm_cons_erase ha
    rw [perm_sum hp, List.sum_cons, List.sum_cons]
    have : L.sum ≤ (E.erase a).sum := sum_le_sub hn.2 fun b hb => by
      have hne : b ≠ a := fun z => hn.1 (z ▸ hb)
      exact (List.mem_erase_of_ne hne).mpr (hs b (List.mem_cons_of_mem _ hb))
    omega
def sigF (t : Nat) : List (Nat × Nat) → Nat
  | [] => 1
  | q :: r => sigF t r * geo (q.1 ^ t) (q.2 + 1)
theorem sig_fac (t : Nat) : ∀ {l : List (Nat × Nat)} {n : Nat}, Fac l n → sig t n = sigF t l
  | [], n, h => by
    have : n = 1 := h.prod.symm
    subst this
    rw [sig_one]
    rfl
  | q :: r, n, h => by
    have hp := (h.pr q List.mem_cons_self).1
    have e : n = q.1 ^ q.2 * prodF r := h.prod.symm
    rw [e, sig_mul t hp h.head_not (prodF_pos h.tail.pr), sig_fac t h.tail]
    rfl
/-- factors that can be seen -/
def facB (l : List (Nat × Nat)) (n : Nat) : Bool := decide (l.Pairwise fun a b => a.1 < b.1) && l.all (fun q => prB q.1 && decide (1 ≤ q.2)) && decide (prodF l = n)
theorem fac_of {l : List (Nat × Nat)} {n : Nat} (h : facB l n = true) : Fac l n := by
  unfold facB at h
  rw [Bool.and_eq_true, Bool.and_eq_true, decide_eq_true_iff, decide_eq_true_iff, List.all_eq_true] at h
  refine ⟨h.1.1, fun q hq => ?_, h.2⟩
  have := h.1.2 q hq
  rw [Bool.and_eq_true, decide_eq_true_iff] at this
  exact ⟨pr_of this.1, this.2⟩
/-- times -/
theorem sig_times (a b : Nat) (ha : 0 < a) (hb : 0 < b) : b * sig 1 a ≤ sig 1 (a * b) ∧ (2 ≤ b → b * sig 1 a + 1 ≤ sig 1 (a * b)) := by
  have hab := Nat.mul_pos ha hb
  have hnd : ((divs a).map fun d => d * b).Nodup := by
    have : ∀ L : List Nat, L.Nodup → (L.map fun f => f * b).Nodup := by
      intro L
      induction L with
      | nil => intro _; exact List.nodup_nil
      | cons x L ihL =>
        intro hL
        rw [List.nodup_cons] at hL
        rw [List.map_cons, List.nodup_cons]
        refine ⟨fun hh => ?_, ihL hL.2⟩
        obtain ⟨y, hy, e⟩ := List.mem_map.mp hh
        exact hL.1 (Nat.eq_of_mul_eq_mul_right hb e ▸ hy)
    exact this _ (nodup_divs a)
  have hsub : ∀ x ∈ (divs a).map fun d => d * b, x ∈ divs (a * b) := fun x hx => by
    obtain ⟨d, hd, rfl⟩ := List.mem_map.mp hx
    rw [mem_divs hab]
    exact Nat.mul_dvd_mul ((mem_divs ha).mp hd) (Nat.dvd_refl b)
  have hs : ((divs a).map fun d => d * b).sum = b * sig 1 a := by
    rw [sig1]
    induction divs a with
    | nil => simp
    | cons x L ih => rw [List.map_cons, List.sum_cons, List.sum_cons, ih, Nat.mul_add, Nat.mul_comm x]
  constructor
  · rw [← hs, sig1]
    exact sum_le_sub hnd hsub
  · intro h2
    rw [← hs, sig1, Nat.add_comm, show 1 + ((divs a).map fun d => d * b).sum = (1 :: (divs a).map fun d => d * b).sum from rfl]
    refine sum_le_sub (List.nodup_cons.mpr ⟨fun hm => ?_, hnd⟩) fun x hx => ?_
    · obtain ⟨d, _, e⟩ := List.mem_map.mp hm
      have : b ∣ 1 := ⟨d, by rw [← e, Nat.mul_comm]⟩
      have := Nat.le_of_dvd (by omega) this
      omega
    · rcases List.mem_cons.mp hx with z | z
      · rw [z, mem_divs hab]
        exact Nat.one_dvd _
      · exact hsub x z
theorem sig_prime {p : Nat} (h : Pr p) : sig 1 p = p + 1 := by
  have := sig_mul (m := 1) (e := 1) 1 h (fun z => by have := Nat.le_of_dvd (by omega) z; have := h.1; omega) (by omega)
  rw [Nat.pow_one, Nat.mul_one, sig_one] at this
  rw [this]
  simp [geo, Nat.add_comm]
theorem prime_of_sig {n : Nat} (h : 1 < n) (hs : sig 1 n = n + 1) : Pr n := by
  refine ⟨h, fun d hd => ?_⟩
  apply Classical.byContradiction
  intro hc
  have h1 : d ≠ 1 := fun z => hc (.inl z)
  have h2 : d ≠ n := fun z => hc (.inr z)
  have hn0 : 0 < n := by omega
  have hd0 := Nat.pos_of_dvd_of_pos hd hn0
  have : ([1, d, n] : List Nat).sum ≤ (divs n).sum := by
    refine sum_le_sub ?_ fun x hx => ?_
    · rw [List.nodup_cons, List.nodup_cons]
      refine ⟨?_, ?_, by simp⟩
      · simp; omega
      · simp [h2]
    · rw [mem_divs hn0]
      simp at hx
      rcases hx with rfl | rfl | rfl
      · exact Nat.one_dvd _
      · exact hd
      · exact Nat.dvd_refl _
  rw [← sig1, hs] at this
  simp at this
  omega
/-- an odd number of divisors: a square -/
theorem odd_divs {n : Nat} (hn : 0 < n) : (divs n).length % 2 = 1 ↔ ∃ d, d ∈ divs n ∧ d * d = n := by
  have hdm : ∀ d ∈ divs n, ∃ e, n = d * e ∧ 0 < d ∧ 0 < e := fun d hd => by
    obtain ⟨e, he⟩ := (mem_divs hn).mp hd
    refine ⟨e, he, Nat.pos_of_dvd_of_pos ⟨e, he⟩ hn, Nat.pos_of_ne_zero fun z => by subst z; omega⟩
  let A := (divs n).filter fun d => decide (d * d < n)
  let B := (divs n).filter fun d => decide (d * d = n)
  let C := (divs n).filter fun d => decide (n < d * d)
  have hlen : (divs n).length = A.length + B.length + C.length := by
    show _ = ((divs n).filter fun d => decide (d * d < n)).length + ((divs n).filter fun d => decide (d * d = n)).length + ((divs n).filter fun d => decide (n < d * d)).length
    induction divs n with
    | nil => rfl
    | cons x L ih =>
      rw [List.length_cons, List.filter_cons, List.filter_cons, List.filter_cons]
      rcases Nat.lt_trichotomy (x * x) n with z | z | z
      · rw [if_pos (by simpa using z), if_neg (by simp; omega), if_neg (by simp; omega), List.length_cons]; omega
      · rw [if_neg (by simp; omega), if_pos (by simpa using z), if_neg (by simp; omega), List.length_cons]; omega
      · rw [if_neg (by simp; omega), if_neg (by simp; omega), if_pos (by simpa using z), List.length_cons]; omega
  have inj : ∀ L : List Nat, L.Nodup → (∀ a ∈ L, a ∈ divs n) → (L.map fun d => n / d).Nodup := by
    intro L
    induction L with
    | nil => intro _ _; exact List.nodup_nil
    | cons a L ih =>
      intro hL hF
      rw [List.nodup_cons] at hL
      rw [List.map_cons, List.nodup_cons]
      refine ⟨fun hm => ?_, ih hL.2 fun x hx => hF x (List.mem_cons_of_mem _ hx)⟩
      obtain ⟨b, hb, e⟩ := List.mem_map.mp hm
      obtain ⟨x, hx, ha0, hx0⟩ := hdm a (hF a List.mem_cons_self)
      obtain ⟨y, hy, hb0, hy0⟩ := hdm b (hF b (List.mem_cons_of_mem _ hb))
      have e1 : n / a = x := by rw [hx, Nat.mul_div_cancel_left _ ha0]
      have e2 : n / b = y := by rw [hy, Nat.mul_div_cancel_left _ hb0]
      have e' : n / b = n / a := e
      rw [e1, e2] at e'
      subst e'
      have : a = b := Nat.eq_of_mul_eq_mul_right hx0 (hx.symm.trans hy)
      rw [this] at hL
      exact hL.1 hb
  have hAC : A.length = C.length := by
    apply Nat.le_antisymm
    · have h1 := inj A ((nodup_divs n).sublist List.filter_sublist) fun a ha => (List.mem_filter.mp ha).1
      have h2 := h1.length_le_of_subset (l₂ := C) fun q hq => by
        obtain ⟨d, hd, rfl⟩ := List.mem_map.mp hq
        obtain ⟨hd1, hd2⟩ := List.mem_filter.mp hd
        obtain ⟨e, he, hd0, he0⟩ := hdm d hd1
        rw [decide_eq_true_iff] at hd2
        have e1 : n / d = e := by rw [he, Nat.mul_div_cancel_left _ hd0]
        show n / d ∈ (divs n).filter _
        rw [e1, List.mem_filter, decide_eq_true_iff, mem_divs hn]
        refine ⟨⟨d, by rw [he, Nat.mul_comm]⟩, ?_⟩
        rw [he] at hd2 ⊢
        have hde : d < e := Nat.lt_of_mul_lt_mul_left hd2
        exact Nat.mul_lt_mul_of_pos_right hde he0
      rwa [List.length_map] at h2
    · have h1 := inj C ((nodup_divs n).sublist List.filter_sublist) fun a ha => (List.mem_filter.mp ha).1
      have h2 := h1.length_le_of_subset (l₂ := A) fun q hq => by
        obtain ⟨d, hd, rfl⟩ := List.mem_map.mp hq
        obtain ⟨hd1, hd2⟩ := List.mem_filter.mp hd
        obtain ⟨e, he, hd0, he0⟩ := hdm d hd1
        rw [decide_eq_true_iff] at hd2
        have e1 : n / d = e := by rw [he, Nat.mul_div_cancel_left _ hd0]
        show n / d ∈ (divs n).filter _
        rw [e1, List.mem_filter, decide_eq_true_iff, mem_divs hn]
        refine ⟨⟨d, by rw [he, Nat.mul_comm]⟩, ?_⟩
        rw [he] at hd2 ⊢
        have hde : e < d := Nat.lt_of_mul_lt_mul_left hd2
        exact Nat.mul_lt_mul_of_pos_right hde he0
      rwa [List.length_map] at h2
  have hB : B.length ≤ 1 := by
    have hb : B.Nodup := (nodup_divs n).sublist List.filter_sublist
    match h : B with
    | [] => simp
    | [_] => simp
    | x :: y :: r =>
      exfalso
      rw [List.nodup_cons] at hb
      have hx : x ∈ B := by rw [h]; simp
      have hy : y ∈ B := by rw [h]; simp
      have h1 := (List.mem_filter.mp hx).2
      have h2 := (List.mem_filter.mp hy).2
      rw [decide_eq_true_iff] at h1 h2
      have : x = y := Nat.mul_self_inj.mp (h1.trans h2.symm)
      apply hb.1
      rw [this]
      simp
  constructor
  · intro ho
    have : B.length = 1 := by omega
    obtain ⟨d, hd⟩ := List.length_eq_one_iff.mp this
    have hm : d ∈ B := by rw [hd]; simp
    obtain ⟨h1, h2⟩ := List.mem_filter.mp hm
    exact ⟨d, h1, by simpa using h2⟩
  · rintro ⟨d, h1, h2⟩
    have hm : d ∈ B := List.mem_filter.mpr ⟨h1, by simpa using h2⟩
    have : 0 < B.length := List.length_pos_of_mem hm
    omega
theorem geo_mul (s t : Nat) (hs : 1 ≤ s) : (s - 1) * geo s t + 1 = s ^ t := by
  induction t with
  | zero => simp [geo]
  | succ t ih =>
    rw [geo, Nat.mul_add, Nat.pow_succ]
    have h1 : s ^ t ≤ s ^ t * s := Nat.le_mul_of_pos_right _ hs
    have h2 : (s - 1) * s ^ t = s ^ t * s - s ^ t := by rw [Nat.sub_mul, Nat.one_mul, Nat.mul_comm]
    omega
/-- a prime's power is less -/
theorem sig_pp {p e : Nat} (h : Pr p) : (p - 1) * sig 1 (p ^ e) + 1 = p * p ^ e := by
  have := sig_mul (m := 1) (e := e) 1 h (fun z => by have := Nat.le_of_dvd (by omega) z; have := h.1; omega) (by omega)
  rw [Nat.mul_one, sig_one, Nat.one_mul, Nat.pow_one] at this
  rw [this, geo_mul p (e + 1) h.pos, Nat.pow_succ, Nat.mul_comm]
theorem less_pp {p e : Nat} (h : Pr p) : sig 1 (p ^ e) < 2 * p ^ e := by
  have h1 := sig_pp (e := e) h
  have h2 := h.1
  have h0 : 0 < p ^ e := Nat.pow_pos h.pos
  obtain ⟨q, rfl⟩ : ∃ q, p = q + 1 := ⟨p - 1, by omega⟩
  rw [Nat.add_sub_cancel, Nat.add_mul, Nat.one_mul] at h1
  apply Nat.lt_of_not_le
  intro hc
  have h3 : q * (2 * (q + 1) ^ e) ≤ q * sig 1 ((q + 1) ^ e) := Nat.mul_le_mul_left q hc
  have h4 : q * (2 * (q + 1) ^ e) = q * (q + 1) ^ e + q * (q + 1) ^ e := by rw [Nat.mul_left_comm, Nat.two_mul]
  have h5 : (q + 1) ^ e ≤ q * (q + 1) ^ e := Nat.le_mul_of_pos_left _ (by omega)
  omega
theorem less_two {p q a b : Nat} (hp : Pr p) (hq : Pr q) (h3 : 3 ≤ p) (h5 : 5 ≤ q) (hne : p ≠ q) : sig 1 (p ^ a * q ^ b) < 2 * (p ^ a * q ^ b) := by
  have hc : Nat.Coprime (p ^ a) (q ^ b) := Nat.Coprime.pow _ _ (hp.coprime fun hd => hne (hp.eq_of_dvd hq hd))
  rw [sig_coprime 1 _ _ (Nat.pow_pos hp.pos) (Nat.pow_pos hq.pos) hc]
  have h1 := sig_pp (e := a) hp
  have h2 := sig_pp (e := b) hq
  have ha : 0 < p ^ a := Nat.pow_pos hp.pos
  have hb : 0 < q ^ b := Nat.pow_pos hq.pos
  generalize sig 1 (p ^ a) = s at *
  generalize sig 1 (q ^ b) = t at *
  generalize p ^ a = A at *
  generalize q ^ b = B at *
  have l1 : (p - 1) * s < p * A := by omega
  have l2 : (q - 1) * t < q * B := by omega
  have l3 : ((p - 1) * s) * ((q - 1) * t) < (p * A) * (q * B) := Nat.mul_lt_mul_of_lt_of_le l1 (Nat.le_of_lt l2) (Nat.mul_pos hq.pos hb)
  have l4 : p * q ≤ 2 * ((p - 1) * (q - 1)) := by
    obtain ⟨x, rfl⟩ : ∃ x, p = x + 3 := ⟨p - 3, by omega⟩
    obtain ⟨y, rfl⟩ : ∃ y, q = y + 5 := ⟨q - 5, by omega⟩
    show (x + 3) * (y + 5) ≤ 2 * ((x + 2) * (y + 4))
    simp only [Nat.add_mul, Nat.mul_add]
    omega
  have l5 : (p * A) * (q * B) = (p * q) * (A * B) := by ac_rfl
  have l6 : ((p - 1) * s) * ((q - 1) * t) = ((p - 1) * (q - 1)) * (s * t) := by ac_rfl
  rw [l5, l6] at l3
  have l7 : (p * q) * (A * B) ≤ (2 * ((p - 1) * (q - 1))) * (A * B) := Nat.mul_le_mul_right _ l4
  have l8 : (2 * ((p - 1) * (q - 1))) * (A * B) = ((p - 1) * (q - 1)) * (2 * (A * B)) := by ac_rfl
  exact Nat.lt_of_mul_lt_mul_left (Nat.lt_of_lt_of_le l3 (l8 ▸ l7))
/-- rates -/
theorem rate_mul {s1 s2 n1 n2 : Nat} (h1 : 0 < n1) (h2 : 0 < n2) :
    let A := s1 / Nat.gcd s1 n1 * (s2 / Nat.gcd s2 n2)
    let B := n1 / Nat.gcd s1 n1 * (n2 / Nat.gcd s2 n2)
    s1 * s2 / Nat.gcd (s1 * s2) (n1 * n2) = A / Nat.gcd A B ∧ n1 * n2 / Nat.gcd (s1 * s2) (n1 * n2) = B / Nat.gcd A B := by
  intro A B
  have g1 : 0 < Nat.gcd s1 n1 := Nat.gcd_pos_of_pos_right _ h1
  have g2 : 0 < Nat.gcd s2 n2 := Nat.gcd_pos_of_pos_right _ h2
  have e1 : s1 / Nat.gcd s1 n1 * Nat.gcd s1 n1 = s1 := Nat.div_mul_cancel (Nat.gcd_dvd_left _ _)
  have e2 : s2 / Nat.gcd s2 n2 * Nat.gcd s2 n2 = s2 := Nat.div_mul_cancel (Nat.gcd_dvd_left _ _)
  have e3 : n1 / Nat.gcd s1 n1 * Nat.gcd s1 n1 = n1 := Nat.div_mul_cancel (Nat.gcd_dvd_right _ _)
  have e4 : n2 / Nat.gcd s2 n2 * Nat.gcd s2 n2 = n2 := Nat.div_mul_cancel (Nat.gcd_dvd_right _ _)
  have eA : s1 * s2 = A * (Nat.gcd s1 n1 * Nat.gcd s2 n2) := by
    show _ = s1 / Nat.gcd s1 n1 * (s2 / Nat.gcd s2 n2) * _
    calc s1 * s2 = (s1 / Nat.gcd s1 n1 * Nat.gcd s1 n1) * (s2 / Nat.gcd s2 n2 * Nat.gcd s2 n2) := by rw [e1, e2]
      _ = _ := by ac_rfl
  have eB : n1 * n2 = B * (Nat.gcd s1 n1 * Nat.gcd s2 n2) := by
    show _ = n1 / Nat.gcd s1 n1 * (n2 / Nat.gcd s2 n2) * _
    calc n1 * n2 = (n1 / Nat.gcd s1 n1 * Nat.gcd s1 n1) * (n2 / Nat.gcd s2 n2 * Nat.gcd s2 n2) := by rw [e3, e4]
      _ = _ := by ac_rfl
  have hG : 0 < Nat.gcd s1 n1 * Nat.gcd s2 n2 := Nat.mul_pos g1 g2
  rw [eA, eB, Nat.gcd_mul_right]
  exact ⟨Nat.mul_div_mul_right _ _ hG, Nat.mul_div_mul_right _ _ hG⟩

/-! ### divisors by dividing -/
theorem div_start {n : Nat} (h : 0 < n) (d : Nat) : d ∈ ([] : List Nat) ↔ (d ∣ n ∧ (d < 1 ∨ n / d < 1)) := by
  refine ⟨fun z => (by simp at z), fun ⟨h1, h2⟩ => ?_⟩
  have h3 := Nat.pos_of_dvd_of_pos h1 h
  have h4 := Nat.div_pos (Nat.le_of_dvd h h1) h3
  omega
theorem div_end {F : List Nat} {n k : Nat} (h : 0 < n) (hk : n < k * k) (hF : ∀ d, d ∈ F ↔ (d ∣ n ∧ (d < k ∨ n / d < k))) (d : Nat) : d ∈ F ↔ d ∣ n := by
  rw [hF]
  refine ⟨fun z => z.1, fun hd => ⟨hd, ?_⟩⟩
  rcases Nat.lt_or_ge d k with z | z
  · exact .inl z
  · right
    apply Nat.lt_of_not_le
    intro hc
    have := Nat.mul_le_mul z hc
    rw [Nat.mul_div_cancel' hd] at this
    omega
theorem div_skip {F : List Nat} {n k : Nat} (h : 0 < n) (hk : ¬ k ∣ n) (hF : ∀ d, d ∈ F ↔ (d ∣ n ∧ (d < k ∨ n / d < k))) (d : Nat) : d ∈ F ↔ (d ∣ n ∧ (d < k + 1 ∨ n / d < k + 1)) := by
  rw [hF]
  refine ⟨fun z => ⟨z.1, by omega⟩, fun ⟨h1, h2⟩ => ⟨h1, ?_⟩⟩
  rcases h2 with z | z
  · have : d ≠ k := fun e => hk (e ▸ h1)
    omega
  · have : n / d ≠ k := fun e => hk ⟨d, by rw [← e, Nat.div_mul_cancel h1]⟩
    omega
theorem div_step {F : List Nat} {n k : Nat} (h : 0 < n) (hk1 : 1 ≤ k) (hkk : k * k ≤ n) (hd : k ∣ n) (hnd : F.Nodup) (hF : ∀ d, d ∈ F ↔ (d ∣ n ∧ (d < k ∨ n / d < k))) :
    k ∉ F ∧ (k * k < n → (F ++ [k] ++ [n / k]).Nodup ∧ ∀ d, d ∈ F ++ [k] ++ [n / k] ↔ (d ∣ n ∧ (d < k + 1 ∨ n / d < k + 1))) ∧ (k * k = n → (F ++ [k]).Nodup ∧ ∀ d, d ∈ F ++ [k] ↔ (d ∣ n ∧ (d < k + 1 ∨ n / d < k + 1))) := by
  obtain ⟨e, he⟩ := hd
  have hke : n / k = e := by rw [he, Nat.mul_div_cancel_left _ (by omega)]
  have he0 : 0 < e := Nat.pos_of_ne_zero fun z => by subst z; omega
  have hle : k ≤ e := by rw [he] at hkk; exact Nat.le_of_mul_le_mul_left hkk (by omega)
  have hek : n / e = k := by rw [he, Nat.mul_div_cancel _ he0]
  have hkF : k ∉ F := fun z => by have := (hF k).mp z; rw [hke] at this; omega
  have heF : e ∉ F := fun z => by have := (hF e).mp z; rw [hek] at this; omega
  have hdk : k ∣ n := ⟨e, he⟩
  have hde : e ∣ n := ⟨k, by rw [he, Nat.mul_comm]⟩
  have hq : ∀ d, d ∣ n → n / d = k → d = e := fun d h1 h2 => by
    have h3 := Nat.div_mul_cancel h1
    rw [h2, he] at h3
    exact Nat.eq_of_mul_eq_mul_left (by omega) h3
  refine ⟨hkF, fun hlt => ?_, fun heq => ?_⟩
  · rw [hke]
    have hlt2 : k < e := by rw [he] at hlt; exact Nat.lt_of_mul_lt_mul_left hlt
    refine ⟨?_, fun d => ?_⟩
    · rw [List.append_assoc, List.nodup_append]
      refine ⟨hnd, by simp; omega, fun a ha b hb z => ?_⟩
      simp at hb
      rcases hb with rfl | rfl
      · exact hkF (z ▸ ha)
      · exact heF (z ▸ ha)
    · rw [List.mem_append, List.mem_append, List.mem_singleton, List.mem_singleton, hF]
      constructor
      · rintro ((⟨h1, h2⟩ | h1) | h1)
        · exact ⟨h1, by omega⟩
        · subst h1; exact ⟨hdk, by omega⟩
        · subst h1; exact ⟨hde, by omega⟩
      · rintro ⟨h1, h2⟩
        by_cases z : d = k
        · exact .inl (.inr z)
        · by_cases y : n / d = k
          · exact .inr (hq d h1 y)
          · exact .inl (.inl ⟨h1, by omega⟩)
  · have hek2 : e = k := by
      rw [he] at heq
      exact (Nat.eq_of_mul_eq_mul_left (by omega) heq).symm
    refine ⟨?_, fun d => ?_⟩
    · rw [List.nodup_append]
      refine ⟨hnd, by simp, fun a ha b hb z => ?_⟩
      simp at hb
      subst hb
      exact hkF (z ▸ ha)
    · rw [List.mem_append, List.mem_singleton, hF]
      constructor
      · rintro (⟨h1, h2⟩ | h1)
        · exact ⟨h1, by omega⟩
        · subst h1; exact ⟨hdk, by omega⟩
      · rintro ⟨h1, h2⟩
        by_cases z : d = k
        · exact .inr z
        · by_cases y : n / d = k
          · exact .inr ((hq d h1 y).trans hek2)
          · exact .inl ⟨h1, by omega⟩

theorem two_primes {p q a b : Nat} (hp : Pr p) (hq : Pr q) (h3 : 3 ≤ p) (h5 : 3 ≤ q) (ha : 1 ≤ a) (hb : 1 ≤ b) : sig 1 (p ^ a * q ^ b) < 2 * (p ^ a * q ^ b) ∧ ∃ l, Fac l (p ^ a * q ^ b) ∧ l.length < 3 := by
  rcases Nat.lt_trichotomy p q with h | h | h
  · have h4 : q ≠ 4 := fun z => by subst z; have := hq.2 2 (by decide); omega
    refine ⟨less_two hp hq h3 (by omega) (by omega), [(p, a), (q, b)], ⟨by simp [h], ?_, by simp [prodF]⟩, by simp⟩
    intro z hz
    simp at hz
    rcases hz with rfl | rfl
    · exact ⟨hp, ha⟩
    · exact ⟨hq, hb⟩
  · subst h
    rw [← Nat.pow_add]
    refine ⟨less_pp hp, [(p, a + b)], ⟨by simp, ?_, by simp [prodF]⟩, by simp⟩
    intro z hz
    simp at hz
    subst hz
    exact ⟨hp, by omega⟩
  · have h4 : p ≠ 4 := fun z => by subst z; have := hp.2 2 (by decide); omega
    rw [Nat.mul_comm]
    refine ⟨less_two hq hp h5 (by omega) (by omega), [(q, b), (p, a)], ⟨by simp [h], ?_, by simp [prodF]⟩, by simp⟩
    intro z hz
    simp at hz
    rcases hz with rfl | rfl
    · exact ⟨hq, hb⟩
    · exact ⟨hp, ha⟩
theorem perfect_part {n d : Nat} (hn : 0 < n) (h : sig 1 n = 2 * n) (hd : d ∣ n) (hlt : d < n) : sig 1 d < 2 * d := by
  obtain ⟨t, rfl⟩ := hd
  have hd0 : 0 < d := Nat.pos_of_ne_zero fun z => by subst z; omega
  have ht2 : 2 ≤ t := by
    rcases Nat.lt_or_ge t 2 with z | z
    · exfalso
      have : t = 0 ∨ t = 1 := by omega
      rcases this with rfl | rfl <;> omega
    · exact z
  have h1 := (sig_times d t hd0 (by omega)).2 ht2
  rw [h] at h1
  apply Nat.lt_of_not_le
  intro hc
  have h2 : t * (2 * d) ≤ t * sig 1 d := Nat.mul_le_mul_left _ hc
  have h3 : t * (2 * d) = 2 * (d * t) := by ac_rfl
  omega
theorem dropLast_divs {n d : Nat} (hn : 0 < n) (hd : d ∈ (divs n).dropLast) : d ∣ n ∧ d < n := by
  have h1 : d ∣ n := (mem_divs hn).mp (List.dropLast_subset _ hd)
  refine ⟨h1, ?_⟩
  have hle := Nat.le_of_dvd hn h1
  apply Nat.lt_of_le_of_ne hle
  intro e
  subst e
  have hne : divs d ≠ [] := fun z => by rw [z] at hd; simp at hd
  have h2 := asc_divs d
  rw [← List.dropLast_concat_getLast hne, List.pairwise_append] at h2
  have h3 := h2.2.2 d hd ((divs d).getLast hne) (by simp)
  have h4 := Nat.le_of_dvd hn ((mem_divs hn).mp (List.getLast_mem hne))
  omega
end NT

/-! Even perfect numbers (Euler), and the lone exponents as the program finds them. -/
namespace NT
open List
theorem two_pr : Pr 2 := pr_of (by decide)
theorem geo_two (t : Nat) : geo 2 t + 1 = 2 ^ t := by
  have := geo_mul 2 t (by decide)
  simpa using this
theorem sig_two {t m : Nat} (hm : m % 2 = 1) : sig 1 (2 ^ t * m) = sig 1 m * (2 ^ (t + 1) - 1) := by
  have hd : ¬ 2 ∣ m := fun h => by have := Nat.mod_eq_zero_of_dvd h; omega
  have := sig_mul (e := t) 1 two_pr hd (by omega)
  rw [Nat.pow_one] at this
  rw [this]
  have := geo_two (t + 1)
  congr 1
  omega
theorem euler {t m : Nat} (ht : 1 ≤ t) (hm : m % 2 = 1) (h : sig 1 (2 ^ t * m) = 2 * (2 ^ t * m)) : m = 2 ^ (t + 1) - 1 ∧ Pr m := by
  rw [sig_two hm] at h
  have hp : 2 ^ (t + 1) = 2 * 2 ^ t := by rw [Nat.pow_succ, Nat.mul_comm]
  have h4 : 4 ≤ 2 ^ (t + 1) := by
    have : 2 ^ 2 ≤ 2 ^ (t + 1) := Nat.pow_le_pow_right (by decide) (by omega)
    exact this
  obtain ⟨M, hM⟩ : ∃ M, 2 ^ (t + 1) = M + 1 := ⟨2 ^ (t + 1) - 1, by omega⟩
  have e1 : 2 * (2 ^ t * m) = (M + 1) * m := by rw [← Nat.mul_assoc, ← hp, hM]
  rw [e1, hM, Nat.add_sub_cancel] at h
  have hc : Nat.Coprime M (M + 1) := by
    show Nat.gcd M (M + 1) = 1
    rw [Nat.gcd_self_add_right, Nat.gcd_one_right]
  have hd : M ∣ m := hc.dvd_of_dvd_mul_left ⟨sig 1 m, by rw [← h, Nat.mul_comm]⟩
  obtain ⟨q, rfl⟩ := hd
  have hM0 : 0 < M := by omega
  have hq0 : 0 < q := Nat.pos_of_ne_zero fun z => by subst z; simp at hm
  have hs : sig 1 (M * q) = M * q + q := by
    have e2 : sig 1 (M * q) * M = (M * q + q) * M := by
      rw [h, Nat.add_mul, Nat.add_mul, Nat.one_mul]
      have : M * (M * q) = M * q * M := by ac_rfl
      have : q * M = M * q := by ac_rfl
      omega
    exact Nat.eq_of_mul_eq_mul_right hM0 e2
  have hq1 : q = 1 := by
    apply Classical.byContradiction
    intro hne
    have hmq : q < M * q := by
      calc q = 1 * q := (Nat.one_mul q).symm
        _ < M * q := Nat.mul_lt_mul_of_pos_right (by omega) hq0
    have hn0 : 0 < M * q := by omega
    have : ([1, q, M * q] : List Nat).sum ≤ (divs (M * q)).sum := by
      refine sum_le_sub ?_ fun x hx => ?_
      · rw [List.nodup_cons, List.nodup_cons]
        refine ⟨?_, ?_, by simp⟩
        · simp; omega
        · simp; omega
      · rw [mem_divs hn0]
        simp at hx
        rcases hx with rfl | rfl | rfl
        · exact Nat.one_dvd _
        · exact ⟨M, by rw [Nat.mul_comm]⟩
        · exact Nat.dvd_refl _
    rw [← sig1, hs] at this
    simp at this
    omega
  subst hq1
  rw [Nat.mul_one] at hs ⊢
  exact ⟨by omega, prime_of_sig (by omega) hs⟩
theorem euler_back {t : Nat} (hp : Pr (2 ^ (t + 1) - 1)) : sig 1 (2 ^ t * (2 ^ (t + 1) - 1)) = 2 * (2 ^ t * (2 ^ (t + 1) - 1)) := by
  have h2 := hp.1
  have hpw : 2 ^ (t + 1) = 2 * 2 ^ t := by rw [Nat.pow_succ, Nat.mul_comm]
  rw [sig_two (by omega), sig_prime hp, Nat.sub_add_cancel (by omega), ← Nat.mul_assoc, ← hpw]

/-! ### lone exponents -/
def llGo (n : Int) : Nat → Int
  | 0 => 4
  | k + 1 => (llGo n k * llGo n k - 2) % n
def loneB (t : Nat) : Bool := t == 2 || (decide (3 ≤ t) && (List.range (t - 2)).all (fun k => t % (2 + k) != 0) && decide (llGo ((1 : Int) * 2 ^ t - 1) (t - 2) = 0))
def tab : List Nat := [2, 3, 5, 7, 13, 17, 19, 31, 61]
theorem lone_tab : ∀ t, t ≤ 70 → loneB t = tab.contains t := by
  have : (List.range 71).all (fun t => loneB t == tab.contains t) = true := by decide +kernel
  intro t ht
  rw [List.all_eq_true] at this
  have := this t (List.mem_range.mpr (by omega))
  exact beq_iff_eq.mp this
theorem lone_pr : ∀ t, 2 ≤ t → t ≤ 18 → loneB t = prB (2 ^ t - 1) := by
  have : (List.range 19).all (fun t => decide (t < 2) || (loneB t == prB (2 ^ t - 1))) = true := by decide +kernel
  intro t h2 ht
  rw [List.all_eq_true] at this
  have := this t (List.mem_range.mpr (by omega))
  rw [decide_eq_false (by omega), Bool.false_or] at this
  exact beq_iff_eq.mp this
def pn (p : Nat) : Nat := 2 ^ (p - 1) * (2 ^ p - 1)
def paperT (n : Nat) : Option (Nat × Nat) := (tab.find? fun p => pn p == n).map fun p => (p - 1, 2 ^ p - 1)
theorem split_two {n : Nat} (h : 0 < n) : ∃ t m, n = 2 ^ t * m ∧ m % 2 = 1 := by
  obtain ⟨e, m, h1, h2⟩ := split_pow 2 (by decide) n h
  exact ⟨e, m, h1, by have : ¬ m % 2 = 0 := fun z => h2 (Nat.dvd_of_mod_eq_zero z); omega⟩
theorem two_uniq {t u m k : Nat} (hm : m % 2 = 1) (hk : k % 2 = 1) (h : 2 ^ t * m = 2 ^ u * k) : t = u ∧ m = k :=
  pow_mul_inj two_pr (fun z => by have := Nat.mod_eq_zero_of_dvd z; omega) (fun z => by have := Nat.mod_eq_zero_of_dvd z; omega) h
theorem pn_mono {p q : Nat} (h1 : 1 ≤ p) (h : p ≤ q) : pn p ≤ pn q := by
  have a : 2 ^ (p - 1) ≤ 2 ^ (q - 1) := Nat.pow_le_pow_right (by decide) (by omega)
  have b : 2 ^ p ≤ 2 ^ q := Nat.pow_le_pow_right (by decide) h
  exact Nat.mul_le_mul a (by omega)
theorem pn_big {p : Nat} (h1 : 1 ≤ p) (h : pn p ≤ 10 ^ 40) : p ≤ 67 := by
  apply Nat.le_of_not_lt
  intro hc
  have := pn_mono (by decide) (show 68 ≤ p by omega)
  have h68 : 10 ^ 40 < pn 68 := by decide
  omega
theorem odd_pn {p : Nat} (h : 1 ≤ p) : (2 ^ p - 1) % 2 = 1 := by
  have : 2 ^ p = 2 * 2 ^ (p - 1) := by
    obtain ⟨q, rfl⟩ : ∃ q, p = q + 1 := ⟨p - 1, by omega⟩
    rw [Nat.pow_succ, Nat.mul_comm, Nat.add_sub_cancel]
  have h2 : 1 ≤ 2 ^ (p - 1) := Nat.pow_pos (by decide)
  omega
theorem tab_pos : ∀ p ∈ tab, 2 ≤ p ∧ p ≤ 61 := by decide
/-- the paper of a number, once its twos are taken out -/
theorem paperT_of {t m : Nat} (hm : m % 2 = 1) (hn : 2 ^ t * m ≤ 10 ^ 40) :
    paperT (2 ^ t * m) = if 1 ≤ t ∧ m = 2 ^ (t + 1) - 1 ∧ loneB (t + 1) = true then some (t, m) else none := by
  by_cases h : 1 ≤ t ∧ m = 2 ^ (t + 1) - 1 ∧ loneB (t + 1) = true
  · rw [if_pos h]
    obtain ⟨h1, h2, h3⟩ := h
    have hpn : pn (t + 1) = 2 ^ t * m := by unfold pn; rw [Nat.add_sub_cancel, h2]
    have hb := pn_big (p := t + 1) (by omega) (by rw [hpn]; exact hn)
    rw [lone_tab _ (by omega), List.contains_iff_mem] at h3
    unfold paperT
    have hf : ∃ p, tab.find? (fun p => pn p == 2 ^ t * m) = some p := by
      cases q : tab.find? (fun p => pn p == 2 ^ t * m) with
      | some p => exact ⟨p, rfl⟩
      | none =>
        rw [List.find?_eq_none] at q
        exact absurd (by rw [hpn]; simp) (q _ h3)
    obtain ⟨p, hp⟩ := hf
    rw [hp]
    have h4 := List.find?_some hp
    have h5 := tab_pos p (List.mem_of_find?_eq_some hp)
    rw [beq_iff_eq] at h4
    unfold pn at h4
    obtain ⟨h6, h7⟩ := two_uniq (odd_pn (by omega)) hm h4
    show some (p - 1, 2 ^ p - 1) = some (t, m)
    rw [h6, h7]
  · rw [if_neg h]
    unfold paperT
    cases q : tab.find? (fun p => pn p == 2 ^ t * m) with
    | none => rfl
    | some p =>
      exfalso
      apply h
      have h3 := List.mem_of_find?_eq_some q
      have h4 := List.find?_some q
      have h5 := tab_pos p h3
      rw [beq_iff_eq] at h4
      unfold pn at h4
      obtain ⟨h6, h7⟩ := two_uniq (odd_pn (by omega)) hm h4
      have hpt : p = t + 1 := by omega
      subst hpt
      refine ⟨by omega, h7.symm, ?_⟩
      rw [lone_tab _ (by omega), List.contains_iff_mem]
      exact h3
theorem even_perfect_iff {n : Nat} (h0 : 0 < n) (h : n ≤ 10 ^ 10) : (paperT n).isSome = (decide (n % 2 = 0) && decide (sig 1 n = 2 * n)) := by
  obtain ⟨t, m, rfl, hm⟩ := split_two h0
  rw [paperT_of hm (Nat.le_trans h (by decide))]
  have hpar : (2 ^ t * m) % 2 = 0 ↔ 1 ≤ t := by
    constructor
    · intro z
      apply Nat.pos_of_ne_zero
      intro z2
      subst z2
      simp at z
      omega
    · intro z
      obtain ⟨u, rfl⟩ : ∃ u, t = u + 1 := ⟨t - 1, by omega⟩
      rw [Nat.pow_succ, Nat.mul_comm (2 ^ u), Nat.mul_assoc]
      exact Nat.mul_mod_right 2 _
  by_cases ht : 1 ≤ t
  · rw [decide_eq_true (hpar.mpr ht), Bool.true_and]
    by_cases hs : sig 1 (2 ^ t * m) = 2 * (2 ^ t * m)
    · rw [decide_eq_true hs]
      obtain ⟨e1, e2⟩ := euler ht hm hs
      have hb : t + 1 ≤ 18 := by
        apply Nat.le_of_not_lt
        intro hc
        have h1 : pn 19 ≤ pn (t + 1) := pn_mono (by decide) (by omega)
        have h2 : pn (t + 1) = 2 ^ t * m := by unfold pn; rw [Nat.add_sub_cancel, e1]
        have h3 : 10 ^ 10 < pn 19 := by decide
        omega
      rw [if_pos ⟨ht, e1, by rw [lone_pr _ (by omega) hb, ← e1]; exact (prB_iff m).mpr e2⟩]
      rfl
    · rw [decide_eq_false hs, if_neg]
      · rfl
      · rintro ⟨_, e1, e2⟩
        apply hs
        have hb : t + 1 ≤ 18 := by
          apply Nat.le_of_not_lt
          intro hc
          have h1 : pn 19 ≤ pn (t + 1) := pn_mono (by decide) (by omega)
          have h2 : pn (t + 1) = 2 ^ t * m := by unfold pn; rw [Nat.add_sub_cancel, e1]
          have h3 : 10 ^ 10 < pn 19 := by decide
          omega
        rw [lone_pr _ (by omega) hb, prB_iff] at e2
        rw [e1]
        exact euler_back e2
  · rw [decide_eq_false (fun z => ht (hpar.mp z)), Bool.false_and, if_neg (fun z => ht z.1)]
    rfl
end NT

namespace Hd
open PySem PySem.Spec PyProof.Rows L2
open PL
local macro_rules | `(tactic| walk_at "ro") => `(tactic| first
  | with_reducible exact ro_add | with_reducible exact ro_sub | with_reducible exact ro_lt | with_reducible exact ro_le | with_reducible exact ro_gt | with_reducible exact ro_ge | with_reducible exact ro_eqI | with_reducible exact ro_neI
  | with_reducible exact ro_isN | with_reducible exact ro_notN
  | with_reducible refine' ro_mul ?_ | with_reducible refine' ro_fdiv ?_ | with_reducible refine' ro_mod ?_
  | with_reducible refine' ro_eq ?_ ?_ | with_reducible refine' ro_ne ?_ ?_
  | with_reducible refine' ro_ixL ?_ | with_reducible refine' ro_ixT ?_ | with_reducible refine' ro_catT ?_ | with_reducible refine' RON.ro (ron_cat ?_))
local macro_rules | `(tactic| walk_at "ev1") => `(tactic| first
  | with_reducible exact ev_int | with_reducible exact ev_bl | with_reducible exact ev_non | with_reducible exact ev_str | exact ev_var rfl | exact eb_own rfl | exact (ev_var rfl).b
  | with_reducible exact ea_nil | with_reducible exact eb_nil | with_reducible exact ex_nil | with_reducible exact et_yes
  | with_reducible refine' ea_cons ?_ ?_ | with_reducible refine' eb_cons ?_ ?_
  | with_reducible refine' ev_bin ?_ ?_ ?_ | walk_at "ro"
  | with_reducible refine' ev_cb ?_ ?_
  | with_reducible refine' ev_tup ?_ (by first | decide | (simp; done) | (simp; decide))
  | with_reducible refine' et_test ?_ | with_reducible refine' et_B ?_ | with_reducible refine' et_not ?_
  | with_reducible refine' ev_neg ?_
  | with_reducible exact co_lenL | with_reducible exact co_lenT | with_reducible exact co_abs | with_reducible exact co_int | with_reducible exact co_max2 | with_reducible exact co_min2 | with_reducible exact co_sum
  | with_reducible refine' co_tuple (.inl rfl)
  | with_reducible exact ev_op
  | with_reducible refine' EvN.ev (en_lst ?_ (by first | decide | (simp; done) | (simp; decide)))
  | with_reducible refine' Ev.b ?_)
local macro_rules | `(tactic| walk_at "side") => `(tactic| first | (with_reducible refine cm_of ?_ ?_ ?_ ?_ <;> omega) | (with_reducible refine cdiv_of ?_ ?_ <;> omega) | omega | rfl | assumption)
local macro_rules | `(tactic| walk_at "ev") => `(tactic| (all_goals (repeat' walk_at "ev1")); all_goals (try walk_at "side"))
local macro_rules | `(tactic| walk_at "dsl") => `(tactic| (try dsimp only [List.set]))
local macro_rules | `(tactic| walk_at "asg") => `(tactic| (refine' ho_seq (ho_asg ?ha ?hn); walk_at "ev"; walk_at "dsl"))
local macro_rules | `(tactic| walk_at "asg'") => `(tactic| (refine' ho_asg ?ha ?hn; walk_at "ev"; walk_at "dsl"))
local macro_rules | `(tactic| walk_at "par") => `(tactic| (refine' ho_seq (hx_par (ex_dat ?ha (ex_dat ?hb ex_nil)) ?hn); walk_at "ev"; walk_at "dsl"))
local macro_rules | `(tactic| walk_at "par'") => `(tactic| (refine' hx_par (ex_dat ?ha (ex_dat ?hb ex_nil)) ?hn; walk_at "ev"; walk_at "dsl"))
local macro_rules | `(tactic| walk_at "ret") => `(tactic| (refine' ho_ret ?ha ?hn; walk_at "ev"; walk_at "dsl"))
local macro_rules | `(tactic| walk_at "if") => `(tactic| (refine' ho_if ?ha ?ht ?hf; walk_at "ev"))
local macro_rules | `(tactic| walk_at "len") => `(tactic| first | decide | (refine Nat.le_trans (m := 1000) ?_ (by decide); simp [nlD]; done))
local macro_rules | `(tactic| walk_at "fit") => `(tactic| repeat' first | exact fit_int | exact fit_bl | exact fit_non | exact fits_nil | exact fits_nl | refine fits_cons ?_ ?_ | (refine fit_lst (by walk_at "len") ?_) | (refine fit_tup (by walk_at "len") ?_))
local macro_rules | `(tactic| walk_at "lit") => `(tactic| repeat' first | exact ea_nil | refine' ea_cons ?_ ?_ | exact ev_int | exact ev_bl | exact ev_non | exact ev_str | exact ev_neg (ev_int).b | exact ev_var rfl | refine' ev_tup ?_ (by walk_at "len") | refine' EvN.ev (en_lst ?_ (by walk_at "len")))
section
variable {P : Program} {w : World} {K : PySem.W.Frag} {mg : Str → Option Value} {base : Heap}
def dInt : D → Bool
  | .int _ => true
  | _ => false
def dWhole (x : D) (lo hi : Int) : Bool :=
  match x with
  | .int i => decide (lo ≤ i) && decide (i ≤ hi)
  | _ => false
def R_is_integer (ds : List D) (d : D) : Prop := ∃ x T, ds = [x] ∧ x.ty = some T ∧ d = .bl (dInt x)
abbrev N_is_integer : List Str := ["value"]
theorem sc_is_integer : FnScope N_is_integer ["value"] (defScope s_is_integer) := ⟨rfl, rfl, rfl, by decide +kernel, rfl, by decide +kernel, by decide +kernel⟩
theorem cal_is_integer (T : Txt K mg) : Cal P w K mg base CX0 "is_integer" 1 ["value"] (SpR R_is_integer) := by
  refine calOf (d := d_is_integer) (N := N_is_integer) (ps := ["value"]) (k := 0) T 0 sc_is_integer (fun _ _ _ _ _ _ us hl => match us, hl with | [_], _ => rfl) (by rintro ds e ⟨x, T, rfl, _⟩; rfl) (fun cdv A outer s H E hr => ⟨_, PSs.nox (pss_one (ps_ret (pe_and (pe_callB (kisi K) (by rfl) T.f_isinstance (by decide +kernel) (pa_cons (pv 0) (pa_cons (kty (T := "int") T.f_int (by decide +kernel)) pa_nil))) (pe_one (pe_not (pe_callB (kisi K) (by rfl) T.f_isinstance (by decide +kernel) (pa_cons (pv 0) (pa_cons (kty (T := "bool") T.f_bool (by decide +kernel)) pa_nil)))))))), ?_⟩)
  rintro ds d ⟨x, T, rfl, ht, rfl⟩
  show Ho _ [.dat x] none _
  refine ho_ret (ev_andV' (ev_cb (eb_cons (ev_var rfl).b (eb_cons ev_op.b eb_nil)) (co_isi ht (by decide))) (fun _ => ev_notV (ev_cb (eb_cons (ev_var rfl).b (eb_cons ev_op.b eb_nil)) (co_isi ht (by decide))))) ⟨?_, rfl⟩
  cases x <;> cases ht <;> rfl
def R_is_whole (ds : List D) (d : D) : Prop := ∃ x T lo hi, ds = [x, .int lo, .int hi] ∧ x.ty = some T ∧ d = .bl (dWhole x lo hi)
abbrev N_is_whole : List Str := ["value", "low", "high"]
theorem sc_is_whole : FnScope N_is_whole ["value", "low", "high"] (defScope s_is_whole) := ⟨rfl, rfl, rfl, by decide +kernel, rfl, by decide +kernel, by decide +kernel⟩
theorem cal_is_whole (T : Txt K mg) : Cal P w K mg base CX0 "is_whole" 2 ["value", "low", "high"] (SpR R_is_whole) := by
  refine calOf (d := d_is_whole) (N := N_is_whole) (ps := ["value", "low", "high"]) (k := 1) T 1 sc_is_whole (fun _ _ _ _ _ _ us hl => match us, hl with | [_, _, _], _ => rfl) (by rintro ds e ⟨x, T, _, _, rfl, _⟩; rfl) (fun cdv A outer s H E hr => ⟨_, PSs.nox (pss_one (ps_ret (pe_and (kcall (cal_is_integer T) (hr.mono (by decide)) (pa_cons (pv 0) pa_nil)) (pe_one (pe_chain op_le op_le (pv 1) (pv 0) (pv 2)))))), ?_⟩)
  rintro ds d ⟨x, T, lo, hi, rfl, ht, rfl⟩
  show Ho _ [.dat x, .dat (.int lo), .dat (.int hi)] none _
  by_cases hx : dInt x = true
  · obtain ⟨i, rfl⟩ : ∃ i, x = .int i := by cases x <;> first | exact ⟨_, rfl⟩ | cases hx
    refine ho_ret (ev_andV' (a := true) (ev_call (ea_cons (ev_var rfl) ea_nil) ⟨_, _, rfl, ht, rfl⟩) (fun _ => ev_chain (a := decide (lo ≤ i)) (b := decide (lo ≤ i) && decide (i ≤ hi)) (ev_var rfl).b (ev_var rfl).b ro_le (fun _ => (ev_var rfl).b) (fun h => ?_) (fun h => ?_))) ⟨rfl, rfl⟩
    · rw [h, Bool.true_and]; exact ro_le
    · rw [h]; rfl
  · have hf : dInt x = false := by simpa using hx
    refine ho_ret (ev_andV (a := false) (b := false) (c2 := none) (ev_call (ea_cons (ev_var rfl) ea_nil) ⟨_, _, rfl, ht, by rw [hf]⟩) (fun h => by cases h) (fun _ => ⟨rfl, rfl⟩)) ⟨?_, rfl⟩
    cases x <;> first | rfl | cases hf
def R_need_whole (ds : List D) (d : D) : Prop := ∃ i lo hi : Int, ds = [.int i, .int lo, .int hi] ∧ lo ≤ i ∧ i ≤ hi ∧ d = .non
abbrev N_need_whole : List Str := ["value", "low", "high"]
theorem sc_need_whole : FnScope N_need_whole ["value", "low", "high"] (defScope s_need_whole) := ⟨rfl, rfl, rfl, by decide +kernel, rfl, by decide +kernel, by decide +kernel⟩
theorem cal_need_whole (T : Txt K mg) : Cal P w K mg base CX0 "need_whole" 3 ["value", "low", "high"] (SpR R_need_whole) := by
  refine calOf (d := d_need_whole) (N := N_need_whole) (ps := ["value", "low", "high"]) (k := 2) T 2 sc_need_whole (fun _ _ _ _ _ _ us hl => match us, hl with | [_, _, _], _ => rfl) (by rintro ds e ⟨_, _, _, rfl, _⟩; rfl) (fun cdv A outer s H E hr => ⟨_, PSs.nox (pss_one (ps_if (pt_not (pt_val (kcall (cal_is_whole T) (hr.mono (by decide)) (pa_cons (pv 0) (pa_cons (pv 1) (pa_cons (pv 2) pa_nil)))))) (pss_one ps_never) pss_nil)), ?_⟩)
  rintro ds d ⟨i, lo, hi, rfl, h1, h2, rfl⟩
  show Ho _ [.dat (.int i), .dat (.int lo), .dat (.int hi)] none _
  refine ho_if (b := false) (et_not (b := true) (et_test (ev_call (ea_cons (ev_var rfl) (ea_cons (ev_var rfl) (ea_cons (ev_var rfl) ea_nil))) ⟨_, _, _, _, rfl, rfl, ?_⟩))) (fun h => by cases h) (fun _ => ho_next ⟨rfl, rfl⟩)
  simp [dWhole, h1, h2]
def R_need_number (ds : List D) (d : D) : Prop := ∃ i : Int, ds = [.int i] ∧ 1 ≤ i ∧ i ≤ 10000000000 ∧ d = .non
abbrev N_need_number : List Str := ["value"]
theorem sc_need_number : FnScope N_need_number ["value"] (defScope s_need_number) := ⟨rfl, rfl, rfl, by decide +kernel, rfl, by decide +kernel, by decide +kernel⟩
theorem cal_need_number (T : Txt K mg) : Cal P w K mg base CX0 "need_number" 4 ["value"] (SpR R_need_number) := by
  refine calOf (d := d_need_number) (N := N_need_number) (ps := ["value"]) (k := 3) T 4 sc_need_number (fun _ _ _ _ _ _ us hl => match us, hl with | [_], _ => rfl) (by rintro ds e ⟨_, rfl, _⟩; rfl) (fun cdv A outer s H E hr => ⟨_, PSs.nox (pss_one (ps_expr (kcall (cal_need_whole T) (hr.mono (by decide)) (pa_cons (pv 0) (pa_cons pe_int (pa_cons (kcon T.con_MOST) pa_nil)))))), ?_⟩)
  rintro ds d ⟨i, rfl, h1, h2, rfl⟩
  show Ho _ [.dat (.int i)] none _
  exact ho_expr (ev_call (ea_cons (ev_var rfl) (ea_cons ev_int (ea_cons ev_int ea_nil))) ⟨_, _, _, rfl, h1, h2, rfl⟩) ⟨rfl, rfl⟩

end
end Hd

namespace Hd
open PySem PySem.Spec PyProof.Rows L2
open PL
local macro_rules | `(tactic| walk_at "ro") => `(tactic| first
  | with_reducible exact ro_add | with_reducible exact ro_sub | with_reducible exact ro_lt | with_reducible exact ro_le | with_reducible exact ro_gt | with_reducible exact ro_ge | with_reducible exact ro_eqI | with_reducible exact ro_neI
  | with_reducible exact ro_isN | with_reducible exact ro_notN
  | with_reducible refine' ro_mul ?_ | with_reducible refine' ro_fdiv ?_ | with_reducible refine' ro_mod ?_
  | with_reducible refine' ro_eq ?_ ?_ | with_reducible refine' ro_ne ?_ ?_
  | with_reducible refine' ro_ixL ?_ | with_reducible refine' ro_ixT ?_ | with_reducible refine' ro_catT ?_ | with_reducible refine' RON.ro (ron_cat ?_))
local macro_rules | `(tactic| walk_at "ev1") => `(tactic| first
  | with_reducible exact ev_int | with_reducible exact ev_bl | with_reducible exact ev_non | with_reducible exact ev_str | exact ev_var rfl | exact eb_own rfl | exact (ev_var rfl).b
  | with_reducible exact ea_nil | with_reducible exact eb_nil | with_reducible exact ex_nil | with_reducible exact et_yes
  | with_reducible refine' ea_cons ?_ ?_ | with_reducible refine' eb_cons ?_ ?_
  | with_reducible refine' ev_bin ?_ ?_ ?_ | walk_at "ro"
  | with_reducible refine' ev_cb ?_ ?_
  | with_reducible refine' ev_tup ?_ (by first | decide | (simp; done) | (simp; decide))
  | with_reducible refine' et_test ?_ | with_reducible refine' et_B ?_ | with_reducible refine' et_not ?_
  | with_reducible refine' ev_neg ?_
  | with_reducible exact co_lenL | with_reducible exact co_lenT | with_reducible exact co_abs | with_reducible exact co_int | with_reducible exact co_max2 | with_reducible exact co_min2 | with_reducible exact co_sum
  | with_reducible refine' co_tuple (.inl rfl)
  | with_reducible exact ev_op
  | with_reducible refine' EvN.ev (en_lst ?_ (by first | decide | (simp; done) | (simp; decide)))
  | with_reducible refine' Ev.b ?_)
local macro_rules | `(tactic| walk_at "side") => `(tactic| first | (with_reducible refine cm_of ?_ ?_ ?_ ?_ <;> omega) | (with_reducible refine cdiv_of ?_ ?_ <;> omega) | omega | rfl | assumption)
local macro_rules | `(tactic| walk_at "ev") => `(tactic| (all_goals (repeat' walk_at "ev1")); all_goals (try walk_at "side"))
local macro_rules | `(tactic| walk_at "dsl") => `(tactic| (try dsimp only [List.set]))
local macro_rules | `(tactic| walk_at "asg") => `(tactic| (refine' ho_seq (ho_asg ?ha ?hn); walk_at "ev"; walk_at "dsl"))
local macro_rules | `(tactic| walk_at "asg'") => `(tactic| (refine' ho_asg ?ha ?hn; walk_at "ev"; walk_at "dsl"))
local macro_rules | `(tactic| walk_at "par") => `(tactic| (refine' ho_seq (hx_par (ex_dat ?ha (ex_dat ?hb ex_nil)) ?hn); walk_at "ev"; walk_at "dsl"))
local macro_rules | `(tactic| walk_at "par'") => `(tactic| (refine' hx_par (ex_dat ?ha (ex_dat ?hb ex_nil)) ?hn; walk_at "ev"; walk_at "dsl"))
local macro_rules | `(tactic| walk_at "ret") => `(tactic| (refine' ho_ret ?ha ?hn; walk_at "ev"; walk_at "dsl"))
local macro_rules | `(tactic| walk_at "if") => `(tactic| (refine' ho_if ?ha ?ht ?hf; walk_at "ev"))
local macro_rules | `(tactic| walk_at "len") => `(tactic| first | decide | (refine Nat.le_trans (m := 1000) ?_ (by decide); simp [nlD]; done))
local macro_rules | `(tactic| walk_at "fit") => `(tactic| repeat' first | exact fit_int | exact fit_bl | exact fit_non | exact fits_nil | exact fits_nl | refine fits_cons ?_ ?_ | (refine fit_lst (by walk_at "len") ?_) | (refine fit_tup (by walk_at "len") ?_))
local macro_rules | `(tactic| walk_at "lit") => `(tactic| repeat' first | exact ea_nil | refine' ea_cons ?_ ?_ | exact ev_int | exact ev_bl | exact ev_non | exact ev_str | exact ev_neg (ev_int).b | exact ev_var rfl | refine' ev_tup ?_ (by walk_at "len") | refine' EvN.ev (en_lst ?_ (by walk_at "len")))
section
variable {P : Program} {w : World} {K : PySem.W.Frag} {mg : Str → Option Value} {base : Heap}
def R_least_factor (ds : List D) (d : D) : Prop := ∃ n p : Nat, n ≤ 10 ^ 40 ∧ 2 ≤ n ∧ NT.LPF p n ∧ ds = [.int n] ∧ d = .int p
abbrev N_least_factor : List Str := ["number", "prime", "part"]
theorem sc_least_factor : FnScope N_least_factor ["number"] (defScope s_least_factor) := ⟨rfl, rfl, rfl, by decide +kernel, rfl, by decide +kernel, by decide +kernel⟩
theorem cal_least_factor (T : Txt K mg) : Cal P w K mg base CX0 "least_factor" 1 ["number"] (SpR R_least_factor) := by
  refine calOf (d := d_least_factor) (N := N_least_factor) (ps := ["number"]) (k := 0) T 6 sc_least_factor (fun _ _ _ _ _ _ us hl => match us, hl with | [_], _ => rfl) (by rintro ds e ⟨_, _, _, _, _, rfl, _⟩; rfl) (fun cdv A outer s H E hr => ⟨_, PSs.nox (pss_cons (ps_for PassesOwn.never rfl (kseq K (pe_tup (pa_cons pe_int (pa_cons pe_int pa_nil)))) (pg_name (i := 1) sc_least_factor.nd rfl (by first | exact Or.inl rfl | exact Or.inr rfl)) (pss_one (ps_if (pt_cmpR (keq K hr.units) (pe_op op_mod (pv 0) (pv 1)) pe_int (nomark _)) (pss_one (ps_ret (pv 1))) pss_nil)))
    (pss_cons (ps_set (i := 2) sc_least_factor.nd rfl (by first | exact Or.inl rfl | exact Or.inr rfl) pe_int)
    (pss_cons (ps_while PassesOwn.never (pt_cmpR op_le (pe_op (kmul K) (pv 2) (pv 2)) (pv 0) (nomark _)) (pss_cons (ps_if (pt_cmpR (keq K hr.units) (pe_op op_mod (pv 0) (pv 2)) pe_int (nomark _)) (pss_one (ps_ret (pv 2))) pss_nil)
    (pss_cons (ps_if (pt_cmpR (keq K hr.units) (pe_op op_mod (pv 0) (pe_op (kadd K) (pv 2) pe_int)) pe_int (nomark _)) (pss_one (ps_ret (pe_op (kadd K) (pv 2) pe_int))) pss_nil)
    (pss_one (ps_set (i := 2) sc_least_factor.nd rfl (by first | exact Or.inl rfl | exact Or.inr rfl) (pe_op (kadd K) (pv 2) pe_int))))))
    (pss_one (ps_ret (pv 0)))))), ?_⟩)
  rintro ds d ⟨n, p, hn, h2, hp, rfl, rfl⟩
  show Ho _ [.dat (.int n), .dead, .dead] none _
  have md : ∀ k : Nat, decide ((n : Int) % (k : Int) = 0) = true ↔ k ∣ n := fun k => by
    rw [decide_eq_true_iff, Nat.dvd_iff_mod_eq_zero]
    omega
  refine ho_seq (ho_for (xs := [.int (2 : Nat), .int (3 : Nat)]) (fun r ρ c => c = none ∧ (∃ s, ρ = [.dat (.int n), s, .dead]) ∧ ((r = [.int (2 : Nat), .int (3 : Nat)]) ∨ (r = [.int (3 : Nat)] ∧ ¬ 2 ∣ n) ∨ (r = [] ∧ ¬ 2 ∣ n ∧ ¬ 3 ∣ n))) (ei_tup (ev_tup (ea_cons ev_int (ea_cons ev_int ea_nil)) (by decide))) ⟨rfl, ⟨_, rfl⟩, .inl rfl⟩ ?_ ?_)
  · rintro x r ρ c ⟨rfl, ⟨s, rfl⟩, hr⟩
    obtain ⟨q, rfl, hq⟩ : ∃ q : Nat, x = .int q ∧ ((q = 2 ∧ r = [.int (3 : Nat)]) ∨ (q = 3 ∧ r = [] ∧ ¬ 2 ∣ n)) := by
      rcases hr with h | ⟨h, h'⟩ | ⟨h, _⟩
      · cases h; exact ⟨2, rfl, .inl ⟨rfl, rfl⟩⟩
      · cases h; exact ⟨3, rfl, .inr ⟨rfl, rfl, h'⟩⟩
      · cases h
    refine ⟨_, _, as_name, ho_ifc (b := decide ((n : Int) % (q : Int) = 0)) ?_ (fun h => ?_) (fun h => ?_)⟩
    · walk_at "ev"
    · have hd := (md q).mp h
      refine ho_ret (ev_var rfl) ⟨?_, rfl⟩
      have : NT.LPF q n := by
        rcases hq with ⟨rfl, _⟩ | ⟨rfl, _, h2'⟩
        · exact ⟨by omega, hd, fun q hq _ => hq⟩
        · refine ⟨by omega, hd, fun q hq hqd => ?_⟩
          rcases Nat.lt_or_ge q 3 with z | z
          · have : q = 2 := by omega
            subst this
            exact absurd hqd h2'
          · exact z
      rw [this.uniq hp]
    · have hd : ¬ q ∣ n := fun z => by rw [(md q).mpr z] at h; cases h
      refine ho_next ⟨rfl, ⟨_, rfl⟩, ?_⟩
      rcases hq with ⟨rfl, rfl⟩ | ⟨rfl, rfl, h2'⟩
      · exact .inr (.inl ⟨rfl, hd⟩)
      · exact .inr (.inr ⟨rfl, h2', hd⟩)
  · rintro ρ c ⟨rfl, ⟨s, rfl⟩, hr⟩
    have h23 : ¬ 2 ∣ n ∧ ¬ 3 ∣ n := by
      rcases hr with h | ⟨h, h'⟩ | ⟨_, h⟩
      · cases h
      · cases h
      · exact h
    have no5 : NT.NoD 5 n := fun d h1 h3 h4 => by
      have : d = 2 ∨ d = 3 ∨ d = 4 := by omega
      rcases this with rfl | rfl | rfl
      · exact h23.1 h4
      · exact h23.2 h4
      · exact h23.1 (Nat.dvd_trans (by decide) h4)
    refine ho_seq (ho_asg ev_int ?_)
    refine ho_seq (ho_while (fun m ρ c => c = none ∧ ∃ k : Nat, ρ = [.dat (.int n), s, .dat (.int k)] ∧ k % 6 = 5 ∧ NT.NoD k n ∧ k ≤ n + 6 ∧ m + k = n + 6) (n + 1) ⟨rfl, 5, rfl, rfl, no5, by omega, by omega⟩ ?_)
    rintro m ρ c ⟨rfl, k, rfl, hk6, hno, hkn, hm⟩
    refine ⟨decide ((k : Int) * k ≤ n), none, ?_, fun h => ?_, fun h => ?_⟩
    · walk_at "ev"
    · have hkk : k * k ≤ n := by rw [decide_eq_true_iff] at h; exact_mod_cast h
      have hkn2 : k ≤ n := Nat.le_trans (Nat.le_mul_self k) hkk
      refine ho_seq (ho_ifc (b := decide ((n : Int) % (k : Int) = 0)) ?_ (fun h => ?_) (fun h => ?_))
      · walk_at "ev"
      · refine ho_ret (ev_var rfl) ⟨?_, rfl⟩
        rw [(hno.lpf (by omega) ((md k).mp h)).uniq hp]
      · have hd : ¬ k ∣ n := fun z => by rw [(md k).mpr z] at h; cases h
        have n1 := (hno.succ hd).even (by omega) (by omega)
        refine ho_next (ho_seq (ho_ifc (b := decide ((n : Int) % ((k + 2 : Nat) : Int) = 0)) ?_ (fun h => ?_) (fun h => ?_)))
        · exact et_eq (by walk_at "ev") (by simp)
        · refine ho_retc (d := .int ((k + 2 : Nat) : Int)) ?_ ⟨?_, rfl⟩
          · exact ev_eq (by walk_at "ev") (by simp)
          · rw [(n1.lpf (by omega) ((md (k + 2)).mp h)).uniq hp]
        · have hd : ¬ (k + 2) ∣ n := fun z => by rw [(md (k + 2)).mpr z] at h; cases h
          have n2 := (((n1.succ hd).even (by omega) (by omega)).three (by omega) (by omega)).even (by omega) (by omega)
          refine ho_next (ho_asgc (d := .int ((k + 6 : Nat) : Int)) ?_ ?_)
          · exact ev_eq (by walk_at "ev") (by simp)
          · exact ⟨m - 6, by omega, rfl, k + 6, rfl, by omega, n2, by omega, by omega⟩
    · have hkk : n < k * k := by
        rw [decide_eq_false_iff_not] at h
        have : ¬ (k * k ≤ n) := fun z => h (by exact_mod_cast z)
        omega
      refine ho_ret (ev_var rfl) ⟨?_, rfl⟩
      rw [(hno.prime h2 hkk).uniq hp]
def R_is_prime_in (ds : List D) (d : D) : Prop := ∃ n : Nat, n ≤ 10 ^ 40 ∧ ds = [.int n] ∧ d = .bl (NT.prB n)
abbrev N_is_prime_in : List Str := ["number"]
theorem sc_is_prime_in : FnScope N_is_prime_in ["number"] (defScope s_is_prime_in) := ⟨rfl, rfl, rfl, by decide +kernel, rfl, by decide +kernel, by decide +kernel⟩
theorem cal_is_prime_in (T : Txt K mg) : Cal P w K mg base CX0 "is_prime_in" 2 ["number"] (SpR R_is_prime_in) := by
  refine calOf (d := d_is_prime_in) (N := N_is_prime_in) (ps := ["number"]) (k := 1) T 7 sc_is_prime_in (fun _ _ _ _ _ _ us hl => match us, hl with | [_], _ => rfl) (by rintro ds e ⟨_, _, rfl, _⟩; rfl) (fun cdv A outer s H E hr => ⟨_, PSs.nox (pss_one (ps_ret (pe_and (pe_cmpR op_gt (pv 0) pe_int (nomark _)) (pe_one (pe_cmpR (keq K hr.units) (kcall (cal_least_factor T) (hr.mono (by decide)) (pa_cons (pv 0) pa_nil)) (pv 0) (nomark _)))))), ?_⟩)
  rintro ds d ⟨n, hn, rfl, rfl⟩
  show Ho _ [.dat (.int n)] none _
  by_cases h2 : 2 ≤ n
  · obtain ⟨p, hp⟩ := NT.lpf_ex h2
    refine ho_retc (d := .bl (decide ((n : Int) > 1) && decide ((p : Int) = n))) (ev_andV' (by walk_at "ev") (fun _ => ev_bin (ev_call (ea_cons (ev_var rfl) ea_nil) ⟨n, p, hn, h2, hp, rfl, rfl⟩).b (ev_var rfl).b ro_eqI)) ⟨?_, rfl⟩
    congr 1
    rw [show decide ((n : Int) > 1) = true by rw [decide_eq_true_iff]; omega, Bool.true_and, Bool.eq_iff_iff, decide_eq_true_iff, NT.prB_iff, ← hp.prime_iff]
    omega
  · refine ho_ret (ev_andV (a := false) (b := false) ?_ (fun h => by cases h) (fun _ => ⟨rfl, rfl⟩)) ⟨?_, rfl⟩
    · rw [show false = decide ((n : Int) > 1) by rw [eq_comm, decide_eq_false_iff_not]; omega]
      walk_at "ev"
    · congr 1
      unfold NT.prB
      rw [decide_eq_false h2, Bool.false_and]
def facD (l : List (Nat × Nat)) : List D := l.map fun q => .tup [.int (q.1 : Int), .int (q.2 : Int)]
def R_factors_in (ds : List D) (d : D) : Prop := ∃ (n : Nat) (l : List (Nat × Nat)), 1 ≤ n ∧ n ≤ 10 ^ 40 ∧ NT.Fac l n ∧ ds = [.int n] ∧ d = .tup (facD l)
abbrev N_factors_in : List Str := ["number", "found", "left", "part", "power"]
theorem sc_factors_in : FnScope N_factors_in ["number"] (defScope s_factors_in) := ⟨rfl, rfl, rfl, by decide +kernel, rfl, by decide +kernel, by decide +kernel⟩
theorem cal_factors_in (T : Txt K mg) : Cal P w K mg base CX0 "factors_in" 1 ["number"] (SpR R_factors_in) := by
  refine calOf (d := d_factors_in) (N := N_factors_in) (ps := ["number"]) (k := 0) T 8 sc_factors_in (fun _ _ _ _ _ _ us hl => match us, hl with | [_], _ => rfl) (by rintro ds e ⟨_, _, _, _, _, rfl, _⟩; rfl) (fun cdv A outer s H E hr => ⟨_, PSs.nox (pss_cons (ps_par3 (i := 1) (j := 2) (l := 3) rfl sc_factors_in.nd rfl rfl rfl (by decide) (by decide) (by decide) rfl rfl rfl (pa_cons (pe_lst pa_nil) (pa_cons (pv 0) (pa_cons pe_int pa_nil))) rfl)
    (pss_cons (ps_while PassesOwn.never (pt_cmpR op_le (pe_op (kmul K) (pv 3) (pv 3)) (pv 2) (nomark _)) (pss_cons (ps_set (i := 4) sc_factors_in.nd rfl (by first | exact Or.inl rfl | exact Or.inr rfl) pe_int)
    (pss_cons (ps_while PassesOwn.never (pt_cmpR (keq K hr.units) (pe_op op_mod (pv 2) (pv 3)) pe_int (nomark _)) (pss_one (ps_par (i := 2) (j := 4) rfl sc_factors_in.nd rfl rfl (by decide) rfl rfl (pa_cons (pe_op op_fdivW (pv 2) (pv 3)) (pa_cons (pe_op (kadd K) (pv 4) pe_int) pa_nil)) rfl)))
    (pss_cons (ps_if (pt_cmpR op_gt (pv 4) pe_int (nomark _)) (pss_one (ps_expr (kappend K (pv 1) (pe_tup (pa_cons (pv 3) (pa_cons (pv 4) pa_nil)))))) pss_nil)
    (pss_one (ps_set (i := 3) sc_factors_in.nd rfl (by first | exact Or.inl rfl | exact Or.inr rfl) (pe_op (kadd K) (pv 3) (pe_ifExp (pt_cmpR (keq K hr.units) (pv 3) pe_int (nomark _)) pe_int pe_int))))))))
    (pss_cons (ps_if (pt_cmpR op_gt (pv 2) pe_int (nomark _)) (pss_one (ps_expr (kappend K (pv 1) (pe_tup (pa_cons (pv 2) (pa_cons pe_int pa_nil)))))) pss_nil)
    (pss_one (ps_ret (pe_callTy (ktuple K) (by rfl) T.f_tuple (by decide +kernel) (pa_cons (pv 1) pa_nil))))))), ?_⟩)
  rintro ds d ⟨n, L, h1, hn, hL, rfl, rfl⟩
  show Ho _ [.dat (.int n), .dead, .dead, .dead, .dead] none _
  have h200 : n < 2 ^ 200 := Nat.lt_of_le_of_lt hn (by decide)
  have fl : ∀ l : List (Nat × Nat), (facD l).length = l.length := fun l => by simp [facD]
  refine ho_seq (hx_par3 (ex_own (en_lst ea_nil (by decide)) (ex_dat (ev_var rfl) (ex_dat ev_int ex_nil))) ?_)
  refine ho_seq (ho_while (fun m ρ c => c = none ∧ ∃ (l : List (Nat × Nat)) (left k : Nat) (s : Sl), s.isOwn = false ∧ ρ = [.dat (.int n), .own (facD l), .dat (.int left), .dat (.int k), s] ∧ NT.FacS l left k n ∧ (k = 2 ∨ k % 2 = 1) ∧ 2 ≤ k ∧ k ≤ n + 4 ∧ m + k = n + 4) (n + 2) ⟨rfl, [], n, 2, .dead, rfl, rfl, .start h1, .inl rfl, by omega, by omega, by omega⟩ ?_)
  rintro m ρ c ⟨rfl, l, left, k, s, hs, rfl, hF, hk, hk2, hkn, hm⟩
  have hln := hF.le
  refine ⟨decide ((k : Int) * k ≤ left), none, ?_, fun h => ?_, fun h => ?_⟩
  · walk_at "ev"
  · have hkk : k * k ≤ left := by rw [decide_eq_true_iff] at h; exact_mod_cast h
    have hkn2 : k ≤ n := Nat.le_trans (Nat.le_trans (Nat.le_mul_self k) hkk) hln
    have hnext : ∀ (l' : List (Nat × Nat)) (left' : Nat) (s' : Sl), s'.isOwn = false → NT.FacS l' left' (k + 1) n → ∃ m', m' < m ∧ (none : Cup) = none ∧ ∃ (l : List (Nat × Nat)) (left k' : Nat) (s : Sl), s.isOwn = false ∧ [Sl.dat (.int (n : Int)), .own (facD l'), .dat (.int (left' : Int)), .dat (.int ((if k = 2 then k + 1 else k + 2 : Nat) : Int)), s'] = [.dat (.int n), .own (facD l), .dat (.int left), .dat (.int k'), s] ∧ NT.FacS l left k' n ∧ (k' = 2 ∨ k' % 2 = 1) ∧ 2 ≤ k' ∧ k' ≤ n + 4 ∧ m' + k' = n + 4 := by
      intro l' left' s' hs' hF'
      by_cases e2 : k = 2
      · rw [if_pos e2]
        exact ⟨m - 1, by omega, rfl, l', left', k + 1, s', hs', rfl, hF', by omega, by omega, by omega, by omega⟩
      · rw [if_neg e2]
        exact ⟨m - 2, by omega, rfl, l', left', k + 2, s', hs', rfl, hF'.even (by omega) (by omega), by omega, by omega, by omega, by omega⟩
    refine ho_seq (ho_asg ev_int ?_)
    refine ho_seq (ho_while (fun m' ρ c => c = none ∧ ∃ e : Nat, ρ = [.dat (.int n), .own (facD l), .dat (.int m'), .dat (.int k), .dat (.int e)] ∧ left = k ^ e * m' ∧ 1 ≤ m') left ⟨rfl, 0, rfl, by simp, hF.pos⟩ ?_)
    rintro m' ρ c ⟨rfl, e, rfl, he, hm'⟩
    have hml : m' ≤ left := by rw [he]; exact Nat.le_mul_of_pos_left _ (Nat.pow_pos (by omega))
    refine ⟨decide ((m' : Int) % (k : Int) = 0), none, ?_, fun h => ?_, fun h => ?_⟩
    · walk_at "ev"
    · have hd : k ∣ m' := by rw [decide_eq_true_iff] at h; rw [Nat.dvd_iff_mod_eq_zero]; omega
      obtain ⟨q, rfl⟩ := hd
      have hq0 : 1 ≤ q := Nat.pos_of_ne_zero fun z => by subst z; simp at hm'
      walk_at "par'"
      refine ⟨q, ?_, rfl, e + 1, ?_, ?_, hq0⟩
      · calc q = 1 * q := (Nat.one_mul q).symm
          _ < k * q := Nat.mul_lt_mul_of_pos_right (by omega) hq0
      · have : ((k * q : Nat) : Int) / (k : Int) = (q : Int) := by
          rw [Int.natCast_mul, Int.mul_ediv_cancel_left _ (by omega)]
        rw [this]
        rfl
      · rw [he, Nat.pow_succ]
        ac_rfl
    · have hd : ¬ k ∣ m' := by rw [decide_eq_false_iff_not] at h; rw [Nat.dvd_iff_mod_eq_zero]; omega
      refine ho_seq (ho_ifc (b := decide ((0 : Int) < e)) (by walk_at "ev") (fun h => ?_) (fun h => ?_))
      · have he1 : 1 ≤ e := by rw [decide_eq_true_iff] at h; omega
        have hF' := hF.take hk2 he1 he hd hm'
        refine ho_appendc (ev_tup2 (ev_var rfl) (ev_var rfl)) rfl ?_ ?_
        · rw [fl]; exact Nat.lt_trans (hF.len h200) (by decide)
        · refine ho_asgc (d := .int ((if k = 2 then k + 1 else k + 2 : Nat) : Int)) ?_ ?_
          · have hz : ((if k = 2 then k + 1 else k + 2 : Nat) : Int) = (k : Int) + (if k = 2 then 1 else 2 : Int) := by split <;> rfl
            rw [hz]
            refine ev_binc (ev_var rfl).b (ev_ifc (b := decide ((k : Int) = 2)) (by walk_at "ev") (fun h => ?_) (fun h => ?_)).b ro_add
            · rw [if_pos (by rw [decide_eq_true_iff] at h; omega)]; exact ev_int
            · rw [if_neg (by rw [decide_eq_false_iff_not] at h; omega)]; exact ev_int
          · have e0 : (facD l ++ [D.tup [.int (k : Int), .int (e : Int)]]) = facD (l ++ [(k, e)]) := by simp [facD]
            rw [e0]
            exact hnext _ _ _ rfl hF'
      · have he0 : e = 0 := by rw [decide_eq_false_iff_not] at h; omega
        subst he0
        rw [Nat.pow_zero, Nat.one_mul] at he
        subst he
        refine ho_next (ho_asgc (d := .int ((if k = 2 then k + 1 else k + 2 : Nat) : Int)) ?_ ?_)
        · have hz : ((if k = 2 then k + 1 else k + 2 : Nat) : Int) = (k : Int) + (if k = 2 then 1 else 2 : Int) := by split <;> rfl
          rw [hz]
          refine ev_binc (ev_var rfl).b (ev_ifc (b := decide ((k : Int) = 2)) (by walk_at "ev") (fun h => ?_) (fun h => ?_)).b ro_add
          · rw [if_pos (by rw [decide_eq_true_iff] at h; omega)]; exact ev_int
          · rw [if_neg (by rw [decide_eq_false_iff_not] at h; omega)]; exact ev_int
        · exact hnext _ _ _ rfl (hF.skip hd)
  · have hkk : left < k * k := by
      rw [decide_eq_false_iff_not] at h
      have : ¬ (k * k ≤ left) := fun z => h (by exact_mod_cast z)
      omega
    refine ho_seq (ho_ifc (b := decide ((1 : Int) < left)) (by walk_at "ev") (fun h => ?_) (fun h => ?_))
    · have h1l : 1 < left := by rw [decide_eq_true_iff] at h; omega
      have := (hF.end_left h1l hkk).uniq hL
      subst this
      refine ho_appendc (ev_tup2 (ev_var rfl) ev_int) rfl ?_ ?_
      · rw [fl]; exact Nat.lt_trans (hF.len h200) (by decide)
      · refine ho_ret (ev_cb (eb_cons (eb_own rfl) eb_nil) (co_tuple (.inl rfl))) ⟨?_, rfl⟩
        simp [facD]
    · have h1l : left = 1 := by rw [decide_eq_false_iff_not] at h; have := hF.pos; omega
      subst h1l
      have := hF.end_one.uniq hL
      subst this
      exact ho_next (ho_ret (ev_cb (eb_cons (eb_own rfl) eb_nil) (co_tuple (.inl rfl))) ⟨rfl, rfl⟩)

end
end Hd

namespace Hd
open PySem PySem.Spec PyProof.Rows L2
open PL
local macro_rules | `(tactic| walk_at "ro") => `(tactic| first
  | with_reducible exact ro_add | with_reducible exact ro_sub | with_reducible exact ro_lt | with_reducible exact ro_le | with_reducible exact ro_gt | with_reducible exact ro_ge | with_reducible exact ro_eqI | with_reducible exact ro_neI
  | with_reducible exact ro_isN | with_reducible exact ro_notN
  | with_reducible refine' ro_mul ?_ | with_reducible refine' ro_fdiv ?_ | with_reducible refine' ro_mod ?_
  | with_reducible refine' ro_eq ?_ ?_ | with_reducible refine' ro_ne ?_ ?_
  | with_reducible refine' ro_ixL ?_ | with_reducible refine' ro_ixT ?_ | with_reducible refine' ro_catT ?_ | with_reducible refine' RON.ro (ron_cat ?_))
local macro_rules | `(tactic| walk_at "ev1") => `(tactic| first
  | with_reducible exact ev_int | with_reducible exact ev_bl | with_reducible exact ev_non | with_reducible exact ev_str | exact ev_var rfl | exact eb_own rfl | exact (ev_var rfl).b
  | with_reducible exact ea_nil | with_reducible exact eb_nil | with_reducible exact ex_nil | with_reducible exact et_yes
  | with_reducible refine' ea_cons ?_ ?_ | with_reducible refine' eb_cons ?_ ?_
  | with_reducible refine' ev_bin ?_ ?_ ?_ | walk_at "ro"
  | with_reducible refine' ev_cb ?_ ?_
  | with_reducible refine' ev_tup ?_ (by first | decide | (simp; done) | (simp; decide))
  | with_reducible refine' et_test ?_ | with_reducible refine' et_B ?_ | with_reducible refine' et_not ?_
  | with_reducible refine' ev_neg ?_
  | with_reducible exact co_lenL | with_reducible exact co_lenT | with_reducible exact co_abs | with_reducible exact co_int | with_reducible exact co_max2 | with_reducible exact co_min2 | with_reducible exact co_sum
  | with_reducible refine' co_tuple (.inl rfl)
  | with_reducible exact ev_op
  | with_reducible refine' EvN.ev (en_lst ?_ (by first | decide | (simp; done) | (simp; decide)))
  | with_reducible refine' Ev.b ?_)
local macro_rules | `(tactic| walk_at "side") => `(tactic| first | (with_reducible refine cm_of ?_ ?_ ?_ ?_ <;> omega) | (with_reducible refine cdiv_of ?_ ?_ <;> omega) | omega | rfl | assumption)
local macro_rules | `(tactic| walk_at "ev") => `(tactic| (all_goals (repeat' walk_at "ev1")); all_goals (try walk_at "side"))
local macro_rules | `(tactic| walk_at "dsl") => `(tactic| (try dsimp only [List.set]))
local macro_rules | `(tactic| walk_at "asg") => `(tactic| (refine' ho_seq (ho_asg ?ha ?hn); walk_at "ev"; walk_at "dsl"))
local macro_rules | `(tactic| walk_at "asg'") => `(tactic| (refine' ho_asg ?ha ?hn; walk_at "ev"; walk_at "dsl"))
local macro_rules | `(tactic| walk_at "par") => `(tactic| (refine' ho_seq (hx_par (ex_dat ?ha (ex_dat ?hb ex_nil)) ?hn); walk_at "ev"; walk_at "dsl"))
local macro_rules | `(tactic| walk_at "par'") => `(tactic| (refine' hx_par (ex_dat ?ha (ex_dat ?hb ex_nil)) ?hn; walk_at "ev"; walk_at "dsl"))
local macro_rules | `(tactic| walk_at "ret") => `(tactic| (refine' ho_ret ?ha ?hn; walk_at "ev"; walk_at "dsl"))
local macro_rules | `(tactic| walk_at "if") => `(tactic| (refine' ho_if ?ha ?ht ?hf; walk_at "ev"))
local macro_rules | `(tactic| walk_at "len") => `(tactic| first | decide | (refine Nat.le_trans (m := 1000) ?_ (by decide); simp [nlD]; done))
local macro_rules | `(tactic| walk_at "fit") => `(tactic| repeat' first | exact fit_int | exact fit_bl | exact fit_non | exact fits_nil | exact fits_nl | refine fits_cons ?_ ?_ | (refine fit_lst (by walk_at "len") ?_) | (refine fit_tup (by walk_at "len") ?_))
local macro_rules | `(tactic| walk_at "lit") => `(tactic| repeat' first | exact ea_nil | refine' ea_cons ?_ ?_ | exact ev_int | exact ev_bl | exact ev_non | exact ev_str | exact ev_neg (ev_int).b | exact ev_var rfl | refine' ev_tup ?_ (by walk_at "len") | refine' EvN.ev (en_lst ?_ (by walk_at "len")))
section
variable {P : Program} {w : World} {K : PySem.W.Frag} {mg : Str → Option Value} {base : Heap}
def R_divisors_in (ds : List D) (d : D) : Prop := ∃ (n : Nat) (l : List (Nat × Nat)), NT.Fac l n ∧ n ≤ 10 ^ 10 ∧ ds = [.tup (facD l)] ∧ d = .lst (nlD (NT.divs n))
def R_is_prime (ds : List D) (d : D) : Prop := ∃ n : Nat, 1 ≤ n ∧ n ≤ 10 ^ 10 ∧ ds = [.int n] ∧ d = .bl (NT.prB n)
abbrev N_is_prime : List Str := ["number"]
theorem sc_is_prime : FnScope N_is_prime ["number"] (defScope s_is_prime) := ⟨rfl, rfl, rfl, by decide +kernel, rfl, by decide +kernel, by decide +kernel⟩
theorem cal_is_prime (T : Txt K mg) : Cal P w K mg base CX0 "is_prime" 5 ["number"] (SpR R_is_prime) := by
  refine calOf (d := d_is_prime) (N := N_is_prime) (ps := ["number"]) (k := 4) T 9 sc_is_prime (fun _ _ _ _ _ _ us hl => match us, hl with | [_], _ => rfl) (by rintro ds e ⟨_, _, _, rfl, _⟩; rfl) (fun cdv A outer s H E hr => ⟨_, PSs.nox (pss_cons (ps_expr (kcall (cal_need_number T) (hr.mono (by decide)) (pa_cons (pv 0) pa_nil)))
    (pss_one (ps_ret (kcall (cal_is_prime_in T) (hr.mono (by decide)) (pa_cons (pv 0) pa_nil))))), ?_⟩)
  rintro ds d ⟨n, h1, hn, rfl, rfl⟩
  show Ho _ [.dat (.int n)] none _
  refine ho_seq (ho_exprc (ev_call (ea_cons (ev_var rfl) ea_nil) ⟨_, rfl, by omega, by omega, rfl⟩) ?_)
  exact ho_retc (ev_call (ea_cons (ev_var rfl) ea_nil) ⟨n, Nat.le_trans hn (by decide), rfl, rfl⟩) ⟨rfl, rfl⟩
def R_factors_of (ds : List D) (d : D) : Prop := ∃ (n : Nat) (l : List (Nat × Nat)), 1 ≤ n ∧ n ≤ 10 ^ 10 ∧ NT.Fac l n ∧ ds = [.int n] ∧ d = .tup (facD l)
def R_divisors_of (ds : List D) (d : D) : Prop := ∃ n : Nat, 1 ≤ n ∧ n ≤ 10 ^ 10 ∧ ds = [.int n] ∧ d = .tup (nlD (NT.divs n))
def R_multiplied (ds : List D) (d : D) : Prop := ∃ a t : Nat, a ≤ 10 ^ 40 ∧ t ≤ 6 ∧ ds = [.int a, .int t] ∧ d = .int ((a ^ t : Nat) : Int)
abbrev N_multiplied : List Str := ["number", "times", "found", "turn"]
theorem sc_multiplied : FnScope N_multiplied ["number", "times"] (defScope s_multiplied) := ⟨rfl, rfl, rfl, by decide +kernel, rfl, by decide +kernel, by decide +kernel⟩
theorem cal_multiplied (T : Txt K mg) : Cal P w K mg base CX0 "multiplied" 1 ["number", "times"] (SpR R_multiplied) := by
  refine calOf (d := d_multiplied) (N := N_multiplied) (ps := ["number", "times"]) (k := 0) T 17 sc_multiplied (fun _ _ _ _ _ _ us hl => match us, hl with | [_, _], _ => rfl) (by rintro ds e ⟨_, _, _, _, rfl, _⟩; rfl) (fun cdv A outer s H E hr => ⟨_, PSs.nox (pss_cons (ps_set (i := 2) sc_multiplied.nd rfl (by first | exact Or.inl rfl | exact Or.inr rfl) pe_int)
    (pss_cons (ps_for PassesOwn.never rfl (pi_range1 rfl T.f_range (pa_cons (pv 1) pa_nil)) (pg_name (i := 3) sc_multiplied.nd rfl (by first | exact Or.inl rfl | exact Or.inr rfl)) (pss_one (ps_set (i := 2) sc_multiplied.nd rfl (by first | exact Or.inl rfl | exact Or.inr rfl) (pe_op (kmul K) (pv 2) (pv 0)))))
    (pss_one (ps_ret (pv 2))))), ?_⟩)
  rintro ds d ⟨a, t, ha, ht, rfl, rfl⟩
  show Ho _ [.dat (.int a), .dat (.int t), .dead, .dead] none _
  refine ho_seq (ho_asgc ev_int ?_)
  refine ho_seq (ho_forRc (lo := 0) (n := t) (fun k ρ => ∃ s3 : Sl, ρ = [.dat (.int a), .dat (.int t), .dat (.int ((a ^ k : Nat) : Int)), s3]) ?_ ⟨_, rfl⟩ ?_ ?_)
  · have : (t : Int).toNat = t := by omega
    rw [show rng 0 t = rng 0 (t : Int).toNat by rw [this]]
    exact ei_rng1 (ea_cons (ev_var rfl) ea_nil) (by omega) (by omega)
  · rintro k ρ hk ⟨s3, rfl⟩
    have h1 : a ^ k ≤ 10 ^ 240 := by
      have h1 : a ^ k ≤ (10 ^ 40) ^ k := Nat.pow_le_pow_left ha k
      have h2 : (10 ^ 40) ^ k ≤ (10 ^ 40) ^ 6 := Nat.pow_le_pow_right (by decide) (by omega)
      exact Nat.le_trans h1 (Nat.le_trans h2 (by decide))
    have h2 : ((a ^ k : Nat) : Int) ≤ 10 ^ 240 := by exact_mod_cast h1
    refine ⟨_, _, as_name, ho_asgc (d := .int ((a ^ k * a : Nat) : Int)) (ev_bin (ev_var rfl).b (ev_var rfl).b (ro_mul (cm_of (by omega) (by omega) (by omega) (by omega)))) ⟨rfl, .dat (.int (0 + (k : Nat))), rfl⟩⟩
  · rintro ρ ⟨s3, rfl⟩
    exact ho_retc (ev_var rfl) ⟨rfl, rfl⟩
def R_sum_of_powers (ds : List D) (d : D) : Prop := ∃ p e t : Nat, p ≤ 10 ^ 10 ∧ 1 ≤ p ∧ t ≤ 6 ∧ p ^ e ≤ 10 ^ 10 ∧ e < 200 ∧ ds = [.int p, .int e, .int t] ∧ d = .int ((NT.geo (p ^ t) (e + 1) : Nat) : Int)
abbrev N_sum_of_powers : List Str := ["prime", "power", "times", "found", "here", "step", "turn"]
theorem sc_sum_of_powers : FnScope N_sum_of_powers ["prime", "power", "times"] (defScope s_sum_of_powers) := ⟨rfl, rfl, rfl, by decide +kernel, rfl, by decide +kernel, by decide +kernel⟩
theorem cal_sum_of_powers (T : Txt K mg) : Cal P w K mg base CX0 "sum_of_powers" 2 ["prime", "power", "times"] (SpR R_sum_of_powers) := by
  refine calOf (d := d_sum_of_powers) (N := N_sum_of_powers) (ps := ["prime", "power", "times"]) (k := 1) T 16 sc_sum_of_powers (fun _ _ _ _ _ _ us hl => match us, hl with | [_, _, _], _ => rfl) (by rintro ds e ⟨_, _, _, _, _, _, _, _, rfl, _⟩; rfl) (fun cdv A outer s H E hr => ⟨_, PSs.nox (pss_cons (ps_par3 (i := 3) (j := 4) (l := 5) rfl sc_sum_of_powers.nd rfl rfl rfl (by decide) (by decide) (by decide) rfl rfl rfl (pa_cons pe_int (pa_cons pe_int (pa_cons (kcall (cal_multiplied T) (hr.mono (by decide)) (pa_cons (pv 0) (pa_cons (pv 2) pa_nil))) pa_nil))) rfl)
    (pss_cons (ps_for PassesOwn.never rfl (pi_range1 rfl T.f_range (pa_cons (pe_op (kadd K) (pv 1) pe_int) pa_nil)) (pg_name (i := 6) sc_sum_of_powers.nd rfl (by first | exact Or.inl rfl | exact Or.inr rfl)) (pss_one (ps_par (i := 3) (j := 4) rfl sc_sum_of_powers.nd rfl rfl (by decide) rfl rfl (pa_cons (pe_op (kadd K) (pv 3) (pv 4)) (pa_cons (pe_op (kmul K) (pv 4) (pv 5)) pa_nil)) rfl)))
    (pss_one (ps_ret (pv 3))))), ?_⟩)
  rintro ds d ⟨p, e, t, hp, hp1, ht, hpe, he, rfl, rfl⟩
  show Ho _ [.dat (.int p), .dat (.int e), .dat (.int t), .dead, .dead, .dead, .dead] none _
  refine ho_seq (hx_par3 (ex_dat ev_int (ex_dat ev_int (ex_dat (ev_call (ea_cons (ev_var rfl) (ea_cons (ev_var rfl) ea_nil)) ⟨p, t, Nat.le_trans hp (by decide), ht, rfl, rfl⟩) ex_nil))) ?_)
  have hstep : p ^ t ≤ 10 ^ 60 := by
    have h1 : p ^ t ≤ (10 ^ 10) ^ t := Nat.pow_le_pow_left hp t
    have h2 : (10 ^ 10) ^ t ≤ (10 ^ 10) ^ 6 := Nat.pow_le_pow_right (by decide) (by omega)
    exact Nat.le_trans h1 (Nat.le_trans h2 (by decide))
  have hstep' : ((p ^ t : Nat) : Int) ≤ 10 ^ 60 := by exact_mod_cast hstep
  refine ho_seq (ho_forRc (lo := 0) (n := e + 1) (fun k ρ => ∃ s6 : Sl, ρ = [.dat (.int p), .dat (.int e), .dat (.int t), .dat (.int ((NT.geo (p ^ t) k : Nat) : Int)), .dat (.int (((p ^ t) ^ k : Nat) : Int)), .dat (.int ((p ^ t : Nat) : Int)), s6]) ?_ ⟨_, rfl⟩ ?_ ?_)
  · have : ((e : Int) + 1).toNat = e + 1 := by omega
    rw [← this]
    exact ei_rng1 (ea_cons (by walk_at "ev") ea_nil) (by omega) (by omega)
  · rintro k ρ hk ⟨s6, rfl⟩
    have h1 : (p ^ t) ^ k ≤ 10 ^ 60 := by
      have h0 : (p ^ t) ^ k = (p ^ k) ^ t := by rw [← Nat.pow_mul, ← Nat.pow_mul, Nat.mul_comm]
      have h2 : p ^ k ≤ p ^ e := Nat.pow_le_pow_right hp1 (by omega)
      have h3 : (p ^ k) ^ t ≤ (10 ^ 10) ^ t := Nat.pow_le_pow_left (Nat.le_trans h2 hpe) t
      have h4 : (10 ^ 10) ^ t ≤ (10 ^ 10) ^ 6 := Nat.pow_le_pow_right (by decide) ht
      rw [h0]
      exact Nat.le_trans h3 (Nat.le_trans h4 (by decide))
    have h2 : (((p ^ t) ^ k : Nat) : Int) ≤ 10 ^ 60 := by exact_mod_cast h1
    refine ⟨_, _, as_name, hx_par (ex_dat (c1 := none) (ev_bin (ev_var rfl).b (ev_var rfl).b ro_add) (ex_dat (c1 := none) (ev_bin (ev_var rfl).b (ev_var rfl).b (ro_mul (cm_of (by omega) (by omega) (by omega) (by omega)))) ex_nil)) ⟨rfl, .dat (.int (0 + (k : Nat))), rfl⟩⟩
  · rintro ρ ⟨s6, rfl⟩
    exact ho_retc (ev_var rfl) ⟨rfl, rfl⟩
def R_summed (ds : List D) (d : D) : Prop := ∃ n t : Nat, 1 ≤ n ∧ n ≤ 10 ^ 10 ∧ t ≤ 6 ∧ ds = [.int n, .int t] ∧ d = .int ((NT.sig t n : Nat) : Int)
abbrev N_summed : List Str := ["number", "times", "found", "prime", "power"]
theorem sc_summed : FnScope N_summed ["number", "times"] (defScope s_summed) := ⟨rfl, rfl, rfl, by decide +kernel, rfl, by decide +kernel, by decide +kernel⟩
theorem cal_summed (T : Txt K mg) : Cal P w K mg base CX0 "summed" 3 ["number", "times"] (SpR R_summed) := by
  refine calOf (d := d_summed) (N := N_summed) (ps := ["number", "times"]) (k := 2) T 18 sc_summed (fun _ _ _ _ _ _ us hl => match us, hl with | [_, _], _ => rfl) (by rintro ds e ⟨_, _, _, _, _, rfl, _⟩; rfl) (fun cdv A outer s H E hr => ⟨_, PSs.nox (pss_cons (ps_set (i := 2) sc_summed.nd rfl (by first | exact Or.inl rfl | exact Or.inr rfl) pe_int)
    (pss_cons (ps_for PassesOwn.never rfl (kseq K (kcall (cal_factors_in T) (hr.mono (by decide)) (pa_cons (pv 0) pa_nil))) (kg_tup K (pgs_cons (pg_name (i := 3) sc_summed.nd rfl (by first | exact Or.inl rfl | exact Or.inr rfl)) (pgs_cons (pg_name (i := 4) sc_summed.nd rfl (by first | exact Or.inl rfl | exact Or.inr rfl)) pgs_nil))) (pss_one (ps_set (i := 2) sc_summed.nd rfl (by first | exact Or.inl rfl | exact Or.inr rfl) (pe_op (kmul K) (pv 2) (kcall (cal_sum_of_powers T) (hr.mono (by decide)) (pa_cons (pv 3) (pa_cons (pv 4) (pa_cons (pv 1) pa_nil))))))))
    (pss_one (ps_ret (pv 2))))), ?_⟩)
  rintro ds d ⟨n, t, hn1, hn, ht, rfl, rfl⟩
  show Ho _ [.dat (.int n), .dat (.int t), .dead, .dead, .dead] none _
  obtain ⟨L, hL⟩ := NT.fac_ex n hn1
  refine ho_seq (ho_asgc ev_int ?_)
  refine ho_seq (ho_forLc (L := L) (e := fun q : Nat × Nat => .tup [.int (q.1 : Int), .int (q.2 : Int)]) (fun l ρ => ∃ s3 s4 : Sl, ρ = [.dat (.int n), .dat (.int t), .dat (.int ((NT.sig t (NT.prodF l) : Nat) : Int)), s3, s4]) (ei_tup (ev_call (ea_cons (ev_var rfl) ea_nil) ⟨n, L, hn1, Nat.le_trans hn (by decide), hL, rfl, rfl⟩)) ⟨_, _, by rw [show NT.prodF [] = 1 from rfl, NT.sig_one]; rfl⟩ ?_ ?_)
  · rintro l ⟨p, e⟩ r ρ hl ⟨s3, s4, rfl⟩
    have hq := hL.cut hl
    have hpm := hq.2.1
    have hp := hq.1
    have hm0 := hq.2.2.1
    have hle := Nat.le_trans hq.2.2.2.1 hn
    have hpe : p ^ e ≤ 10 ^ 10 := Nat.le_trans (Nat.le_mul_of_pos_right _ hm0) hle
    have he1 : 1 ≤ e := hq.2.2.2.2.1
    have hp' : p ≤ 10 ^ 10 := by
      have h1 : p ^ 1 ≤ p ^ e := Nat.pow_le_pow_right hp.pos he1
      rw [Nat.pow_one] at h1
      exact Nat.le_trans h1 hpe
    have he : e < 200 := by
      have h1 : 2 ^ e ≤ p ^ e := Nat.pow_le_pow_left hp.1 e
      exact (Nat.pow_lt_pow_iff_right (a := 2) (by omega)).mp (Nat.lt_of_le_of_lt (Nat.le_trans h1 hpe) (by decide))
    have hb : ∀ m : Nat, 0 < m → m ≤ 10 ^ 10 → NT.sig t m ≤ 10 ^ 70 := fun m h0 h1 => by
      have h2 := NT.sig_le t m h0
      have h3 : m * m ^ t ≤ 10 ^ 10 * (10 ^ 10) ^ 6 := Nat.mul_le_mul h1 (Nat.le_trans (Nat.pow_le_pow_left h1 t) (Nat.pow_le_pow_right (by decide) ht))
      exact Nat.le_trans h2 (Nat.le_trans h3 (by decide))
    have h1 := hb _ hm0 (Nat.le_trans (Nat.le_mul_of_pos_left _ (Nat.pow_pos hp.pos)) hle)
    have h2 : NT.geo (p ^ t) (e + 1) ≤ 10 ^ 70 := by
      have h3 := NT.sig_mul (m := 1) (e := e) t hp (fun z => by have := Nat.le_of_dvd (by omega) z; have := hp.1; omega) (by omega)
      rw [Nat.mul_one, NT.sig_one, Nat.one_mul] at h3
      rw [← h3]
      exact hb _ (Nat.pow_pos hp.pos) hpe
    have h1' : ((NT.sig t (NT.prodF l) : Nat) : Int) ≤ 10 ^ 70 := by exact_mod_cast h1
    have h2' : ((NT.geo (p ^ t) (e + 1) : Nat) : Int) ≤ 10 ^ 70 := by exact_mod_cast h2
    refine ⟨_, _, as_tup rfl (as_cons as_name (as_cons as_name as_nil)), ho_asgc (d := .int ((NT.sig t (NT.prodF (l ++ [(p, e)])) : Nat) : Int)) ?_ ⟨rfl, .dat (.int p), .dat (.int e), rfl⟩⟩
    rw [hq.2.2.2.2.2, NT.sig_mul t hp hpm hm0, Int.natCast_mul]
    exact ev_bin (ev_var rfl).b (ev_callc (ea_cons (ev_var rfl) (ea_cons (ev_var rfl) (ea_cons (ev_var rfl) ea_nil))) ⟨p, e, t, hp', hp.pos, ht, hpe, he, rfl, rfl⟩).b (ro_mul (cm_of (by omega) (by omega) (by omega) (by omega)))
  · rintro ρ ⟨s3, s4, rfl⟩
    rw [hL.prod]
    exact ho_retc (ev_var rfl) ⟨rfl, rfl⟩

end
end Hd

namespace Hd
open PySem PySem.Spec PyProof.Rows L2
open PL
local macro_rules | `(tactic| walk_at "ro") => `(tactic| first
  | with_reducible exact ro_add | with_reducible exact ro_sub | with_reducible exact ro_lt | with_reducible exact ro_le | with_reducible exact ro_gt | with_reducible exact ro_ge | with_reducible exact ro_eqI | with_reducible exact ro_neI
  | with_reducible exact ro_isN | with_reducible exact ro_notN
  | with_reducible refine' ro_mul ?_ | with_reducible refine' ro_fdiv ?_ | with_reducible refine' ro_mod ?_
  | with_reducible refine' ro_eq ?_ ?_ | with_reducible refine' ro_ne ?_ ?_
  | with_reducible refine' ro_ixL ?_ | with_reducible refine' ro_ixT ?_ | with_reducible refine' ro_catT ?_ | with_reducible refine' RON.ro (ron_cat ?_))
local macro_rules | `(tactic| walk_at "ev1") => `(tactic| first
  | with_reducible exact ev_int | with_reducible exact ev_bl | with_reducible exact ev_non | with_reducible exact ev_str | exact ev_var rfl | exact eb_own rfl | exact (ev_var rfl).b
  | with_reducible exact ea_nil | with_reducible exact eb_nil | with_reducible exact ex_nil | with_reducible exact et_yes
  | with_reducible refine' ea_cons ?_ ?_ | with_reducible refine' eb_cons ?_ ?_
  | with_reducible refine' ev_bin ?_ ?_ ?_ | walk_at "ro"
  | with_reducible refine' ev_cb ?_ ?_
  | with_reducible refine' ev_tup ?_ (by first | decide | (simp; done) | (simp; decide))
  | with_reducible refine' et_test ?_ | with_reducible refine' et_B ?_ | with_reducible refine' et_not ?_
  | with_reducible refine' ev_neg ?_
  | with_reducible exact co_lenL | with_reducible exact co_lenT | with_reducible exact co_abs | with_reducible exact co_int | with_reducible exact co_max2 | with_reducible exact co_min2 | with_reducible exact co_sum
  | with_reducible refine' co_tuple (.inl rfl)
  | with_reducible exact ev_op
  | with_reducible refine' EvN.ev (en_lst ?_ (by first | decide | (simp; done) | (simp; decide)))
  | with_reducible refine' Ev.b ?_)
local macro_rules | `(tactic| walk_at "side") => `(tactic| first | (with_reducible refine cm_of ?_ ?_ ?_ ?_ <;> omega) | (with_reducible refine cdiv_of ?_ ?_ <;> omega) | omega | rfl | assumption)
local macro_rules | `(tactic| walk_at "ev") => `(tactic| (all_goals (repeat' walk_at "ev1")); all_goals (try walk_at "side"))
local macro_rules | `(tactic| walk_at "dsl") => `(tactic| (try dsimp only [List.set]))
local macro_rules | `(tactic| walk_at "asg") => `(tactic| (refine' ho_seq (ho_asg ?ha ?hn); walk_at "ev"; walk_at "dsl"))
local macro_rules | `(tactic| walk_at "asg'") => `(tactic| (refine' ho_asg ?ha ?hn; walk_at "ev"; walk_at "dsl"))
local macro_rules | `(tactic| walk_at "par") => `(tactic| (refine' ho_seq (hx_par (ex_dat ?ha (ex_dat ?hb ex_nil)) ?hn); walk_at "ev"; walk_at "dsl"))
local macro_rules | `(tactic| walk_at "par'") => `(tactic| (refine' hx_par (ex_dat ?ha (ex_dat ?hb ex_nil)) ?hn; walk_at "ev"; walk_at "dsl"))
local macro_rules | `(tactic| walk_at "ret") => `(tactic| (refine' ho_ret ?ha ?hn; walk_at "ev"; walk_at "dsl"))
local macro_rules | `(tactic| walk_at "if") => `(tactic| (refine' ho_if ?ha ?ht ?hf; walk_at "ev"))
local macro_rules | `(tactic| walk_at "len") => `(tactic| first | decide | (refine Nat.le_trans (m := 1000) ?_ (by decide); simp [nlD]; done))
local macro_rules | `(tactic| walk_at "fit") => `(tactic| repeat' first | exact fit_int | exact fit_bl | exact fit_non | exact fits_nil | exact fits_nl | refine fits_cons ?_ ?_ | (refine fit_lst (by walk_at "len") ?_) | (refine fit_tup (by walk_at "len") ?_))
local macro_rules | `(tactic| walk_at "lit") => `(tactic| repeat' first | exact ea_nil | refine' ea_cons ?_ ?_ | exact ev_int | exact ev_bl | exact ev_non | exact ev_str | exact ev_neg (ev_int).b | exact ev_var rfl | refine' ev_tup ?_ (by walk_at "len") | refine' EvN.ev (en_lst ?_ (by walk_at "len")))
section
variable {P : Program} {w : World} {K : PySem.W.Frag} {mg : Str → Option Value} {base : Heap}
def R_need_great (ds : List D) (d : D) : Prop := ∃ i : Int, ds = [.int i] ∧ 1 ≤ i ∧ i ≤ 10 ^ 40 ∧ d = .non
abbrev N_need_great : List Str := ["value"]
theorem sc_need_great : FnScope N_need_great ["value"] (defScope s_need_great) := ⟨rfl, rfl, rfl, by decide +kernel, rfl, by decide +kernel, by decide +kernel⟩
theorem cal_need_great (T : Txt K mg) : Cal P w K mg base CX0 "need_great" 4 ["value"] (SpR R_need_great) := by
  refine calOf (d := d_need_great) (N := N_need_great) (ps := ["value"]) (k := 3) T 5 sc_need_great (fun _ _ _ _ _ _ us hl => match us, hl with | [_], _ => rfl) (by rintro ds e ⟨_, rfl, _⟩; rfl) (fun cdv A outer s H E hr => ⟨_, PSs.nox (pss_one (ps_expr (kcall (cal_need_whole T) (hr.mono (by decide)) (pa_cons (pv 0) (pa_cons pe_int (pa_cons (kcon T.con_GREAT) pa_nil)))))), ?_⟩)
  rintro ds d ⟨i, rfl, h1, h2, rfl⟩
  show Ho _ [.dat (.int i)] none _
  exact ho_expr (ev_call (ea_cons (ev_var rfl) (ea_cons ev_int (ea_cons ev_int ea_nil))) ⟨_, _, _, rfl, h1, h2, rfl⟩) ⟨rfl, rfl⟩
def dTup (v : D) (lo hi : Int) : Bool :=
  match v with
  | .tup xs => decide (lo ≤ (xs.length : Int)) && decide ((xs.length : Int) ≤ hi)
  | _ => false
def R_is_tuple_of (ds : List D) (d : D) : Prop := ∃ x T lo hi, ds = [x, .int lo, .int hi] ∧ x.ty = some T ∧ d = .bl (dTup x lo hi)
abbrev N_is_tuple_of : List Str := ["value", "low", "high"]
theorem sc_is_tuple_of : FnScope N_is_tuple_of ["value", "low", "high"] (defScope s_is_tuple_of) := ⟨rfl, rfl, rfl, by decide +kernel, rfl, by decide +kernel, by decide +kernel⟩
theorem cal_is_tuple_of (T : Txt K mg) : Cal P w K mg base CX0 "is_tuple_of" 1 ["value", "low", "high"] (SpR R_is_tuple_of) := by
  refine calOf (d := d_is_tuple_of) (N := N_is_tuple_of) (ps := ["value", "low", "high"]) (k := 0) T 3 sc_is_tuple_of (fun _ _ _ _ _ _ us hl => match us, hl with | [_, _, _], _ => rfl) (by rintro ds e ⟨x, T, _, _, rfl, _⟩; rfl) (fun cdv A outer s H E hr => ⟨_, PSs.nox (pss_one (ps_ret (pe_and (pe_callB (kisi K) (by rfl) T.f_isinstance (by decide +kernel) (pa_cons (pv 0) (pa_cons (kty (T := "tuple") T.f_tuple (by decide +kernel)) pa_nil))) (pe_one (pe_chain op_le op_le (pv 1) (pe_callB (klen K) (by rfl) T.f_len (by decide +kernel) (pa_cons (pv 0) pa_nil)) (pv 2)))))), ?_⟩)
  rintro ds d ⟨x, T, lo, hi, rfl, ht, rfl⟩
  show Ho _ [.dat x, .dat (.int lo), .dat (.int hi)] none _
  by_cases hx : ∃ xs, x = .tup xs
  · obtain ⟨xs, rfl⟩ := hx
    cases ht
    refine ho_retc (ev_andV' (a := true) (ev_cbc (eb_cons (c1 := none) (ev_var rfl).b (eb_cons ev_op.b eb_nil)) (co_isi (U := "tuple") (T := "tuple") rfl (by decide))) (fun _ => ev_chain (a := decide (lo ≤ (xs.length : Int))) (b := decide (lo ≤ (xs.length : Int)) && decide ((xs.length : Int) ≤ hi)) (ev_var rfl).b (ev_cbc (eb_cons (c1 := none) (ev_var rfl).b eb_nil) co_lenT).b ro_le (fun _ => (ev_var rfl).b) (fun h => ?_) (fun h => ?_))) ⟨rfl, rfl⟩
    · rw [h, Bool.true_and]; exact ro_le
    · rw [h]; rfl
  · refine ho_retc (ev_andV (a := false) (b := false) (c1 := none) (ev_eq (ev_cbc (eb_cons (c1 := none) (ev_var rfl).b (eb_cons ev_op.b eb_nil)) (co_isi (U := "tuple") ht (by decide))) ?_) (fun h => by cases h) (fun _ => ⟨rfl, rfl⟩)) ⟨?_, rfl⟩
    · cases x <;> cases ht <;> first | rfl | exact absurd ⟨_, rfl⟩ hx
    · cases x <;> first | rfl | exact absurd ⟨_, rfl⟩ hx
theorem ll_bound {n : Int} (h0 : 0 < n) (hn : n ≤ 10 ^ 60) : ∀ k, -10 ^ 60 ≤ NT.llGo n k ∧ NT.llGo n k ≤ 10 ^ 60
  | 0 => by show -10 ^ 60 ≤ (4 : Int) ∧ (4 : Int) ≤ 10 ^ 60; decide
  | k + 1 => by
    have h1 := Int.emod_nonneg (NT.llGo n k * NT.llGo n k - 2) (b := n) (by omega)
    have h2 := Int.emod_lt_of_pos (NT.llGo n k * NT.llGo n k - 2) h0
    show -10 ^ 60 ≤ (NT.llGo n k * NT.llGo n k - 2) % n ∧ (NT.llGo n k * NT.llGo n k - 2) % n ≤ 10 ^ 60
    omega
def R_is_lone (ds : List D) (d : D) : Prop := ∃ t : Nat, 2 ≤ t ∧ t ≤ 70 ∧ ds = [.int t] ∧ d = .bl (NT.loneB t)
abbrev N_is_lone : List Str := ["times", "part", "number", "here", "turn"]
theorem sc_is_lone : FnScope N_is_lone ["times"] (defScope s_is_lone) := ⟨rfl, rfl, rfl, by decide +kernel, rfl, by decide +kernel, by decide +kernel⟩
theorem cal_is_lone (T : Txt K mg) : Cal P w K mg base CX0 "is_lone" 1 ["times"] (SpR R_is_lone) := by
  refine calOf (d := d_is_lone) (N := N_is_lone) (ps := ["times"]) (k := 0) T 10 sc_is_lone (fun _ _ _ _ _ _ us hl => match us, hl with | [_], _ => rfl) (by rintro ds e ⟨_, _, _, rfl, _⟩; rfl) (fun cdv A outer s H E hr => ⟨_, PSs.nox (pss_cons (ps_if (pt_cmpR (keq K hr.units) (pv 0) pe_int (nomark _)) (pss_one (ps_ret pe_bl)) pss_nil)
    (pss_cons (ps_if (PW.pt (pw_or (pt_cmpR op_lt (pv 0) pe_int (nomark _)) (pw_or1 (pt_val (pe_callB (kany K) (by rfl) T.f_any (by decide +kernel) (pa_cons (pe_lc (own := [("part", 1)]) (g := (gName 1)) rfl sc_is_lone.nd (pi_range2 rfl T.f_range (pa_cons pe_int (pa_cons (pv 0) pa_nil))) (blkOk_by (own := [("part", 1)]) (N := N_is_lone) (sc := defScope s_is_lone) (by decide +kernel)) (fun _ _ _ _ _ => (pg_name (i := 1) sc_is_lone.nd rfl (by first | exact Or.inl rfl | exact Or.inr rfl))) (fun _ _ _ _ _ => pts_nil) (fun _ _ _ _ _ => (pe_cmpR (keq K hr.units) (pe_op op_mod (pv 0) (pv 1)) pe_int (nomark _)))) pa_nil)))))) (pss_one (ps_ret pe_bl)) pss_nil)
    (pss_cons (ps_par (i := 2) (j := 3) rfl sc_is_lone.nd rfl rfl (by decide) rfl rfl (pa_cons (pe_op op_sub (pe_op op_shl pe_int (pv 0)) pe_int) (pa_cons pe_int pa_nil)) rfl)
    (pss_cons (ps_for PassesOwn.never rfl (pi_range1 rfl T.f_range (pa_cons (pe_op op_sub (pv 0) pe_int) pa_nil)) (pg_name (i := 4) sc_is_lone.nd rfl (by first | exact Or.inl rfl | exact Or.inr rfl)) (pss_one (ps_set (i := 3) sc_is_lone.nd rfl (by first | exact Or.inl rfl | exact Or.inr rfl) (pe_op op_mod (pe_op op_sub (pe_op (kmul K) (pv 3) (pv 3)) pe_int) (pv 2)))))
    (pss_one (ps_ret (pe_cmpR (keq K hr.units) (pv 3) pe_int (nomark _)))))))), ?_⟩)
  rintro ds d ⟨t, h2, ht, rfl, rfl⟩
  show Ho _ [.dat (.int t), .dead, .dead, .dead, .dead] none _
  refine ho_seq (ho_ifc (b := decide ((t : Int) = 2)) (et_test (ev_binc (ev_var rfl).b ev_int.b ro_eqI)) (fun h => ?_) (fun h => ?_))
  · rw [decide_eq_true_iff] at h
    have : t = 2 := by omega
    subst this
    exact ho_retc ev_bl ⟨rfl, rfl⟩
  rw [decide_eq_false_iff_not] at h
  have h3 : 3 ≤ t := by omega
  have hany : ((List.range (t - 2)).map fun k => decide (((t : Int)) % (2 + (k : Nat)) = 0)).any id = !((List.range (t - 2)).all fun k => t % (2 + k) != 0) := by
    rw [List.any_map]
    induction List.range (t - 2) with
    | nil => rfl
    | cons a l ih =>
      rw [List.any_cons, List.all_cons, ih, Bool.not_and]
      congr 1
      show decide (((t : Int)) % (2 + (a : Nat)) = 0) = !(t % (2 + a) != 0)
      have e : (t : Int) % (2 + (a : Nat)) = ((t % (2 + a) : Nat) : Int) := rfl
      rw [e]
      generalize t % (2 + a) = z
      by_cases hz : z = 0
      · subst hz; rfl
      · rw [decide_eq_false (by omega), show (z != 0) = true by simpa using hz]; rfl
  refine ho_next (ho_seq (ho_ifc (b := !((List.range (t - 2)).all fun k => t % (2 + k) != 0)) (et_eq (et_or' (b := ((List.range (t - 2)).map fun k => decide (((t : Int)) % (2 + (k : Nat)) = 0)).any id) (et_test (ev_binc (ev_var rfl).b ev_int.b ro_lt)) (fun _ => et_test (ev_cbc (eb_cons (c1 := none) (EvN.ev (en_lc1 (L := List.range (t - 2)) (fun k : Nat => .int (2 + (k : Nat))) (fun _ => true) (fun k => .bl (decide (((t : Int)) % (2 + (k : Nat)) = 0))) ?hi (fun s hs => by cases hs; rfl) (by rw [List.length_range]; exact Nat.le_trans (show t - 2 ≤ 70 by omega) (by decide)) (fun k hk => ⟨et_yes, fun _ => ev_binc (ev_binc (ev_var rfl).b (ev_var rfl).b (ro_mod (by omega))).b ev_int.b ro_eqI⟩))).b eb_nil) ?hany))) ?_) (fun h => ?_) (fun h => ?_)))
  case hi =>
    have := ei_rng2 (ρ := [.dat (.int (t : Int)), .dead, .dead, .dead, .dead]) (c := none) (c1 := none) (i := 2) (j := (t : Int)) (ea_cons ev_int (ea_cons (ev_var (i := 0) rfl) ea_nil)) (by decide) (by decide) (by omega) (by omega)
    have e : ((t : Int) - 2).toNat = t - 2 := by omega
    rw [e] at this
    exact this
  case hany =>
    have := co_any (K := K) (ρ := [.dat (.int (t : Int)), .dead, .dead, .dead, .dead]) (c := none) (l := (List.range (t - 2)).map fun k : Nat => decide (((t : Int)) % (2 + (k : Nat)) = 0))
    rw [filter_yes]
    rw [List.map_map] at this
    exact this
  · rw [hany, decide_eq_false (by omega), Bool.false_or]
  · have hf : NT.loneB t = false := by
      unfold NT.loneB
      rw [Bool.not_eq_true'] at h
      rw [h, show (t == 2) = false by simp; omega]
      simp
    rw [hf]
    exact ho_retc ev_bl ⟨rfl, rfl⟩
  · have hb : ((2 : Int) ^ t) ≤ 10 ^ 50 := by
      have : 2 ^ t ≤ 2 ^ 70 := Nat.pow_le_pow_right (by decide) ht
      exact_mod_cast Nat.le_trans this (by decide)
    have hb0 : (4 : Int) ≤ 2 ^ t := by
      have : 2 ^ 2 ≤ 2 ^ t := Nat.pow_le_pow_right (by decide) h2
      exact_mod_cast this
    refine ho_next (ho_seq (hx_par (ex_dat (d := .int ((1 : Int) * 2 ^ t - 1)) (c1 := none) (ev_eq (ev_binc (ev_binc ev_int.b (ev_var rfl).b (ro_shl (by omega) (by omega) (by decide))).b ev_int.b ro_sub) (by rw [Int.toNat_natCast])) (ex_dat ev_int ex_nil)) ?_))
    refine ho_seq (ho_forRc (lo := 0) (n := t - 2) (fun k ρ => ∃ s4 : Sl, ρ = [.dat (.int t), .dead, .dat (.int ((1 : Int) * 2 ^ t - 1)), .dat (.int (NT.llGo ((1 : Int) * 2 ^ t - 1) k)), s4]) ?_ ⟨_, rfl⟩ ?_ ?_)
    · have e : ((t : Int) - 2).toNat = t - 2 := by omega
      rw [← e]
      exact ei_rng1 (ea_cons (ev_binc (ev_var rfl).b ev_int.b ro_sub) ea_nil) (by omega) (by omega)
    · rintro k ρ hk ⟨s4, rfl⟩
      have hl := ll_bound (n := (1 : Int) * 2 ^ t - 1) (by omega) (by omega) k
      exact ⟨_, _, as_name, ho_asgc (ev_binc (ev_binc (ev_binc (ev_var rfl).b (ev_var rfl).b (ro_mul (cm_of (by omega) (by omega) (by omega) (by omega)))).b ev_int.b ro_sub).b (ev_var rfl).b (ro_mod (by omega))) ⟨rfl, .dat (.int (0 + (k : Nat))), rfl⟩⟩
    · rintro ρ ⟨s4, rfl⟩
      refine ho_retc (ev_eq (ev_binc (ev_var rfl).b ev_int.b ro_eqI) ?_) ⟨rfl, rfl⟩
      unfold NT.loneB
      rw [Bool.not_eq_false'] at h
      rw [h, decide_eq_true h3, show (t == 2) = false by simp; omega]
      simp
def optD : Option (Nat × Nat) → D
  | some p => .tup [.int (p.1 : Int), .int (p.2 : Int)]
  | none => .non
def R_paper_of (ds : List D) (d : D) : Prop := ∃ n : Nat, 1 ≤ n ∧ n ≤ 10 ^ 40 ∧ ds = [.int n] ∧ d = optD (NT.paperT n)
abbrev N_paper_of : List Str := ["great", "times", "odd"]
theorem sc_paper_of : FnScope N_paper_of ["great"] (defScope s_paper_of) := ⟨rfl, rfl, rfl, by decide +kernel, rfl, by decide +kernel, by decide +kernel⟩
theorem cal_paper_of (T : Txt K mg) : Cal P w K mg base CX0 "paper_of" 2 ["great"] (SpR R_paper_of) := by
  refine calOf (d := d_paper_of) (N := N_paper_of) (ps := ["great"]) (k := 1) T 11 sc_paper_of (fun _ _ _ _ _ _ us hl => match us, hl with | [_], _ => rfl) (by rintro ds e ⟨_, _, _, rfl, _⟩; rfl) (fun cdv A outer s H E hr => ⟨_, PSs.nox (pss_cons (ps_par (i := 1) (j := 2) rfl sc_paper_of.nd rfl rfl (by decide) rfl rfl (pa_cons pe_int (pa_cons (pv 0) pa_nil)) rfl)
    (pss_cons (ps_while PassesOwn.never (pt_cmpR (keq K hr.units) (pe_op op_mod (pv 2) pe_int) pe_int (nomark _)) (pss_one (ps_par (i := 1) (j := 2) rfl sc_paper_of.nd rfl rfl (by decide) rfl rfl (pa_cons (pe_op (kadd K) (pv 1) pe_int) (pa_cons (pe_op op_fdivW (pv 2) pe_int) pa_nil)) rfl)))
    (pss_cons (ps_if (PW.pt (pw_or (pt_cmpR (keq K hr.units) (pv 1) pe_int (nomark _)) (pw_or (pt_cmpR (kne K hr.units) (pv 2) (pe_op op_sub (pe_op op_shl pe_int (pe_op (kadd K) (pv 1) pe_int)) pe_int) (nomark _)) (pw_or1 (pt_not (pt_val (kcall (cal_is_lone T) (hr.mono (by decide)) (pa_cons (pe_op (kadd K) (pv 1) pe_int) pa_nil)))))))) (pss_one (ps_ret pe_non)) pss_nil)
    (pss_one (ps_ret (pe_tup (pa_cons (pv 1) (pa_cons (pv 2) pa_nil)))))))), ?_⟩)
  rintro ds d ⟨n, h1, hn, rfl, rfl⟩
  show Ho _ [.dat (.int n), .dead, .dead] none _
  refine ho_seq (hx_par (ex_dat ev_int (ex_dat (ev_var rfl) ex_nil)) ?_)
  refine ho_seq (ho_whilec (fun m ρ => ∃ t : Nat, ρ = [.dat (.int n), .dat (.int t), .dat (.int m)] ∧ n = 2 ^ t * m ∧ 1 ≤ m) n ⟨0, rfl, by simp, h1⟩ ?_)
  rintro m ρ ⟨t, rfl, hnm, hm⟩
  refine ⟨decide ((m : Int) % 2 = 0), ?_, fun h => ?_, fun h => ?_⟩
  · exact et_test (ev_binc (ev_binc (ev_var rfl).b ev_int.b (ro_mod (by decide))).b ev_int.b ro_eqI)
  · rw [decide_eq_true_iff] at h
    refine hx_par (ex_dat (d := .int ((t + 1 : Nat) : Int)) (c1 := none) (ev_binc (ev_var rfl).b ev_int.b ro_add) (ex_dat (d := .int ((m / 2 : Nat) : Int)) (c1 := none) (ev_binc (ev_var rfl).b ev_int.b (ro_fdiv (cdiv_of (by decide) (by decide)))) ex_nil)) ⟨rfl, m / 2, by omega, t + 1, rfl, ?_, by omega⟩
    rw [hnm, Nat.pow_succ, Nat.mul_assoc]
    congr 1
    omega
  · rw [decide_eq_false_iff_not] at h
    have hm1 : m % 2 = 1 := by omega
    have hp := NT.paperT_of (t := t) hm1 (by rw [← hnm]; exact hn)
    rw [← hnm] at hp
    rw [hp]
    have ht140 : t ≤ 140 := by
      apply Nat.le_of_not_lt
      intro hc
      have a1 : 2 ^ 141 ≤ 2 ^ t := Nat.pow_le_pow_right (by decide) hc
      have a2 : 2 ^ t ≤ n := by rw [hnm]; exact Nat.le_mul_of_pos_right _ hm
      have a3 : (10 ^ 40 : Nat) < 2 ^ 141 := by decide
      omega
    have hsh : ∀ {c : Cup}, Ev (tOp (rI0 fun i j => .int (i - j)) (tOp (rI CPow fun i j => .int (i * 2 ^ j.toNat)) (tC (.int 1)) (tOp (rAdd K) (tVar 1) (tC (.int 1)))) (tC (.int 1))) [.dat (.int n), .dat (.int t), .dat (.int m)] c (.int ((2 ^ (t + 1) - 1 : Nat) : Int)) c := by
      intro c
      refine ev_eq (ev_binc (ev_binc ev_int.b (ev_binc (ev_var rfl).b ev_int.b ro_add).b (ro_shl (by omega) (by omega) (by decide))).b ev_int.b ro_sub) ?_
      have e1 : ((t : Int) + 1).toNat = t + 1 := by omega
      have e2 : 1 ≤ 2 ^ (t + 1) := Nat.pow_pos (by decide)
      rw [e1, Int.one_mul, Int.natCast_sub e2]
      rw [Int.natCast_pow]
      rfl
    by_cases q1 : 1 ≤ t
    · by_cases q2 : m = 2 ^ (t + 1) - 1
      · have hlt : t + 1 ≤ 67 := by
          have := NT.pn_big (p := t + 1) (by omega) (by unfold NT.pn; rw [Nat.add_sub_cancel, ← q2, ← hnm]; exact hn)
          exact this
        refine ho_seq (ho_ifc (b := !NT.loneB (t + 1)) (et_eq (et_or' (et_test (ev_binc (ev_var rfl).b ev_int.b ro_eqI)) (fun _ => et_or' (et_test (ev_binc (ev_var rfl).b hsh.b ro_neI)) (fun _ => et_not (et_test (ev_callc (ea_cons (ev_binc (ev_var rfl).b ev_int.b ro_add) ea_nil) ⟨t + 1, by omega, by omega, rfl, rfl⟩))))) ?_) (fun h => ?_) (fun h => ?_))
        · rw [decide_eq_false (show ¬ ((t : Int) = 0) by omega), q2, decide_eq_true rfl]
          rfl
        · rw [if_neg (by rintro ⟨_, _, z⟩; rw [z] at h; cases h)]
          exact ho_retc ev_non ⟨rfl, rfl⟩
        · rw [if_pos ⟨q1, q2, by simpa using h⟩]
          exact ho_next (ho_retc (ev_tup2 (ev_var rfl) (ev_var rfl)) ⟨rfl, rfl⟩)
      · rw [if_neg (fun z => q2 z.2.1)]
        refine ho_seq (ho_ifc (b := true) (et_or (a := false) (c1 := none) (et_eq (et_test (ev_binc (ev_var rfl).b ev_int.b ro_eqI)) (by rw [decide_eq_false]; omega)) (fun _ => et_or (a := true) (c1 := none) (et_eq (et_test (ev_binc (ev_var rfl).b hsh.b ro_neI)) ?_) (fun h => by cases h) (fun _ => ⟨rfl, rfl⟩)) (fun h => by cases h)) (fun _ => ho_retc ev_non ⟨rfl, rfl⟩) (fun h => by cases h))
        rw [decide_eq_false (by omega)]
        rfl
    · rw [if_neg (fun z => q1 z.1)]
      refine ho_seq (ho_ifc (b := true) (et_or (a := true) (c1 := none) (et_eq (et_test (ev_binc (ev_var rfl).b ev_int.b ro_eqI)) (by rw [decide_eq_true]; omega)) (fun h => by cases h) (fun _ => ⟨rfl, rfl⟩)) (fun _ => ho_retc ev_non ⟨rfl, rfl⟩) (fun h => by cases h))

end
end Hd

namespace Hd
open PySem PySem.Spec PyProof.Rows L2
open PL
local macro_rules | `(tactic| walk_at "ro") => `(tactic| first
  | with_reducible exact ro_add | with_reducible exact ro_sub | with_reducible exact ro_lt | with_reducible exact ro_le | with_reducible exact ro_gt | with_reducible exact ro_ge | with_reducible exact ro_eqI | with_reducible exact ro_neI
  | with_reducible exact ro_isN | with_reducible exact ro_notN
  | with_reducible refine' ro_mul ?_ | with_reducible refine' ro_fdiv ?_ | with_reducible refine' ro_mod ?_
  | with_reducible refine' ro_eq ?_ ?_ | with_reducible refine' ro_ne ?_ ?_
  | with_reducible refine' ro_ixL ?_ | with_reducible refine' ro_ixT ?_ | with_reducible refine' ro_catT ?_ | with_reducible refine' RON.ro (ron_cat ?_))
local macro_rules | `(tactic| walk_at "ev1") => `(tactic| first
  | with_reducible exact ev_int | with_reducible exact ev_bl | with_reducible exact ev_non | with_reducible exact ev_str | exact ev_var rfl | exact eb_own rfl | exact (ev_var rfl).b
  | with_reducible exact ea_nil | with_reducible exact eb_nil | with_reducible exact ex_nil | with_reducible exact et_yes
  | with_reducible refine' ea_cons ?_ ?_ | with_reducible refine' eb_cons ?_ ?_
  | with_reducible refine' ev_bin ?_ ?_ ?_ | walk_at "ro"
  | with_reducible refine' ev_cb ?_ ?_
  | with_reducible refine' ev_tup ?_ (by first | decide | (simp; done) | (simp; decide))
  | with_reducible refine' et_test ?_ | with_reducible refine' et_B ?_ | with_reducible refine' et_not ?_
  | with_reducible refine' ev_neg ?_
  | with_reducible exact co_lenL | with_reducible exact co_lenT | with_reducible exact co_abs | with_reducible exact co_int | with_reducible exact co_max2 | with_reducible exact co_min2 | with_reducible exact co_sum
  | with_reducible refine' co_tuple (.inl rfl)
  | with_reducible exact ev_op
  | with_reducible refine' EvN.ev (en_lst ?_ (by first | decide | (simp; done) | (simp; decide)))
  | with_reducible refine' Ev.b ?_)
local macro_rules | `(tactic| walk_at "side") => `(tactic| first | (with_reducible refine cm_of ?_ ?_ ?_ ?_ <;> omega) | (with_reducible refine cdiv_of ?_ ?_ <;> omega) | omega | rfl | assumption)
local macro_rules | `(tactic| walk_at "ev") => `(tactic| (all_goals (repeat' walk_at "ev1")); all_goals (try walk_at "side"))
local macro_rules | `(tactic| walk_at "dsl") => `(tactic| (try dsimp only [List.set]))
local macro_rules | `(tactic| walk_at "asg") => `(tactic| (refine' ho_seq (ho_asg ?ha ?hn); walk_at "ev"; walk_at "dsl"))
local macro_rules | `(tactic| walk_at "asg'") => `(tactic| (refine' ho_asg ?ha ?hn; walk_at "ev"; walk_at "dsl"))
local macro_rules | `(tactic| walk_at "par") => `(tactic| (refine' ho_seq (hx_par (ex_dat ?ha (ex_dat ?hb ex_nil)) ?hn); walk_at "ev"; walk_at "dsl"))
local macro_rules | `(tactic| walk_at "par'") => `(tactic| (refine' hx_par (ex_dat ?ha (ex_dat ?hb ex_nil)) ?hn; walk_at "ev"; walk_at "dsl"))
local macro_rules | `(tactic| walk_at "ret") => `(tactic| (refine' ho_ret ?ha ?hn; walk_at "ev"; walk_at "dsl"))
local macro_rules | `(tactic| walk_at "if") => `(tactic| (refine' ho_if ?ha ?ht ?hf; walk_at "ev"))
local macro_rules | `(tactic| walk_at "len") => `(tactic| first | decide | (refine Nat.le_trans (m := 1000) ?_ (by decide); simp [nlD]; done))
local macro_rules | `(tactic| walk_at "fit") => `(tactic| repeat' first | exact fit_int | exact fit_bl | exact fit_non | exact fits_nil | exact fits_nl | refine fits_cons ?_ ?_ | (refine fit_lst (by walk_at "len") ?_) | (refine fit_tup (by walk_at "len") ?_))
local macro_rules | `(tactic| walk_at "lit") => `(tactic| repeat' first | exact ea_nil | refine' ea_cons ?_ ?_ | exact ev_int | exact ev_bl | exact ev_non | exact ev_str | exact ev_neg (ev_int).b | exact ev_var rfl | refine' ev_tup ?_ (by walk_at "len") | refine' EvN.ev (en_lst ?_ (by walk_at "len")))
section
variable {P : Program} {w : World} {K : PySem.W.Frag} {mg : Str → Option Value} {base : Heap}
theorem atI_nat {α : Type} {xs : List α} {i : Nat} {d : α} (h : xs[i]? = some d) : atI xs (i : Int) = some d := by
  have hi : i < xs.length := (List.getElem?_eq_some_iff.mp h).1
  unfold atI ixN
  rw [if_pos (by omega), if_pos (by omega)]
  show xs[((i : Nat) : Int).toNat]? = some d
  rw [Int.toNat_natCast]
  exact h
def cellOf (ns : List Int) : Int := ((ns ++ [0]).headD 0).natAbs
def cupOf (ns : List Int) : Int × Int := (if (10 : Int) ^ 18 ≤ cellOf ns then cellOf ns / 73 else 0, (cellOf ns * 283 + 3907) % 2077503167 + 167)
def CupOk (x : Int × Int) : Prop := 0 ≤ x.1 ∧ 0 ≤ x.2 ∧ x.2 < 2 ^ 40
theorem cupOf_ok (ns : List Int) : CupOk (cupOf ns) := by
  have h0 : 0 ≤ cellOf ns := by unfold cellOf; omega
  have h1 : 0 ≤ (cellOf ns * 283 + 3907) % 2077503167 := Int.emod_nonneg _ (by decide)
  have h2 : (cellOf ns * 283 + 3907) % 2077503167 < 2077503167 := Int.emod_lt_of_pos _ (by decide)
  refine ⟨?_, ?_, ?_⟩
  · show 0 ≤ (if (10 : Int) ^ 18 ≤ cellOf ns then cellOf ns / 73 else 0)
    split <;> omega
  · show 0 ≤ (cellOf ns * 283 + 3907) % 2077503167 + 167; omega
  · show (cellOf ns * 283 + 3907) % 2077503167 + 167 < _; omega
def R__law_cup (K : PySem.W.Frag) (ds : List D) (xs : List D) : Prop := ∃ (ns : List Int), ns.length ≤ 1000 ∧ ds = [.scr K ns] ∧ xs = [.int (cupOf ns).1, .int (cupOf ns).2]
abbrev N__law_cup : List Str := ["script", "cell"]
theorem sc__law_cup : FnScope N__law_cup ["script"] (defScope s__law_cup) := ⟨rfl, rfl, rfl, by decide +kernel, rfl, by decide +kernel, by decide +kernel⟩
theorem cal__law_cup (T : Txt K mg) : Cal P w K mg base CX0 "_law_cup" 1 ["script"] (SpN (R__law_cup K)) := by
  refine calN (d := d__law_cup) (N := N__law_cup) (ps := ["script"]) (k := 0) T 21 sc__law_cup (fun _ _ _ _ _ _ us hl => match us, hl with | [_], _ => rfl) (by rintro ds e ⟨_, _, rfl, _⟩; rfl) (fun cdv A outer s H E hr => ⟨_, PSs.nox (pss_cons (ps_set (i := 1) sc__law_cup.nd rfl (by first | exact Or.inl rfl | exact Or.inr rfl) (pe_callB call_absP (by rfl) T.f_abs (by decide +kernel) (pa_cons (pe_ix (kix K) (pe_op (kadd K) (pe_callTy (klist K) (by rfl) T.f_list (by decide +kernel) (pa_cons (pv 0) pa_nil)) (pe_lst (pa_cons pe_int pa_nil))) pe_int (fun _ _ => rfl)) pa_nil)))
    (pss_one (ps_ret (pe_lst (pa_cons (pe_ifExp (pt_cmpR op_ge (pv 1) (pe_op op_pow pe_int pe_int) (nomark _)) (pe_op op_fdivW (pv 1) pe_int) pe_int) (pa_cons (pe_op (kadd K) (pe_op op_mod (pe_callTy call_intP (by rfl) T.f_int (by decide +kernel) (pa_cons (pe_op (kadd K) (pe_op (kmul K) (pv 1) pe_int) pe_int) pa_nil)) pe_int) pe_int) pa_nil)))))), ?_⟩)
  rintro ds xs ⟨ns, hl, rfl, rfl⟩
  show HoN _ [.dat (.scr K ns), .dead] none _
  refine hn_seq (ho_asgc (d := .int (cellOf ns)) ?_ ?_)
  · have hi : atI (ns.map D.int ++ [.int 0]) 0 = some (.int ((ns ++ [0]).headD 0)) := by
      exact atI_nat (i := 0) (by cases ns <;> rfl)
    have he : cellOf ns = if (ns ++ [0]).headD 0 < 0 then -((ns ++ [0]).headD 0) else (ns ++ [0]).headD 0 := by
      unfold cellOf; split <;> omega
    rw [he]
    exact ev_cbc (eb_cons (c1 := none) (ev_binc (EvN.ev (en_bin (c1 := none) (c2 := none) (EvN.ev (en_cb (eb_cons (ev_var rfl).b eb_nil) con_listS)).b (EvN.ev (en_lst (ea_cons ev_int ea_nil) (by walk_at "len"))).b (ron_cat (by rw [List.length_map]; exact Nat.le_trans (Nat.add_le_add hl (Nat.le_refl _)) (by decide))))).b ev_int.b (ro_ixL hi)).b eb_nil) co_abs
  · refine hn_ret (en_lst (ea_cons (c1 := none) (ev_ifc (b := decide ((10 : Int) ^ 18 ≤ cellOf ns)) ?_ (fun h => ?_) (fun h => ?_)) (ea_cons (c1 := none) ?_ ea_nil)) (by walk_at "len")) ⟨rfl, rfl⟩
    · exact et_test (ev_binc (ev_var rfl).b (ev_binc ev_int.b ev_int.b (ro_pow (by decide) (by decide) (by decide))).b ro_ge)
    · rw [decide_eq_true_iff] at h
      show Ev _ _ _ (.int (if (10 : Int) ^ 18 ≤ cellOf ns then cellOf ns / 73 else 0)) _
      rw [if_pos h]
      exact ev_binc (ev_var rfl).b ev_int.b (ro_fdiv (cdiv_of (by decide) (by decide)))
    · rw [decide_eq_false_iff_not] at h
      show Ev _ _ _ (.int (if (10 : Int) ^ 18 ≤ cellOf ns then cellOf ns / 73 else 0)) _
      rw [if_neg h]
      exact ev_int
    · exact ev_binc (ev_binc (ev_cbc (eb_cons (c1 := none) (ev_binc (ev_binc (ev_var rfl).b ev_int.b (ro_mul (Or.inr (Or.inr ⟨by decide, by decide⟩)))).b ev_int.b ro_add).b eb_nil) co_int).b ev_int.b (ro_mod (by decide))).b ev_int.b ro_add
def zRoll (x : Int × Int) : Int := (x.2 * 31051 + 7993) % 2147483543
def rollV (x : Int × Int) (m : Nat) : Nat := if 0 < x.1 then (x.1 % m).toNat else ((zRoll x * (zRoll x + 229)) % 2147483587 / 821 % m).toNat
def rollC (x : Int × Int) (m : Nat) : Int × Int := if 0 < x.1 then (x.1 / m, x.2) else (x.1, zRoll x)
theorem rollV_lt (x : Int × Int) {m : Nat} (h : 0 < m) : rollV x m < m := by
  unfold rollV
  have h1 : ∀ a : Int, (a % (m : Int)).toNat < m := fun a => by
    have := Int.emod_nonneg a (b := (m : Int)) (by omega)
    have := Int.emod_lt_of_pos a (b := (m : Int)) (by omega)
    omega
  split <;> exact h1 _
theorem zRoll_ok (x : Int × Int) : 0 ≤ zRoll x ∧ zRoll x < 2147483543 := ⟨Int.emod_nonneg _ (by decide), Int.emod_lt_of_pos _ (by decide)⟩
theorem rollC_ok {x : Int × Int} (h : CupOk x) (m : Nat) : CupOk (rollC x m) := by
  obtain ⟨h1, h2, h3⟩ := h
  have := zRoll_ok x
  unfold rollC
  split
  · exact ⟨Int.ediv_nonneg h1 (by omega), h2, h3⟩
  · exact ⟨h1, this.1, by show zRoll x < 2 ^ 40; omega⟩
def R__law_roll (ds : List D) (x : Int × Int) (d : D) (y : Int × Int) : Prop := ∃ m : Nat, 0 < m ∧ m ≤ 10 ^ 100 ∧ CupOk x ∧ ds = [.int m] ∧ d = .int (rollV x m) ∧ y = rollC x m
abbrev N__law_roll : List Str := ["cup", "many", "found", "deep"]
theorem sc__law_roll : FnScope N__law_roll ["cup", "many"] (defScope s__law_roll) := ⟨rfl, rfl, rfl, by decide +kernel, rfl, by decide +kernel, by decide +kernel⟩
theorem cal__law_roll (T : Txt K mg) : Cal P w K mg base CX0 "_law_roll" 1 ["cup", "many"] (SpC R__law_roll) := by
  refine calC (d := d__law_roll) (N := N__law_roll) (ps := ["cup", "many"]) (k := 0) T 22 sc__law_roll (fun _ _ _ _ _ _ us hl => match us, hl with | [_, _], _ => rfl) (by rintro ds x e y ⟨_, _, _, _, rfl, _⟩; rfl) (fun cdv A outer s H E hr => ⟨_, PSs.nox (pss_cons (ps_if (pt_cmpR op_gt (pe_ix (kix K) (pv 0) pe_int (fun _ _ => rfl)) pe_int (nomark _)) (pss_cons (ps_set (i := 2) sc__law_roll.nd rfl (by first | exact Or.inl rfl | exact Or.inr rfl) (pe_op op_mod (pe_callTy call_intP (by rfl) T.f_int (by decide +kernel) (pa_cons (pe_ix (kix K) (pv 0) pe_int (fun _ _ => rfl)) pa_nil)) (pv 1)))
    (pss_cons (ps_asg (pe_op op_fdivW (pe_ix (kix K) (pv 0) pe_int (fun _ _ => rfl)) (pv 1)) (pg_sub (pv 0) pe_int set_list))
    (pss_one (ps_ret (pv 2))))) pss_nil)
    (pss_cons (ps_asg (pe_op op_mod (pe_callTy call_intP (by rfl) T.f_int (by decide +kernel) (pa_cons (pe_op (kadd K) (pe_op (kmul K) (pe_ix (kix K) (pv 0) pe_int (fun _ _ => rfl)) pe_int) pe_int) pa_nil)) pe_int) (pg_sub (pv 0) pe_int set_list))
    (pss_cons (ps_set (i := 3) sc__law_roll.nd rfl (by first | exact Or.inl rfl | exact Or.inr rfl) (pe_op op_mod (pe_callTy call_intP (by rfl) T.f_int (by decide +kernel) (pa_cons (pe_op (kmul K) (pe_ix (kix K) (pv 0) pe_int (fun _ _ => rfl)) (pe_op (kadd K) (pe_ix (kix K) (pv 0) pe_int (fun _ _ => rfl)) pe_int)) pa_nil)) pe_int))
    (pss_one (ps_ret (pe_op op_mod (pe_callTy call_intP (by rfl) T.f_int (by decide +kernel) (pa_cons (pe_op op_fdivW (pv 3) pe_int) pa_nil)) (pv 1))))))), ?_⟩)
  rintro ds ⟨a, b⟩ d y ⟨m, hm0, hm, ⟨h1, h2, h3⟩, rfl, rfl, rfl⟩
  show Ho _ [.cup, .dat (.int m), .dead, .dead] (some (a, b)) _
  have h2' : 0 ≤ b := h2
  have h3' : b < 2 ^ 40 := h3
  refine ho_seq (ho_ifc (b := decide (0 < a)) (et_test (ev_binc (ev_cup0 rfl).b ev_int.b ro_gt)) (fun h => ?_) (fun h => ?_))
  · rw [decide_eq_true_iff] at h
    refine ho_seq (ho_asgc (d := .int (a % m)) (ev_binc (ev_cbc (eb_cons (c1 := some (a, b)) (ev_cup0 rfl).b eb_nil) co_int).b (ev_var rfl).b (ro_mod (by omega))) ?_)
    refine ho_seq (ho_cup0 (a := a / m) (ev_binc (ev_cup0 rfl).b (ev_var rfl).b (ro_fdiv (cdiv_of (by omega) (by omega)))) rfl ?_)
    refine ho_retc (ev_var rfl) ⟨?_, ?_⟩
    · have := Int.emod_nonneg a (b := (m : Int)) (by omega)
      unfold rollV
      rw [if_pos h]
      exact dint (by show a % m = ((a % m).toNat : Int); omega)
    · unfold rollC
      rw [if_pos h]
  · rw [decide_eq_false_iff_not] at h
    have hz := zRoll_ok (a, b)
    refine ho_next (ho_seq (ho_cup1 (a := zRoll (a, b)) (ev_binc (ev_cbc (eb_cons (c1 := some (a, b)) (ev_binc (ev_binc (ev_cup1 rfl).b ev_int.b (ro_mul (cm_of (by omega) (by omega) (by omega) (by omega)))).b ev_int.b ro_add).b eb_nil) co_int).b ev_int.b (ro_mod (by decide))) rfl ?_))
    refine ho_seq (ho_asgc (d := .int ((zRoll (a, b) * (zRoll (a, b) + 229)) % 2147483587)) (ev_binc (ev_cbc (eb_cons (c1 := some (a, zRoll (a, b))) (ev_binc (ev_cup1 rfl).b (ev_binc (ev_cup1 rfl).b ev_int.b ro_add).b (ro_mul (cm_of (by omega) (by omega) (by omega) (by omega)))).b eb_nil) co_int).b ev_int.b (ro_mod (by decide))) ?_)
    refine ho_retc (ev_binc (ev_cbc (eb_cons (c1 := some (a, zRoll (a, b))) (ev_binc (ev_var rfl).b ev_int.b (ro_fdiv (cdiv_of (by decide) (by decide)))).b eb_nil) co_int).b (ev_var rfl).b (ro_mod (by omega))) ⟨?_, ?_⟩
    · unfold rollV
      rw [if_neg h]
      have := Int.emod_nonneg ((zRoll (a, b) * (zRoll (a, b) + 229)) % 2147483587 / 821) (b := (m : Int)) (by omega)
      exact dint (by omega)
    · unfold rollC
      rw [if_neg h]
def R__law_some (ds : List D) (x : Int × Int) (d : D) (y : Int × Int) : Prop := ∃ xs : List D, 0 < xs.length ∧ xs.length ≤ 2 ^ 24 ∧ CupOk x ∧ (ds = [.lst xs] ∨ ds = [.tup xs]) ∧ xs[rollV x xs.length]? = some d ∧ y = rollC x xs.length
abbrev N__law_some : List Str := ["cup", "things"]
theorem sc__law_some : FnScope N__law_some ["cup", "things"] (defScope s__law_some) := ⟨rfl, rfl, rfl, by decide +kernel, rfl, by decide +kernel, by decide +kernel⟩
theorem cal__law_some (T : Txt K mg) : Cal P w K mg base CX0 "_law_some" 2 ["cup", "things"] (SpC R__law_some) := by
  refine calC (d := d__law_some) (N := N__law_some) (ps := ["cup", "things"]) (k := 1) T 23 sc__law_some (fun _ _ _ _ _ _ us hl => match us, hl with | [_, _], _ => rfl) (by rintro ds x e y ⟨_, _, _, _, h, _⟩; rcases h with rfl | rfl <;> rfl) (fun cdv A outer s H E hr => ⟨_, PSs.nox (pss_one (ps_ret (pe_ix (kix K) (pv 1) (kcall (cal__law_roll T) (hr.mono (by decide)) (pa_cons (pv 0) (pa_cons (pe_callB (klen K) (by rfl) T.f_len (by decide +kernel) (pa_cons (pv 1) pa_nil)) pa_nil))) (fun _ _ => rfl)))), ?_⟩)
  rintro ds x d y ⟨xs, h0, hl, hc, hds, hd, rfl⟩
  have hl' : ((xs.length : Nat) : Int) ≤ 10 ^ 100 := by omega
  rcases hds with rfl | rfl
  · show Ho _ [.cup, .dat (.lst xs)] (some x) _
    exact ho_ret (ev_bin (ev_var rfl).b (ev_callC rfl (ea_cons (c1 := some x) (ev_cbc (eb_cons (c1 := some x) (ev_var rfl).b eb_nil) co_lenL) ea_nil) ⟨_, h0, by omega, hc, rfl, rfl, rfl⟩).b (ro_ixL (atI_nat hd))) ⟨rfl, rfl⟩
  · show Ho _ [.cup, .dat (.tup xs)] (some x) _
    exact ho_ret (ev_bin (ev_var rfl).b (ev_callC rfl (ea_cons (c1 := some x) (ev_cbc (eb_cons (c1 := some x) (ev_var rfl).b eb_nil) co_lenT) ea_nil) ⟨_, h0, by omega, hc, rfl, rfl, rfl⟩).b (ro_ixT (atI_nat hd))) ⟨rfl, rfl⟩

end
end Hd

namespace Hd
open PySem PySem.Spec PyProof.Rows L2
open PL
local macro_rules | `(tactic| walk_at "ro") => `(tactic| first
  | with_reducible exact ro_add | with_reducible exact ro_sub | with_reducible exact ro_lt | with_reducible exact ro_le | with_reducible exact ro_gt | with_reducible exact ro_ge | with_reducible exact ro_eqI | with_reducible exact ro_neI
  | with_reducible exact ro_isN | with_reducible exact ro_notN
  | with_reducible refine' ro_mul ?_ | with_reducible refine' ro_fdiv ?_ | with_reducible refine' ro_mod ?_
  | with_reducible refine' ro_eq ?_ ?_ | with_reducible refine' ro_ne ?_ ?_
  | with_reducible refine' ro_ixL ?_ | with_reducible refine' ro_ixT ?_ | with_reducible refine' ro_catT ?_ | with_reducible refine' RON.ro (ron_cat ?_))
local macro_rules | `(tactic| walk_at "ev1") => `(tactic| first
  | with_reducible exact ev_int | with_reducible exact ev_bl | with_reducible exact ev_non | with_reducible exact ev_str | exact ev_var rfl | exact eb_own rfl | exact (ev_var rfl).b
  | with_reducible exact ea_nil | with_reducible exact eb_nil | with_reducible exact ex_nil | with_reducible exact et_yes
  | with_reducible refine' ea_cons ?_ ?_ | with_reducible refine' eb_cons ?_ ?_
  | with_reducible refine' ev_bin ?_ ?_ ?_ | walk_at "ro"
  | with_reducible refine' ev_cb ?_ ?_
  | with_reducible refine' ev_tup ?_ (by first | decide | (simp; done) | (simp; decide))
  | with_reducible refine' et_test ?_ | with_reducible refine' et_B ?_ | with_reducible refine' et_not ?_
  | with_reducible refine' ev_neg ?_
  | with_reducible exact co_lenL | with_reducible exact co_lenT | with_reducible exact co_abs | with_reducible exact co_int | with_reducible exact co_max2 | with_reducible exact co_min2 | with_reducible exact co_sum
  | with_reducible refine' co_tuple (.inl rfl)
  | with_reducible exact ev_op
  | with_reducible refine' EvN.ev (en_lst ?_ (by first | decide | (simp; done) | (simp; decide)))
  | with_reducible refine' Ev.b ?_)
local macro_rules | `(tactic| walk_at "side") => `(tactic| first | (with_reducible refine cm_of ?_ ?_ ?_ ?_ <;> omega) | (with_reducible refine cdiv_of ?_ ?_ <;> omega) | omega | rfl | assumption)
local macro_rules | `(tactic| walk_at "ev") => `(tactic| (all_goals (repeat' walk_at "ev1")); all_goals (try walk_at "side"))
local macro_rules | `(tactic| walk_at "dsl") => `(tactic| (try dsimp only [List.set]))
local macro_rules | `(tactic| walk_at "asg") => `(tactic| (refine' ho_seq (ho_asg ?ha ?hn); walk_at "ev"; walk_at "dsl"))
local macro_rules | `(tactic| walk_at "asg'") => `(tactic| (refine' ho_asg ?ha ?hn; walk_at "ev"; walk_at "dsl"))
local macro_rules | `(tactic| walk_at "par") => `(tactic| (refine' ho_seq (hx_par (ex_dat ?ha (ex_dat ?hb ex_nil)) ?hn); walk_at "ev"; walk_at "dsl"))
local macro_rules | `(tactic| walk_at "par'") => `(tactic| (refine' hx_par (ex_dat ?ha (ex_dat ?hb ex_nil)) ?hn; walk_at "ev"; walk_at "dsl"))
local macro_rules | `(tactic| walk_at "ret") => `(tactic| (refine' ho_ret ?ha ?hn; walk_at "ev"; walk_at "dsl"))
local macro_rules | `(tactic| walk_at "if") => `(tactic| (refine' ho_if ?ha ?ht ?hf; walk_at "ev"))
local macro_rules | `(tactic| walk_at "len") => `(tactic| first | decide | (refine Nat.le_trans (m := 1000) ?_ (by decide); simp [nlD]; done))
local macro_rules | `(tactic| walk_at "fit") => `(tactic| repeat' first | exact fit_int | exact fit_bl | exact fit_non | exact fits_nil | exact fits_nl | refine fits_cons ?_ ?_ | (refine fit_lst (by walk_at "len") ?_) | (refine fit_tup (by walk_at "len") ?_))
local macro_rules | `(tactic| walk_at "lit") => `(tactic| repeat' first | exact ea_nil | refine' ea_cons ?_ ?_ | exact ev_int | exact ev_bl | exact ev_non | exact ev_str | exact ev_neg (ev_int).b | exact ev_var rfl | refine' ev_tup ?_ (by walk_at "len") | refine' EvN.ev (en_lst ?_ (by walk_at "len")))
section
variable {P : Program} {w : World} {K : PySem.W.Frag} {mg : Str → Option Value} {base : Heap}
def sortD : D → Int
  | .non => 0
  | .bl _ => 1
  | .int _ => 2
  | .str _ => 3
  | .tup _ => 4
  | .lst _ => 5
  | .op _ => 6
  | .scr _ _ => 6
def R__law_sort (ds : List D) (d : D) : Prop := ∃ v T, v.ty = some T ∧ ds = [v] ∧ d = .int (sortD v)
abbrev N__law_sort : List Str := ["value"]
theorem sc__law_sort : FnScope N__law_sort ["value"] (defScope s__law_sort) := ⟨rfl, rfl, rfl, by decide +kernel, rfl, by decide +kernel, by decide +kernel⟩
theorem cal__law_sort (T : Txt K mg) : Cal P w K mg base CX0 "_law_sort" 1 ["value"] (SpR R__law_sort) := by
  refine calOf (d := d__law_sort) (N := N__law_sort) (ps := ["value"]) (k := 0) T 24 sc__law_sort (fun _ _ _ _ _ _ us hl => match us, hl with | [_], _ => rfl) (by rintro ds e ⟨_, _, _, rfl, _⟩; rfl) (fun cdv A outer s H E hr => ⟨_, PSs.nox (pss_cons (ps_if (PW.pt (pw_or (pt_cmpR op_isNP (pv 0) pe_non (nomark _)) (pw_or1 (pt_val (pe_callB (kisi K) (by rfl) T.f_isinstance (by decide +kernel) (pa_cons (pv 0) (pa_cons (kty (T := "bool") T.f_bool (by decide +kernel)) pa_nil))))))) (pss_one (ps_ret (pe_ifExp (pt_cmpR op_isNP (pv 0) pe_non (nomark _)) pe_int pe_int))) pss_nil)
    (pss_cons (ps_if (PW.pt (pw_or (pt_val (pe_callB (kisi K) (by rfl) T.f_isinstance (by decide +kernel) (pa_cons (pv 0) (pa_cons (kty (T := "int") T.f_int (by decide +kernel)) pa_nil)))) (pw_or1 (pt_val (pe_callB (kisi K) (by rfl) T.f_isinstance (by decide +kernel) (pa_cons (pv 0) (pa_cons (kty (T := "str") T.f_str (by decide +kernel)) pa_nil))))))) (pss_one (ps_ret (pe_ifExp (pt_val (pe_callB (kisi K) (by rfl) T.f_isinstance (by decide +kernel) (pa_cons (pv 0) (pa_cons (kty (T := "int") T.f_int (by decide +kernel)) pa_nil)))) pe_int pe_int))) pss_nil)
    (pss_one (ps_ret (pe_ifExp (pt_val (pe_callB (kisi K) (by rfl) T.f_isinstance (by decide +kernel) (pa_cons (pv 0) (pa_cons (kty (T := "tuple") T.f_tuple (by decide +kernel)) pa_nil)))) pe_int (pe_ifExp (pt_val (pe_callB (kisi K) (by rfl) T.f_isinstance (by decide +kernel) (pa_cons (pv 0) (pa_cons (kty (T := "list") T.f_list (by decide +kernel)) pa_nil)))) pe_int pe_int)))))), ?_⟩)
  rintro ds d ⟨v, T, ht, rfl, rfl⟩
  show Ho _ [.dat v] none _
  cases v <;> cases ht <;> (
    refine ho_seq (ho_ifc (et_or' (et_test (ev_binc (ev_var rfl).b ev_non.b ro_isN)) (fun _ => et_test (ev_cbc (eb_cons (c1 := none) (ev_var rfl).b (eb_cons ev_op.b eb_nil)) (co_isi rfl (by decide))))) (fun h => ?_) (fun h => ?_))
    · first
      | exact Bool.noConfusion (show false = true from h)
      | refine ho_retc (d := .int (sortD _)) (ev_ifc (et_test (ev_binc (ev_var rfl).b ev_non.b ro_isN)) (fun h2 => ?_) (fun h2 => ?_)) ⟨rfl, rfl⟩ <;> first | exact ev_int | exact Bool.noConfusion (show false = true from h2) | exact Bool.noConfusion (show true = false from h2)
    · first
      | exact Bool.noConfusion (show true = false from h)
      | refine ho_next (ho_seq (ho_ifc (et_or' (et_test (ev_cbc (eb_cons (c1 := none) (ev_var rfl).b (eb_cons ev_op.b eb_nil)) (co_isi rfl (by decide)))) (fun _ => et_test (ev_cbc (eb_cons (c1 := none) (ev_var rfl).b (eb_cons ev_op.b eb_nil)) (co_isi rfl (by decide))))) (fun h => ?_) (fun h => ?_)))
        · first
          | exact Bool.noConfusion (show false = true from h)
          | refine ho_retc (d := .int (sortD _)) (ev_ifc (et_test (ev_cbc (eb_cons (c1 := none) (ev_var rfl).b (eb_cons ev_op.b eb_nil)) (co_isi rfl (by decide)))) (fun h2 => ?_) (fun h2 => ?_)) ⟨rfl, rfl⟩ <;> first | exact ev_int | exact Bool.noConfusion (show false = true from h2) | exact Bool.noConfusion (show true = false from h2)
        · first
          | exact Bool.noConfusion (show true = false from h)
          | refine ho_next (ho_retc (d := .int (sortD _)) (ev_ifc (et_test (ev_cbc (eb_cons (c1 := none) (ev_var rfl).b (eb_cons ev_op.b eb_nil)) (co_isi rfl (by decide)))) (fun h2 => ?_) (fun h2 => ?_)) ⟨rfl, rfl⟩)
            · first | exact ev_int | exact Bool.noConfusion (show false = true from h2)
            · first | exact Bool.noConfusion (show true = false from h2) | refine ev_ifc (et_test (ev_cbc (eb_cons (c1 := none) (ev_var rfl).b (eb_cons ev_op.b eb_nil)) (co_isi rfl (by decide)))) (fun h3 => ?_) (fun h3 => ?_) <;> first | exact ev_int | exact Bool.noConfusion (show true = false from h3) | exact Bool.noConfusion (show false = true from h3))
mutual
/-- plain data, at most n deep, no line of it too long -/
def fit : D → Nat → Bool
  | .tup xs, n => (match n with | 0 => false | n + 1 => decide (xs.length ≤ 10000000) && fits xs n)
  | .lst xs, n => (match n with | 0 => false | n + 1 => decide (xs.length ≤ 10000000) && fits xs n)
  | .non, _ => true
  | .bl _, _ => true
  | .int _, _ => true
  | .str x, _ => x.cps.all (· < 0x110000)
  | .op _, _ => false
  | .scr _ _, _ => false
def fits : List D → Nat → Bool
  | [], _ => true
  | x :: xs, n => fit x n && fits xs n
end
theorem fit_ty {v : D} {n : Nat} (h : fit v n = true) : ∃ T, v.ty = some T := by
  cases v <;> first | exact ⟨_, rfl⟩ | (unfold fit at h; cases h)
theorem fits_mem : ∀ {xs : List D} {n : Nat}, fits xs n = true → ∀ x ∈ xs, fit x n = true
  | [], _, _, x, hx => by simp at hx
  | y :: xs, n, h, x, hx => by
    unfold fits at h
    rw [Bool.and_eq_true] at h
    rcases List.mem_cons.mp hx with z | z
    · rw [z]; exact h.1
    · exact fits_mem h.2 x z
theorem fits_of : ∀ {xs : List D} {n : Nat}, (∀ x ∈ xs, fit x n = true) → fits xs n = true
  | [], _, _ => by unfold fits; rfl
  | y :: xs, n, h => by
    unfold fits
    rw [h y List.mem_cons_self, fits_of fun x hx => h x (List.mem_cons_of_mem _ hx)]
    rfl
theorem zipD_self (xs : List D) : zipD xs xs = xs.map fun x => .tup [x, x] := by
  induction xs with
  | nil => rfl
  | cons x xs ih => rw [zipD, ih]; rfl
def R_like (n : Nat) (ds : List D) (d : D) : Prop := ∃ v, fit v n = true ∧ ds = [v, v] ∧ d = .bl true
theorem sort_ne {v : D} {n : Nat} (h : fit v n = true) : sortD v ≠ 6 := by
  cases v with
  | op w => unfold fit at h; cases h
  | scr K ns => unfold fit at h; cases h
  | _ => intro z; simp [sortD] at z
theorem leaf_eqv {v : D} (h : sortD v < 4) : D.eqv v v = true := by
  cases v with
  | non => rfl
  | bl b => cases b <;> rfl
  | int i => show (i == i) = _; rw [beq_self_eq_true]
  | str x => show (x == x) = _; rw [beq_self_eq_true]
  | _ => simp [sortD] at h
abbrev N__law_like : List Str := ["one", "other", "sort", "first", "second"]
theorem sc__law_like : FnScope N__law_like ["one", "other"] (defScope s__law_like) := ⟨rfl, rfl, rfl, by decide +kernel, rfl, by decide +kernel, by decide +kernel⟩
theorem like_0 (T : Txt K mg) : Cal P w K mg base CX0 "_law_like" 2 ["one", "other"] (SpR (R_like 0)) := by
  refine calOf (d := d__law_like) (N := N__law_like) (ps := ["one", "other"]) (k := 1) T 25 sc__law_like (fun _ _ _ _ _ _ us hl => match us, hl with | [_, _], _ => rfl) (by rintro ds e ⟨_, _, rfl, _⟩; rfl) (fun cdv A outer s H E hr => ⟨_, PSs.nox (pss_cons (ps_set (i := 2) sc__law_like.nd rfl (by first | exact Or.inl rfl | exact Or.inr rfl) (kcall (cal__law_sort T) (hr.mono (by first | decide | omega)) (pa_cons (pv 1) pa_nil)))
    (pss_cons (ps_if (PW.pt (pw_or (pt_cmpR (kne K hr.units) (kcall (cal__law_sort T) (hr.mono (by first | decide | omega)) (pa_cons (pv 0) pa_nil)) (pv 2) (nomark _)) (pw_or1 (pt_cmpR (keq K hr.units) (pv 2) pe_int (nomark _))))) (pss_one (ps_ret pe_bl)) pss_nil)
    (pss_cons (ps_if (pt_cmpR (kin K) (pv 2) (pe_tup (pa_cons pe_int (pa_cons pe_int pa_nil))) (by rfl)) (pss_one ps_never) pss_nil)
    (pss_one (ps_ret (pe_cmpR (keq K hr.units) (pv 0) (pv 1) (nomark _))))))), ?_⟩)
  rintro ds d ⟨v, hv, rfl, rfl⟩
  show Ho _ [.dat v, .dat v, .dead, .dead, .dead] none _
  obtain ⟨T, ht⟩ := fit_ty hv
  refine ho_seq (ho_asgc (ev_callc (ea_cons (ev_var rfl) ea_nil) ⟨v, T, ht, rfl, rfl⟩) ?_)
  refine ho_seq (ho_ifc (b := false) (et_eq (et_or' (et_test (ev_binc (ev_callc (ea_cons (ev_var rfl) ea_nil) ⟨v, T, ht, rfl, rfl⟩).b (ev_var rfl).b ro_neI)) (fun _ => et_test (ev_binc (ev_var rfl).b ev_int.b ro_eqI))) ?_) (fun h => by cases h) (fun _ => ho_next ?_))
  · rw [decide_eq_true rfl, decide_eq_false (sort_ne hv)]; rfl
  refine ho_seq (ho_ifc (b := false) (et_test (ev_eq (ev_binc (ev_var rfl).b (ev_tup2 ev_int ev_int).b (ro_inS (neg := false) (.inr rfl) rfl rfl)) ?_)) (fun h => by cases h) (fun _ => ho_next ?_))
  · cases v <;> first | rfl | (unfold fit at hv; cases hv)
  refine ho_retc (ev_eq (ev_binc (ev_var rfl).b (ev_var rfl).b (ro_eq ?_ ?_)) ?_) ⟨rfl, rfl⟩
  · cases v <;> first | rfl | (unfold fit at hv; unfold D.ok; exact hv) | (unfold fit at hv; cases hv)
  · cases v <;> first | rfl | (unfold fit at hv; unfold D.ok; exact hv) | (unfold fit at hv; cases hv)
  · cases v with
    | non => rfl
    | bl b => cases b <;> rfl
    | int i => show D.bl (i == i) = _; rw [beq_self_eq_true]
    | str x => show D.bl (x == x) = _; rw [beq_self_eq_true]
    | _ => unfold fit at hv; cases hv
theorem like_s (T : Txt K mg) (n : Nat) (ih : Cal P w K mg base CX0 "_law_like" (n + 2) ["one", "other"] (SpR (R_like n))) : Cal P w K mg base CX0 "_law_like" (n + 3) ["one", "other"] (SpR (R_like (n + 1))) := by
  refine calOf (d := d__law_like) (N := N__law_like) (ps := ["one", "other"]) (k := n + 2) T 25 sc__law_like (fun _ _ _ _ _ _ us hl => match us, hl with | [_, _], _ => rfl) (by rintro ds e ⟨_, _, rfl, _⟩; rfl) (fun cdv A outer s H E hr => ⟨_, PSs.nox (pss_cons (ps_set (i := 2) sc__law_like.nd rfl (by first | exact Or.inl rfl | exact Or.inr rfl) (kcall (cal__law_sort T) (hr.mono (by first | decide | omega)) (pa_cons (pv 1) pa_nil)))
    (pss_cons (ps_if (PW.pt (pw_or (pt_cmpR (kne K hr.units) (kcall (cal__law_sort T) (hr.mono (by first | decide | omega)) (pa_cons (pv 0) pa_nil)) (pv 2) (nomark _)) (pw_or1 (pt_cmpR (keq K hr.units) (pv 2) pe_int (nomark _))))) (pss_one (ps_ret pe_bl)) pss_nil)
    (pss_cons (ps_if (pt_cmpR (kin K) (pv 2) (pe_tup (pa_cons pe_int (pa_cons pe_int pa_nil))) (by rfl)) (pss_one (ps_ret (pe_and (pe_cmpR (keq K hr.units) (pe_callB (klen K) (by rfl) T.f_len (by decide +kernel) (pa_cons (pv 0) pa_nil)) (pe_callB (klen K) (by rfl) T.f_len (by decide +kernel) (pa_cons (pv 1) pa_nil)) (nomark _)) (pe_one (pe_cmpR (keq K hr.units) (pe_lc (own := [("first", 3), ("second", 4)]) (g := (gTup K 2 (gCons (gName 3) (gCons (gName 4) gNil)))) rfl sc__law_like.nd (kzip K T.f_zip (pa_cons (pv 0) (pa_cons (pv 1) pa_nil))) (blkOk_by (own := [("first", 3), ("second", 4)]) (N := N__law_like) (sc := defScope s__law_like) (by decide +kernel)) (fun _ _ _ _ _ => (kg_tup K (pgs_cons (pg_name (i := 3) sc__law_like.nd rfl (by first | exact Or.inl rfl | exact Or.inr rfl)) (pgs_cons (pg_name (i := 4) sc__law_like.nd rfl (by first | exact Or.inl rfl | exact Or.inr rfl)) pgs_nil)))) (fun _ _ _ _ _ => (pts_one (pt_not (pt_val (kcall ih (hr.mono (by first | decide | omega)) (pa_cons (pv 3) (pa_cons (pv 4) pa_nil))))))) (fun _ _ _ _ _ => pe_int)) (pe_lst pa_nil) (nomark _)))))) pss_nil)
    (pss_one (ps_ret (pe_cmpR (keq K hr.units) (pv 0) (pv 1) (nomark _))))))), ?_⟩)
  rintro ds d ⟨v, hv, rfl, rfl⟩
  show Ho _ [.dat v, .dat v, .dead, .dead, .dead] none _
  obtain ⟨T, ht⟩ := fit_ty hv
  refine ho_seq (ho_asgc (ev_callc (ea_cons (ev_var rfl) ea_nil) ⟨v, T, ht, rfl, rfl⟩) ?_)
  refine ho_seq (ho_ifc (b := false) (et_eq (et_or' (et_test (ev_binc (ev_callc (ea_cons (ev_var rfl) ea_nil) ⟨v, T, ht, rfl, rfl⟩).b (ev_var rfl).b ro_neI)) (fun _ => et_test (ev_binc (ev_var rfl).b ev_int.b ro_eqI))) ?_) (fun h => by cases h) (fun _ => ho_next ?_))
  · rw [decide_eq_true rfl, decide_eq_false (sort_ne hv)]; rfl
  have fin : ∀ {u : TE}, Ev u [.dat v, .dat v, .dat (.int (sortD v)), .dead, .dead] none (.lst []) none → Ev (tOp (rEqD K) u (tLst tNil)) [.dat v, .dat v, .dat (.int (sortD v)), .dead, .dead] none (.bl true) none := fun hu =>
    ev_eq (ev_binc hu.b (EvN.ev (en_lst ea_nil (by decide))).b (ro_eq rfl rfl)) rfl
  cases v with
  | tup xs =>
    unfold fit at hv
    rw [Bool.and_eq_true, decide_eq_true_iff] at hv
    refine ho_seq (ho_ifc (b := true) (et_test (ev_eq (ev_binc (ev_var rfl).b (ev_tup2 ev_int ev_int).b (ro_inS (neg := false) (.inr rfl) rfl rfl)) rfl)) (fun _ => ?_) (fun h => by cases h))
    refine ho_retc (ev_andV (a := true) (b := true) (c1 := none) (ev_eq (ev_binc (ev_cbc (eb_cons (c1 := none) (ev_var rfl).b eb_nil) co_lenT).b (ev_cbc (eb_cons (c1 := none) (ev_var rfl).b eb_nil) co_lenT).b ro_eqI) (by rw [decide_eq_true rfl])) (fun _ => fin ?_) (fun h => by cases h)) ⟨rfl, rfl⟩
    have e0 : ([] : List D) = (xs.filter fun _ => false).map fun _ => D.int 1 := by simp
    rw [e0]
    refine EvN.ev (en_lc2 (fun x => x) (fun x => x) (fun _ => false) (fun _ => .int 1) (by rw [← zipD_self]; exact ei_zipT (ea_cons (ev_var rfl) (ea_cons (ev_var rfl) ea_nil))) (fun s hs => by cases hs; rfl) (fun s hs => by cases hs; rfl) (by decide) (Nat.le_trans hv.1 (by decide)) (fun x hx => ⟨et_not (b := true) (et_test (ev_call (ea_cons (ev_var rfl) (ea_cons (ev_var rfl) ea_nil)) ⟨x, fits_mem hv.2 x hx, rfl, rfl⟩)), fun z => by cases z⟩))
  | lst xs =>
    unfold fit at hv
    rw [Bool.and_eq_true, decide_eq_true_iff] at hv
    refine ho_seq (ho_ifc (b := true) (et_test (ev_eq (ev_binc (ev_var rfl).b (ev_tup2 ev_int ev_int).b (ro_inS (neg := false) (.inr rfl) rfl rfl)) rfl)) (fun _ => ?_) (fun h => by cases h))
    refine ho_retc (ev_andV (a := true) (b := true) (c1 := none) (ev_eq (ev_binc (ev_cbc (eb_cons (c1 := none) (ev_var rfl).b eb_nil) co_lenL).b (ev_cbc (eb_cons (c1 := none) (ev_var rfl).b eb_nil) co_lenL).b ro_eqI) (by rw [decide_eq_true rfl])) (fun _ => fin ?_) (fun h => by cases h)) ⟨rfl, rfl⟩
    have e0 : ([] : List D) = (xs.filter fun _ => false).map fun _ => D.int 1 := by simp
    rw [e0]
    refine EvN.ev (en_lc2 (fun x => x) (fun x => x) (fun _ => false) (fun _ => .int 1) (by rw [← zipD_self]; exact ei_zipL (ea_cons (ev_var rfl) (ea_cons (ev_var rfl) ea_nil))) (fun s hs => by cases hs; rfl) (fun s hs => by cases hs; rfl) (by decide) (Nat.le_trans hv.1 (by decide)) (fun x hx => ⟨et_not (b := true) (et_test (ev_call (ea_cons (ev_var rfl) (ea_cons (ev_var rfl) ea_nil)) ⟨x, fits_mem hv.2 x hx, rfl, rfl⟩)), fun z => by cases z⟩))
  | _ =>
    refine ho_seq (ho_ifc (b := false) (et_test (ev_eq (ev_binc (ev_var rfl).b (ev_tup2 ev_int ev_int).b (ro_inS (neg := false) (.inr rfl) rfl rfl)) ?_)) (fun h => by cases h) (fun _ => ho_next ?_))
    · first | rfl | (unfold fit at hv; cases hv)
    refine ho_retc (ev_eq (ev_binc (ev_var rfl).b (ev_var rfl).b (ro_eq ?_ ?_)) ?_) ⟨rfl, rfl⟩
    · first | rfl | (unfold fit at hv; unfold D.ok; exact hv) | (unfold fit at hv; cases hv)
    · first | rfl | (unfold fit at hv; unfold D.ok; exact hv) | (unfold fit at hv; cases hv)
    · first | (exfalso; unfold fit at hv; cases hv; done) | exact congrArg D.bl (leaf_eqv (by simp [sortD]))
def R__law_like (ds : List D) (d : D) : Prop := ∃ a b, fit a 5 = true ∧ ds = [a, b] ∧ a = b ∧ d = .bl true
theorem cal__law_like (T : Txt K mg) : Cal P w K mg base CX0 "_law_like" 7 ["one", "other"] (SpR R__law_like) := by
  have h := like_s T 4 (like_s T 3 (like_s T 2 (like_s T 1 (like_s T 0 (like_0 (P := P) (w := w) (base := base) T)))))
  have e : R__law_like = R_like 5 := by
    funext ds d
    apply propext
    constructor
    · rintro ⟨a, b, h1, h2, h3, h4⟩; subst h3; exact ⟨a, h1, h2, h4⟩
    · rintro ⟨a, h1, h2, h4⟩; exact ⟨a, a, h1, h2, rfl, h4⟩
  rw [e]
  exact h
theorem fit_lst {xs : List D} {n : Nat} (h : xs.length ≤ 10000000) (h2 : fits xs n = true) : fit (.lst xs) (n + 1) = true := by
  show (decide (xs.length ≤ 10000000) && fits xs n) = true
  rw [h2, decide_eq_true h]; rfl
theorem fit_tup {xs : List D} {n : Nat} (h : xs.length ≤ 10000000) (h2 : fits xs n = true) : fit (.tup xs) (n + 1) = true := by
  show (decide (xs.length ≤ 10000000) && fits xs n) = true
  rw [h2, decide_eq_true h]; rfl
theorem fits_cons {x : D} {xs : List D} {n : Nat} (h : fit x n = true) (h2 : fits xs n = true) : fits (x :: xs) n = true := by
  unfold fits; rw [h, h2]; rfl
theorem fits_nil {n : Nat} : fits [] n = true := by unfold fits; rfl
theorem fit_int {i : Int} {n : Nat} : fit (.int i) n = true := by unfold fit; rfl
theorem fit_bl {i : Bool} {n : Nat} : fit (.bl i) n = true := by unfold fit; rfl
theorem fit_non {n : Nat} : fit .non n = true := by unfold fit; rfl
theorem fits_nl {F : List Nat} {n : Nat} : fits (nlD F) n = true := fits_of fun x hx => by
  obtain ⟨a, _, rfl⟩ := List.mem_map.mp hx
  exact fit_int
theorem ok_of_fit : ∀ (n : Nat) (v : D), fit v n = true → D.ok v n = true
  | n, .non, _ => by unfold D.ok; rfl
  | n, .bl _, _ => by unfold D.ok; rfl
  | n, .int _, _ => by unfold D.ok; rfl
  | n, .str x, h => by unfold fit at h; unfold D.ok; exact h
  | n, .op _, h => by unfold fit at h; cases h
  | n, .scr _ _, h => by unfold fit at h; cases h
  | 0, .tup xs, h => by unfold fit at h; cases h
  | 0, .lst xs, h => by unfold fit at h; cases h
  | n + 1, .tup xs, h => by
    unfold fit at h
    rw [Bool.and_eq_true] at h
    unfold D.ok
    exact oks_of fun x hx => ok_of_fit n x (fits_mem h.2 x hx)
  | n + 1, .lst xs, h => by
    unfold fit at h
    rw [Bool.and_eq_true] at h
    unfold D.ok
    exact oks_of fun x hx => ok_of_fit n x (fits_mem h.2 x hx)
theorem fit_mono : ∀ (n m : Nat) (v : D), n ≤ m → fit v n = true → fit v m = true
  | n, m, .non, _, _ => fit_non
  | n, m, .bl _, _, _ => fit_bl
  | n, m, .int _, _, _ => fit_int
  | n, m, .str x, _, h => by unfold fit at h ⊢; exact h
  | n, m, .op _, _, h => by unfold fit at h; cases h
  | n, m, .scr _ _, _, h => by unfold fit at h; cases h
  | 0, m, .tup xs, _, h => by unfold fit at h; cases h
  | 0, m, .lst xs, _, h => by unfold fit at h; cases h
  | n + 1, 0, .tup xs, hm, _ => by omega
  | n + 1, 0, .lst xs, hm, _ => by omega
  | n + 1, m + 1, .tup xs, hm, h => by
    unfold fit at h
    rw [Bool.and_eq_true, decide_eq_true_iff] at h
    exact fit_tup h.1 (fits_of fun x hx => fit_mono n m x (by omega) (fits_mem h.2 x hx))
  | n + 1, m + 1, .lst xs, hm, h => by
    unfold fit at h
    rw [Bool.and_eq_true, decide_eq_true_iff] at h
    exact fit_lst h.1 (fits_of fun x hx => fit_mono n m x (by omega) (fits_mem h.2 x hx))
theorem fit_ok {v : D} {n : Nat} (h : fit v n = true) (hn : n ≤ 64) : D.ok v 64 = true := ok_of_fit 64 v (fit_mono n 64 v hn h)
theorem fit_tupE {xs : List D} {n : Nat} (h : fit (.tup xs) n = true) : ∃ m, n = m + 1 ∧ xs.length ≤ 10000000 ∧ ∀ x ∈ xs, fit x m = true := by
  cases n with
  | zero => unfold fit at h; cases h
  | succ m =>
    unfold fit at h
    rw [Bool.and_eq_true, decide_eq_true_iff] at h
    exact ⟨m, rfl, h.1, fits_mem h.2⟩

end
end Hd

namespace Hd
open PySem PySem.Spec PyProof.Rows L2
open PL
local macro_rules | `(tactic| walk_at "ro") => `(tactic| first
  | with_reducible exact ro_add | with_reducible exact ro_sub | with_reducible exact ro_lt | with_reducible exact ro_le | with_reducible exact ro_gt | with_reducible exact ro_ge | with_reducible exact ro_eqI | with_reducible exact ro_neI
  | with_reducible exact ro_isN | with_reducible exact ro_notN
  | with_reducible refine' ro_mul ?_ | with_reducible refine' ro_fdiv ?_ | with_reducible refine' ro_mod ?_
  | with_reducible refine' ro_eq ?_ ?_ | with_reducible refine' ro_ne ?_ ?_
  | with_reducible refine' ro_ixL ?_ | with_reducible refine' ro_ixT ?_ | with_reducible refine' ro_catT ?_ | with_reducible refine' RON.ro (ron_cat ?_))
local macro_rules | `(tactic| walk_at "ev1") => `(tactic| first
  | with_reducible exact ev_int | with_reducible exact ev_bl | with_reducible exact ev_non | with_reducible exact ev_str | exact ev_var rfl | exact eb_own rfl | exact (ev_var rfl).b
  | with_reducible exact ea_nil | with_reducible exact eb_nil | with_reducible exact ex_nil | with_reducible exact et_yes
  | with_reducible refine' ea_cons ?_ ?_ | with_reducible refine' eb_cons ?_ ?_
  | with_reducible refine' ev_bin ?_ ?_ ?_ | walk_at "ro"
  | with_reducible refine' ev_cb ?_ ?_
  | with_reducible refine' ev_tup ?_ (by first | decide | (simp; done) | (simp; decide))
  | with_reducible refine' et_test ?_ | with_reducible refine' et_B ?_ | with_reducible refine' et_not ?_
  | with_reducible refine' ev_neg ?_
  | with_reducible exact co_lenL | with_reducible exact co_lenT | with_reducible exact co_abs | with_reducible exact co_int | with_reducible exact co_max2 | with_reducible exact co_min2 | with_reducible exact co_sum
  | with_reducible refine' co_tuple (.inl rfl)
  | with_reducible exact ev_op
  | with_reducible refine' EvN.ev (en_lst ?_ (by first | decide | (simp; done) | (simp; decide)))
  | with_reducible refine' Ev.b ?_)
local macro_rules | `(tactic| walk_at "side") => `(tactic| first | (with_reducible refine cm_of ?_ ?_ ?_ ?_ <;> omega) | (with_reducible refine cdiv_of ?_ ?_ <;> omega) | omega | rfl | assumption)
local macro_rules | `(tactic| walk_at "ev") => `(tactic| (all_goals (repeat' walk_at "ev1")); all_goals (try walk_at "side"))
local macro_rules | `(tactic| walk_at "dsl") => `(tactic| (try dsimp only [List.set]))
local macro_rules | `(tactic| walk_at "asg") => `(tactic| (refine' ho_seq (ho_asg ?ha ?hn); walk_at "ev"; walk_at "dsl"))
local macro_rules | `(tactic| walk_at "asg'") => `(tactic| (refine' ho_asg ?ha ?hn; walk_at "ev"; walk_at "dsl"))
local macro_rules | `(tactic| walk_at "par") => `(tactic| (refine' ho_seq (hx_par (ex_dat ?ha (ex_dat ?hb ex_nil)) ?hn); walk_at "ev"; walk_at "dsl"))
local macro_rules | `(tactic| walk_at "par'") => `(tactic| (refine' hx_par (ex_dat ?ha (ex_dat ?hb ex_nil)) ?hn; walk_at "ev"; walk_at "dsl"))
local macro_rules | `(tactic| walk_at "ret") => `(tactic| (refine' ho_ret ?ha ?hn; walk_at "ev"; walk_at "dsl"))
local macro_rules | `(tactic| walk_at "if") => `(tactic| (refine' ho_if ?ha ?ht ?hf; walk_at "ev"))
local macro_rules | `(tactic| walk_at "len") => `(tactic| first | decide | (refine Nat.le_trans (m := 1000) ?_ (by decide); simp [nlD]; done))
local macro_rules | `(tactic| walk_at "fit") => `(tactic| repeat' first | exact fit_int | exact fit_bl | exact fit_non | exact fits_nil | exact fits_nl | refine fits_cons ?_ ?_ | (refine fit_lst (by walk_at "len") ?_) | (refine fit_tup (by walk_at "len") ?_))
local macro_rules | `(tactic| walk_at "lit") => `(tactic| repeat' first | exact ea_nil | refine' ea_cons ?_ ?_ | exact ev_int | exact ev_bl | exact ev_non | exact ev_str | exact ev_neg (ev_int).b | exact ev_var rfl | refine' ev_tup ?_ (by walk_at "len") | refine' EvN.ev (en_lst ?_ (by walk_at "len")))
section
variable {P : Program} {w : World} {K : PySem.W.Frag} {mg : Str → Option Value} {base : Heap}
def R_is_even_perfect (ds : List D) (d : D) : Prop := ∃ n : Nat, 1 ≤ n ∧ n ≤ 10 ^ 40 ∧ ds = [.int n] ∧ d = .bl (NT.paperT n).isSome
abbrev N_is_even_perfect : List Str := ["great"]
theorem sc_is_even_perfect : FnScope N_is_even_perfect ["great"] (defScope s_is_even_perfect) := ⟨rfl, rfl, rfl, by decide +kernel, rfl, by decide +kernel, by decide +kernel⟩
theorem cal_is_even_perfect (T : Txt K mg) : Cal P w K mg base CX0 "is_even_perfect" 5 ["great"] (SpR R_is_even_perfect) := by
  refine calOf (d := d_is_even_perfect) (N := N_is_even_perfect) (ps := ["great"]) (k := 4) T 12 sc_is_even_perfect (fun _ _ _ _ _ _ us hl => match us, hl with | [_], _ => rfl) (by rintro ds e ⟨_, _, _, rfl, _⟩; rfl) (fun cdv A outer s H E hr => ⟨_, PSs.nox (pss_cons (ps_expr (kcall (cal_need_great T) (hr.mono (by decide)) (pa_cons (pv 0) pa_nil)))
    (pss_one (ps_ret (pe_cmpR op_notNP (kcall (cal_paper_of T) (hr.mono (by decide)) (pa_cons (pv 0) pa_nil)) pe_non (nomark _))))), ?_⟩)
  rintro ds d ⟨n, h1, hn, rfl, rfl⟩
  show Ho _ [.dat (.int n)] none _
  have hn' : (n : Int) ≤ 10 ^ 40 := by exact_mod_cast hn
  refine ho_seq (ho_exprc (ev_call (ea_cons (ev_var rfl) ea_nil) ⟨_, rfl, by omega, hn', rfl⟩) ?_)
  refine ho_retc (ev_eq (ev_binc (ev_callc (ea_cons (ev_var rfl) ea_nil) ⟨n, h1, hn, rfl, rfl⟩).b ev_non.b ro_notN) ?_) ⟨rfl, rfl⟩
  cases NT.paperT n <;> rfl
def R_even_paper (ds : List D) (d : D) : Prop := ∃ n : Nat, 1 ≤ n ∧ n ≤ 10 ^ 40 ∧ ds = [.int n] ∧ d = optD (NT.paperT n)
abbrev N_even_paper : List Str := ["great"]
theorem sc_even_paper : FnScope N_even_paper ["great"] (defScope s_even_paper) := ⟨rfl, rfl, rfl, by decide +kernel, rfl, by decide +kernel, by decide +kernel⟩
theorem cal_even_paper (T : Txt K mg) : Cal P w K mg base CX0 "even_paper" 5 ["great"] (SpR R_even_paper) := by
  refine calOf (d := d_even_paper) (N := N_even_paper) (ps := ["great"]) (k := 4) T 13 sc_even_paper (fun _ _ _ _ _ _ us hl => match us, hl with | [_], _ => rfl) (by rintro ds e ⟨_, _, _, rfl, _⟩; rfl) (fun cdv A outer s H E hr => ⟨_, PSs.nox (pss_cons (ps_expr (kcall (cal_need_great T) (hr.mono (by decide)) (pa_cons (pv 0) pa_nil)))
    (pss_one (ps_ret (kcall (cal_paper_of T) (hr.mono (by decide)) (pa_cons (pv 0) pa_nil))))), ?_⟩)
  rintro ds d ⟨n, h1, hn, rfl, rfl⟩
  show Ho _ [.dat (.int n)] none _
  have hn' : (n : Int) ≤ 10 ^ 40 := by exact_mod_cast hn
  refine ho_seq (ho_exprc (ev_call (ea_cons (ev_var rfl) ea_nil) ⟨_, rfl, by omega, hn', rfl⟩) ?_)
  exact ho_retc (ev_callc (ea_cons (ev_var rfl) ea_nil) ⟨n, h1, hn, rfl, rfl⟩) ⟨rfl, rfl⟩
/-- whether a value is a paper -/
def isPap (o : Option (Nat × Nat)) (v : D) : Bool :=
  match o, v with
  | some p, .tup [.int a, .int b] => decide ((p.1 : Int) = a) && decide ((p.2 : Int) = b)
  | _, _ => false
theorem eqv_pair (a b x y : Int) : D.eqv (.tup [.int a, .int b]) (.tup [.int x, .int y]) = (decide (a = x) && decide (b = y)) := by
  show ((a == x) && ((b == y) && true)) = _
  rw [Bool.and_true, Bool.beq_eq_decide_eq, Bool.beq_eq_decide_eq]
theorem paperT_bound {n : Nat} {p : Nat × Nat} (h1 : 1 ≤ n) (hn : n ≤ 10 ^ 40) (h : NT.paperT n = some p) : 1 ≤ p.1 ∧ p.1 ≤ 66 ∧ 1 ≤ p.2 ∧ p.2 ≤ n := by
  obtain ⟨t, m, rfl, hm⟩ := NT.split_two h1
  rw [NT.paperT_of hm hn] at h
  split at h
  · rename_i q
    cases h
    have := NT.pn_big (p := t + 1) (by omega) (by unfold NT.pn; rw [Nat.add_sub_cancel, ← q.2.1]; exact hn)
    exact ⟨q.1, by omega, by omega, Nat.le_mul_of_pos_left _ (Nat.pow_pos (by decide))⟩
  · cases h
theorem dWhole_int {i lo hi : Int} : dWhole (.int i) lo hi = (decide (lo ≤ i) && decide (i ≤ hi)) := rfl
def R_is_even_paper (ds : List D) (d : D) : Prop := ∃ (n : Nat) (v : D) (k : Nat), 1 ≤ n ∧ n ≤ 10 ^ 40 ∧ fit v k = true ∧ ds = [.int n, v] ∧ d = .bl (isPap (NT.paperT n) v)
abbrev N_is_even_paper : List Str := ["great", "value"]
theorem sc_is_even_paper : FnScope N_is_even_paper ["great", "value"] (defScope s_is_even_paper) := ⟨rfl, rfl, rfl, by decide +kernel, rfl, by decide +kernel, by decide +kernel⟩
theorem cal_is_even_paper (T : Txt K mg) : Cal P w K mg base CX0 "is_even_paper" 5 ["great", "value"] (SpR R_is_even_paper) := by
  refine calOf (d := d_is_even_paper) (N := N_is_even_paper) (ps := ["great", "value"]) (k := 4) T 14 sc_is_even_paper (fun _ _ _ _ _ _ us hl => match us, hl with | [_, _], _ => rfl) (by rintro ds e ⟨_, _, _, _, _, _, rfl, _⟩; rfl) (fun cdv A outer s H E hr => ⟨_, PSs.nox (pss_cons (ps_expr (kcall (cal_need_great T) (hr.mono (by decide)) (pa_cons (pv 0) pa_nil)))
    (pss_cons (ps_if (PW.pt (pw_or (pt_not (pt_val (kcall (cal_is_tuple_of T) (hr.mono (by decide)) (pa_cons (pv 1) (pa_cons pe_int (pa_cons pe_int pa_nil)))))) (pw_or (pt_not (pt_val (kcall (cal_is_whole T) (hr.mono (by decide)) (pa_cons (pe_ix (kix K) (pv 1) pe_int (fun _ _ => rfl)) (pa_cons pe_int (pa_cons (kcon T.con_BITS) pa_nil)))))) (pw_or1 (pt_not (pt_val (kcall (cal_is_whole T) (hr.mono (by decide)) (pa_cons (pe_ix (kix K) (pv 1) pe_int (fun _ _ => rfl)) (pa_cons pe_int (pa_cons (pv 0) pa_nil)))))))))) (pss_one (ps_ret pe_bl)) pss_nil)
    (pss_one (ps_ret (pe_cmpR (keq K hr.units) (kcall (cal_paper_of T) (hr.mono (by decide)) (pa_cons (pv 0) pa_nil)) (pv 1) (nomark _)))))), ?_⟩)
  rintro ds d ⟨n, v, k, h1, hn, hv, rfl, rfl⟩
  show Ho _ [.dat (.int n), .dat v] none _
  have hn' : (n : Int) ≤ 10 ^ 40 := by exact_mod_cast hn
  obtain ⟨T, hT⟩ := fit_ty hv
  refine ho_seq (ho_exprc (ev_call (ea_cons (ev_var rfl) ea_nil) ⟨_, rfl, by omega, hn', rfl⟩) ?_)
  by_cases h2 : dTup v 2 2 = true
  · obtain ⟨x, y, rfl⟩ : ∃ x y, v = .tup [x, y] := by
      cases v with
      | tup xs =>
        unfold dTup at h2
        rw [Bool.and_eq_true, decide_eq_true_iff, decide_eq_true_iff] at h2
        match xs, h2 with
        | [x, y], _ => exact ⟨x, y, rfl⟩
        | [], h => simp at h
        | [_], h => simp at h
        | _ :: _ :: _ :: _, h => simp at h; omega
      | _ => cases h2
    have hxy : fit x (k - 1) = true ∧ fit y (k - 1) = true := by
      cases k with
      | zero => unfold fit at hv; cases hv
      | succ k =>
        have h3 : (decide (([x, y] : List D).length ≤ 16777216) && fits [x, y] k) = true := hv
        rw [Bool.and_eq_true] at h3
        exact ⟨fits_mem h3.2 x (by simp), fits_mem h3.2 y (by simp)⟩
    obtain ⟨Tx, hTx⟩ := fit_ty hxy.1
    obtain ⟨Ty, hTy⟩ := fit_ty hxy.2
    have ex : ∀ {c : Cup}, Ev (tOp (rIx K) (tVar 1) (tC (.int 0))) [.dat (.int n), .dat (.tup [x, y])] c x c := fun {c} => ev_binc (ev_var rfl).b ev_int.b (ro_ixT (atI_nat (i := 0) rfl))
    have ey : ∀ {c : Cup}, Ev (tOp (rIx K) (tVar 1) (tC (.int 1))) [.dat (.int n), .dat (.tup [x, y])] c y c := fun {c} => ev_binc (ev_var rfl).b ev_int.b (ro_ixT (atI_nat (i := 1) rfl))
    by_cases h3 : dWhole x 1 140 = true
    · obtain ⟨a, rfl⟩ : ∃ a, x = .int a := by cases x <;> first | exact ⟨_, rfl⟩ | cases h3
      by_cases h4 : dWhole y 1 n = true
      · obtain ⟨b, rfl⟩ : ∃ b, y = .int b := by cases y <;> first | exact ⟨_, rfl⟩ | cases h4
        refine ho_seq (ho_ifc (b := false) (et_eq (et_or' (et_not (et_test (ev_callc (ea_cons (ev_var rfl) (ea_cons ev_int (ea_cons ev_int ea_nil))) ⟨_, _, _, _, rfl, hT, rfl⟩))) (fun _ => et_or' (et_not (et_test (ev_callc (ea_cons ex (ea_cons ev_int (ea_cons ev_int ea_nil))) ⟨_, _, _, _, rfl, rfl, rfl⟩))) (fun _ => et_not (et_test (ev_callc (ea_cons ey (ea_cons ev_int (ea_cons (ev_var rfl) ea_nil))) ⟨_, _, _, _, rfl, rfl, rfl⟩))))) ?_) (fun h => by cases h) (fun _ => ho_next ?_))
        · rw [h2, h3, h4]; rfl
        · refine ho_retc (ev_eq (ev_binc (ev_callc (ea_cons (ev_var rfl) ea_nil) ⟨n, h1, hn, rfl, rfl⟩).b (ev_var rfl).b (ro_eq ?_ rfl)) ?_) ⟨rfl, rfl⟩
          · cases NT.paperT n <;> rfl
          · cases NT.paperT n with
            | none => rfl
            | some p => exact congrArg D.bl (eqv_pair _ _ _ _)
      · have h4' : dWhole y 1 n = false := by simpa using h4
        refine ho_seq (ho_ifc (b := true) (et_eq (et_or' (et_not (et_test (ev_callc (ea_cons (ev_var rfl) (ea_cons ev_int (ea_cons ev_int ea_nil))) ⟨_, _, _, _, rfl, hT, rfl⟩))) (fun _ => et_or' (et_not (et_test (ev_callc (ea_cons ex (ea_cons ev_int (ea_cons ev_int ea_nil))) ⟨_, _, _, _, rfl, rfl, rfl⟩))) (fun _ => et_not (et_test (ev_callc (ea_cons ey (ea_cons ev_int (ea_cons (ev_var rfl) ea_nil))) ⟨_, _, _, _, rfl, hTy, rfl⟩))))) ?_) (fun _ => ho_retc (ev_eq ev_bl ?_) ⟨rfl, rfl⟩) (fun h => by cases h))
        · rw [h2, h3, h4']; rfl
        · congr 1
          cases q : NT.paperT n with
          | none => rfl
          | some p =>
            have hb := paperT_bound h1 hn q
            cases y with
            | int b =>
              show false = (decide ((p.1 : Int) = a) && decide ((p.2 : Int) = b))
              rw [eq_comm, Bool.and_eq_false_iff]
              right
              rw [decide_eq_false_iff_not]
              intro hpb
              rw [dWhole_int, Bool.and_eq_false_iff, decide_eq_false_iff_not, decide_eq_false_iff_not] at h4'
              omega
            | _ => rfl
    · have h3' : dWhole x 1 140 = false := by simpa using h3
      refine ho_seq (ho_ifc (b := true) (et_or (a := false) (c1 := none) (et_eq (et_not (et_test (ev_callc (ea_cons (ev_var rfl) (ea_cons ev_int (ea_cons ev_int ea_nil))) ⟨_, _, _, _, rfl, hT, rfl⟩))) (by rw [h2]; rfl)) (fun _ => et_or (a := true) (c1 := none) (et_eq (et_not (et_test (ev_callc (ea_cons ex (ea_cons ev_int (ea_cons ev_int ea_nil))) ⟨_, _, _, _, rfl, hTx, rfl⟩))) (by rw [h3']; rfl)) (fun h => by cases h) (fun _ => ⟨rfl, rfl⟩)) (fun h => by cases h)) (fun _ => ho_retc (ev_eq ev_bl ?_) ⟨rfl, rfl⟩) (fun h => by cases h))
      congr 1
      cases q : NT.paperT n with
      | none => rfl
      | some p =>
        have hb := paperT_bound h1 hn q
        cases x with
        | int a =>
          cases y with
          | int b =>
            show false = (decide ((p.1 : Int) = a) && decide ((p.2 : Int) = b))
            rw [eq_comm, Bool.and_eq_false_iff]
            left
            rw [decide_eq_false_iff_not]
            intro hpb
            rw [dWhole_int, Bool.and_eq_false_iff, decide_eq_false_iff_not, decide_eq_false_iff_not] at h3'
            omega
          | _ => rfl
        | _ => rfl
  · have h2' : dTup v 2 2 = false := by simpa using h2
    refine ho_seq (ho_ifc (b := true) (et_or (a := true) (c1 := none) (et_eq (et_not (et_test (ev_callc (ea_cons (ev_var rfl) (ea_cons ev_int (ea_cons ev_int ea_nil))) ⟨_, _, _, _, rfl, hT, rfl⟩))) (by rw [h2']; rfl)) (fun h => by cases h) (fun _ => ⟨rfl, rfl⟩)) (fun _ => ho_retc (ev_eq ev_bl ?_) ⟨rfl, rfl⟩) (fun h => by cases h))
    congr 1
    cases NT.paperT n with
    | none => rfl
    | some p =>
      cases v with
      | tup xs =>
        match xs, h2' with
        | [], _ => rfl
        | [x], _ => cases x <;> rfl
        | [_, _], h => cases h
        | x :: y :: _ :: _, _ => cases x <;> first | rfl | (cases y <;> rfl)
      | _ => rfl
theorem tab_step : ∀ t, t ≤ 69 → NT.tab.filter (fun p => decide (p ≤ t + 1)) = NT.tab.filter (fun p => decide (p ≤ t)) ++ (if NT.tab.contains (t + 1) then [t + 1] else []) := by
  have : (List.range 70).all (fun t => decide (NT.tab.filter (fun p => decide (p ≤ t + 1)) = NT.tab.filter (fun p => decide (p ≤ t)) ++ (if NT.tab.contains (t + 1) then [t + 1] else []))) = true := by decide +kernel
  intro t ht
  rw [List.all_eq_true] at this
  exact of_decide_eq_true (this t (List.mem_range.mpr (by omega)))
def evTo (n : Nat) : List Nat := (NT.tab.filter fun p => decide (NT.pn p ≤ n)).map NT.pn
theorem ev_pn {K : PySem.W.Frag} {t : Nat} (ht : t ≤ 70) {ρ : List Sl} {c : Cup} {k : Nat} (hk : ρ[k]? = some (.dat (.int (t : Int)))) : Ev (tOp (rMul K) (tOp (rI CPow fun i j => .int (i * 2 ^ j.toNat)) (tC (.int 1)) (tVar k)) (tOp (rI0 fun i j => .int (i - j)) (tOp (rI CPow fun i j => .int (i * 2 ^ j.toNat)) (tC (.int 1)) (tOp (rAdd K) (tVar k) (tC (.int 1)))) (tC (.int 1)))) ρ c (.int ((NT.pn (t + 1) : Nat) : Int)) c := by
  have b1 : (2 : Int) ^ t ≤ 10 ^ 30 := by
    have : 2 ^ t ≤ 2 ^ 70 := Nat.pow_le_pow_right (by decide) ht
    exact_mod_cast Nat.le_trans this (by decide)
  have b2 : (2 : Int) ^ (t + 1) ≤ 10 ^ 30 := by
    have : 2 ^ (t + 1) ≤ 2 ^ 71 := Nat.pow_le_pow_right (by decide) (by omega)
    exact_mod_cast Nat.le_trans this (by decide)
  have b3 : (0 : Int) < 2 ^ t := by
    have : 0 < 2 ^ t := Nat.pow_pos (by decide)
    exact_mod_cast this
  have b4 : (0 : Int) < 2 ^ (t + 1) := by
    have : 0 < 2 ^ (t + 1) := Nat.pow_pos (by decide)
    exact_mod_cast this
  have e1 : ((t : Int) + 1).toNat = t + 1 := by omega
  refine ev_eq (ev_binc (ev_binc ev_int.b (ev_var hk).b (ro_shl (by omega) (by omega) (by decide))).b (ev_binc (ev_binc ev_int.b (ev_binc (ev_var hk).b ev_int.b ro_add).b (ro_shl (by omega) (by omega) (by decide))).b ev_int.b ro_sub).b (ro_mul ?_)) ?_
  · rw [e1, Int.toNat_natCast]
    exact cm_of (by omega) (by omega) (by omega) (by omega)
  · rw [e1, Int.toNat_natCast, Int.one_mul, Int.one_mul]
    apply dint
    unfold NT.pn
    have e2 : 1 ≤ 2 ^ (t + 1) := Nat.pow_pos (by decide)
    rw [Nat.add_sub_cancel, Int.natCast_mul, Int.natCast_sub e2, Int.natCast_pow, Int.natCast_pow]
    rfl
def R_even_perfect_to (ds : List D) (d : D) : Prop := ∃ n : Nat, 1 ≤ n ∧ n ≤ 10 ^ 40 ∧ ds = [.int n] ∧ d = .tup (nlD (evTo n))
abbrev N_even_perfect_to : List Str := ["great", "found", "times"]
theorem sc_even_perfect_to : FnScope N_even_perfect_to ["great"] (defScope s_even_perfect_to) := ⟨rfl, rfl, rfl, by decide +kernel, rfl, by decide +kernel, by decide +kernel⟩
theorem cal_even_perfect_to (T : Txt K mg) : Cal P w K mg base CX0 "even_perfect_to" 5 ["great"] (SpR R_even_perfect_to) := by
  refine calOf (d := d_even_perfect_to) (N := N_even_perfect_to) (ps := ["great"]) (k := 4) T 15 sc_even_perfect_to (fun _ _ _ _ _ _ us hl => match us, hl with | [_], _ => rfl) (by rintro ds e ⟨_, _, _, rfl, _⟩; rfl) (fun cdv A outer s H E hr => ⟨_, PSs.nox (pss_cons (ps_expr (kcall (cal_need_great T) (hr.mono (by decide)) (pa_cons (pv 0) pa_nil)))
    (pss_cons (ps_par (i := 1) (j := 2) rfl sc_even_perfect_to.nd rfl rfl (by decide) rfl rfl (pa_cons (pe_lst pa_nil) (pa_cons pe_int pa_nil)) rfl)
    (pss_cons (ps_while PassesOwn.never (pt_cmpR op_le (pe_op (kmul K) (pe_op op_shl pe_int (pv 2)) (pe_op op_sub (pe_op op_shl pe_int (pe_op (kadd K) (pv 2) pe_int)) pe_int)) (pv 0) (nomark _)) (pss_cons (ps_if (pt_val (kcall (cal_is_lone T) (hr.mono (by decide)) (pa_cons (pe_op (kadd K) (pv 2) pe_int) pa_nil))) (pss_one (ps_expr (kappend K (pv 1) (pe_op (kmul K) (pe_op op_shl pe_int (pv 2)) (pe_op op_sub (pe_op op_shl pe_int (pe_op (kadd K) (pv 2) pe_int)) pe_int))))) pss_nil)
    (pss_one (ps_set (i := 2) sc_even_perfect_to.nd rfl (by first | exact Or.inl rfl | exact Or.inr rfl) (pe_op (kadd K) (pv 2) pe_int)))))
    (pss_one (ps_ret (pe_callTy (ktuple K) (by rfl) T.f_tuple (by decide +kernel) (pa_cons (pv 1) pa_nil))))))), ?_⟩)
  rintro ds d ⟨n, h1, hn, rfl, rfl⟩
  show Ho _ [.dat (.int n), .dead, .dead] none _
  have hn' : (n : Int) ≤ 10 ^ 40 := by exact_mod_cast hn
  refine ho_seq (ho_exprc (ev_call (ea_cons (ev_var rfl) ea_nil) ⟨_, rfl, by omega, hn', rfl⟩) ?_)
  refine ho_seq (hx_par (ex_own (en_lst ea_nil (by decide)) (ex_dat ev_int ex_nil)) ?_)
  refine ho_seq (ho_whilec (fun m ρ => ∃ t : Nat, ρ = [.dat (.int n), .own (nlD ((NT.tab.filter fun p => decide (p ≤ t)).map NT.pn)), .dat (.int t)] ∧ 1 ≤ t ∧ t ≤ 69 ∧ NT.pn t ≤ n ∧ m + t = 70) 69 ⟨1, rfl, by decide, by decide, h1, rfl⟩ ?_)
  rintro m ρ ⟨t, rfl, ht1, ht, hpn, hm⟩
  refine ⟨decide (((NT.pn (t + 1) : Nat) : Int) ≤ n), et_test (ev_binc (ev_pn (by omega) rfl).b (ev_var rfl).b ro_le), fun h => ?_, fun h => ?_⟩
  · rw [decide_eq_true_iff] at h
    have hle : NT.pn (t + 1) ≤ n := by omega
    have hb := NT.pn_big (p := t + 1) (by omega) (by omega)
    have hst := tab_step t ht
    have hlone := NT.lone_tab (t + 1) (by omega)
    refine ho_seq (ho_ifc (b := NT.loneB (t + 1)) (et_test (ev_callc (ea_cons (ev_binc (ev_var rfl).b ev_int.b ro_add) ea_nil) ⟨t + 1, by omega, by omega, rfl, rfl⟩)) (fun h => ?_) (fun h => ?_))
    · rw [hlone] at h
      rw [if_pos h] at hst
      refine ho_appendc (ev_pn (by omega) rfl) rfl ?_ ?_
      · rw [nlD_len, List.length_map]
        exact Nat.lt_of_le_of_lt (List.length_filter_le _ _) (by decide)
      · refine ho_asgc (d := .int ((t + 1 : Nat) : Int)) (ev_binc (ev_var rfl).b ev_int.b ro_add) ⟨rfl, m - 1, by omega, t + 1, ?_, by omega, by omega, hle, by omega⟩
        rw [hst]
        simp [nlD]
    · rw [hlone] at h
      rw [if_neg (by rw [h]; exact Bool.false_ne_true)] at hst
      refine ho_next (ho_asgc (d := .int ((t + 1 : Nat) : Int)) (ev_binc (ev_var rfl).b ev_int.b ro_add) ⟨rfl, m - 1, by omega, t + 1, ?_, by omega, by omega, hle, by omega⟩)
      rw [hst, List.append_nil]
      rfl
  · rw [decide_eq_false_iff_not] at h
    refine ho_retc (ev_cbc (eb_cons (c1 := none) (eb_own rfl) eb_nil) (co_tuple (.inl rfl))) ⟨?_, rfl⟩
    unfold evTo
    congr 3
    apply List.filter_congr
    intro p hp
    have hp2 := (NT.tab_pos p hp).1
    rw [decide_eq_decide]
    constructor
    · intro z
      exact Nat.le_trans (NT.pn_mono (by omega) z) hpn
    · intro z
      apply Nat.le_of_not_lt
      intro hc
      have := NT.pn_mono (p := t + 1) (q := p) (by omega) hc
      omega
def R__law_is_prime (ds : List D) (d : D) : Prop := ∃ n : Nat, n ≤ 10 ^ 20 ∧ ds = [.int n] ∧ d = .bl (NT.prB n)
abbrev N__law_is_prime : List Str := ["number", "found"]
theorem sc__law_is_prime : FnScope N__law_is_prime ["number"] (defScope s__law_is_prime) := ⟨rfl, rfl, rfl, by decide +kernel, rfl, by decide +kernel, by decide +kernel⟩
theorem cal__law_is_prime (T : Txt K mg) : Cal P w K mg base CX0 "_law_is_prime" 1 ["number"] (SpR R__law_is_prime) := by
  refine calOf (d := d__law_is_prime) (N := N__law_is_prime) (ps := ["number"]) (k := 0) T 26 sc__law_is_prime (fun _ _ _ _ _ _ us hl => match us, hl with | [_], _ => rfl) (by rintro ds e ⟨_, _, rfl, _⟩; rfl) (fun cdv A outer s H E hr => ⟨_, PSs.nox (pss_cons (ps_if (pt_cmpR op_lt (pv 0) pe_int (nomark _)) (pss_one (ps_ret pe_bl)) pss_nil)
    (pss_cons (ps_set (i := 1) sc__law_is_prime.nd rfl (by first | exact Or.inl rfl | exact Or.inr rfl) pe_int)
    (pss_cons (ps_while PassesOwn.never (pt_cmpR op_le (pe_op (kmul K) (pv 1) (pv 1)) (pv 0) (nomark _)) (pss_cons (ps_if (pt_cmpR (keq K hr.units) (pe_op op_mod (pe_callTy call_intP (by rfl) T.f_int (by decide +kernel) (pa_cons (pv 0) pa_nil)) (pv 1)) pe_int (nomark _)) (pss_one (ps_ret pe_bl)) pss_nil)
    (pss_one (ps_set (i := 1) sc__law_is_prime.nd rfl (by first | exact Or.inl rfl | exact Or.inr rfl) (pe_op (kadd K) (pv 1) pe_int)))))
    (pss_one (ps_ret pe_bl))))), ?_⟩)
  rintro ds d ⟨n, hn, rfl, rfl⟩
  show Ho _ [.dat (.int n), .dead] none _
  refine ho_seq (ho_ifc (b := decide ((n : Int) < 2)) (et_test (ev_binc (ev_var rfl).b ev_int.b ro_lt)) (fun h => ?_) (fun h => ?_))
  · rw [decide_eq_true_iff] at h
    refine ho_retc (ev_eq ev_bl ?_) ⟨rfl, rfl⟩
    unfold NT.prB
    rw [decide_eq_false (by omega), Bool.false_and]
  · rw [decide_eq_false_iff_not] at h
    have h2 : 2 ≤ n := by omega
    refine ho_next (ho_seq (ho_asgc ev_int ?_))
    refine ho_seq (ho_whilec (fun m ρ => ∃ k : Nat, ρ = [.dat (.int n), .dat (.int k)] ∧ 2 ≤ k ∧ k ≤ n + 1 ∧ NT.NoD k n ∧ m + k = n + 1) (n - 1) ⟨2, rfl, by omega, by omega, fun d a b => by omega, by omega⟩ ?_)
    rintro m ρ ⟨k, rfl, hk2, hkn, hno, hm⟩
    refine ⟨decide ((k : Int) * k ≤ n), et_test (ev_binc (ev_binc (ev_var rfl).b (ev_var rfl).b (ro_mul (cm_nat (by omega) (by omega)))).b (ev_var rfl).b ro_le), fun h => ?_, fun h => ?_⟩
    · have hkk : k * k ≤ n := by rw [decide_eq_true_iff] at h; exact_mod_cast h
      have hkn2 : k ≤ n := Nat.le_trans (Nat.le_mul_self k) hkk
      refine ho_seq (ho_ifc (b := decide ((n : Int) % (k : Int) = 0)) (et_test (ev_binc (ev_binc (ev_cbc (eb_cons (c1 := none) (ev_var rfl).b eb_nil) co_int).b (ev_var rfl).b (ro_mod (by omega))).b ev_int.b ro_eqI)) (fun h => ?_) (fun h => ?_))
      · have hd : k ∣ n := by rw [decide_eq_true_iff] at h; rw [Nat.dvd_iff_mod_eq_zero]; omega
        refine ho_retc (ev_eq ev_bl ?_) ⟨rfl, rfl⟩
        congr 1
        rw [eq_comm, ← Bool.not_eq_true, NT.prB_iff]
        intro hp
        have := (hno.lpf hk2 hd).prime_iff.mpr hp
        subst this
        have : k * 2 ≤ k * k := Nat.mul_le_mul_left k hk2
        omega
      · have hd : ¬ k ∣ n := by rw [decide_eq_false_iff_not] at h; rw [Nat.dvd_iff_mod_eq_zero]; omega
        exact ho_next (ho_asgc (d := .int ((k + 1 : Nat) : Int)) (ev_binc (ev_var rfl).b ev_int.b ro_add) ⟨rfl, m - 1, by omega, k + 1, rfl, by omega, by omega, hno.succ hd, by omega⟩)
    · have hkk : n < k * k := by
        rw [decide_eq_false_iff_not] at h
        have : ¬ (k * k ≤ n) := fun z => h (by exact_mod_cast z)
        omega
      refine ho_retc (ev_eq ev_bl ?_) ⟨rfl, rfl⟩
      rw [(NT.prB_iff n).mpr (hno.prime h2 hkk).pr]

end
end Hd

namespace Hd
open PySem PySem.Spec PyProof.Rows L2
open PL
local macro_rules | `(tactic| walk_at "ro") => `(tactic| first
  | with_reducible exact ro_add | with_reducible exact ro_sub | with_reducible exact ro_lt | with_reducible exact ro_le | with_reducible exact ro_gt | with_reducible exact ro_ge | with_reducible exact ro_eqI | with_reducible exact ro_neI
  | with_reducible exact ro_isN | with_reducible exact ro_notN
  | with_reducible refine' ro_mul ?_ | with_reducible refine' ro_fdiv ?_ | with_reducible refine' ro_mod ?_
  | with_reducible refine' ro_eq ?_ ?_ | with_reducible refine' ro_ne ?_ ?_
  | with_reducible refine' ro_ixL ?_ | with_reducible refine' ro_ixT ?_ | with_reducible refine' ro_catT ?_ | with_reducible refine' RON.ro (ron_cat ?_))
local macro_rules | `(tactic| walk_at "ev1") => `(tactic| first
  | with_reducible exact ev_int | with_reducible exact ev_bl | with_reducible exact ev_non | with_reducible exact ev_str | exact ev_var rfl | exact eb_own rfl | exact (ev_var rfl).b
  | with_reducible exact ea_nil | with_reducible exact eb_nil | with_reducible exact ex_nil | with_reducible exact et_yes
  | with_reducible refine' ea_cons ?_ ?_ | with_reducible refine' eb_cons ?_ ?_
  | with_reducible refine' ev_bin ?_ ?_ ?_ | walk_at "ro"
  | with_reducible refine' ev_cb ?_ ?_
  | with_reducible refine' ev_tup ?_ (by first | decide | (simp; done) | (simp; decide))
  | with_reducible refine' et_test ?_ | with_reducible refine' et_B ?_ | with_reducible refine' et_not ?_
  | with_reducible refine' ev_neg ?_
  | with_reducible exact co_lenL | with_reducible exact co_lenT | with_reducible exact co_abs | with_reducible exact co_int | with_reducible exact co_max2 | with_reducible exact co_min2 | with_reducible exact co_sum
  | with_reducible refine' co_tuple (.inl rfl)
  | with_reducible exact ev_op
  | with_reducible refine' EvN.ev (en_lst ?_ (by first | decide | (simp; done) | (simp; decide)))
  | with_reducible refine' Ev.b ?_)
local macro_rules | `(tactic| walk_at "side") => `(tactic| first | (with_reducible refine cm_of ?_ ?_ ?_ ?_ <;> omega) | (with_reducible refine cdiv_of ?_ ?_ <;> omega) | omega | rfl | assumption)
local macro_rules | `(tactic| walk_at "ev") => `(tactic| (all_goals (repeat' walk_at "ev1")); all_goals (try walk_at "side"))
local macro_rules | `(tactic| walk_at "dsl") => `(tactic| (try dsimp only [List.set]))
local macro_rules | `(tactic| walk_at "asg") => `(tactic| (refine' ho_seq (ho_asg ?ha ?hn); walk_at "ev"; walk_at "dsl"))
local macro_rules | `(tactic| walk_at "asg'") => `(tactic| (refine' ho_asg ?ha ?hn; walk_at "ev"; walk_at "dsl"))
local macro_rules | `(tactic| walk_at "par") => `(tactic| (refine' ho_seq (hx_par (ex_dat ?ha (ex_dat ?hb ex_nil)) ?hn); walk_at "ev"; walk_at "dsl"))
local macro_rules | `(tactic| walk_at "par'") => `(tactic| (refine' hx_par (ex_dat ?ha (ex_dat ?hb ex_nil)) ?hn; walk_at "ev"; walk_at "dsl"))
local macro_rules | `(tactic| walk_at "ret") => `(tactic| (refine' ho_ret ?ha ?hn; walk_at "ev"; walk_at "dsl"))
local macro_rules | `(tactic| walk_at "if") => `(tactic| (refine' ho_if ?ha ?ht ?hf; walk_at "ev"))
local macro_rules | `(tactic| walk_at "len") => `(tactic| first | decide | (refine Nat.le_trans (m := 1000) ?_ (by decide); simp [nlD]; done))
local macro_rules | `(tactic| walk_at "fit") => `(tactic| repeat' first | exact fit_int | exact fit_bl | exact fit_non | exact fits_nil | exact fits_nl | refine fits_cons ?_ ?_ | (refine fit_lst (by walk_at "len") ?_) | (refine fit_tup (by walk_at "len") ?_))
local macro_rules | `(tactic| walk_at "lit") => `(tactic| repeat' first | exact ea_nil | refine' ea_cons ?_ ?_ | exact ev_int | exact ev_bl | exact ev_non | exact ev_str | exact ev_neg (ev_int).b | exact ev_var rfl | refine' ev_tup ?_ (by walk_at "len") | refine' EvN.ev (en_lst ?_ (by walk_at "len")))
section
variable {P : Program} {w : World} {K : PySem.W.Frag} {mg : Str → Option Value} {base : Heap}
def kindOf (n w : Nat) : Str := if w = 2 * n then "perfect" else if w < 2 * n then "less" else "more"
def R_kind_by (ds : List D) (d : D) : Prop := ∃ n w : Nat, n ≤ 10 ^ 40 ∧ ds = [.int n, .int w] ∧ d = .str (kindOf n w)
abbrev N_kind_by : List Str := ["number", "whole"]
theorem sc_kind_by : FnScope N_kind_by ["number", "whole"] (defScope s_kind_by) := ⟨rfl, rfl, rfl, by decide +kernel, rfl, by decide +kernel, by decide +kernel⟩
theorem cal_kind_by (T : Txt K mg) : Cal P w K mg base CX0 "kind_by" 1 ["number", "whole"] (SpR R_kind_by) := by
  refine calOf (d := d_kind_by) (N := N_kind_by) (ps := ["number", "whole"]) (k := 0) T 19 sc_kind_by (fun _ _ _ _ _ _ us hl => match us, hl with | [_, _], _ => rfl) (by rintro ds e ⟨_, _, _, rfl, _⟩; rfl) (fun cdv A outer s H E hr => ⟨_, PSs.nox (pss_cons (ps_if (pt_cmpR (keq K hr.units) (pv 1) (pe_op (kmul K) pe_int (pv 0)) (nomark _)) (pss_one (ps_ret pe_str)) pss_nil)
    (pss_one (ps_ret (pe_ifExp (pt_cmpR op_lt (pv 1) (pe_op (kmul K) pe_int (pv 0)) (nomark _)) pe_str pe_str)))), ?_⟩)
  rintro ds d ⟨n, w, hn, rfl, rfl⟩
  show Ho _ [.dat (.int n), .dat (.int w)] none _
  unfold kindOf
  refine ho_seq (ho_ifc (b := decide ((w : Int) = 2 * n)) (by walk_at "ev") (fun h => ?_) (fun h => ?_))
  · rw [decide_eq_true_iff] at h
    rw [if_pos (by omega)]
    exact ho_retc ev_str ⟨rfl, rfl⟩
  · rw [decide_eq_false_iff_not] at h
    rw [if_neg (by omega)]
    refine ho_next (ho_retc (ev_ifc (b := decide ((w : Int) < 2 * n)) (by walk_at "ev") (fun h => ?_) (fun h => ?_)) ⟨rfl, rfl⟩)
    · rw [decide_eq_true_iff] at h
      rw [if_pos (by omega)]
      exact ev_str
    · rw [decide_eq_false_iff_not] at h
      rw [if_neg (by omega)]
      exact ev_str
def R_divisor_sum (ds : List D) (d : D) : Prop := ∃ n : Nat, 1 ≤ n ∧ n ≤ 10 ^ 10 ∧ ds = [.int n] ∧ d = .int ((NT.sig 1 n : Nat) : Int)
def R_part_sum (ds : List D) (d : D) : Prop := ∃ n : Nat, 1 ≤ n ∧ n ≤ 10 ^ 10 ∧ ds = [.int n] ∧ d = .int ((NT.sig 1 n : Nat) - n : Int)
def R_count_divisors (ds : List D) (d : D) : Prop := ∃ n : Nat, 1 ≤ n ∧ n ≤ 10 ^ 10 ∧ ds = [.int n] ∧ d = .int ((NT.sig 0 n : Nat) : Int)
def R_power_sum (ds : List D) (d : D) : Prop := ∃ n t : Nat, 1 ≤ n ∧ n ≤ 10 ^ 10 ∧ t ≤ 6 ∧ ds = [.int n, .int t] ∧ d = .int ((NT.sig t n : Nat) : Int)
def R_kind_of_number (ds : List D) (d : D) : Prop := ∃ n : Nat, 1 ≤ n ∧ n ≤ 10 ^ 10 ∧ ds = [.int n] ∧ d = .str (kindOf n (NT.sig 1 n))
abbrev N_kind_of_number : List Str := ["number"]
theorem sc_kind_of_number : FnScope N_kind_of_number ["number"] (defScope s_kind_of_number) := ⟨rfl, rfl, rfl, by decide +kernel, rfl, by decide +kernel, by decide +kernel⟩
theorem cal_kind_of_number (T : Txt K mg) : Cal P w K mg base CX0 "kind_of_number" 5 ["number"] (SpR R_kind_of_number) := by
  refine calOf (d := d_kind_of_number) (N := N_kind_of_number) (ps := ["number"]) (k := 4) T 20 sc_kind_of_number (fun _ _ _ _ _ _ us hl => match us, hl with | [_], _ => rfl) (by rintro ds e ⟨_, _, _, rfl, _⟩; rfl) (fun cdv A outer s H E hr => ⟨_, PSs.nox (pss_cons (ps_expr (kcall (cal_need_number T) (hr.mono (by decide)) (pa_cons (pv 0) pa_nil)))
    (pss_one (ps_ret (kcall (cal_kind_by T) (hr.mono (by decide)) (pa_cons (pv 0) (pa_cons (kcall (cal_summed T) (hr.mono (by decide)) (pa_cons (pv 0) (pa_cons pe_int pa_nil))) pa_nil)))))), ?_⟩)
  rintro ds d ⟨n, h1, hn, rfl, rfl⟩
  show Ho _ [.dat (.int n)] none _
  refine ho_seq (ho_exprc (ev_call (ea_cons (ev_var rfl) ea_nil) ⟨_, rfl, by omega, by omega, rfl⟩) ?_)
  exact ho_retc (ev_callc (ea_cons (ev_var rfl) (ea_cons (ev_callc (ea_cons (ev_var rfl) (ea_cons ev_int ea_nil)) ⟨n, 1, h1, hn, by decide, rfl, rfl⟩) ea_nil)) ⟨n, _, Nat.le_trans hn (by decide), rfl, rfl⟩) ⟨rfl, rfl⟩
def rateD (n : Nat) : D := .tup [.int ((NT.sig 1 n / Nat.gcd (NT.sig 1 n) n : Nat) : Int), .int ((n / Nat.gcd (NT.sig 1 n) n : Nat) : Int)]
def R_divisor_rate (ds : List D) (d : D) : Prop := ∃ n : Nat, 1 ≤ n ∧ n ≤ 10 ^ 10 ∧ ds = [.int n] ∧ d = rateD n
end
end Hd

namespace Hd
open PySem PySem.Spec PyProof.Rows L2
open PL
local macro_rules | `(tactic| walk_at "ro") => `(tactic| first
  | with_reducible exact ro_add | with_reducible exact ro_sub | with_reducible exact ro_lt | with_reducible exact ro_le | with_reducible exact ro_gt | with_reducible exact ro_ge | with_reducible exact ro_eqI | with_reducible exact ro_neI
  | with_reducible exact ro_isN | with_reducible exact ro_notN
  | with_reducible refine' ro_mul ?_ | with_reducible refine' ro_fdiv ?_ | with_reducible refine' ro_mod ?_
  | with_reducible refine' ro_eq ?_ ?_ | with_reducible refine' ro_ne ?_ ?_
  | with_reducible refine' ro_ixL ?_ | with_reducible refine' ro_ixT ?_ | with_reducible refine' ro_catT ?_ | with_reducible refine' RON.ro (ron_cat ?_))
local macro_rules | `(tactic| walk_at "ev1") => `(tactic| first
  | with_reducible exact ev_int | with_reducible exact ev_bl | with_reducible exact ev_non | with_reducible exact ev_str | exact ev_var rfl | exact eb_own rfl | exact (ev_var rfl).b
  | with_reducible exact ea_nil | with_reducible exact eb_nil | with_reducible exact ex_nil | with_reducible exact et_yes
  | with_reducible refine' ea_cons ?_ ?_ | with_reducible refine' eb_cons ?_ ?_
  | with_reducible refine' ev_bin ?_ ?_ ?_ | walk_at "ro"
  | with_reducible refine' ev_cb ?_ ?_
  | with_reducible refine' ev_tup ?_ (by first | decide | (simp; done) | (simp; decide))
  | with_reducible refine' et_test ?_ | with_reducible refine' et_B ?_ | with_reducible refine' et_not ?_
  | with_reducible refine' ev_neg ?_
  | with_reducible exact co_lenL | with_reducible exact co_lenT | with_reducible exact co_abs | with_reducible exact co_int | with_reducible exact co_max2 | with_reducible exact co_min2 | with_reducible exact co_sum
  | with_reducible refine' co_tuple (.inl rfl)
  | with_reducible exact ev_op
  | with_reducible refine' EvN.ev (en_lst ?_ (by first | decide | (simp; done) | (simp; decide)))
  | with_reducible refine' Ev.b ?_)
local macro_rules | `(tactic| walk_at "side") => `(tactic| first | (with_reducible refine cm_of ?_ ?_ ?_ ?_ <;> omega) | (with_reducible refine cdiv_of ?_ ?_ <;> omega) | omega | rfl | assumption)
local macro_rules | `(tactic| walk_at "ev") => `(tactic| (all_goals (repeat' walk_at "ev1")); all_goals (try walk_at "side"))
local macro_rules | `(tactic| walk_at "dsl") => `(tactic| (try dsimp only [List.set]))
local macro_rules | `(tactic| walk_at "asg") => `(tactic| (refine' ho_seq (ho_asg ?ha ?hn); walk_at "ev"; walk_at "dsl"))
local macro_rules | `(tactic| walk_at "asg'") => `(tactic| (refine' ho_asg ?ha ?hn; walk_at "ev"; walk_at "dsl"))
local macro_rules | `(tactic| walk_at "par") => `(tactic| (refine' ho_seq (hx_par (ex_dat ?ha (ex_dat ?hb ex_nil)) ?hn); walk_at "ev"; walk_at "dsl"))
local macro_rules | `(tactic| walk_at "par'") => `(tactic| (refine' hx_par (ex_dat ?ha (ex_dat ?hb ex_nil)) ?hn; walk_at "ev"; walk_at "dsl"))
local macro_rules | `(tactic| walk_at "ret") => `(tactic| (refine' ho_ret ?ha ?hn; walk_at "ev"; walk_at "dsl"))
local macro_rules | `(tactic| walk_at "if") => `(tactic| (refine' ho_if ?ha ?ht ?hf; walk_at "ev"))
local macro_rules | `(tactic| walk_at "len") => `(tactic| first | decide | (refine Nat.le_trans (m := 1000) ?_ (by decide); simp [nlD]; done))
local macro_rules | `(tactic| walk_at "fit") => `(tactic| repeat' first | exact fit_int | exact fit_bl | exact fit_non | exact fits_nil | exact fits_nl | refine fits_cons ?_ ?_ | (refine fit_lst (by walk_at "len") ?_) | (refine fit_tup (by walk_at "len") ?_))
local macro_rules | `(tactic| walk_at "lit") => `(tactic| repeat' first | exact ea_nil | refine' ea_cons ?_ ?_ | exact ev_int | exact ev_bl | exact ev_non | exact ev_str | exact ev_neg (ev_int).b | exact ev_var rfl | refine' ev_tup ?_ (by walk_at "len") | refine' EvN.ev (en_lst ?_ (by walk_at "len")))
section
variable {P : Program} {w : World} {K : PySem.W.Frag} {mg : Str → Option Value} {base : Heap}
theorem cut_to (xs : List D) (i : Nat) : PL.cutD xs none (some (i : Int)) = xs.take i := by
  unfold PL.cutD
  rw [HT.sIx_none, HT.sIx_nat, List.drop_zero, Nat.sub_zero]
  rcases Nat.le_total i xs.length with h | h
  · rw [Nat.min_eq_left h]
  · rw [Nat.min_eq_right h, List.take_length, List.take_of_length_le h]
theorem cut_from (xs : List D) (i : Nat) : PL.cutD xs (some (i : Int)) none = xs.drop i := by
  unfold PL.cutD
  rw [HT.sIx_none, HT.sIx_nat]
  rcases Nat.le_total i xs.length with h | h
  · rw [Nat.min_eq_left h, List.take_of_length_le (by rw [List.length_drop]; omega)]
  · rw [Nat.min_eq_right h, List.drop_length, List.drop_of_length_le h, List.take_nil]
def bentBase : List D := [.non, .bl true, .bl false, .int 0, .int 1, .int 2, .int 5, .int (-1), .str "", .str "divisor", .tup [], .lst [], .tup [.int 0, .int 1], .tup [.int 2]]
def pickD (L : List D) (x : Int × Int) : D × (Int × Int) := (L.getD (rollV x L.length) .non, rollC x L.length)
def bentI (x : Int × Int) (i : Int) : D × (Int × Int) := pickD (bentBase ++ [.int (i + 1), .int (i + 1), .int (i - 1)]) x
def bentT (x : Int × Int) (ns : List Int) : D × (Int × Int) :=
  if rollV x 8 = 0 then pickD bentBase (rollC x 8)
  else
    if rollV (rollC (rollC x 8) ns.length) 12 < 4 then
      ([D.tup ((ns.map D.int).take (rollV (rollC x 8) ns.length) ++ (ns.map D.int).drop (rollV (rollC x 8) ns.length + 1)), .tup ((ns.map D.int).take (rollV (rollC x 8) ns.length + 1) ++ (ns.map D.int).drop (rollV (rollC x 8) ns.length)), .lst (ns.map D.int), .tup (ns.map D.int).reverse].getD (rollV (rollC (rollC x 8) ns.length) 12) .non, rollC (rollC (rollC x 8) ns.length) 12)
    else (.tup ((ns.map D.int).take (rollV (rollC x 8) ns.length) ++ [(bentI (rollC (rollC (rollC x 8) ns.length) 12) (ns.getD (rollV (rollC x 8) ns.length) 0)).1] ++ (ns.map D.int).drop (rollV (rollC x 8) ns.length + 1)), (bentI (rollC (rollC (rollC x 8) ns.length) 12) (ns.getD (rollV (rollC x 8) ns.length) 0)).2)
theorem getD_mem {L : List D} {i : Nat} (h : i < L.length) : L.getD i .non ∈ L ∧ L[i]? = some (L.getD i .non) := by
  rw [List.getD_eq_getElem?_getD, List.getElem?_eq_getElem h]
  exact ⟨List.getElem_mem h, rfl⟩
theorem pick_ok {L : List D} {x : Int × Int} (h : 0 < L.length) (hx : CupOk x) : (pickD L x).1 ∈ L ∧ CupOk (pickD L x).2 := ⟨(getD_mem (rollV_lt x h)).1, rollC_ok hx _⟩
theorem base_fit : ∀ d ∈ bentBase, fit d 1 = true := by
  have h : fits bentBase 1 = true := by decide +kernel
  exact fits_mem h
theorem bentI_ok {x : Int × Int} (i : Int) (hx : CupOk x) : fit (bentI x i).1 1 = true ∧ CupOk (bentI x i).2 := by
  obtain ⟨h1, h2⟩ := pick_ok (L := bentBase ++ [.int (i + 1), .int (i + 1), .int (i - 1)]) (x := x) (by simp) hx
  refine ⟨?_, h2⟩
  rcases List.mem_append.mp h1 with h | h
  · exact base_fit _ h
  · show fit (pickD _ x).1 1 = true
    simp only [List.mem_cons, List.not_mem_nil, or_false] at h
    rcases h with h | h | h <;> rw [h] <;> exact fit_int
theorem fit_ints {L : List D} {n : Nat} (h : ∀ y ∈ L, ∃ i, y = .int i) (hl : L.length ≤ 10000000) : fit (.tup L) (n + 1) = true := fit_tup hl (fits_of fun y hy => by obtain ⟨i, rfl⟩ := h y hy; exact fit_int)
theorem bentT_ok {x : Int × Int} {ns : List Int} (hx : CupOk x) (h0 : 0 < ns.length) (hl : ns.length ≤ 1000000) : fit (bentT x ns).1 2 = true ∧ CupOk (bentT x ns).2 := by
  unfold bentT
  have hx1 := rollC_ok hx 8
  have hx2 := rollC_ok hx1 ns.length
  have hx3 := rollC_ok hx2 12
  have hi := rollV_lt (rollC x 8) h0
  have hm : ∀ y ∈ ns.map D.int, ∃ i, y = .int i := fun y hy => by obtain ⟨i, _, rfl⟩ := List.mem_map.mp hy; exact ⟨i, rfl⟩
  split
  · obtain ⟨h1, h2⟩ := pick_ok (L := bentBase) (x := rollC x 8) (by decide) hx1
    exact ⟨fit_mono 1 _ _ (by omega) (base_fit _ h1), h2⟩
  · split
    · refine ⟨?_, hx3⟩
      generalize rollV (rollC x 8) ns.length = j at *
      have hcase : rollV (rollC (rollC x 8) ns.length) 12 = 0 ∨ rollV (rollC (rollC x 8) ns.length) 12 = 1 ∨ rollV (rollC (rollC x 8) ns.length) 12 = 2 ∨ rollV (rollC (rollC x 8) ns.length) 12 = 3 := by omega
      rcases hcase with h | h | h | h <;> rw [h]
      · refine fit_ints (n := 1) (fun y hy => ?_) ?_
        · rcases List.mem_append.mp hy with z | z
          · exact hm y (List.mem_of_mem_take z)
          · exact hm y (List.mem_of_mem_drop z)
        · rw [List.length_append, List.length_take, List.length_drop, List.length_map]; omega
      · refine fit_ints (n := 1) (fun y hy => ?_) ?_
        · rcases List.mem_append.mp hy with z | z
          · exact hm y (List.mem_of_mem_take z)
          · exact hm y (List.mem_of_mem_drop z)
        · rw [List.length_append, List.length_take, List.length_drop, List.length_map]; omega
      · exact fit_lst (n := 1) (by rw [List.length_map]; omega) (fits_of fun y hy => by obtain ⟨i, rfl⟩ := hm y hy; exact fit_int)
      · refine fit_ints (n := 1) (fun y hy => hm y (List.mem_reverse.mp hy)) ?_
        rw [List.length_reverse, List.length_map]; omega
    · obtain ⟨r1, r2⟩ := bentI_ok (x := rollC (rollC (rollC x 8) ns.length) 12) (ns.getD (rollV (rollC x 8) ns.length) 0) hx3
      refine ⟨fit_tup (n := 1) ?_ (fits_of fun y hy => ?_), r2⟩
      · rw [List.length_append, List.length_append, List.length_take, List.length_drop, List.length_singleton, List.length_map]; omega
      · rcases List.mem_append.mp hy with z | z
        · rcases List.mem_append.mp z with w | w
          · obtain ⟨i, rfl⟩ := hm y (List.mem_of_mem_take w); exact fit_int
          · rw [List.mem_singleton] at w
            rw [w]
            exact r1
        · obtain ⟨i, rfl⟩ := hm y (List.mem_of_mem_drop z); exact fit_int
def R_bent0 (ds : List D) (x : Int × Int) (d : D) (y : Int × Int) : Prop := ∃ i : Int, CupOk x ∧ ds = [.int i] ∧ d = (bentI x i).1 ∧ y = (bentI x i).2
def R__law_bent (ds : List D) (x : Int × Int) (d : D) (y : Int × Int) : Prop := ∃ ns : List Int, CupOk x ∧ 0 < ns.length ∧ ns.length ≤ 1000000 ∧ ds = [.tup (ns.map D.int)] ∧ d = (bentT x ns).1 ∧ y = (bentT x ns).2
abbrev N__law_bent : List Str := ["cup", "value", "some", "at", "way"]
theorem sc__law_bent : FnScope N__law_bent ["cup", "value"] (defScope s__law_bent) := ⟨rfl, rfl, rfl, by decide +kernel, rfl, by decide +kernel, by decide +kernel⟩
theorem bent_0 (T : Txt K mg) : Cal P w K mg base CX0 "_law_bent" 3 ["cup", "value"] (SpC R_bent0) := by
  refine calC (d := d__law_bent) (N := N__law_bent) (ps := ["cup", "value"]) (k := 2) T 27 sc__law_bent (fun _ _ _ _ _ _ us hl => match us, hl with | [_, _], _ => rfl) (by rintro ds x e y ⟨_, _, rfl, _⟩; rfl) (fun cdv A outer s H E hr => ⟨_, PSs.nox (pss_cons (ps_if (PW.pt (pw_or (pt_not (pt_val (pe_callB (kisi K) (by rfl) T.f_isinstance (by decide +kernel) (pa_cons (pv 1) (pa_cons (kty (T := "tuple") T.f_tuple (by decide +kernel)) pa_nil))))) (pw_or (pt_cmpR (keq K hr.units) (pv 1) (pe_tup pa_nil) (nomark _)) (pw_or1 (pt_cmpR (keq K hr.units) (kcall (cal__law_roll T) (hr.mono (by first | decide | omega)) (pa_cons (pv 0) (pa_cons pe_int pa_nil))) pe_int (nomark _)))))) (pss_cons (ps_set (i := 2) sc__law_bent.nd rfl (by first | exact Or.inl rfl | exact Or.inr rfl) (pe_lst (pa_cons pe_non (pa_cons pe_bl (pa_cons pe_bl (pa_cons pe_int (pa_cons pe_int (pa_cons pe_int (pa_cons pe_int (pa_cons (pe_un un_neg pe_int) (pa_cons pe_str (pa_cons pe_str (pa_cons (pe_tup pa_nil) (pa_cons (pe_lst pa_nil) (pa_cons (pe_tup (pa_cons pe_int (pa_cons pe_int pa_nil))) (pa_cons (pe_tup (pa_cons pe_int pa_nil)) pa_nil))))))))))))))))
    (pss_cons (ps_if (pt_cmpR (keq K hr.units) (kcall (cal__law_sort T) (hr.mono (by first | decide | omega)) (pa_cons (pv 1) pa_nil)) pe_int (nomark _)) (pss_one (ps_set (i := 2) sc__law_bent.nd rfl (by first | exact Or.inl rfl | exact Or.inr rfl) (pe_op (kadd K) (pv 2) (pe_lst (pa_cons (pe_op (kadd K) (pv 1) pe_int) (pa_cons (pe_op (kadd K) (pv 1) pe_int) (pa_cons (pe_op op_sub (pv 1) pe_int) pa_nil))))))) pss_nil)
    (pss_one (ps_ret (kcall (cal__law_some T) (hr.mono (by first | decide | omega)) (pa_cons (pv 0) (pa_cons (pv 2) pa_nil))))))) pss_nil)
    (pss_cons (ps_par (i := 3) (j := 4) rfl sc__law_bent.nd rfl rfl (by decide) rfl rfl (pa_cons (kcall (cal__law_roll T) (hr.mono (by first | decide | omega)) (pa_cons (pv 0) (pa_cons (pe_callB (klen K) (by rfl) T.f_len (by decide +kernel) (pa_cons (pv 1) pa_nil)) pa_nil))) (pa_cons (kcall (cal__law_roll T) (hr.mono (by first | decide | omega)) (pa_cons (pv 0) (pa_cons pe_int pa_nil))) pa_nil)) rfl)
    (pss_cons (ps_if (pt_cmpR op_lt (pv 4) pe_int (nomark _)) (pss_one (ps_ret (pe_ix (kix K) (pe_lst (pa_cons (pe_op (kadd K) (pe_slice (ksl K) (pv 1) po_none (po_some (pv 3))) (pe_slice (ksl K) (pv 1) (po_some (pe_op (kadd K) (pv 3) pe_int)) po_none)) (pa_cons (pe_op (kadd K) (pe_slice (ksl K) (pv 1) po_none (po_some (pe_op (kadd K) (pv 3) pe_int))) (pe_slice (ksl K) (pv 1) (po_some (pv 3)) po_none)) (pa_cons (pe_callTy (klist K) (by rfl) T.f_list (by decide +kernel) (pa_cons (pv 1) pa_nil)) (pa_cons (krevP K (pv 1)) pa_nil))))) (pv 4) (fun _ _ => rfl)))) pss_nil)
    (pss_one ps_never)))), ?_⟩)
  rintro ds x d y ⟨i, hx, rfl, rfl, rfl⟩
  show Ho _ [.cup, .dat (.int i), .dead, .dead, .dead] (some x) _
  refine ho_seq (ho_if (b := true) (c1 := some x) (et_or (a := true) (c1 := some x) (et_eq (et_not (et_test (ev_cbc (eb_cons (c1 := some x) (ev_var rfl).b (eb_cons ev_op.b eb_nil)) (co_isi (T := "int") (U := "tuple") rfl (by decide))))) rfl) (fun h => by cases h) (fun _ => ⟨rfl, rfl⟩)) (fun _ => ?_) (fun h => by cases h))
  refine ho_seq (ho_asgc (d := .lst bentBase) (EvN.ev (en_lst (by unfold bentBase; walk_at "lit") (by decide))) ?_)
  refine ho_seq (ho_ifc (b := true) (et_eq (et_test (ev_binc (ev_callc (ea_cons (ev_var rfl) ea_nil) ⟨.int i, "int", rfl, rfl, rfl⟩).b ev_int.b ro_eqI)) rfl) (fun _ => ?_) (fun h => by cases h))
  · refine ho_asgc (EvN.ev (en_bin (c1 := some x) (ev_var rfl).b (EvN.ev (en_lst (ea_cons (ev_binc (ev_var rfl).b ev_int.b ro_add) (ea_cons (ev_binc (ev_var rfl).b ev_int.b ro_add) (ea_cons (ev_binc (ev_var rfl).b ev_int.b ro_sub) ea_nil))) (by walk_at "len"))).b (ron_cat (xs := bentBase) (ys := [D.int (i + 1), .int (i + 1), .int (i - 1)]) (show 14 + 3 ≤ sizeLine by decide)))) ?_
    have hlen : (bentBase ++ [D.int (i + 1), .int (i + 1), .int (i - 1)]).length = 17 := rfl
    exact ho_ret (ev_callC rfl (ea_cons (ev_var rfl) ea_nil) ⟨_, by rw [hlen]; decide, by rw [hlen]; decide, hx, .inl rfl, (getD_mem (rollV_lt x (by rw [hlen]; decide))).2, rfl⟩) ⟨rfl, rfl⟩
theorem cal__law_bent (T : Txt K mg) : Cal P w K mg base CX0 "_law_bent" 4 ["cup", "value"] (SpC R__law_bent) := by
  have ih := bent_0 (P := P) (w := w) (base := base) T
  refine calC (d := d__law_bent) (N := N__law_bent) (ps := ["cup", "value"]) (k := 3) T 27 sc__law_bent (fun _ _ _ _ _ _ us hl => match us, hl with | [_, _], _ => rfl) (by rintro ds x e y ⟨_, _, _, _, rfl, _⟩; rfl) (fun cdv A outer s H E hr => ⟨_, PSs.nox (pss_cons (ps_if (PW.pt (pw_or (pt_not (pt_val (pe_callB (kisi K) (by rfl) T.f_isinstance (by decide +kernel) (pa_cons (pv 1) (pa_cons (kty (T := "tuple") T.f_tuple (by decide +kernel)) pa_nil))))) (pw_or (pt_cmpR (keq K hr.units) (pv 1) (pe_tup pa_nil) (nomark _)) (pw_or1 (pt_cmpR (keq K hr.units) (kcall (cal__law_roll T) (hr.mono (by first | decide | omega)) (pa_cons (pv 0) (pa_cons pe_int pa_nil))) pe_int (nomark _)))))) (pss_cons (ps_set (i := 2) sc__law_bent.nd rfl (by first | exact Or.inl rfl | exact Or.inr rfl) (pe_lst (pa_cons pe_non (pa_cons pe_bl (pa_cons pe_bl (pa_cons pe_int (pa_cons pe_int (pa_cons pe_int (pa_cons pe_int (pa_cons (pe_un un_neg pe_int) (pa_cons pe_str (pa_cons pe_str (pa_cons (pe_tup pa_nil) (pa_cons (pe_lst pa_nil) (pa_cons (pe_tup (pa_cons pe_int (pa_cons pe_int pa_nil))) (pa_cons (pe_tup (pa_cons pe_int pa_nil)) pa_nil))))))))))))))))
    (pss_cons (ps_if (pt_cmpR (keq K hr.units) (kcall (cal__law_sort T) (hr.mono (by first | decide | omega)) (pa_cons (pv 1) pa_nil)) pe_int (nomark _)) (pss_one (ps_set (i := 2) sc__law_bent.nd rfl (by first | exact Or.inl rfl | exact Or.inr rfl) (pe_op (kadd K) (pv 2) (pe_lst (pa_cons (pe_op (kadd K) (pv 1) pe_int) (pa_cons (pe_op (kadd K) (pv 1) pe_int) (pa_cons (pe_op op_sub (pv 1) pe_int) pa_nil))))))) pss_nil)
    (pss_one (ps_ret (kcall (cal__law_some T) (hr.mono (by first | decide | omega)) (pa_cons (pv 0) (pa_cons (pv 2) pa_nil))))))) pss_nil)
    (pss_cons (ps_par (i := 3) (j := 4) rfl sc__law_bent.nd rfl rfl (by decide) rfl rfl (pa_cons (kcall (cal__law_roll T) (hr.mono (by first | decide | omega)) (pa_cons (pv 0) (pa_cons (pe_callB (klen K) (by rfl) T.f_len (by decide +kernel) (pa_cons (pv 1) pa_nil)) pa_nil))) (pa_cons (kcall (cal__law_roll T) (hr.mono (by first | decide | omega)) (pa_cons (pv 0) (pa_cons pe_int pa_nil))) pa_nil)) rfl)
    (pss_cons (ps_if (pt_cmpR op_lt (pv 4) pe_int (nomark _)) (pss_one (ps_ret (pe_ix (kix K) (pe_lst (pa_cons (pe_op (kadd K) (pe_slice (ksl K) (pv 1) po_none (po_some (pv 3))) (pe_slice (ksl K) (pv 1) (po_some (pe_op (kadd K) (pv 3) pe_int)) po_none)) (pa_cons (pe_op (kadd K) (pe_slice (ksl K) (pv 1) po_none (po_some (pe_op (kadd K) (pv 3) pe_int))) (pe_slice (ksl K) (pv 1) (po_some (pv 3)) po_none)) (pa_cons (pe_callTy (klist K) (by rfl) T.f_list (by decide +kernel) (pa_cons (pv 1) pa_nil)) (pa_cons (krevP K (pv 1)) pa_nil))))) (pv 4) (fun _ _ => rfl)))) pss_nil)
    (pss_one (ps_ret (pe_op (kadd K) (pe_op (kadd K) (pe_slice (ksl K) (pv 1) po_none (po_some (pv 3))) (pe_tup (pa_cons (kcall ih (hr.mono (by first | decide | omega)) (pa_cons (pv 0) (pa_cons (pe_ix (kix K) (pv 1) (pv 3) (fun _ _ => rfl)) pa_nil))) pa_nil))) (pe_slice (ksl K) (pv 1) (po_some (pe_op (kadd K) (pv 3) pe_int)) po_none))))))), ?_⟩)
  rintro ds x d y ⟨ns, hx, h0, hl, rfl, rfl, rfl⟩
  show Ho _ [.cup, .dat (.tup (ns.map D.int)), .dead, .dead, .dead] (some x) _
  have hx1 := rollC_ok hx 8
  have hx2 := rollC_ok hx1 ns.length
  have hx3 := rollC_ok hx2 12
  have hi := rollV_lt (rollC x 8) h0
  have hok : D.ok (.tup (ns.map D.int)) 64 = true := fit_ok (n := 1) (fit_ints (n := 0) (fun y hy => by obtain ⟨i, _, rfl⟩ := List.mem_map.mp hy; exact ⟨i, rfl⟩) (by rw [List.length_map]; omega)) (by decide)
  have hne : D.eqv (.tup (ns.map D.int)) (.tup []) = false := by
    cases ns with
    | nil => simp at h0
    | cons a r => rfl
  have hlm : (ns.map D.int).length = ns.length := List.length_map _
  refine ho_seq (ho_if (b := decide (((rollV x 8 : Nat) : Int) = 0)) (c1 := some (rollC x 8)) (et_or (a := false) (c1 := some x) (et_eq (et_not (et_test (ev_cbc (eb_cons (c1 := some x) (ev_var rfl).b (eb_cons ev_op.b eb_nil)) (co_isi (T := "tuple") (U := "tuple") rfl (by decide))))) rfl) (fun _ => et_or (a := false) (c1 := some x) (et_eq (et_test (ev_binc (ev_var rfl).b (ev_tup ea_nil (by decide)).b (ro_eq hok rfl))) hne) (fun _ => et_test (ev_bin (ev_callC rfl (ea_cons ev_int ea_nil) ⟨8, by decide, by decide, hx, rfl, rfl, rfl⟩).b ev_int.b ro_eqI)) (fun h => by cases h)) (fun h => by cases h)) (fun h => ?_) (fun h => ?_))
  · rw [decide_eq_true_iff] at h
    refine ho_seq (ho_asgc (d := .lst bentBase) (EvN.ev (en_lst (by unfold bentBase; walk_at "lit") (by decide))) ?_)
    refine ho_seq (ho_ifc (b := false) (et_eq (et_test (ev_binc (ev_callc (ea_cons (ev_var rfl) ea_nil) ⟨_, "tuple", rfl, rfl, rfl⟩).b ev_int.b ro_eqI)) rfl) (fun h => by cases h) (fun _ => ho_next ?_))
    refine ho_ret (ev_callC rfl (ea_cons (ev_var rfl) ea_nil) ⟨bentBase, by decide, by decide, hx1, .inl rfl, (getD_mem (rollV_lt (rollC x 8) (by decide))).2, rfl⟩) ?_
    unfold bentT
    rw [if_pos (by omega)]
    exact ⟨rfl, rfl⟩
  rw [decide_eq_false_iff_not] at h
  have hl' : ((ns.length : Nat) : Int) ≤ 10 ^ 100 := by omega
  refine ho_next (ho_seq (hx_par (ex_dat (ev_callC rfl (ea_cons (c1 := some (rollC x 8)) (ev_cbc (eb_cons (c1 := some (rollC x 8)) (ev_var rfl).b eb_nil) co_lenT) ea_nil) ⟨ns.length, h0, by omega, hx1, by rw [hlm], rfl, rfl⟩) (ex_dat (ev_callC rfl (ea_cons ev_int ea_nil) ⟨12, by decide, by decide, hx2, rfl, rfl, rfl⟩) ex_nil)) ?_))
  have hb : bentT x ns = if rollV (rollC (rollC x 8) ns.length) 12 < 4 then
      ([D.tup ((ns.map D.int).take (rollV (rollC x 8) ns.length) ++ (ns.map D.int).drop (rollV (rollC x 8) ns.length + 1)), .tup ((ns.map D.int).take (rollV (rollC x 8) ns.length + 1) ++ (ns.map D.int).drop (rollV (rollC x 8) ns.length)), .lst (ns.map D.int), .tup (ns.map D.int).reverse].getD (rollV (rollC (rollC x 8) ns.length) 12) .non, rollC (rollC (rollC x 8) ns.length) 12)
    else (.tup ((ns.map D.int).take (rollV (rollC x 8) ns.length) ++ [(bentI (rollC (rollC (rollC x 8) ns.length) 12) (ns.getD (rollV (rollC x 8) ns.length) 0)).1] ++ (ns.map D.int).drop (rollV (rollC x 8) ns.length + 1)), (bentI (rollC (rollC (rollC x 8) ns.length) 12) (ns.getD (rollV (rollC x 8) ns.length) 0)).2) := by
    unfold bentT
    rw [if_neg (by omega)]
  rw [hb]
  clear hb
  generalize rollV (rollC x 8) ns.length = i at *
  generalize rollC (rollC (rollC x 8) ns.length) 12 = x3 at *
  generalize rollV (rollC (rollC x 8) ns.length) 12 = v at *
  generalize hL : ns.map D.int = L at *
  have e0 : ∀ {c : Cup}, Ev (tOp (rAdd K) (tVar 3) (tC (.int 1))) [.cup, .dat (.tup L), .dead, .dat (.int i), .dat (.int v)] c (.int ((i + 1 : Nat) : Int)) c := fun {c} => ev_binc (ev_var rfl).b ev_int.b ro_add
  have e1 : ∀ {c : Cup}, Ev (tSl (rSlP K) (tVar 1) tNoPart (tPart (tVar 3))) [.cup, .dat (.tup L), .dead, .dat (.int i), .dat (.int v)] c (.tup (L.take i)) c := fun {c} => by
    rw [← cut_to]
    exact ev_slT (ev_var rfl).b eo_none (eo_some (ev_var rfl).b)
  have e2 : ∀ {c : Cup}, Ev (tSl (rSlP K) (tVar 1) (tPart (tOp (rAdd K) (tVar 3) (tC (.int 1)))) tNoPart) [.cup, .dat (.tup L), .dead, .dat (.int i), .dat (.int v)] c (.tup (L.drop (i + 1))) c := fun {c} => by
    rw [← cut_from]
    exact ev_slT (ev_var rfl).b (eo_some e0.b) eo_none
  have e3 : ∀ {c : Cup}, Ev (tSl (rSlP K) (tVar 1) tNoPart (tPart (tOp (rAdd K) (tVar 3) (tC (.int 1))))) [.cup, .dat (.tup L), .dead, .dat (.int i), .dat (.int v)] c (.tup (L.take (i + 1))) c := fun {c} => by
    rw [← cut_to]
    exact ev_slT (ev_var rfl).b eo_none (eo_some e0.b)
  have e4 : ∀ {c : Cup}, Ev (tSl (rSlP K) (tVar 1) (tPart (tVar 3)) tNoPart) [.cup, .dat (.tup L), .dead, .dat (.int i), .dat (.int v)] c (.tup (L.drop i)) c := fun {c} => by
    rw [← cut_from]
    exact ev_slT (ev_var rfl).b (eo_some (ev_var rfl).b) eo_none
  have hz : (1000001 : Nat) ≤ sizeLine := by decide
  refine ho_seq (ho_ifc (b := decide ((v : Int) < 4)) (et_test (ev_binc (ev_var rfl).b ev_int.b ro_lt)) (fun h => ?_) (fun h => ?_))
  · rw [decide_eq_true_iff] at h
    rw [if_pos (by omega)]
    have hv : v < [D.tup (L.take i ++ L.drop (i + 1)), .tup (L.take (i + 1) ++ L.drop i), .lst L, .tup L.reverse].length := by
      show v < 4
      omega
    exact ho_ret (ev_bin (c1 := some x3) (c2 := some x3) (EvN.ev (en_lst (ea_cons (ev_binc e1.b e2.b (ro_catT (by rw [List.length_take, List.length_drop]; omega))) (ea_cons (ev_binc e3.b e4.b (ro_catT (by rw [List.length_take, List.length_drop]; omega))) (ea_cons (EvN.ev (en_cb (c1 := some x3) (eb_cons (c1 := some x3) (ev_var rfl).b eb_nil) (con_list (.inr rfl)))) (ea_cons (ev_revP (ev_var rfl).b) ea_nil)))) (by walk_at "len"))).b (ev_var rfl).b (ro_ixL (atI_nat (getD_mem hv).2))) ⟨rfl, rfl⟩
  · rw [decide_eq_false_iff_not] at h
    rw [if_neg (by omega)]
    have hget : L[i]? = some (.int (ns.getD i 0)) := by
      rw [← hL, List.getElem?_map, List.getElem?_eq_getElem hi, List.getD_eq_getElem?_getD, List.getElem?_eq_getElem hi]
      rfl
    refine ho_next (ho_ret (ev_bin (ev_bin e1.b (ev_tup1 (ev_callC rfl (ea_cons (ev_binc (ev_var rfl).b (ev_var rfl).b (ro_ixT (atI_nat hget))) ea_nil) ⟨_, hx3, rfl, rfl, rfl⟩)).b (ro_catT ?_)).b e2.b (ro_catT ?_)) ⟨rfl, rfl⟩)
    · rw [List.length_take, List.length_singleton]; omega
    · rw [List.length_append, List.length_take, List.length_singleton, List.length_drop]; omega

end
end Hd

namespace Hd
open PySem PySem.Spec PyProof.Rows L2
open PL
local macro_rules | `(tactic| walk_at "ro") => `(tactic| first
  | with_reducible exact ro_add | with_reducible exact ro_sub | with_reducible exact ro_lt | with_reducible exact ro_le | with_reducible exact ro_gt | with_reducible exact ro_ge | with_reducible exact ro_eqI | with_reducible exact ro_neI
  | with_reducible exact ro_isN | with_reducible exact ro_notN
  | with_reducible refine' ro_mul ?_ | with_reducible refine' ro_fdiv ?_ | with_reducible refine' ro_mod ?_
  | with_reducible refine' ro_eq ?_ ?_ | with_reducible refine' ro_ne ?_ ?_
  | with_reducible refine' ro_ixL ?_ | with_reducible refine' ro_ixT ?_ | with_reducible refine' ro_catT ?_ | with_reducible refine' RON.ro (ron_cat ?_))
local macro_rules | `(tactic| walk_at "ev1") => `(tactic| first
  | with_reducible exact ev_int | with_reducible exact ev_bl | with_reducible exact ev_non | with_reducible exact ev_str | exact ev_var rfl | exact eb_own rfl | exact (ev_var rfl).b
  | with_reducible exact ea_nil | with_reducible exact eb_nil | with_reducible exact ex_nil | with_reducible exact et_yes
  | with_reducible refine' ea_cons ?_ ?_ | with_reducible refine' eb_cons ?_ ?_
  | with_reducible refine' ev_bin ?_ ?_ ?_ | walk_at "ro"
  | with_reducible refine' ev_cb ?_ ?_
  | with_reducible refine' ev_tup ?_ (by first | decide | (simp; done) | (simp; decide))
  | with_reducible refine' et_test ?_ | with_reducible refine' et_B ?_ | with_reducible refine' et_not ?_
  | with_reducible refine' ev_neg ?_
  | with_reducible exact co_lenL | with_reducible exact co_lenT | with_reducible exact co_abs | with_reducible exact co_int | with_reducible exact co_max2 | with_reducible exact co_min2 | with_reducible exact co_sum
  | with_reducible refine' co_tuple (.inl rfl)
  | with_reducible exact ev_op
  | with_reducible refine' EvN.ev (en_lst ?_ (by first | decide | (simp; done) | (simp; decide)))
  | with_reducible refine' Ev.b ?_)
local macro_rules | `(tactic| walk_at "side") => `(tactic| first | (with_reducible refine cm_of ?_ ?_ ?_ ?_ <;> omega) | (with_reducible refine cdiv_of ?_ ?_ <;> omega) | omega | rfl | assumption)
local macro_rules | `(tactic| walk_at "ev") => `(tactic| (all_goals (repeat' walk_at "ev1")); all_goals (try walk_at "side"))
local macro_rules | `(tactic| walk_at "dsl") => `(tactic| (try dsimp only [List.set]))
local macro_rules | `(tactic| walk_at "asg") => `(tactic| (refine' ho_seq (ho_asg ?ha ?hn); walk_at "ev"; walk_at "dsl"))
local macro_rules | `(tactic| walk_at "asg'") => `(tactic| (refine' ho_asg ?ha ?hn; walk_at "ev"; walk_at "dsl"))
local macro_rules | `(tactic| walk_at "par") => `(tactic| (refine' ho_seq (hx_par (ex_dat ?ha (ex_dat ?hb ex_nil)) ?hn); walk_at "ev"; walk_at "dsl"))
local macro_rules | `(tactic| walk_at "par'") => `(tactic| (refine' hx_par (ex_dat ?ha (ex_dat ?hb ex_nil)) ?hn; walk_at "ev"; walk_at "dsl"))
local macro_rules | `(tactic| walk_at "ret") => `(tactic| (refine' ho_ret ?ha ?hn; walk_at "ev"; walk_at "dsl"))
local macro_rules | `(tactic| walk_at "if") => `(tactic| (refine' ho_if ?ha ?ht ?hf; walk_at "ev"))
local macro_rules | `(tactic| walk_at "len") => `(tactic| first | decide | (refine Nat.le_trans (m := 1000) ?_ (by decide); simp [nlD]; done))
local macro_rules | `(tactic| walk_at "fit") => `(tactic| repeat' first | exact fit_int | exact fit_bl | exact fit_non | exact fits_nil | exact fits_nl | refine fits_cons ?_ ?_ | (refine fit_lst (by walk_at "len") ?_) | (refine fit_tup (by walk_at "len") ?_))
local macro_rules | `(tactic| walk_at "lit") => `(tactic| repeat' first | exact ea_nil | refine' ea_cons ?_ ?_ | exact ev_int | exact ev_bl | exact ev_non | exact ev_str | exact ev_neg (ev_int).b | exact ev_var rfl | refine' ev_tup ?_ (by walk_at "len") | refine' EvN.ev (en_lst ?_ (by walk_at "len")))
section
variable {P : Program} {w : World} {K : PySem.W.Frag} {mg : Str → Option Value} {base : Heap}
theorem eqv_kind {n w : Nat} : D.eqv (.str (kindOf n w)) (.str "perfect") = decide (w = 2 * n) := by
  unfold kindOf
  by_cases h : w = 2 * n
  · rw [if_pos h, decide_eq_true h]; decide +kernel
  · rw [if_neg h, decide_eq_false h]
    split <;> decide +kernel
theorem ok_kind {n w k : Nat} : D.ok (.str (kindOf n w)) k = true := by
  unfold kindOf D.ok
  split
  · decide +kernel
  · split <;> decide +kernel
def entD (p : Nat) : D := .tup [.tup [.int ((p - 1 : Nat) : Int), .int ((2 ^ p - 1 : Nat) : Int)], .int ((NT.pn p : Nat) : Int)]
def R__law_perfect (ds : List D) (d : D) : Prop := ds = [] ∧ d = .lst (NT.tab.map entD)
abbrev N__law_perfect : List Str := ["found", "times", "power", "turn"]
theorem sc__law_perfect : FnScope N__law_perfect [] (defScope s__law_perfect) := ⟨rfl, rfl, rfl, by decide +kernel, rfl, by decide +kernel, by decide +kernel⟩
theorem cal__law_perfect (T : Txt K mg) : Cal P w K mg base CX0 "_law_perfect" 1 [] (SpR R__law_perfect) := by
  refine calOf (d := d__law_perfect) (N := N__law_perfect) (ps := []) (k := 0) T 28 sc__law_perfect (fun _ _ _ _ _ _ us hl => match us, hl with | [], _ => rfl) (by rintro ds e ⟨rfl, _⟩; rfl) (fun cdv A outer s H E hr => ⟨_, PSs.nox (pss_cons (ps_set (i := 0) sc__law_perfect.nd rfl (by first | exact Or.inl rfl | exact Or.inr rfl) (pe_lst pa_nil))
    (pss_cons (ps_for PassesOwn.never rfl (kseq K (pe_tup (pa_cons pe_int (pa_cons pe_int (pa_cons pe_int (pa_cons pe_int (pa_cons pe_int (pa_cons pe_int (pa_cons pe_int (pa_cons pe_int (pa_cons pe_int pa_nil))))))))))) (pg_name (i := 1) sc__law_perfect.nd rfl (by first | exact Or.inl rfl | exact Or.inr rfl)) (pss_cons (ps_set (i := 2) sc__law_perfect.nd rfl (by first | exact Or.inl rfl | exact Or.inr rfl) pe_int)
    (pss_cons (ps_for PassesOwn.never rfl (pi_range1 rfl T.f_range (pa_cons (pe_op op_sub (pv 1) pe_int) pa_nil)) (pg_name (i := 3) sc__law_perfect.nd rfl (by first | exact Or.inl rfl | exact Or.inr rfl)) (pss_one (ps_set (i := 2) sc__law_perfect.nd rfl (by first | exact Or.inl rfl | exact Or.inr rfl) (pe_op (kmul K) pe_int (pv 2)))))
    (pss_one (ps_expr (kappend K (pv 0) (pe_tup (pa_cons (pe_tup (pa_cons (pe_op op_sub (pv 1) pe_int) (pa_cons (pe_op op_sub (pe_op (kmul K) pe_int (pv 2)) pe_int) pa_nil))) (pa_cons (pe_op (kmul K) (pv 2) (pe_op op_sub (pe_op (kmul K) pe_int (pv 2)) pe_int)) pa_nil)))))))))
    (pss_one (ps_ret (pv 0))))), ?_⟩)
  rintro ds d ⟨rfl, rfl⟩
  show Ho _ [.dead, .dead, .dead, .dead] none _
  refine ho_seq (ho_asgNc (en_lst ea_nil (by decide)) ?_)
  refine ho_seq (ho_forLc (L := NT.tab) (e := fun p : Nat => .int (p : Int)) (fun l ρ => ∃ s1 s2 s3 : Sl, s1.isOwn = false ∧ ρ = [.own (l.map entD), s1, s2, s3]) (ei_tup (ev_tup (ea_cons ev_int (ea_cons ev_int (ea_cons ev_int (ea_cons ev_int (ea_cons ev_int (ea_cons ev_int (ea_cons ev_int (ea_cons ev_int (ea_cons ev_int ea_nil))))))))) (by walk_at "len"))) ⟨_, _, _, rfl, rfl⟩ ?_ ?_)
  · rintro l p r ρ hl ⟨s1, s2, s3, _, rfl⟩
    have hp := NT.tab_pos p (by rw [hl]; simp)
    refine ⟨_, _, as_name, ho_seq (ho_asgc ev_int ?_)⟩
    refine ho_seq (ho_forRc (lo := 0) (n := p - 1) (fun k ρ => ∃ s3 : Sl, ρ = [.own (l.map entD), .dat (.int (p : Int)), .dat (.int ((2 ^ k : Nat) : Int)), s3]) ?_ ⟨_, rfl⟩ ?_ ?_)
    · have e : ((p : Int) - 1).toNat = p - 1 := by omega
      rw [← e]
      exact ei_rng1 (ea_cons (ev_binc (ev_var rfl).b ev_int.b ro_sub) ea_nil) (by omega) (by omega)
    · rintro k ρ hk ⟨s3, rfl⟩
      have hb : 2 ^ k ≤ 10 ^ 30 := Nat.le_trans (Nat.pow_le_pow_right (by decide) (show k ≤ 61 by omega)) (by decide)
      refine ⟨_, _, as_name, ho_asgc (d := .int ((2 ^ (k + 1) : Nat) : Int)) (ev_eq (ev_binc ev_int.b (ev_var rfl).b (ro_mul (cm_nat (a := 2) (by decide) (by omega)))) ?_) ⟨rfl, .dat (.int (0 + (k : Nat))), rfl⟩⟩
      apply dint
      rw [Nat.pow_succ, Nat.mul_comm (2 ^ k)]
      rfl
    · rintro ρ ⟨s3, rfl⟩
      have hb : 2 ^ (p - 1) ≤ 10 ^ 30 := Nat.le_trans (Nat.pow_le_pow_right (by decide) (show p - 1 ≤ 61 by omega)) (by decide)
      have h2 : 2 ^ p = 2 * 2 ^ (p - 1) := by
        obtain ⟨q, rfl⟩ : ∃ q, p = q + 1 := ⟨p - 1, by omega⟩
        rw [Nat.pow_succ, Nat.mul_comm, Nat.add_sub_cancel]
      have hone : 1 ≤ 2 ^ (p - 1) := Nat.pow_pos (by decide)
      have hev : ∀ {ρ : List Sl} {c : Cup}, ρ[2]? = some (.dat (.int ((2 ^ (p - 1) : Nat) : Int))) → Ev (tOp (rI0 fun i j => .int (i - j)) (tOp (rMul K) (tC (.int 2)) (tVar 2)) (tC (.int 1))) ρ c (.int ((2 ^ p - 1 : Nat) : Int)) c := fun {ρ c} h => by
        refine ev_eq (ev_binc (ev_binc ev_int.b (ev_var h).b (ro_mul (cm_nat (a := 2) (by decide) (by omega)))).b ev_int.b ro_sub) (dint ?_)
        rw [h2]
        generalize 2 ^ (p - 1) = z at *
        omega
      refine ho_appendc (d := entD p) ?_ rfl ?_ ⟨rfl, _, _, _, rfl, by rw [List.map_append]; rfl⟩
      · refine ev_tup2 (ev_tup2 (ev_eq (ev_binc (ev_var rfl).b ev_int.b ro_sub) (dint (by omega))) (hev rfl)) ?_
        unfold NT.pn
        rw [Int.natCast_mul]
        exact ev_binc (ev_var rfl).b (hev rfl).b (ro_mul (cm_nat (by omega) (by omega)))
      · rw [List.length_map]
        have : l.length ≤ NT.tab.length := by rw [hl]; simp
        exact Nat.lt_of_le_of_lt this (by decide)
  · rintro ρ ⟨s1, s2, s3, _, rfl⟩
    exact ho_freeze (k := 0) rfl (ho_retc (ev_var rfl) ⟨rfl, rfl⟩)
theorem isPap_ints (p : Nat × Nat) (xs : List D) (h : ∀ y ∈ xs, sortD y = 2) : D.eqv (.tup xs) (optD (some p)) = isPap (some p) (.tup xs) := by
  have key : ∀ y, y ∈ xs → ∃ i, y = .int i := fun y hy => by
    have := h y hy
    cases y <;> first | exact ⟨_, rfl⟩ | simp [sortD] at this
  match xs, key with
  | [], _ => rfl
  | [x], k => obtain ⟨i, rfl⟩ := k x (by simp); show ((i == (p.1 : Int)) && false) = false; rw [Bool.and_false]
  | [x, y], k =>
    obtain ⟨i, rfl⟩ := k x (by simp)
    obtain ⟨j, rfl⟩ := k y (by simp)
    show D.eqv (.tup [.int i, .int j]) (.tup [.int (p.1 : Int), .int (p.2 : Int)]) = (decide ((p.1 : Int) = i) && decide ((p.2 : Int) = j))
    rw [eqv_pair]
    congr 1 <;> exact decide_eq_decide.mpr ⟨Eq.symm, Eq.symm⟩
  | x :: y :: z :: r, k =>
    obtain ⟨i, rfl⟩ := k x (by simp)
    obtain ⟨j, rfl⟩ := k y (by simp)
    show ((i == (p.1 : Int)) && ((j == (p.2 : Int)) && false)) = false
    rw [Bool.and_false, Bool.and_false]
theorem isPap_not (p : Nat × Nat) (xs : List D) (h : xs.filter (fun y => !decide (sortD y = 2)) ≠ []) : isPap (some p) (.tup xs) = false := by
  match xs, h with
  | [], _ => rfl
  | [x], _ => cases x <;> rfl
  | [x, y], h =>
    cases x with
    | int i =>
      cases y with
      | int j => exact absurd rfl h
      | _ => rfl
    | _ => rfl
  | x :: y :: z :: r, _ => cases x <;> first | rfl | (cases y <;> rfl)
def told56 : List (Key × D) := NT.tab.map fun p => (.inl ((NT.pn p : Nat) : Int), .tup [.int ((p - 1 : Nat) : Int), .int ((2 ^ p - 1 : Nat) : Int)])
theorem told_get (n : Nat) : (valD (mergeD [] told56) (.inl (n : Int))).getD .non = optD (NT.paperT n) := by
  have e : mergeD [] told56 = told56 := by
    have h : ∀ kvs : List (Key × D), (kvs.map (·.1)).Nodup → ∀ acc : List (Key × D), (∀ k ∈ kvs.map (·.1), ∀ a ∈ acc, a.1 ≠ k) → mergeD acc kvs = acc ++ kvs := by
      intro kvs
      induction kvs with
      | nil => intro _ acc _; show acc = acc ++ []; rw [List.append_nil]
      | cons kv kvs ih =>
        intro hn acc ha
        rw [List.map_cons, List.nodup_cons] at hn
        show mergeD (putD acc kv.1 kv.2) kvs = acc ++ kv :: kvs
        have hp : putD acc kv.1 kv.2 = acc ++ [kv] := by
          unfold putD
          rw [if_neg]
          intro hc
          rw [List.any_eq_true] at hc
          obtain ⟨a, h1, h2⟩ := hc
          exact ha kv.1 (by simp) a h1 (of_decide_eq_true h2)
        rw [hp, ih hn.2]
        · rw [List.append_assoc]; rfl
        · intro k hk a hm
          rcases List.mem_append.mp hm with z | z
          · exact ha k (List.mem_cons_of_mem _ hk) a z
          · rw [List.mem_singleton] at z
            subst z
            intro e
            exact hn.1 (e ▸ hk)
    have hnd : (told56.map (·.1)).Nodup := by
      have e1 : told56.map (·.1) = NT.tab.map fun p => (.inl ((NT.pn p : Nat) : Int) : Key) := by unfold told56; rw [List.map_map]; rfl
      rw [e1]
      decide +kernel
    have := h told56 hnd [] (by simp)
    simpa using this
  rw [e]
  unfold valD told56 NT.paperT
  rw [List.find?_map]
  have hc : ((fun kv : Key × D => decide (kv.1 = .inl (n : Int))) ∘ fun p : Nat => ((.inl ((NT.pn p : Nat) : Int) : Key), D.tup [.int ((p - 1 : Nat) : Int), .int ((2 ^ p - 1 : Nat) : Int)])) = fun p => NT.pn p == n := by
    funext p
    show decide ((.inl ((NT.pn p : Nat) : Int) : Key) = .inl (n : Int)) = (NT.pn p == n)
    rw [Bool.eq_iff_iff, decide_eq_true_iff, beq_iff_eq]
    constructor
    · intro h
      have := Sum.inl.inj h
      omega
    · intro h
      rw [h]
  rw [hc]
  cases NT.tab.find? (fun p => NT.pn p == n) <;> rfl
def odds56 (a b : Int) (z : D) : List D := [.tup [.int a, .int b], .tup [.int b, .int a], .lst [.int a, .int b], .tup [.int a], .tup [.int a, .int b, .int 1], .tup [.int (a + 1), .int b], .tup [.int a, .int (b + 2)], .tup [.bl true, .int 3], .tup [], .non] ++
  [.int 0, .tup [.int 0, .int 1], .tup [.int 1, .int 3], .tup [.int 2, .int 7], .tup [.int 1, .bl true], .tup [.int 141, .int 3], z]
def some56 (n : Nat) : Int × Int := match NT.paperT n with | some p => ((p.1 : Int), (p.2 : Int)) | none => (1, 3)
def R__law_right (ds : List D) (x : Int × Int) (d : D) (y : Int × Int) : Prop := ∃ n : Nat, 1 ≤ n ∧ n ≤ 10 ^ 40 ∧ CupOk x ∧ ds = [.int n] ∧ d = .bl true ∧ y = (bentT x [(some56 n).1, (some56 n).2]).2
abbrev N__law_right : List Str := ["cup", "great", "told", "paper", "number", "some", "odds", "odd", "good", "one"]
theorem sc__law_right : FnScope N__law_right ["cup", "great"] (defScope s__law_right) := ⟨rfl, rfl, rfl, by decide +kernel, rfl, by decide +kernel, by decide +kernel⟩
theorem cal__law_right (T : Txt K mg) : Cal P w K mg base CX0 "_law_right" 8 ["cup", "great"] (SpC R__law_right) := by
  refine calC (d := d__law_right) (N := N__law_right) (ps := ["cup", "great"]) (k := 7) T 29 sc__law_right (fun _ _ _ _ _ _ us hl => match us, hl with | [_, _], _ => rfl) (by rintro ds x e y ⟨_, _, _, _, rfl, _⟩; rfl) (fun cdv A outer s H E hr => ⟨_, PSs.nox (pss_cons (ps_set (i := 2) sc__law_right.nd rfl (by first | exact Or.inl rfl | exact Or.inr rfl) (pe_callTy (kdict K) (by rfl) T.f_dict (by decide +kernel) (pa_cons (pe_lc (own := [("paper", 3), ("number", 4)]) (g := (gTup K 2 (gCons (gName 3) (gCons (gName 4) gNil)))) rfl sc__law_right.nd (kseq K (kcall0 (cal__law_perfect T) (hr.mono (by decide)))) (blkOk_by (own := [("paper", 3), ("number", 4)]) (N := N__law_right) (sc := defScope s__law_right) (by decide +kernel)) (fun _ _ _ _ _ => (kg_tup K (pgs_cons (pg_name (i := 3) sc__law_right.nd rfl (by first | exact Or.inl rfl | exact Or.inr rfl)) (pgs_cons (pg_name (i := 4) sc__law_right.nd rfl (by first | exact Or.inl rfl | exact Or.inr rfl)) pgs_nil)))) (fun _ _ _ _ _ => pts_nil) (fun _ _ _ _ _ => (pe_tup (pa_cons (pv 4) (pa_cons (pv 3) pa_nil))))) pa_nil)))
    (pss_cons (ps_set (i := 3) sc__law_right.nd rfl (by first | exact Or.inl rfl | exact Or.inr rfl) (pe_dget2 (hu_of hr) (pv 2) (pv 1) pe_non ⟨rfl, rfl, rfl, rfl⟩))
    (pss_cons (ps_if (pt_not (pt_val (kcall (cal__law_like T) (hr.mono (by decide)) (pa_cons (pe_lst (pa_cons (kcall (cal_is_even_perfect T) (hr.mono (by decide)) (pa_cons (pv 1) pa_nil)) (pa_cons (kcall (cal_even_paper T) (hr.mono (by decide)) (pa_cons (pv 1) pa_nil)) pa_nil))) (pa_cons (pe_lst (pa_cons (pe_cmpR op_notNP (pv 3) pe_non (nomark _)) (pa_cons (pv 3) pa_nil))) pa_nil))))) (pss_one (ps_ret pe_bl)) pss_nil)
    (pss_cons (ps_set (i := 5) sc__law_right.nd rfl (by first | exact Or.inl rfl | exact Or.inr rfl) (pe_ifExp (pt_cmpR op_notNP (pv 3) pe_non (nomark _)) (pv 3) (pe_tup (pa_cons pe_int (pa_cons pe_int pa_nil)))))
    (pss_cons (ps_set (i := 6) sc__law_right.nd rfl (by first | exact Or.inl rfl | exact Or.inr rfl) (pe_lst (pa_cons (pv 5) (pa_cons (krevP K (pv 5)) (pa_cons (pe_callTy (klist K) (by rfl) T.f_list (by decide +kernel) (pa_cons (pv 5) pa_nil)) (pa_cons (pe_slice (ksl K) (pv 5) po_none (po_some pe_int)) (pa_cons (pe_op (kadd K) (pv 5) (pe_tup (pa_cons pe_int pa_nil))) (pa_cons (pe_tup (pa_cons (pe_op (kadd K) (pe_ix (kix K) (pv 5) pe_int (fun _ _ => rfl)) pe_int) (pa_cons (pe_ix (kix K) (pv 5) pe_int (fun _ _ => rfl)) pa_nil))) (pa_cons (pe_tup (pa_cons (pe_ix (kix K) (pv 5) pe_int (fun _ _ => rfl)) (pa_cons (pe_op (kadd K) (pe_ix (kix K) (pv 5) pe_int (fun _ _ => rfl)) pe_int) pa_nil))) (pa_cons (pe_tup (pa_cons pe_bl (pa_cons pe_int pa_nil))) (pa_cons (pe_tup pa_nil) (pa_cons pe_non pa_nil))))))))))))
    (pss_cons (ps_set (i := 6) sc__law_right.nd rfl (by first | exact Or.inl rfl | exact Or.inr rfl) (pe_op (kadd K) (pv 6) (pe_lst (pa_cons pe_int (pa_cons (pe_tup (pa_cons pe_int (pa_cons pe_int pa_nil))) (pa_cons (pe_tup (pa_cons pe_int (pa_cons pe_int pa_nil))) (pa_cons (pe_tup (pa_cons pe_int (pa_cons pe_int pa_nil))) (pa_cons (pe_tup (pa_cons pe_int (pa_cons pe_bl pa_nil))) (pa_cons (pe_tup (pa_cons pe_int (pa_cons pe_int pa_nil))) (pa_cons (kcall (cal__law_bent T) (hr.mono (by decide)) (pa_cons (pv 0) (pa_cons (pv 5) pa_nil))) pa_nil))))))))))
    (pss_cons (ps_for PassesOwn.never rfl (kseq K (pv 6)) (pg_name (i := 7) sc__law_right.nd rfl (by first | exact Or.inl rfl | exact Or.inr rfl)) (pss_cons (ps_set (i := 8) sc__law_right.nd rfl (by first | exact Or.inl rfl | exact Or.inr rfl) (pe_and (pe_cmpR op_notNP (pv 3) pe_non (nomark _)) (pe_and (pe_callB (kisi K) (by rfl) T.f_isinstance (by decide +kernel) (pa_cons (pv 7) (pa_cons (kty (T := "tuple") T.f_tuple (by decide +kernel)) pa_nil))) (pe_and (pe_cmpR (keq K hr.units) (pe_lc (own := [("one", 9)]) (g := (gName 9)) rfl sc__law_right.nd (kseq K (pv 7)) (blkOk_by (own := [("one", 9)]) (N := N__law_right) (sc := defScope s__law_right) (by decide +kernel)) (fun _ _ _ _ _ => (pg_name (i := 9) sc__law_right.nd rfl (by first | exact Or.inl rfl | exact Or.inr rfl))) (fun _ _ _ _ _ => (pts_one (pt_cmpR (kne K hr.units) (kcall (cal__law_sort T) (hr.mono (by decide)) (pa_cons (pv 9) pa_nil)) pe_int (nomark _)))) (fun _ _ _ _ _ => (pv 9))) (pe_lst pa_nil) (nomark _)) (pe_one (pe_cmpR (keq K hr.units) (pv 7) (pv 3) (nomark _)))))))
    (pss_one (ps_if (pt_not (pt_val (kcall (cal__law_like T) (hr.mono (by decide)) (pa_cons (kcall (cal_is_even_paper T) (hr.mono (by decide)) (pa_cons (pv 1) (pa_cons (pv 7) pa_nil))) (pa_cons (pv 8) pa_nil))))) (pss_one (ps_ret pe_bl)) pss_nil))))
    (pss_cons (ps_if (pt_cmpR op_le (pv 1) (pe_op op_pow pe_int pe_int) (nomark _)) (pss_one (ps_ret (pe_cmpR (keq K hr.units) (kcall (cal_is_even_perfect T) (hr.mono (by decide)) (pa_cons (pv 1) pa_nil)) (pe_and (pe_cmpR (keq K hr.units) (pe_op op_mod (pe_callTy call_intP (by rfl) T.f_int (by decide +kernel) (pa_cons (pv 1) pa_nil)) pe_int) pe_int (nomark _)) (pe_one (pe_cmpR (keq K hr.units) (kcall (cal_kind_of_number T) (hr.mono (by decide)) (pa_cons (pv 1) pa_nil)) pe_str (nomark _)))) (nomark _)))) pss_nil)
    (pss_one (ps_ret pe_bl)))))))))), ?_⟩)
  rintro ds x d y ⟨n, h1, hn, hx, rfl, rfl, rfl⟩
  show Ho _ [.cup, .dat (.int n), .dead, .dead, .dead, .dead, .dead, .dead, .dead, .dead] (some x) _
  have hn' : (n : Int) ≤ 10 ^ 40 := by exact_mod_cast hn
  obtain ⟨hbf, hbc⟩ := bentT_ok (ns := [(some56 n).1, (some56 n).2]) hx (show 0 < 2 by decide) (show 2 ≤ 1000000 by decide)
  have hmap : (NT.tab.map entD).map (fun e => match e with | .tup [a, b] => (b, a) | _ => (.non, .non)) = NT.tab.map fun p => ((D.int ((NT.pn p : Nat) : Int)), D.tup [.int ((p - 1 : Nat) : Int), .int ((2 ^ p - 1 : Nat) : Int)]) := by rw [List.map_map]; rfl
  refine ho_seq (ho_asgK (xs := mergeD [] told56) (c1 := some x) (ek_dict (eb_cons (c1 := some x) (Ev.b (ev_eq (EvN.ev (en_lc2 (L := NT.tab) (fun p : Nat => .tup [.int ((p - 1 : Nat) : Int), .int ((2 ^ p - 1 : Nat) : Int)]) (fun p : Nat => .int ((NT.pn p : Nat) : Int)) (fun _ => true) (fun p : Nat => .tup [.int ((NT.pn p : Nat) : Int), .tup [.int ((p - 1 : Nat) : Int), .int ((2 ^ p - 1 : Nat) : Int)]]) (ei_lst (ev_callc ea_nil ⟨rfl, rfl⟩)) (fun s hs => by cases hs; rfl) (fun s hs => by cases hs; rfl) (by decide) (by decide) (fun p hp => ⟨et_yes, fun _ => ev_tup2 (ev_var rfl) (ev_var rfl)⟩))) ?_)) eb_nil)) ?_)
  · rw [filter_yes]
    unfold told56
    rw [List.map_map]
    rfl
  refine ho_seq (ho_asgc (d := optD (NT.paperT n)) (ev_eq (ev_dget2 (k := .inl (n : Int)) rfl (ev_var rfl) ev_non) (told_get n)) ?_)
  have hpn : (optD (NT.paperT n)).isNon = !(NT.paperT n).isSome := by cases NT.paperT n <;> rfl
  have hpf : fit (optD (NT.paperT n)) 1 = true := by
    cases NT.paperT n with
    | none => exact fit_non
    | some p => exact fit_tup (n := 0) (show 2 ≤ 10000000 by decide) (fits_cons fit_int (fits_cons fit_int fits_nil))
  refine ho_seq (ho_unless (ea_cons (EvN.ev (en_lst (ea_cons (ev_callc (ea_cons (ev_var rfl) ea_nil) ⟨n, h1, hn, rfl, rfl⟩) (ea_cons (ev_callc (ea_cons (ev_var rfl) ea_nil) ⟨n, h1, hn, rfl, rfl⟩) ea_nil)) (by walk_at "len"))) (ea_cons (EvN.ev (en_lst (ea_cons (ev_binc (ev_var rfl).b ev_non.b ro_notN) (ea_cons (ev_var rfl) ea_nil)) (by walk_at "len"))) ea_nil)) ⟨_, _, fit_lst (by walk_at "len") (fits_cons fit_bl (fits_cons (fit_mono 1 4 _ (by decide) hpf) fits_nil)), rfl, by rw [hpn, Bool.not_not], rfl⟩ ?_)
  have hsome : ∀ {ρ : List Sl} {c : Cup}, ρ[3]? = some (.dat (optD (NT.paperT n))) → Ev (tIf (tTest (tOp rNotN1 (tVar 3) (tC .non))) (tVar 3) (tTup (tCons (tC (.int 1)) (tCons (tC (.int 3)) tNil)))) ρ c (.tup [.int (some56 n).1, .int (some56 n).2]) c := fun {ρ c} h => by
    refine ev_ifc (et_test (ev_binc (ev_var h).b ev_non.b ro_notN)) (fun z => ?_) (fun z => ?_)
    · rw [hpn, Bool.not_not] at z
      have e : optD (NT.paperT n) = .tup [.int (some56 n).1, .int (some56 n).2] := by
        unfold some56
        cases q : NT.paperT n with
        | none => rw [q] at z; cases z
        | some p => rfl
      rw [← e]
      exact ev_var h
    · rw [hpn, Bool.not_not] at z
      have e : some56 n = (1, 3) := by
        unfold some56
        cases q : NT.paperT n with
        | none => rfl
        | some p => rw [q] at z; cases z
      rw [e]
      exact ev_tup2 ev_int ev_int
  refine ho_seq (ho_asgc (hsome rfl) ?_)
  generalize ha : (some56 n).1 = a at *
  generalize hb : (some56 n).2 = b at *
  have ea0 : ∀ {ρ : List Sl} {c : Cup}, ρ[5]? = some (.dat (.tup [.int a, .int b])) → Ev (tOp (rIx K) (tVar 5) (tC (.int 0))) ρ c (.int a) c := fun {ρ c} h => ev_binc (ev_var h).b ev_int.b (ro_ixT (atI_nat (i := 0) rfl))
  have eb0 : ∀ {ρ : List Sl} {c : Cup}, ρ[5]? = some (.dat (.tup [.int a, .int b])) → Ev (tOp (rIx K) (tVar 5) (tC (.int 1))) ρ c (.int b) c := fun {ρ c} h => ev_binc (ev_var h).b ev_int.b (ro_ixT (atI_nat (i := 1) rfl))
  refine ho_seq (ho_asgc (EvN.ev (en_lst (ea_cons (ev_var rfl) (ea_cons (ev_revP (ev_var rfl).b) (ea_cons (EvN.ev (en_cb (c1 := some x) (eb_cons (c1 := some x) (ev_var rfl).b eb_nil) (con_list (.inr rfl)))) (ea_cons (ev_slT (ev_var rfl).b eo_none (eo_some ev_int.b)) (ea_cons (ev_binc (ev_var rfl).b (ev_tup1 ev_int).b (ro_catT (xs := [.int a, .int b]) (ys := [.int 1]) (show 2 + 1 ≤ sizeLine by decide))) (ea_cons (ev_tup2 (ev_binc (ea0 rfl).b ev_int.b ro_add) (eb0 rfl)) (ea_cons (ev_tup2 (ea0 rfl) (ev_binc (eb0 rfl).b ev_int.b ro_add)) (ea_cons (ev_tup2 ev_bl ev_int) (ea_cons (ev_tup ea_nil (by decide)) (ea_cons ev_non ea_nil)))))))))) (by walk_at "len"))) ?_)
  refine ho_seq (ho_asg (EvN.ev (en_bin (c1 := some x) (ev_var rfl).b (EvN.ev (en_lst (ea_cons ev_int (ea_cons (ev_tup2 ev_int ev_int) (ea_cons (ev_tup2 ev_int ev_int) (ea_cons (ev_tup2 ev_int ev_int) (ea_cons (ev_tup2 ev_int ev_bl) (ea_cons (ev_tup2 ev_int ev_int) (ea_cons (ev_callC rfl (ea_cons (ev_var rfl) ea_nil) ⟨[a, b], hx, show 0 < 2 by decide, show 2 ≤ 1000000 by decide, rfl, rfl, rfl⟩) ea_nil))))))) (by walk_at "len"))).b (ron_cat (xs := [.tup [.int a, .int b], .tup [.int b, .int a], .lst [.int a, .int b], .tup [.int a], .tup [.int a, .int b, .int 1], .tup [.int (a + 1), .int b], .tup [.int a, .int (b + 2)], .tup [.bl true, .int 3], .tup [], .non]) (ys := [.int 0, .tup [.int 0, .int 1], .tup [.int 1, .int 3], .tup [.int 2, .int 7], .tup [.int 1, .bl true], .tup [.int 141, .int 3], (bentT x [a, b]).1]) (show 10 + 7 ≤ sizeLine by decide)))) ?_)
  generalize (bentT x [a, b]).2 = y at *
  generalize (bentT x [a, b]).1 = z at *
  have hodd : ∀ o ∈ odds56 a b z, fit o 3 = true := by
    have : fits (odds56 a b z) 3 = true := by
      unfold odds56
      simp only [List.cons_append, List.nil_append]
      walk_at "fit"
      exact fit_mono 2 3 _ (by decide) hbf
    exact fits_mem this
  refine ho_seq (ho_forLc (L := odds56 a b z) (e := fun o => o) (fun l ρ => ∃ s7 s8 : Sl, ρ = [.cup, .dat (.int n), .odk (mergeD [] told56), .dat (optD (NT.paperT n)), .dead, .dat (.tup [.int a, .int b]), .dat (.lst (odds56 a b z)), s7, s8, .dead]) ?_ ⟨_, _, rfl⟩ ?_ ?_)
  · rw [List.map_id']
    exact ei_lst (ev_var rfl)
  · rintro l o r ρ hl ⟨s7, s8, rfl⟩
    have ho := hodd o (by rw [hl]; simp)
    obtain ⟨T, hT⟩ := fit_ty ho
    refine ⟨_, _, as_name, ho_seq (ho_asgc (d := .bl (isPap (NT.paperT n) o)) ?_ ?_)⟩
    · cases q : NT.paperT n with
      | none => exact ev_andV (a := false) (b := false) (c1 := some y) (ev_binc (ev_var rfl).b ev_non.b ro_notN) (fun h => by cases h) (fun _ => ⟨rfl, rfl⟩)
      | some p =>
        refine ev_andV (a := true) (c1 := some y) (ev_binc (ev_var rfl).b ev_non.b ro_notN) (fun _ => ?_) (fun h => by cases h)
        by_cases ht : ∃ xs, o = .tup xs
        · obtain ⟨xs, rfl⟩ := ht
          obtain ⟨m, hm, hxl, hxf⟩ := fit_tupE ho
          refine ev_andV (a := true) (c1 := some y) (ev_cbc (eb_cons (c1 := some y) (ev_var rfl).b (eb_cons ev_op.b eb_nil)) (co_isi (T := "tuple") (U := "tuple") rfl (by decide))) (fun _ => ?_) (fun h => by cases h)
          have hlc : Ev _ _ (some y) (.lst ((xs.filter (fun w => !decide (sortD w = 2))).map fun w => w)) (some y) := EvN.ev (en_lc1 (L := xs) (k := 9) (ρ := [.cup, .dat (.int n), .odk (mergeD [] told56), .dat (optD (some p)), .dead, .dat (.tup [.int a, .int b]), .dat (.lst (odds56 a b z)), .dat (.tup xs), s8, .dead]) (fun w => w) (fun w => !decide (sortD w = 2)) (fun w => w) (by rw [List.map_id']; exact ei_tup (K := K) (ev_var (i := 7) rfl)) (fun s hs => by cases hs; rfl) (Nat.le_trans hxl (by decide)) (t := tTest (tOp (rNeD K) (tCall (SpR R__law_sort) [] E0 (tCons (tVar 9) tNil)) (tC (.int 2)))) (te := tVar 9) (fun w hw => by
            obtain ⟨Tw, hTw⟩ := fit_ty (hxf w hw)
            exact ⟨et_test (ev_binc (ev_callc (ea_cons (ev_var rfl) ea_nil) ⟨w, Tw, hTw, rfl, rfl⟩).b ev_int.b ro_neI), fun _ => ev_var rfl⟩))
          rw [List.map_id'] at hlc
          have hokl : D.ok (.lst (xs.filter (fun w => !decide (sortD w = 2)))) 64 = true := fit_ok (n := m + 1) (fit_lst (Nat.le_trans (List.length_filter_le _ _) hxl) (fits_of fun w hw => hxf w (List.mem_filter.mp hw).1)) (by omega)
          by_cases hnil : xs.filter (fun w => !decide (sortD w = 2)) = []
          · refine ev_andV (a := true) (c1 := some y) (ev_eq (ev_binc hlc.b (EvN.ev (en_lst ea_nil (by decide))).b (ro_eqE hokl)) (by rw [hnil]; rfl)) (fun _ => ?_) (fun h => by cases h)
            rw [← isPap_ints p xs (fun w hw => by
              rw [List.filter_eq_nil_iff] at hnil
              have := hnil w hw
              simpa using this)]
            exact ev_binc (ev_var rfl).b (ev_var rfl).b (ro_eq (fit_ok ho (by decide)) rfl)
          · rw [isPap_not p xs hnil]
            refine ev_andV (a := false) (b := false) (c1 := some y) (ev_eq (ev_binc hlc.b (EvN.ev (en_lst ea_nil (by decide))).b (ro_eqE hokl)) ?_) (fun h => by cases h) (fun _ => ⟨rfl, rfl⟩)
            cases q2 : xs.filter (fun w => !decide (sortD w = 2)) with
            | nil => exact absurd q2 hnil
            | cons _ _ => rfl
        · have hf : isPap (some p) o = false := by cases o <;> first | rfl | exact absurd ⟨_, rfl⟩ ht
          rw [hf]
          refine ev_andV (a := false) (b := false) (c1 := some y) (ev_eq (ev_cbc (eb_cons (c1 := some y) (ev_var rfl).b (eb_cons ev_op.b eb_nil)) (co_isi (U := "tuple") hT (by decide))) ?_) (fun h => by cases h) (fun _ => ⟨rfl, rfl⟩)
          cases o <;> cases hT <;> first | rfl | exact absurd ⟨_, rfl⟩ ht
    · exact ho_unless (ea_cons (ev_callc (ea_cons (ev_var rfl) (ea_cons (ev_var rfl) ea_nil)) ⟨n, o, 3, h1, hn, ho, rfl, rfl⟩) (ea_cons (ev_var rfl) ea_nil)) ⟨_, _, fit_bl, rfl, rfl, rfl⟩ ⟨rfl, _, _, rfl⟩
  · rintro ρ ⟨s7, s8, rfl⟩
    refine ho_seq (ho_ifc (b := decide ((n : Int) ≤ 10 ^ 10)) (et_test (ev_binc (ev_var rfl).b (ev_eq (ev_binc ev_int.b ev_int.b (ro_pow (by decide) (by decide) (by decide))) rfl).b ro_le)) (fun h => ?_) (fun h => ho_next (ho_retc ev_bl ⟨rfl, rfl⟩)))
    rw [decide_eq_true_iff] at h
    have hn10 : n ≤ 10 ^ 10 := by omega
    refine ho_retc (ev_eq (ev_binc (ev_callc (ea_cons (ev_var rfl) ea_nil) ⟨n, h1, hn, rfl, rfl⟩).b (ev_andV' (ev_binc (ev_binc (ev_cbc (eb_cons (c1 := some y) (ev_var rfl).b eb_nil) co_int).b ev_int.b (ro_mod (by decide))).b ev_int.b ro_eqI) (fun _ => ev_binc (ev_callc (ea_cons (ev_var rfl) ea_nil) ⟨n, h1, hn10, rfl, rfl⟩).b ev_str.b (ro_eq ok_kind (by decide +kernel)))).b ro_eqB) ?_) ⟨rfl, rfl⟩
    congr 1
    rw [beq_iff_eq, NT.even_perfect_iff h1 hn10, eqv_kind]
    congr 1
    rw [decide_eq_decide]
    omega

end
end Hd

namespace Hd
open PySem PySem.Spec PyProof.Rows L2
open PL
local macro_rules | `(tactic| walk_at "ro") => `(tactic| first
  | with_reducible exact ro_add | with_reducible exact ro_sub | with_reducible exact ro_lt | with_reducible exact ro_le | with_reducible exact ro_gt | with_reducible exact ro_ge | with_reducible exact ro_eqI | with_reducible exact ro_neI
  | with_reducible exact ro_isN | with_reducible exact ro_notN
  | with_reducible refine' ro_mul ?_ | with_reducible refine' ro_fdiv ?_ | with_reducible refine' ro_mod ?_
  | with_reducible refine' ro_eq ?_ ?_ | with_reducible refine' ro_ne ?_ ?_
  | with_reducible refine' ro_ixL ?_ | with_reducible refine' ro_ixT ?_ | with_reducible refine' ro_catT ?_ | with_reducible refine' RON.ro (ron_cat ?_))
local macro_rules | `(tactic| walk_at "ev1") => `(tactic| first
  | with_reducible exact ev_int | with_reducible exact ev_bl | with_reducible exact ev_non | with_reducible exact ev_str | exact ev_var rfl | exact eb_own rfl | exact (ev_var rfl).b
  | with_reducible exact ea_nil | with_reducible exact eb_nil | with_reducible exact ex_nil | with_reducible exact et_yes
  | with_reducible refine' ea_cons ?_ ?_ | with_reducible refine' eb_cons ?_ ?_
  | with_reducible refine' ev_bin ?_ ?_ ?_ | walk_at "ro"
  | with_reducible refine' ev_cb ?_ ?_
  | with_reducible refine' ev_tup ?_ (by first | decide | (simp; done) | (simp; decide))
  | with_reducible refine' et_test ?_ | with_reducible refine' et_B ?_ | with_reducible refine' et_not ?_
  | with_reducible refine' ev_neg ?_
  | with_reducible exact co_lenL | with_reducible exact co_lenT | with_reducible exact co_abs | with_reducible exact co_int | with_reducible exact co_max2 | with_reducible exact co_min2 | with_reducible exact co_sum
  | with_reducible refine' co_tuple (.inl rfl)
  | with_reducible exact ev_op
  | with_reducible refine' EvN.ev (en_lst ?_ (by first | decide | (simp; done) | (simp; decide)))
  | with_reducible refine' Ev.b ?_)
local macro_rules | `(tactic| walk_at "side") => `(tactic| first | (with_reducible refine cm_of ?_ ?_ ?_ ?_ <;> omega) | (with_reducible refine cdiv_of ?_ ?_ <;> omega) | omega | rfl | assumption)
local macro_rules | `(tactic| walk_at "ev") => `(tactic| (all_goals (repeat' walk_at "ev1")); all_goals (try walk_at "side"))
local macro_rules | `(tactic| walk_at "dsl") => `(tactic| (try dsimp only [List.set]))
local macro_rules | `(tactic| walk_at "asg") => `(tactic| (refine' ho_seq (ho_asg ?ha ?hn); walk_at "ev"; walk_at "dsl"))
local macro_rules | `(tactic| walk_at "asg'") => `(tactic| (refine' ho_asg ?ha ?hn; walk_at "ev"; walk_at "dsl"))
local macro_rules | `(tactic| walk_at "par") => `(tactic| (refine' ho_seq (hx_par (ex_dat ?ha (ex_dat ?hb ex_nil)) ?hn); walk_at "ev"; walk_at "dsl"))
local macro_rules | `(tactic| walk_at "par'") => `(tactic| (refine' hx_par (ex_dat ?ha (ex_dat ?hb ex_nil)) ?hn; walk_at "ev"; walk_at "dsl"))
local macro_rules | `(tactic| walk_at "ret") => `(tactic| (refine' ho_ret ?ha ?hn; walk_at "ev"; walk_at "dsl"))
local macro_rules | `(tactic| walk_at "if") => `(tactic| (refine' ho_if ?ha ?ht ?hf; walk_at "ev"))
local macro_rules | `(tactic| walk_at "len") => `(tactic| first | decide | (refine Nat.le_trans (m := 1000) ?_ (by decide); simp [nlD]; done))
local macro_rules | `(tactic| walk_at "fit") => `(tactic| repeat' first | exact fit_int | exact fit_bl | exact fit_non | exact fits_nil | exact fits_nl | refine fits_cons ?_ ?_ | (refine fit_lst (by walk_at "len") ?_) | (refine fit_tup (by walk_at "len") ?_))
local macro_rules | `(tactic| walk_at "lit") => `(tactic| repeat' first | exact ea_nil | refine' ea_cons ?_ ?_ | exact ev_int | exact ev_bl | exact ev_non | exact ev_str | exact ev_neg (ev_int).b | exact ev_var rfl | refine' ev_tup ?_ (by walk_at "len") | refine' EvN.ev (en_lst ?_ (by walk_at "len")))
section
variable {P : Program} {w : World} {K : PySem.W.Frag} {mg : Str → Option Value} {base : Heap}
def everyN : List Nat := NT.tab.map NT.pn
theorem mem_pn (n : Nat) : D.mem (.int (n : Int)) (nlD everyN) = (NT.paperT n).isSome := by
  unfold D.mem nlD everyN NT.paperT
  rw [List.any_map, List.any_map, Option.isSome_map, Bool.eq_iff_iff, List.any_eq_true, List.find?_isSome]
  constructor
  · rintro ⟨p, hp, h⟩
    refine ⟨p, hp, ?_⟩
    have h' : (((NT.pn p : Nat) : Int) == (n : Int)) = true := h
    rw [beq_iff_eq] at h' ⊢
    omega
  · rintro ⟨p, hp, h⟩
    refine ⟨p, hp, ?_⟩
    show (((NT.pn p : Nat) : Int) == (n : Int)) = true
    rw [beq_iff_eq] at h ⊢
    omega
theorem every_facts : ∀ i, i < 9 → evTo (everyN.getD i 0) = everyN.take (i + 1) ∧ evTo (everyN.getD i 0 - 1) = everyN.take i ∧ 5 ≤ everyN.getD i 0 ∧ everyN.getD i 0 + 2 ≤ 10 ^ 40 := by
  have : (List.range 9).all (fun i => decide (evTo (everyN.getD i 0) = everyN.take (i + 1)) && decide (evTo (everyN.getD i 0 - 1) = everyN.take i) && decide (5 ≤ everyN.getD i 0) && decide (everyN.getD i 0 + 2 ≤ 10 ^ 40)) = true := by decide +kernel
  intro i hi
  rw [List.all_eq_true] at this
  have h := this i (List.mem_range.mpr hi)
  rw [Bool.and_eq_true, Bool.and_eq_true, Bool.and_eq_true] at h
  exact ⟨of_decide_eq_true h.1.1.1, of_decide_eq_true h.1.1.2, of_decide_eq_true h.1.2, of_decide_eq_true h.2⟩
theorem evTo_all : evTo (10 ^ 40) = everyN := by decide +kernel
theorem ev_every {K : PySem.W.Frag} {T : Nat} {ρ : List Sl} {c : Cup} {k m : Nat} {E : XK} (hk : ∀ s, ρ[k]? = some s → s.isOwn = false) (hm : ∀ s, ρ[m]? = some s → s.isOwn = false) (hkm : k ≠ m) (hl : m < ρ.length) : EvN (tLc (iSeq K (tCall (SpR R__law_perfect) [] E tNil)) (gTup K 2 (gCons (gName k) (gCons (gName m) gNil))) tYes (tVar m) [k, m]) ρ c (nlD everyN) c := by
  have h := en_lc2 (K := K) (ρ := ρ) (c := c) (k := k) (m := m) (L := NT.tab) (wi := iSeq K (tCall (SpR R__law_perfect) [] E tNil)) (t := tYes) (te := tVar m) (fun p : Nat => .tup [.int ((p - 1 : Nat) : Int), .int ((2 ^ p - 1 : Nat) : Int)]) (fun p : Nat => .int ((NT.pn p : Nat) : Int)) (fun _ => true) (fun p : Nat => .int ((NT.pn p : Nat) : Int)) (ei_lst (ev_callc ea_nil ⟨rfl, rfl⟩)) hk hm hkm (by decide) (fun p hp => ⟨et_yes, fun _ => ev_var (by rw [List.getElem?_set_self (by rw [List.length_set]; exact hl)])⟩)
  rw [filter_yes] at h
  have e : nlD everyN = NT.tab.map fun p : Nat => D.int ((NT.pn p : Nat) : Int) := by unfold nlD everyN; rw [List.map_map]; rfl
  rw [e]
  exact h
theorem every_at {i : Nat} (h : i < 9) : (nlD everyN)[i]? = some (.int ((everyN.getD i 0 : Nat) : Int)) := by
  have hl : i < everyN.length := h
  unfold nlD
  rw [List.getElem?_map, List.getElem?_eq_getElem hl, List.getD_eq_getElem?_getD, List.getElem?_eq_getElem hl]
  rfl
def R__law_lists_right (ds : List D) (x : Int × Int) (d : D) (y : Int × Int) : Prop := CupOk x ∧ ds = [] ∧ d = .bl true ∧ y = rollC (rollC x 9) 60
abbrev N__law_lists_right : List Str := ["cup", "every", "paper", "number", "at", "told", "times", "power", "turn"]
theorem sc__law_lists_right : FnScope N__law_lists_right ["cup"] (defScope s__law_lists_right) := ⟨rfl, rfl, rfl, by decide +kernel, rfl, by decide +kernel, by decide +kernel⟩
theorem cal__law_lists_right (T : Txt K mg) : Cal P w K mg base CX0 "_law_lists_right" 8 ["cup"] (SpC R__law_lists_right) := by
  refine calC (d := d__law_lists_right) (N := N__law_lists_right) (ps := ["cup"]) (k := 7) T 30 sc__law_lists_right (fun _ _ _ _ _ _ us hl => match us, hl with | [_], _ => rfl) (by rintro ds x e y ⟨_, rfl, _⟩; rfl) (fun cdv A outer s H E hr => ⟨_, PSs.nox (pss_cons (ps_setLc (i := 1) (own := [("paper", 2), ("number", 3)]) (g := (gTup K 2 (gCons (gName 2) (gCons (gName 3) gNil)))) rfl sc__law_lists_right.nd rfl rfl (sw_true rfl rfl rfl (by decide +kernel)) (kseq K (kcall0 (cal__law_perfect T) (hr.mono (by decide)))) (blkOk_by (own := [("paper", 2), ("number", 3)]) (N := N__law_lists_right) (sc := defScope s__law_lists_right) (by decide +kernel)) (fun _ _ _ _ _ => (kg_tup K (pgs_cons (pg_name (i := 2) sc__law_lists_right.nd rfl (by first | exact Or.inl rfl | exact Or.inr rfl)) (pgs_cons (pg_name (i := 3) sc__law_lists_right.nd rfl (by first | exact Or.inl rfl | exact Or.inr rfl)) pgs_nil)))) (fun _ _ _ _ _ => pts_nil) (fun _ _ _ _ _ => (pv 3)))
    (pss_cons (ps_set (i := 4) sc__law_lists_right.nd rfl (by first | exact Or.inl rfl | exact Or.inr rfl) (kcall (cal__law_roll T) (hr.mono (by decide)) (pa_cons (pv 0) (pa_cons (pe_callB (klen K) (by rfl) T.f_len (by decide +kernel) (pa_cons (pv 1) pa_nil)) pa_nil))))
    (pss_cons (ps_set (i := 5) sc__law_lists_right.nd rfl (by first | exact Or.inl rfl | exact Or.inr rfl) (pe_lst (pa_cons (kcall (cal_even_perfect_to T) (hr.mono (by decide)) (pa_cons (pe_ix (kix K) (pv 1) (pv 4) (fun _ _ => rfl)) pa_nil)) (pa_cons (kcall (cal_even_perfect_to T) (hr.mono (by decide)) (pa_cons (pe_op op_sub (pe_ix (kix K) (pv 1) (pv 4) (fun _ _ => rfl)) pe_int) pa_nil)) (pa_cons (kcall (cal_even_perfect_to T) (hr.mono (by decide)) (pa_cons (pe_op op_pow pe_int pe_int) pa_nil)) pa_nil)))))
    (pss_cons (ps_if (pt_not (pt_val (kcall (cal__law_like T) (hr.mono (by decide)) (pa_cons (pv 5) (pa_cons (pe_lst (pa_cons (pe_callTy (ktuple K) (by rfl) T.f_tuple (by decide +kernel) (pa_cons (pe_slice (ksl K) (pv 1) po_none (po_some (pe_op (kadd K) (pv 4) pe_int))) pa_nil)) (pa_cons (pe_callTy (ktuple K) (by rfl) T.f_tuple (by decide +kernel) (pa_cons (pe_slice (ksl K) (pv 1) po_none (po_some (pv 4))) pa_nil)) (pa_cons (pe_callTy (ktuple K) (by rfl) T.f_tuple (by decide +kernel) (pa_cons (pv 1) pa_nil)) pa_nil)))) pa_nil))))) (pss_one (ps_ret pe_bl)) pss_nil)
    (pss_cons (ps_set (i := 6) sc__law_lists_right.nd rfl (by first | exact Or.inl rfl | exact Or.inr rfl) (pe_op (kadd K) pe_int (kcall (cal__law_roll T) (hr.mono (by decide)) (pa_cons (pv 0) (pa_cons pe_int pa_nil)))))
    (pss_cons (ps_set (i := 7) sc__law_lists_right.nd rfl (by first | exact Or.inl rfl | exact Or.inr rfl) pe_int)
    (pss_cons (ps_for PassesOwn.never rfl (pi_range1 rfl T.f_range (pa_cons (pv 6) pa_nil)) (pg_name (i := 8) sc__law_lists_right.nd rfl (by first | exact Or.inl rfl | exact Or.inr rfl)) (pss_one (ps_set (i := 7) sc__law_lists_right.nd rfl (by first | exact Or.inl rfl | exact Or.inr rfl) (pe_op (kmul K) pe_int (pv 7)))))
    (pss_cons (ps_set (i := 3) sc__law_lists_right.nd rfl (by first | exact Or.inl rfl | exact Or.inr rfl) (pe_op (kmul K) (pv 7) (pe_op op_sub (pe_op (kmul K) pe_int (pv 7)) pe_int)))
    (pss_one (ps_ret (kcall (cal__law_like T) (hr.mono (by decide)) (pa_cons (kcall (cal_is_even_perfect T) (hr.mono (by decide)) (pa_cons (pv 3) pa_nil)) (pa_cons (pe_cmpR (kin K) (pv 3) (pv 1) (by rfl)) pa_nil))))))))))))), ?_⟩)
  rintro ds x d y ⟨hx, rfl, rfl, rfl⟩
  show Ho _ [.cup, .dead, .dead, .dead, .dead, .dead, .dead, .dead, .dead] (some x) _
  have h9 := rollV_lt x (m := 9) (by decide)
  have x1 := rollC_ok hx 9
  have h60 := rollV_lt (rollC x 9) (m := 60) (by decide)
  have hlen : (nlD everyN).length = 9 := rfl
  refine ho_seq (ho_asgNc (ev_every (T := 0) (fun s hs => by cases hs; rfl) (fun s hs => by cases hs; rfl) (by decide) (by decide)) ?_)
  refine ho_seq (ho_asg (ev_callC rfl (ea_cons (c1 := some x) (ev_cbc (eb_cons (c1 := some x) (eb_own rfl) eb_nil) co_lenL) ea_nil) ⟨9, by decide, by decide, hx, by rw [hlen], rfl, rfl⟩) ?_)
  generalize rollV x 9 = i at *
  obtain ⟨f1, f2, f3, f4⟩ := every_facts i h9
  have hat : ∀ {ρ : List Sl} {c : Cup}, ρ[1]? = some (.own (nlD everyN)) → ρ[4]? = some (.dat (.int (i : Int))) → Ev (tOp (rIx K) (tVar 1) (tVar 4)) ρ c (.int ((everyN.getD i 0 : Nat) : Int)) c := fun {ρ c} h h' => ev_binc (eb_own h) (ev_var h').b (ro_ixL (atI_nat (every_at h9)))
  refine ho_seq (ho_asgc (EvN.ev (en_lst (ea_cons (ev_callc (ea_cons (hat rfl rfl) ea_nil) ⟨everyN.getD i 0, by omega, by omega, rfl, rfl⟩) (ea_cons (ev_callc (ea_cons (ev_binc (hat rfl rfl).b ev_int.b ro_sub) ea_nil) ⟨everyN.getD i 0 - 1, by omega, by omega, congrArg (fun z => [D.int z]) (by omega), rfl⟩) (ea_cons (ev_callc (ea_cons (ev_binc ev_int.b ev_int.b (ro_pow (by decide) (by decide) (by decide))) ea_nil) ⟨10 ^ 40, by decide, by decide, by rfl, rfl⟩) ea_nil))) (by walk_at "len"))) ?_)
  rw [f1, f2, evTo_all]
  have et : ∀ j : Nat, nlD (everyN.take j) = (nlD everyN).take j := fun j => by unfold nlD; rw [List.map_take]
  refine ho_seq (ho_unless (ea_cons (ev_var rfl) (ea_cons (EvN.ev (en_lst (ea_cons (ev_cbc (eb_cons (c1 := some (rollC x 9)) (EvN.ev (en_slL (eb_own rfl) eo_none (eo_some (ev_binc (ev_var rfl).b ev_int.b ro_add).b))).b eb_nil) (co_tuple (.inl rfl))) (ea_cons (ev_cbc (eb_cons (c1 := some (rollC x 9)) (EvN.ev (en_slL (eb_own rfl) eo_none (eo_some (ev_var rfl).b))).b eb_nil) (co_tuple (.inl rfl))) (ea_cons (ev_cbc (eb_cons (c1 := some (rollC x 9)) (eb_own rfl) eb_nil) (co_tuple (.inl rfl))) ea_nil))) (by walk_at "len"))) ea_nil)) ⟨_, _, ?_, rfl, ?_, rfl⟩ ?_)
  · refine fit_lst (by walk_at "len") (fits_cons (fit_tup ?_ fits_nl) (fits_cons (fit_tup ?_ fits_nl) (fits_cons (fit_tup (by decide) fits_nl) fits_nil)))
    · rw [nlD_len, List.length_take]; exact Nat.le_trans (Nat.min_le_right _ _) (by decide)
    · rw [nlD_len, List.length_take]; exact Nat.le_trans (Nat.min_le_right _ _) (by decide)
  · rw [et, et, cut_to]
    have e := cut_to (nlD everyN) (i + 1)
    rw [show (((i + 1 : Nat) : Int)) = (i : Int) + 1 from rfl] at e
    rw [e]
  refine ho_seq (ho_asg (d := .int ((1 + rollV (rollC x 9) 60 : Nat) : Int)) (ev_bin (c1 := some (rollC x 9)) ev_int.b (ev_callC rfl (ea_cons ev_int ea_nil) ⟨60, by decide, by decide, x1, rfl, rfl, rfl⟩).b ro_add) ?_)
  generalize hy : rollC (rollC x 9) 60 = y at *
  have ht : 1 + rollV (rollC x 9) 60 ≤ 60 := by omega
  generalize 1 + rollV (rollC x 9) 60 = t at *
  refine ho_seq (ho_asgc ev_int ?_)
  refine ho_seq (ho_forRc (lo := 0) (n := t) (fun k ρ => ∃ s8 s5 : Sl, ρ = [.cup, .own (nlD everyN), .dead, .dead, .dat (.int (i : Int)), s5, .dat (.int (t : Int)), .dat (.int ((2 ^ k : Nat) : Int)), s8]) ?_ ⟨_, _, rfl⟩ ?_ ?_)
  · have : (t : Int).toNat = t := by omega
    rw [show rng 0 t = rng 0 (t : Int).toNat by rw [this]]
    exact ei_rng1 (ea_cons (ev_var rfl) ea_nil) (by omega) (by omega)
  · rintro k ρ hk ⟨s8, s5, rfl⟩
    have hb : 2 ^ k ≤ 10 ^ 30 := Nat.le_trans (Nat.pow_le_pow_right (by decide) (show k ≤ 60 by omega)) (by decide)
    refine ⟨_, _, as_name, ho_asgc (d := .int ((2 ^ (k + 1) : Nat) : Int)) (ev_eq (ev_binc ev_int.b (ev_var rfl).b (ro_mul (cm_nat (a := 2) (by decide) (by omega)))) (dint ?_)) ⟨rfl, .dat (.int (0 + (k : Nat))), s5, rfl⟩⟩
    rw [Nat.pow_succ, Nat.mul_comm (2 ^ k)]
    rfl
  · rintro ρ ⟨s8, s5, rfl⟩
    have hb : 2 ^ t ≤ 10 ^ 30 := Nat.le_trans (Nat.pow_le_pow_right (by decide) ht) (by decide)
    have hone : 1 ≤ 2 ^ t := Nat.pow_pos (by decide)
    have hpn : NT.pn (t + 1) = 2 ^ t * (2 * 2 ^ t - 1) := by unfold NT.pn; rw [Nat.add_sub_cancel, Nat.pow_succ, Nat.mul_comm (2 ^ t) 2]
    have hle : NT.pn (t + 1) ≤ NT.pn 61 := NT.pn_mono (by omega) (by omega)
    have hge : NT.pn 1 ≤ NT.pn (t + 1) := NT.pn_mono (by omega) (by omega)
    have h61 : NT.pn 61 ≤ 10 ^ 40 := by decide
    have h1 : NT.pn 1 = 1 := rfl
    refine ho_seq (ho_asgc (d := .int ((NT.pn (t + 1) : Nat) : Int)) ?_ ?_)
    · rw [hpn, Int.natCast_mul]
      refine ev_binc (ev_var rfl).b (ev_eq (ev_binc (ev_binc ev_int.b (ev_var rfl).b (ro_mul (cm_nat (a := 2) (by decide) (by omega)))).b ev_int.b ro_sub) (dint ?_)).b (ro_mul (cm_nat (by omega) (by omega)))
      generalize 2 ^ t = z at *
      omega
    · refine ho_retc (ev_callc (ea_cons (ev_callc (ea_cons (ev_var rfl) ea_nil) ⟨NT.pn (t + 1), by omega, by omega, rfl, rfl⟩) (ea_cons (ev_binc (ev_var rfl).b (eb_own rfl) (ro_inS (neg := false) (.inl rfl) rfl (by decide +kernel))) ea_nil)) ⟨_, _, fit_bl, rfl, ?_, rfl⟩) ⟨rfl, rfl⟩
      show D.bl _ = D.bl (D.mem _ _)
      rw [mem_pn]

end
end Hd

namespace Hd
open PySem PySem.Spec PyProof.Rows L2
open PL
local macro_rules | `(tactic| walk_at "ro") => `(tactic| first
  | with_reducible exact ro_add | with_reducible exact ro_sub | with_reducible exact ro_lt | with_reducible exact ro_le | with_reducible exact ro_gt | with_reducible exact ro_ge | with_reducible exact ro_eqI | with_reducible exact ro_neI
  | with_reducible exact ro_isN | with_reducible exact ro_notN
  | with_reducible refine' ro_mul ?_ | with_reducible refine' ro_fdiv ?_ | with_reducible refine' ro_mod ?_
  | with_reducible refine' ro_eq ?_ ?_ | with_reducible refine' ro_ne ?_ ?_
  | with_reducible refine' ro_ixL ?_ | with_reducible refine' ro_ixT ?_ | with_reducible refine' ro_catT ?_ | with_reducible refine' RON.ro (ron_cat ?_))
local macro_rules | `(tactic| walk_at "ev1") => `(tactic| first
  | with_reducible exact ev_int | with_reducible exact ev_bl | with_reducible exact ev_non | with_reducible exact ev_str | exact ev_var rfl | exact eb_own rfl | exact (ev_var rfl).b
  | with_reducible exact ea_nil | with_reducible exact eb_nil | with_reducible exact ex_nil | with_reducible exact et_yes
  | with_reducible refine' ea_cons ?_ ?_ | with_reducible refine' eb_cons ?_ ?_
  | with_reducible refine' ev_bin ?_ ?_ ?_ | walk_at "ro"
  | with_reducible refine' ev_cb ?_ ?_
  | with_reducible refine' ev_tup ?_ (by first | decide | (simp; done) | (simp; decide))
  | with_reducible refine' et_test ?_ | with_reducible refine' et_B ?_ | with_reducible refine' et_not ?_
  | with_reducible refine' ev_neg ?_
  | with_reducible exact co_lenL | with_reducible exact co_lenT | with_reducible exact co_abs | with_reducible exact co_int | with_reducible exact co_max2 | with_reducible exact co_min2 | with_reducible exact co_sum
  | with_reducible refine' co_tuple (.inl rfl)
  | with_reducible exact ev_op
  | with_reducible refine' EvN.ev (en_lst ?_ (by first | decide | (simp; done) | (simp; decide)))
  | with_reducible refine' Ev.b ?_)
local macro_rules | `(tactic| walk_at "side") => `(tactic| first | (with_reducible refine cm_of ?_ ?_ ?_ ?_ <;> omega) | (with_reducible refine cdiv_of ?_ ?_ <;> omega) | omega | rfl | assumption)
local macro_rules | `(tactic| walk_at "ev") => `(tactic| (all_goals (repeat' walk_at "ev1")); all_goals (try walk_at "side"))
local macro_rules | `(tactic| walk_at "dsl") => `(tactic| (try dsimp only [List.set]))
local macro_rules | `(tactic| walk_at "asg") => `(tactic| (refine' ho_seq (ho_asg ?ha ?hn); walk_at "ev"; walk_at "dsl"))
local macro_rules | `(tactic| walk_at "asg'") => `(tactic| (refine' ho_asg ?ha ?hn; walk_at "ev"; walk_at "dsl"))
local macro_rules | `(tactic| walk_at "par") => `(tactic| (refine' ho_seq (hx_par (ex_dat ?ha (ex_dat ?hb ex_nil)) ?hn); walk_at "ev"; walk_at "dsl"))
local macro_rules | `(tactic| walk_at "par'") => `(tactic| (refine' hx_par (ex_dat ?ha (ex_dat ?hb ex_nil)) ?hn; walk_at "ev"; walk_at "dsl"))
local macro_rules | `(tactic| walk_at "ret") => `(tactic| (refine' ho_ret ?ha ?hn; walk_at "ev"; walk_at "dsl"))
local macro_rules | `(tactic| walk_at "if") => `(tactic| (refine' ho_if ?ha ?ht ?hf; walk_at "ev"))
local macro_rules | `(tactic| walk_at "len") => `(tactic| first | decide | (refine Nat.le_trans (m := 1000) ?_ (by decide); simp [nlD]; done))
local macro_rules | `(tactic| walk_at "fit") => `(tactic| repeat' first | exact fit_int | exact fit_bl | exact fit_non | exact fits_nil | exact fits_nl | refine fits_cons ?_ ?_ | (refine fit_lst (by walk_at "len") ?_) | (refine fit_tup (by walk_at "len") ?_))
local macro_rules | `(tactic| walk_at "lit") => `(tactic| repeat' first | exact ea_nil | refine' ea_cons ?_ ?_ | exact ev_int | exact ev_bl | exact ev_non | exact ev_str | exact ev_neg (ev_int).b | exact ev_var rfl | refine' ev_tup ?_ (by walk_at "len") | refine' EvN.ev (en_lst ?_ (by walk_at "len")))
section
variable {P : Program} {w : World} {K : PySem.W.Frag} {mg : Str → Option Value} {base : Heap}
def R__law_written (ds : List D) (d : D) : Prop := ds = [] ∧ d = .bl true
theorem p31 : NT.prB 2147483647 = true := by decide +kernel
abbrev N__law_written : List Str := ["told", "great"]
theorem sc__law_written : FnScope N__law_written [] (defScope s__law_written) := ⟨rfl, rfl, rfl, by decide +kernel, rfl, by decide +kernel, by decide +kernel⟩
theorem cal__law_written (T : Txt K mg) : Cal P w K mg base CX0 "_law_written" 8 [] (SpR R__law_written) := by
  refine calOf (d := d__law_written) (N := N__law_written) (ps := []) (k := 7) T 31 sc__law_written (fun _ _ _ _ _ _ us hl => match us, hl with | [], _ => rfl) (by rintro ds e ⟨rfl, _⟩; rfl) (fun cdv A outer s H E hr => ⟨_, PSs.nox (pss_cons (ps_set (i := 0) sc__law_written.nd rfl (by first | exact Or.inl rfl | exact Or.inr rfl) (pe_lst (pa_cons (kcall (cal_is_even_perfect T) (hr.mono (by decide)) (pa_cons pe_int pa_nil)) (pa_cons (kcall (cal_is_even_perfect T) (hr.mono (by decide)) (pa_cons pe_int pa_nil)) (pa_cons (kcall (cal_is_even_perfect T) (hr.mono (by decide)) (pa_cons pe_int pa_nil)) (pa_cons (kcall (cal_even_paper T) (hr.mono (by decide)) (pa_cons pe_int pa_nil)) (pa_cons (kcall (cal_even_paper T) (hr.mono (by decide)) (pa_cons pe_int pa_nil)) (pa_cons (kcall (cal_even_paper T) (hr.mono (by decide)) (pa_cons pe_int pa_nil)) (pa_cons (kcall (cal_is_even_paper T) (hr.mono (by decide)) (pa_cons pe_int (pa_cons (pe_tup (pa_cons pe_int (pa_cons pe_int pa_nil))) pa_nil))) (pa_cons (kcall (cal_is_even_paper T) (hr.mono (by decide)) (pa_cons pe_int (pa_cons (pe_tup (pa_cons pe_int (pa_cons pe_int pa_nil))) pa_nil))) pa_nil))))))))))
    (pss_cons (ps_if (pt_not (pt_val (kcall (cal__law_like T) (hr.mono (by decide)) (pa_cons (pv 0) (pa_cons (pe_lst (pa_cons pe_bl (pa_cons pe_bl (pa_cons pe_bl (pa_cons (pe_tup (pa_cons pe_int (pa_cons pe_int pa_nil))) (pa_cons (pe_tup (pa_cons pe_int (pa_cons pe_int pa_nil))) (pa_cons pe_non (pa_cons pe_bl (pa_cons pe_bl pa_nil))))))))) pa_nil))))) (pss_one (ps_ret pe_bl)) pss_nil)
    (pss_cons (ps_set (i := 1) sc__law_written.nd rfl (by first | exact Or.inl rfl | exact Or.inr rfl) (pe_op (kmul K) (pe_op op_pow pe_int pe_int) (pe_op op_sub (pe_op op_pow pe_int pe_int) pe_int)))
    (pss_cons (ps_if (pt_not (pt_val (kcall (cal__law_like T) (hr.mono (by decide)) (pa_cons (pe_lst (pa_cons (kcall (cal_even_perfect_to T) (hr.mono (by decide)) (pa_cons pe_int pa_nil)) (pa_cons (kcall (cal_even_perfect_to T) (hr.mono (by decide)) (pa_cons pe_int pa_nil)) pa_nil))) (pa_cons (pe_lst (pa_cons (pe_tup (pa_cons pe_int (pa_cons pe_int pa_nil))) (pa_cons (pe_tup (pa_cons pe_int pa_nil)) pa_nil))) pa_nil))))) (pss_one (ps_ret pe_bl)) pss_nil)
    (pss_cons (ps_set (i := 0) sc__law_written.nd rfl (by first | exact Or.inl rfl | exact Or.inr rfl) (pe_lst (pa_cons (kcall (cal_even_perfect_to T) (hr.mono (by decide)) (pa_cons (pe_op op_pow pe_int pe_int) pa_nil)) (pa_cons (kcall (cal_even_perfect_to T) (hr.mono (by decide)) (pa_cons pe_int pa_nil)) (pa_cons (pe_callB (klen K) (by rfl) T.f_len (by decide +kernel) (pa_cons (kcall (cal_even_perfect_to T) (hr.mono (by decide)) (pa_cons (pe_op op_pow pe_int pe_int) pa_nil)) pa_nil)) (pa_cons (kcall (cal_even_paper T) (hr.mono (by decide)) (pa_cons (pv 1) pa_nil)) (pa_cons (kcall (cal_even_perfect_to T) (hr.mono (by decide)) (pa_cons pe_int pa_nil)) (pa_cons (kcall (cal_is_even_perfect T) (hr.mono (by decide)) (pa_cons pe_int pa_nil)) (pa_cons (kcall (cal_is_prime T) (hr.mono (by decide)) (pa_cons (pe_op op_sub (pe_op op_pow pe_int pe_int) pe_int) pa_nil)) pa_nil)))))))))
    (pss_one (ps_ret (kcall (cal__law_like T) (hr.mono (by decide)) (pa_cons (pv 0) (pa_cons (pe_lst (pa_cons (pe_tup (pa_cons pe_int (pa_cons pe_int (pa_cons pe_int (pa_cons pe_int pa_nil))))) (pa_cons (pe_tup pa_nil) (pa_cons pe_int (pa_cons (pe_tup (pa_cons pe_int (pa_cons (pe_op op_sub (pe_op op_pow pe_int pe_int) pe_int) pa_nil))) (pa_cons (pe_tup pa_nil) (pa_cons pe_bl (pa_cons pe_bl pa_nil)))))))) pa_nil)))))))))), ?_⟩)
  rintro ds d ⟨rfl, rfl⟩
  show Ho _ [.dead, .dead] none _
  have q28 : NT.paperT 28 = some (2, 7) := by decide +kernel
  have q12 : NT.paperT 12 = none := by decide +kernel
  have q9 : NT.paperT 9 = none := by decide +kernel
  have q6 : NT.paperT 6 = some (1, 3) := by decide +kernel
  have q496 : NT.paperT 496 = some (4, 31) := by decide +kernel
  have q8 : NT.paperT 8 = none := by decide +kernel
  have q1 : NT.paperT 1 = none := by decide +kernel
  have qg : NT.paperT (2 ^ 60 * (2 ^ 61 - 1)) = some (60, 2 ^ 61 - 1) := by decide +kernel
  have t28 : evTo 28 = [6, 28] := by decide +kernel
  have t27 : evTo 27 = [6] := by decide +kernel
  have t4 : evTo (10 ^ 4) = [6, 28, 496, 8128] := by decide +kernel
  have t5 : evTo 5 = [] := by decide +kernel
  have t1 : evTo 1 = [] := by decide +kernel
  have fp : ∀ a b : Int, fit (.tup [.int a, .int b]) 1 = true := fun a b => fit_tup (n := 0) (show 2 ≤ 10000000 by decide) (fits_cons fit_int (fits_cons fit_int fits_nil))
  refine ho_seq (ho_asgc (EvN.ev (en_lst (ea_cons (ev_callc (ea_cons ev_int ea_nil) ⟨28, by decide, by decide, rfl, rfl⟩) (ea_cons (ev_callc (ea_cons ev_int ea_nil) ⟨12, by decide, by decide, rfl, rfl⟩) (ea_cons (ev_callc (ea_cons ev_int ea_nil) ⟨9, by decide, by decide, rfl, rfl⟩) (ea_cons (ev_callc (ea_cons ev_int ea_nil) ⟨6, by decide, by decide, rfl, rfl⟩) (ea_cons (ev_callc (ea_cons ev_int ea_nil) ⟨496, by decide, by decide, rfl, rfl⟩) (ea_cons (ev_callc (ea_cons ev_int ea_nil) ⟨8, by decide, by decide, rfl, rfl⟩) (ea_cons (ev_callc (ea_cons ev_int (ea_cons (ev_tup2 ev_int ev_int) ea_nil)) ⟨28, _, 1, by decide, by decide, fp 2 7, rfl, rfl⟩) (ea_cons (ev_callc (ea_cons ev_int (ea_cons (ev_tup2 ev_int ev_int) ea_nil)) ⟨28, _, 1, by decide, by decide, fp 2 14, rfl, rfl⟩) ea_nil)))))))) (by walk_at "len"))) ?_)
  rw [q28, q12, q9, q6, q496, q8]
  refine ho_seq (ho_unless (ea_cons (ev_var rfl) (ea_cons (EvN.ev (en_lst (ea_cons ev_bl (ea_cons ev_bl (ea_cons ev_bl (ea_cons (ev_tup2 ev_int ev_int) (ea_cons (ev_tup2 ev_int ev_int) (ea_cons ev_non (ea_cons ev_bl (ea_cons ev_bl ea_nil)))))))) (by walk_at "len"))) ea_nil)) ⟨_, _, ?_, rfl, rfl, rfl⟩ ?_)
  · unfold optD
    walk_at "fit"
  refine ho_seq (ho_asgc (d := .int ((2 ^ 60 * (2 ^ 61 - 1) : Nat) : Int)) (ev_eq (ev_binc (ev_binc ev_int.b ev_int.b (ro_pow (by decide) (by decide) (by decide))).b (ev_binc (ev_binc ev_int.b ev_int.b (ro_pow (by decide) (by decide) (by decide))).b ev_int.b ro_sub).b (ro_mul (cm_of (by decide) (by decide) (by decide) (by decide)))) rfl) ?_)
  refine ho_seq (ho_unless (ea_cons (EvN.ev (en_lst (ea_cons (ev_callc (ea_cons ev_int ea_nil) ⟨28, by decide, by decide, rfl, rfl⟩) (ea_cons (ev_callc (ea_cons ev_int ea_nil) ⟨27, by decide, by decide, rfl, rfl⟩) ea_nil)) (by walk_at "len"))) (ea_cons (EvN.ev (en_lst (ea_cons (ev_tup2 ev_int ev_int) (ea_cons (ev_tup1 ev_int) ea_nil)) (by walk_at "len"))) ea_nil)) ⟨_, _, ?_, rfl, by rw [t28, t27]; rfl, rfl⟩ ?_)
  · rw [t28, t27]
    exact fit_lst (by decide) (fits_cons (fit_tup (by decide) fits_nl) (fits_cons (fit_tup (by decide) fits_nl) fits_nil))
  have hp : ∀ {ρ : List Sl} {c : Cup} (n : Nat) (h : n ≤ 100), Ev (tOp (rI CPow fun i j => .int (i ^ j.toNat)) (tC (.int 10)) (tC (.int (n : Int)))) ρ c (.int ((10 ^ n : Nat) : Int)) c := fun {ρ c} n h => ev_eq (ev_binc ev_int.b ev_int.b (ro_pow (by omega) (by omega) (by decide))) (by rw [Int.toNat_natCast, Int.natCast_pow]; rfl)
  refine ho_seq (ho_asgc (EvN.ev (en_lst (ea_cons (ev_callc (ea_cons (hp 4 (by decide)) ea_nil) ⟨10 ^ 4, by decide, by decide, rfl, rfl⟩) (ea_cons (ev_callc (ea_cons ev_int ea_nil) ⟨5, by decide, by decide, rfl, rfl⟩) (ea_cons (ev_cbc (eb_cons (c1 := none) (ev_callc (ea_cons (hp 40 (by decide)) ea_nil) ⟨10 ^ 40, by decide, by decide, rfl, rfl⟩).b eb_nil) co_lenT) (ea_cons (ev_callc (ea_cons (ev_var rfl) ea_nil) ⟨2 ^ 60 * (2 ^ 61 - 1), by decide, by decide, rfl, rfl⟩) (ea_cons (ev_callc (ea_cons ev_int ea_nil) ⟨1, by decide, by decide, rfl, rfl⟩) (ea_cons (ev_callc (ea_cons ev_int ea_nil) ⟨1, by decide, by decide, rfl, rfl⟩) (ea_cons (ev_callc (ea_cons (ev_eq (ev_binc (ev_binc ev_int.b ev_int.b (ro_pow (by decide) (by decide) (by decide))).b ev_int.b ro_sub) (show D.int (2 ^ 31 - 1) = .int ((2147483647 : Nat) : Int) from rfl)) ea_nil) ⟨2147483647, by decide, by decide, rfl, rfl⟩) ea_nil))))))) (by walk_at "len"))) ?_)
  rw [t4, t5, t1, q1, qg, evTo_all, p31]
  refine ho_retc (ev_callc (ea_cons (ev_var rfl) (ea_cons (EvN.ev (en_lst (ea_cons (ev_tup (ea_cons ev_int (ea_cons ev_int (ea_cons ev_int (ea_cons ev_int ea_nil)))) (by walk_at "len")) (ea_cons (ev_tup ea_nil (by decide)) (ea_cons ev_int (ea_cons (ev_tup2 ev_int (ev_binc (ev_binc ev_int.b ev_int.b (ro_pow (by decide) (by decide) (by decide))).b ev_int.b ro_sub)) (ea_cons (ev_tup ea_nil (by decide)) (ea_cons ev_bl (ea_cons ev_bl ea_nil))))))) (by walk_at "len"))) ea_nil)) ⟨_, _, ?_, rfl, rfl, rfl⟩) ⟨rfl, rfl⟩
  · unfold optD
    exact fit_lst (by walk_at "len") (fits_cons (fit_tup (by decide) fits_nl) (fits_cons (fit_tup (by decide) fits_nl) (fits_cons fit_int (fits_cons (fit_tup (by decide) (fits_cons fit_int (fits_cons fit_int fits_nil))) (fits_cons (fit_tup (by decide) fits_nl) (fits_cons fit_bl (fits_cons fit_bl fits_nil)))))))
theorem lone_small : ∀ t, 1 ≤ t → t ≤ 17 → (NT.paperT (NT.pn (t + 1))).isSome = NT.prB (2 ^ (t + 1) - 1) := by
  have : (List.range 18).all (fun t => decide (t < 1) || ((NT.paperT (NT.pn (t + 1))).isSome == NT.prB (2 ^ (t + 1) - 1))) = true := by decide +kernel
  intro t h1 ht
  rw [List.all_eq_true] at this
  have := this t (List.mem_range.mpr (by omega))
  rw [decide_eq_false (by omega), Bool.false_or] at this
  exact beq_iff_eq.mp this
def R_law (K : PySem.W.Frag) (ds : List D) (d : D) : Prop := ∃ ns : List Int, ns.length ≤ 63 ∧ ds = [.scr K ns] ∧ d = .bl true
abbrev N_law : List Str := ["script", "cup", "every", "paper", "number", "great", "times", "power", "turn"]
theorem sc_law : FnScope N_law ["script"] (defScope s_law) := ⟨rfl, rfl, rfl, by decide +kernel, rfl, by decide +kernel, by decide +kernel⟩
theorem cal_law (T : Txt K mg) : CalT P w K mg CX0 "law" 9 ["script"] (SpR (R_law K)) := by
  refine calTop (d := d_law) (N := N_law) (ps := ["script"]) (k := 8) T 32 sc_law (fun _ _ _ _ _ _ us hl => match us, hl with | [_], _ => rfl) (by rintro ds e ⟨_, _, rfl, _⟩; rfl) (fun base cdv A outer s H E hr => ⟨_, PSs.nox (pss_cons (ps_if (pt_not (pt_val (kcall0 (cal__law_written T) (hr.mono (by decide))))) (pss_one (ps_ret pe_bl)) pss_nil)
    (pss_cons (ps_set (i := 1) sc_law.nd rfl (by first | exact Or.inl rfl | exact Or.inr rfl) (kcall (cal__law_cup T) (hr.mono (by decide)) (pa_cons (pv 0) pa_nil)))
    (pss_cons (ps_setLc (i := 2) (own := [("paper", 3), ("number", 4)]) (g := (gTup K 2 (gCons (gName 3) (gCons (gName 4) gNil)))) rfl sc_law.nd rfl rfl (sw_true rfl rfl rfl (by decide +kernel)) (kseq K (kcall0 (cal__law_perfect T) (hr.mono (by decide)))) (blkOk_by (own := [("paper", 3), ("number", 4)]) (N := N_law) (sc := defScope s_law) (by decide +kernel)) (fun _ _ _ _ _ => (kg_tup K (pgs_cons (pg_name (i := 3) sc_law.nd rfl (by first | exact Or.inl rfl | exact Or.inr rfl)) (pgs_cons (pg_name (i := 4) sc_law.nd rfl (by first | exact Or.inl rfl | exact Or.inr rfl)) pgs_nil)))) (fun _ _ _ _ _ => pts_nil) (fun _ _ _ _ _ => (pv 4)))
    (pss_cons (ps_for PassesOwn.never rfl (kseq K (pe_tup (pa_cons (pe_op (kadd K) pe_int (kcall (cal__law_roll T) (hr.mono (by decide)) (pa_cons (pv 1) (pa_cons pe_int pa_nil)))) (pa_cons (pe_op (kadd K) pe_int (kcall (cal__law_roll T) (hr.mono (by decide)) (pa_cons (pv 1) (pa_cons (pe_op op_pow pe_int pe_int) pa_nil)))) (pa_cons (kcall (cal__law_some T) (hr.mono (by decide)) (pa_cons (pv 1) (pa_cons (pv 2) pa_nil))) (pa_cons (pe_op (kadd K) (kcall (cal__law_some T) (hr.mono (by decide)) (pa_cons (pv 1) (pa_cons (pv 2) pa_nil))) (pe_op (kmul K) pe_int (kcall (cal__law_roll T) (hr.mono (by decide)) (pa_cons (pv 1) (pa_cons pe_int pa_nil))))) (pa_cons (pe_op (kadd K) pe_int (kcall (cal__law_roll T) (hr.mono (by decide)) (pa_cons (pv 1) (pa_cons (pe_op op_pow pe_int pe_int) pa_nil)))) pa_nil))))))) (pg_name (i := 5) sc_law.nd rfl (by first | exact Or.inl rfl | exact Or.inr rfl)) (pss_one (ps_if (pt_not (pt_val (kcall (cal__law_right T) (hr.mono (by decide)) (pa_cons (pv 1) (pa_cons (pv 5) pa_nil))))) (pss_one (ps_ret pe_bl)) pss_nil)))
    (pss_cons (ps_for PassesOwn.never rfl (pi_range2 rfl T.f_range (pa_cons pe_int (pa_cons pe_int pa_nil))) (pg_name (i := 6) sc_law.nd rfl (by first | exact Or.inl rfl | exact Or.inr rfl)) (pss_cons (ps_set (i := 7) sc_law.nd rfl (by first | exact Or.inl rfl | exact Or.inr rfl) pe_int)
    (pss_cons (ps_for PassesOwn.never rfl (pi_range1 rfl T.f_range (pa_cons (pv 6) pa_nil)) (pg_name (i := 8) sc_law.nd rfl (by first | exact Or.inl rfl | exact Or.inr rfl)) (pss_one (ps_set (i := 7) sc_law.nd rfl (by first | exact Or.inl rfl | exact Or.inr rfl) (pe_op (kmul K) pe_int (pv 7)))))
    (pss_one (ps_if (pt_cmpR (kne K hr.units) (kcall (cal_is_even_perfect T) (hr.mono (by decide)) (pa_cons (pe_op (kmul K) (pv 7) (pe_op op_sub (pe_op (kmul K) pe_int (pv 7)) pe_int)) pa_nil)) (kcall (cal__law_is_prime T) (hr.mono (by decide)) (pa_cons (pe_op op_sub (pe_op (kmul K) pe_int (pv 7)) pe_int) pa_nil)) (nomark _)) (pss_one (ps_ret pe_bl)) pss_nil)))))
    (pss_one (ps_ret (kcall (cal__law_lists_right T) (hr.mono (by decide)) (pa_cons (pv 1) pa_nil))))))))), ?_⟩)
  rintro ds d ⟨ns, hl, rfl, rfl⟩
  show Ho _ [.dat (.scr K ns), .dead, .dead, .dead, .dead, .dead, .dead, .dead, .dead] none _
  refine ho_seq (ho_unless ea_nil ⟨rfl, rfl⟩ ?_)
  refine ho_cupIn (x := cupOf ns) (en_call (ea_cons (ev_var rfl) ea_nil) ⟨ns, by omega, rfl, rfl⟩) rfl ?_
  have x0 := cupOf_ok ns
  generalize cupOf ns = c0 at *
  have hp : ∀ {ρ : List Sl} {c : Cup} (n : Nat) (h : n ≤ 100), Ev (tOp (rI CPow fun i j => .int (i ^ j.toNat)) (tC (.int 10)) (tC (.int (n : Int)))) ρ c (.int ((10 ^ n : Nat) : Int)) c := fun {ρ c} n h => ev_eq (ev_binc ev_int.b ev_int.b (ro_pow (by omega) (by omega) (by decide))) (by rw [Int.toNat_natCast, Int.natCast_pow]; rfl)
  refine ho_seq (ho_asg (EvN.ev (ev_every (T := 0) (fun s hs => by cases hs; rfl) (fun s hs => by cases hs; rfl) (by decide) (show 4 < 9 by decide))) ?_)
  have h1 := rollV_lt c0 (m := 50) (by decide)
  have x1 := rollC_ok x0 50
  have h2 := rollV_lt (rollC c0 50) (m := 10 ^ 6) (by decide)
  have x2 := rollC_ok x1 (10 ^ 6)
  have h3 := rollV_lt (rollC (rollC c0 50) (10 ^ 6)) (m := 9) (by decide)
  have x3 := rollC_ok x2 9
  have h4 := rollV_lt (rollC (rollC (rollC c0 50) (10 ^ 6)) 9) (m := 9) (by decide)
  have x4 := rollC_ok x3 9
  have h5 := rollV_lt (rollC (rollC (rollC (rollC c0 50) (10 ^ 6)) 9) 9) (m := 2) (by decide)
  have x5 := rollC_ok x4 2
  have h6 := rollV_lt (rollC (rollC (rollC (rollC (rollC c0 50) (10 ^ 6)) 9) 9) 2) (m := 10 ^ 40) (by decide)
  have x6 := rollC_ok x5 (10 ^ 40)
  have f3 := every_facts _ h3
  have f4 := every_facts _ h4
  have hlen : (nlD everyN).length = 9 := rfl
  have ev5 : ∀ {t1 t2 t3 t4 t5 : TE} {ρ : List Sl} {c c1 c2 c3 c4 c5 : Cup} {a b d e f : Nat}, Ev t1 ρ c (.int (a : Int)) c1 → Ev t2 ρ c1 (.int (b : Int)) c2 → Ev t3 ρ c2 (.int (d : Int)) c3 → Ev t4 ρ c3 (.int (e : Int)) c4 → Ev t5 ρ c4 (.int (f : Int)) c5 →
      EvI (iSeq K (tTup (tCons t1 (tCons t2 (tCons t3 (tCons t4 (tCons t5 tNil))))))) ρ c ([a, b, d, e, f].map fun n : Nat => D.int (n : Int)) c5 := fun g1 g2 g3 g4 g5 => ei_tup (ev_tup (ea_cons g1 (ea_cons g2 (ea_cons g3 (ea_cons g4 (ea_cons g5 ea_nil))))) (by walk_at "len"))
  refine ho_seq (ho_forL (L := [1 + rollV c0 50, 1 + rollV (rollC c0 50) (10 ^ 6), everyN.getD (rollV (rollC (rollC c0 50) (10 ^ 6)) 9) 0, everyN.getD (rollV (rollC (rollC (rollC c0 50) (10 ^ 6)) 9) 9) 0 + 2 * rollV (rollC (rollC (rollC (rollC c0 50) (10 ^ 6)) 9) 9) 2, 1 + rollV (rollC (rollC (rollC (rollC (rollC c0 50) (10 ^ 6)) 9) 9) 2) (10 ^ 40)]) (e := fun n : Nat => .int (n : Int))
    (fun l ρ c => ∃ (x : Int × Int) (s5 : Sl), c = some x ∧ CupOk x ∧ ρ = [.dat (.scr K ns), .cup, .dat (.lst (nlD everyN)), .dead, .dead, s5, .dead, .dead, .dead])
    (ev5 (ev_bin (c1 := some c0) ev_int.b (ev_callC rfl (ea_cons ev_int ea_nil) ⟨50, by decide, by decide, x0, rfl, rfl, rfl⟩).b ro_add)
      (ev_bin (c1 := some (rollC c0 50)) ev_int.b (ev_callC rfl (ea_cons (hp 6 (by decide)) ea_nil) ⟨10 ^ 6, by decide, by decide, x1, rfl, rfl, rfl⟩).b ro_add)
      (ev_callC rfl (ea_cons (ev_var rfl) ea_nil) ⟨nlD everyN, by rw [hlen]; decide, by rw [hlen]; decide, x2, .inl rfl, by rw [hlen]; exact every_at h3, by rw [hlen]⟩)
      (ev_bin (ev_callC rfl (ea_cons (ev_var rfl) ea_nil) ⟨nlD everyN, by rw [hlen]; decide, by rw [hlen]; decide, x3, .inl rfl, by rw [hlen]; exact every_at h4, by rw [hlen]⟩).b (ev_bin (c1 := some (rollC (rollC (rollC (rollC c0 50) (10 ^ 6)) 9) 9)) ev_int.b (ev_callC rfl (ea_cons ev_int ea_nil) ⟨2, by decide, by decide, x4, rfl, rfl, rfl⟩).b (ro_mul (cm_nat (a := 2) (by decide) (by omega)))).b ro_add)
      (ev_bin (c1 := some (rollC (rollC (rollC (rollC (rollC c0 50) (10 ^ 6)) 9) 9) 2)) ev_int.b (ev_callC rfl (ea_cons (hp 40 (by decide)) ea_nil) ⟨10 ^ 40, by decide, by decide, x5, rfl, rfl, rfl⟩).b ro_add)) ⟨_, _, rfl, x6, rfl⟩ ?_ ?_)
  · rintro l n r ρ c hL ⟨x, s5, rfl, hx, rfl⟩
    have hn : n ∈ l ++ n :: r := by simp
    rw [← hL] at hn
    have hb : 1 ≤ n ∧ n ≤ 10 ^ 40 := by
      simp only [List.mem_cons, List.not_mem_nil, or_false] at hn
      rcases hn with rfl | rfl | rfl | rfl | rfl <;> omega
    refine ⟨_, _, as_name, ho_unlessC rfl (ea_cons (ev_var rfl) ea_nil) ⟨n, hb.1, hb.2, hx, rfl, rfl, rfl⟩ ⟨_, _, rfl, (bentT_ok (ns := [(some56 n).1, (some56 n).2]) hx (show 0 < 2 by decide) (show 2 ≤ 1000000 by decide)).2, rfl⟩⟩
  · rintro ρ c ⟨x, s5, rfl, hx, rfl⟩
    refine ho_seq (ho_forRc (lo := 1) (n := 17) (fun k ρ => ∃ s6 s7 s8 : Sl, ρ = [.dat (.scr K ns), .cup, .dat (.lst (nlD everyN)), .dead, .dead, s5, s6, s7, s8]) (ei_rng2 (i := 1) (j := 18) (ea_cons ev_int (ea_cons ev_int ea_nil)) (by decide) (by decide) (by decide) (by decide)) ⟨_, _, _, rfl⟩ ?_ ?_)
    · rintro k ρ hk ⟨s6, s7, s8, rfl⟩
      refine ⟨_, _, as_name, ?_⟩
      show Ho _ [.dat (.scr K ns), .cup, .dat (.lst (nlD everyN)), .dead, .dead, s5, .dat (.int (1 + (k : Nat))), s7, s8] _ _
      have ek : (1 : Int) + (k : Nat) = ((k + 1 : Nat) : Int) := by omega
      rw [ek]
      have ht : k + 1 ≤ 17 := by omega
      have ht1 : 1 ≤ k + 1 := by omega
      generalize k + 1 = t at *
      refine ho_seq (ho_asgc ev_int ?_)
      refine ho_seq (ho_forRc (lo := 0) (n := t) (fun j ρ => ∃ s8 : Sl, ρ = [.dat (.scr K ns), .cup, .dat (.lst (nlD everyN)), .dead, .dead, s5, .dat (.int (t : Int)), .dat (.int ((2 ^ j : Nat) : Int)), s8]) ?_ ⟨_, rfl⟩ ?_ ?_)
      · have : (t : Int).toNat = t := by omega
        rw [show rng 0 t = rng 0 (t : Int).toNat by rw [this]]
        exact ei_rng1 (ea_cons (ev_var rfl) ea_nil) (by omega) (by omega)
      · rintro j ρ hj ⟨s8, rfl⟩
        have hb : 2 ^ j ≤ 10 ^ 30 := Nat.le_trans (Nat.pow_le_pow_right (by decide) (show j ≤ 17 by omega)) (by decide)
        refine ⟨_, _, as_name, ho_asgc (d := .int ((2 ^ (j + 1) : Nat) : Int)) (ev_eq (ev_binc ev_int.b (ev_var rfl).b (ro_mul (cm_nat (a := 2) (by decide) (by omega)))) (dint ?_)) ⟨rfl, .dat (.int (0 + (j : Nat))), rfl⟩⟩
        rw [Nat.pow_succ, Nat.mul_comm (2 ^ j)]
        rfl
      · rintro ρ ⟨s8, rfl⟩
        have hb : 2 ^ t ≤ 10 ^ 6 := Nat.le_trans (Nat.pow_le_pow_right (by decide) ht) (by decide)
        have hone : 1 ≤ 2 ^ t := Nat.pow_pos (by decide)
        have hpn : NT.pn (t + 1) = 2 ^ t * (2 ^ (t + 1) - 1) := by unfold NT.pn; rw [Nat.add_sub_cancel]
        have hle : NT.pn (t + 1) ≤ NT.pn 18 := NT.pn_mono (by omega) (by omega)
        have hge : NT.pn 1 ≤ NT.pn (t + 1) := NT.pn_mono (by omega) (by omega)
        have h18 : NT.pn 18 ≤ 10 ^ 40 := by decide
        have hp1 : NT.pn 1 = 1 := rfl
        have h2t : 2 ^ (t + 1) = 2 * 2 ^ t := by rw [Nat.pow_succ, Nat.mul_comm]
        have hev : ∀ {ρ : List Sl} {c : Cup}, ρ[7]? = some (.dat (.int ((2 ^ t : Nat) : Int))) → Ev (tOp (rI0 fun i j => .int (i - j)) (tOp (rMul K) (tC (.int 2)) (tVar 7)) (tC (.int 1))) ρ c (.int ((2 ^ (t + 1) - 1 : Nat) : Int)) c := fun {ρ c} h => by
          refine ev_eq (ev_binc (ev_binc ev_int.b (ev_var h).b (ro_mul (cm_nat (a := 2) (by decide) (by omega)))).b ev_int.b ro_sub) (dint ?_)
          rw [h2t]
          generalize 2 ^ t = z at *
          omega
        refine ho_ifc (b := false) (et_eq (et_test (ev_binc (ev_callc (ea_cons (ev_eq (ev_binc (ev_var rfl).b (hev rfl).b (ro_mul (cm_nat (by omega) (by omega)))) (by rw [hpn, Int.natCast_mul (2 ^ t)])) ea_nil) ⟨NT.pn (t + 1), by omega, by omega, rfl, rfl⟩).b (ev_callc (ea_cons (hev rfl) ea_nil) ⟨2 ^ (t + 1) - 1, by omega, rfl, rfl⟩).b (ro_ne rfl rfl))) ?_) (fun h => by cases h) (fun _ => ho_next ⟨rfl, _, _, _, rfl⟩)
        rw [eqv_bl, lone_small t ht1 ht]
        simp
    · rintro ρ ⟨s6, s7, s8, rfl⟩
      exact ho_ret (ev_callC rfl ea_nil ⟨hx, rfl, rfl, rfl⟩) ⟨by simp, rfl, rfl⟩

end
end Hd

namespace Hd
open PySem PySem.Spec PyProof.Rows L2 PL
theorem topF {P : Program} {w : World} {K : PySem.W.Frag} {h : Heap} {mg : Str → Option Value} {f : Addr} (X : K.In h) (G : h.Ns mainGlobals mg) (hfa : mg ("law" : Str) = some (.ref f)) (c : He.SaysD fa fn K) :
    ∃ (fd : FuncData) (sp : Sp), (∀ (s : Shared) (v : Value), BindsTo s fd ⟨[v], []⟩ [("script", v)]) ∧ (∀ (H : Hp) (a : Addr) (ns : List Int), ns.length ≤ 63 → SqL K H a (ns.map V.int) → sp [.ref a] H (fun v _ => v = .bl true) fun _ _ _ => False) ∧ ∀ base : Heap, FnOk P w K mg base CX0 9 f fd ["script"] sp := by
  obtain ⟨f', fd, F, g, b⟩ := cal_law (P := P) (w := w) (⟨⟨h, X, G⟩, c⟩ : Txt K mg)
  cases hfa.symm.trans g
  exact ⟨fd, SpR (R_law K), b, fun H a ns hl hS => ⟨H, [.scr K ns], .bl true, Same.refl H, .cons (.scr hS) .nil, ⟨ns, hl, rfl, rfl⟩, fun v G' H' _ r => (by cases r; rfl)⟩, F⟩
end Hd
open PySem PySem.W PySem.Calls PyProof.Rows
theorem PySem.Challenge.cw_primessure_k56_whole_even_perfect_number_holds : PySem.Challenge.rw_primessure_k56_whole_even_perfect_number.Holds := by
  w_on; o_law
  refine HandSHeadRun.head_any (r := OpenLaw.row PySem.Challenge.rw_primessure_k56_whole_even_perfect_number) (q := view (OpenLaw.row PySem.Challenge.rw_primessure_k56_whole_even_perfect_number).prog [42]) (H := Hd.hk) (ob := Hd.ob) (M := 4000) (loose := Hd.nms) (d := HandSHeadRun.topDef (OpenLaw.row PySem.Challenge.rw_primessure_k56_whole_even_perfect_number).prog 42) (kwd := []) Hd.ob_eq
    (by kernel_rfl) (fun s => by kernel_rfl) Hd.run (by kernel_rfl) (by kernel_rfl) (by kernel_rfl) (by rfl) (by first | assumption | decide +kernel) (by decide +kernel) ⟨rfl, rfl, rfl, rfl, rfl, by decide +kernel⟩ ?hw ?hc
  case hw => w_witness2
  case hc =>
    refine L2.walk_ofE (l := PySem.Challenge.rw_primessure_k56_whole_even_perfect_number) (n := 63) (k := 9) (x := "script") (CX := L2.CX0) rfl (by decide) (by kernel_rfl) ⟨rfl, by decide, by decide⟩ ?F (fun _ _ _ _ z => z)
    intro w mg fa h Y G hmg0
    obtain ⟨K, KX, c⟩ := Y
    have hmg : mg ("law" : PySem.Str) = some (.ref fa) := by
      have e : (HandSHeadRun.topDef (OpenLaw.row PySem.Challenge.rw_primessure_k56_whole_even_perfect_number).prog 42).name = ("law" : PySem.Str) := by kernel_rfl
      rw [← e]
      exact hmg0
    obtain ⟨fd, sp, hb, hs, hF⟩ := Hd.topF (P := (PySem.Challenge.rw_primessure_k56_whole_even_perfect_number).prog) (w := w) KX G hmg c
    exact ⟨K, fd, sp, KX, hb, fun H a ns hl _ hS => hs H a ns hl hS, fun base _ _ => hF base⟩

