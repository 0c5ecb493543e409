import PyProof.Rows.All
import Wide.All
import OpenK.AllK
import Wide.FinOn
import HandS.ForMost
import HandS.ForExc
import HandS.IsInst
import HandS.StrMore
import HandS.Walk
import HandS.Flow
import HandS.ExcIs
import HandS.More
import HandS.ReplaceLit
import HandS.ReplaceList
import PySem.Challenge.RW_settingbook_k01_whole_values
import HandS.HeadHook3
set_option Elab.async false
set_option linter.all false
set_option maxRecDepth 100000
set_option maxHeartbeats 1000000
/-! Dt: a big-step semantics on plain data over the layer HandS. -/
namespace Dt
open PySem PySem.Spec PyProof.Rows L2

/-- plain data -/
inductive D where
  | non | bl (b : Bool) | int (i : Int) | str (x : Str) | lst (xs : List D) | tup (xs : List D) | exc (C : Addr) | scr (ns : List Int)

/-- a caught exception of the own class C, without fields -/
def ExH (C a : Addr) : HO := .ext fun h => ∃ (oe : Obj) (vs : Array Value), h.get? a = some oe ∧ Zc (.ref C) none oe ∧ oe.data = .fields vs

mutual
inductive Rp (K : PySem.W.Frag) (I : Hp) : V → D → Prop
  | non : Rp K I .non .non
  | bl (b : Bool) : Rp K I (.bl b) (.bl b)
  | int (i : Int) : Rp K I (.int i) (.int i)
  | str (x : Str) : Rp K I (.str x) (.str x)
  | lst {a : Addr} {xs : List V} {ds : List D} : I a = some (.lst xs) → RpAll K I xs ds → Rp K I (.ref a) (.lst ds)
  | tup {a : Addr} {xs : List V} {ds : List D} : SqT K I a xs → RpAll K I xs ds → Rp K I (.ref a) (.tup ds)
  | exc {a C : Addr} : I a = some (ExH C a) → Rp K I (.ref a) (.exc C)
  | scr {a : Addr} {ns : List Int} : SqL K I a (ns.map V.int) → Rp K I (.ref a) (.scr ns)
inductive RpAll (K : PySem.W.Frag) (I : Hp) : List V → List D → Prop
  | nil : RpAll K I [] []
  | cons {v : V} {vs : List V} {d : D} {ds : List D} : Rp K I v d → RpAll K I vs ds → RpAll K I (v :: vs) (d :: ds)
end

theorem same_t {K : PySem.W.Frag} {H H' : Hp} {a : Addr} {xs : List V} (e : Same H H') (h : SqT K H a xs) : SqT K H' a xs := by
  rcases h with (h | ⟨o, h⟩) | h
  · exact .inl (.inl (e _ _ h))
  · exact .inl (.inr ⟨o, e _ _ h⟩)
  · exact .inr h

section
variable {K : PySem.W.Frag} {I I' : Hp}
mutual
theorem Rp.mono (e : Same I I') : ∀ (d : D) (v : V), Rp K I v d → Rp K I' v d
  | .non, _, h => by cases h; exact .non
  | .bl b, _, h => by cases h; exact .bl b
  | .int i, _, h => by cases h; exact .int i
  | .str x, _, h => by cases h; exact .str x
  | .lst ds, _, h => by
    cases h with
    | lst h1 h2 => exact .lst (e _ _ h1) (RpAll.mono e ds _ h2)
  | .tup ds, _, h => by
    cases h with
    | tup h1 h2 => exact .tup (same_t e h1) (RpAll.mono e ds _ h2)
  | .exc C, _, h => by
    cases h with
    | exc h1 => exact .exc (e _ _ h1)
  | .scr ns, _, h => by
    cases h with
    | scr h1 => exact .scr (e.seq h1)
theorem RpAll.mono (e : Same I I') : ∀ (ds : List D) (vs : List V), RpAll K I vs ds → RpAll K I' vs ds
  | [], _, h => by cases h; exact .nil
  | d :: ds, _, h => by
    cases h with
    | cons h1 h2 => exact .cons (Rp.mono e d _ h1) (RpAll.mono e ds _ h2)
end
theorem Rp.up {v : V} {d : D} (h : Rp K I v d) (e : Same I I') : Rp K I' v d := Rp.mono e d v h
theorem RpAll.up {v : List V} {d : List D} (h : RpAll K I v d) (e : Same I I') : RpAll K I' v d := RpAll.mono e d v h

theorem RpAll.length : ∀ {vs : List V} {ds : List D}, RpAll K I vs ds → vs.length = ds.length
  | _, _, .nil => rfl
  | _, _, .cons _ t => by rw [List.length_cons, List.length_cons, t.length]
theorem RpAll.get : ∀ {vs : List V} {ds : List D} {i : Nat} {d : D}, RpAll K I vs ds → ds[i]? = some d → ∃ v, vs[i]? = some v ∧ Rp K I v d
  | _, _, _, _, .nil, e => by simp at e
  | _, _, 0, _, .cons r _, e => by simp at e; subst e; exact ⟨_, rfl, r⟩
  | _, _, i + 1, d, .cons _ t, e => by
    obtain ⟨u, h1, h2⟩ := RpAll.get (i := i) (d := d) t (by simpa using e)
    exact ⟨u, by simpa using h1, h2⟩
theorem RpAll.getV : ∀ {vs : List V} {ds : List D} {i : Nat} {v : V}, RpAll K I vs ds → vs[i]? = some v → ∃ d, ds[i]? = some d ∧ Rp K I v d
  | _, _, _, _, .nil, e => by simp at e
  | _, _, 0, _, .cons r _, e => by simp at e; subst e; exact ⟨_, rfl, r⟩
  | _, _, i + 1, d, .cons _ t, e => by
    obtain ⟨u, h1, h2⟩ := RpAll.getV (i := i) (v := d) t (by simpa using e)
    exact ⟨u, by simpa using h1, h2⟩
theorem RpAll.append : ∀ {vs us : List V} {ds es : List D}, RpAll K I vs ds → RpAll K I us es → RpAll K I (vs ++ us) (ds ++ es)
  | _, _, _, _, .nil, s => s
  | _, _, _, _, .cons r t, s => .cons r (RpAll.append t s)
theorem RpAll.take : ∀ {vs : List V} {ds : List D} (n : Nat), RpAll K I vs ds → RpAll K I (vs.take n) (ds.take n)
  | _, _, 0, _ => .nil
  | _, _, _ + 1, .nil => .nil
  | _, _, n + 1, .cons r t => .cons r (RpAll.take n t)
theorem RpAll.drop : ∀ {vs : List V} {ds : List D} (n : Nat), RpAll K I vs ds → RpAll K I (vs.drop n) (ds.drop n)
  | _, _, 0, r => r
  | _, _, _ + 1, .nil => .nil
  | _, _, n + 1, .cons _ t => RpAll.drop n t
theorem RpAll.set {v : V} {d : D} (r : Rp K I v d) : ∀ {vs : List V} {ds : List D} (i : Nat), RpAll K I vs ds → RpAll K I (vs.set i v) (ds.set i d)
  | _, _, _, .nil => .nil
  | _, _, 0, .cons _ t => .cons r t
  | _, _, i + 1, .cons q t => .cons q (RpAll.set r i t)
theorem RpAll.one {v : V} {d : D} (r : Rp K I v d) : RpAll K I [v] [d] := .cons r .nil
end

/-- what may be changed: an owned list -/
inductive O where
  | lst (ds : List D)
/-- a slot: nothing known, data, something owned (some k: the k-th that was handed in) -/
inductive S where
  | no | v (d : D) | own (k : Option Nat) (o : O)

inductive OwnAt (K : PySem.W.Frag) (I H : Hp) : V → O → List Addr → Prop
  | lst {a : Addr} {vs : List V} {ds : List D} : H a = some (.lst vs) → RpAll K I vs ds → OwnAt K I H (.ref a) (.lst ds) [a]
theorem OwnAt.mono {K : PySem.W.Frag} {I H I' H' : Hp} {v : V} {o : O} {φ : List Addr} (h : OwnAt K I H v o φ) (e : Same I I') (k : ∀ a ∈ φ, ∀ u, H a = some u → H' a = some u) : OwnAt K I' H' v o φ := by
  cases h with
  | lst h1 h2 => exact .lst (k _ List.mem_cons_self _ h1) (h2.up e)
theorem OwnAt.there {K : PySem.W.Frag} {I H : Hp} {v : V} {o : O} {φ : List Addr} (h : OwnAt K I H v o φ) : ∀ a ∈ φ, ∃ u, H a = some u := by
  cases h with
  | lst h1 h2 =>
    intro a ha
    rw [List.mem_singleton] at ha
    subst ha
    exact ⟨_, h1⟩

/-- a call's entry: what stands still, the heap, what was handed in to be changed -/
structure Wd where
  I0 : Hp
  H0 : Hp
  A : List (List Addr)
  /-- what the code at hand knows nothing of, and leaves as it is -/
  Pt : Hp := fun _ => none

structure SlotOk (K : PySem.W.Frag) (w : Wd) (I H : Hp) (v : V) (k : Option Nat) (o : O) (φ : List Addr) : Prop where
  at_ : OwnAt K I H v o φ
  out : ∀ a ∈ φ, I a = none
  io : match k with
    | some k => w.A[k]? = some φ
    | none => ∀ a ∈ φ, w.H0 a = none
  np : ∀ a ∈ φ, w.Pt a = none

structure Ev (K : PySem.W.Frag) (w : Wd) (I H : Hp) (σ : L2.St) (ρ : List S) : Prop where
  sub : Same I H
  old : Same w.I0 I
  frm : ∀ b o, w.H0 b = some o → (∀ l ∈ w.A, b ∉ l) → H b = some o
  new : ∀ b o, I b = some o → w.I0 b = some o ∨ w.H0 b = none
  trk : ∀ b o, w.H0 b = some o → ∃ u, H b = some u
  prt : ∀ b o, w.Pt b = some o → H b = some o
  pI : ∀ b o, w.Pt b = some o → I b = none
  len : σ.length = ρ.length
  vals : ∀ (i : Nat) (d : D), ρ[i]? = some (S.v d) → ∃ v, σ[i]? = some (some v) ∧ Rp K I v d
  owns : ∃ φ : Nat → List Addr, (∀ (i : Nat) (k : Option Nat) (o : O), ρ[i]? = some (S.own k o) → ∃ v, σ[i]? = some (some v) ∧ SlotOk K w I H v k o (φ i)) ∧
    ∀ (i j : Nat) (k k' : Option Nat) (o o' : O), i ≠ j → ρ[i]? = some (S.own k o) → ρ[j]? = some (S.own k' o') → ∀ a ∈ φ i, a ∉ φ j

section
variable {K : PySem.W.Frag} {w : Wd} {I I' H H' : Hp} {σ : L2.St} {ρ : List S} {p : Addr} {v : V} {d : D}
theorem Ev.freshP (e : Ev K w I H σ ρ) (h : H p = none) : w.Pt p = none := by
  cases q : w.Pt p with
  | none => rfl
  | some o =>
    rw [e.prt p o q] at h
    cases h
theorem Ev.fresh (e : Ev K w I H σ ρ) (h : H p = none) : w.H0 p = none ∧ I p = none := by
  constructor
  · cases q : w.H0 p with
    | none => rfl
    | some o =>
      obtain ⟨u, hu⟩ := e.trk p o q
      rw [h] at hu
      cases hu
  · cases q : I p with
    | none => rfl
    | some o =>
      rw [e.sub p o q] at h
      cases h

theorem same_upd {H : Hp} {p : Addr} {o : HO} (h : H p = none) : Same H (upd H p o) := fun b x e => by
  rw [upd_ne (ne_of_none e h)]
  exact e
theorem same_upd2 {I H : Hp} {p : Addr} {o : HO} (s : Same I H) (h : I p = none) : Same I (upd H p o) := fun b x e => by
  rw [upd_ne (ne_of_none e h)]
  exact s _ _ e
theorem same_upd3 {I H : Hp} {p : Addr} {o : HO} (s : Same I H) (h : H p = none) : Same (upd I p o) (upd H p o) := fun b x e => by
  by_cases hb : b = p
  · subst hb
    rw [upd_same] at e ⊢
    exact e
  · rw [upd_ne hb] at e ⊢
    exact s _ _ e

/-- the heap grows: what stands still may grow by what is new -/
theorem Ev.grow (e : Ev K w I H σ ρ) (s1 : Same I I') (s2 : Same I' H') (s3 : Same H H') (n : ∀ b o, I' b = some o → I b = some o ∨ H b = none) : Ev K w I' H' σ ρ where
  sub := s2
  old := e.old.trans s1
  frm := fun b o h1 h2 => s3 _ _ (e.frm b o h1 h2)
  new := fun b o h => by
    rcases n b o h with h | h
    · exact e.new b o h
    · exact .inr (e.fresh h).1
  trk := fun b o h => let ⟨u, hu⟩ := e.trk b o h; ⟨u, s3 _ _ hu⟩
  prt := fun b o h => s3 _ _ (e.prt b o h)
  pI := fun b o h => by
    cases q : I' b with
    | none => rfl
    | some x =>
      rcases n b x q with z | z
      · rw [e.pI b o h] at z; cases z
      · rw [e.prt b o h] at z; cases z
  len := e.len
  vals := fun i d h => let ⟨v, h1, h2⟩ := e.vals i d h; ⟨v, h1, h2.up s1⟩
  owns := by
    obtain ⟨φ, h1, h2⟩ := e.owns
    refine ⟨φ, fun i k o h => ?_, h2⟩
    obtain ⟨v, hv, ⟨q1, q2, q3, q4⟩⟩ := h1 i k o h
    refine ⟨v, hv, q1.mono s1 fun a _ u => s3 a u, fun a ha => ?_, q3, q4⟩
    obtain ⟨u, hu⟩ := q1.there a ha
    cases q : I' a with
    | none => rfl
    | some x =>
      rcases n a x q with z | z
      · rw [q2 a ha] at z; cases z
      · rw [hu] at z; cases z
/-- a new thing that stands still -/
theorem Ev.still {o : HO} (e : Ev K w I H σ ρ) (h : H p = none) : Ev K w (upd I p o) (upd H p o) σ ρ :=
  e.grow (same_upd (e.fresh h).2) (same_upd3 e.sub h) (same_upd h) fun b x q => by
    by_cases hb : b = p
    · subst hb; exact .inr h
    · rw [upd_ne hb] at q; exact .inl q
/-- a new thing that nothing speaks of -/
theorem Ev.other {o : HO} (e : Ev K w I H σ ρ) (h : H p = none) : Ev K w I (upd H p o) σ ρ :=
  e.grow (Same.refl I) (same_upd2 e.sub (e.fresh h).2) (same_upd h) fun b x q => .inl q

theorem get_app_l {α : Type} {l : List α} {x : α} {i : Nat} (h : i < l.length) : (l ++ [x])[i]? = l[i]? := by
  rw [List.getElem?_append_left h]
theorem get_app_r {α : Type} {l : List α} {x : α} : (l ++ [x])[l.length]? = some x := by
  rw [List.getElem?_append_right (Nat.le_refl _)]
  simp
theorem get_app {α : Type} {l : List α} {x y : α} {i : Nat} (h : (l ++ [x])[i]? = some y) : (l[i]? = some y ∧ i < l.length) ∨ (i = l.length ∧ y = x) := by
  by_cases hi : i < l.length
  · rw [get_app_l hi] at h
    exact .inl ⟨h, hi⟩
  · by_cases he : i = l.length
    · subst he
      rw [get_app_r] at h
      exact .inr ⟨rfl, (Option.some.inj h).symm⟩
    · have := (List.getElem?_eq_some_iff.mp h).1
      rw [List.length_append, List.length_singleton] at this
      omega
theorem get_set {α : Type} {l : List α} {x y : α} {i j : Nat} (h : (l.set i x)[j]? = some y) : (i = j ∧ y = x ∧ j < l.length) ∨ (i ≠ j ∧ l[j]? = some y ∧ j < l.length) := by
  have hl := (List.getElem?_eq_some_iff.mp h).1
  rw [List.length_set] at hl
  by_cases e : i = j
  · subst e
    rw [List.getElem?_set_self hl] at h
    exact .inl ⟨rfl, (Option.some.inj h).symm, hl⟩
  · rw [List.getElem?_set_ne e] at h
    exact .inr ⟨e, h, hl⟩
/-- .. a new owned list, held as one slot more -/
theorem Ev.alloc {vs : List V} {ds : List D} (e : Ev K w I H σ ρ) (h : H p = none) (r : RpAll K I vs ds) : Ev K w I (upd H p (.lst vs)) (σ ++ [some (.ref p)]) (ρ ++ [.own none (.lst ds)]) := by
  have g := e.other (o := .lst vs) h
  have f := e.fresh h
  refine ⟨g.sub, g.old, g.frm, g.new, g.trk, g.prt, g.pI, by rw [List.length_append, List.length_append, g.len]; rfl, fun i d q => ?_, ?_⟩
  · rcases get_app q with ⟨q, hi⟩ | ⟨_, q⟩
    · obtain ⟨v, h1, h2⟩ := g.vals i d q
      exact ⟨v, by rw [get_app_l (by rw [g.len]; exact hi)]; exact h1, h2⟩
    · cases q
  · obtain ⟨φ, h1, h2⟩ := e.owns
    obtain ⟨ψ, g1, g2⟩ := g.owns
    have neφ : ∀ i k o, ρ[i]? = some (.own k o) → ∀ a ∈ φ i, a ≠ p := fun i k o q a ha z => by
      obtain ⟨v, _, s⟩ := h1 i k o q
      obtain ⟨u, hu⟩ := s.at_.there a ha
      rw [z, h] at hu
      cases hu
    refine ⟨fun i => if i = ρ.length then [p] else φ i, fun i k o q => ?_, fun i j k k' o o' hij q q' a ha hb => ?_⟩
    · rcases get_app q with ⟨q, hi⟩ | ⟨hi, q⟩
      · obtain ⟨v, hv, s⟩ := h1 i k o q
        refine ⟨v, by rw [get_app_l (by rw [g.len]; exact hi)]; exact hv, ?_⟩
        dsimp only
        rw [if_neg (Nat.ne_of_lt hi)]
        exact ⟨s.at_.mono (Same.refl I) fun a ha u hu => by rw [upd_ne (neφ i k o q a ha)]; exact hu, s.out, s.io, s.np⟩
      · cases q
        subst hi
        refine ⟨.ref p, by rw [← e.len]; exact get_app_r, ?_⟩
        dsimp only
        rw [if_pos rfl]
        exact ⟨.lst upd_same r, fun a ha => by rw [List.mem_singleton.mp ha]; exact f.2, fun a ha => by rw [List.mem_singleton.mp ha]; exact f.1, fun a ha => by rw [List.mem_singleton.mp ha]; exact e.freshP h⟩
    · rcases get_app q with ⟨q, hi⟩ | ⟨hi, _⟩
      · dsimp only at ha hb
        rw [if_neg (Nat.ne_of_lt hi)] at ha
        rcases get_app q' with ⟨q', hj⟩ | ⟨hj, _⟩
        · rw [if_neg (Nat.ne_of_lt hj)] at hb
          exact h2 i j k k' o o' hij q q' a ha hb
        · subst hj
          rw [if_pos rfl] at hb
          exact neφ i k o q a ha (List.mem_singleton.mp hb)
      · subst hi
        dsimp only at ha hb
        rw [if_pos rfl] at ha
        rcases get_app q' with ⟨q', hj⟩ | ⟨hj, _⟩
        · rw [if_neg (Nat.ne_of_lt hj)] at hb
          exact neφ j k' o' q' a hb (List.mem_singleton.mp ha)
        · exact hij hj.symm
/-- a slot is stored -/
theorem Ev.setV {i : Nat} (e : Ev K w I H σ ρ) (r : Rp K I v d) : Ev K w I H (σ.set i (some v)) (ρ.set i (.v d)) := by
  refine ⟨e.sub, e.old, e.frm, e.new, e.trk, e.prt, e.pI, by rw [List.length_set, List.length_set, e.len], fun j d' q => ?_, ?_⟩
  · rcases get_set q with ⟨rfl, q, hl⟩ | ⟨hne, q, hl⟩
    · cases q
      exact ⟨v, List.getElem?_set_self (by rw [e.len]; exact hl), r⟩
    · rw [List.getElem?_set_ne hne]
      exact e.vals j d' q
  · obtain ⟨φ, h1, h2⟩ := e.owns
    have back : ∀ (j : Nat) (k : Option Nat) (o : O), (ρ.set i (S.v d))[j]? = some (S.own k o) → i ≠ j ∧ ρ[j]? = some (S.own k o) := fun j k o q => by
      rcases get_set q with ⟨_, q, _⟩ | ⟨hne, q, _⟩
      · cases q
      · exact ⟨hne, q⟩
    refine ⟨φ, fun j k o q => ?_, fun j j' k k' o o' hj q q' => h2 j j' k k' o o' hj (back j k o q).2 (back j' k' o' q').2⟩
    obtain ⟨hij, q⟩ := back j k o q
    obtain ⟨u, h3, h4⟩ := h1 j k o q
    exact ⟨u, by rw [List.getElem?_set_ne hij]; exact h3, h4⟩
/-- the slot behind the last one is stored -/
theorem Ev.move {i : Nat} {o : O} (e : Ev K w I H (σ ++ [some v]) (ρ ++ [.own none o])) : Ev K w I H (σ.set i (some v)) (ρ.set i (.own none o)) := by
  have el : σ.length = ρ.length := by
    have := e.len
    rw [List.length_append, List.length_append] at this
    exact Nat.add_right_cancel this
  refine ⟨e.sub, e.old, e.frm, e.new, e.trk, e.prt, e.pI, by rw [List.length_set, List.length_set, el], fun j d' q => ?_, ?_⟩
  · rcases get_set q with ⟨_, q, _⟩ | ⟨hne, q, hj⟩
    · cases q
    · rw [List.getElem?_set_ne hne]
      obtain ⟨u, h2, h3⟩ := e.vals j d' (by rw [get_app_l hj]; exact q)
      exact ⟨u, by rw [get_app_l (by rw [el]; exact hj)] at h2; exact h2, h3⟩
  · obtain ⟨φ, h1, h2⟩ := e.owns
    have back : ∀ (j : Nat) (k : Option Nat) (o' : O), (ρ.set i (S.own none o))[j]? = some (S.own k o') → (i = j ∧ k = none ∧ o' = o ∧ j < ρ.length) ∨ (i ≠ j ∧ ρ[j]? = some (S.own k o') ∧ j < ρ.length) := fun j k o' q => by
      rcases get_set q with ⟨e1, q, hl⟩ | ⟨hne, q, hl⟩
      · cases q
        exact .inl ⟨e1, rfl, rfl, hl⟩
      · exact .inr ⟨hne, q, hl⟩
    have last : (ρ ++ [S.own none o])[ρ.length]? = some (.own none o) := get_app_r
    refine ⟨fun j => if i = j then φ ρ.length else φ j, fun j k o' q => ?_, fun j j' k k' o1 o2 hj q q' a ha hb => ?_⟩
    · rcases back j k o' q with ⟨hij, rfl, rfl, hl⟩ | ⟨hne, q, hl⟩
      · obtain ⟨u, h3, h4⟩ := h1 ρ.length none _ last
        rw [← el, get_app_r] at h3
        cases h3
        refine ⟨v, ?_, ?_⟩
        · rw [hij]
          exact List.getElem?_set_self (by rw [el]; exact hl)
        · dsimp only
          rw [if_pos hij]
          exact h4
      · obtain ⟨u, h3, h4⟩ := h1 j k o' (by rw [get_app_l hl]; exact q)
        refine ⟨u, ?_, ?_⟩
        · rw [List.getElem?_set_ne hne]
          rw [get_app_l (by rw [el]; exact hl)] at h3
          exact h3
        · dsimp only
          rw [if_neg hne]
          exact h4
    · dsimp only at ha hb
      rcases back j k o1 q with ⟨e1, _, _, hl⟩ | ⟨hne, qj, hl⟩
      · rw [if_pos e1] at ha
        rcases back j' k' o2 q' with ⟨e2, _, _, _⟩ | ⟨hne', qj', hl'⟩
        · exact hj (e1.symm.trans e2)
        · rw [if_neg hne'] at hb
          exact h2 ρ.length j' _ _ _ _ (Nat.ne_of_gt hl') last (by rw [get_app_l hl']; exact qj') a ha hb
      · rw [if_neg hne] at ha
        rcases back j' k' o2 q' with ⟨e2, _, _, _⟩ | ⟨hne', qj', hl'⟩
        · rw [if_pos e2] at hb
          exact h2 j ρ.length _ _ _ _ (Nat.ne_of_lt hl) (by rw [get_app_l hl]; exact qj) last a ha hb
        · rw [if_neg hne'] at hb
          exact h2 j j' _ _ _ _ hj (by rw [get_app_l hl]; exact qj) (by rw [get_app_l hl']; exact qj') a ha hb
/-- a slot is forgotten -/
theorem Ev.wipe1 {i : Nat} (e : Ev K w I H σ ρ) : Ev K w I H (σ.set i none) (ρ.set i .no) := by
  refine ⟨e.sub, e.old, e.frm, e.new, e.trk, e.prt, e.pI, by rw [List.length_set, List.length_set, e.len], fun j d' q => ?_, ?_⟩
  · rcases get_set q with ⟨_, q, _⟩ | ⟨hne, q, hj⟩
    · cases q
    · rw [List.getElem?_set_ne hne]
      exact e.vals j d' q
  · obtain ⟨φ, h1, h2⟩ := e.owns
    have back : ∀ (j : Nat) (k : Option Nat) (o : O), (ρ.set i S.no)[j]? = some (S.own k o) → i ≠ j ∧ ρ[j]? = some (S.own k o) := fun j k o q => by
      rcases get_set q with ⟨_, q, _⟩ | ⟨hne, q, _⟩
      · cases q
      · exact ⟨hne, q⟩
    refine ⟨φ, fun j k o q => ?_, fun j j' k k' o o' hj q q' => h2 j j' k k' o o' hj (back j k o q).2 (back j' k' o' q').2⟩
    obtain ⟨hij, q⟩ := back j k o q
    obtain ⟨u, h3, h4⟩ := h1 j k o q
    exact ⟨u, by rw [List.getElem?_set_ne hij]; exact h3, h4⟩
/-- what is owned by a slot is changed -/
theorem Ev.change {i : Nat} {k : Option Nat} {ds es : List D} (e : Ev K w I H σ ρ) (q : ρ[i]? = some (.own k (.lst ds))) :
    ∃ a vs, σ[i]? = some (some (.ref a)) ∧ H a = some (.lst vs) ∧ I a = none ∧ RpAll K I vs ds ∧ ∀ us, RpAll K I us es → Ev K w I (upd H a (.lst us)) σ (ρ.set i (.own k (.lst es))) := by
  obtain ⟨φ, h1, h2⟩ := e.owns
  obtain ⟨v, hv, s⟩ := h1 i k _ q
  obtain ⟨s1, s2, s3, s4⟩ := s
  generalize ef : φ i = f at s1 s2 s3 s4
  cases s1 with
  | @lst a vs _ ha hr =>
    have na : I a = none := s2 a List.mem_cons_self
    have np : w.Pt a = none := s4 a List.mem_cons_self
    have hlt : i < ρ.length := (List.getElem?_eq_some_iff.mp q).1
    refine ⟨a, vs, hv, ha, na, hr, fun us ru => ?_⟩
    have neA : ∀ b o, w.H0 b = some o → (∀ l ∈ w.A, b ∉ l) → b ≠ a := fun b o hb hl z => by
      subst z
      cases k with
      | none =>
        have := s3 b List.mem_cons_self
        rw [hb] at this
        cases this
      | some k =>
        exact hl [b] (List.mem_of_getElem? s3) List.mem_cons_self
    refine ⟨same_upd2 e.sub na, e.old, fun b o hb hl => by rw [upd_ne (neA b o hb hl)]; exact e.frm b o hb hl, e.new, fun b o hb => ?_, fun b o hb => by rw [upd_ne (ne_of_none hb np)]; exact e.prt b o hb, e.pI, by rw [List.length_set]; exact e.len, fun j d' qj => ?_, ?_⟩
    · by_cases z : b = a
      · subst z; exact ⟨_, upd_same⟩
      · rw [upd_ne z]; exact e.trk b o hb
    · rcases get_set qj with ⟨_, qj, _⟩ | ⟨hne, qj, hj⟩
      · cases qj
      · exact e.vals j d' qj
    · refine ⟨φ, fun j k' o qj => ?_, fun j j' k1 k2 o1 o2 hj q1 q2 => ?_⟩
      · rcases get_set qj with ⟨hij, qj, _⟩ | ⟨hij, qj, _⟩
        · cases qj
          subst hij
          refine ⟨.ref a, hv, ?_⟩
          rw [ef]
          exact ⟨.lst upd_same ru, s2, s3, s4⟩
        · obtain ⟨u, h3, ⟨t1, t2, t3, t4⟩⟩ := h1 j k' o qj
          refine ⟨u, h3, t1.mono (Same.refl I) fun b hb x hx => ?_, t2, t3, t4⟩
          rw [upd_ne (fun z => h2 i j _ _ _ _ hij q qj a (by rw [ef]; exact List.mem_cons_self) (by rw [← z]; exact hb))]
          exact hx
      · have back : ∀ (j : Nat) (k' : Option Nat) (o : O), (ρ.set i (S.own k (.lst es)))[j]? = some (S.own k' o) → ∃ k'' o'', ρ[j]? = some (S.own k'' o'') := fun j k' o qj => by
          rcases get_set qj with ⟨z, _, _⟩ | ⟨_, qj, _⟩
          · subst z; exact ⟨_, _, q⟩
          · exact ⟨_, _, qj⟩
        obtain ⟨k3, o3, q3⟩ := back j k1 o1 q1
        obtain ⟨k4, o4, q4⟩ := back j' k2 o2 q2
        exact h2 j j' _ _ _ _ hj q3 q4
/-- an owned list of our own making stands still from here on -/
theorem Ev.freeze {i : Nat} {ds : List D} (e : Ev K w I H σ ρ) (q : ρ[i]? = some (.own none (.lst ds))) :
    ∃ a I', σ[i]? = some (some (.ref a)) ∧ Same I I' ∧ Rp K I' (.ref a) (.lst ds) ∧ Ev K w I' H σ (ρ.set i (.v (.lst ds))) := by
  obtain ⟨φ, h1, h2⟩ := e.owns
  obtain ⟨v, hv, s⟩ := h1 i none _ q
  obtain ⟨s1, s2, s3, s4⟩ := s
  generalize ef : φ i = f at s1 s2 s3 s4
  cases s1 with
  | @lst a vs _ ha hr =>
    have na : I a = none := s2 a List.mem_cons_self
    have np : w.Pt a = none := s4 a List.mem_cons_self
    have n0 : w.H0 a = none := s3 a List.mem_cons_self
    have sm : Same I (upd I a (.lst vs)) := same_upd na
    have hlt : i < ρ.length := (List.getElem?_eq_some_iff.mp q).1
    have rr : Rp K (upd I a (.lst vs)) (.ref a) (.lst ds) := .lst upd_same (hr.up sm)
    refine ⟨a, upd I a (.lst vs), hv, sm, rr, ⟨fun b o hb => ?_, e.old.trans sm, e.frm, fun b o hb => ?_, e.trk, e.prt, fun b o hb => by rw [upd_ne (ne_of_none hb np)]; exact e.pI b o hb, by rw [List.length_set]; exact e.len, fun j d' qj => ?_, ?_⟩⟩
    · by_cases z : b = a
      · subst z; rw [upd_same] at hb; cases hb; exact ha
      · rw [upd_ne z] at hb; exact e.sub b o hb
    · by_cases z : b = a
      · subst z; exact .inr n0
      · rw [upd_ne z] at hb; exact e.new b o hb
    · rcases get_set qj with ⟨z, qj, _⟩ | ⟨_, qj, _⟩
      · cases qj
        subst z
        exact ⟨_, hv, rr⟩
      · obtain ⟨u, h3, h4⟩ := e.vals j d' qj
        exact ⟨u, h3, h4.up sm⟩
    · have back : ∀ (j : Nat) (k : Option Nat) (o : O), (ρ.set i (S.v (.lst ds)))[j]? = some (S.own k o) → i ≠ j ∧ ρ[j]? = some (S.own k o) := fun j k o q => by
        rcases get_set q with ⟨_, q, _⟩ | ⟨hne, q, _⟩
        · cases q
        · exact ⟨hne, q⟩
      refine ⟨φ, fun j k o qj => ?_, fun j j' k k' o o' hj q q' => h2 j j' k k' o o' hj (back j k o q).2 (back j' k' o' q').2⟩
      obtain ⟨hij, qj⟩ := back j k o qj
      obtain ⟨u, h3, ⟨t1, t2, t3, t4⟩⟩ := h1 j k o qj
      refine ⟨u, h3, t1.mono sm fun _ _ _ z => z, fun b hb => ?_, t3, t4⟩
      rw [upd_ne (fun z => h2 i j _ _ _ _ hij q qj a (by rw [ef]; exact List.mem_cons_self) (by rw [← z]; exact hb))]
      exact t2 b hb
/-- one slot more, gone -/
theorem Ev.pop {x : Option V} {s : S} (e : Ev K w I H (σ ++ [x]) (ρ ++ [s])) : Ev K w I H σ ρ := by
  have el : σ.length = ρ.length := by
    have := e.len
    rw [List.length_append, List.length_append] at this
    exact Nat.add_right_cancel this
  refine ⟨e.sub, e.old, e.frm, e.new, e.trk, e.prt, e.pI, el, fun j d' q => ?_, ?_⟩
  · have hj := (List.getElem?_eq_some_iff.mp q).1
    obtain ⟨u, h2, h3⟩ := e.vals j d' (by rw [get_app_l hj]; exact q)
    exact ⟨u, by rw [get_app_l (by rw [el]; exact hj)] at h2; exact h2, h3⟩
  · obtain ⟨φ, h1, h2⟩ := e.owns
    refine ⟨φ, fun j k o q => ?_, fun j j' k k' o o' hj q q' => ?_⟩
    · have hj := (List.getElem?_eq_some_iff.mp q).1
      obtain ⟨u, h3, h4⟩ := h1 j k o (by rw [get_app_l hj]; exact q)
      exact ⟨u, by rw [get_app_l (by rw [el]; exact hj)] at h3; exact h3, h4⟩
    · have hj1 := (List.getElem?_eq_some_iff.mp q).1
      have hj2 := (List.getElem?_eq_some_iff.mp q').1
      exact h2 j j' k k' o o' hj (by rw [get_app_l hj1]; exact q) (by rw [get_app_l hj2]; exact q')
/-- .. standing still -/
theorem Ev.settle {ds : List D} (e : Ev K w I H (σ ++ [some v]) (ρ ++ [.own none (.lst ds)])) : ∃ I', Same I I' ∧ Rp K I' v (.lst ds) ∧ Ev K w I' H σ ρ := by
  have el : σ.length = ρ.length := by
    have := e.len
    rw [List.length_append, List.length_append] at this
    exact Nat.add_right_cancel this
  obtain ⟨a, I', h1, h2, h3, h4⟩ := e.freeze (i := ρ.length) get_app_r
  rw [← el, get_app_r] at h1
  cases h1
  refine ⟨I', h2, h3, ?_⟩
  have q : (ρ ++ [S.own none (.lst ds)]).set ρ.length (.v (.lst ds)) = ρ ++ [.v (.lst ds)] := by
    rw [List.set_append_right _ _ (Nat.le_refl _)]
    simp
  rw [q] at h4
  exact h4.pop
end
end Dt


set_option Elab.async false
set_option linter.all false
set_option maxRecDepth 100000
set_option maxHeartbeats 1000000
/-! The judgements and the rules. -/
namespace Dt
open PySem PySem.Spec PyProof.Rows L2

/-! ### the weakest readings -/
def wpE (X : Cx) (e : Expr) : TE := fun σ H Q => ∀ (pins : List (Addr × Obj)) (s : Shared), Inv X pins σ H s → wpAny (model X.prog X.w) X.A (eval e X.env) (EP X pins σ Q) X.xe s
def wpT (X : Cx) (e : Expr) : TT := fun σ H Q => ∀ (pins : List (Addr × Obj)) (s : Shared), Inv X pins σ H s → wpAny (model X.prog X.w) X.A (isTrue e X.env (eval e X.env)) (TP X pins σ Q) X.xe s
def wpW (X : Cx) (e : Expr) : TT := fun σ H Q => ∀ (whole : Sem Value) (pins : List (Addr × Obj)) (s : Shared), Inv X pins σ H s → wpAny (model X.prog X.w) X.A (isTrue e X.env whole) (TP X pins σ Q) X.xe s
def wpA (X : Cx) (es : List Expr) : TA := fun σ H Q => ∀ (pos : Pos) (pins : List (Addr × Obj)) (s : Shared), Inv X pins σ H s → wpAny (model X.prog X.w) X.A (spliced (backTo pos (starEach es X.env))) (AP X pins σ Q) X.xe s
def wpO (X : Cx) (e : Option Expr) : TO := fun σ H Q => ∃ t, PO X e t ∧ t σ H Q
def wpS (X : Cx) (st : Stmt) : TS := fun D σ H => ∀ (pins : List (Addr × Obj)) (s : Shared), Inv X pins σ H s → wpAny (model X.prog X.w) X.A (exec st X.env) (SP X pins D) X.xe s
def wpSs (X : Cx) (sts : List Stmt) : TS := fun D σ H => ∀ (pins : List (Addr × Obj)) (s : Shared), Inv X pins σ H s → wpAny (model X.prog X.w) X.A (execs sts X.env) (SP X pins D) X.xe s
def wpG (X : Cx) (tg : Expr) : TG := fun v σ H Q => ∀ (pins : List (Addr × Obj)) (s : Shared) (u : Value), Inv X pins σ H s → RelV v u → wpAny (model X.prog X.w) X.A (assign tg X.env u) (fun _ s' => ∃ σ' H', Inv X pins σ' H' s' ∧ Q σ' H') X.xe s
def wpI (X : Cx) (tg iter : Expr) : TI := fun σ H R => ∀ (pins : List (Addr × Obj)) (s : Shared), Inv X pins σ H s → wpAny (model X.prog X.w) X.A (eval iter X.env) (fun v s1 => wpAny (model X.prog X.w) X.A (pyIter v) (PIE X pins σ tg R) X.xe s1) X.xe s
section
variable {X : Cx} {e tg : Expr} {es : List Expr} {st : Stmt} {sts : List Stmt} {σ : L2.St} {H : Hp}
theorem pe_wp : PE X e (wpE X e) := ⟨fun pins s _ _ _ I h => h pins s I⟩
theorem pt_wp : PT X e (wpT X e) := ⟨fun pins s _ _ _ I h => h pins s I⟩
theorem pw_wp : PW X e (wpW X e) := ⟨fun wh pins s _ _ _ I h => h wh pins s I⟩
theorem pa_wp : PA X es (wpA X es) := ⟨fun pos pins s _ _ _ I h => h pos pins s I⟩
theorem ps_wp : PS X st (wpS X st) := ⟨fun pins s _ _ _ I h => h pins s I⟩
theorem pss_wp : PSs X sts (wpSs X sts) := ⟨fun pins s _ _ _ I h => h pins s I⟩
theorem pg_wp : PG X tg (wpG X tg) := ⟨fun pins s _ _ _ u _ I r h => h pins s u I r⟩
theorem pi_wp : PI X tg e (wpI X tg e) := ⟨fun pins s _ _ _ I h => h pins s I⟩
theorem po_wp {e : Option Expr} : PO X e (wpO X e) := ⟨fun pins s σ H Q I h => by
  obtain ⟨t, hp, ht⟩ := h
  exact hp.run pins s σ H Q I ht⟩
theorem wpE_of {t : TE} {Q : VK} (h : PE X e t) (q : t σ H Q) : wpE X e σ H Q := fun pins s I => h.run pins s σ H Q I q
theorem wpT_of {t : TT} {Q : Bool → Hp → Prop} (h : PT X e t) (q : t σ H Q) : wpT X e σ H Q := fun pins s I => h.run pins s σ H Q I q
theorem wpW_of {t : TT} {Q : Bool → Hp → Prop} (h : PW X e t) (q : t σ H Q) : wpW X e σ H Q := fun wh pins s I => h.run wh pins s σ H Q I q
theorem wpA_of {t : TA} {Q : List V → Hp → Prop} (h : PA X es t) (q : t σ H Q) : wpA X es σ H Q := fun pos pins s I => h.run pos pins s σ H Q I q
theorem wpO_of {e : Option Expr} {t : TO} {Q : Option Int → Hp → Prop} (h : PO X e t) (q : t σ H Q) : wpO X e σ H Q := ⟨t, h, q⟩
theorem wpS_of {t : TS} {D : Ends} (h : PS X st t) (q : t D σ H) : wpS X st D σ H := fun pins s I => h.run pins s σ H D I q
theorem wpSs_of {t : TS} {D : Ends} (h : PSs X sts t) (q : t D σ H) : wpSs X sts D σ H := fun pins s I => h.run pins s σ H D I q
theorem wpG_of {t : TG} {v : V} {Q : L2.St → Hp → Prop} (h : PG X tg t) (q : t v σ H Q) : wpG X tg v σ H Q := fun pins s u I r => h.run pins s σ H v u Q I r q
theorem wpI_of {t : TI} {R : It → Hp → Prop} (h : PI X tg e t) (q : t σ H R) : wpI X tg e σ H R := fun pins s I => h.run pins s σ H R I q
end

/-! ### the judgements -/
inductive Ov where
  | val (d : D) (ρ : List S) | own (o : O) (ρ : List S) | exc (C : Addr) (ρ : List S)
def PostE (K : PySem.W.Frag) (w : Wd) (W : WX) (σ : L2.St) (I : Hp) (Q : VK) : Ov → Prop
  | .val d ρ' => ∀ v I' H', Same I I' → Ev K w I' H' σ ρ' → Rp K I' v d → Q v H'
  | .own o ρ' => ∀ v I' H', Same I I' → Ev K w I' H' (σ ++ [some v]) (ρ' ++ [.own none o]) → Q v H'
  | .exc C ρ' => ∀ I' H', Same I I' → Ev K w I' H' σ ρ' → W (.ref C) none σ H'
def DE (X : Cx) (W : WX) (e : Expr) (ρ : List S) (o : Ov) : Prop :=
  ∀ (w : Wd) (σ : L2.St) (I H : Hp) (Q : VK), Ev X.K w I H σ ρ → PostE X.K w W σ I Q o → wpE X e σ H Q
def DT (X : Cx) (W : WX) (e : Expr) (ρ : List S) (b : Bool) (ρ' : List S) : Prop :=
  ∀ (w : Wd) (σ : L2.St) (I H : Hp) (Q : Bool → Hp → Prop), Ev X.K w I H σ ρ → (∀ I' H', Same I I' → Ev X.K w I' H' σ ρ' → Q b H') → wpT X e σ H Q
def DW (X : Cx) (W : WX) (e : Expr) (ρ : List S) (b : Bool) (ρ' : List S) : Prop :=
  ∀ (w : Wd) (σ : L2.St) (I H : Hp) (Q : Bool → Hp → Prop), Ev X.K w I H σ ρ → (∀ I' H', Same I I' → Ev X.K w I' H' σ ρ' → Q b H') → wpW X e σ H Q
/-- arguments that are data -/
def DA (X : Cx) (W : WX) (es : List Expr) (ρ : List S) (ds : List D) (ρ' : List S) : Prop :=
  ∀ (w : Wd) (σ : L2.St) (I H : Hp) (Q : List V → Hp → Prop), Ev X.K w I H σ ρ → (∀ vs I' H', Same I I' → Ev X.K w I' H' σ ρ' → RpAll X.K I' vs ds → Q vs H') → wpA X es σ H Q
/-- an optional part of a slice -/
def DO (X : Cx) (W : WX) (e : Option Expr) (ρ : List S) (i : Option Int) (ρ' : List S) : Prop :=
  ∀ (w : Wd) (σ : L2.St) (I H : Hp) (Q : Option Int → Hp → Prop), Ev X.K w I H σ ρ → (∀ I' H', Same I I' → Ev X.K w I' H' σ ρ' → Q i H') → wpO X e σ H Q

inductive Oc where
  | next (ρ : List S) | brk (ρ : List S) | cont (ρ : List S) | ret (d : D) (ρ : List S) | rown (o : O) (ρ : List S) | exc (C : Addr) (ρ : List S)
def PostS (K : PySem.W.Frag) (w : Wd) (W : WX) (I : Hp) (Dn : Ends) : Oc → Prop
  | .next ρ' => ∀ σ' I' H', Same I I' → Ev K w I' H' σ' ρ' → Dn.nx σ' H'
  | .brk ρ' => ∀ σ' I' H', Same I I' → Ev K w I' H' σ' ρ' → Dn.bk σ' H'
  | .cont ρ' => ∀ σ' I' H', Same I I' → Ev K w I' H' σ' ρ' → Dn.ct σ' H'
  | .ret d ρ' => ∀ v σ' I' H', Same I I' → Ev K w I' H' σ' ρ' → Rp K I' v d → Dn.rt v H'
  | .rown o ρ' => ∀ v σ' I' H', Same I I' → Ev K w I' H' (σ' ++ [some v]) (ρ' ++ [.own none o]) → Dn.rt v H'
  | .exc C ρ' => ∀ σ' I' H', Same I I' → Ev K w I' H' σ' ρ' → W (.ref C) none σ' H'
def DS (X : Cx) (W : WX) (st : Stmt) (ρ : List S) (o : Oc) : Prop :=
  ∀ (w : Wd) (σ : L2.St) (I H : Hp) (Dn : Ends), Ev X.K w I H σ ρ → PostS X.K w W I Dn o → wpS X st Dn σ H
def DSs (X : Cx) (W : WX) (sts : List Stmt) (ρ : List S) (o : Oc) : Prop :=
  ∀ (w : Wd) (σ : L2.St) (I H : Hp) (Dn : Ends), Ev X.K w I H σ ρ → PostS X.K w W I Dn o → wpSs X sts Dn σ H
/-- what follows a statement -/
def Kt (X : Cx) (W : WX) (rest : List Stmt) (o : Oc) : Oc → Prop
  | .next ρ => DSs X W rest ρ o
  | o1 => o = o1

theorem PostE.mono {K : PySem.W.Frag} {w : Wd} {W : WX} {σ : L2.St} {I I1 : Hp} {Q : VK} {o : Ov} (e : Same I I1) (h : PostE K w W σ I Q o) : PostE K w W σ I1 Q o := by
  cases o with
  | val d ρ' => exact fun v I' H' s => h v I' H' (e.trans s)
  | own d ρ' => exact fun v I' H' s => h v I' H' (e.trans s)
  | exc d ρ' => exact fun I' H' s => h I' H' (e.trans s)
theorem PostS.mono {K : PySem.W.Frag} {w : Wd} {W : WX} {I I1 : Hp} {Dn : Ends} {o : Oc} (e : Same I I1) (h : PostS K w W I Dn o) : PostS K w W I1 Dn o := by
  cases o with
  | next ρ' => exact fun σ' I' H' s => h σ' I' H' (e.trans s)
  | brk ρ' => exact fun σ' I' H' s => h σ' I' H' (e.trans s)
  | cont ρ' => exact fun σ' I' H' s => h σ' I' H' (e.trans s)
  | ret d ρ' => exact fun v σ' I' H' s => h v σ' I' H' (e.trans s)
  | rown d ρ' => exact fun v σ' I' H' s => h v σ' I' H' (e.trans s)
  | exc d ρ' => exact fun σ' I' H' s => h σ' I' H' (e.trans s)
/-- the ends that are no next are as they were -/
theorem PostS.seq {K : PySem.W.Frag} {w : Wd} {W : WX} {I : Hp} {Dn : Ends} {N : L2.St → Hp → Prop} {o : Oc} (h : PostS K w W I Dn o) (hn : ∀ ρ, o ≠ .next ρ) : PostS K w W I { Dn with nx := N } o := by
  cases o with
  | next ρ' => exact absurd rfl (hn ρ')
  | brk ρ' => exact h
  | cont ρ' => exact h
  | ret d ρ' => exact h
  | rown d ρ' => exact h
  | exc d ρ' => exact h

/-- the context of a def's body (or of a try's) -/
structure Cz (X : Cx) (W : WX) (k : Nat) : Prop where
  calm : X.calm = true
  nd : X.N.Nodup
  tk : Takes X W
  po : PassesOwn (model X.prog X.w) X.A X.env X.xe
  rm : Room k X.A

section
variable {X : Cx} {W : WX} {ρ ρ1 ρ2 ρ3 : List S} {pos : Pos}

/-! ### names and constants -/
theorem de_var {i : Nat} {x : Str} {d : D} (hN : X.N[i]? = some x) (hv : Vis X.env.scope x) (h : ρ[i]? = some (.v d)) (hd : (x == ("__debug__" : Str)) = false := by decide) (hcd : (x == ("__classdict__" : Str)) = false := by decide) : DE X W (.Name x pos) ρ (.val d ρ) :=
  fun w σ I H Q e p => by
    obtain ⟨v, h1, h2⟩ := e.vals i d h
    exact wpE_of (pe_var hN hv hd hcd) ⟨v, h1, p v I H (Same.refl I) e h2⟩
/-- an owned list of our own making is read as a value: it stands still from here on -/
theorem de_frz {i : Nat} {x : Str} {ds : List D} (hN : X.N[i]? = some x) (hv : Vis X.env.scope x) (h : ρ[i]? = some (.own none (.lst ds))) (hd : (x == ("__debug__" : Str)) = false := by decide) (hcd : (x == ("__classdict__" : Str)) = false := by decide) :
    DE X W (.Name x pos) ρ (.val (.lst ds) (ρ.set i (.v (.lst ds)))) :=
  fun w σ I H Q e p => by
    obtain ⟨a, I', h1, h2, h3, h4⟩ := e.freeze h
    exact wpE_of (pe_var hN hv hd hcd) ⟨_, h1, p _ I' H h2 h4 h3⟩
theorem de_int {i : Int} {j : Nat} : DE X W (.Constant (.int i) j pos) ρ (.val (.int i) ρ) := fun w σ I H Q e p => wpE_of pe_int (p _ I H (Same.refl I) e (.int i))
theorem de_bl {b : Bool} {j : Nat} : DE X W (.Constant (.bool b) j pos) ρ (.val (.bl b) ρ) := fun w σ I H Q e p => wpE_of pe_bl (p _ I H (Same.refl I) e (.bl b))
theorem de_non {j : Nat} : DE X W (.Constant .none j pos) ρ (.val .non ρ) := fun w σ I H Q e p => wpE_of pe_non (p _ I H (Same.refl I) e .non)
theorem de_str {x : Str} {j : Nat} : DE X W (.Constant (.str x) j pos) ρ (.val (.str x) ρ) := fun w σ I H Q e p => wpE_of pe_str (p _ I H (Same.refl I) e (.str x))
theorem de_glob {x : Str} {v : V} {u : Value} {d : D} (hg : Gl X x) (hm : X.mg x = some u) (r : RelV v u) (q : ∀ I, Rp X.K I v d) (hd : (x == ("__debug__" : Str)) = false := by decide) : DE X W (.Name x pos) ρ (.val d ρ) :=
  fun w σ I H Q e p => wpE_of (pe_glob hg hm r hd) (p _ I H (Same.refl I) e (q I))
theorem DE.cast {e : Expr} {d d' : D} (h : DE X W e ρ (.val d ρ1)) (q : d = d') : DE X W e ρ (.val d' ρ1) := q ▸ h
/-- a new owned list stands still at once -/
theorem de_still {e : Expr} {ds : List D} (h : DE X W e ρ (.own (.lst ds) ρ1)) : DE X W e ρ (.val (.lst ds) ρ1) := fun w σ I H Q ev p => h w σ I H Q ev fun v I' H' s e' => by
  obtain ⟨I2, s2, r, e2⟩ := e'.settle
  exact p v I2 H' (s.trans s2) e2 r

/-! ### two operands -/
def Prim2 (K : PySem.W.Frag) (r : R2) (d1 d2 d : D) : Prop := ∀ (I H : Hp) (v1 v2 : V) (Q : VK), Same I H → Rp K I v1 d1 → Rp K I v2 d2 → (∀ v, Rp K I v d → Q v H) → r v1 v2 H Q
def Prim2L (K : PySem.W.Frag) (r : R2) (d1 d2 : D) (ds : List D) : Prop := ∀ (I H : Hp) (v1 v2 : V) (Q : VK), Same I H → Rp K I v1 d1 → Rp K I v2 d2 → (∀ p vs, H p = none → RpAll K I vs ds → Q (.ref p) (upd H p (.lst vs))) → r v1 v2 H Q
variable {a b c : Expr} {d d1 d2 d3 : D}
theorem de2 {e : Expr} {r : R2} (hpe : PE X e (tOp r (wpE X a) (wpE X b))) (ha : DE X W a ρ (.val d1 ρ1)) (hb : DE X W b ρ1 (.val d2 ρ2)) (hp : Prim2 X.K r d1 d2 d) : DE X W e ρ (.val d ρ2) :=
  fun w σ I H Q e p => wpE_of hpe (ha w σ I H _ e fun v1 I1 H1 s1 e1 r1 => hb w σ I1 H1 _ e1 fun v2 I2 H2 s2 e2 r2 =>
    hp I2 H2 v1 v2 Q e2.sub (r1.up s2) r2 fun v r => p v I2 H2 (s1.trans s2) e2 r)
theorem de2L {e : Expr} {r : R2} {ds : List D} (hpe : PE X e (tOp r (wpE X a) (wpE X b))) (ha : DE X W a ρ (.val d1 ρ1)) (hb : DE X W b ρ1 (.val d2 ρ2)) (hp : Prim2L X.K r d1 d2 ds) : DE X W e ρ (.own (.lst ds) ρ2) :=
  fun w σ I H Q e p => wpE_of hpe (ha w σ I H _ e fun v1 I1 H1 s1 e1 r1 => hb w σ I1 H1 _ e1 fun v2 I2 H2 s2 e2 r2 =>
    hp I2 H2 v1 v2 Q e2.sub (r1.up s2) r2 fun q vs hq rv => p _ I2 _ (s1.trans s2) (e2.alloc hq rv))
theorem dt2 {e : Expr} {r : R2} {k : Bool} (hpe : PT X e (tTest (tOp r (wpE X a) (wpE X b)))) (ha : DE X W a ρ (.val d1 ρ1)) (hb : DE X W b ρ1 (.val d2 ρ2)) (hp : Prim2 X.K r d1 d2 (.bl k)) : DT X W e ρ k ρ2 :=
  fun w σ I H Q e p => wpT_of hpe (ha w σ I H _ e fun v1 I1 H1 s1 e1 r1 => hb w σ I1 H1 _ e1 fun v2 I2 H2 s2 e2 r2 =>
    hp I2 H2 v1 v2 _ e2.sub (r1.up s2) r2 fun v r => by
      cases r
      exact ⟨k, rfl, p I2 H2 (s1.trans s2) e2⟩)
theorem prim_I0 {K : PySem.W.Frag} {g : Int → Int → V} {i j : Int} {d : D} (h : ∀ I, Rp K I (g i j) d) : Prim2 K (rI0 g) (.int i) (.int j) d := fun I H v1 v2 Q s r1 r2 q => by
  cases r1; cases r2
  exact ⟨i, j, rfl, rfl, q _ (h I)⟩
theorem prim_I {K : PySem.W.Frag} {C : Int → Int → Prop} {g : Int → Int → V} {i j : Int} {d : D} (hc : C i j) (h : ∀ I, Rp K I (g i j) d) : Prim2 K (rI C g) (.int i) (.int j) d := fun I H v1 v2 Q s r1 r2 q => by
  cases r1; cases r2
  exact ⟨i, j, rfl, rfl, hc, q _ (h I)⟩
section
variable {i j : Int}
theorem de_add (ha : DE X W a ρ (.val (.int i) ρ1)) (hb : DE X W b ρ1 (.val (.int j) ρ2)) : DE X W (.BinOp a .Add b pos) ρ (.val (.int (i + j)) ρ2) := de2 (pe_op op_add pe_wp pe_wp) ha hb (prim_I0 fun I => .int _)
theorem de_sub (ha : DE X W a ρ (.val (.int i) ρ1)) (hb : DE X W b ρ1 (.val (.int j) ρ2)) : DE X W (.BinOp a .Sub b pos) ρ (.val (.int (i - j)) ρ2) := de2 (pe_op op_sub pe_wp pe_wp) ha hb (prim_I0 fun I => .int _)
theorem de_mul (hc : CMul i j) (ha : DE X W a ρ (.val (.int i) ρ1)) (hb : DE X W b ρ1 (.val (.int j) ρ2)) : DE X W (.BinOp a .Mult b pos) ρ (.val (.int (i * j)) ρ2) := de2 (pe_op op_mul pe_wp pe_wp) ha hb (prim_I hc fun I => .int _)
theorem de_mod (hc : 0 < j) (ha : DE X W a ρ (.val (.int i) ρ1)) (hb : DE X W b ρ1 (.val (.int j) ρ2)) : DE X W (.BinOp a .Mod b pos) ρ (.val (.int (i % j)) ρ2) := de2 (pe_op op_mod pe_wp pe_wp) ha hb (prim_I (C := fun _ j => 0 < j) hc fun I => .int _)
theorem de_fdiv (hc : CDiv i j) (ha : DE X W a ρ (.val (.int i) ρ1)) (hb : DE X W b ρ1 (.val (.int j) ρ2)) : DE X W (.BinOp a .FloorDiv b pos) ρ (.val (.int (i / j)) ρ2) := de2 (pe_op op_fdiv pe_wp pe_wp) ha hb (prim_I hc fun I => .int _)
theorem de_pow (hc : CPow i j) (ha : DE X W a ρ (.val (.int i) ρ1)) (hb : DE X W b ρ1 (.val (.int j) ρ2)) : DE X W (.BinOp a .Pow b pos) ρ (.val (.int (i ^ j.toNat)) ρ2) := de2 (pe_op op_pow pe_wp pe_wp) ha hb (prim_I hc fun I => .int _)
end
theorem de_addS {x y : Str} (hl : x.length + y.length ≤ sizeLine) (ha : DE X W a ρ (.val (.str x) ρ1)) (hb : DE X W b ρ1 (.val (.str y) ρ2)) : DE X W (.BinOp a .Add b pos) ρ (.val (.str (x ++ y)) ρ2) :=
  de2 (pe_op op_add_str pe_wp pe_wp) ha hb fun I H v1 v2 Q s r1 r2 q => by
    cases r1; cases r2
    exact ⟨x, y, rfl, rfl, hl, q _ (.str _)⟩
/-! ### comparisons -/
/-- the answer of a comparison of two ints -/
def cmpI : CmpOp → Int → Int → Option Bool
  | .Lt, i, j => some (decide (i < j))
  | .LtE, i, j => some (decide (i ≤ j))
  | .Gt, i, j => some (decide (j < i))
  | .GtE, i, j => some (decide (j ≤ i))
  | .Eq, i, j => some (decide (i = j))
  | .NotEq, i, j => some (!decide (i = j))
  | _, _, _ => none
theorem dec_vint {i j : Int} : decide (V.int i = V.int j) = decide (i = j) := by
  by_cases h : i = j
  · subst h; simp
  · rw [decide_eq_false h]
    exact decide_eq_false fun z => h (V.int.inj z)
theorem dec_vstr {i j : Str} : decide (V.str i = V.str j) = decide (i = j) := by
  by_cases h : i = j
  · subst h; simp
  · rw [decide_eq_false h]
    exact decide_eq_false fun z => h (V.str.inj z)
theorem dec_vbl {i j : Bool} : decide (V.bl i = V.bl j) = decide (i = j) := by
  cases i <;> cases j <;> decide
theorem cmpI_op {op : CmpOp} {i j : Int} {k : Bool} (h : cmpI op i j = some k) : ∃ r, OpR X (compareOp op) r ∧ Prim2 X.K r (.int i) (.int j) (.bl k) := by
  cases op <;> first | cases h
  · exact ⟨_, op_eq, fun I H v1 v2 Q s r1 r2 q => by cases r1; cases r2; exact ⟨rfl, by rw [dec_vint]; exact q _ (.bl _)⟩⟩
  · exact ⟨_, op_ne, fun I H v1 v2 Q s r1 r2 q => by cases r1; cases r2; exact ⟨rfl, by rw [dec_vint]; exact q _ (.bl _)⟩⟩
  · exact ⟨_, op_lt, prim_I0 fun I => .bl _⟩
  · exact ⟨_, op_le, prim_I0 fun I => .bl _⟩
  · exact ⟨_, op_gt, prim_I0 fun I => .bl _⟩
  · exact ⟨_, op_ge, prim_I0 fun I => .bl _⟩
theorem cmpI_ne {op : CmpOp} {i j : Int} {k : Bool} (h : cmpI op i j = some k) : op ≠ .In ∧ op ≠ .NotIn := by refine ⟨fun z => ?_, fun z => ?_⟩ <;> (subst z; cases h)
theorem de_cmpI {op : CmpOp} {i j : Int} {k : Bool} (h : cmpI op i j = some k) (ha : DE X W a ρ (.val (.int i) ρ1)) (hb : DE X W b ρ1 (.val (.int j) ρ2)) : DE X W (.Compare a [op] [b] pos) ρ (.val (.bl k) ρ2) := by
  obtain ⟨r, h1, h2⟩ := cmpI_op (X := X) h
  exact de2 (pe_cmpR h1 pe_wp pe_wp (nomark _ (cmpI_ne h).1 (cmpI_ne h).2)) ha hb h2
theorem dt_cmpI {op : CmpOp} {i j : Int} {k : Bool} (h : cmpI op i j = some k) (ha : DE X W a ρ (.val (.int i) ρ1)) (hb : DE X W b ρ1 (.val (.int j) ρ2)) : DT X W (.Compare a [op] [b] pos) ρ k ρ2 := by
  obtain ⟨r, h1, h2⟩ := cmpI_op (X := X) h
  exact dt2 (pt_cmpR h1 pe_wp pe_wp (nomark _ (cmpI_ne h).1 (cmpI_ne h).2)) ha hb h2
def cmpS : CmpOp → Str → Str → Option Bool
  | .Eq, i, j => some (decide (i = j))
  | .NotEq, i, j => some (!decide (i = j))
  | .LtE, i, j => some (!decide (j.cps.toList < i.cps.toList))
  | _, _, _ => none
theorem cmpS_op {op : CmpOp} {i j : Str} {k : Bool} (h : cmpS op i j = some k) : ∃ r, OpR X (compareOp op) r ∧ Prim2 X.K r (.str i) (.str j) (.bl k) := by
  cases op <;> first | cases h
  · exact ⟨_, op_eq, fun I H v1 v2 Q s r1 r2 q => by cases r1; cases r2; exact ⟨rfl, by rw [dec_vstr]; exact q _ (.bl _)⟩⟩
  · exact ⟨_, op_ne, fun I H v1 v2 Q s r1 r2 q => by cases r1; cases r2; exact ⟨rfl, by rw [dec_vstr]; exact q _ (.bl _)⟩⟩
  · exact ⟨_, op_le_str, fun I H v1 v2 Q s r1 r2 q => by cases r1; cases r2; exact ⟨_, _, rfl, rfl, q _ (.bl _)⟩⟩
theorem cmpS_ne {op : CmpOp} {i j : Str} {k : Bool} (h : cmpS op i j = some k) : op ≠ .In ∧ op ≠ .NotIn := by refine ⟨fun z => ?_, fun z => ?_⟩ <;> (subst z; cases h)
theorem de_cmpS {op : CmpOp} {i j : Str} {k : Bool} (h : cmpS op i j = some k) (ha : DE X W a ρ (.val (.str i) ρ1)) (hb : DE X W b ρ1 (.val (.str j) ρ2)) : DE X W (.Compare a [op] [b] pos) ρ (.val (.bl k) ρ2) := by
  obtain ⟨r, h1, h2⟩ := cmpS_op (X := X) h
  exact de2 (pe_cmpR h1 pe_wp pe_wp (nomark _ (cmpS_ne h).1 (cmpS_ne h).2)) ha hb h2
theorem dt_cmpS {op : CmpOp} {i j : Str} {k : Bool} (h : cmpS op i j = some k) (ha : DE X W a ρ (.val (.str i) ρ1)) (hb : DE X W b ρ1 (.val (.str j) ρ2)) : DT X W (.Compare a [op] [b] pos) ρ k ρ2 := by
  obtain ⟨r, h1, h2⟩ := cmpS_op (X := X) h
  exact dt2 (pt_cmpR h1 pe_wp pe_wp (nomark _ (cmpS_ne h).1 (cmpS_ne h).2)) ha hb h2
/-- one sign in a text -/
theorem de_inS {ch : Nat} {z : Str} (ha : DE X W a ρ (.val (.str ⟨#[ch]⟩) ρ1)) (hb : DE X W b ρ1 (.val (.str z) ρ2)) (hm : behindInMarks .In b = false := by rfl) : DE X W (.Compare a [.In] [b] pos) ρ (.val (.bl (decide (ch ∈ z.cps.toList))) ρ2) :=
  de2 (pe_cmpR op_in_sign pe_wp pe_wp hm) ha hb fun I H v1 v2 Q s r1 r2 q => by cases r1; cases r2; exact ⟨ch, z, rfl, rfl, q _ (.bl _)⟩
theorem dt_inS {ch : Nat} {z : Str} (ha : DE X W a ρ (.val (.str ⟨#[ch]⟩) ρ1)) (hb : DE X W b ρ1 (.val (.str z) ρ2)) (hm : behindInMarks .In b = false := by rfl) : DT X W (.Compare a [.In] [b] pos) ρ (decide (ch ∈ z.cps.toList)) ρ2 :=
  dt2 (pt_cmpR op_in_sign pe_wp pe_wp hm) ha hb fun I H v1 v2 Q s r1 r2 q => by cases r1; cases r2; exact ⟨ch, z, rfl, rfl, q _ (.bl _)⟩
/-- is None, is not None -/
def isNon : D → Bool
  | .non => true
  | _ => false
theorem rp_non {K : PySem.W.Frag} {I : Hp} {v : V} {d : D} (h : Rp K I v d) : decide (v = .non) = isNon d := by cases h <;> rfl
theorem dt_isN {j : Nat} {p2 : Pos} (ha : DE X W a ρ (.val d1 ρ1)) : DT X W (.Compare a [.Is] [.Constant .none j p2] pos) ρ (isNon d1) ρ1 :=
  dt2 (pt_cmpR op_isN pe_wp pe_wp (nomark _)) ha de_non fun I H v1 v2 Q s r1 r2 q => by
    cases r2
    exact ⟨rfl, by rw [rp_non r1]; exact q _ (.bl _)⟩
theorem dt_notN {j : Nat} {p2 : Pos} (ha : DE X W a ρ (.val d1 ρ1)) : DT X W (.Compare a [.IsNot] [.Constant .none j p2] pos) ρ (!isNon d1) ρ1 :=
  dt2 (pt_cmpR op_notN pe_wp pe_wp (nomark _)) ha de_non fun I H v1 v2 Q s r1 r2 q => by
    cases r2
    exact ⟨rfl, by rw [rp_non r1]; exact q _ (.bl _)⟩
/-- a op b op' c (ints) -/
theorem de_chainI {op op' : CmpOp} {i j l : Int} {k k' : Bool} (h : cmpI op i j = some k) (h' : cmpI op' j l = some k') (ha : DE X W a ρ (.val (.int i) ρ)) (hb : DE X W b ρ (.val (.int j) ρ)) (hc : DE X W c ρ (.val (.int l) ρ)) (hm : lastMarks [op, op'] [b, c] = false := by with_unfolding_all rfl) : DE X W (.Compare a [op, op'] [b, c] pos) ρ (.val (.bl (k && k')) ρ) := by
  obtain ⟨r, h1, h2⟩ := cmpI_op (X := X) h
  obtain ⟨r', h1', h2'⟩ := cmpI_op (X := X) h'
  refine fun w σ I H Q e p => wpE_of (pe_chain h1 h1' pe_wp pe_wp pe_wp hm) ?_
  refine ha w σ I H _ e fun v1 I1 H1 s1 e1 r1 => hb w σ I1 H1 _ e1 fun v2 I2 H2 s2 e2 r2 => h2 I2 H2 v1 v2 _ e2.sub (r1.up s2) r2 fun v rv => ?_
  cases rv
  refine ⟨k, rfl, ?_⟩
  cases k with
  | true =>
    refine hc w σ I2 H2 _ e2 fun v3 I3 H3 s3 e3 r3 => h2' I3 H3 v2 v3 _ e3.sub (r2.up s3) r3 fun v rv => ?_
    cases rv
    exact p _ I3 H3 ((s1.trans s2).trans s3) e3 (.bl _)
  | false => exact p _ I2 H2 (s1.trans s2) e2 (.bl _)
theorem dt_chainI {op op' : CmpOp} {i j l : Int} {k k' : Bool} (h : cmpI op i j = some k) (h' : cmpI op' j l = some k') (ha : DE X W a ρ (.val (.int i) ρ)) (hb : DE X W b ρ (.val (.int j) ρ)) (hc : DE X W c ρ (.val (.int l) ρ)) (hm : lastMarks [op, op'] [b, c] = false := by with_unfolding_all rfl) : DT X W (.Compare a [op, op'] [b, c] pos) ρ (k && k') ρ := by
  obtain ⟨r, h1, h2⟩ := cmpI_op (X := X) h
  obtain ⟨r', h1', h2'⟩ := cmpI_op (X := X) h'
  refine fun w σ I H Q e p => wpT_of (pt_chain h1 h1' pe_wp pe_wp pe_wp hm) ?_
  refine ha w σ I H _ e fun v1 I1 H1 s1 e1 r1 => hb w σ I1 H1 _ e1 fun v2 I2 H2 s2 e2 r2 => h2 I2 H2 v1 v2 _ e2.sub (r1.up s2) r2 fun v rv => ?_
  cases rv
  refine ⟨k, rfl, ?_⟩
  cases k with
  | true =>
    refine hc w σ I2 H2 _ e2 fun v3 I3 H3 s3 e3 r3 => h2' I3 H3 v2 v3 _ e3.sub (r2.up s3) r3 fun v rv => ?_
    cases rv
    exact ⟨_, rfl, p I3 H3 ((s1.trans s2).trans s3) e3⟩
  | false => exact ⟨false, rfl, p I2 H2 (s1.trans s2) e2⟩

/-! ### tests -/
/-- a value's truth -/
def truD : D → Option Bool
  | .non => some false
  | .bl b => some b
  | .int i => some (i != 0)
  | .str y => if y.length ≤ sizeLine then some ((y.length : Int) != 0) else none
  | .lst xs => some (!xs.isEmpty)
  | .tup xs => some (!xs.isEmpty)
  | .exc _ => none
  | .scr ns => some (!ns.isEmpty)
theorem RpAll.empty {K : PySem.W.Frag} {I : Hp} {vs : List V} {ds : List D} (h : RpAll K I vs ds) : vs.isEmpty = ds.isEmpty := by cases h <;> rfl
theorem tru_of {K : PySem.W.Frag} {I H : Hp} {v : V} {d : D} {k : Bool} (s : Same I H) (r : Rp K I v d) (h : truD d = some k) : TruV K v H k := by
  cases r with
  | non => cases h; rfl
  | bl b => cases h; rfl
  | int i => cases h; rfl
  | str x =>
    have h : (if x.length ≤ sizeLine then some ((x.length : Int) != 0) else none) = some k := h
    by_cases hl : x.length ≤ sizeLine
    · rw [if_pos hl] at h
      exact ⟨hl, (Option.some.inj h).symm⟩
    · rw [if_neg hl] at h
      cases h
  | lst h1 h2 => cases h; exact .inl ⟨_, .of (s _ _ h1), by rw [h2.empty]⟩
  | tup h1 h2 => cases h; exact .inr (.inl ⟨_, same_t s h1, by rw [h2.empty]⟩)
  | exc h1 => cases h
  | @scr a ns h1 => cases h; exact .inl ⟨_, s.seq h1, by cases ns <;> rfl⟩
theorem dt_tru {k : Bool} (h : truD d = some k) (ha : DE X W a ρ (.val d ρ1)) (he : ∀ whole, isTrue a X.env whole = (do let v ← whole; standAt a.pos; holding [v] (truthy v)) := by intro _; rfl) : DT X W a ρ k ρ1 :=
  fun w σ I H Q e p => wpT_of (pt_truth pe_wp he) (ha w σ I H _ e fun v1 I1 H1 s1 e1 r1 => ⟨k, tru_of e1.sub r1 h, p I1 H1 s1 e1⟩)
theorem dt_not {k : Bool} (h : DT X W a ρ k ρ1) : DT X W (.UnaryOp .Not a pos) ρ (!k) ρ1 := fun w σ I H Q e p => wpT_of (pt_not pt_wp) (h w σ I H _ e fun I1 H1 s1 e1 => p I1 H1 s1 e1)
theorem dt_w {k : Bool} (h : DW X W a ρ k ρ1) : DT X W a ρ k ρ1 := fun w σ I H Q e p => wpT_of (PW.pt pw_wp) (h w σ I H _ e fun I1 H1 s1 e1 => p I1 H1 s1 e1)
theorem dw_and1 {k : Bool} (h : DT X W a ρ k ρ1) : DW X W (.BoolOp .And [a] pos) ρ k ρ1 := fun w σ I H Q e p => wpW_of (pw_and1 pt_wp) (h w σ I H _ e fun I1 H1 s1 e1 => p I1 H1 s1 e1)
theorem dw_or1 {k : Bool} (h : DT X W a ρ k ρ1) : DW X W (.BoolOp .Or [a] pos) ρ k ρ1 := fun w σ I H Q e p => wpW_of (pw_or1 pt_wp) (h w σ I H _ e fun I1 H1 s1 e1 => p I1 H1 s1 e1)
theorem dw_and {k k' : Bool} {rest : List Expr} (h : DT X W a ρ k ρ) (h' : k = true → DW X W (.BoolOp .And (b :: rest) pos) ρ k' ρ) : DW X W (.BoolOp .And (a :: b :: rest) pos) ρ (k && k') ρ :=
  fun w σ I H Q e p => wpW_of (pw_and pt_wp pw_wp) (h w σ I H _ e fun I1 H1 s1 e1 => by
    cases k with
    | true =>
      show (if true = true then _ else _)
      rw [if_pos rfl]
      exact h' rfl w σ I1 H1 _ e1 fun I2 H2 s2 e2 => p I2 H2 (s1.trans s2) e2
    | false =>
      show (if false = true then _ else _)
      rw [if_neg Bool.false_ne_true]
      exact p I1 H1 s1 e1)
theorem dw_or {k k' : Bool} {rest : List Expr} (h : DT X W a ρ k ρ) (h' : k = false → DW X W (.BoolOp .Or (b :: rest) pos) ρ k' ρ) : DW X W (.BoolOp .Or (a :: b :: rest) pos) ρ (k || k') ρ :=
  fun w σ I H Q e p => wpW_of (pw_or pt_wp pw_wp) (h w σ I H _ e fun I1 H1 s1 e1 => by
    cases k with
    | true =>
      show (if true = true then _ else _)
      rw [if_pos rfl]
      exact p I1 H1 s1 e1
    | false =>
      show (if false = true then _ else _)
      rw [if_neg Bool.false_ne_true]
      exact h' rfl w σ I1 H1 _ e1 fun I2 H2 s2 e2 => p I2 H2 (s1.trans s2) e2)
/-- and, or, not as values (bools) -/
theorem de_one {op : BoolOp} {o : Ov} (h : DE X W a ρ o) : DE X W (.BoolOp op [a] pos) ρ o := fun w σ I H Q e p => wpE_of (pe_one pe_wp) (h w σ I H Q e p)
theorem de_and {k k' : Bool} {rest : List Expr} (h : DE X W a ρ (.val (.bl k) ρ)) (h' : k = true → DE X W (.BoolOp .And (b :: rest) pos) ρ (.val (.bl k') ρ)) : DE X W (.BoolOp .And (a :: b :: rest) pos) ρ (.val (.bl (k && k')) ρ) :=
  fun w σ I H Q e p => wpE_of (pe_and pe_wp pe_wp) (h w σ I H _ e fun v I1 H1 s1 e1 r => by
    cases r
    refine ⟨k, rfl, ?_⟩
    cases k with
    | true =>
      rw [if_pos rfl]
      exact h' rfl w σ I1 H1 _ e1 fun v I2 H2 s2 e2 r => p v I2 H2 (s1.trans s2) e2 r
    | false =>
      rw [if_neg Bool.false_ne_true]
      exact p _ I1 H1 s1 e1 (.bl false))
theorem de_or {k k' : Bool} {rest : List Expr} (h : DE X W a ρ (.val (.bl k) ρ)) (h' : k = false → DE X W (.BoolOp .Or (b :: rest) pos) ρ (.val (.bl k') ρ)) : DE X W (.BoolOp .Or (a :: b :: rest) pos) ρ (.val (.bl (k || k')) ρ) :=
  fun w σ I H Q e p => wpE_of (pe_or pe_wp pe_wp) (h w σ I H _ e fun v I1 H1 s1 e1 r => by
    cases r
    refine ⟨k, rfl, ?_⟩
    cases k with
    | true =>
      rw [if_pos rfl]
      exact p _ I1 H1 s1 e1 (.bl true)
    | false =>
      rw [if_neg Bool.false_ne_true]
      exact h' rfl w σ I1 H1 _ e1 fun v I2 H2 s2 e2 r => p v I2 H2 (s1.trans s2) e2 r)
theorem de_not {k : Bool} (h : DE X W a ρ (.val (.bl k) ρ1)) : DE X W (.UnaryOp .Not a pos) ρ (.val (.bl (!k)) ρ1) := fun w σ I H Q e p => wpE_of (pe_not pe_wp) (h w σ I H _ e fun v I1 H1 s1 e1 r => by
    cases r
    exact ⟨k, rfl, p _ I1 H1 s1 e1 (.bl _)⟩)
/-- a if c else b -/
theorem de_if {k : Bool} {o : Ov} (h : DT X W c ρ k ρ1) (ha : k = true → DE X W a ρ1 o) (hb : k = false → DE X W b ρ1 o) : DE X W (.IfExp c a b pos) ρ o :=
  fun w σ I H Q e p => wpE_of (pe_ifExp pt_wp pe_wp pe_wp) (h w σ I H _ e fun I1 H1 s1 e1 => by
    cases k with
    | true =>
      rw [if_pos rfl]
      exact ha rfl w σ I1 H1 _ e1 (p.mono s1)
    | false =>
      rw [if_neg Bool.false_ne_true]
      exact hb rfl w σ I1 H1 _ e1 (p.mono s1))

/-! ### arguments, displays -/
theorem da_nil : DA X W [] ρ [] ρ := fun w σ I H Q e p => wpA_of pa_nil (p [] I H (Same.refl I) e .nil)
theorem da_cons {es : List Expr} {ds : List D} (h : DE X W a ρ (.val d ρ1)) (hr : DA X W es ρ1 ds ρ2) (hs : starEach (a :: es) X.env = (false, eval a X.env) :: starEach es X.env := by rfl) : DA X W (a :: es) ρ (d :: ds) ρ2 :=
  fun w σ I H Q e p => wpA_of (pa_cons pe_wp pa_wp hs) (h w σ I H _ e fun v I1 H1 s1 e1 r => hr w σ I1 H1 _ e1 fun vs I2 H2 s2 e2 r2 => p _ I2 H2 (s1.trans s2) e2 (.cons (r.up s2) r2))
theorem de_lst {es : List Expr} {ds : List D} (h : DA X W es ρ ds ρ1) (hl : ds.length ≤ sizeLine) : DE X W (.List es pos) ρ (.own (.lst ds) ρ1) :=
  fun w σ I H Q e p => wpE_of (pe_lst pa_wp) (h w σ I H _ e fun vs I1 H1 s1 e1 r => ⟨by rw [r.length]; exact hl, fun q hq => p _ I1 _ s1 (e1.alloc hq r)⟩)
theorem de_tup {es : List Expr} {ds : List D} {x1 : Nat} (h : DA X W es ρ ds ρ1) (hl : ds.length ≤ sizeLine) : DE X W (.Tuple es x1 pos) ρ (.val (.tup ds) ρ1) :=
  fun w σ I H Q e p => wpE_of (pe_tup pa_wp) (h w σ I H _ e fun vs I1 H1 s1 e1 r => ⟨by rw [r.length]; exact hl, fun q hq => by
    have s2 : Same I1 (upd I1 q (.tup vs)) := same_upd (e1.fresh hq).2
    exact p _ (upd I1 q (.tup vs)) _ (s1.trans s2) (e1.still hq) (.tup (.of upd_same) (r.up s2))⟩)
end
end Dt


set_option Elab.async false
set_option linter.all false
set_option maxRecDepth 100000
set_option maxHeartbeats 1000000
namespace Dt
open PySem PySem.Spec PyProof.Rows L2

/-! ### borrowed: read at once, whether it stands still or not -/
def DB (X : Cx) (W : WX) (e : Expr) (ρ : List S) (d : D) (ρ' : List S) : Prop :=
  ∀ (w : Wd) (σ : L2.St) (I H : Hp) (Q : VK), Ev X.K w I H σ ρ → (∀ v I' H', Same I I' → Ev X.K w I' H' σ ρ' → Rp X.K H' v d → Q v H') → wpE X e σ H Q
def DAb (X : Cx) (W : WX) (es : List Expr) (ρ : List S) (ds : List D) (ρ' : List S) : Prop :=
  ∀ (w : Wd) (σ : L2.St) (I H : Hp) (Q : List V → Hp → Prop), Ev X.K w I H σ ρ → (∀ vs I' H', Same I I' → Ev X.K w I' H' σ ρ' → RpAll X.K H' vs ds → Q vs H') → wpA X es σ H Q
section
variable {X : Cx} {W : WX} {ρ ρ1 ρ2 ρ3 : List S} {pos : Pos} {a b c e : Expr} {es : List Expr} {d d1 d2 : D} {ds : List D}
theorem db_of (h : DE X W a ρ (.val d ρ1)) : DB X W a ρ d ρ1 := fun w σ I H Q ev p => h w σ I H Q ev fun v I1 H1 s1 e1 r => p v I1 H1 s1 e1 (r.up e1.sub)
theorem db_own {i : Nat} {x : Str} {k : Option Nat} (hN : X.N[i]? = some x) (hv : Vis X.env.scope x) (h : ρ[i]? = some (.own k (.lst ds))) (hd : (x == ("__debug__" : Str)) = false := by decide) (hcd : (x == ("__classdict__" : Str)) = false := by decide) : DB X W (.Name x pos) ρ (.lst ds) ρ :=
  fun w σ I H Q ev p => by
    obtain ⟨a, vs, h1, h2, h3, h4, _⟩ := ev.change (es := ds) h
    exact wpE_of (pe_var hN hv hd hcd) ⟨_, h1, p _ I H (Same.refl I) ev (.lst h2 (h4.up ev.sub))⟩
/-- a new list, borrowed -/
theorem db_new (h : DE X W a ρ (.own (.lst ds) ρ1)) : DB X W a ρ (.lst ds) ρ1 := db_of (de_still h)
theorem dab_of (h : DA X W es ρ ds ρ1) : DAb X W es ρ ds ρ1 := fun w σ I H Q ev p => h w σ I H Q ev fun v I1 H1 s1 e1 r => p v I1 H1 s1 e1 (r.up e1.sub)
theorem dab_one (h : DB X W a ρ d ρ1) (hs : starEach [a] X.env = (false, eval a X.env) :: starEach [] X.env := by rfl) : DAb X W [a] ρ [d] ρ1 := fun w σ I H Q ev p => wpA_of (pa_cons pe_wp pa_wp hs) (h w σ I H _ ev fun v I1 H1 s1 e1 r => wpA_of pa_nil (p _ I1 H1 s1 e1 (.one r)))
theorem dt_truB {k : Bool} (h : truD d = some k) (ha : DB X W a ρ d ρ1) (he : ∀ whole, isTrue a X.env whole = (do let v ← whole; standAt a.pos; holding [v] (truthy v)) := by intro _; rfl) : DT X W a ρ k ρ1 :=
  fun w σ I H Q ev p => wpT_of (pt_truth pe_wp he) (ha w σ I H _ ev fun v1 I1 H1 s1 e1 r1 => ⟨k, tru_of (Same.refl H1) r1 h, p I1 H1 s1 e1⟩)

/-! ### built-in functions -/
def PrimC (K : PySem.W.Frag) (r : List V → Hp → VK → Prop) (ds : List D) (d : D) : Prop := ∀ (H : Hp) (vs : List V) (Q : VK), RpAll K H vs ds → (∀ v, (∀ I, Rp K I v d) → Q v H) → r vs H Q
def PrimCL (K : PySem.W.Frag) (r : List V → Hp → VK → Prop) (ds : List D) (es : List D) : Prop := ∀ (I H : Hp) (vs : List V) (Q : VK), Same I H → RpAll K I vs ds → (∀ p us, H p = none → RpAll K I us es → Q (.ref p) (upd H p (.lst us))) → r vs H Q
theorem de_cb {r : List V → Hp → VK → Prop} (hpe : PE X e (tCB r (wpA X es))) (ha : DAb X W es ρ ds ρ1) (hp : PrimC X.K r ds d) : DE X W e ρ (.val d ρ1) :=
  fun w σ I H Q ev p => wpE_of hpe (ha w σ I H _ ev fun vs I1 H1 s1 e1 r1 => hp H1 vs Q r1 fun v rv => p v I1 H1 s1 e1 (rv I1))
theorem de_cbL {r : List V → Hp → VK → Prop} {fs : List D} (hpe : PE X e (tCB r (wpA X es))) (ha : DA X W es ρ ds ρ1) (hp : PrimCL X.K r ds fs) : DE X W e ρ (.own (.lst fs) ρ1) :=
  fun w σ I H Q ev p => wpE_of hpe (ha w σ I H _ ev fun vs I1 H1 s1 e1 r1 => hp I1 H1 vs Q e1.sub r1 fun q us hq ru => p _ I1 _ s1 (e1.alloc hq ru))
theorem all1 {K : PySem.W.Frag} {H : Hp} {vs : List V} {d : D} (h : RpAll K H vs [d]) : ∃ v, vs = [v] ∧ Rp K H v d := by
  cases h with
  | cons h1 h2 => cases h2; exact ⟨_, rfl, h1⟩
theorem all2 {K : PySem.W.Frag} {H : Hp} {vs : List V} {d d' : D} (h : RpAll K H vs [d, d']) : ∃ v v', vs = [v, v'] ∧ Rp K H v d ∧ Rp K H v' d' := by
  cases h with
  | cons h1 h2 => obtain ⟨v', rfl, h3⟩ := all1 h2; exact ⟨_, _, rfl, h1, h3⟩
/-- a name of the built-in module -/
structure Blt (X : Cx) (x : Str) (u : Value) : Prop where
  g : Gl X x
  m : X.mg x = none
  v : bootBuiltins x = some u
  n : x ≠ "__name__"
  d : (x == ("__debug__" : Str)) = false
/-- how long -/
def lenD : D → Option Nat
  | .str x => if x.length ≤ sizeLine then some x.length else none
  | .lst xs => some xs.length
  | .tup xs => some xs.length
  | .scr ns => some ns.length
  | _ => none
theorem prim_len {K : PySem.W.Frag} {d : D} {n : Nat} (h : lenD d = some n) : PrimC K (fun xs H Q => ∃ x n, xs = [x] ∧ LenV K x H n ∧ Q (.int n) H) [d] (.int n) := fun H vs Q r q => by
  obtain ⟨v, rfl, rv⟩ := all1 r
  refine ⟨v, n, rfl, ?_, q _ fun I => .int _⟩
  cases rv with
  | str x =>
    have h : (if x.length ≤ sizeLine then some x.length else none) = some n := h
    by_cases hl : x.length ≤ sizeLine
    · rw [if_pos hl] at h
      exact ⟨hl, (Option.some.inj h).symm⟩
    · rw [if_neg hl] at h
      cases h
  | lst h1 h2 => cases h; exact .inl ⟨_, .of h1, h2.length.symm⟩
  | tup h1 h2 => cases h; exact .inr ⟨_, h1, h2.length.symm⟩
  | non => cases h
  | bl => cases h
  | int => cases h
  | exc => cases h
  | @scr a ns h1 => cases h; exact .inl ⟨_, h1, (List.length_map _).symm⟩
theorem de_len {p : Pos} {n : Nat} (hx : Blt X "len" (.builtin "len")) (ha : DB X W a ρ d ρ1) (h : lenD d = some n) (he : starEach [a] X.env = (false, eval a X.env) :: starEach [] X.env := by rfl) :
    DE X W (.Call (.Name "len" p) [a] [] pos) ρ (.val (.int n) ρ1) := de_cb (pe_callB call_len hx.g hx.m hx.v pa_wp hx.n hx.d he) (dab_one ha he) (prim_len h)
theorem de_ord {p : Pos} {ch : Nat} (hx : Blt X "ord" (.builtin "ord")) (ha : DE X W a ρ (.val (.str ⟨#[ch]⟩) ρ1)) (he : starEach [a] X.env = (false, eval a X.env) :: starEach [] X.env := by rfl) :
    DE X W (.Call (.Name "ord" p) [a] [] pos) ρ (.val (.int (ch : Nat)) ρ1) := de_cb (pe_callB call_ord hx.g hx.m hx.v pa_wp hx.n hx.d he) (dab_one (db_of ha) he) fun H vs Q r q => by
  obtain ⟨v, rfl, rv⟩ := all1 r
  cases rv
  exact ⟨_, rfl, rfl, q _ fun I => .int _⟩
theorem de_abs {p : Pos} {i : Int} (hx : Blt X "abs" (.builtin "abs")) (ha : DE X W a ρ (.val (.int i) ρ1)) (he : starEach [a] X.env = (false, eval a X.env) :: starEach [] X.env := by rfl) :
    DE X W (.Call (.Name "abs" p) [a] [] pos) ρ (.val (.int (if i < 0 then -i else i)) ρ1) := de_cb (pe_callB call_abs hx.g hx.m hx.v pa_wp hx.n hx.d he) (dab_one (db_of ha) he) fun H vs Q r q => by
  obtain ⟨v, rfl, rv⟩ := all1 r
  cases rv
  exact ⟨_, rfl, q _ fun I => .int _⟩
theorem rp_bls {K : PySem.W.Frag} {H : Hp} : ∀ {bs : List Bool} {vs : List V}, RpAll K H vs (bs.map D.bl) → vs = bs.map V.bl
  | [], _, h => by cases h; rfl
  | b :: bs, _, h => by
    cases h with
    | cons h1 h2 =>
      cases h1
      rw [rp_bls h2]
      rfl
theorem rp_ints {K : PySem.W.Frag} {H : Hp} : ∀ {bs : List Int} {vs : List V}, RpAll K H vs (bs.map D.int) → vs = bs.map V.int
  | [], _, h => by cases h; rfl
  | b :: bs, _, h => by
    cases h with
    | cons h1 h2 =>
      cases h1
      rw [rp_ints h2]
      rfl
theorem rp_strs {K : PySem.W.Frag} {H : Hp} : ∀ {bs : List Str} {vs : List V}, RpAll K H vs (bs.map D.str) → vs = bs.map V.str
  | [], _, h => by cases h; rfl
  | b :: bs, _, h => by
    cases h with
    | cons h1 h2 =>
      cases h1
      rw [rp_strs h2]
      rfl
theorem rpl_of {K : PySem.W.Frag} {H : Hp} {v : V} {ds : List D} (h : Rp K H v (.lst ds)) : ∃ a vs, v = .ref a ∧ SqL K H a vs ∧ RpAll K H vs ds := by
  cases h with
  | lst h1 h2 => exact ⟨_, _, rfl, .of h1, h2⟩
theorem rpl_tr {K : PySem.W.Frag} {H : Hp} {v : V} {ds : List D} (h : Rp K H v (.lst ds)) : ∃ a vs, v = .ref a ∧ H a = some (.lst vs) ∧ RpAll K H vs ds := by
  cases h with
  | lst h1 h2 => exact ⟨_, _, rfl, h1, h2⟩
theorem rpt_of {K : PySem.W.Frag} {H : Hp} {v : V} {ds : List D} (h : Rp K H v (.tup ds)) : ∃ a vs, v = .ref a ∧ SqT K H a vs ∧ RpAll K H vs ds := by
  cases h with
  | tup h1 h2 => exact ⟨_, _, rfl, h1, h2⟩
theorem de_all {p : Pos} {bs : List Bool} (hc : X.calm = true) (hx : Blt X "all" (.builtin "all")) (ha : DB X W a ρ (.lst (bs.map D.bl)) ρ1) (he : starEach [a] X.env = (false, eval a X.env) :: starEach [] X.env := by rfl) :
    DE X W (.Call (.Name "all" p) [a] [] pos) ρ (.val (.bl (bs.all id)) ρ1) := de_cb (pe_callB (cr_all hc) hx.g hx.m hx.v pa_wp hx.n hx.d he) (dab_one ha he) fun H vs Q r q => by
  obtain ⟨v, rfl, rv⟩ := all1 r
  obtain ⟨a, us, rfl, h1, h2⟩ := rpl_of rv
  exact ⟨a, bs, rfl, by rw [← rp_bls h2]; exact h1, q _ fun I => .bl _⟩
theorem de_any {p : Pos} {bs : List Bool} (hc : X.calm = true) (hx : Blt X "any" (.builtin "any")) (ha : DB X W a ρ (.lst (bs.map D.bl)) ρ1) (he : starEach [a] X.env = (false, eval a X.env) :: starEach [] X.env := by rfl) :
    DE X W (.Call (.Name "any" p) [a] [] pos) ρ (.val (.bl (bs.any id)) ρ1) := de_cb (pe_callB (cr_any hc) hx.g hx.m hx.v pa_wp hx.n hx.d he) (dab_one ha he) fun H vs Q r q => by
  obtain ⟨v, rfl, rv⟩ := all1 r
  obtain ⟨a, us, rfl, h1, h2⟩ := rpl_of rv
  exact ⟨a, bs, rfl, by rw [← rp_bls h2]; exact h1, q _ fun I => .bl _⟩
theorem de_sum {p : Pos} {ns : List Int} (hc : X.calm = true) (hx : Blt X "sum" (.builtin "sum")) (ha : DB X W a ρ (.lst (ns.map D.int)) ρ1) (he : starEach [a] X.env = (false, eval a X.env) :: starEach [] X.env := by rfl) :
    DE X W (.Call (.Name "sum" p) [a] [] pos) ρ (.val (.int ns.sum) ρ1) := de_cb (pe_callB (cr_sum hc) hx.g hx.m hx.v pa_wp hx.n hx.d he) (dab_one ha he) fun H vs Q r q => by
  obtain ⟨v, rfl, rv⟩ := all1 r
  obtain ⟨a, us, rfl, h1, h2⟩ := rpl_of rv
  exact ⟨a, ns, rfl, by rw [← rp_ints h2]; exact h1, q _ fun I => .int _⟩
theorem de_strI {p : Pos} {i : Int} (hl : i.natAbs.log2 < 1920) (hx : Blt X "str" (.type "str")) (ha : DE X W a ρ (.val (.int i) ρ1)) (he : starEach [a] X.env = (false, eval a X.env) :: starEach [] X.env := by rfl) :
    DE X W (.Call (.Name "str" p) [a] [] pos) ρ (.val (.str (toString i)) ρ1) := de_cb (pe_callTy call_str_int hx.g hx.m hx.v pa_wp hx.n hx.d he) (dab_one (db_of ha) he) fun H vs Q r q => by
  obtain ⟨v, rfl, rv⟩ := all1 r
  cases rv
  exact ⟨i, rfl, hl, q _ fun I => .str _⟩
theorem de_intS {p : Pos} {z : Str} {n : Int} (hz : PySem.intText? z = some n) (hl : z.length ≤ 640) (hx : Blt X "int" (.type "int")) (ha : DE X W a ρ (.val (.str z) ρ1)) (he : starEach [a] X.env = (false, eval a X.env) :: starEach [] X.env := by rfl) :
    DE X W (.Call (.Name "int" p) [a] [] pos) ρ (.val (.int n) ρ1) := de_cb (pe_callTy call_int_str hx.g hx.m hx.v pa_wp hx.n hx.d he) (dab_one (db_of ha) he) fun H vs Q r q => by
  obtain ⟨v, rfl, rv⟩ := all1 r
  cases rv
  exact ⟨z, n, rfl, hz, hl, q _ fun I => .int _⟩
theorem de_intB {p : Pos} {k : Bool} (hx : Blt X "int" (.type "int")) (ha : DE X W a ρ (.val (.bl k) ρ1)) (he : starEach [a] X.env = (false, eval a X.env) :: starEach [] X.env := by rfl) :
    DE X W (.Call (.Name "int" p) [a] [] pos) ρ (.val (.int (if k then 1 else 0)) ρ1) := de_cb (pe_callTy call_int1 hx.g hx.m hx.v pa_wp hx.n hx.d he) (dab_one (db_of ha) he) fun H vs Q r q => by
  obtain ⟨v, rfl, rv⟩ := all1 r
  cases rv
  exact .inr ⟨k, rfl, q _ fun I => .int _⟩
/-- list(x) -/
theorem de_listL {p : Pos} (hx : Blt X "list" (.type "list")) (ha : DE X W a ρ (.val (.lst ds) ρ1)) (he : starEach [a] X.env = (false, eval a X.env) :: starEach [] X.env := by rfl) :
    DE X W (.Call (.Name "list" p) [a] [] pos) ρ (.own (.lst ds) ρ1) := de_cbL (pe_callTy call_list_of hx.g hx.m hx.v pa_wp hx.n hx.d he) (da_cons ha da_nil he) fun I H vs Q s r q => by
  obtain ⟨v, rfl, rv⟩ := all1 r
  obtain ⟨a, us, rfl, h1, h2⟩ := rpl_of rv
  exact ⟨a, us, rfl, .inl (s.seq h1), fun l hl => q l us hl h2⟩
/-! ### isinstance against a built-in class -/
def tyD : D → Option String
  | .non => some "NoneType"
  | .bl _ => some "bool"
  | .int _ => some "int"
  | .str _ => some "str"
  | .lst _ => some "list"
  | .tup _ => some "tuple"
  | .exc _ => none
  | .scr _ => none
theorem ty_of {K : PySem.W.Frag} {H : Hp} {v : V} {d : D} {t : String} (r : Rp K H v d) (h : tyD d = some t) : TyX K H v (.type t) := by
  cases r with
  | non => cases h; exact .base .non
  | bl b => cases h; exact .base (.bl b)
  | int i => cases h; exact .base (.int i)
  | str x => cases h; exact .base (.str x)
  | lst h1 h2 =>
    cases h
    exact .base (.lst h1)
  | tup h1 h2 =>
    cases h
    rcases h1 with (h1 | ⟨o, h1⟩) | ⟨o, its, n, h1, h3, _⟩
    · exact .base (.tup h1)
    · exact .fTuple h1
    · exact .kTuple h1 h3
  | exc h1 => cases h
  | scr h1 => cases h
theorem de_isi {p p2 : Pos} {t y : String} {x : Str} {k : Bool} (ht : tyD d = some t) (hk : kitB t y = some k) (hx : Blt X "isinstance" (.builtin "isinstance")) (hy : Blt X x (.type y)) (ha : DB X W a ρ d ρ1)
    (he : starEach [a, .Name x p2] X.env = (false, eval a X.env) :: starEach [.Name x p2] X.env := by rfl) :
    DE X W (.Call (.Name "isinstance" p) [a, .Name x p2] [] pos) ρ (.val (.bl k) ρ1) :=
  fun w σ I H Q ev q => wpE_of (pe_callB call_isi hx.g hx.m hx.v (pa_cons pe_wp (pa_cons (pe_bltn (v := .ty y) hy.g hy.m hy.v rfl hy.n hy.d) pa_nil) he) hx.n hx.d he)
    (ha w σ I H _ ev fun v I1 H1 s1 e1 r1 => ⟨v, .ty y, .type t, .type y, k, rfl, .ty y, ty_of r1 ht, kit_ty hk, q _ I1 H1 s1 e1 (.bl k)⟩)

/-! ### subscripts -/
def ixD : D → Int → Option D
  | .str z, i => if z.length ≤ sizeLine then (atI z.cps.toList i).map fun c => .str ⟨#[c]⟩ else none
  | .lst xs, i => atI xs i
  | .tup xs, i => atI xs i
  | .scr ns, i => (atI ns i).map .int
  | _, _ => none
theorem RpAll.atI {K : PySem.W.Frag} {I : Hp} {vs : List V} {ds : List D} {i : Int} {d : D} (h : RpAll K I vs ds) (e : L2.atI ds i = some d) : ∃ v, L2.atI vs i = some v ∧ Rp K I v d := by
  unfold L2.atI at e ⊢
  rw [h.length]
  cases q : ixN ds.length i with
  | none => rw [q] at e; cases e
  | some j =>
    rw [q] at e
    exact h.get e
theorem de_ix {i : Int} (ha : DE X W a ρ (.val d1 ρ1)) (hb : DE X W b ρ1 (.val (.int i) ρ2)) (h : ixD d1 i = some d) (hs : PlainIx b := by exact fun _ _ => rfl) : DE X W (.Subscript a b pos) ρ (.val d ρ2) :=
  de2 (pe_ix ix_seq pe_wp pe_wp hs) ha hb fun I H v1 v2 Q s r1 r2 q => by
    cases r2
    cases r1 with
    | str z =>
      have h : (if z.length ≤ sizeLine then (atI z.cps.toList i).map fun c => D.str ⟨#[c]⟩ else none) = some d := h
      by_cases hl : z.length ≤ sizeLine
      · rw [if_pos hl] at h
        cases e : atI z.cps.toList i with
        | none => rw [e] at h; cases h
        | some ch =>
          rw [e] at h
          cases h
          exact .inr (.inr ⟨z, i, ch, rfl, rfl, hl, e, q _ (.str _)⟩)
      · rw [if_neg hl] at h
        cases h
    | lst h1 h2 =>
      obtain ⟨v, e, rv⟩ := h2.atI h
      exact .inl ⟨_, _, i, v, rfl, rfl, .of (s _ _ h1), e, q _ rv⟩
    | tup h1 h2 =>
      obtain ⟨v, e, rv⟩ := h2.atI h
      exact .inr (.inl ⟨_, _, i, v, rfl, rfl, same_t s h1, e, q _ rv⟩)
    | non => cases h
    | bl => cases h
    | int => cases h
    | exc => cases h
    | @scr a ns h1 =>
      have h : (atI ns i).map D.int = some d := h
      cases e : atI ns i with
      | none => rw [e] at h; cases h
      | some m =>
        rw [e] at h
        cases h
        refine .inl ⟨_, _, i, .int m, rfl, rfl, s.seq h1, ?_, q _ (.int m)⟩
        unfold L2.atI at e ⊢
        rw [List.length_map]
        cases q2 : ixN ns.length i with
        | none => rw [q2] at e; cases e
        | some j =>
          rw [q2] at e
          have e : ns[j]? = some m := e
          show (ns.map V.int)[j]? = some (V.int m)
          rw [List.getElem?_map, e]
          rfl
/-! ### slices -/
theorem do_none : DO X W none ρ none ρ := fun w σ I H Q ev p => wpO_of po_none (p I H (Same.refl I) ev)
theorem do_some {i : Int} (h : DE X W a ρ (.val (.int i) ρ1)) : DO X W (some a) ρ (some i) ρ1 := fun w σ I H Q ev p => wpO_of (po_some pe_wp) (h w σ I H _ ev fun v I1 H1 s1 e1 r => by
  cases r
  exact ⟨i, rfl, p I1 H1 s1 e1⟩)
theorem de_slS {lo hi : Option Expr} {i j : Option Int} {z : Str} {p2 : Pos} (ha : DE X W a ρ (.val (.str z) ρ1)) (hl : DO X W lo ρ1 i ρ2) (hh : DO X W hi ρ2 j ρ3) (hz : z.length ≤ sizeLine) : DE X W (.Subscript a (.Slice lo hi none p2) pos) ρ (.val (.str (cutS z i j)) ρ3) :=
  fun w σ I H Q ev p => wpE_of (pe_slice sl_str pe_wp po_wp po_wp) (ha w σ I H _ ev fun v I1 H1 s1 e1 r => hl w σ I1 H1 _ e1 fun I2 H2 s2 e2 => hh w σ I2 H2 _ e2 fun I3 H3 s3 e3 => by
    cases r
    exact ⟨z, rfl, hz, p _ I3 H3 ((s1.trans s2).trans s3) e3 (.str _)⟩)
def cutD (xs : List D) (lo hi : Option Int) : List D := (xs.drop (HT.sIx xs.length 0 lo)).take (HT.sIx xs.length xs.length hi - HT.sIx xs.length 0 lo)
theorem de_slL {lo hi : Option Expr} {i j : Option Int} {p2 : Pos} (ha : DE X W a ρ (.val (.lst ds) ρ1)) (hl : DO X W lo ρ1 i ρ2) (hh : DO X W hi ρ2 j ρ3) : DE X W (.Subscript a (.Slice lo hi none p2) pos) ρ (.own (.lst (cutD ds i j)) ρ3) :=
  fun w σ I H Q ev p => wpE_of (pe_slice sl_list pe_wp po_wp po_wp) (ha w σ I H _ ev fun v I1 H1 s1 e1 r => hl w σ I1 H1 _ e1 fun I2 H2 s2 e2 => hh w σ I2 H2 _ e2 fun I3 H3 s3 e3 => by
    obtain ⟨a, vs, rfl, h1, h2⟩ := rpl_of (r.up (s2.trans s3))
    refine ⟨a, vs, rfl, e3.sub.seq h1, fun q hq => p _ I3 _ ((s1.trans s2).trans s3) (e3.alloc hq ?_)⟩
    unfold cutV cutD
    rw [h2.length]
    exact (h2.drop _).take _)

/-! ### methods of texts -/
def PrimM (K : PySem.W.Frag) (r : V → List V → Hp → VK → Prop) (d0 : D) (ds : List D) (d : D) : Prop := ∀ (H : Hp) (v : V) (vs : List V) (Q : VK), Rp K H v d0 → RpAll K H vs ds → (∀ u, (∀ I, Rp K I u d) → Q u H) → r v vs H Q
theorem de_bm {name : Str} {id : String} {r : V → List V → Hp → VK → Prop} {o : Expr} {apos cpos : Pos} {z : Str} (slot : Slot "str" name id) (hty : typeOf (.builtin id) = pure (.type "method_descriptor")) (hm : MtR X id r)
    (ho : DE X W o ρ (.val (.str z) ρ1)) (ha : DAb X W (a :: es) ρ1 ds ρ2) (hp : PrimM X.K r (.str z) ds d)
    (hbase : attributeBase o name X.env (eval o X.env) = eval o X.env := by rfl)
    (hfew : ((backTo cpos (starEach (a :: es) X.env)).all (fun x => !x.1) && (backToKw cpos (keywordEach [] X.env)).all (fun x => x.1.isSome)
      && decide ((a :: es).length + ([] : List Keyword).length + (if ([] : List Keyword).isEmpty then 0 else 1) < 30)) = true := by rfl)
    (hline : (apos.endLine == cpos.line) = true := by rfl) (hs : starEach (a :: es) X.env = (false, eval a X.env) :: starEach es X.env := by rfl) (hplain : (backTo cpos (starEach es X.env)).any (·.1) = false := by rfl) :
    DE X W (.Call (.Attribute o name apos) (a :: es) [] cpos) ρ (.val d ρ2) :=
  fun w σ I H Q ev p => wpE_of (pe_bm PySem.F.plainAttrs_str slot hty hm pe_wp pa_wp hbase hfew hline hs hplain) (ho w σ I H _ ev fun v I1 H1 s1 e1 r1 => by
    cases r1
    exact ⟨rfl, ha w σ I1 H1 _ e1 fun vs I2 H2 s2 e2 r2 => hp H2 _ vs Q (.str z) r2 fun u ru => p u I2 H2 (s1.trans s2) e2 (ru I2)⟩)
section
variable {o : Expr} {apos cpos : Pos} {z y : Str}
theorem de_join {p : Pos} {ys : List Str} (hl : (ys.map (·.length)).sum + ys.length * z.length ≤ 16777216) (ho : DE X W o ρ (.val (.str z) ρ1)) (ha : DB X W a ρ1 (.lst (ys.map D.str)) ρ2)
    (hbase : attributeBase o "join" X.env (eval o X.env) = eval o X.env := by rfl) (hfew : ((backTo cpos (starEach [a] X.env)).all (fun x => !x.1) && (backToKw cpos (keywordEach [] X.env)).all (fun x => x.1.isSome)
      && decide (([a] : List Expr).length + ([] : List Keyword).length + (if ([] : List Keyword).isEmpty then 0 else 1) < 30)) = true := by rfl)
    (hline : (apos.endLine == cpos.line) = true := by rfl) (hs : starEach [a] X.env = (false, eval a X.env) :: starEach [] X.env := by rfl) :
    DE X W (.Call (.Attribute o "join" apos) [a] [] cpos) ρ (.val (.str (Txt.join z ys)) ρ2) :=
  de_bm PySem.F.slot_str_join PySem.F.type_str_join mt_join ho (dab_one ha hs) (fun H v vs Q r1 r2 q => by
    cases r1
    obtain ⟨v, rfl, rv⟩ := all1 r2
    obtain ⟨a, us, rfl, h1, h2⟩ := rpl_of rv
    rw [rp_strs h2] at h1
    exact ⟨z, a, ys, rfl, rfl, .inl h1, hl, q _ fun I => .str _⟩) hbase hfew hline hs
end
end
end Dt


set_option Elab.async false
set_option linter.all false
set_option maxRecDepth 100000
set_option maxHeartbeats 1000000
namespace Dt
open PySem PySem.Spec PyProof.Rows L2

/-! ### what a def promises -/
/-- an argument: data, or something that may be changed -/
inductive P where
  | v (d : D) | io (o : O)
inductive Res where
  | ret (d : D) | own (o : O) | exc (C : Addr)
abbrev Con := List P → Res → List O → Prop

inductive ArgsAt (K : PySem.W.Frag) (I H : Hp) : List V → List P → List (List Addr) → Prop
  | nil : ArgsAt K I H [] [] []
  | v {v : V} {d : D} {vs : List V} {ps : List P} {A : List (List Addr)} : Rp K I v d → ArgsAt K I H vs ps A → ArgsAt K I H (v :: vs) (.v d :: ps) A
  | io {v : V} {o : O} {φ : List Addr} {vs : List V} {ps : List P} {A : List (List Addr)} : OwnAt K I H v o φ → (∀ a ∈ φ, I a = none) → (∀ l ∈ A, ∀ a ∈ φ, a ∉ l) → ArgsAt K I H vs ps A → ArgsAt K I H (v :: vs) (.io o :: ps) (φ :: A)
inductive Back (K : PySem.W.Frag) (I H : Hp) : List V → List P → List O → List (List Addr) → Prop
  | nil : Back K I H [] [] [] []
  | v {v : V} {d : D} {vs : List V} {ps : List P} {os : List O} {A : List (List Addr)} : Back K I H vs ps os A → Back K I H (v :: vs) (.v d :: ps) os A
  | io {v : V} {o o' : O} {φ : List Addr} {vs : List V} {ps : List P} {os : List O} {A : List (List Addr)} : OwnAt K I H v o' φ → (∀ a ∈ φ, I a = none) → Back K I H vs ps os A → Back K I H (v :: vs) (.io o :: ps) (o' :: os) (φ :: A)
structure Step (I H : Hp) (A : List (List Addr)) (I' H' : Hp) : Prop where
  s1 : Same I I'
  s2 : Same I' H'
  frm : ∀ b o, H b = some o → (∀ l ∈ A, b ∉ l) → H' b = some o
  new : ∀ b o, I' b = some o → I b = some o ∨ H b = none
  trk : ∀ b o, H b = some o → ∃ u, H' b = some u
def Done (K : PySem.W.Frag) (H I' H' : Hp) (Q : VK) (E : XK) : Res → Prop
  | .ret d => ∀ v, Rp K I' v d → Q v H'
  | .own o => ∀ v φ, OwnAt K I' H' v o φ → (∀ a ∈ φ, I' a = none ∧ H a = none) → Q v H'
  | .exc C => E (.ref C) none H'
def spC (K : PySem.W.Frag) (f : Con) : Sp := fun vs H Q E => ∃ (I : Hp) (ps : List P) (A : List (List Addr)) (r : Res) (os : List O),
  Same I H ∧ ArgsAt K I H vs ps A ∧ f ps r os ∧ ∀ I' H', Step I H A I' H' → Back K I' H' vs ps os A → Done K H I' H' Q E r

theorem OwnAt.inj {K : PySem.W.Frag} {I H I' H' : Hp} {v v' : V} {o o' : O} {φ : List Addr} (h : OwnAt K I H v o φ) (h' : OwnAt K I' H' v' o' φ) : v = v' := by
  cases h with
  | lst h1 h2 =>
    cases h' with
    | lst h3 h4 => rfl
theorem ArgsAt.length {K : PySem.W.Frag} {I H : Hp} : ∀ {vs : List V} {ps : List P} {A : List (List Addr)}, ArgsAt K I H vs ps A → vs.length = ps.length
  | _, _, _, .nil => rfl
  | _, _, _, .v _ t => by rw [List.length_cons, List.length_cons, t.length]
  | _, _, _, .io _ _ _ t => by rw [List.length_cons, List.length_cons, t.length]

/-! ### a def's start -/
def toS : Nat → List P → List S
  | _, [] => []
  | n, .v d :: ps => .v d :: toS n ps
  | n, .io o :: ps => .own (some n) o :: toS (n + 1) ps
theorem toS_length : ∀ (n : Nat) (ps : List P), (toS n ps).length = ps.length
  | _, [] => rfl
  | n, .v d :: ps => by unfold toS; rw [List.length_cons, List.length_cons, toS_length n ps]
  | n, .io o :: ps => by unfold toS; rw [List.length_cons, List.length_cons, toS_length (n + 1) ps]
theorem toS_ge : ∀ (ps : List P) (n i : Nat) (k : Option Nat) (o : O), (toS n ps)[i]? = some (S.own k o) → ∃ m, k = some m ∧ n ≤ m
  | [], _, i, k, o, h => by simp [toS] at h
  | .v d :: ps, n, 0, k, o, h => by simp [toS] at h
  | .v d :: ps, n, i + 1, k, o, h => toS_ge ps n i k o (by simpa [toS] using h)
  | .io o' :: ps, n, 0, k, o, h => by
    simp [toS] at h
    exact ⟨n, h.1.symm, Nat.le_refl n⟩
  | .io o' :: ps, n, i + 1, k, o, h => by
    obtain ⟨m, h1, h2⟩ := toS_ge ps (n + 1) i k o (by simpa [toS] using h)
    exact ⟨m, h1, by omega⟩
theorem toS_inj : ∀ (ps : List P) (n i j : Nat) (k : Option Nat) (o o' : O), (toS n ps)[i]? = some (S.own k o) → (toS n ps)[j]? = some (S.own k o') → i = j
  | [], _, i, _, k, o, _, h, _ => by simp [toS] at h
  | .v d :: ps, n, 0, _, k, o, _, h, _ => by simp [toS] at h
  | .v d :: ps, n, i + 1, 0, k, o, _, _, h => by simp [toS] at h
  | .v d :: ps, n, i + 1, j + 1, k, o, o', h, h' => by rw [toS_inj ps n i j k o o' (by simpa [toS] using h) (by simpa [toS] using h')]
  | .io q :: ps, n, 0, 0, k, o, o', h, h' => rfl
  | .io q :: ps, n, 0, j + 1, k, o, o', h, h' => by
    simp [toS] at h
    obtain ⟨m, h1, h2⟩ := toS_ge ps (n + 1) j k o' (by simpa [toS] using h')
    rw [← h.1] at h1
    cases h1
    omega
  | .io q :: ps, n, i + 1, 0, k, o, o', h, h' => by
    simp [toS] at h'
    obtain ⟨m, h1, h2⟩ := toS_ge ps (n + 1) i k o (by simpa [toS] using h)
    rw [← h'.1] at h1
    cases h1
    omega
  | .io q :: ps, n, i + 1, j + 1, k, o, o', h, h' => by rw [toS_inj ps (n + 1) i j k o o' (by simpa [toS] using h) (by simpa [toS] using h')]
section
variable {K : PySem.W.Frag} {I H : Hp}
theorem args_v : ∀ {vs : List V} {ps : List P} {A : List (List Addr)} (n i : Nat) (d : D), ArgsAt K I H vs ps A → (toS n ps)[i]? = some (S.v d) → ∃ v, vs[i]? = some v ∧ Rp K I v d
  | _, _, _, n, i, d, .nil, h => by simp [toS] at h
  | _, _, _, n, 0, d, .v r t, h => by simp [toS] at h; subst h; exact ⟨_, rfl, r⟩
  | _, _, _, n, i + 1, d, .v r t, h => by
    obtain ⟨v, h1, h2⟩ := args_v n i d t (by simpa [toS] using h)
    exact ⟨v, by simpa using h1, h2⟩
  | _, _, _, n, 0, d, .io _ _ _ t, h => by simp [toS] at h
  | _, _, _, n, i + 1, d, .io _ _ _ t, h => by
    obtain ⟨v, h1, h2⟩ := args_v (n + 1) i d t (by simpa [toS] using h)
    exact ⟨v, by simpa using h1, h2⟩
theorem args_o : ∀ {vs : List V} {ps : List P} {A : List (List Addr)} (n i : Nat) (k : Option Nat) (o : O), ArgsAt K I H vs ps A → (toS n ps)[i]? = some (S.own k o) → ∃ m v φ, k = some (n + m) ∧ A[m]? = some φ ∧ vs[i]? = some v ∧ OwnAt K I H v o φ ∧ ∀ a ∈ φ, I a = none
  | _, _, _, n, i, k, o, .nil, h => by simp [toS] at h
  | _, _, _, n, 0, k, o, .v r t, h => by simp [toS] at h
  | _, _, _, n, i + 1, k, o, .v r t, h => by
    obtain ⟨m, v, φ, h1, h2, h3, h4⟩ := args_o n i k o t (by simpa [toS] using h)
    exact ⟨m, v, φ, h1, h2, by simpa using h3, h4⟩
  | _, _, _, n, 0, k, o, .io a b c t, h => by
    simp [toS] at h
    obtain ⟨h1, h2⟩ := h
    subst h2
    exact ⟨0, _, _, h1.symm, rfl, rfl, a, b⟩
  | _, _, _, n, i + 1, k, o, .io _ _ _ t, h => by
    obtain ⟨m, v, φ, h1, h2, h3, h4⟩ := args_o (n + 1) i k o t (by simpa [toS] using h)
    exact ⟨m + 1, v, φ, by rw [h1]; congr 1; omega, by simpa using h2, by simpa using h3, h4⟩
theorem args_d : ∀ {vs : List V} {ps : List P} {A : List (List Addr)} (m m' : Nat) (φ ψ : List Addr), ArgsAt K I H vs ps A → m ≠ m' → A[m]? = some φ → A[m']? = some ψ → ∀ a ∈ φ, a ∉ ψ
  | _, _, _, m, m', φ, ψ, .nil, _, h, _ => by simp at h
  | _, _, _, m, m', φ, ψ, .v r t, hn, h, h' => args_d m m' φ ψ t hn h h'
  | _, _, _, 0, 0, φ, ψ, .io _ _ c t, hn, h, h' => absurd rfl hn
  | _, _, _, 0, m' + 1, φ, ψ, .io _ _ c t, hn, h, h' => by
    simp at h h'
    subst h
    exact fun a ha => c ψ (List.mem_of_getElem? h') a ha
  | _, _, _, m + 1, 0, φ, ψ, .io _ _ c t, hn, h, h' => by
    simp at h h'
    subst h'
    exact fun a ha hb => c φ (List.mem_of_getElem? h) a hb ha
  | _, _, _, m + 1, m' + 1, φ, ψ, .io _ _ c t, hn, h, h' => args_d m m' φ ψ t (fun z => hn (by rw [z])) (by simpa using h) (by simpa using h')
theorem ev_start {vs : List V} {ps : List P} {A : List (List Addr)} {N : List Str} {n : Nat} (s : Same I H) (h : ArgsAt K I H vs ps A) (hn : N.length - vs.length = n) : Ev K ⟨I, H, A, fun _ => none⟩ I H (start N vs) (toS 0 ps ++ List.replicate n .no) := by
  have hl := h.length
  have look : ∀ (i : Nat) (x : S), (toS 0 ps ++ List.replicate n S.no)[i]? = some x → x ≠ .no → (toS 0 ps)[i]? = some x ∧ i < vs.length := fun i x q hx => by
    by_cases hi : i < (toS 0 ps).length
    · rw [List.getElem?_append_left hi] at q
      exact ⟨q, by rw [hl, ← toS_length 0 ps]; exact hi⟩
    · rw [List.getElem?_append_right (Nat.le_of_not_lt hi), List.getElem?_replicate] at q
      split at q
      · cases q; exact absurd rfl hx
      · cases q
  have slot : ∀ (i : Nat) (v : V), vs[i]? = some v → (start N vs)[i]? = some (some v) := fun i v q => by
    unfold L2.start
    have hi := (List.getElem?_eq_some_iff.mp q).1
    rw [List.getElem?_append_left (by rw [List.length_map]; exact hi), List.getElem?_map, q]
    rfl
  refine ⟨s, Same.refl I, fun b o h _ => h, fun b o h => .inl h, fun b o h => ⟨o, h⟩, fun b o h => (by cases h), fun b o h => (by cases h), ?_, fun i d q => ?_, ?_⟩
  · unfold L2.start
    rw [List.length_append, List.length_append, List.length_map, List.length_replicate, List.length_replicate, toS_length, hl, ← hn, hl]
  · obtain ⟨q, hi⟩ := look i _ q (by intro z; cases z)
    obtain ⟨v, h1, h2⟩ := args_v 0 i d h q
    exact ⟨v, slot i v h1, h2⟩
  · refine ⟨fun i => match (toS 0 ps)[i]? with | some (S.own (some m) _) => A.getD m [] | _ => [], fun i k o q => ?_, fun i j k k' o o' hij q q' a ha hb => ?_⟩
    · obtain ⟨q, hi⟩ := look i _ q (by intro z; cases z)
      obtain ⟨m, v, φ, h1, h2, h3, h4, h5⟩ := args_o 0 i k o h q
      rw [Nat.zero_add] at h1
      subst h1
      have e : (match (toS 0 ps)[i]? with | some (S.own (some m) _) => A.getD m [] | _ => []) = φ := by
        rw [q]
        show A.getD m [] = φ
        rw [List.getD_eq_getElem?_getD, h2]
        rfl
      refine ⟨v, slot i v h3, ?_⟩
      dsimp only
      rw [e]
      exact ⟨h4, h5, h2, fun _ _ => rfl⟩
    · obtain ⟨q, hi⟩ := look i _ q (by intro z; cases z)
      obtain ⟨q', hj⟩ := look j _ q' (by intro z; cases z)
      obtain ⟨m, v, φ, h1, h2, h3, h4, h5⟩ := args_o 0 i k o h q
      obtain ⟨m', v', φ', h1', h2', h3', h4', h5'⟩ := args_o 0 j k' o' h q'
      rw [Nat.zero_add] at h1 h1'
      subst h1 h1'
      dsimp only at ha hb
      rw [q] at ha
      rw [q'] at hb
      have ha : a ∈ A.getD m [] := ha
      have hb : a ∈ A.getD m' [] := hb
      rw [List.getD_eq_getElem?_getD, h2] at ha
      rw [List.getD_eq_getElem?_getD, h2'] at hb
      by_cases hm : m = m'
      · subst hm
        exact hij (toS_inj ps 0 i j _ o o' q q')
      · exact args_d m m' φ φ' h hm h2 h2' a ha hb
end

/-! ### a def's end -/
/-- what was handed in is as os tells -/
def Fin (ρ : List S) : Nat → Nat → List P → List O → Prop
  | _, _, [], os => os = []
  | i, n, .v _ :: ps, os => Fin ρ (i + 1) n ps os
  | i, n, .io _ :: ps, os => ∃ o' r, os = o' :: r ∧ ρ[i]? = some (.own (some n) o') ∧ Fin ρ (i + 1) (n + 1) ps r
theorem back_of {K : PySem.W.Frag} {w : Wd} {I H I' H' : Hp} {σ : L2.St} {ρ : List S} (e : Ev K w I' H' σ ρ) : ∀ {vs : List V} {ps : List P} {A : List (List Addr)} (i n : Nat) (os : List O), ArgsAt K I H vs ps A → (∀ m φ, A[m]? = some φ → w.A[n + m]? = some φ) → Fin ρ i n ps os → Back K I' H' vs ps os A
  | _, _, _, i, n, os, .nil, _, f => by
    have f : os = [] := f
    subst f
    exact .nil
  | _, _, _, i, n, os, .v r t, hA, f => .v (back_of e (i + 1) n os t hA f)
  | _, _, _, i, n, os, .io (v := v) (φ := φ) a b c t, hA, f => by
    obtain ⟨o', r, rfl, f1, f2⟩ := f
    have rec_ := back_of e (i + 1) (n + 1) r t (fun m ψ q => by
      rw [Nat.add_assoc, Nat.add_comm 1 m]
      exact hA (m + 1) ψ (by simpa using q)) f2
    obtain ⟨ψ, h1, _⟩ := e.owns
    obtain ⟨u, hu, s⟩ := h1 i _ _ f1
    have q : w.A[n]? = some (ψ i) := s.io
    have q2 := hA 0 φ rfl
    rw [Nat.add_zero, q] at q2
    have q3 : ψ i = φ := Option.some.inj q2
    have s1 := s.at_
    have s2 := s.out
    rw [q3] at s1 s2
    have z : v = u := a.inj s1
    subst z
    exact .io s1 s2 rec_
/-- how a body's end tells the answer -/
inductive Tells (ps : List P) (os : List O) : Oc → Res → Prop
  | ret {d : D} {ρ : List S} : Fin ρ 0 0 ps os → Tells ps os (.ret d ρ) (.ret d)
  | non {ρ : List S} : Fin ρ 0 0 ps os → Tells ps os (.next ρ) (.ret .non)
  | own {o : O} {ρ : List S} : Fin ρ 0 0 ps os → Tells ps os (.rown o ρ) (.own o)
  | exc {C : Addr} {ρ : List S} : Fin ρ 0 0 ps os → Tells ps os (.exc C ρ) (.exc C)
theorem Ev.step {K : PySem.W.Frag} {w : Wd} {I H : Hp} {σ : L2.St} {ρ : List S} (e : Ev K w I H σ ρ) : Step w.I0 w.H0 w.A I H := ⟨e.old, e.sub, e.frm, e.new, e.trk⟩
section
variable {Pr : Program} {wo : World} {K : PySem.W.Frag} {mg : Str → Option Value} {base : Heap}
/-- THE RULE for a def -/
theorem fnC {x qual : Str} {st : Stmt} {f : Addr} {fd : FuncData} {N ps : List Str} {k n : Nat} {fc : Con} (F : Fun K x qual st f fd) (Sc : FnScope N ps (defScope st)) (hl : ∀ qs r os, fc qs r os → qs.length = ps.length) (hn : N.length - ps.length = n)
    (hb : ∀ (X : Cx) (W : WX), Cz X W k → X.K = K → X.mg = mg → X.prog = Pr → X.w = wo → X.base = base → X.N = N → X.env.scope = defScope st → ∀ qs r os, fc qs r os → ∃ o, DSs X W (defBody st) (toS 0 qs ++ List.replicate n .no) o ∧ Tells qs os o r) :
    FnOk Pr wo K mg base (L2.CX Pr wo) (k + 1) f fd ps (spC K fc) := by
  refine F.okX Sc (fun vs H Q E h => ?_) (fun cdv A outer s H vs Q E hr h => ?_)
  · obtain ⟨I, qs, A, r, os, h1, h2, h3, _⟩ := h
    rw [h2.length]
    exact hl _ _ _ h3
  · obtain ⟨I, qs, B, r, os, h1, h2, h3, h4⟩ := h
    have hlen : vs.length = ps.length := by rw [h2.length]; exact hl _ _ _ h3
    have ev := ev_start (N := N) (n := n) h1 h2 (by rw [hlen]; exact hn)
    refine ⟨_, pss_wp, ?_⟩
    have cz : Cz (cxOf (L2.CX Pr wo) Pr wo K mg base N qual (defScope st) f cdv A outer s H E) (fun cls d _ H => E cls d H) k := ⟨rfl, Sc.nd, takes_of rfl rfl rfl rfl, passes_of rfl, hr⟩
    obtain ⟨o, h5, h6⟩ := hb _ _ cz rfl rfl rfl rfl rfl rfl rfl qs r os h3
    have fin : ∀ {σ' : L2.St} {ρ' : List S} {I' H' : Hp}, Ev K ⟨I, H, B, fun _ => none⟩ I' H' σ' ρ' → Fin ρ' 0 0 qs os → Done K H I' H' Q E r := fun e' f' => h4 _ _ e'.step (back_of e' 0 0 os h2 (fun m φ q => by rw [Nat.zero_add]; exact q) f')
    refine h5 _ _ I H _ ev ?_
    cases h6 with
    | ret f' => exact fun v σ' I' H' _ e' rv => fin e' f' v rv
    | non f' => exact fun σ' I' H' _ e' => fin e' f' .non .non
    | own f' =>
      intro v σ' I' H' _ e'
      have dn := fin e'.pop f'
      obtain ⟨φ, g1, _⟩ := e'.owns
      obtain ⟨u, hu, s⟩ := g1 _ _ _ get_app_r
      have el := e'.pop.len
      rw [← el, get_app_r] at hu
      cases hu
      exact dn v _ s.at_ fun a ha => ⟨s.out a ha, s.io a ha⟩
    | exc f' => exact fun σ' I' H' _ e' => fin e' f'
end

/-! ### the caller's side -/
inductive Ag where
  | v (d : D) | io (i : Nat)
inductive AgAt (K : PySem.W.Frag) (I : Hp) (σ : L2.St) : List V → List Ag → Prop
  | nil : AgAt K I σ [] []
  | v {v : V} {d : D} {vs : List V} {as : List Ag} : Rp K I v d → AgAt K I σ vs as → AgAt K I σ (v :: vs) (.v d :: as)
  | io {v : V} {i : Nat} {vs : List V} {as : List Ag} : σ[i]? = some (some v) → AgAt K I σ vs as → AgAt K I σ (v :: vs) (.io i :: as)
def DG (X : Cx) (W : WX) (es : List Expr) (ρ : List S) (as : List Ag) (ρ' : List S) : Prop :=
  ∀ (w : Wd) (σ : L2.St) (I H : Hp) (Q : List V → Hp → Prop), Ev X.K w I H σ ρ → (∀ vs I' H', Same I I' → Ev X.K w I' H' σ ρ' → AgAt X.K I' σ vs as → Q vs H') → wpA X es σ H Q
def iosOf : List Ag → List Nat
  | [] => []
  | .v _ :: r => iosOf r
  | .io i :: r => i :: iosOf r
/-- what is handed to the def -/
inductive Pas (ρ : List S) : List Ag → List P → Prop
  | nil : Pas ρ [] []
  | v {d : D} {as : List Ag} {ps : List P} : Pas ρ as ps → Pas ρ (.v d :: as) (.v d :: ps)
  | io {i : Nat} {k : Option Nat} {o : O} {as : List Ag} {ps : List P} : ρ[i]? = some (.own k o) → Pas ρ as ps → Pas ρ (.io i :: as) (.io o :: ps)
def ownSet (o : O) : S → S
  | .own k _ => .own k o
  | s => s
def setO (o : O) : Nat → List S → List S
  | _, [] => []
  | 0, s :: r => ownSet o s :: r
  | n + 1, s :: r => s :: setO o n r
def putS : List Nat → List O → List S → List S
  | i :: is, o :: os, ρ => putS is os (setO o i ρ)
  | _, _, ρ => ρ
theorem setO_get (o : O) : ∀ (i j : Nat) (ρ : List S), (setO o i ρ)[j]? = if i = j then ρ[j]?.map (ownSet o) else ρ[j]?
  | i, j, [] => by cases i <;> simp [setO]
  | 0, 0, s :: r => by simp [setO]
  | 0, j + 1, s :: r => by simp [setO]
  | n + 1, 0, s :: r => by simp [setO]
  | n + 1, j + 1, s :: r => by
    have := setO_get o n j r
    simp only [setO, List.getElem?_cons_succ, this, Nat.add_right_cancel_iff]
theorem setO_len (o : O) : ∀ (i : Nat) (ρ : List S), (setO o i ρ).length = ρ.length
  | i, [] => by cases i <;> rfl
  | 0, s :: r => rfl
  | n + 1, s :: r => by simp only [setO, List.length_cons, setO_len o n r]
theorem putS_len : ∀ (is : List Nat) (os : List O) (ρ : List S), (putS is os ρ).length = ρ.length
  | [], _, ρ => by simp [putS]
  | i :: is, [], ρ => by simp [putS]
  | i :: is, o :: os, ρ => by rw [putS, putS_len is os, setO_len]
theorem putS_v : ∀ (is : List Nat) (os : List O) (ρ : List S) (j : Nat) (d : D), (putS is os ρ)[j]? = some (S.v d) → ρ[j]? = some (S.v d)
  | [], _, ρ, j, d, h => by simpa [putS] using h
  | i :: is, [], ρ, j, d, h => by simpa [putS] using h
  | i :: is, o :: os, ρ, j, d, h => by
    rw [putS] at h
    have h2 := putS_v is os _ j d h
    rw [setO_get] at h2
    split at h2
    · cases q : ρ[j]? with
      | none => rw [q] at h2; cases h2
      | some s =>
        rw [q] at h2
        cases s with
        | no => cases h2
        | v d' => exact h2
        | own k o' => cases h2
    · exact h2
theorem putS_o : ∀ (is : List Nat) (os : List O) (ρ : List S) (j : Nat) (k : Option Nat) (o : O), is.Nodup → (putS is os ρ)[j]? = some (S.own k o) →
    (∃ o1, ρ[j]? = some (S.own k o1)) ∧ ((j ∉ is ∧ ρ[j]? = some (S.own k o)) ∨ (∃ n : Nat, is[n]? = some j ∧ (os[n]? = some o ∨ (os[n]? = none ∧ ρ[j]? = some (S.own k o)))))
  | [], _, ρ, j, k, o, _, h => by
    have h : ρ[j]? = some (S.own k o) := by simpa [putS] using h
    exact ⟨⟨o, h⟩, .inl ⟨by simp, h⟩⟩
  | i :: is, [], ρ, j, k, o, _, h => by
    have h : ρ[j]? = some (S.own k o) := by simpa [putS] using h
    refine ⟨⟨o, h⟩, ?_⟩
    by_cases hj : j ∈ i :: is
    · obtain ⟨n, hn⟩ := List.mem_iff_getElem?.mp hj
      exact .inr ⟨n, hn, .inr ⟨by simp, h⟩⟩
    · exact .inl ⟨hj, h⟩
  | i :: is, p :: os, ρ, j, k, o, nd, h => by
    rw [putS] at h
    rw [List.nodup_cons] at nd
    obtain ⟨⟨o1, h1⟩, h2⟩ := putS_o is os _ j k o nd.2 h
    rw [setO_get] at h1
    by_cases hij : i = j
    · subst hij
      rw [if_pos rfl] at h1
      have back : ∀ o2, (ρ[i]?.map (ownSet p)) = some (S.own k o2) → o2 = p ∧ ∃ o3, ρ[i]? = some (S.own k o3) := fun o2 q => by
        cases q1 : ρ[i]? with
        | none => rw [q1] at q; cases q
        | some s =>
          rw [q1] at q
          cases s with
          | no => cases q
          | v d' => cases q
          | own k' o' =>
            cases q
            exact ⟨rfl, o', rfl⟩
      refine ⟨(back o1 h1).2, .inr ⟨0, rfl, .inl ?_⟩⟩
      rcases h2 with ⟨_, h2⟩ | ⟨n, hn, _⟩
      · rw [setO_get, if_pos rfl] at h2
        rw [(back o h2).1]
        rfl
      · exact absurd (List.mem_of_getElem? hn) nd.1
    · rw [if_neg hij] at h1
      refine ⟨⟨o1, h1⟩, ?_⟩
      rcases h2 with ⟨hj, h2⟩ | ⟨n, hn, h2⟩
      · rw [setO_get, if_neg hij] at h2
        exact .inl ⟨fun z => (List.mem_cons.mp z).elim (fun z => hij z.symm) hj, h2⟩
      · rw [setO_get, if_neg hij] at h2
        exact .inr ⟨n + 1, hn, h2⟩
section
variable {K : PySem.W.Frag} {w : Wd} {I H I' H' : Hp} {σ : L2.St} {ρ : List S}
theorem args_at {φ : Nat → List Addr} (h1 : ∀ (i : Nat) (k : Option Nat) (o : O), ρ[i]? = some (S.own k o) → ∃ v, σ[i]? = some (some v) ∧ SlotOk K w I H v k o (φ i))
    (h2 : ∀ (i j : Nat) (k k' : Option Nat) (o o' : O), i ≠ j → ρ[i]? = some (S.own k o) → ρ[j]? = some (S.own k' o') → ∀ a ∈ φ i, a ∉ φ j) :
    ∀ {vs : List V} {as : List Ag} {ps : List P}, AgAt K I σ vs as → Pas ρ as ps → (iosOf as).Nodup → ArgsAt K I H vs ps ((iosOf as).map φ) ∧ ∀ i ∈ iosOf as, ∃ k o, ρ[i]? = some (S.own k o)
  | _, _, _, .nil, .nil, _ => ⟨.nil, fun i hi => by cases hi⟩
  | _, _, _, .v r t, .v q, nd => ⟨.v r (args_at h1 h2 t q nd).1, (args_at h1 h2 t q nd).2⟩
  | _, _, _, .io (i := i) e t, .io (k := k) (o := o) q1 q, nd => by
    have nd' : i ∉ iosOf _ ∧ (iosOf _).Nodup := List.nodup_cons.mp nd
    obtain ⟨h3, h4⟩ := args_at h1 h2 t q nd'.2
    obtain ⟨u, hu, s⟩ := h1 i k o q1
    rw [e] at hu
    cases hu
    refine ⟨.io s.at_ s.out (fun l hl a ha hb => ?_) h3, fun j hj => ?_⟩
    · obtain ⟨j, hj, rfl⟩ := List.mem_map.mp hl
      obtain ⟨k', o', qj⟩ := h4 j hj
      exact h2 i j k k' o o' (fun z => nd'.1 (z ▸ hj)) q1 qj a ha hb
    · rcases List.mem_cons.mp hj with rfl | hj
      · exact ⟨k, o, q1⟩
      · exact h4 j hj
theorem back_at {φ : Nat → List Addr} : ∀ {vs : List V} {as : List Ag} {ps : List P} {os : List O} {A : List (List Addr)}, AgAt K I σ vs as → Pas ρ as ps → A = (iosOf as).map φ → Back K I' H' vs ps os A →
    os.length = (iosOf as).length ∧ ∀ (n i : Nat) (o : O), (iosOf as)[n]? = some i → os[n]? = some o → ∃ v, σ[i]? = some (some v) ∧ OwnAt K I' H' v o (φ i) ∧ ∀ a ∈ φ i, I' a = none
  | _, _, _, _, _, .nil, .nil, _, .nil => ⟨rfl, fun n i o h => by simp [iosOf] at h⟩
  | _, _, _, _, _, .v (as := as) r t, .v q, hA, .v b => by
    have hA' : _ = (iosOf as).map φ := hA
    have z := back_at t q hA' b
    exact z
  | _, _, _, _, _, .io (i := i) e t, .io q1 q, hA, .io b1 b2 b => by
    have hA := hA
    rw [iosOf, List.map_cons] at hA
    injection hA with hA1 hA2
    obtain ⟨h1, h2⟩ := back_at t q hA2 b
    refine ⟨by rw [iosOf, List.length_cons, List.length_cons, h1], fun n j o hn ho => ?_⟩
    cases n with
    | zero =>
      simp [iosOf] at hn ho
      subst hn ho hA1
      exact ⟨_, e, b1, b2⟩
    | succ n => exact h2 n j o (by simpa [iosOf] using hn) (by simpa using ho)
/-- behind a call -/
theorem Ev.after {as : List Ag} {vs : List V} {ps : List P} {os : List O} {φ : Nat → List Addr} (e : Ev K w I H σ ρ)
    (h1 : ∀ (i : Nat) (k : Option Nat) (o : O), ρ[i]? = some (S.own k o) → ∃ v, σ[i]? = some (some v) ∧ SlotOk K w I H v k o (φ i))
    (h2 : ∀ (i j : Nat) (k k' : Option Nat) (o o' : O), i ≠ j → ρ[i]? = some (S.own k o) → ρ[j]? = some (S.own k' o') → ∀ a ∈ φ i, a ∉ φ j)
    (ha : AgAt K I σ vs as) (hp : Pas ρ as ps) (nd : (iosOf as).Nodup) (st : Step I H ((iosOf as).map φ) I' H') (bk : Back K I' H' vs ps os ((iosOf as).map φ)) : Ev K w I' H' σ (putS (iosOf as) os ρ) ∧
    (∀ (i : Nat) (k : Option Nat) (o : O), (putS (iosOf as) os ρ)[i]? = some (S.own k o) → ∃ v, σ[i]? = some (some v) ∧ SlotOk K w I' H' v k o (φ i)) ∧
    ∀ (i j : Nat) (k k' : Option Nat) (o o' : O), i ≠ j → (putS (iosOf as) os ρ)[i]? = some (S.own k o) → (putS (iosOf as) os ρ)[j]? = some (S.own k' o') → ∀ a ∈ φ i, a ∉ φ j := by
  have hio := (args_at h1 h2 ha hp nd).2
  obtain ⟨bl, bo⟩ := back_at ha hp rfl bk
  have inA : ∀ b o, w.H0 b = some o → (∀ l ∈ w.A, b ∉ l) → ∀ l ∈ (iosOf as).map φ, b ∉ l := fun b o hb hl l hm hin => by
    obtain ⟨i, hi, rfl⟩ := List.mem_map.mp hm
    obtain ⟨k, o', q⟩ := hio i hi
    obtain ⟨v, _, s⟩ := h1 i k o' q
    have s3 := s.io
    cases k with
    | none =>
      have := s3 b hin
      rw [hb] at this
      cases this
    | some k => exact hl _ (List.mem_of_getElem? s3) hin
  have g1 : ∀ (i : Nat) (k : Option Nat) (o : O), (putS (iosOf as) os ρ)[i]? = some (S.own k o) → ∃ v, σ[i]? = some (some v) ∧ SlotOk K w I' H' v k o (φ i) := fun j k o q => by
    obtain ⟨⟨o1, q1⟩, q2⟩ := putS_o _ _ _ j k o nd q
    obtain ⟨v, hv, s⟩ := h1 j k o1 q1
    rcases q2 with ⟨hj, q3⟩ | ⟨n, hn, q3⟩
    · obtain ⟨v, hv, s⟩ := h1 j k o q3
      refine ⟨v, hv, s.at_.mono st.s1 fun a ha u hu => st.frm a u hu fun l hl hb => ?_, fun a ha => ?_, s.io, s.np⟩
      · obtain ⟨i, hi, rfl⟩ := List.mem_map.mp hl
        obtain ⟨k', o', qi⟩ := hio i hi
        exact h2 j i _ _ _ _ (fun z => hj (z ▸ hi)) q1 qi a ha hb
      · cases z : I' a with
        | none => rfl
        | some x =>
          obtain ⟨u, hu⟩ := s.at_.there a ha
          rcases st.new a x z with y | y
          · rw [s.out a ha] at y; cases y
          · rw [hu] at y; cases y
    · rcases q3 with q3 | ⟨q3, _⟩
      · obtain ⟨u, hu, g1, g2⟩ := bo n j o hn q3
        exact ⟨u, hu, g1, g2, s.io, s.np⟩
      · have := (List.getElem?_eq_some_iff.mp hn).1
        have := List.getElem?_eq_none_iff.mp q3
        omega
  have g2 : ∀ (i j : Nat) (k k' : Option Nat) (o o' : O), i ≠ j → (putS (iosOf as) os ρ)[i]? = some (S.own k o) → (putS (iosOf as) os ρ)[j]? = some (S.own k' o') → ∀ a ∈ φ i, a ∉ φ j := fun i j k k' o o' hij q q' => by
    obtain ⟨⟨o1, q1⟩, _⟩ := putS_o _ _ _ i k o nd q
    obtain ⟨⟨o2, q2⟩, _⟩ := putS_o _ _ _ j k' o' nd q'
    exact h2 i j _ _ _ _ hij q1 q2
  refine ⟨⟨st.s2, e.old.trans st.s1, fun b o hb hl => st.frm b o (e.frm b o hb hl) (inA b o hb hl), fun b o hb => ?_, fun b o hb => ?_, fun b o hb => st.frm b o (e.prt b o hb) (fun l hm hin => ?_), fun b o hb => ?_, by rw [putS_len]; exact e.len, fun j d q => ?_, φ, g1, g2⟩, g1, g2⟩
  · rcases st.new b o hb with z | z
    · exact e.new b o z
    · exact .inr (e.fresh z).1
  · obtain ⟨u, hu⟩ := e.trk b o hb
    exact st.trk b u hu
  · obtain ⟨i, hi, rfl⟩ := List.mem_map.mp hm
    obtain ⟨k, o', q⟩ := hio i hi
    obtain ⟨v, _, s⟩ := h1 i k o' q
    rw [s.np b hin] at hb
    cases hb
  · cases q : I' b with
    | none => rfl
    | some x =>
      rcases st.new b x q with z | z
      · rw [e.pI b o hb] at z; cases z
      · rw [e.prt b o hb] at z; cases z
  · obtain ⟨v, h3, h4⟩ := e.vals j d (putS_v _ _ _ j d q)
    exact ⟨v, h3, h4.up st.s1⟩
end
def Res.ov (ρ : List S) : Res → Ov
  | .ret d => .val d ρ
  | .own o => .own o ρ
  | .exc C => .exc C ρ
/-- a new owned thing as one slot more -/
theorem Ev.gain {K : PySem.W.Frag} {w : Wd} {I H : Hp} {σ : L2.St} {ρ : List S} {v : V} {o : O} {φ : List Addr} {ψ : Nat → List Addr} (e : Ev K w I H σ ρ) (h : OwnAt K I H v o φ) (h1 : ∀ a ∈ φ, I a = none) (h2 : ∀ a ∈ φ, w.H0 a = none) (h4 : ∀ a ∈ φ, w.Pt a = none)
    (g1 : ∀ (i : Nat) (k : Option Nat) (o : O), ρ[i]? = some (S.own k o) → ∃ v, σ[i]? = some (some v) ∧ SlotOk K w I H v k o (ψ i))
    (g2 : ∀ (i j : Nat) (k k' : Option Nat) (o o' : O), i ≠ j → ρ[i]? = some (S.own k o) → ρ[j]? = some (S.own k' o') → ∀ a ∈ ψ i, a ∉ ψ j)
    (h3 : ∀ (i : Nat) (k : Option Nat) (o : O), ρ[i]? = some (S.own k o) → ∀ a ∈ φ, a ∉ ψ i) : Ev K w I H (σ ++ [some v]) (ρ ++ [.own none o]) := by
  refine ⟨e.sub, e.old, e.frm, e.new, e.trk, e.prt, e.pI, by rw [List.length_append, List.length_append, e.len]; rfl, fun i d q => ?_, ?_⟩
  · rcases get_app q with ⟨q, hi⟩ | ⟨_, q⟩
    · obtain ⟨v, h1, h2⟩ := e.vals i d q
      exact ⟨v, by rw [get_app_l (by rw [e.len]; exact hi)]; exact h1, h2⟩
    · cases q
  · refine ⟨fun i => if i = ρ.length then φ else ψ i, fun i k o q => ?_, fun i j k k' o1 o2 hij q q' a ha hb => ?_⟩
    · rcases get_app q with ⟨q, hi⟩ | ⟨hi, q⟩
      · obtain ⟨v, hv, s⟩ := g1 i k o q
        refine ⟨v, by rw [get_app_l (by rw [e.len]; exact hi)]; exact hv, ?_⟩
        dsimp only
        rw [if_neg (Nat.ne_of_lt hi)]
        exact s
      · cases q
        subst hi
        refine ⟨v, by rw [← e.len]; exact get_app_r, ?_⟩
        dsimp only
        rw [if_pos rfl]
        exact ⟨h, h1, h2, h4⟩
    · dsimp only at ha hb
      rcases get_app q with ⟨q, hi⟩ | ⟨hi, _⟩
      · rw [if_neg (Nat.ne_of_lt hi)] at ha
        rcases get_app q' with ⟨q', hj⟩ | ⟨hj, _⟩
        · rw [if_neg (Nat.ne_of_lt hj)] at hb
          exact g2 i j k k' o1 o2 hij q q' a ha hb
        · rw [if_pos hj] at hb
          exact h3 i k o1 q a hb ha
      · rw [if_pos hi] at ha
        rcases get_app q' with ⟨q', hj⟩ | ⟨hj, _⟩
        · rw [if_neg (Nat.ne_of_lt hj)] at hb
          exact h3 j k' o2 q' a ha hb
        · exact hij (hi.trans hj.symm)
section
variable {X : Cx} {W : WX} {ρ ρ1 ρ2 : List S} {e : Expr} {es : List Expr} {d : D} {as : List Ag} {k : Nat}
theorem dg_nil : DG X W [] ρ [] ρ := fun w σ I H Q ev p => wpA_of pa_nil (p [] I H (Same.refl I) ev .nil)
theorem AgAt.up {K : PySem.W.Frag} {I I' : Hp} {σ : L2.St} (s : Same I I') : ∀ {vs : List V} {as : List Ag}, AgAt K I σ vs as → AgAt K I' σ vs as
  | _, _, .nil => .nil
  | _, _, .v r t => .v (r.up s) (t.up s)
  | _, _, .io r t => .io r (t.up s)
theorem dg_v (h : DE X W e ρ (.val d ρ1)) (hr : DG X W es ρ1 as ρ2) (hs : starEach (e :: es) X.env = (false, eval e X.env) :: starEach es X.env := by rfl) : DG X W (e :: es) ρ (.v d :: as) ρ2 :=
  fun w σ I H Q ev p => wpA_of (pa_cons pe_wp pa_wp hs) (h w σ I H _ ev fun v I1 H1 s1 e1 r => hr w σ I1 H1 _ e1 fun vs I2 H2 s2 e2 r2 => p _ I2 H2 (s1.trans s2) e2 (.v (r.up s2) r2))
theorem dg_io {i : Nat} {x : Str} {pos : Pos} {kk : Option Nat} {o : O} (hN : X.N[i]? = some x) (hv : Vis X.env.scope x) (h : ρ[i]? = some (.own kk o)) (hr : DG X W es ρ as ρ2) (hs : starEach (.Name x pos :: es) X.env = (false, eval (.Name x pos) X.env) :: starEach es X.env := by rfl)
    (hd : (x == ("__debug__" : Str)) = false := by decide) (hcd : (x == ("__classdict__" : Str)) = false := by decide) : DG X W (.Name x pos :: es) ρ (.io i :: as) ρ2 :=
  fun w σ I H Q ev p => by
    obtain ⟨φ, h1, _⟩ := ev.owns
    obtain ⟨v, hv', _⟩ := h1 i kk o h
    exact wpA_of (pa_cons (pe_var hN hv hd hcd) pa_wp hs) ⟨v, hv', hr w σ I H _ ev fun vs I2 H2 s2 e2 r2 => p _ I2 H2 s2 e2 (.io hv' r2)⟩
/-- THE CALL of a def -/
theorem de_call {f : Addr} {fd : FuncData} {ns : List Str} {fc : Con} {j : Nat} {x : Str} {p pos : Pos} {ps : List P} {os : List O} {r : Res} (c : Cz X W k) (F : FnOk X.prog X.w X.K X.mg X.base (L2.CX X.prog X.w) j f fd ns (spC X.K fc)) (hj : j ≤ k)
    (hg : Gl X x) (hm : X.mg x = some (.ref f)) (hk : PySem.W.keepIn X.K (.ref f) = true) (hb : Binds X.K fd ns []) (ha : DG X W (e :: es) ρ as ρ1) (hp : Pas ρ1 as ps) (hf : fc ps r os) (nd : (iosOf as).Nodup)
    (hdb : (x == ("__debug__" : Str)) = false := by decide) (he : starEach (e :: es) X.env = (false, eval e X.env) :: starEach es X.env := by rfl) (hpl : (backTo pos (starEach es X.env)).any (·.1) = false := by rfl) :
    DE X W (.Call (.Name x p) (e :: es) [] pos) ρ (r.ov (putS (iosOf as) os ρ1)) :=
  fun w σ I H Q ev q => wpE_of (pe_callS F (c.rm.mono hj) hg hm hk hb (fun σ => passAt c.tk σ) pa_wp hdb he hpl) (ha w σ I H _ ev fun vs I1 H1 s1 e1 ag => by
    obtain ⟨φ, h1, h2⟩ := e1.owns
    refine ⟨I1, ps, (iosOf as).map φ, r, os, e1.sub, (args_at h1 h2 ag hp nd).1, hf, fun I2 H2 st bk => ?_⟩
    obtain ⟨e2, g1, g2⟩ := e1.after h1 h2 ag hp nd st bk
    cases r with
    | ret d => exact fun v rv => q v I2 H2 (s1.trans st.s1) e2 rv
    | exc C => exact q I2 H2 (s1.trans st.s1) e2
    | own o =>
      intro v ψ ho hn
      refine q v I2 H2 (s1.trans st.s1) (e2.gain ho (fun a ha => (hn a ha).1) (fun a ha => (e1.fresh (hn a ha).2).1) (fun a ha => e1.freshP (hn a ha).2) g1 g2 fun i kk o' q1 a ha hb => ?_)
      obtain ⟨⟨o1, q3⟩, _⟩ := putS_o _ _ _ i kk o' nd q1
      obtain ⟨u', hu', s'⟩ := h1 i kk o1 q3
      obtain ⟨y, hy⟩ := s'.at_.there a hb
      rw [(hn a ha).2] at hy
      cases hy)
end
end Dt


set_option Elab.async false
set_option linter.all false
set_option maxRecDepth 100000
set_option maxHeartbeats 1000000
namespace Dt
open PySem PySem.Spec PyProof.Rows L2
section
variable {X : Cx} {W : WX} {ρ ρ1 ρ2 ρ3 : List S} {pos : Pos} {a b c e : Expr} {es : List Expr} {d d1 d2 : D} {ds : List D} {st : Stmt} {rest sts sts' : List Stmt} {o o1 : Oc}

/-! ### blocks -/
theorem dss_nil : DSs X W [] ρ (.next ρ) := fun w σ I H Dn ev p => wpSs_of pss_nil (p σ I H (Same.refl I) ev)
theorem dss (h : DS X W st ρ o1) (k : Kt X W rest o o1) : DSs X W (st :: rest) ρ o := fun w σ I H Dn ev p => by
  refine wpSs_of (pss_cons ps_wp pss_wp) (h w σ I H _ ev ?_)
  cases o1 with
  | next ρ' => exact fun σ' I' H' s e' => k w σ' I' H' Dn e' (p.mono s)
  | brk ρ' =>
    have k : o = .brk ρ' := k
    subst k
    exact p
  | cont ρ' =>
    have k : o = .cont ρ' := k
    subst k
    exact p
  | ret d ρ' =>
    have k : o = .ret d ρ' := k
    subst k
    exact p
  | rown d ρ' =>
    have k : o = .rown d ρ' := k
    subst k
    exact p
  | exc C ρ' =>
    have k : o = .exc C ρ' := k
    subst k
    exact p
/-- the last statement -/
theorem dss1 (h : DS X W st ρ o) : DSs X W [st] ρ o := fun w σ I H Dn ev p => wpSs_of (pss_one ps_wp) (h w σ I H Dn ev p)
theorem kt_next (h : DSs X W rest ρ o) : Kt X W rest o (.next ρ) := h

/-! ### small statements -/
theorem ds_expr (h : DE X W e ρ (.val d ρ1)) (hs : swapsWith e none pos.line X.env = pure false := by rfl) : DS X W (.Expr e pos) ρ (.next ρ1) :=
  fun w σ I H Dn ev p => wpS_of (ps_expr pe_wp hs) (h w σ I H _ ev fun v I1 H1 s1 e1 r => p σ I1 H1 s1 e1)
theorem ds_exprX {C : Addr} (h : DE X W e ρ (.exc C ρ1)) (hs : swapsWith e none pos.line X.env = pure false := by rfl) : DS X W (.Expr e pos) ρ (.exc C ρ1) :=
  fun w σ I H Dn ev p => wpS_of (ps_expr pe_wp hs) (h w σ I H _ ev fun I1 H1 s1 e1 => p σ I1 H1 s1 e1)
theorem ds_ret (h : DE X W e ρ (.val d ρ1)) : DS X W (.Return (some e) pos) ρ (.ret d ρ1) :=
  fun w σ I H Dn ev p => wpS_of (ps_ret pe_wp) (h w σ I H _ ev fun v I1 H1 s1 e1 r => p v σ I1 H1 s1 e1 r)
theorem ds_retX {C : Addr} (h : DE X W e ρ (.exc C ρ1)) : DS X W (.Return (some e) pos) ρ (.exc C ρ1) :=
  fun w σ I H Dn ev p => wpS_of (ps_ret pe_wp) (h w σ I H _ ev fun I1 H1 s1 e1 => p σ I1 H1 s1 e1)
theorem ds_retO {q : O} (h : DE X W e ρ (.own q ρ1)) : DS X W (.Return (some e) pos) ρ (.rown q ρ1) :=
  fun w σ I H Dn ev p => wpS_of (ps_ret pe_wp) (h w σ I H _ ev fun v I1 H1 s1 e1 => p v σ I1 H1 s1 e1)
theorem ds_pass : DS X W (.Pass pos) ρ (.next ρ) := fun w σ I H Dn ev p => wpS_of ps_pass (p σ I H (Same.refl I) ev)
theorem ds_break : DS X W (.Break pos) ρ (.brk ρ) := fun w σ I H Dn ev p => wpS_of ps_break (p σ I H (Same.refl I) ev)
section
variable {i : Nat} {x : Str} {pos' : Pos}
theorem ds_set (hN : X.N.Nodup) (hi : X.N[i]? = some x) (hx : Loc X.env.scope x) (h : DE X W e ρ (.val d ρ1)) (hs : swapsWith e (some (.Name x pos')) pos.line X.env = pure false := by rfl) (hf : X.fn x = true ∨ X.env.scope.names.lookup x = some .local := by first | exact .inl rfl | exact .inr rfl | assumption) :
    DS X W (.Assign [.Name x pos'] e pos) ρ (.next (ρ1.set i (.v d))) :=
  fun w σ I H Dn ev p => wpS_of (ps_set hN hi hx pe_wp hs hf) (h w σ I H _ ev fun v I1 H1 s1 e1 r => p _ I1 H1 s1 (e1.setV r))
theorem ds_setO {q : O} (hN : X.N.Nodup) (hi : X.N[i]? = some x) (hx : Loc X.env.scope x) (h : DE X W e ρ (.own q ρ1)) (hs : swapsWith e (some (.Name x pos')) pos.line X.env = pure false := by rfl) (hf : X.fn x = true ∨ X.env.scope.names.lookup x = some .local := by first | exact .inl rfl | exact .inr rfl | assumption) :
    DS X W (.Assign [.Name x pos'] e pos) ρ (.next (ρ1.set i (.own none q))) :=
  fun w σ I H Dn ev p => wpS_of (ps_set hN hi hx pe_wp hs hf) (h w σ I H _ ev fun v I1 H1 s1 e1 => p _ I1 H1 s1 e1.move)
theorem ds_setX {C : Addr} (hN : X.N.Nodup) (hi : X.N[i]? = some x) (hx : Loc X.env.scope x) (h : DE X W e ρ (.exc C ρ1)) (hs : swapsWith e (some (.Name x pos')) pos.line X.env = pure false := by rfl) (hf : X.fn x = true ∨ X.env.scope.names.lookup x = some .local := by first | exact .inl rfl | exact .inr rfl | assumption) :
    DS X W (.Assign [.Name x pos'] e pos) ρ (.exc C ρ1) :=
  fun w σ I H Dn ev p => wpS_of (ps_set hN hi hx pe_wp hs hf) (h w σ I H _ ev fun I1 H1 s1 e1 => p σ I1 H1 s1 e1)
/-- x.append(e), x an owned list -/
theorem ds_append {k : Option Nat} {apos cpos npos : Pos} (hi : X.N[i]? = some x) (hv : Vis X.env.scope x) (h : DE X W e ρ (.val d ρ1)) (hq : ρ1[i]? = some (.own k (.lst ds))) (hq0 : ∃ k0 o0, ρ[i]? = some (S.own k0 o0)) (hl : ds.length < sizeLine)
    (hd : (x == ("__debug__" : Str)) = false := by decide) (hcd : (x == ("__classdict__" : Str)) = false := by decide)
    (hfew : ((backTo cpos (starEach [e] X.env)).all (fun x => !x.1) && (backToKw cpos (keywordEach [] X.env)).all (fun x => x.1.isSome)
      && decide (([e] : List Expr).length + ([] : List Keyword).length + (if ([] : List Keyword).isEmpty then 0 else 1) < 30)) = true := by rfl)
    (hline : (apos.endLine == cpos.line) = true := by rfl) (hs : starEach [e] X.env = (false, eval e X.env) :: starEach [] X.env := by rfl)
    (hsw : swapsWith (.Call (.Attribute (.Name x npos) "append" apos) [e] [] cpos) none pos.line X.env = pure false := by rfl) :
    DS X W (.Expr (.Call (.Attribute (.Name x npos) "append" apos) [e] [] cpos) pos) ρ (.next (ρ1.set i (.own k (.lst (ds ++ [d]))))) :=
  fun w σ I H Dn ev p => wpS_of (ps_expr (pe_bm PySem.F.plainAttrs_list PySem.F.slot_list_append PySem.F.type_list_append mt_append (pe_var hi hv hd hcd) (pa_cons pe_wp pa_nil hs) rfl hfew hline hs rfl) hsw) (by
    obtain ⟨k0, ⟨ds0⟩, hq0⟩ := hq0
    obtain ⟨a, vs, h1, h2, h3, h4, _⟩ := ev.change (es := ds0) hq0
    refine ⟨.ref a, h1, .inl ⟨rfl, vs, .of h2⟩, h w σ I H _ ev fun v I1 H1 s1 e1 r => ?_⟩
    obtain ⟨a', vs', g1, g2, g3, g4, g5⟩ := e1.change (es := ds ++ [d]) hq
    rw [h1] at g1
    cases g1
    exact ⟨a, vs', v, rfl, rfl, g2, by rw [g4.length]; exact hl, p _ I1 _ s1 (g5 _ (g4.append (.one r)))⟩)
end

/-! ### if -/
theorem ds_if {k : Bool} (h : DT X W c ρ k ρ1) (h1 : k = true → DSs X W sts ρ1 o) (h2 : k = false → DSs X W sts' ρ1 o) : DS X W (.If c sts sts' pos) ρ o :=
  fun w σ I H Dn ev p => wpS_of (ps_if pt_wp pss_wp pss_wp) (h w σ I H _ ev fun I1 H1 s1 e1 => by
    cases k with
    | true =>
      rw [if_pos rfl]
      exact h1 rfl w σ I1 H1 Dn e1 (p.mono s1)
    | false =>
      rw [if_neg Bool.false_ne_true]
      exact h2 rfl w σ I1 H1 Dn e1 (p.mono s1))
/-- an if and what follows it -/
theorem dss_if {k : Bool} (h : DT X W c ρ k ρ1) (h1 : k = true → ∃ o1, DSs X W sts ρ1 o1 ∧ Kt X W rest o o1) (h2 : k = false → ∃ o1, DSs X W sts' ρ1 o1 ∧ Kt X W rest o o1) : DSs X W (.If c sts sts' pos :: rest) ρ o := by
  cases k with
  | true =>
    obtain ⟨o1, g1, g2⟩ := h1 rfl
    exact dss (ds_if h (fun _ => g1) (fun z => nomatch z)) g2
  | false =>
    obtain ⟨o1, g1, g2⟩ := h2 rfl
    exact dss (ds_if h (fun z => nomatch z) (fun _ => g1)) g2

/-! ### while -/
/-- a while loop's run -/
inductive WhR (X : Cx) (W : WX) (c : Expr) (body : List Stmt) : Nat → List S → Oc → Prop
  | done {n : Nat} {ρ ρ1 : List S} : DT X W c ρ false ρ1 → WhR X W c body n ρ (.next ρ1)
  | turn {n : Nat} {ρ ρ1 ρ2 : List S} {o : Oc} : DT X W c ρ true ρ1 → DSs X W body ρ1 (.next ρ2) → WhR X W c body n ρ2 o → WhR X W c body (n + 1) ρ o
  | brk {n : Nat} {ρ ρ1 ρ2 : List S} : DT X W c ρ true ρ1 → DSs X W body ρ1 (.brk ρ2) → WhR X W c body n ρ (.next ρ2)
  | ret {n : Nat} {ρ ρ1 ρ2 : List S} {d : D} : DT X W c ρ true ρ1 → DSs X W body ρ1 (.ret d ρ2) → WhR X W c body n ρ (.ret d ρ2)
theorem ds_while {n : Nat} (hp : PassesOwn (model X.prog X.w) X.A X.env X.xe) (h : WhR X W c sts n ρ o) : DS X W (.While c sts [] pos) ρ o := fun w σ I H Dn ev p => by
  refine wpS_of (ps_while hp pt_wp pss_wp) ⟨fun m σ' H' => ∃ I' ρ', Same I I' ∧ Ev X.K w I' H' σ' ρ' ∧ WhR X W c sts m ρ' o, ⟨n, I, ρ, Same.refl I, ev, h⟩, ?_⟩
  rintro m σ1 H1 ⟨I1, ρ1, s1, e1, r1⟩
  cases r1 with
  | done h1 =>
    refine h1 w σ1 I1 H1 _ e1 fun I2 H2 s2 e2 => ?_
    rw [if_neg Bool.false_ne_true]
    exact p σ1 I2 H2 (s1.trans s2) e2
  | @turn n' _ ρa ρb _ h1 h2 h3 =>
    refine h1 w σ1 I1 H1 _ e1 fun I2 H2 s2 e2 => ?_
    rw [if_pos rfl]
    refine ⟨fun σ' H' => ∃ I' ρ', Same I I' ∧ Ev X.K w I' H' σ' ρ' ∧ WhR X W c sts n' ρ' o, fun σ' H' z => ⟨n', Nat.lt_succ_self n', z⟩, h2 w σ1 I2 H2 _ e2 fun σ3 I3 H3 s3 e3 => ⟨I3, ρb, (s1.trans s2).trans s3, e3, h3⟩⟩
  | brk h1 h2 =>
    refine h1 w σ1 I1 H1 _ e1 fun I2 H2 s2 e2 => ?_
    rw [if_pos rfl]
    exact ⟨fun _ _ => False, fun _ _ z => z.elim, h2 w σ1 I2 H2 _ e2 fun σ3 I3 H3 s3 e3 => p σ3 I3 H3 ((s1.trans s2).trans s3) e3⟩
  | ret h1 h2 =>
    refine h1 w σ1 I1 H1 _ e1 fun I2 H2 s2 e2 => ?_
    rw [if_pos rfl]
    exact ⟨fun _ _ => False, fun _ _ z => z.elim, h2 w σ1 I2 H2 _ e2 fun v σ3 I3 H3 s3 e3 => p v σ3 I3 H3 ((s1.trans s2).trans s3) e3⟩

/-! ### what is walked -/
def Yl (K : PySem.W.Frag) (items : List D) (I0 : Hp) (Y : Nat → Hp → V → Hp → Prop) : Prop :=
  ∀ (i : Nat) (Hc : Hp) (v : V) (H2 I1 : Hp), i < items.length → Same I0 I1 → Same I1 Hc → Y i Hc v H2 → ∃ I3 d, Same I1 I3 ∧ Same I3 H2 ∧ Same Hc H2 ∧ (∀ b o, I3 b = some o → I1 b = some o ∨ Hc b = none) ∧ items[i]? = some d ∧ Rp K I3 v d
def DI (X : Cx) (W : WX) (tg iter : Expr) (ρ : List S) (items : List D) (ρ' : List S) : Prop :=
  ∀ (w : Wd) (σ : L2.St) (I H : Hp) (R : It → Hp → Prop), Ev X.K w I H σ ρ →
    (∀ (J : It) (G : Hp → Prop) (Y : Nat → Hp → V → Hp → Prop) (I' H' : Hp), Same I I' → Ev X.K w I' H' σ ρ' → Walk J items.length G Y → (∀ I1 H1, Same I' I1 → Same I1 H1 → G H1) → Yl X.K items I' Y → R J H') → wpI X tg iter σ H R
section
variable {tg : Expr}
theorem di_list (h : DE X W a ρ (.val (.lst ds) ρ1)) : DI X W tg a ρ ds ρ1 := fun w σ I H R ev p => wpI_of (pi_list pe_wp) (h w σ I H _ ev fun v I1 H1 s1 e1 r => by
  obtain ⟨q, vs, rfl, h1, h2⟩ := rpl_of r
  refine ⟨q, rfl, ⟨vs, e1.sub.seq h1⟩, p (Itl X.K q) (fun H => SqL X.K H q vs) (YAt vs) I1 H1 s1 e1 (by rw [← h2.length]; exact walk_list) (fun I2 H2 s2 s3 => (s2.trans s3).seq h1) fun i Hc v H2 I2 hi s2 s3 y => ?_⟩
  obtain ⟨rfl, y⟩ := y
  obtain ⟨d, q1, q2⟩ := h2.getV y
  exact ⟨I2, d, Same.refl _, s3, Same.refl _, fun b o z => .inl z, q1, q2.up s2⟩)
theorem di_tup (h : DE X W a ρ (.val (.tup ds) ρ1)) : DI X W tg a ρ ds ρ1 := fun w σ I H R ev p => wpI_of (pi_tup pe_wp) (h w σ I H _ ev fun v I1 H1 s1 e1 r => by
  obtain ⟨q, vs, rfl, h1, h2⟩ := rpt_of r
  refine ⟨q, rfl, ⟨vs, same_t e1.sub h1⟩, p (Itt X.K q) (fun H => SqT X.K H q vs) (YAt vs) I1 H1 s1 e1 (by rw [← h2.length]; exact walk_tup) (fun I2 H2 s2 s3 => same_t (s2.trans s3) h1) fun i Hc v H2 I2 hi s2 s3 y => ?_⟩
  obtain ⟨rfl, y⟩ := y
  obtain ⟨d, q1, q2⟩ := h2.getV y
  exact ⟨I2, d, Same.refl _, s3, Same.refl _, fun b o z => .inl z, q1, q2.up s2⟩)
/-- a text's signs -/
def signs (z : Str) : List D := z.cps.toList.map fun c => .str ⟨#[c]⟩
theorem di_str {z : Str} (h : DE X W a ρ (.val (.str z) ρ1)) : DI X W tg a ρ (signs z) ρ1 := fun w σ I H R ev p => wpI_of (pi_str pe_wp) (h w σ I H _ ev fun v I1 H1 s1 e1 r => by
  cases r
  refine ⟨z, rfl, p (Its z) _ _ I1 H1 s1 e1 (by unfold signs; rw [List.length_map, Array.length_toList]; exact walk_str) (fun _ _ _ _ => trivial) fun i Hc v H2 I2 hi s2 s3 y => ?_⟩
  obtain ⟨rfl, ch, y1, rfl⟩ := y
  exact ⟨I2, _, Same.refl _, s3, Same.refl _, fun b o z => .inl z, by unfold signs; rw [List.getElem?_map, Array.getElem?_toList, y1]; rfl, .str _⟩)
def rngD (lo : Int) (n : Nat) : List D := (List.range n).map fun i => .int (lo + (i : Nat))
theorem rngD_len {lo : Int} {n : Nat} : (rngD lo n).length = n := by unfold rngD; rw [List.length_map, List.length_range]
theorem di_range1 {j : Int} {p1 : Pos} (hx : Blt X "range" (.type "range")) (h : DE X W a ρ (.val (.int j) ρ1)) (h1 : -(2 ^ 62) ≤ j) (h2 : j < 2 ^ 62) (hs : starEach [a] X.env = [(false, eval a X.env)] := by rfl) : DI X W tg (.Call (.Name "range" p1) [a] [] pos) ρ (rngD 0 j.toNat) ρ1 :=
  fun w σ I H R ev p => wpI_of (pi_range1 hx.g hx.m pa_wp hs) (da_cons h da_nil hs w σ I H _ ev fun vs I1 H1 s1 e1 r => by
    obtain ⟨v, rfl, rv⟩ := all1 r
    cases rv
    refine ⟨j, rfl, h1, h2, p (Itr 0 j.toNat) _ _ I1 H1 s1 e1 (by rw [rngD_len]; exact walk_range) (fun _ _ _ _ => trivial) fun i Hc v H2 I2 hi s2 s3 y => ?_⟩
    obtain ⟨rfl, rfl⟩ := y
    rw [rngD_len] at hi
    exact ⟨I2, _, Same.refl _, s3, Same.refl _, fun b o z => .inl z, by unfold rngD; rw [List.getElem?_map, List.getElem?_range hi]; rfl, .int _⟩)
end
/-! ### targets -/
def Bd (X : Cx) (W : WX) (tg : Expr) (d : D) (ρ ρ' : List S) : Prop :=
  ∀ (w : Wd) (σ : L2.St) (I H : Hp) (v : V) (Q : L2.St → Hp → Prop), Ev X.K w I H σ ρ → Rp X.K I v d → (∀ σ', Ev X.K w I H σ' ρ' → Q σ' H) → wpG X tg v σ H Q
theorem bd_name {i : Nat} {x : Str} (hN : X.N.Nodup) (hi : X.N[i]? = some x) (hx : Loc X.env.scope x) (hf : X.fn x = true ∨ X.env.scope.names.lookup x = some .local := by first | exact .inl rfl | exact .inr rfl | assumption) : Bd X W (.Name x pos) d ρ (ρ.set i (.v d)) :=
  fun w σ I H v Q ev r p => wpG_of (pg_name hN hi hx hf) (p _ (ev.setV r))
/-- (x, y) = a pair -/
theorem bd_tup2 {i j : Nat} {x y : Str} {p1 p2 : Pos} {kk : Nat} (hc : X.calm = true) (hN : X.N.Nodup) (hi : X.N[i]? = some x) (hx : Loc X.env.scope x) (hj : X.N[j]? = some y) (hy : Loc X.env.scope y)
    (hf : X.fn x = true ∨ X.env.scope.names.lookup x = some .local := by first | exact .inl rfl | exact .inr rfl | assumption) (hf' : X.fn y = true ∨ X.env.scope.names.lookup y = some .local := by first | exact .inl rfl | exact .inr rfl | assumption) :
    Bd X W (.Tuple [.Name x p1, .Name y p2] kk pos) (.tup [d1, d2]) ρ ((ρ.set i (.v d1)).set j (.v d2)) :=
  fun w σ I H v Q ev r p => by
    obtain ⟨a, vs, rfl, h1, h2⟩ := rpt_of r
    obtain ⟨v1, v2, rfl, r1, r2⟩ := all2 h2
    exact wpG_of (pg_tup hc (pgs_cons (pg_name hN hi hx hf) (pgs_cons (pg_name hN hj hy hf') pgs_nil))) ⟨a, [v1, v2], rfl, same_t ev.sub h1, rfl, v1, [v2], rfl, v2, [], rfl, rfl, p _ ((ev.setV r1).setV r2)⟩

/-! ### for -/
inductive FoR (X : Cx) (W : WX) (tg : Expr) (body : List Stmt) : List D → List S → Oc → Prop
  | nil {ρ : List S} : FoR X W tg body [] ρ (.next ρ)
  | turn {d : D} {ds : List D} {ρ ρ1 ρ2 : List S} {o : Oc} : Bd X W tg d ρ ρ1 → DSs X W body ρ1 (.next ρ2) → FoR X W tg body ds ρ2 o → FoR X W tg body (d :: ds) ρ o
  | brk {d : D} {ds : List D} {ρ ρ1 ρ2 : List S} : Bd X W tg d ρ ρ1 → DSs X W body ρ1 (.brk ρ2) → FoR X W tg body (d :: ds) ρ (.next ρ2)
  | ret {d v : D} {ds : List D} {ρ ρ1 ρ2 : List S} : Bd X W tg d ρ ρ1 → DSs X W body ρ1 (.ret v ρ2) → FoR X W tg body (d :: ds) ρ (.ret v ρ2)
  | exc {d : D} {C : Addr} {ds : List D} {ρ ρ1 ρ2 : List S} : Bd X W tg d ρ ρ1 → DSs X W body ρ1 (.exc C ρ2) → FoR X W tg body (d :: ds) ρ (.exc C ρ2)
theorem ds_for {tg : Expr} {items : List D} (hp : PassesOwn (model X.prog X.w) X.A X.env X.xe) (hc : X.calm = true) (hi : DI X W tg a ρ items ρ1) (h : FoR X W tg sts items ρ1 o) (hs : ∀ x, foldedSetIterable a X.env x = pure x := by intro _; rfl) : DS X W (.For tg a sts [] pos) ρ o := fun w σ I H Dn ev p => by
  refine wpS_of (ps_for hp hc pi_wp pg_wp pss_wp hs) (hi w σ I H _ ev fun J G Y I1 H1 s1 e1 wk hG hY => ?_)
  refine ⟨fun i m σ' H' => m = items.length - i ∧ i ≤ items.length ∧ ∃ I' ρ', Same I1 I' ∧ Ev X.K w I' H' σ' ρ' ∧ FoR X W tg sts (items.drop i) ρ' o, ⟨items.length, by omega, Nat.zero_le _, I1, ρ1, Same.refl _, e1, h⟩, ?_⟩
  rintro i m σ2 H2 ⟨rfl, hi, I2, ρ2, s2, e2, r2⟩
  by_cases hlt : i < items.length
  · rw [List.drop_eq_getElem_cons hlt] at r2
    have it : items[i]? = some items[i] := List.getElem?_eq_getElem hlt
    refine .inr ⟨wk.goes i H2 hlt (hG I2 H2 s2 e2.sub), ?_⟩
    have bind : ∀ {ρ3 : List S} {x : V} {H3 : Hp} {Q : L2.St → Hp → Prop}, Bd X W tg items[i] ρ2 ρ3 → J.yld i H2 x H3 → (∀ σ3 I3, Same I2 I3 → Ev X.K w I3 H3 σ3 ρ3 → Q σ3 H3) → wpG X tg x σ2 H3 Q := fun {ρ3 x H3 Q} hb hy hq => by
      obtain ⟨I3, d, q1, q2, q3, q4, q5, q6⟩ := hY i H2 x H3 I2 hlt s2 e2.sub (wk.yields i H2 x H3 hlt (hG I2 H2 s2 e2.sub) hy)
      rw [it] at q5
      cases q5
      have e3 := e2.grow q1 q2 q3 q4
      exact hb w σ2 I3 H3 x Q e3 q6 fun σ3 e4 => hq σ3 I3 q1 e4
    cases r2 with
    | @turn _ _ _ ρa ρb _ hb hd hr =>
      refine ⟨fun σ' H' => ∃ I', Same I1 I' ∧ Ev X.K w I' H' σ' ρb, fun σ' H' z => ?_, fun x H3 hy => bind hb hy fun σ3 I3 s3 e3 => hd w σ3 I3 H3 _ e3 fun σ4 I4 H4 s4 e4 => ⟨I4, (s2.trans s3).trans s4, e4⟩⟩
      obtain ⟨I', z1, z2⟩ := z
      exact ⟨items.length - (i + 1), by omega, rfl, by omega, I', ρb, z1, z2, hr⟩
    | brk hb hd =>
      refine ⟨fun _ _ => False, fun _ _ z => z.elim, fun x H3 hy => bind hb hy fun σ3 I3 s3 e3 => hd w σ3 I3 H3 _ e3 fun σ4 I4 H4 s4 e4 => p σ4 I4 H4 (((s1.trans s2).trans s3).trans s4) e4⟩
    | ret hb hd =>
      refine ⟨fun _ _ => False, fun _ _ z => z.elim, fun x H3 hy => bind hb hy fun σ3 I3 s3 e3 => hd w σ3 I3 H3 _ e3 fun v σ4 I4 H4 s4 e4 => p v σ4 I4 H4 (((s1.trans s2).trans s3).trans s4) e4⟩
    | exc hb hd =>
      refine ⟨fun _ _ => False, fun _ _ z => z.elim, fun x H3 hy => bind hb hy fun σ3 I3 s3 e3 => hd w σ3 I3 H3 _ e3 fun σ4 I4 H4 s4 e4 => p σ4 I4 H4 (((s1.trans s2).trans s3).trans s4) e4⟩
  · have ei : i = items.length := by omega
    subst ei
    rw [List.drop_length] at r2
    cases r2
    exact .inl ⟨wk.stops H2 (hG I2 H2 s2 e2.sub), p σ2 I2 H2 (s1.trans s2) e2⟩
end

/-! ### list comprehensions -/
abbrev W0 : WX := fun _ _ _ _ => False
abbrev Bk (X : Cx) (scope : Scope) (s : Shared) (H : Hp) (C : Addr) (cl : List (Str × Addr)) (fp : List Addr) : Cx := X.blk s H scope (compEnvC scope cl C X.env) fp
def wpEb (X : Cx) (scope : Scope) (e : Expr) : TE := fun σ H Q => ∀ s H0 C cl fp, wpE (Bk X scope s H0 C cl fp) e σ H Q
def wpTb (X : Cx) (scope : Scope) : List Expr → TT
  | [] => tYes
  | e :: _ => fun σ H Q => ∀ s H0 C cl fp, wpT (Bk X scope s H0 C cl fp) e σ H Q
/-- the tests of a comprehension: none or one -/
inductive Tst (X : Cx) (scope : Scope) : List Expr → List S → Bool → List S → Prop
  | nil {ρ : List S} : Tst X scope [] ρ true ρ
  | one {e : Expr} {ρ ρ1 : List S} {b : Bool} : (∀ s H0 C cl fp, DT (Bk X scope s H0 C cl fp) W0 e ρ b ρ1) → Tst X scope [e] ρ b ρ1
inductive LcR (X : Cx) (scope : Scope) (ifs : List Expr) (elt : Expr) (j : Nat) : List D → List S → List D → List S → Prop
  | nil {ρ : List S} : LcR X scope ifs elt j [] ρ [] ρ
  | keep {d v : D} {ds es : List D} {ρ ρ1 ρ2 ρ3 : List S} : Tst X scope ifs (ρ.set j (.v d)) true ρ1 → (∀ s H0 C cl fp, DE (Bk X scope s H0 C cl fp) W0 elt ρ1 (.val v ρ2)) → LcR X scope ifs elt j ds (ρ2.set j .no) es ρ3 → LcR X scope ifs elt j (d :: ds) ρ (v :: es) ρ3
  | skip {d : D} {ds es : List D} {ρ ρ1 ρ3 : List S} : Tst X scope ifs (ρ.set j (.v d)) false ρ1 → LcR X scope ifs elt j ds (ρ1.set j .no) es ρ3 → LcR X scope ifs elt j (d :: ds) ρ es ρ3
/-- something is protected -/
def Wd.guard (w : Wd) (p : Addr) (o : HO) : Wd := { w with Pt := upd w.Pt p o }
section
variable {K : PySem.W.Frag} {w : Wd} {I H : Hp} {σ : L2.St} {ρ : List S} {p : Addr} {u u' : HO}
theorem Ev.guard (e : Ev K w I H σ ρ) (h : H p = none) : Ev K (w.guard p u) I (upd H p u) σ ρ := by
  have g := e.other (o := u) h
  have f := e.fresh h
  refine ⟨g.sub, g.old, g.frm, g.new, g.trk, fun b o hb => ?_, fun b o hb => ?_, g.len, g.vals, ?_⟩
  · by_cases z : b = p
    · subst z
      have hb : upd w.Pt b u b = some o := hb
      rw [upd_same] at hb ⊢
      exact hb
    · have hb : upd w.Pt p u b = some o := hb
      rw [upd_ne z] at hb
      exact g.prt b o hb
  · by_cases z : b = p
    · subst z; exact f.2
    · have hb : upd w.Pt p u b = some o := hb
      rw [upd_ne z] at hb
      exact g.pI b o hb
  · obtain ⟨φ, h1, h2⟩ := g.owns
    obtain ⟨φ, h1, h2⟩ := e.owns
    have ne : ∀ (i : Nat) (k : Option Nat) (o : O), ρ[i]? = some (S.own k o) → ∀ a ∈ φ i, a ≠ p := fun i k o q a ha z => by
      obtain ⟨v, hv, s⟩ := h1 i k o q
      obtain ⟨y, hy⟩ := s.at_.there a ha
      rw [z, h] at hy
      cases hy
    refine ⟨φ, fun i k o q => ?_, h2⟩
    obtain ⟨v, hv, s⟩ := h1 i k o q
    exact ⟨v, hv, s.at_.mono (Same.refl I) fun a ha y hy => by rw [upd_ne (ne i k o q a ha)]; exact hy, s.out, s.io, fun a ha => by
      show upd w.Pt p u a = none
      rw [upd_ne (ne i k o q a ha)]
      exact s.np a ha⟩
theorem Ev.reguard (e : Ev K (w.guard p u) I H σ ρ) (h0 : w.H0 p = none) : Ev K (w.guard p u') I (upd H p u') σ ρ := by
  have hp : H p = some u := e.prt p u upd_same
  have ip : I p = none := e.pI p u upd_same
  refine ⟨same_upd2 e.sub ip, e.old, fun b o hb hl => by rw [upd_ne (ne_of_none hb h0)]; exact e.frm b o hb hl, e.new, fun b o hb => ?_, fun b o hb => ?_, fun b o hb => ?_, e.len, e.vals, ?_⟩
  · rw [upd_ne (ne_of_none hb h0)]
    exact e.trk b o hb
  · by_cases z : b = p
    · subst z
      have hb : upd w.Pt b u' b = some o := hb
      rw [upd_same] at hb ⊢
      exact hb
    · have hb : upd w.Pt p u' b = some o := hb
      rw [upd_ne z] at hb ⊢
      exact e.prt b o (by show upd w.Pt p u b = some o; rw [upd_ne z]; exact hb)
  · by_cases z : b = p
    · subst z; exact ip
    · have hb : upd w.Pt p u' b = some o := hb
      rw [upd_ne z] at hb
      exact e.pI b o (by show upd w.Pt p u b = some o; rw [upd_ne z]; exact hb)
  · obtain ⟨φ, h1, h2⟩ := e.owns
    have ne : ∀ (i : Nat) (k : Option Nat) (o : O), ρ[i]? = some (S.own k o) → ∀ a ∈ φ i, a ≠ p := fun i k o q a ha z => by
      obtain ⟨v, hv, s⟩ := h1 i k o q
      have y : upd w.Pt p u a = none := s.np a ha
      rw [z, upd_same] at y
      cases y
    refine ⟨φ, fun i k o q => ?_, h2⟩
    obtain ⟨v, hv, s⟩ := h1 i k o q
    exact ⟨v, hv, s.at_.mono (Same.refl I) fun a ha y hy => by rw [upd_ne (ne i k o q a ha)]; exact hy, s.out, s.io, fun a ha => by
      show upd w.Pt p u' a = none
      have z := s.np a ha
      have z : upd w.Pt p u a = none := z
      rw [upd_ne (ne i k o q a ha)] at z ⊢
      exact z⟩
/-- the protected list becomes an owned one -/
theorem Ev.unguard {vs : List V} {ds : List D} (e : Ev K (w.guard p (.lst vs)) I H σ ρ) (h0 : w.H0 p = none) (hw : w.Pt p = none) (r : RpAll K I vs ds) : Ev K w I H (σ ++ [some (.ref p)]) (ρ ++ [.own none (.lst ds)]) := by
  have hp : H p = some (.lst vs) := e.prt p _ upd_same
  have ip : I p = none := e.pI p _ upd_same
  obtain ⟨φ, h1, h2⟩ := e.owns
  have ne : ∀ (i : Nat) (k : Option Nat) (o : O), ρ[i]? = some (S.own k o) → ∀ a ∈ φ i, a ≠ p := fun i k o q a ha z => by
    obtain ⟨v, hv, s⟩ := h1 i k o q
    have y : upd w.Pt p (.lst vs) a = none := s.np a ha
    rw [z, upd_same] at y
    cases y
  have g1 : ∀ (i : Nat) (k : Option Nat) (o : O), ρ[i]? = some (S.own k o) → ∃ v, σ[i]? = some (some v) ∧ SlotOk K w I H v k o (φ i) := fun i k o q => by
    obtain ⟨v, hv, s⟩ := h1 i k o q
    exact ⟨v, hv, s.at_, s.out, s.io, fun a ha => by
      have z : upd w.Pt p (.lst vs) a = none := s.np a ha
      rw [upd_ne (ne i k o q a ha)] at z
      exact z⟩
  have e' : Ev K w I H σ ρ := ⟨e.sub, e.old, e.frm, e.new, e.trk, fun b o hb => e.prt b o (by show upd w.Pt p (.lst vs) b = some o; rw [upd_ne (ne_of_none hb hw)]; exact hb), fun b o hb => e.pI b o (by show upd w.Pt p (.lst vs) b = some o; rw [upd_ne (ne_of_none hb hw)]; exact hb), e.len, e.vals, φ, g1, h2⟩
  exact e'.gain (.lst hp r) (fun a ha => by rw [List.mem_singleton.mp ha]; exact ip) (fun a ha => by rw [List.mem_singleton.mp ha]; exact h0) (fun a ha => by rw [List.mem_singleton.mp ha]; exact hw) g1 h2 fun i k o q a ha hb => ne i k o q a hb (List.mem_singleton.mp ha)
/-- a slot that nothing is known of -/
theorem Ev.other_slot {j : Nat} {x : Option V} (e : Ev K w I H σ ρ) (h : ρ[j]? = some .no) : Ev K w I H (σ.set j x) ρ := by
  refine ⟨e.sub, e.old, e.frm, e.new, e.trk, e.prt, e.pI, by rw [List.length_set]; exact e.len, fun i d q => ?_, ?_⟩
  · have hij : j ≠ i := fun z => by rw [z, q] at h; cases h
    rw [List.getElem?_set_ne hij]
    exact e.vals i d q
  · obtain ⟨φ, h1, h2⟩ := e.owns
    refine ⟨φ, fun i k o q => ?_, h2⟩
    have hij : j ≠ i := fun z => by rw [z, q] at h; cases h
    rw [List.getElem?_set_ne hij]
    exact h1 i k o q
end
section
variable {X : Cx} {W : WX} {ρ ρ1 ρ2 ρ3 : List S} {pos : Pos} {iter elt : Expr} {ifs : List Expr} {items es : List D} {scope : Scope} {x : Str} {j : Nat} {tp : Pos}
theorem Ev.forget {K : PySem.W.Frag} {w : Wd} {I H : Hp} {σ : L2.St} (e : Ev K w I H σ ρ) : Ev K w I H σ (ρ.set j .no) := by
  have g := e.wipe1 (i := j)
  by_cases hj : j < σ.length
  · have q : (σ.set j none).set j σ[j] = σ := by
      rw [List.set_set, List.set_getElem_self]
    have z := g.other_slot (j := j) (x := σ[j]) (List.getElem?_set_self (by rw [← e.len]; exact hj))
    rw [q] at z
    exact z
  · have q : σ.set j none = σ := List.set_eq_of_length_le (Nat.le_of_not_lt hj)
    rw [q] at g
    exact g
theorem dss_forget {sts : List Stmt} {o : Oc} (j : Nat) (h : DSs X W sts (ρ.set j .no) o) : DSs X W sts ρ o := fun w σ I H Dn ev p => h w σ I H Dn ev.forget p
theorem tst_ok (hifs : ifs.length ≤ 1) (s : Shared) (H0 : Hp) (C : Addr) (cl : List (Str × Addr)) (fp : List Addr) : PTs (Bk X scope s H0 C cl fp) ifs (wpTb X scope ifs) := by
  match ifs, hifs with
  | [], _ => exact pts_nil
  | [e], _ => exact pts_one ⟨fun pins s' σ H Q I h => h s H0 C cl fp pins s' I⟩
theorem tst_run {w : Wd} {σ : L2.St} {I H : Hp} {k : Bool} {Q : Bool → Hp → Prop} (h : Tst X scope ifs ρ k ρ1) (ev : Ev X.K w I H σ ρ) (p : ∀ I' H', Same I I' → Ev X.K w I' H' σ ρ1 → Q k H') : wpTb X scope ifs σ H Q := by
  cases h with
  | nil => exact p I H (Same.refl I) ev
  | one h => exact fun s H0 C cl fp => h s H0 C cl fp w σ I H Q ev p
theorem lc_run (hc : X.calm = true) (hN : X.N.Nodup) (hj : X.N[j]? = some x) (hno : ρ1[j]? = some .no) (hi : DI X W (.Name x tp) iter ρ items ρ1) (h : LcR X scope ifs elt j items ρ1 es ρ2) (hl : es.length ≤ sizeLine)
    {w : Wd} {σ : L2.St} {I H : Hp} {Q : VK} (ev : Ev X.K w I H σ ρ) (p : ∀ v I' H', Same I I' → Ev X.K w I' H' (σ ++ [some v]) (ρ2 ++ [.own none (.lst es)]) → Q v H') :
    tLc (wpI X (.Name x tp) iter) (gName j) (wpTb X scope ifs) (wpEb X scope elt) [j] σ H Q := by
  refine hi w σ I H _ ev fun J G Y I1 H1 s1 e1 wk hG hY => fun Dl hD => ?_
  have hw : w.Pt Dl = none := e1.freshP hD
  have h0 : w.H0 Dl = none := (e1.fresh hD).1
  have jl : j < σ.length := by rw [e1.len]; exact (List.getElem?_eq_some_iff.mp hno).1
  have wp : wipe σ [j] = σ.set j none := rfl
  have back : (σ.set j none).set j σ[j] = σ := by rw [List.set_set, List.set_getElem_self]
  refine ⟨fun i m H' => m = items.length - i ∧ i ≤ items.length ∧ ∃ I' ρ' vs as rest, Same I1 I' ∧ Ev X.K (w.guard Dl (.lst vs)) I' H' (σ.set j none) ρ' ∧ ρ'[j]? = some S.no ∧ RpAll X.K I' vs as ∧ as ++ rest = es ∧ LcR X scope ifs elt j (items.drop i) ρ' rest ρ2,
    ⟨items.length, by omega, Nat.zero_le _, I1, ρ1, [], [], es, Same.refl _, (e1.guard hD).other_slot hno, hno, .nil, rfl, h⟩, ?_⟩
  rintro i m H2 ⟨rfl, hile, I2, ρ', vs, as, rest, s2, e2, hno2, rv, has, r2⟩
  by_cases hlt : i < items.length
  · rw [List.drop_eq_getElem_cons hlt] at r2
    have it : items[i]? = some items[i] := List.getElem?_eq_getElem hlt
    refine .inr ⟨wk.goes i H2 hlt (hG I2 H2 s2 e2.sub), ?_⟩
    have bind : ∀ {y : V} {H3 : Hp}, J.yld i H2 y H3 → ∃ I3, Same I2 I3 ∧ Ev X.K (w.guard Dl (.lst vs)) I3 H3 ((σ.set j none).set j (some y)) (ρ'.set j (.v items[i])) := fun {y H3} hy => by
      obtain ⟨I3, d, q1, q2, q3, q4, q5, q6⟩ := hY i H2 y H3 I2 hlt s2 e2.sub (wk.yields i H2 y H3 hlt (hG I2 H2 s2 e2.sub) hy)
      rw [it] at q5
      cases q5
      exact ⟨I3, q1, (e2.grow q1 q2 q3 q4).setV q6⟩
    have wset : ∀ y : V, wipe ((σ.set j none).set j (some y)) [j] = wipe σ [j] := fun y => by
      show ((σ.set j none).set j (some y)).set j none = σ.set j none
      rw [List.set_set, List.set_set]
    have wset2 : ∀ y : V, ((σ.set j none).set j (some y)).set j none = σ.set j none := wset
    have rl : as.length < sizeLine ∨ rest = [] := by
      cases rest with
      | nil => exact .inr rfl
      | cons z zs =>
        left
        rw [← has, List.length_append, List.length_cons] at hl
        omega
    cases r2 with
    | @keep _ v _ es' _ ρa ρb _ ht he hr =>
      refine ⟨fun H' => ∃ I' vs', Same I1 I' ∧ Ev X.K (w.guard Dl (.lst vs')) I' H' (σ.set j none) (ρb.set j .no) ∧ (ρb.set j .no)[j]? = some S.no ∧ RpAll X.K I' vs' (as ++ [v]), fun H' z => ?_, fun y H3 hy => ?_⟩
      · obtain ⟨I', vs', z1, z2, z3, z4⟩ := z
        exact ⟨items.length - (i + 1), by omega, rfl, by omega, I', _, vs', as ++ [v], es', z1, z2, z3, z4, by rw [List.append_assoc]; exact has, hr⟩
      · obtain ⟨I3, s3, e3⟩ := bind hy
        refine ⟨wset y, tst_run ht e3 fun I4 H4 s4 e4 => ?_⟩
        rw [if_pos rfl]
        intro s0 H0 C cl fp
        refine he s0 H0 C cl fp _ _ I4 H4 _ e4 fun u I5 H5 s5 e5 ru => ?_
        refine ⟨vs, e5.prt Dl _ upd_same, ?_, I5, vs ++ [u], ((s2.trans s3).trans s4).trans s5, ?_, ?_, ?_⟩
        · rw [rv.length]
          rcases rl with rl | rl
          · exact rl
          · cases rl
        · have g := (e5.wipe1 (i := j)).reguard (u' := .lst (vs ++ [u])) h0
          have z : ((wipe σ [j]).set j (some y)).set j none = σ.set j none := wset2 y
          rw [z] at g
          exact g
        · refine List.getElem?_set_self ?_
          have this : ((σ.set j none).set j (some y)).length = ρb.length := e5.len
          rw [List.length_set, List.length_set] at this
          rw [← this]
          exact jl
        · exact (rv.up ((s3.trans s4).trans s5)).append (.one ru)
    | @skip _ _ _ _ ρa _ ht hr =>
      refine ⟨fun H' => ∃ I' vs', Same I1 I' ∧ Ev X.K (w.guard Dl (.lst vs')) I' H' (σ.set j none) (ρa.set j .no) ∧ (ρa.set j .no)[j]? = some S.no ∧ RpAll X.K I' vs' as, fun H' z => ?_, fun y H3 hy => ?_⟩
      · obtain ⟨I', vs', z1, z2, z3, z4⟩ := z
        exact ⟨items.length - (i + 1), by omega, rfl, by omega, I', _, vs', as, rest, z1, z2, z3, z4, has, hr⟩
      · obtain ⟨I3, s3, e3⟩ := bind hy
        refine ⟨wset y, tst_run ht e3 fun I4 H4 s4 e4 => ?_⟩
        rw [if_neg Bool.false_ne_true]
        refine ⟨I4, vs, (s2.trans s3).trans s4, ?_, ?_, rv.up (s3.trans s4)⟩
        · have g := e4.wipe1 (i := j)
          have z : ((wipe σ [j]).set j (some y)).set j none = σ.set j none := wset2 y
          rw [z] at g
          exact g
        · refine List.getElem?_set_self ?_
          have this : ((σ.set j none).set j (some y)).length = ρa.length := e4.len
          rw [List.length_set, List.length_set] at this
          rw [← this]
          exact jl
  · have ei : i = items.length := by omega
    subst ei
    rw [List.drop_length] at r2
    cases r2
    refine .inl ⟨wk.stops H2 (hG I2 H2 s2 e2.sub), ?_⟩
    rw [List.append_nil] at has
    subst has
    have g := e2.other_slot (j := j) (x := σ[j]) hno2
    rw [back] at g
    exact p _ I2 H2 (s1.trans s2) (g.unguard h0 hw rv)
theorem de_lc (hc : X.calm = true) (hN : X.N.Nodup) (hj : X.N[j]? = some x) (hx : (relabel scope X.env).names.lookup x = some .local) (ok : BlkOk X.N X.env.scope scope [(x, j)]) (hifs : ifs.length ≤ 1) (hno : ρ1[j]? = some .no) (hi : DI X W (.Name x tp) iter ρ items ρ1) (h : LcR X scope ifs elt j items ρ1 es ρ2) (hl : es.length ≤ sizeLine)
    (hs : ∀ x, foldedSetIterable iter X.env x = pure x := by intro _; rfl) : DE X W (.ListComp elt [⟨.Name x tp, iter, ifs, 0⟩] scope pos) ρ (.own (.lst es) ρ2) :=
  fun w σ I H Q ev p => wpE_of (pe_lc (own := [(x, j)]) (g := gName j) hc hN pi_wp ok (fun _ _ _ _ _ => pg_name hN hj (.inl hx) (.inr hx)) (fun s H0 C cl fp => tst_ok hifs s H0 C cl fp) (fun s H0 C cl fp => ⟨fun pins s' σ H Q I h => h s H0 C cl fp pins s' I⟩) hs)
    (lc_run hc hN hj hno hi h hl ev p)
/-- y = [..] on one line -/
theorem ds_setLc {i : Nat} {y : Str} {py spos : Pos} (hc : X.calm = true) (hN : X.N.Nodup) (hy : X.N[i]? = some y) (hyl : X.env.scope.names.lookup y = some .local) (hsw : swapsWith (.ListComp elt [⟨.Name x tp, iter, ifs, 0⟩] scope pos) (some (.Name y py)) spos.line X.env = pure true)
    (hj : X.N[j]? = some x) (hx : (relabel scope X.env).names.lookup x = some .local) (ok : BlkOk X.N X.env.scope scope [(x, j)]) (hifs : ifs.length ≤ 1) (hno : ρ1[j]? = some .no) (hi : DI X W (.Name x tp) iter ρ items ρ1) (h : LcR X scope ifs elt j items ρ1 es ρ2) (hl : es.length ≤ sizeLine)
    (hs : ∀ x, foldedSetIterable iter X.env x = pure x := by intro _; rfl) : DS X W (.Assign [.Name y py] (.ListComp elt [⟨.Name x tp, iter, ifs, 0⟩] scope pos) spos) ρ (.next (ρ2.set i (.own none (.lst es)))) :=
  fun w σ I H Dn ev p => wpS_of (ps_setLc (i := i) (own := [(x, j)]) (g := gName j) hc hN hy hyl hsw pi_wp ok (fun _ _ _ _ _ => pg_name hN hj (.inl hx) (.inr hx)) (fun s H0 C cl fp => tst_ok hifs s H0 C cl fp) (fun s H0 C cl fp => ⟨fun pins s' σ H Q I h => h s H0 C cl fp pins s' I⟩) hs)
    (lc_run hc hN hj hno hi h hl ev fun v I' H' s e' => p _ I' H' s e'.move)
end
end Dt


set_option Elab.async false
set_option linter.all false
set_option maxRecDepth 100000
set_option maxHeartbeats 1000000
namespace Dt
open PySem PySem.Spec PyProof.Rows L2
section
variable {X : Cx} {pins : List (Addr × Obj)} {σ : L2.St} {H : Hp} {s : Shared}
/-- an object of ours that wasn't tracked is from here on -/
theorem inv_track {a : Addr} {u : HO} (I : Inv X pins σ H s) (n0 : X.s_0.heap.get? a = none) (na : H a = none) (nL : a ≠ X.env.locals)
    (nC : ∀ x c, X.env.cells.lookup x = some c → c ≠ a) (nP : ∀ p ∈ X.pn ++ pins, p.1 ≠ a) (ob : ObjOk X.prog X.w (upd H a u) s.heap a u) : Inv X pins σ (upd H a u) s := by
  have nn : ∀ b x, H b = some x → b ≠ a := fun b x e => ne_of_none e na
  have bs := I.base
  refine ⟨I.ok, I.os, I.bare, ⟨bs.keep, bs.slot, fun b o e n hx => ?_, bs.there, fun b xs e => ?_, fun b o x e => ?_, fun b ps e => ?_⟩, I.loc, I.cell, ?_, fun x c e => ?_, fun p hp => ?_, fun b o e => ?_, I.len⟩
  · rw [upd_ne fun z => by rw [z, n0] at e; cases e]
    exact bs.free b o e n hx
  · have q := bs.tups b xs e
    rw [upd_ne (nn b _ q)]
    exact q
  · have q := bs.frzs b o x e
    rw [upd_ne (nn b _ q)]
    exact q
  · obtain ⟨m, q⟩ := bs.tbls b ps e
    exact ⟨m, by rw [upd_ne (nn b _ q)]; exact q⟩
  · rw [upd_ne nL.symm]
    exact I.free
  · rw [upd_ne (nC x c e)]
    exact I.freeC x c e
  · obtain ⟨h1, h2, h3⟩ := I.pin p hp
    exact ⟨h1, by rw [upd_ne (nP p hp)]; exact h2, h3⟩
  · by_cases hb : b = a
    · subst hb
      rw [upd_same] at e
      cases e
      exact ob
    · rw [upd_ne hb] at e
      exact (I.hok b o e).stay (fun c v _ q => q) (fun c q => by rw [upd_ne (nn c _ q)]; exact q) fun c xs q => by
        rw [upd_ne (nn c _ q)]
        exact q
end
theorem Ev.set_no {K : PySem.W.Frag} {w : Wd} {I H : Hp} {σ : L2.St} {ρ : List S} {i : Nat} {x : Option V} (e : Ev K w I H σ ρ) : Ev K w I H (σ.set i x) (ρ.set i .no) := by
  by_cases il : i < ρ.length
  · exact (e.forget (j := i)).other_slot (j := i) (x := x) (List.getElem?_set_self il)
  · have h1 : ρ.set i .no = ρ := List.set_eq_of_length_le (Nat.le_of_not_lt il)
    have h2 : σ.set i x = σ := List.set_eq_of_length_le (by rw [e.len]; exact Nat.le_of_not_lt il)
    rw [h1, h2]
    exact e
/-- what 'except c as n: y = n' wishes -/
def wKeep (K : PySem.W.Frag) (c : Value) (i iy : Nat) (Wout : WX) (Dn : Ends) : WX := fun cls d σ H =>
  ∃ b, PySem.W.exmOne K cls c = some b ∧ (b = true → ∃ C, cls = .ref C ∧ d = none ∧ ∀ a, H a = none → Dn.nx (((σ.set i (some (.ref a))).set iy (some (.ref a))).set i none) (upd H a (ExH C a))) ∧ (b = false → Wout cls d σ H)
section
variable {X : Cx} {x n y : Str} {c : Value} {i iy : Nat} {body : List Stmt} {np pos pos' py pn' pa : Pos} {tb : WX → TS} {Wout : WX}
theorem ps_try_keep (hs : X.stack = X.env :: X.outer) (hf : X.env.frame = some X.env.locals) (hex : X.ex = []) (hN : X.N.Nodup) (hi : X.N[i]? = some n) (hln : X.env.kindOf n = some .local) (hiy : X.N[iy]? = some y) (hly : X.env.kindOf y = some .local) (hne : i ≠ iy) (hc : Names X x c) (tk : Takes X Wout)
    (hb : ∀ (W : WX) (pn : List (Addr × Obj)) (xe : Value → Shared → Prop), Takes (X.tr pn xe) W → PassesOwn (model X.prog X.w) X.A X.env xe → PSs (X.tr pn xe) body (tb W))
    (hsw : swapsWith (.Name n pn') (some (.Name y py)) pa.line X.env = pure false := by rfl) (hd : (n == ("__debug__" : Str)) = false := by decide) (hcd : (n == ("__classdict__" : Str)) = false := by decide) :
    PS X (.Try body [.ExceptHandler (some (.Name x np)) (some n) [.Assign [.Name y py] (.Name n pn') pa] pos'] [] [] pos) (fun Dn σ H => tb (wKeep X.K c i iy Wout Dn) Dn σ H) := by
  refine ⟨fun pins s σ H Dn I h => ?_⟩
  have ok := I.ok
  have hfr : X.A.frames = some (X.env :: X.outer) := ok.frames.trans (by rw [hs])
  let hand : List ExceptHandler := [.ExceptHandler (some (.Name x np)) (some n) [.Assign [.Name y py] (.Name n pn') pa] pos']
  let M := model X.prog X.w
  refine wpAny_Try_except ?_
  let xe : Value → Shared → Prop := fun e s1 => wpAny M X.A (noteFrame e X.env) (fun _ s2 => wpAny M X.A (setFlight e none) (fun _ s3 => wpAny M X.A (handleBy e X.env hand) (SP X pins Dn) X.xe s3) X.xe s2) X.xe s1
  have tk' : Takes (X.tr (X.pn ++ pins) xe) (wKeep X.K c i iy Wout Dn) := fun u s' xx => by
    obtain ⟨a, B, sI, pins', σ', H', cls, d, rfl, J', nb, up, sky, na, os, ag, b, hb1, hyes, hno⟩ := xx
    have J : Inv X pins σ' H' sI := J'.ofTry ok
    have sky' : Sky B (X.env :: X.outer) a (Zc cls d) X.env.locals s'.heap := hs ▸ sky
    show wpAny M X.A (noteFrame (.ref a) X.env) _ _ _
    refine Sky.land Zc.steady hfr hf sky' fun h3 fl3 up3 => ?_
    have J3 : Inv X pins σ' H' { s' with heap := h3 } := J.landed nb fl3.1 (up.trans up3) os ag
    obtain ⟨oe3, vs3, he3, hz3, hd3⟩ := fl3.there
    have nfr : a ∉ frs (X.env :: X.outer) := fun hm => by
      obtain ⟨_, o', e', hnf⟩ := fl3.2.2.1.mem hm
      have z : oe3 = o' := Option.some.inj (he3.symm.trans e')
      exact hnf _ (by rw [← z]; exact hd3)
    have nL : a ≠ X.env.locals := fun z => nfr (List.mem_filterMap.mpr ⟨X.env, List.mem_cons_self, by rw [z]; exact hf⟩)
    have nF : a ∉ X.fs := fun hm => nfr (by
      unfold frs
      rw [List.filterMap_cons, hf]
      exact List.mem_cons_of_mem _ hm)
    -- the exception is new
    have nI : sI.heap.get? a = none := by
      cases q : sI.heap.get? a with
      | none => rfl
      | some o =>
        have z := nb a o q (by rw [hs]; exact nfr)
        rw [fl3.2.1] at z
        cases z
    have n0 : X.s_0.heap.get? a = none := by
      cases q : X.s_0.heap.get? a with
      | none => rfl
      | some o =>
        obtain ⟨o', z⟩ := J.base.there a o q (by rw [hex]; exact fun z => nomatch z)
        rw [nI] at z
        cases z
    have nC : ∀ z k, X.env.cells.lookup z = some k → k ≠ a := fun z k e q => by
      obtain ⟨v, o, ho, _⟩ := J.cell z k e
      rw [q, nI] at ho
      cases ho
    have nP : ∀ p ∈ X.pn ++ pins, p.1 ≠ a := fun p hp q => by
      have z := (J.pin p hp).1
      rw [q, nI] at z
      cases z
    have S3 := J3.suite he3 hd3 na nL nF
    refine wpAny_handleBy_cons (codeAny_handlers_test ?_) (by intro q; cases q)
    have LT : PySem.W.Looks M h3 (typeOf (.ref a)) cls := fun A Q E s k q => wpAny_typeOf_ref (k _ _ he3) (by rw [hz3.1]; exact q)
    have LM := PySem.W.exm_one (M := M) (J3.kIn) LT hb1
    have test : ∀ {Q E : Value → Shared → Prop}, Q c { s' with heap := h3 } → wpAny M (X.A.mark (some (.ref a))) (eval (.Name x np) X.env) Q E { s' with heap := h3 } := fun {Q E} q => by
      obtain ⟨hg, hdbg, hm⟩ := hc
      rcases hm with hm | ⟨hm, hv, hnn⟩
      · exact ld_glob (X := X.suite a ((a, oe3) :: (X.pn ++ pins))) S3 hg hm q hdbg
      · exact ld_blt (X := X.suite a ((a, oe3) :: (X.pn ++ pins))) S3 hg hm hv q hnn hdbg
    refine test (LM.here ?_)
    cases b with
    | true =>
      obtain ⟨C, rfl, rfl, hgo⟩ := hyes rfl
      refine codeAny_handlers_suite_as (HandSPX.lands_againZ fl3 fun h4 fl4 up4 => ?_)
      have J4 : Inv X pins σ' H' { s' with heap := h4 } := J.landed nb fl4.1 ((up.trans up3).trans up4) os ag
      obtain ⟨oe4, vs4, he4, hz4, hd4⟩ := fl4.there
      have S4 := J4.suite he4 hd4 na nL nF
      refine store_ok (X := X.suite a ((a, oe4) :: (X.pn ++ pins))) (v := .ref a) S4 hN hi (.inl hln) rfl (fun s5 S5 => ?_) (.inr hln)
      have il : i < σ'.length := by
        rw [J.len]
        exact (List.getElem?_eq_some_iff.mp hi).1
      have run := (pss_one (ps_set (X := X.suite a ((a, oe4) :: (X.pn ++ pins))) (pos := pa) (pos' := py) hN hiy (.inl hly) (pe_var (pos := pn') hi (.inl hln) hd hcd) hsw (.inr hly))).run [] s5 _ H' { nx := fun σ6 H6 => σ6 = (σ'.set i (some (.ref a))).set iy (some (.ref a)) ∧ H6 = H', rt := fun _ _ => False } S5
        ⟨.ref a, List.getElem?_set_self il, rfl, rfl⟩
      refine wpAny_mono run (fun f s6 hsp => ?_) (fun _ _ z => False.elim z)
      cases f with
      | next =>
        obtain ⟨σ6, H6, S6, e1, e2⟩ := hsp
        subst e1 e2
        have p6 := S6.pin (a, oe4) (List.mem_append_left _ List.mem_cons_self)
        have J6 : Inv X (pins ++ [(a, oe4)]) ((σ'.set i (some (.ref a))).set iy (some (.ref a))) H6 s6 :=
          ⟨ok, S6.os, S6.bare, S6.base, S6.loc, S6.cell, S6.free, S6.freeC, fun p hp => S6.pin p (List.mem_append_left _ (by
            rw [← List.append_assoc] at hp
            rcases List.mem_append.mp hp with z | z
            · exact List.mem_cons_of_mem _ z
            · rw [List.mem_singleton.mp z]
              exact List.mem_cons_self)), S6.hok, S6.len⟩
        refine gone_ok J6 hN hi hln fun s7 J7 => ?_
        have p7 := J7.pin (a, oe4) (List.mem_append_right _ (List.mem_append_right _ List.mem_cons_self))
        have J8 : Inv X pins (((σ'.set i (some (.ref a))).set iy (some (.ref a))).set i none) H6 s7 :=
          ⟨ok, J7.os, J7.bare, J7.base, J7.loc, J7.cell, J7.free, J7.freeC, fun p hp => J7.pin p (by
            rw [← List.append_assoc]
            exact List.mem_append_left _ hp), J7.hok, J7.len⟩
        exact ⟨_, _, inv_track (u := ExH C a) J8 n0 na nL nC nP ⟨⟨oe4, vs4, p7.1, hz4, hd4⟩, ⟨oe4, p7.1⟩, fun _ _ ⟨o, v, q, r⟩ k => ⟨o, v, k o q, r⟩⟩, hgo a na⟩
      | brk =>
        obtain ⟨_, _, _, z⟩ := hsp
        exact z.elim
      | cont =>
        obtain ⟨_, _, _, z⟩ := hsp
        exact z.elim
      | ret u =>
        obtain ⟨_, _, _, _, _, z⟩ := hsp
        exact z.elim
    | false =>
      show wpAny _ X.A (handleBy (.ref a) X.env []) _ _ _
      refine wpAny_handleBy_nil ?_
      obtain ⟨k1, k2, k3, oe, vs, T, oT, ts', he, hz, hd, h1, hr⟩ := id fl3
      unfold PySem.passOn
      refine wpAny_bind (wpAny_field he hd h1 ?_)
      rw [if_neg (by simp : ¬ ((Value.ref T == Value.none) = true))]
      have fin : wpAny M X.A (setFlight (.ref a) X.env.frame) (fun _ s4 => wpAny M X.A (throw (.ref a) : Sem Flow) (SP X pins Dn) X.xe s4) X.xe { s' with heap := h3 } := by
        rw [hf]
        refine HandSPX.setFlight_upZ fl3 fun h4 hh4 up4 => wpAny_throw (tk _ _ ?_)
        exact ⟨a, B, sI, pins, σ', H', cls, d, rfl, J, nb, (up.trans up3).trans up4, .inr (.inr (hs ▸ hh4)), na, os, ag, hno rfl⟩
      first
        | exact wpAny_bind (wpAny_pure (wpAny_bind fin))
        | exact wpAny_bind fin
  refine wpAny_mono ((hb _ (X.pn ++ pins) xe tk' PassesOwn.looking).run [] s σ H Dn (I.toTry _) h) (fun f s1 hsp => ?_) (fun e s1 he => he)
  cases f with
  | next =>
    obtain ⟨σ', H', J', q⟩ := hsp
    exact wpAny_execs_nil ⟨σ', H', J'.ofTry ok, q⟩
  | brk =>
    obtain ⟨σ', H', J', q⟩ := hsp
    exact ⟨σ', H', J'.ofTry ok, q⟩
  | cont =>
    obtain ⟨σ', H', J', q⟩ := hsp
    exact ⟨σ', H', J'.ofTry ok, q⟩
  | ret u =>
    obtain ⟨v, σ', H', J', r, q⟩ := hsp
    exact ⟨v, σ', H', J'.ofTry ok, r, q⟩
end
section
variable {X : Cx} {W : WX} {ρ ρ1 : List S} {pos : Pos}
/-- raise x('m') of an own class -/
theorem ds_raise {x m : Str} {C : Addr} {k j : Nat} {p p2 p3 : Pos} (c : Cz X W k) (q : PySem.W.excIn X.K C [.type "ValueError", .type "Exception", .type "BaseException", .type "object"] "ValueError.__new__" = true) (gC : X.mg x = some (.ref C)) (kC : PySem.W.keepIn X.K (.ref C) = true)
    (b1 : PySem.W.subIn X.K (.ref C) (.type "BaseException") = some true) (t1 : PySem.W.typeIn X.K (.ref C) = some (.type "type")) (hg : Gl X x) (hdb : (x == ("__debug__" : Str)) = false := by decide) :
    DS X W (.Raise (some (.Call (.Name x p) [.Constant (.str m) j p2] [] p3)) none pos) ρ (.exc C ρ) :=
  fun w σ I H Dn ev pp => wpS_of (ps_raise c.calm c.tk (pmk_own PySem.F.excBase_ValueError q gC kC (raises_own b1 t1) hg hdb)) (pp σ I H (Same.refl I) ev)
/-- try: body / except x as n: y = n -/
theorem ds_try {x n y : Str} {cv : Value} {i iy k : Nat} {body : List Stmt} {np pos' py pn' pa : Pos} {o1 o : Oc} (c : Cz X W k) (hs : X.stack = X.env :: X.outer) (hf : X.env.frame = some X.env.locals) (hex : X.ex = [])
    (hi : X.N[i]? = some n) (hln : X.env.kindOf n = some .local) (hiy : X.N[iy]? = some y) (hly : X.env.kindOf y = some .local) (hne : i ≠ iy) (hc : Names X x cv)
    (hb : ∀ (W' : WX) (pn : List (Addr × Obj)) (xe : Value → Shared → Prop), Takes (X.tr pn xe) W' → PassesOwn (model X.prog X.w) X.A X.env xe → DSs (X.tr pn xe) W' body ρ o1)
    (ho : match o1 with
      | .exc C ρ1 => (PySem.W.exmOne X.K (.ref C) cv = some true ∧ o = .next (((ρ1.set i .no).set iy (.v (.exc C))).set i .no)) ∨ (PySem.W.exmOne X.K (.ref C) cv = some false ∧ o = .exc C ρ1)
      | o1 => o = o1)
    (hsw : swapsWith (.Name n pn') (some (.Name y py)) pa.line X.env = pure false := by rfl) (hd : (n == ("__debug__" : Str)) = false := by decide) (hcd : (n == ("__classdict__" : Str)) = false := by decide) :
    DS X W (.Try body [.ExceptHandler (some (.Name x np)) (some n) [.Assign [.Name y py] (.Name n pn') pa] pos'] [] [] pos) ρ o := fun w σ I H Dn ev p => by
  refine wpS_of (ps_try_keep (tb := fun W' => fun Dn σ H => ∀ pn xe, Takes (X.tr pn xe) W' → PassesOwn (model X.prog X.w) X.A X.env xe → wpSs (X.tr pn xe) body Dn σ H) hs hf hex c.nd hi hln hiy hly hne hc c.tk (fun W' pn xe tk po => ⟨fun pins s σ H Dn I h => h pn xe tk po pins s I⟩) hsw hd hcd) ?_
  intro pn xe tk po
  refine hb _ pn xe tk po w σ I H Dn ev ?_
  cases o1 with
  | next ρ' => cases ho; exact p
  | brk ρ' => cases ho; exact p
  | cont ρ' => cases ho; exact p
  | ret d ρ' => cases ho; exact p
  | rown d ρ' => cases ho; exact p
  | exc C ρ' =>
    intro σ' I' H' s' e'
    rcases ho with ⟨h1, rfl⟩ | ⟨h1, rfl⟩
    · refine ⟨true, h1, fun _ => ⟨C, rfl, rfl, fun a ha => ?_⟩, fun z => nomatch z⟩
      have e2 := e'.still (o := ExH C a) ha
      have sm : Same I' (upd I' a (ExH C a)) := same_upd (e'.fresh ha).2
      have e3 := e2.set_no (i := i) (x := some (.ref a))
      exact p _ (upd I' a (ExH C a)) _ (s'.trans sm) ((e3.setV (i := iy) (.exc upd_same)).wipe1)
    · exact ⟨false, h1, fun z => (nomatch z), fun _ => p σ' I' H' s' e'⟩
end
end Dt


set_option Elab.async false
set_option linter.all false
set_option maxRecDepth 100000
set_option maxHeartbeats 1000000
namespace Dt
open PySem PySem.Spec PyProof.Rows L2

/-! ### == at any depth -/
mutual
def toPy : D → PyData
  | .non => .none
  | .bl b => .bool b
  | .int i => .int i
  | .str x => .str x
  | .lst xs => .list (toPyL xs)
  | .tup xs => .tuple (toPyL xs)
  | .exc _ => .none
  | .scr _ => .none
def toPyL : List D → List PyData
  | [] => []
  | d :: r => toPy d :: toPyL r
end
mutual
def plain : D → Bool
  | .lst xs => plainL xs
  | .tup xs => plainL xs
  | .exc _ => false
  | .scr _ => false
  | _ => true
def plainL : List D → Bool
  | [] => true
  | d :: r => plain d && plainL r
end
section
variable {K : PySem.W.Frag} {H : Hp}
mutual
theorem rp_dp : ∀ (d : D) (v : V), plain d = true → Rp K H v d → Dp K H v (toPy d)
  | .non, _, _, h => by cases h; exact .non
  | .bl b, _, _, h => by cases h; exact .bl b
  | .int i, _, _, h => by cases h; exact .int i
  | .str x, _, _, h => by cases h; exact .str x
  | .lst ds, _, p, h => by
    cases h with
    | lst h1 h2 => exact .lst (.of h1) (rp_dps ds _ p h2)
  | .tup ds, _, p, h => by
    cases h with
    | tup h1 h2 => exact .tup h1 (rp_dps ds _ p h2)
  | .exc _, _, p, _ => by cases p
  | .scr _, _, p, _ => by cases p
theorem rp_dps : ∀ (ds : List D) (vs : List V), plainL ds = true → RpAll K H vs ds → DpAll K H vs (toPyL ds)
  | [], _, _, h => by cases h; exact .nil
  | d :: ds, _, p, h => by
    cases h with
    | cons h1 h2 =>
      have p : (plain d && plainL ds) = true := p
      rw [Bool.and_eq_true] at p
      exact .cons (rp_dp d _ p.1 h1) (rp_dps ds _ p.2 h2)
end
end
section
variable {X : Cx} {W : WX} {ρ ρ1 ρ2 ρ3 : List S} {pos : Pos} {a b c e : Expr} {es : List Expr} {d d1 d2 : D} {ds : List D} {k : Nat}
def eqD (d1 d2 : D) : Bool := PyData.eqv (toPy d1) (toPy d2)
def okD (d : D) : Bool := plain d && SeqAt.shaped (toPy d)
theorem okD_p {d : D} (h : okD d = true) : plain d = true ∧ SeqAt.shaped (toPy d) = true := by
  unfold okD at h
  rwa [Bool.and_eq_true] at h
theorem de_eqD (cz : Cz X W k) (h1 : okD d1 = true) (h2 : okD d2 = true) (ha : DE X W a ρ (.val d1 ρ1)) (hb : DE X W b ρ1 (.val d2 ρ2)) : DE X W (.Compare a [.Eq] [b] pos) ρ (.val (.bl (eqD d1 d2)) ρ2) :=
  de2 (pe_cmpR (op_eqD cz.rm.units) pe_wp pe_wp (nomark _)) ha hb fun I H v1 v2 Q s r1 r2 q => ⟨_, _, rp_dp _ _ (okD_p h1).1 (r1.up s), rp_dp _ _ (okD_p h2).1 (r2.up s), (okD_p h1).2, (okD_p h2).2, q _ (.bl _)⟩
theorem dt_eqD (cz : Cz X W k) (h1 : okD d1 = true) (h2 : okD d2 = true) (ha : DE X W a ρ (.val d1 ρ1)) (hb : DE X W b ρ1 (.val d2 ρ2)) : DT X W (.Compare a [.Eq] [b] pos) ρ (eqD d1 d2) ρ2 :=
  dt2 (pt_cmpR (op_eqD cz.rm.units) pe_wp pe_wp (nomark _)) ha hb fun I H v1 v2 Q s r1 r2 q => ⟨_, _, rp_dp _ _ (okD_p h1).1 (r1.up s), rp_dp _ _ (okD_p h2).1 (r2.up s), (okD_p h1).2, (okD_p h2).2, q _ (.bl _)⟩
theorem dt_neD (cz : Cz X W k) (h1 : okD d1 = true) (h2 : okD d2 = true) (ha : DE X W a ρ (.val d1 ρ1)) (hb : DE X W b ρ1 (.val d2 ρ2)) : DT X W (.Compare a [.NotEq] [b] pos) ρ (!eqD d1 d2) ρ2 :=
  dt2 (pt_cmpR (op_neD cz.rm.units) pe_wp pe_wp (nomark _)) ha hb fun I H v1 v2 Q s r1 r2 q => ⟨_, _, rp_dp _ _ (okD_p h1).1 (r1.up s), rp_dp _ _ (okD_p h2).1 (r2.up s), (okD_p h1).2, (okD_p h2).2, q _ (.bl _)⟩
/-- bools compared -/
theorem dt_neB {i j : Bool} (ha : DE X W a ρ (.val (.bl i) ρ1)) (hb : DE X W b ρ1 (.val (.bl j) ρ2)) : DT X W (.Compare a [.NotEq] [b] pos) ρ (!decide (i = j)) ρ2 :=
  dt2 (pt_cmpR op_ne pe_wp pe_wp (nomark _)) ha hb fun I H v1 v2 Q s r1 r2 q => by cases r1; cases r2; exact ⟨rfl, by rw [dec_vbl]; exact q _ (.bl _)⟩
theorem de_eqB {i j : Bool} (ha : DE X W a ρ (.val (.bl i) ρ1)) (hb : DE X W b ρ1 (.val (.bl j) ρ2)) : DE X W (.Compare a [.Eq] [b] pos) ρ (.val (.bl (decide (i = j))) ρ2) :=
  de2 (pe_cmpR op_eq pe_wp pe_wp (nomark _)) ha hb fun I H v1 v2 Q s r1 r2 q => by cases r1; cases r2; exact ⟨rfl, by rw [dec_vbl]; exact q _ (.bl _)⟩
/-! ### lists: +, *, in, count, index -/
theorem de_cat {ds es : List D} (hl : ds.length + es.length ≤ sizeLine) (ha : DE X W a ρ (.val (.lst ds) ρ1)) (hb : DE X W b ρ1 (.val (.lst es) ρ2)) : DE X W (.BinOp a .Add b pos) ρ (.own (.lst (ds ++ es)) ρ2) :=
  de2L (pe_op op_cat pe_wp pe_wp) ha hb fun I H v1 v2 Q s r1 r2 q => by
    obtain ⟨x, xs, rfl, h1, h2⟩ := rpl_tr r1
    obtain ⟨y, ys, rfl, h3, h4⟩ := rpl_tr r2
    exact ⟨x, y, xs, ys, rfl, rfl, s _ _ h1, s _ _ h3, by rw [h2.length, h4.length]; exact hl, fun p hp => q p _ hp (h2.append h4)⟩
theorem RpAll.rep {K : PySem.W.Frag} {I : Hp} {vs : List V} {ds : List D} (h : RpAll K I vs ds) : ∀ n : Nat, RpAll K I (List.replicate n vs).flatten (List.replicate n ds).flatten
  | 0 => .nil
  | n + 1 => by
    rw [List.replicate_succ, List.replicate_succ, List.flatten_cons, List.flatten_cons]
    exact h.append (h.rep n)
theorem de_rep {i : Int} (h1 : -(2 ^ 63) ≤ i) (h2 : i < 2 ^ 63) (hl : ds.length * i.toNat ≤ sizeLine) (ha : DE X W a ρ (.val (.lst ds) ρ1)) (hb : DE X W b ρ1 (.val (.int i) ρ2)) : DE X W (.BinOp a .Mult b pos) ρ (.own (.lst (List.replicate i.toNat ds).flatten) ρ2) :=
  de2L (pe_op op_rep pe_wp pe_wp) ha hb fun I H v1 v2 Q s r1 r2 q => by
    obtain ⟨x, xs, rfl, g1, g2⟩ := rpl_tr r1
    cases r2
    exact ⟨x, i, xs, rfl, rfl, s _ _ g1, h1, h2, by rw [g2.length]; exact hl, fun p hp => q p _ hp (g2.rep _)⟩
theorem str_ext {x y : Str} (h : x.cps.toList = y.cps.toList) : x = y := Str.ext' (Array.toList_inj.mp h)
/-- a text times a number -/
def repS (z : Str) (n : Nat) : Str := ⟨(List.replicate n z.cps.toList).flatten.toArray⟩
theorem fold_app (xs : Array Nat) : ∀ (n : Nat) (acc : Array Nat), ((List.replicate n xs).foldl (· ++ ·) acc).toList = acc.toList ++ (List.replicate n xs.toList).flatten
  | 0, acc => by simp
  | n + 1, acc => by
    rw [List.replicate_succ, List.foldl_cons, fold_app xs n, List.replicate_succ, List.flatten_cons, Array.toList_append, List.append_assoc]
theorem op_mulS : OpR X (binaryOp .Mult) (fun x y H Q => ∃ (z : Str) (n : Nat), x = .str z ∧ y = .int (n : Int) ∧ z.length * n ≤ 1000000 ∧ n ≤ 1000000 ∧ Q (.str (repS z n)) H) := by
  intro pins s σ H x y v u Q I rx ry h
  obtain ⟨z, n, rfl, rfl, h1, h2, q⟩ := h
  obtain ⟨t, rfl⟩ := rx
  obtain ⟨t', rfl⟩ := ry
  have hs : sizeLine = 16777216 := sizeLine_eq
  refine PySem.P.mul_str ?_ (fun h3 h4 => ?_) (fun h3 h4 => ?_) ?_
  · have g1 : ¬ ((n : Int) < -(2 ^ 63 : Int)) := by omega
    have g2 : ¬ ((n : Int) ≥ 2 ^ 63) := by omega
    rw [decide_eq_false g1, decide_eq_false g2]
    rfl
  · have g3 : (1000000 : Int) ≤ (2 ^ 63 - 1) / (n : Int) := by
      rw [Int.le_ediv_iff_mul_le (by omega)]
      omega
    have g5 : z.length ≤ 1000000 := by
      have : z.length * 1 ≤ z.length * n := Nat.mul_le_mul_left _ (by omega)
      omega
    omega
  · show decide (z.length * (n : Int).toNat > sizeLine) = false
    refine decide_eq_false ?_
    rw [Int.toNat_natCast]
    omega
  · have len : (repS z n).length = z.length * n := by
      show ((List.replicate n z.cps.toList).flatten.toArray).size = z.cps.size * n
      rw [List.size_toArray, PyProof.Rows.lm_len_rep_flat, Array.length_toList, Nat.mul_comm]
    have fin : ∀ (u : Str) (tk : Tok) (k' : Nat), u = repS z n → EP X pins σ Q (.str u tk) { s with toks := k' } := fun u tk k' e => ⟨.str u, H, I.tok _, ⟨tk, rfl⟩, by rw [e]; exact q⟩
    by_cases h0 : (n : Int) < 1
    · rw [if_pos h0]
      have n0 : n = 0 := by omega
      subst n0
      exact ⟨by decide, fin _ _ _ rfl⟩
    · rw [if_neg h0]
      by_cases h5 : ((n : Int) == 1 || z.length == 0) = true
      · rw [if_pos h5]
        refine fin _ _ s.toks (str_ext ?_)
        show z.cps.toList = (List.replicate n z.cps.toList).flatten
        rw [Bool.or_eq_true, beq_iff_eq, beq_iff_eq] at h5
        rcases h5 with h5 | h5
        · have : n = 1 := by omega
          subst this
          simp
        · have : z.cps.toList = [] := List.length_eq_zero_iff.mp (by rw [Array.length_toList]; exact h5)
          rw [this]
          simp
      · rw [if_neg h5]
        have e : (⟨(List.replicate (n : Int).toNat z.cps).foldl (· ++ ·) #[]⟩ : Str) = repS z n := str_ext (by
          show ((List.replicate (n : Int).toNat z.cps).foldl (· ++ ·) #[]).toList = (List.replicate n z.cps.toList).flatten
          rw [fold_app, Int.toNat_natCast]
          rfl)
        rw [e]
        exact ⟨by rw [len]; omega, fin _ _ _ rfl⟩
theorem de_mulS {z : Str} {n : Nat} (h1 : z.length * n ≤ 1000000) (h2 : n ≤ 1000000) (ha : DE X W a ρ (.val (.str z) ρ1)) (hb : DE X W b ρ1 (.val (.int (n : Int)) ρ2)) : DE X W (.BinOp a .Mult b pos) ρ (.val (.str (repS z n)) ρ2) :=
  de2 (pe_op op_mulS pe_wp pe_wp) ha hb fun I H v1 v2 Q s r1 r2 q => by cases r1; cases r2; exact ⟨z, n, rfl, rfl, h1, h2, q _ (.str _)⟩
/-! ### in -/
def flatD : D → Bool
  | .non | .bl _ | .int _ | .str _ => true
  | _ => false
def eqF (x y : D) : Bool := PyData.eqv (toPy x) (toPy y)
theorem rp_flat {K : PySem.W.Frag} {I : Hp} {v : V} {d : D} (h : Rp K I v d) (f : flatD d = true) : flatV v = true := by cases h <;> first | rfl | exact absurd f Bool.false_ne_true
theorem rp_eqV {K : PySem.W.Frag} {I : Hp} {v u : V} {d e : D} (h : Rp K I v d) (h' : Rp K I u e) (f : flatD d = true) (f' : flatD e = true) : eqV v u = eqF d e := by
  cases h <;> first | exact absurd f Bool.false_ne_true | skip
  all_goals (cases h' <;> first | exact absurd f' Bool.false_ne_true | rfl | (simp only [eqF, toPy, PyData.eqv, eqV]))
theorem rp_flats {K : PySem.W.Frag} {I : Hp} : ∀ {vs : List V} {ds : List D}, RpAll K I vs ds → ds.all flatD = true → vs.all flatV = true
  | _, _, .nil, _ => rfl
  | _, _, .cons r t, f => by
    rw [List.all_cons, Bool.and_eq_true] at f ⊢
    exact ⟨rp_flat r f.1, rp_flats t f.2⟩
def inF (x : D) (ds : List D) : Bool := ds.any fun y => eqF y x
theorem rp_inV {K : PySem.W.Frag} {I : Hp} {v : V} {d : D} (h : Rp K I v d) (f : flatD d = true) : ∀ {vs : List V} {ds : List D}, RpAll K I vs ds → ds.all flatD = true → inV v vs = inF d ds
  | _, _, .nil, _ => rfl
  | _, _, .cons r t, g => by
    rw [List.all_cons, Bool.and_eq_true] at g
    have ih := rp_inV h f t g.2
    unfold inV inF at ih ⊢
    rw [List.any_cons, List.any_cons, ih, rp_eqV r h g.1 f]
theorem dt_inL (h1 : flatD d = true) (h2 : ds.all flatD = true) (ha : DE X W a ρ (.val d ρ1)) (hb : DE X W b ρ1 (.val (.lst ds) ρ2)) (hm : behindInMarks .In b = false := by rfl) : DT X W (.Compare a [.In] [b] pos) ρ (inF d ds) ρ2 :=
  dt2 (pt_cmpR op_in_seq pe_wp pe_wp hm) ha hb fun I H v1 v2 Q s r1 r2 q => by
    obtain ⟨x, xs, rfl, g1, g2⟩ := rpl_tr r2
    refine ⟨x, xs, rfl, .inl (.of (s _ _ g1)), rp_flat r1 h1, rp_flats g2 h2, ?_⟩
    rw [if_neg Bool.false_ne_true, rp_inV r1 h1 g2 h2]
    exact q _ (.bl _)
theorem dt_notInL (h1 : flatD d = true) (h2 : ds.all flatD = true) (ha : DE X W a ρ (.val d ρ1)) (hb : DE X W b ρ1 (.val (.lst ds) ρ2)) (hm : behindInMarks .NotIn b = false := by rfl) : DT X W (.Compare a [.NotIn] [b] pos) ρ (!inF d ds) ρ2 :=
  dt2 (pt_cmpR op_notIn_seq pe_wp pe_wp hm) ha hb fun I H v1 v2 Q s r1 r2 q => by
    obtain ⟨x, xs, rfl, g1, g2⟩ := rpl_tr r2
    refine ⟨x, xs, rfl, .inl (.of (s _ _ g1)), rp_flat r1 h1, rp_flats g2 h2, ?_⟩
    rw [if_pos rfl, rp_inV r1 h1 g2 h2]
    exact q _ (.bl _)
theorem dt_inT (h1 : flatD d = true) (h2 : ds.all flatD = true) (ha : DE X W a ρ (.val d ρ1)) (hb : DE X W b ρ1 (.val (.tup ds) ρ2)) (hm : behindInMarks .In b = false := by rfl) : DT X W (.Compare a [.In] [b] pos) ρ (inF d ds) ρ2 :=
  dt2 (pt_cmpR op_in_seq pe_wp pe_wp hm) ha hb fun I H v1 v2 Q s r1 r2 q => by
    obtain ⟨x, xs, rfl, g1, g2⟩ := rpt_of r2
    refine ⟨x, xs, rfl, .inr (same_t s g1), rp_flat r1 h1, rp_flats g2 h2, ?_⟩
    rw [if_neg Bool.false_ne_true, rp_inV r1 h1 g2 h2]
    exact q _ (.bl _)
/-! ### list methods that only read -/
def rCntF (K : PySem.W.Frag) : V → List V → Hp → VK → Prop := fun x xs H Q => ∃ (p : Addr) (ys : List V) (y : V), x = .ref p ∧ xs = [y] ∧ SqL K H p ys ∧ flatV y = true ∧ ys.all flatV = true ∧ Q (.int ((ys.countP fun z => eqV z y : Nat) : Int)) H
theorem cnt_of {y : V} : ∀ {ys : List V} {us : List Value}, Vals ys us → ys.all flatV = true → us.countP (eqU y) = ys.countP fun z => eqV z y
  | _, _, .nil, _ => rfl
  | _, _, .cons r t, f => by
    rw [List.all_cons, Bool.and_eq_true] at f
    rw [List.countP_cons, List.countP_cons, cnt_of t f.2, eqU_of r f.1]
theorem mt_cntF : MtR X "list.count" (rCntF X.K) := by
  intro pins s σ H x xs v us Q I rx rxs h
  obtain ⟨p, ys, y, rfl, rfl, hs, f1, f2, q⟩ := h
  cases rx
  obtain ⟨u, rfl, ru⟩ := rxs.one
  obtain ⟨its, rv, ⟨⟨cls, dd, data, sl⟩, n, ho, hc, hdn, hd⟩, hlen⟩ := I.list hs
  simp only at hc hd
  subst hc hd
  refine call_meets PySem.F.slot_list_count ⟨_, ho, rfl⟩ PySem.F.entry_list_count (PySem.F.args_list_count_2 _ _)
    (SeqAt.list_countAt p its.toArray n dd sl u (eqU y)) ⟨ho, fun z hz => mem_eqAt ru f1 rv f2 z (by simpa using hz), ?_⟩
  refine ⟨.int _, H, I.tok _, ⟨s.toks, rfl⟩, ?_⟩
  have e : its.toArray.toList.countP (eqU y) = ys.countP fun z => eqV z y := cnt_of rv f2
  rw [e]
  exact q
theorem rp_cnt {K : PySem.W.Frag} {I : Hp} {v : V} {d : D} (h : Rp K I v d) (f : flatD d = true) : ∀ {vs : List V} {ds : List D}, RpAll K I vs ds → ds.all flatD = true → (vs.countP fun z => eqV z v) = ds.countP fun z => eqF z d
  | _, _, .nil, _ => rfl
  | _, _, .cons r t, g => by
    rw [List.all_cons, Bool.and_eq_true] at g
    rw [List.countP_cons, List.countP_cons, rp_cnt h f t g.2, rp_eqV r h g.1 f]
/-- a list's method with one argument -/
theorem de_lm {name : Str} {id : String} {r : V → List V → Hp → VK → Prop} {o : Expr} {apos cpos : Pos} {d1 d2 : D} (slot : Slot "list" name id) (hty : typeOf (.builtin id) = pure (.type "method_descriptor")) (hm : MtR X id r)
    (ho : DB X W o ρ (.lst ds) ρ) (ha : DE X W a ρ (.val d1 ρ)) (hp : ∀ (H : Hp) (v u : V) (Q : VK), Rp X.K H v (.lst ds) → Rp X.K H u d1 → (∀ z, (∀ I, Rp X.K I z d2) → Q z H) → r v [u] H Q)
    (hpure : ∀ w σ I H (Q : VK), Ev X.K w I H σ ρ → (∀ v, Rp X.K H v d1 → Q v H) → wpE X a σ H Q)
    (hbase : attributeBase o name X.env (eval o X.env) = eval o X.env := by rfl)
    (hfew : ((backTo cpos (starEach [a] X.env)).all (fun x => !x.1) && (backToKw cpos (keywordEach [] X.env)).all (fun x => x.1.isSome)
      && decide (([a] : List Expr).length + ([] : List Keyword).length + (if ([] : List Keyword).isEmpty then 0 else 1) < 30)) = true := by rfl)
    (hline : (apos.endLine == cpos.line) = true := by rfl) (hs : starEach [a] X.env = (false, eval a X.env) :: starEach [] X.env := by rfl) :
    DE X W (.Call (.Attribute o name apos) [a] [] cpos) ρ (.val d2 ρ) :=
  fun w σ I H Q ev p => wpE_of (pe_bm PySem.F.plainAttrs_list slot hty hm pe_wp (pa_cons pe_wp pa_nil hs) hbase hfew hline hs rfl) (ho w σ I H _ ev fun v I1 H1 s1 e1 r1 => by
    obtain ⟨x, xs, rfl, g1, g2⟩ := rpl_tr r1
    exact ⟨.inl ⟨rfl, xs, .of g1⟩, hpure w σ I1 H1 _ e1 fun u ru => hp H1 _ u Q r1 ru fun z rz => p z I1 H1 s1 e1 (rz I1)⟩)
theorem pure_bl {k' : Bool} {j : Nat} {p : Pos} : ∀ w σ I H (Q : VK), Ev X.K w I H σ ρ → (∀ v, Rp X.K H v (.bl k') → Q v H) → wpE X (.Constant (.bool k') j p) σ H Q := fun w σ I H Q e q => wpE_of pe_bl (q _ (.bl k'))
theorem de_cntB {o : Expr} {apos cpos p : Pos} {k' : Bool} {j : Nat} (hf : ds.all flatD = true) (ho : DB X W o ρ (.lst ds) ρ) (hbase : attributeBase o "count" X.env (eval o X.env) = eval o X.env := by rfl) (hline : (apos.endLine == cpos.line) = true := by rfl) :
    DE X W (.Call (.Attribute o "count" apos) [.Constant (.bool k') j p] [] cpos) ρ (.val (.int ((ds.countP fun z => eqF z (.bl k') : Nat) : Int)) ρ) :=
  de_lm (d1 := .bl k') PySem.F.slot_list_count PySem.F.type_list_count mt_cntF ho de_bl (fun H v u Q r1 r2 q => by
    obtain ⟨x, xs, rfl, g1, g2⟩ := rpl_tr r1
    refine ⟨x, xs, u, rfl, rfl, .of g1, rp_flat r2 rfl, rp_flats g2 hf, ?_⟩
    rw [rp_cnt r2 rfl g2 hf]
    exact q _ fun I => .int _) pure_bl hbase rfl hline rfl
theorem de_idxB {o : Expr} {apos cpos p : Pos} {k' : Bool} {j n : Nat} (hf : ds.all flatD = true) (hn : (ds.findIdx? fun z => eqF z (.bl k')) = some n) (ho : DB X W o ρ (.lst ds) ρ) (hbase : attributeBase o "index" X.env (eval o X.env) = eval o X.env := by rfl) (hline : (apos.endLine == cpos.line) = true := by rfl) :
    DE X W (.Call (.Attribute o "index" apos) [.Constant (.bool k') j p] [] cpos) ρ (.val (.int (n : Int)) ρ) :=
  de_lm (d1 := .bl k') PySem.F.slot_list_index PySem.F.type_list_index mt_index ho de_bl (fun H v u Q r1 r2 q => by
    obtain ⟨x, xs, rfl, g1, g2⟩ := rpl_tr r1
    rw [List.findIdx?_eq_some_iff_getElem] at hn
    obtain ⟨hl, h1, h2⟩ := hn
    obtain ⟨z, hz, rz⟩ := g2.get (List.getElem?_eq_getElem hl)
    have fz : flatD ds[n] = true := List.all_eq_true.mp hf _ (List.getElem_mem hl)
    refine ⟨x, xs, u, n, z, rfl, rfl, .of g1, rp_flat r2 rfl, rp_flats g2 hf, hz, by rw [rp_eqV rz r2 fz rfl]; exact h1, fun m z' hm hz' => ?_, q _ fun I => .int _⟩
    obtain ⟨d', hd', rd'⟩ := g2.getV hz'
    obtain ⟨hl', e'⟩ := List.getElem?_eq_some_iff.mp hd'
    have fz' : flatD d' = true := List.all_eq_true.mp hf _ (List.mem_of_getElem? hd')
    rw [rp_eqV rd' r2 fz' rfl]
    have := h2 m hm
    rw [e'] at this
    simpa using this) pure_bl hbase rfl hline rfl
end
end Dt


set_option Elab.async false
set_option linter.all false
set_option maxRecDepth 100000
set_option maxHeartbeats 1000000
namespace Dt
open PySem PySem.Spec PyProof.Rows L2
section
variable {X : Cx} {W : WX} {ρ ρ1 ρ2 ρ3 : List S} {pos : Pos} {a b c e : Expr} {es : List Expr} {d d1 d2 : D} {ds : List D} {k : Nat}
/-! ### a dict of the module with text keys -/
section
variable {dk : Addr} {ens : Array DictEntry} {n : Nat} {x : Str} {z : Str} {p : Pos}
theorem dt_notInK {r : Option Value} (T : KDict X.K X.w dk ens n) (hg : Gl X x) (hm : X.mg x = some (.ref dk)) (hz : PySem.W.nsIn X.K dk z = some r) (ha : DE X W a ρ (.val (.str z) ρ1)) (hd : (x == ("__debug__" : Str)) = false := by decide) (hb : behindInMarks .NotIn (.Name x p) = false := by rfl) :
    DT X W (.Compare a [.NotIn] [.Name x p] pos) ρ (!r.isSome) ρ1 :=
  fun w σ I H Q ev q => wpT_of (pt_cmpR (op_notIn_kd T) pe_wp (pe_glob (v := .ref dk) hg hm rfl hd) hb) (ha w σ I H _ ev fun v I1 H1 s1 e1 r1 => by
    cases r1
    exact ⟨z, r, rfl, rfl, hz, _, rfl, q I1 H1 s1 e1⟩)
theorem ix_kd (T : KDict X.K X.w dk ens n) : IxR X (fun x y H Q => ∃ (z : Str) (u0 : Value) (v0 : V), x = .ref dk ∧ y = .str z ∧ PySem.W.nsIn X.K dk z = some (some u0) ∧ RelV v0 u0 ∧ Q v0 H) := by
  intro value slice pins s σ H x y v u Q I rx ry h hs
  have rx' := rx
  obtain ⟨z, u0, v0, rfl, rfl, e, r, q⟩ := id h
  cases rx'
  exact tail_any (kd_type T I) PySem.F.slot_dict_getitem.lookup (op_item_kd T pins s σ H _ _ _ _ Q I rx ry h) hs
theorem de_itemK {u0 : Value} {v0 : V} {d0 : D} (T : KDict X.K X.w dk ens n) (hg : Gl X x) (hm : X.mg x = some (.ref dk)) (hz : PySem.W.nsIn X.K dk z = some (some u0)) (hr : RelV v0 u0) (hq : ∀ I, Rp X.K I v0 d0) (ha : DE X W a ρ (.val (.str z) ρ1)) (hs : PlainIx a := by exact fun _ _ => rfl) (hd : (x == ("__debug__" : Str)) = false := by decide) :
    DE X W (.Subscript (.Name x p) a pos) ρ (.val d0 ρ1) :=
  fun w σ I H Q ev q => wpE_of (pe_ix (ix_kd T) (pe_glob (v := .ref dk) hg hm rfl hd) pe_wp hs) (ha w σ I H _ ev fun v I1 H1 s1 e1 r1 => by
    cases r1
    exact ⟨z, u0, v0, rfl, rfl, hz, hr, q v0 I1 H1 s1 e1 (hq I1)⟩)
end
/-! ### isinstance of a caught error -/
theorem call_isH {D0 : Addr} (C : ExcC X.K D0) : CallR X (.builtin "isinstance") (fun xs H Q => ∃ (a : Addr) (c : V) (cv : Value) (b : Bool), xs = [.ref a, c] ∧ H a = some (ExH D0 a) ∧ (∀ u, RelV c u → u = cv) ∧ PySem.W.kitOne X.K (.ref D0) cv = some b ∧ Q (.bl b) H) := by
  intro pins s σ H xs us Q I r h
  obtain ⟨a, c, cv, b, rfl, ha, hcv, e, q⟩ := h
  obtain ⟨u1, u2, rfl, r1, r2⟩ := r.two
  cases r1
  have ec := hcv _ r2
  subst ec
  obtain ⟨⟨oe, vs, hget, hz, hv⟩, _, _⟩ := (I.hok a _ ha : ObjOk X.prog X.w H s.heap a (ExH D0 a))
  have J : PySem.W.InstAt s.heap a oe D0 none := by
    obtain ⟨oc, od, oda, osl⟩ := oe
    obtain ⟨h1, h2⟩ := hz
    dsimp only at h1 h2 hv
    subst h1 h2 hv
    exact ⟨hget, rfl, rfl, trivial⟩
  exact PySem.W.kia_one (PySem.W.handS_kitx_exc C.hg C.hk C.hs C.hd C.ha C.hn C.ht C.hm) I.kIn J e (fun z => nomatch z) fun tk => ⟨.bl b, H, I.kept (t' := tk) fun _ _ z => z, rfl, q⟩
theorem de_isiO {D0 E0 : Addr} {p p2 : Pos} {x : Str} {k' : Bool} (C : ExcC X.K D0) (hk : PySem.W.kitOne X.K (.ref D0) (.ref E0) = some k') (hx : Blt X "isinstance" (.builtin "isinstance")) (hg : Gl X x) (hm : X.mg x = some (.ref E0)) (ha : DE X W a ρ (.val (.exc D0) ρ1))
    (he : starEach [a, .Name x p2] X.env = (false, eval a X.env) :: starEach [.Name x p2] X.env := by rfl) (hd : (x == ("__debug__" : Str)) = false := by decide) :
    DE X W (.Call (.Name "isinstance" p) [a, .Name x p2] [] pos) ρ (.val (.bl k') ρ1) :=
  fun w σ I H Q ev q => wpE_of (pe_callB (call_isH C) hx.g hx.m hx.v (pa_cons pe_wp (pa_cons (pe_glob (v := .ref E0) hg hm rfl hd) pa_nil) he) hx.n hx.d he)
    (ha w σ I H _ ev fun v I1 H1 s1 e1 r1 => by
      cases r1 with
      | exc h1 => exact ⟨_, .ref E0, .ref E0, k', rfl, e1.sub _ _ h1, fun u z => z, hk, q _ I1 H1 s1 e1 (.bl k')⟩)
theorem de_isiV {D0 : Addr} {p p2 : Pos} {x : Str} {y : String} {k' : Bool} (C : ExcC X.K D0) (hk : PySem.W.kitOne X.K (.ref D0) (.type y) = some k') (hx : Blt X "isinstance" (.builtin "isinstance")) (hy : Blt X x (.type y)) (ha : DE X W a ρ (.val (.exc D0) ρ1))
    (he : starEach [a, .Name x p2] X.env = (false, eval a X.env) :: starEach [.Name x p2] X.env := by rfl) :
    DE X W (.Call (.Name "isinstance" p) [a, .Name x p2] [] pos) ρ (.val (.bl k') ρ1) :=
  fun w σ I H Q ev q => wpE_of (pe_callB (call_isH C) hx.g hx.m hx.v (pa_cons pe_wp (pa_cons (pe_bltn (v := .ty y) hy.g hy.m hy.v rfl hy.n hy.d) pa_nil) he) hx.n hx.d he)
    (ha w σ I H _ ev fun v I1 H1 s1 e1 r1 => by
      cases r1 with
      | exc h1 => exact ⟨_, .ty y, .type y, k', rfl, e1.sub _ _ h1, fun u z => z, hk, q _ I1 H1 s1 e1 (.bl k')⟩)
/-! ### insert -/
theorem ds_insert {i : Nat} {x : Str} {kk : Option Nat} {n : Nat} {apos cpos npos : Pos} (hi : X.N[i]? = some x) (hv : Vis X.env.scope x) (ha : DE X W a ρ (.val (.int (n : Int)) ρ1)) (hb : DE X W b ρ1 (.val d ρ2)) (hq : ρ2[i]? = some (.own kk (.lst ds))) (hq0 : ∃ k0 o0, ρ[i]? = some (S.own k0 o0)) (hl : ds.length < sizeLine) (hn : n < 2 ^ 63)
    (hd : (x == ("__debug__" : Str)) = false := by decide) (hcd : (x == ("__classdict__" : Str)) = false := by decide)
    (hfew : ((backTo cpos (starEach [a, b] X.env)).all (fun x => !x.1) && (backToKw cpos (keywordEach [] X.env)).all (fun x => x.1.isSome)
      && decide (([a, b] : List Expr).length + ([] : List Keyword).length + (if ([] : List Keyword).isEmpty then 0 else 1) < 30)) = true := by rfl)
    (hline : (apos.endLine == cpos.line) = true := by rfl) (hs : starEach [a, b] X.env = (false, eval a X.env) :: starEach [b] X.env := by rfl) (hs2 : starEach [b] X.env = (false, eval b X.env) :: starEach [] X.env := by rfl) (hpl : (backTo cpos (starEach [b] X.env)).any (·.1) = false := by rfl)
    (hsw : swapsWith (.Call (.Attribute (.Name x npos) "insert" apos) [a, b] [] cpos) none pos.line X.env = pure false := by rfl) :
    DS X W (.Expr (.Call (.Attribute (.Name x npos) "insert" apos) [a, b] [] cpos) pos) ρ (.next (ρ2.set i (.own kk (.lst (ds.take n ++ [d] ++ ds.drop n))))) :=
  fun w σ I H Dn ev p => wpS_of (ps_expr (pe_bm PySem.F.plainAttrs_list PySem.F.slot_list_insert PySem.F.type_list_insert mt_insert (pe_var hi hv hd hcd) (pa_cons pe_wp (pa_cons pe_wp pa_nil hs2) hs) rfl hfew hline hs hpl) hsw) (by
    obtain ⟨k0, ⟨ds0⟩, hq0⟩ := hq0
    obtain ⟨l, vs, h1, h2, h3, h4, _⟩ := ev.change (es := ds0) hq0
    refine ⟨.ref l, h1, .inl ⟨rfl, vs, .of h2⟩, ha w σ I H _ ev fun v I1 H1 s1 e1 r => hb w σ I1 H1 _ e1 fun u I2 H2 s2 e2 r2 => ?_⟩
    cases r
    obtain ⟨a', vs', g1, g2, g3, g4, g5⟩ := e2.change (es := ds.take n ++ [d] ++ ds.drop n) hq
    rw [h1] at g1
    cases g1
    refine ⟨l, vs', (n : Int), u, rfl, rfl, g2, by rw [g4.length]; exact hl, by omega, by omega, p _ I2 _ (s1.trans s2) (g5 _ ?_)⟩
    rw [Int.toNat_natCast]
    exact ((g4.take n).append (.one r2)).append (g4.drop n))
/-! ### texts -/
/-- x <= y <= z -/
theorem dt_chainS {x y z : Str} {op op' : CmpOp} {k1 k2 : Bool} (h : cmpS op x y = some k1) (h' : cmpS op' y z = some k2) (ha : DE X W a ρ (.val (.str x) ρ)) (hb : DE X W b ρ (.val (.str y) ρ)) (hc : DE X W c ρ (.val (.str z) ρ)) (hm : lastMarks [op, op'] [b, c] = false := by with_unfolding_all rfl) : DT X W (.Compare a [op, op'] [b, c] pos) ρ (k1 && k2) ρ := by
  obtain ⟨r, h1, h2⟩ := cmpS_op (X := X) h
  obtain ⟨r', h1', h2'⟩ := cmpS_op (X := X) h'
  refine fun w σ I H Q e p => wpT_of (pt_chain h1 h1' pe_wp pe_wp pe_wp hm) ?_
  refine ha w σ I H _ e fun v1 I1 H1 s1 e1 r1 => hb w σ I1 H1 _ e1 fun v2 I2 H2 s2 e2 r2 => h2 I2 H2 v1 v2 _ e2.sub (r1.up s2) r2 fun v rv => ?_
  cases rv
  refine ⟨k1, rfl, ?_⟩
  cases k1 with
  | true =>
    refine hc w σ I2 H2 _ e2 fun v3 I3 H3 s3 e3 r3 => h2' I3 H3 v2 v3 _ e3.sub (r2.up s3) r3 fun v rv => ?_
    cases rv
    exact ⟨_, rfl, p I3 H3 ((s1.trans s2).trans s3) e3⟩
  | false => exact ⟨false, rfl, p I2 H2 (s1.trans s2) e2⟩
section
variable {o : Expr} {apos cpos : Pos} {z y : Str}
theorem de_sw3 {i : Int} (ho : DE X W o ρ (.val (.str z) ρ1)) (ha : DE X W a ρ1 (.val (.str y) ρ2)) (hb : DE X W b ρ2 (.val (.int i) ρ3))
    (hbase : attributeBase o "startswith" X.env (eval o X.env) = eval o X.env := by rfl) (hfew : ((backTo cpos (starEach [a, b] X.env)).all (fun x => !x.1) && (backToKw cpos (keywordEach [] X.env)).all (fun x => x.1.isSome)
      && decide (([a, b] : List Expr).length + ([] : List Keyword).length + (if ([] : List Keyword).isEmpty then 0 else 1) < 30)) = true := by rfl)
    (hline : (apos.endLine == cpos.line) = true := by rfl) (hs : starEach [a, b] X.env = (false, eval a X.env) :: starEach [b] X.env := by rfl) (hs2 : starEach [b] X.env = (false, eval b X.env) :: starEach [] X.env := by rfl) (hpl : (backTo cpos (starEach [b] X.env)).any (·.1) = false := by rfl) :
    DE X W (.Call (.Attribute o "startswith" apos) [a, b] [] cpos) ρ (.val (.bl (Txt.startswith3 z y i)) ρ3) :=
  de_bm PySem.F.slot_str_startswith PySem.F.type_str_startswith mt_startswith3 ho (dab_of (da_cons ha (da_cons hb da_nil hs2) hs)) (fun H v vs Q r1 r2 q => by
    cases r1
    obtain ⟨v1, v2, rfl, g1, g2⟩ := all2 r2
    cases g1
    cases g2
    exact ⟨z, y, i, rfl, rfl, q _ fun I => .bl _⟩) hbase hfew hline hs hpl
theorem de_lstripC (hl : z.length ≤ sizeLine) (ho : DE X W o ρ (.val (.str z) ρ1)) (ha : DE X W a ρ1 (.val (.str y) ρ2))
    (hbase : attributeBase o "lstrip" X.env (eval o X.env) = eval o X.env := by rfl) (hfew : ((backTo cpos (starEach [a] X.env)).all (fun x => !x.1) && (backToKw cpos (keywordEach [] X.env)).all (fun x => x.1.isSome)
      && decide (([a] : List Expr).length + ([] : List Keyword).length + (if ([] : List Keyword).isEmpty then 0 else 1) < 30)) = true := by rfl)
    (hline : (apos.endLine == cpos.line) = true := by rfl) (hs : starEach [a] X.env = (false, eval a X.env) :: starEach [] X.env := by rfl) :
    DE X W (.Call (.Attribute o "lstrip" apos) [a] [] cpos) ρ (.val (.str (Txt.lstripChars z y)) ρ2) :=
  de_bm PySem.F.slot_str_lstrip PySem.F.type_str_lstrip mt_lstripChars ho (dab_of (da_cons ha da_nil hs)) (fun H v vs Q r1 r2 q => by
    cases r1
    obtain ⟨v1, rfl, g1⟩ := all1 r2
    cases g1
    exact ⟨z, y, rfl, rfl, hl, q _ fun I => .str _⟩) hbase hfew hline hs rfl
/-! ### replace: a token must be out -/
def DEt (X : Cx) (W : WX) (e : Expr) (ρ : List S) (d : D) (ρ' : List S) : Prop := ∃ t, PET X e t ∧ ∀ (w : Wd) (σ : L2.St) (I H : Hp) (Q : VK), Ev X.K w I H σ ρ → (∀ v I' H', Same I I' → Ev X.K w I' H' σ ρ' → Rp X.K I' v d → Q v H') → t σ H Q
theorem det_of (h : DE X W e ρ (.val d ρ1)) : DEt X W e ρ d ρ1 := ⟨wpE X e, fun pins s σ H Q _ I q => q pins s I, fun w σ I H Q ev p => h w σ I H Q ev p⟩
theorem det_repl {y' z' x0 : Str} {j j' : Nat} {c0 c1 : Pos} (hl : x0.length + (x0.length + 1) * z'.length ≤ 16777216) (ho : DEt X W o ρ (.str x0) ρ1) (hyz : (y' == z') = false := by decide)
    (hst : starEach [.Constant (.str y') j c0, .Constant (.str z') j' c1] X.env = [(false, eval (.Constant (.str y') j c0) X.env), (false, eval (.Constant (.str z') j' c1) X.env)] := by rfl)
    (hbase : attributeBase o "replace" X.env (eval o X.env) = eval o X.env := by rfl) (hline : (apos.endLine == pos.line) = true := by rfl) :
    DEt X W (.Call (.Attribute o "replace" apos) [.Constant (.str y') j c0, .Constant (.str z') j' c1] [] pos) ρ (.str (Txt.replace x0 y' z')) ρ1 := by
  obtain ⟨t, h1, h2⟩ := ho
  refine ⟨_, CwR.pet_replT h1 hyz hst hbase hline, fun w σ I H Q ev p => h2 w σ I H _ ev fun v I1 H1 s1 e1 r1 => ?_⟩
  cases r1
  exact ⟨x0, rfl, hl, p _ I1 H1 s1 e1 (.str _)⟩
/-- 'c' + e, e wants a token -/
theorem de_addT {x0 y0 : Str} {j : Nat} {c0 : Pos} (hl : x0.length + y0.length ≤ sizeLine) (h : DEt X W b ρ (.str y0) ρ1) : DE X W (.BinOp (.Constant (.str x0) j c0) .Add b pos) ρ (.val (.str (x0 ++ y0)) ρ1) := by
  obtain ⟨t, h1, h2⟩ := h
  intro w σ I H Q ev p pins s J
  refine wpAny_BinOp (Calls.Constant_str ?_)
  refine thn (h1 pins { s with toks := s.toks + 1 } σ H (fun v H' => ∃ I', v = .str y0 ∧ Same I I' ∧ Ev X.K w I' H' σ ρ1) (by show 1 ≤ s.toks + 1; omega) (J.tok _) (h2 w σ I H _ ev fun v I1 H1 s1 e1 r1 => by
    cases r1
    exact ⟨I1, rfl, s1, e1⟩)) fun u s2 hh => ?_
  obtain ⟨v, H2, J2, r2, I2, rfl, s3, e3⟩ := hh
  exact op_add_str pins s2 σ H2 (.str x0) (.str y0) _ u Q J2 ⟨_, rfl⟩ r2 ⟨x0, y0, rfl, rfl, hl, p _ I2 H2 s3 e3 (.str _)⟩
end
end
end Dt


set_option Elab.async false
set_option linter.all false
set_option maxRecDepth 100000
set_option maxHeartbeats 1000000
namespace Dt
open PySem PySem.Spec PyProof.Rows L2
/-- the context of a def's body -/
abbrev Xd (Pr : Program) (wo : World) (K : PySem.W.Frag) (mg : Str → Option Value) (base : Heap) (N : List Str) (qual : Str) (st : Stmt) (f : Addr) (cdv : Value) (A : Around) (outer : List PySem.Env) (s : Shared) (H : Hp) (E : XK) : Cx :=
  cxOf (L2.CX Pr wo) Pr wo K mg base N qual (defScope st) f cdv A outer s H E
abbrev Wd0 (E : XK) : WX := fun cls d _ H => E cls d H
/-- the def that the module calls x keeps the promise fc -/
def FnAt (Pr : Program) (wo : World) (K : PySem.W.Frag) (mg : Str → Option Value) (base : Heap) (x : Str) (j : Nat) (ns : List Str) (fc : Con) : Prop :=
  ∃ f fd, FnOk Pr wo K mg base (L2.CX Pr wo) j f fd ns (spC K fc) ∧ mg x = some (.ref f) ∧ PySem.W.keepIn K (.ref f) = true ∧ Binds K fd ns []
/-- what the head tells of a def -/
structure DefAt (K : PySem.W.Frag) (mg : Str → Option Value) (x : Str) (st : Stmt) (ns : List Str) : Prop where
  ex : ∃ f fd, Fun K x x st f fd ∧ mg x = some (.ref f) ∧ Binds K fd ns []
section
variable {Pr : Program} {wo : World} {K : PySem.W.Frag} {mg : Str → Option Value} {base : Heap} {x : Str} {st : Stmt} {N ns : List Str}
theorem fnAt {k n : Nat} {fc : Con} (F : DefAt K mg x st ns) (Sc : FnScope N ns (defScope st)) (hl : ∀ qs r os, fc qs r os → qs.length = ns.length) (hn : N.length - ns.length = n)
    (hb : ∀ f cdv A outer s H E, Cz (Xd Pr wo K mg base N x st f cdv A outer s H E) (Wd0 E) k → ∀ qs r os, fc qs r os → ∃ o, DSs (Xd Pr wo K mg base N x st f cdv A outer s H E) (Wd0 E) (defBody st) (toS 0 qs ++ List.replicate n .no) o ∧ Tells qs os o r) :
    FnAt Pr wo K mg base x (k + 1) ns fc := by
  obtain ⟨f, fd, F, hm, hB⟩ := F.ex
  refine ⟨f, fd, ?_, hm, F.kp, hB⟩
  refine F.okX Sc (fun vs H Q E h => ?_) (fun cdv A outer s H vs Q E hr h => ?_)
  · obtain ⟨I, qs, A, r, os, h1, h2, h3, _⟩ := h
    rw [h2.length]
    exact hl _ _ _ h3
  · obtain ⟨I, qs, B, r, os, h1, h2, h3, h4⟩ := h
    have hlen : vs.length = ns.length := by rw [h2.length]; exact hl _ _ _ h3
    have ev := ev_start (N := N) (n := n) h1 h2 (by rw [hlen]; exact hn)
    refine ⟨_, pss_wp, ?_⟩
    have cz : Cz (Xd Pr wo K mg base N x st f cdv A outer s H E) (Wd0 E) k := ⟨rfl, Sc.nd, takes_of rfl rfl rfl rfl, passes_of rfl, hr⟩
    obtain ⟨o, h5, h6⟩ := hb f cdv A outer s H E cz qs r os h3
    have fin : ∀ {σ' : L2.St} {ρ' : List S} {I' H' : Hp}, Ev K ⟨I, H, B, fun _ => none⟩ I' H' σ' ρ' → Fin ρ' 0 0 qs os → Done K H I' H' Q E r := fun e' f' => h4 _ _ e'.step (back_of e' 0 0 os h2 (fun m φ q => by rw [Nat.zero_add]; exact q) f')
    refine h5 _ _ I H _ ev ?_
    cases h6 with
    | ret f' => exact fun v σ' I' H' _ e' rv => fin e' f' v rv
    | non f' => exact fun σ' I' H' _ e' => fin e' f' .non .non
    | own f' =>
      intro v σ' I' H' _ e'
      have dn := fin e'.pop f'
      obtain ⟨φ, g1, _⟩ := e'.owns
      obtain ⟨u, hu, s⟩ := g1 _ _ _ get_app_r
      have el := e'.pop.len
      rw [← el, get_app_r] at hu
      cases hu
      exact dn v _ s.at_ fun a ha => ⟨s.out a ha, s.io a ha⟩
    | exc f' => exact fun σ' I' H' _ e' => fin e' f'
end
section
variable {X : Cx} {W : WX} {ρ ρ1 ρ2 : List S} {e : Expr} {es : List Expr} {d : D} {ds : List D} {as : List Ag} {k j : Nat} {x : Str} {ns : List Str} {fc : Con} {p pos : Pos} {ps : List P} {os : List O} {r : Res}
theorem de_callF (c : Cz X W k) (F : FnAt X.prog X.w X.K X.mg X.base x j ns fc) (hj : j ≤ k) (ha : DG X W (e :: es) ρ as ρ1) (hp : Pas ρ1 as ps) (hf : fc ps r os) (nd : (iosOf as).Nodup) (hg : Gl X x := by rfl)
    (hdb : (x == ("__debug__" : Str)) = false := by decide) (he : starEach (e :: es) X.env = (false, eval e X.env) :: starEach es X.env := by rfl) (hpl : (backTo pos (starEach es X.env)).any (·.1) = false := by rfl) :
    DE X W (.Call (.Name x p) (e :: es) [] pos) ρ (r.ov (putS (iosOf as) os ρ1)) := by
  obtain ⟨f, fd, G, hm, hk, hb⟩ := F
  exact de_call c G hj hg hm hk hb ha hp hf nd hdb he hpl
theorem agAt_of {K : PySem.W.Frag} {I : Hp} {σ : L2.St} : ∀ {vs : List V} {ds : List D}, RpAll K I vs ds → AgAt K I σ vs (ds.map Ag.v)
  | _, _, .nil => .nil
  | _, _, .cons r t => .v r (agAt_of t)
theorem ios_v : ∀ ds : List D, iosOf (ds.map Ag.v) = []
  | [] => rfl
  | d :: ds => ios_v ds
theorem pas_v {ρ : List S} : ∀ ds : List D, Pas ρ (ds.map Ag.v) (ds.map P.v)
  | [] => .nil
  | d :: ds => .v (pas_v ds)
/-- a call whose arguments are data -/
theorem de_callV (c : Cz X W k) (F : FnAt X.prog X.w X.K X.mg X.base x j ns fc) (hj : j ≤ k) (ha : DA X W (e :: es) ρ ds ρ1) (hf : fc (ds.map P.v) r []) (hg : Gl X x := by rfl)
    (hdb : (x == ("__debug__" : Str)) = false := by decide) (he : starEach (e :: es) X.env = (false, eval e X.env) :: starEach es X.env := by rfl) (hpl : (backTo pos (starEach es X.env)).any (·.1) = false := by rfl) :
    DE X W (.Call (.Name x p) (e :: es) [] pos) ρ (r.ov ρ1) := by
  have z := de_callF (p := p) (pos := pos) c F hj (as := ds.map Ag.v) (os := []) (fun w σ I H Q ev q => ha w σ I H Q ev fun vs I' H' s e' r' => q vs I' H' s e' (agAt_of r')) (pas_v ds) hf (by rw [ios_v]; exact List.nodup_nil) hg hdb he hpl
  rw [ios_v] at z
  exact z
end
/-! ### the names of the built-in module -/
section
variable {X : Cx}
theorem b_len (m : X.mg "len" = none) (g : Gl X "len" := by rfl) : Blt X "len" (.builtin "len") := ⟨g, m, by decide +kernel, by decide, by decide⟩
theorem b_ord (m : X.mg "ord" = none) (g : Gl X "ord" := by rfl) : Blt X "ord" (.builtin "ord") := ⟨g, m, by decide +kernel, by decide, by decide⟩
theorem b_abs (m : X.mg "abs" = none) (g : Gl X "abs" := by rfl) : Blt X "abs" (.builtin "abs") := ⟨g, m, by decide +kernel, by decide, by decide⟩
theorem b_all (m : X.mg "all" = none) (g : Gl X "all" := by rfl) : Blt X "all" (.builtin "all") := ⟨g, m, by decide +kernel, by decide, by decide⟩
theorem b_any (m : X.mg "any" = none) (g : Gl X "any" := by rfl) : Blt X "any" (.builtin "any") := ⟨g, m, by decide +kernel, by decide, by decide⟩
theorem b_sum (m : X.mg "sum" = none) (g : Gl X "sum" := by rfl) : Blt X "sum" (.builtin "sum") := ⟨g, m, by decide +kernel, by decide, by decide⟩
theorem b_isi (m : X.mg "isinstance" = none) (g : Gl X "isinstance" := by rfl) : Blt X "isinstance" (.builtin "isinstance") := ⟨g, m, by decide +kernel, by decide, by decide⟩
theorem b_str (m : X.mg "str" = none) (g : Gl X "str" := by rfl) : Blt X "str" (.type "str") := ⟨g, m, by decide +kernel, by decide, by decide⟩
theorem b_int (m : X.mg "int" = none) (g : Gl X "int" := by rfl) : Blt X "int" (.type "int") := ⟨g, m, by decide +kernel, by decide, by decide⟩
theorem b_bool (m : X.mg "bool" = none) (g : Gl X "bool" := by rfl) : Blt X "bool" (.type "bool") := ⟨g, m, by decide +kernel, by decide, by decide⟩
theorem b_list (m : X.mg "list" = none) (g : Gl X "list" := by rfl) : Blt X "list" (.type "list") := ⟨g, m, by decide +kernel, by decide, by decide⟩
theorem b_range (m : X.mg "range" = none) (g : Gl X "range" := by rfl) : Blt X "range" (.type "range") := ⟨g, m, by decide +kernel, by decide, by decide⟩
theorem b_verr (m : X.mg "ValueError" = none) (g : Gl X "ValueError" := by rfl) : Blt X "ValueError" (.type "ValueError") := ⟨g, m, by decide +kernel, by decide, by decide⟩
end
end Dt


set_option Elab.async false
set_option linter.all false
set_option maxRecDepth 100000
set_option maxHeartbeats 1000000
namespace Dt
open PySem PySem.Spec PyProof.Rows L2
/-- a text by its signs -/
abbrev mk (l : List Nat) : Str := ⟨l.toArray⟩
theorem mk_cps (l : List Nat) : (mk l).cps.toList = l := rfl
theorem mk_len (l : List Nat) : (mk l).length = l.length := rfl
theorem mk_eta (z : Str) : mk z.cps.toList = z := rfl
theorem mk_inj {a b : List Nat} : mk a = mk b ↔ a = b := ⟨fun h => congrArg (fun z : Str => z.cps.toList) h, fun h => by rw [h]⟩
theorem dec_mk {a b : List Nat} : decide (mk a = mk b) = decide (a = b) := decide_eq_decide.mpr mk_inj
theorem mk_app (a b : List Nat) : mk a ++ mk b = mk (a ++ b) := str_ext (by
  show (a.toArray ++ b.toArray).toList = a ++ b
  simp)
theorem cut_nat {l : List Nat} {a b : Nat} : cutS (mk l) (some (a : Int)) (some (b : Int)) = mk ((l.drop a).take (b - a)) := by
  have h : cutS (mk l) (some (a : Int)) (some (b : Int)) = mk ((l.drop (min a l.length)).take (min b l.length - min a l.length)) := by
    unfold cutS
    rw [HT.sIx_nat, HT.sIx_nat]
    rfl
  rw [h, mk_inj]
  by_cases ha : a ≤ l.length
  · rw [Nat.min_eq_left ha]
    by_cases hb : b ≤ l.length
    · rw [Nat.min_eq_left hb]
    · rw [Nat.min_eq_right (show l.length ≤ b by omega), List.take_of_length_le (by rw [List.length_drop]; omega), List.take_of_length_le (by rw [List.length_drop]; omega)]
  · rw [Nat.min_eq_right (show l.length ≤ a by omega), List.drop_of_length_le (Nat.le_refl _), List.drop_of_length_le (show l.length ≤ a by omega), List.take_nil, List.take_nil]
theorem cut_one {l : List Nat} {a : Nat} : cutS (mk l) (some (a : Int)) (some ((a : Int) + 1)) = mk ((l.drop a).take 1) := by
  have h := cut_nat (l := l) (a := a) (b := a + 1)
  rw [show ((a + 1 : Nat) : Int) = (a : Int) + 1 by omega] at h
  rw [h, show a + 1 - a = 1 by omega]
theorem cut_to {l : List Nat} {b : Nat} : cutS (mk l) none (some (b : Int)) = mk (l.take b) := by
  have h := cut_nat (l := l) (a := 0) (b := b)
  have e : cutS (mk l) none (some (b : Int)) = cutS (mk l) (some ((0 : Nat) : Int)) (some (b : Int)) := by
    unfold cutS
    rw [HT.sIx_nat, HT.sIx_none, HT.sIx_nat, Nat.zero_min]
  rw [e, h, List.drop_zero, Nat.sub_zero]
theorem cut_from {l : List Nat} {a : Nat} : cutS (mk l) (some (a : Int)) none = mk (l.drop a) := by
  have h : cutS (mk l) (some (a : Int)) none = mk ((l.drop (min a l.length)).take (l.length - min a l.length)) := by
    unfold cutS
    rw [HT.sIx_nat, HT.sIx_none]
    rfl
  rw [h, mk_inj]
  by_cases ha : a ≤ l.length
  · rw [Nat.min_eq_left ha, List.take_of_length_le (by rw [List.length_drop]; omega)]
  · rw [Nat.min_eq_right (by omega), List.drop_of_length_le (Nat.le_refl _), List.drop_of_length_le (show l.length ≤ a by omega), List.take_nil]
section
variable {X : Cx} {W : WX} {ρ ρ1 ρ2 ρ3 : List S} {pos : Pos} {a b c e : Expr} {es : List Expr} {d d1 d2 : D} {ds : List D} {k : Nat}
/-- the name in the i-th slot -/
theorem va (i : Nat) {x : Str} (h : ρ[i]? = some (.v d)) (hN : X.N[i]? = some x := by rfl) (hv : Vis X.env.scope x := by first | exact Or.inl rfl | exact Or.inr (Or.inl rfl) | exact Or.inr (Or.inr rfl)) (hd : (x == ("__debug__" : Str)) = false := by decide) (hcd : (x == ("__classdict__" : Str)) = false := by decide) : DE X W (.Name x pos) ρ (.val d ρ) := de_var hN hv h hd hcd
/-- .. borrowed -/
theorem vb (i : Nat) {x : Str} {kk : Option Nat} (h : ρ[i]? = some (.own kk (.lst ds))) (hN : X.N[i]? = some x := by rfl) (hv : Vis X.env.scope x := by first | exact Or.inl rfl | exact Or.inr (Or.inl rfl) | exact Or.inr (Or.inr rfl)) (hd : (x == ("__debug__" : Str)) = false := by decide) (hcd : (x == ("__classdict__" : Str)) = false := by decide) : DB X W (.Name x pos) ρ (.lst ds) ρ := db_own hN hv h hd hcd
/-- .. standing still from here on -/
theorem vf (i : Nat) {x : Str} (h : ρ[i]? = some (.own none (.lst ds))) (hN : X.N[i]? = some x := by rfl) (hv : Vis X.env.scope x := by first | exact Or.inl rfl | exact Or.inr (Or.inl rfl) | exact Or.inr (Or.inr rfl)) (hd : (x == ("__debug__" : Str)) = false := by decide) (hcd : (x == ("__classdict__" : Str)) = false := by decide) : DE X W (.Name x pos) ρ (.val (.lst ds) (ρ.set i (.v (.lst ds)))) := de_frz hN hv h hd hcd
/-- x = e -/
theorem st (i : Nat) {x : Str} {pos' : Pos} (cz : Cz X W k) (h : DE X W e ρ (.val d ρ1)) (hi : X.N[i]? = some x := by rfl) (hx : Loc X.env.scope x := by first | exact Or.inl rfl | exact Or.inr rfl) (hs : swapsWith e (some (.Name x pos')) pos.line X.env = pure false := by rfl) (hf : X.fn x = true ∨ X.env.scope.names.lookup x = some .local := by first | exact .inl rfl | exact .inr rfl) :
    DS X W (.Assign [.Name x pos'] e pos) ρ (.next (ρ1.set i (.v d))) := ds_set cz.nd hi hx h hs hf
theorem sto (i : Nat) {x : Str} {pos' : Pos} {q : O} (cz : Cz X W k) (h : DE X W e ρ (.own q ρ1)) (hi : X.N[i]? = some x := by rfl) (hx : Loc X.env.scope x := by first | exact Or.inl rfl | exact Or.inr rfl) (hs : swapsWith e (some (.Name x pos')) pos.line X.env = pure false := by rfl) (hf : X.fn x = true ∨ X.env.scope.names.lookup x = some .local := by first | exact .inl rfl | exact .inr rfl) :
    DS X W (.Assign [.Name x pos'] e pos) ρ (.next (ρ1.set i (.own none q))) := ds_setO cz.nd hi hx h hs hf
/-- a module's number, text -/
theorem gi {x : Str} {i : Int} {t : Tok} (hm : X.mg x = some (.int i t)) (hg : Gl X x := by rfl) (hd : (x == ("__debug__" : Str)) = false := by decide) : DE X W (.Name x pos) ρ (.val (.int i) ρ) := de_glob hg hm (v := .int i) ⟨t, rfl⟩ (fun _ => .int i) hd
theorem gs {x : Str} {z : Str} {t : Tok} (hm : X.mg x = some (.str z t)) (hg : Gl X x := by rfl) (hd : (x == ("__debug__" : Str)) = false := by decide) : DE X W (.Name x pos) ρ (.val (.str z) ρ) := de_glob hg hm (v := .str z) ⟨t, rfl⟩ (fun _ => .str z) hd
theorem Cz.blk (cz : Cz X W k) {scope : Scope} (s : Shared) (H0 : Hp) (C : Addr) (cl : List (Str × Addr)) (fp : List Addr) : Cz (Bk X scope s H0 C cl fp) W0 k := ⟨cz.calm, cz.nd, takes0, PassesOwn.never, cz.rm⟩
theorem Cz.try_ (cz : Cz X W k) {W' : WX} {pn : List (Addr × Obj)} {xe : Value → Shared → Prop} (tk : Takes (X.tr pn xe) W') (po : PassesOwn (model X.prog X.w) X.A X.env xe) : Cz (X.tr pn xe) W' k := ⟨cz.calm, cz.nd, tk, po, cz.rm⟩
/-! ### kinds -/
def isStrD : D → Bool
  | .str _ => true
  | _ => false
def isIntD : D → Bool
  | .int _ => true
  | .bl _ => true
  | _ => false
def isBoolD : D → Bool
  | .bl _ => true
  | _ => false
def isListD : D → Bool
  | .lst _ => true
  | _ => false
theorem kb : (kitB "NoneType" "str" = some false ∧ kitB "bool" "str" = some false ∧ kitB "int" "str" = some false ∧ kitB "str" "str" = some true ∧ kitB "list" "str" = some false ∧ kitB "tuple" "str" = some false) ∧
    (kitB "NoneType" "int" = some false ∧ kitB "bool" "int" = some true ∧ kitB "int" "int" = some true ∧ kitB "str" "int" = some false ∧ kitB "list" "int" = some false ∧ kitB "tuple" "int" = some false) ∧
    (kitB "NoneType" "bool" = some false ∧ kitB "bool" "bool" = some true ∧ kitB "int" "bool" = some false ∧ kitB "str" "bool" = some false ∧ kitB "list" "bool" = some false ∧ kitB "tuple" "bool" = some false) ∧
    (kitB "NoneType" "list" = some false ∧ kitB "bool" "list" = some false ∧ kitB "int" "list" = some false ∧ kitB "str" "list" = some false ∧ kitB "list" "list" = some true ∧ kitB "tuple" "list" = some false) := by decide +kernel
theorem kit_str {t : String} (h : tyD d = some t) : kitB t "str" = some (isStrD d) := by
  obtain ⟨⟨h1, h2, h3, h4, h5, h6⟩, _⟩ := kb
  cases d <;> cases h <;> first | exact h1 | exact h2 | exact h3 | exact h4 | exact h5 | exact h6
theorem kit_int {t : String} (h : tyD d = some t) : kitB t "int" = some (isIntD d) := by
  obtain ⟨_, ⟨h1, h2, h3, h4, h5, h6⟩, _⟩ := kb
  cases d <;> cases h <;> first | exact h1 | exact h2 | exact h3 | exact h4 | exact h5 | exact h6
theorem kit_bool {t : String} (h : tyD d = some t) : kitB t "bool" = some (isBoolD d) := by
  obtain ⟨_, _, ⟨h1, h2, h3, h4, h5, h6⟩, _⟩ := kb
  cases d <;> cases h <;> first | exact h1 | exact h2 | exact h3 | exact h4 | exact h5 | exact h6
theorem kit_list {t : String} (h : tyD d = some t) : kitB t "list" = some (isListD d) := by
  obtain ⟨_, _, _, ⟨h1, h2, h3, h4, h5, h6⟩⟩ := kb
  cases d <;> cases h <;> first | exact h1 | exact h2 | exact h3 | exact h4 | exact h5 | exact h6
section
variable {p p2 : Pos} {t : String}
theorem is_str (h : tyD d = some t) (m1 : X.mg "isinstance" = none) (m2 : X.mg "str" = none) (ha : DB X W a ρ d ρ1) (g1 : Gl X "isinstance" := by rfl) (g2 : Gl X "str" := by rfl) (he : starEach [a, .Name "str" p2] X.env = (false, eval a X.env) :: starEach [.Name "str" p2] X.env := by rfl) :
    DE X W (.Call (.Name "isinstance" p) [a, .Name "str" p2] [] pos) ρ (.val (.bl (isStrD d)) ρ1) := de_isi h (kit_str h) (b_isi m1 g1) (b_str m2 g2) ha he
theorem is_int (h : tyD d = some t) (m1 : X.mg "isinstance" = none) (m2 : X.mg "int" = none) (ha : DB X W a ρ d ρ1) (g1 : Gl X "isinstance" := by rfl) (g2 : Gl X "int" := by rfl) (he : starEach [a, .Name "int" p2] X.env = (false, eval a X.env) :: starEach [.Name "int" p2] X.env := by rfl) :
    DE X W (.Call (.Name "isinstance" p) [a, .Name "int" p2] [] pos) ρ (.val (.bl (isIntD d)) ρ1) := de_isi h (kit_int h) (b_isi m1 g1) (b_int m2 g2) ha he
theorem is_bool (h : tyD d = some t) (m1 : X.mg "isinstance" = none) (m2 : X.mg "bool" = none) (ha : DB X W a ρ d ρ1) (g1 : Gl X "isinstance" := by rfl) (g2 : Gl X "bool" := by rfl) (he : starEach [a, .Name "bool" p2] X.env = (false, eval a X.env) :: starEach [.Name "bool" p2] X.env := by rfl) :
    DE X W (.Call (.Name "isinstance" p) [a, .Name "bool" p2] [] pos) ρ (.val (.bl (isBoolD d)) ρ1) := de_isi h (kit_bool h) (b_isi m1 g1) (b_bool m2 g2) ha he
theorem is_list (h : tyD d = some t) (m1 : X.mg "isinstance" = none) (m2 : X.mg "list" = none) (ha : DB X W a ρ d ρ1) (g1 : Gl X "isinstance" := by rfl) (g2 : Gl X "list" := by rfl) (he : starEach [a, .Name "list" p2] X.env = (false, eval a X.env) :: starEach [.Name "list" p2] X.env := by rfl) :
    DE X W (.Call (.Name "isinstance" p) [a, .Name "list" p2] [] pos) ρ (.val (.bl (isListD d)) ρ1) := de_isi h (kit_list h) (b_isi m1 g1) (b_list m2 g2) ha he
end
/-! ### comprehensions that change nothing -/
theorem set_back {j : Nat} {d : D} (h : ρ[j]? = some .no) : (ρ.set j (.v d)).set j .no = ρ := by
  obtain ⟨hl, e⟩ := List.getElem?_eq_some_iff.mp h
  rw [List.set_set]
  conv => lhs; rw [← e]
  exact List.set_getElem_self hl
section
variable {scope : Scope} {elt test : Expr} {j : Nat} {α : Type} {g f : α → D} {q : α → Bool}
theorem lcr_map (hno : ρ[j]? = some .no) : ∀ {l : List α}, (∀ x ∈ l, ∀ s H0 C cl fp, DE (Bk X scope s H0 C cl fp) W0 elt (ρ.set j (.v (g x))) (.val (f x) (ρ.set j (.v (g x))))) → LcR X scope [] elt j (l.map g) ρ (l.map f) ρ
  | [], _ => .nil
  | x :: l, h => by
    have t := lcr_map hno (l := l) fun y hy => h y (List.mem_cons_of_mem _ hy)
    refine .keep .nil (h x List.mem_cons_self) ?_
    rw [set_back hno]
    exact t
theorem lcr_filter (hno : ρ[j]? = some .no) : ∀ {l : List α}, (∀ x ∈ l, ∀ s H0 C cl fp, DT (Bk X scope s H0 C cl fp) W0 test (ρ.set j (.v (g x))) (q x) (ρ.set j (.v (g x)))) → (∀ x ∈ l, q x = true → ∀ s H0 C cl fp, DE (Bk X scope s H0 C cl fp) W0 elt (ρ.set j (.v (g x))) (.val (f x) (ρ.set j (.v (g x))))) →
    LcR X scope [test] elt j (l.map g) ρ ((l.filter q).map f) ρ
  | [], _, _ => .nil
  | x :: l, h, h' => by
    have t := lcr_filter hno (l := l) (fun y hy => h y (List.mem_cons_of_mem _ hy)) fun y hy => h' y (List.mem_cons_of_mem _ hy)
    have hx := h x List.mem_cons_self
    cases e : q x with
    | true =>
      rw [e] at hx
      rw [List.filter_cons_of_pos e]
      refine .keep (.one hx) (h' x List.mem_cons_self e) ?_
      rw [set_back hno]
      exact t
    | false =>
      rw [e] at hx
      rw [List.filter_cons_of_neg (by rw [e]; exact Bool.false_ne_true)]
      refine .skip (.one hx) ?_
      rw [set_back hno]
      exact t
end
theorem di_strL {tg : Expr} {l : List Nat} (h : DE X W a ρ (.val (.str (mk l)) ρ1)) : DI X W tg a ρ (l.map fun c => .str (mk [c])) ρ1 := di_str h
theorem lc (j : Nat) {x : Str} {scope : Scope} {tp : Pos} {iter elt : Expr} {ifs : List Expr} {items es : List D} (cz : Cz X W k) (hi : DI X W (.Name x tp) iter ρ items ρ1) (h : LcR X scope ifs elt j items ρ1 es ρ2) (hl : es.length ≤ sizeLine) (ok : blkC X.N X.env.scope scope [(x, j)] = true := by rfl)
    (hno : ρ1[j]? = some .no := by rfl) (hifs : ifs.length ≤ 1 := by decide) (hj : X.N[j]? = some x := by rfl) (hx : (relabel scope X.env).names.lookup x = some .local := by rfl) (hs : ∀ x, foldedSetIterable iter X.env x = pure x := by intro _; rfl) :
    DE X W (.ListComp elt [⟨.Name x tp, iter, ifs, 0⟩] scope pos) ρ (.own (.lst es) ρ2) := de_lc cz.calm cz.nd hj hx (blkOk_by ok) hifs hno hi h hl hs
/-! ### tests whose answer is known -/
theorem len_str {z : Str} (h : z.length ≤ 100000) : lenD (.str z) = some z.length := if_pos (Nat.le_trans h (by decide))
theorem to {k k' : Bool} (h : DT X W a ρ k ρ1) (q : k = k') : DT X W a ρ k' ρ1 := q ▸ h
theorem dw_or_t {rest : List Expr} (h : DT X W a ρ true ρ1) : DW X W (.BoolOp .Or (a :: b :: rest) pos) ρ true ρ1 :=
  fun w σ I H Q e p => wpW_of (pw_or pt_wp pw_wp) (h w σ I H _ e fun I1 H1 s1 e1 => by
    show (if true = true then _ else _)
    rw [if_pos rfl]
    exact p I1 H1 s1 e1)
theorem dw_or_f {k' : Bool} {rest : List Expr} (h : DT X W a ρ false ρ1) (h' : DW X W (.BoolOp .Or (b :: rest) pos) ρ1 k' ρ2) : DW X W (.BoolOp .Or (a :: b :: rest) pos) ρ k' ρ2 :=
  fun w σ I H Q e p => wpW_of (pw_or pt_wp pw_wp) (h w σ I H _ e fun I1 H1 s1 e1 => by
    show (if false = true then _ else _)
    rw [if_neg Bool.false_ne_true]
    exact h' w σ I1 H1 _ e1 fun I2 H2 s2 e2 => p I2 H2 (s1.trans s2) e2)
theorem dw_and_f {rest : List Expr} (h : DT X W a ρ false ρ1) : DW X W (.BoolOp .And (a :: b :: rest) pos) ρ false ρ1 :=
  fun w σ I H Q e p => wpW_of (pw_and pt_wp pw_wp) (h w σ I H _ e fun I1 H1 s1 e1 => by
    show (if false = true then _ else _)
    rw [if_neg Bool.false_ne_true]
    exact p I1 H1 s1 e1)
theorem dw_and_t {k' : Bool} {rest : List Expr} (h : DT X W a ρ true ρ1) (h' : DW X W (.BoolOp .And (b :: rest) pos) ρ1 k' ρ2) : DW X W (.BoolOp .And (a :: b :: rest) pos) ρ k' ρ2 :=
  fun w σ I H Q e p => wpW_of (pw_and pt_wp pw_wp) (h w σ I H _ e fun I1 H1 s1 e1 => by
    show (if true = true then _ else _)
    rw [if_pos rfl]
    exact h' w σ I1 H1 _ e1 fun I2 H2 s2 e2 => p I2 H2 (s1.trans s2) e2)
theorem de_and_f {rest : List Expr} (h : DE X W a ρ (.val (.bl false) ρ1)) : DE X W (.BoolOp .And (a :: b :: rest) pos) ρ (.val (.bl false) ρ1) :=
  fun w σ I H Q e p => wpE_of (pe_and pe_wp pe_wp) (h w σ I H _ e fun v I1 H1 s1 e1 r => by
    cases r
    refine ⟨false, rfl, ?_⟩
    rw [if_neg Bool.false_ne_true]
    exact p _ I1 H1 s1 e1 (.bl false))
theorem de_and_t {o : Ov} {rest : List Expr} (h : DE X W a ρ (.val (.bl true) ρ1)) (h' : DE X W (.BoolOp .And (b :: rest) pos) ρ1 o) : DE X W (.BoolOp .And (a :: b :: rest) pos) ρ o :=
  fun w σ I H Q e p => wpE_of (pe_and pe_wp pe_wp) (h w σ I H _ e fun v I1 H1 s1 e1 r => by
    cases r
    refine ⟨true, rfl, ?_⟩
    rw [if_pos rfl]
    exact h' w σ I1 H1 _ e1 (p.mono s1))
theorem de_or_t {rest : List Expr} (h : DE X W a ρ (.val (.bl true) ρ1)) : DE X W (.BoolOp .Or (a :: b :: rest) pos) ρ (.val (.bl true) ρ1) :=
  fun w σ I H Q e p => wpE_of (pe_or pe_wp pe_wp) (h w σ I H _ e fun v I1 H1 s1 e1 r => by
    cases r
    refine ⟨true, rfl, ?_⟩
    rw [if_pos rfl]
    exact p _ I1 H1 s1 e1 (.bl true))
theorem de_or_f {o : Ov} {rest : List Expr} (h : DE X W a ρ (.val (.bl false) ρ1)) (h' : DE X W (.BoolOp .Or (b :: rest) pos) ρ1 o) : DE X W (.BoolOp .Or (a :: b :: rest) pos) ρ o :=
  fun w σ I H Q e p => wpE_of (pe_or pe_wp pe_wp) (h w σ I H _ e fun v I1 H1 s1 e1 r => by
    cases r
    refine ⟨false, rfl, ?_⟩
    rw [if_neg Bool.false_ne_true]
    exact h' w σ I1 H1 _ e1 (p.mono s1))
theorem de_if_t {o : Ov} (h : DT X W c ρ true ρ1) (ha : DE X W a ρ1 o) : DE X W (.IfExp c a b pos) ρ o := de_if h (fun _ => ha) fun z => nomatch z
theorem de_if_f {o : Ov} (h : DT X W c ρ false ρ1) (hb : DE X W b ρ1 o) : DE X W (.IfExp c a b pos) ρ o := de_if h (fun z => nomatch z) fun _ => hb
section
variable {sts sts' rest : List Stmt} {o o1 : Oc}
theorem if_t0 (h : DT X W c ρ true ρ1) (h1 : DSs X W sts ρ1 o1) (hk : Kt X W rest o o1) : DSs X W (.If c sts sts' pos :: rest) ρ o := dss (ds_if h (fun _ => h1) fun z => nomatch z) hk
theorem if_f0 (h : DT X W c ρ false ρ1) (h1 : DSs X W sts' ρ1 o1) (hk : Kt X W rest o o1) : DSs X W (.If c sts sts' pos :: rest) ρ o := dss (ds_if h (fun z => nomatch z) fun _ => h1) hk
/-- an if without an else that isn't taken -/
theorem if_n0 (h : DT X W c ρ false ρ1) (hk : DSs X W rest ρ1 o) : DSs X W (.If c sts [] pos :: rest) ρ o := if_f0 h dss_nil hk
/-- a taken branch that ends the block -/
theorem if_e0 (h : DT X W c ρ true ρ1) (h1 : DSs X W sts ρ1 o) (hn : ∀ ρ', o ≠ .next ρ') : DSs X W (.If c sts sts' pos :: rest) ρ o := if_t0 h h1 (by
  cases o with
  | next ρ' => exact absurd rfl (hn ρ')
  | brk ρ' => rfl
  | cont ρ' => rfl
  | ret d ρ' => rfl
  | rown d ρ' => rfl
  | exc C ρ' => rfl)
/-- .. by a return -/
theorem if_r0 {e' : Expr} {p2 : Pos} (h : DT X W c ρ true ρ1) (h1 : DE X W e' ρ1 (.val d ρ2)) : DSs X W (.If c [.Return (some e') p2] sts' pos :: rest) ρ (.ret d ρ2) := if_t0 h (dss1 (ds_ret h1)) rfl
theorem seq {st : Stmt} (h : DS X W st ρ (.next ρ1)) (hk : DSs X W rest ρ1 o) : DSs X W (st :: rest) ρ o := dss h hk
theorem ret (h : DE X W e ρ (.val d ρ1)) : DSs X W [.Return (some e) pos] ρ (.ret d ρ1) := dss1 (ds_ret h)
end
/-- a bool as a test -/
theorem tb {k' : Bool} (ha : DE X W a ρ (.val (.bl k') ρ1)) (he : ∀ whole, isTrue a X.env whole = (do let v ← whole; standAt a.pos; holding [v] (truthy v)) := by intro _; rfl) : DT X W a ρ k' ρ1 := dt_tru rfl ha he
section
variable {k0 : Bool} {rest : List Expr} {o : Ov}
theorem or_t (h : DT X W a ρ k0 ρ1) (hk : k0 = true) : DW X W (.BoolOp .Or (a :: b :: rest) pos) ρ true ρ1 := dw_or_t (hk ▸ h)
theorem or_f {k' : Bool} (h : DT X W a ρ k0 ρ1) (hk : k0 = false) (h' : DW X W (.BoolOp .Or (b :: rest) pos) ρ1 k' ρ2) : DW X W (.BoolOp .Or (a :: b :: rest) pos) ρ k' ρ2 := dw_or_f (hk ▸ h) h'
theorem and_f (h : DT X W a ρ k0 ρ1) (hk : k0 = false) : DW X W (.BoolOp .And (a :: b :: rest) pos) ρ false ρ1 := dw_and_f (hk ▸ h)
theorem and_t {k' : Bool} (h : DT X W a ρ k0 ρ1) (hk : k0 = true) (h' : DW X W (.BoolOp .And (b :: rest) pos) ρ1 k' ρ2) : DW X W (.BoolOp .And (a :: b :: rest) pos) ρ k' ρ2 := dw_and_t (hk ▸ h) h'
theorem vand_f (h : DE X W a ρ (.val (.bl k0) ρ1)) (hk : k0 = false) : DE X W (.BoolOp .And (a :: b :: rest) pos) ρ (.val (.bl false) ρ1) := de_and_f (hk ▸ h)
theorem vand_t (h : DE X W a ρ (.val (.bl k0) ρ1)) (hk : k0 = true) (h' : DE X W (.BoolOp .And (b :: rest) pos) ρ1 o) : DE X W (.BoolOp .And (a :: b :: rest) pos) ρ o := de_and_t (hk ▸ h) h'
theorem vor_t (h : DE X W a ρ (.val (.bl k0) ρ1)) (hk : k0 = true) : DE X W (.BoolOp .Or (a :: b :: rest) pos) ρ (.val (.bl true) ρ1) := de_or_t (hk ▸ h)
theorem vor_f (h : DE X W a ρ (.val (.bl k0) ρ1)) (hk : k0 = false) (h' : DE X W (.BoolOp .Or (b :: rest) pos) ρ1 o) : DE X W (.BoolOp .Or (a :: b :: rest) pos) ρ o := de_or_f (hk ▸ h) h'
theorem ife_t (h : DT X W c ρ k0 ρ1) (hk : k0 = true) (ha : DE X W a ρ1 o) : DE X W (.IfExp c a b pos) ρ o := de_if_t (hk ▸ h) ha
theorem ife_f (h : DT X W c ρ k0 ρ1) (hk : k0 = false) (hb : DE X W b ρ1 o) : DE X W (.IfExp c a b pos) ρ o := de_if_f (hk ▸ h) hb
end
section
variable {k0 : Bool} {sts sts' rest : List Stmt} {o o1 : Oc}
theorem if_t (h : DT X W c ρ k0 ρ1) (hk : k0 = true) (h1 : DSs X W sts ρ1 o1) (hr : Kt X W rest o o1) : DSs X W (.If c sts sts' pos :: rest) ρ o := if_t0 (hk ▸ h) h1 hr
theorem if_f (h : DT X W c ρ k0 ρ1) (hk : k0 = false) (h1 : DSs X W sts' ρ1 o1) (hr : Kt X W rest o o1) : DSs X W (.If c sts sts' pos :: rest) ρ o := if_f0 (hk ▸ h) h1 hr
theorem if_n (h : DT X W c ρ k0 ρ1) (hk : k0 = false) (hr : DSs X W rest ρ1 o) : DSs X W (.If c sts [] pos :: rest) ρ o := if_n0 (hk ▸ h) hr
theorem if_r {e' : Expr} {p2 : Pos} (h : DT X W c ρ k0 ρ1) (hk : k0 = true) (h1 : DE X W e' ρ1 (.val d ρ2)) : DSs X W (.If c [.Return (some e') p2] sts' pos :: rest) ρ (.ret d ρ2) := if_r0 (hk ▸ h) h1
end
/-! ### comprehensions in their usual places -/
section
variable {x : Str} {scope : Scope} {tp p p2 : Pos} {iter elt test : Expr} {α : Type} {l : List α} {g f : α → D} {q : α → Bool}
/-- [elt for x in iter] -/
theorem lcm (j : Nat) (cz : Cz X W k) (hi : DI X W (.Name x tp) iter ρ (l.map g) ρ1) (hl : l.length ≤ 100000) (h : ∀ y ∈ l, ∀ s H0 C cl fp, DE (Bk X scope s H0 C cl fp) W0 elt (ρ1.set j (.v (g y))) (.val (f y) (ρ1.set j (.v (g y))))) (ok : blkC X.N X.env.scope scope [(x, j)] = true := by rfl)
    (hno : ρ1[j]? = some .no := by rfl) (hj : X.N[j]? = some x := by rfl) (hx : (relabel scope X.env).names.lookup x = some .local := by rfl) (hs : ∀ x, foldedSetIterable iter X.env x = pure x := by intro _; rfl) :
    DE X W (.ListComp elt [⟨.Name x tp, iter, [], 0⟩] scope pos) ρ (.own (.lst (l.map f)) ρ1) := lc j cz hi (lcr_map hno h) (by rw [List.length_map]; exact Nat.le_trans hl (by decide)) ok hno (by decide) hj hx hs
/-- [elt for x in iter if test] -/
theorem lcf (j : Nat) (cz : Cz X W k) (hi : DI X W (.Name x tp) iter ρ (l.map g) ρ1) (hl : l.length ≤ 100000) (ht : ∀ y ∈ l, ∀ s H0 C cl fp, DT (Bk X scope s H0 C cl fp) W0 test (ρ1.set j (.v (g y))) (q y) (ρ1.set j (.v (g y))))
    (h : ∀ y ∈ l, q y = true → ∀ s H0 C cl fp, DE (Bk X scope s H0 C cl fp) W0 elt (ρ1.set j (.v (g y))) (.val (f y) (ρ1.set j (.v (g y))))) (ok : blkC X.N X.env.scope scope [(x, j)] = true := by rfl)
    (hno : ρ1[j]? = some .no := by rfl) (hj : X.N[j]? = some x := by rfl) (hx : (relabel scope X.env).names.lookup x = some .local := by rfl) (hs : ∀ x, foldedSetIterable iter X.env x = pure x := by intro _; rfl) :
    DE X W (.ListComp elt [⟨.Name x tp, iter, [test], 0⟩] scope pos) ρ (.own (.lst ((l.filter q).map f)) ρ1) := lc j cz hi (lcr_filter hno ht h) (by rw [List.length_map]; exact Nat.le_trans (Nat.le_trans (List.length_filter_le _ _) hl) (by decide)) ok hno (Nat.le_refl 1) hj hx hs
/-- all([elt for x in iter]) -/
theorem all_c (j : Nat) (cz : Cz X W k) (m : X.mg "all" = none) (hi : DI X W (.Name x tp) iter ρ (l.map g) ρ1) (hl : l.length ≤ 100000) (h : ∀ y ∈ l, ∀ s H0 C cl fp, DE (Bk X scope s H0 C cl fp) W0 elt (ρ1.set j (.v (g y))) (.val (.bl (q y)) (ρ1.set j (.v (g y))))) (gl : Gl X "all" := by rfl) (ok : blkC X.N X.env.scope scope [(x, j)] = true := by rfl)
    (hno : ρ1[j]? = some .no := by rfl) (hj : X.N[j]? = some x := by rfl) (hx : (relabel scope X.env).names.lookup x = some .local := by rfl) (hs : ∀ x, foldedSetIterable iter X.env x = pure x := by intro _; rfl)
    (he : starEach [.ListComp elt [⟨.Name x tp, iter, [], 0⟩] scope p2] X.env = (false, eval (.ListComp elt [⟨.Name x tp, iter, [], 0⟩] scope p2) X.env) :: starEach [] X.env := by rfl) :
    DE X W (.Call (.Name "all" p) [.ListComp elt [⟨.Name x tp, iter, [], 0⟩] scope p2] [] pos) ρ (.val (.bl (l.all q)) ρ1) := by
  have z := de_all (p := p) (pos := pos) (bs := l.map q) cz.calm (b_all m gl) (db_new (lcm (pos := p2) (f := fun y => .bl (q y)) j cz hi hl h ok hno hj hx hs : DE X W _ ρ (.own (.lst (l.map fun y => D.bl (q y))) ρ1)) |> fun (y : DB X W _ ρ (.lst (l.map fun y => D.bl (q y))) ρ1) => (by rw [List.map_map]; exact y : DB X W _ ρ (.lst ((l.map q).map D.bl)) ρ1)) he
  rw [List.all_map] at z
  exact z
theorem any_c (j : Nat) (cz : Cz X W k) (m : X.mg "any" = none) (hi : DI X W (.Name x tp) iter ρ (l.map g) ρ1) (hl : l.length ≤ 100000) (h : ∀ y ∈ l, ∀ s H0 C cl fp, DE (Bk X scope s H0 C cl fp) W0 elt (ρ1.set j (.v (g y))) (.val (.bl (q y)) (ρ1.set j (.v (g y))))) (gl : Gl X "any" := by rfl) (ok : blkC X.N X.env.scope scope [(x, j)] = true := by rfl)
    (hno : ρ1[j]? = some .no := by rfl) (hj : X.N[j]? = some x := by rfl) (hx : (relabel scope X.env).names.lookup x = some .local := by rfl) (hs : ∀ x, foldedSetIterable iter X.env x = pure x := by intro _; rfl)
    (he : starEach [.ListComp elt [⟨.Name x tp, iter, [], 0⟩] scope p2] X.env = (false, eval (.ListComp elt [⟨.Name x tp, iter, [], 0⟩] scope p2) X.env) :: starEach [] X.env := by rfl) :
    DE X W (.Call (.Name "any" p) [.ListComp elt [⟨.Name x tp, iter, [], 0⟩] scope p2] [] pos) ρ (.val (.bl (l.any q)) ρ1) := by
  have z := de_any (p := p) (pos := pos) (bs := l.map q) cz.calm (b_any m gl) (db_new (lcm (pos := p2) (f := fun y => .bl (q y)) j cz hi hl h ok hno hj hx hs : DE X W _ ρ (.own (.lst (l.map fun y => D.bl (q y))) ρ1)) |> fun (y : DB X W _ ρ (.lst (l.map fun y => D.bl (q y))) ρ1) => (by rw [List.map_map]; exact y : DB X W _ ρ (.lst ((l.map q).map D.bl)) ρ1)) he
  rw [List.any_map] at z
  exact z
end
end
end Dt


set_option Elab.async false
set_option linter.all false
set_option maxRecDepth 100000
set_option maxHeartbeats 1000000
namespace Dt
open PySem PySem.Spec PyProof.Rows L2
/-! ### places in a text -/
def bodyAt (st : Stmt) (i : Nat) : Stmt := (defBody st).getD i (.Pass ⟨0, 0, 0, 0⟩)
def wT : Stmt → Expr
  | .While c _ _ _ => c
  | _ => .Constant .none 0 ⟨0, 0, 0, 0⟩
def wB : Stmt → List Stmt
  | .While _ b _ _ => b
  | _ => []
def fT : Stmt → Expr
  | .For t _ _ _ _ => t
  | _ => .Constant .none 0 ⟨0, 0, 0, 0⟩
def fB : Stmt → List Stmt
  | .For _ _ b _ _ => b
  | _ => []
/-! ### slices of texts by their signs -/
section
variable {X : Cx} {W : WX} {ρ ρ1 ρ2 ρ3 : List S} {pos p2 : Pos} {a b c e e1 e2 : Expr} {es : List Expr} {d d1 d2 : D} {ds : List D} {k : Nat} {l : List Nat}
theorem szL {n : Nat} (h : n ≤ 100000) : n ≤ sizeLine := Nat.le_trans h (by decide)
/-- x[i:i + 1] -/
theorem sl1 {i : Nat} (hz : l.length ≤ 100000) (h : DE X W a ρ (.val (.str (mk l)) ρ)) (h1 : DE X W e1 ρ (.val (.int (i : Int)) ρ)) (h2 : DE X W e2 ρ (.val (.int ((i : Int) + 1)) ρ)) : DE X W (.Subscript a (.Slice (some e1) (some e2) none p2) pos) ρ (.val (.str (mk ((l.drop i).take 1))) ρ) := by
  rw [← cut_one]
  exact de_slS h (do_some h1) (do_some h2) (szL hz)
/-- x[i:j] -/
theorem sl2 {i j : Nat} (hz : l.length ≤ 100000) (h : DE X W a ρ (.val (.str (mk l)) ρ)) (h1 : DE X W e1 ρ (.val (.int (i : Int)) ρ)) (h2 : DE X W e2 ρ (.val (.int (j : Int)) ρ)) : DE X W (.Subscript a (.Slice (some e1) (some e2) none p2) pos) ρ (.val (.str (mk ((l.drop i).take (j - i)))) ρ) := by
  rw [← cut_nat]
  exact de_slS h (do_some h1) (do_some h2) (szL hz)
/-- x[:j] -/
theorem slt {j : Nat} (hz : l.length ≤ 100000) (h : DE X W a ρ (.val (.str (mk l)) ρ)) (h2 : DE X W e2 ρ (.val (.int (j : Int)) ρ)) : DE X W (.Subscript a (.Slice none (some e2) none p2) pos) ρ (.val (.str (mk (l.take j))) ρ) := by
  rw [← cut_to]
  exact de_slS h do_none (do_some h2) (szL hz)
/-- x[i:] -/
theorem slf {i : Nat} (hz : l.length ≤ 100000) (h : DE X W a ρ (.val (.str (mk l)) ρ)) (h1 : DE X W e1 ρ (.val (.int (i : Int)) ρ)) : DE X W (.Subscript a (.Slice (some e1) none none p2) pos) ρ (.val (.str (mk (l.drop i))) ρ) := by
  rw [← cut_from]
  exact de_slS h (do_some h1) do_none (szL hz)
/-- x[i], x a text -/
theorem ixs {i ch : Nat} (hz : l.length ≤ 100000) (hc : l[i]? = some ch) (h : DE X W a ρ (.val (.str (mk l)) ρ)) (h1 : DE X W b ρ (.val (.int (i : Int)) ρ)) (hs : PlainIx b := by exact fun _ _ => rfl) : DE X W (.Subscript a b pos) ρ (.val (.str (mk [ch])) ρ) :=
  de_ix h h1 (by
    show (if (mk l).length ≤ sizeLine then (atI (mk l).cps.toList (i : Int)).map fun c => D.str ⟨#[c]⟩ else none) = _
    rw [if_pos (show (mk l).length ≤ sizeLine from szL hz), atI_nat (show (mk l).cps.toList[i]? = some ch from hc)]
    rfl) hs
/-- == and != of two texts by their signs -/
theorem eqs {x y : List Nat} {z : Str} (hz : z = mk y) (ha : DE X W a ρ (.val (.str (mk x)) ρ1)) (hb : DE X W b ρ1 (.val (.str z) ρ2)) : DT X W (.Compare a [.Eq] [b] pos) ρ (decide (x = y)) ρ2 := by
  subst hz
  rw [← dec_mk]
  exact dt_cmpS rfl ha hb
theorem nes {x y : List Nat} {z : Str} (hz : z = mk y) (ha : DE X W a ρ (.val (.str (mk x)) ρ1)) (hb : DE X W b ρ1 (.val (.str z) ρ2)) : DT X W (.Compare a [.NotEq] [b] pos) ρ (!decide (x = y)) ρ2 := by
  subst hz
  rw [← dec_mk]
  exact dt_cmpS rfl ha hb
theorem veqs {x y : List Nat} {z : Str} (hz : z = mk y) (ha : DE X W a ρ (.val (.str (mk x)) ρ1)) (hb : DE X W b ρ1 (.val (.str z) ρ2)) : DE X W (.Compare a [.Eq] [b] pos) ρ (.val (.bl (decide (x = y))) ρ2) := by
  subst hz
  rw [← dec_mk]
  exact de_cmpS rfl ha hb
/-- x + y -/
theorem cats {x y : List Nat} (hl : x.length + y.length ≤ 100000) (ha : DE X W a ρ (.val (.str (mk x)) ρ1)) (hb : DE X W b ρ1 (.val (.str (mk y)) ρ2)) : DE X W (.BinOp a .Add b pos) ρ (.val (.str (mk (x ++ y))) ρ2) := by
  rw [← mk_app]
  exact de_addS (szL hl) ha hb
/-- a written text by its signs -/
theorem cs {z : Str} {j : Nat} {y : List Nat} (hz : z = mk y) : DE X W (.Constant (.str z) j pos) ρ (.val (.str (mk y)) ρ) := by
  subst hz
  exact de_str
theorem join_mk {s : List Nat} {ls : List (List Nat)} : Txt.join (mk s) (ls.map mk) = mk (TL.joinL s ls) := by
  rw [TL.join_eq]
  refine str_ext ?_
  have h := TL.tl_join (mk s) (ls.map mk)
  rw [List.map_map] at h
  have e : ls.map (TL.tl ∘ mk) = ls := by
    conv => rhs; rw [← List.map_id ls]
    rfl
  rw [e] at h
  exact h
theorem joinL_len (s : List Nat) : ∀ ls : List (List Nat), (TL.joinL s ls).length ≤ (ls.map List.length).sum + ls.length * s.length
  | [] => Nat.zero_le _
  | [p] => by
    show p.length ≤ ([p.length]).sum + 1 * s.length
    rw [List.sum_singleton]
    omega
  | p :: q :: r => by
    have h := joinL_len s (q :: r)
    show (p ++ (s ++ TL.joinL s (q :: r))).length ≤ (p.length :: (q :: r).map List.length).sum + ((q :: r).length + 1) * s.length
    rw [List.length_append, List.length_append, List.sum_cons, Nat.add_mul]
    omega
/-- s.join(list of texts) -/
theorem joins {o : Expr} {apos cpos : Pos} {s : List Nat} {ls : List (List Nat)} (hl : (ls.map List.length).sum + ls.length * s.length ≤ 1000000) (ho : DE X W o ρ (.val (.str (mk s)) ρ1)) (ha : DB X W a ρ1 (.lst (ls.map fun q => D.str (mk q))) ρ2)
    (hbase : attributeBase o "join" X.env (eval o X.env) = eval o X.env := by rfl) (hfew : ((backTo cpos (starEach [a] X.env)).all (fun x => !x.1) && (backToKw cpos (keywordEach [] X.env)).all (fun x => x.1.isSome)
      && decide (([a] : List Expr).length + ([] : List Keyword).length + (if ([] : List Keyword).isEmpty then 0 else 1) < 30)) = true := by rfl)
    (hline : (apos.endLine == cpos.line) = true := by rfl) (hs : starEach [a] X.env = (false, eval a X.env) :: starEach [] X.env := by rfl) :
    DE X W (.Call (.Attribute o "join" apos) [a] [] cpos) ρ (.val (.str (mk (TL.joinL s ls))) ρ2) := by
  rw [← join_mk]
  refine de_join (p := cpos) ?_ ho ?_ hbase hfew hline hs
  · rw [List.map_map, List.length_map]
    exact Nat.le_trans hl (by decide)
  · rw [List.map_map]
    exact ha
end
/-! ### suffixes -/
def posOf (l r : List Nat) : Nat := l.length - r.length
theorem drop_pos {l r : List Nat} (h : r <:+ l) : l.drop (posOf l r) = r := by
  obtain ⟨t, rfl⟩ := h
  unfold posOf
  rw [List.length_append, Nat.add_sub_cancel, List.drop_left]
theorem pos_le {l r : List Nat} : posOf l r ≤ l.length := Nat.sub_le _ _
theorem pos_drop {l : List Nat} {a : Nat} (h : a ≤ l.length) : posOf l (l.drop a) = a := by
  unfold posOf
  rw [List.length_drop]
  omega
theorem pos_cast {l r : List Nat} (h : r <:+ l) : ((posOf l r : Nat) : Int) = (l.length : Int) - (r.length : Int) := by
  have := h.length_le
  unfold posOf
  omega
end Dt


set_option Elab.async false
set_option linter.all false
set_option maxRecDepth 100000
set_option maxHeartbeats 4000000
namespace K01
open PySem PySem.Spec PyProof.Rows L2 Dt
def topS (i : Nat) : Stmt := PySem.Challenge.pw_settingbook_k01_whole_values.main.body.getD i (.Pass ⟨0, 0, 0, 0⟩)
/-! ### the mirrors: values.py -/
def isSign (c : Nat) : Bool := decide (32 ≤ c) && decide (c < 127) && !decide (c = 37)
def isTextL (l : List Nat) : Bool := decide (l.length ≤ 200) && l.all fun c => decide (c = 10) || isSign c
def isTextD : D → Bool
  | .str z => isTextL z.cps.toList
  | _ => false
def isSingleD : D → Bool
  | .bl _ => true
  | .str z => isTextL z.cps.toList
  | .int i => decide (i.natAbs < 1000000000)
  | _ => false
def isValueD : D → Bool
  | .lst xs => decide (xs.length ≤ 20) && xs.all isSingleD
  | d => isSingleD d
def kindD : D → Str
  | .bl _ => "truth"
  | .int _ => "number"
  | .str _ => "text"
  | _ => "list"
/-- data that may be handed in -/
def dat1 : D → Bool
  | .str z => decide (z.length ≤ 100000)
  | .exc _ => false
  | .scr _ => false
  | _ => true
def dat : D → Bool
  | .lst xs => decide (xs.length ≤ 100000) && xs.all dat1
  | d => dat1 d
theorem dat_ty {d : D} (h : dat1 d = true) : ∃ t, tyD d = some t := by cases d <;> first | exact ⟨_, rfl⟩ | exact absurd h Bool.false_ne_true
theorem dat_1 {d : D} (h : dat d = true) : dat1 d = true := by cases d <;> first | exact h | rfl
theorem sz {n : Nat} (h : n ≤ 100000) : n ≤ sizeLine := Nat.le_trans h (by decide)
/-! ### what the head tells -/
structure Blts (mg : Str → Option Value) : Prop where
  len : mg "len" = none
  ord : mg "ord" = none
  abs : mg "abs" = none
  all : mg "all" = none
  isi : mg "isinstance" = none
  str : mg "str" = none
  int : mg "int" = none
  bool : mg "bool" = none
  list : mg "list" = none
  range : mg "range" = none
  verr : mg "ValueError" = none
structure Cons (mg : Str → Option Value) : Prop where
  figs : ∃ t, mg "FIGURES" = some (.str "0123456789" t)
  mfig : ∃ t, mg "MOST_FIGURES" = some (.int 9 t)
  mit : ∃ t, mg "MOST_ITEMS" = some (.int 20 t)
  mtx : ∃ t, mg "MOST_TEXT" = some (.int 200 t)
section
variable {Pr : Program} {wo : World} {K : PySem.W.Frag} {mg : Str → Option Value} {base : Heap}
/-! ### is_sign -/
abbrev sIsSign : Stmt := topS 19
theorem sc_is_sign : FnScope ["sign"] ["sign"] (defScope sIsSign) := ⟨rfl, rfl, rfl, by decide +kernel, rfl, by decide +kernel, by decide +kernel⟩
def c_is_sign : Con := fun ps r os => ∃ c : Nat, ps = [.v (.str (mk [c]))] ∧ r = .ret (.bl (isSign c)) ∧ os = []
theorem ok_is_sign (F : DefAt K mg "is_sign" sIsSign ["sign"]) (B : Blts mg) : FnAt Pr wo K mg base "is_sign" 1 ["sign"] c_is_sign := by
  refine fnAt (n := 0) F sc_is_sign (fun qs r os h => by obtain ⟨c, rfl, _⟩ := h; rfl) rfl fun f cdv A outer s H E cz qs r os h => ?_
  obtain ⟨c, rfl, rfl, rfl⟩ := h
  refine ⟨_, ret (de_and (de_chainI rfl rfl de_int (de_ord (b_ord B.ord) (va 0 rfl)) de_int) fun _ => de_one (de_cmpI rfl (de_ord (b_ord B.ord) (va 0 rfl)) de_int)), ?_⟩
  have e : ((decide ((32 : Int) ≤ (c : Int)) && decide ((c : Int) < 127)) && !decide ((c : Int) = 37)) = isSign c := by
    unfold isSign
    congr 1
    · congr 1 <;> exact decide_eq_decide.mpr (by omega)
    · congr 1; exact decide_eq_decide.mpr (by omega)
  rw [e]
  exact .ret rfl
/-! ### is_text -/
abbrev sIsText : Stmt := topS 20
theorem sc_is_text : FnScope ["thing", "sign"] ["thing"] (defScope sIsText) := ⟨rfl, rfl, rfl, by decide +kernel, rfl, by decide +kernel, by decide +kernel⟩
def c_is_text : Con := fun ps r os => ∃ d, dat1 d = true ∧ ps = [.v d] ∧ r = .ret (.bl (isTextD d)) ∧ os = []
theorem ok_is_text (F : DefAt K mg "is_text" sIsText ["thing"]) (B : Blts mg) (C : Cons mg) (G : FnAt Pr wo K mg base "is_sign" 1 ["sign"] c_is_sign) : FnAt Pr wo K mg base "is_text" 2 ["thing"] c_is_text := by
  refine fnAt (n := 1) F sc_is_text (fun qs r os h => by obtain ⟨c, _, rfl, _⟩ := h; rfl) rfl fun f cdv A outer s H E cz qs r os h => ?_
  obtain ⟨d, hd, rfl, rfl, rfl⟩ := h
  obtain ⟨tm, hm⟩ := C.mtx
  by_cases hs : isStrD d = true
  · cases d with
    | str z =>
      have hl : z.length ≤ 100000 := of_decide_eq_true hd
      by_cases h2 : z.length ≤ 200
      · have e1 : isTextD (.str z) = z.cps.toList.all fun c => decide (c = 10) || isSign c := by
          show (decide (z.cps.toList.length ≤ 200) && _) = _
          rw [decide_eq_true (show z.cps.toList.length ≤ 200 from h2), Bool.true_and]
        rw [e1]
        refine ⟨_, if_n (dt_w (or_f (dt_not (tb (is_str rfl B.isi B.str (db_of (va 0 rfl))))) rfl (dw_or1 (dt_cmpI rfl (de_len (b_len B.len) (db_of (va 0 rfl)) (len_str hl)) (gi hm))))) (decide_eq_false (by omega)) (ret (all_c 1 cz B.all (di_strL (l := z.cps.toList) (va 0 rfl)) hl fun c hc s0 H0 C0 cl fp => ?_)), .ret rfl⟩
        have e : decide (mk [c] = ("\n" : Str)) = decide (c = 10) := by
          rw [show ("\n" : Str) = mk [10] from rfl, dec_mk]
          exact decide_eq_decide.mpr (by simp)
        rw [← e]
        exact de_or (de_cmpS rfl (va 1 rfl) de_str) fun _ => de_one (de_callV (cz.blk s0 H0 C0 cl fp) G (by decide) (da_cons (va 1 rfl) da_nil) ⟨c, rfl, rfl, rfl⟩)
      · have e1 : isTextD (.str z) = false := by
          show (decide (z.cps.toList.length ≤ 200) && _) = _
          rw [decide_eq_false (show ¬ z.cps.toList.length ≤ 200 from h2), Bool.false_and]
        rw [e1]
        exact ⟨_, if_r (dt_w (or_f (dt_not (tb (is_str rfl B.isi B.str (db_of (va 0 rfl))))) rfl (dw_or1 (dt_cmpI rfl (de_len (b_len B.len) (db_of (va 0 rfl)) (len_str hl)) (gi hm))))) (decide_eq_true (by omega)) de_bl, .ret rfl⟩
    | _ => cases hs
  · obtain ⟨t, ht⟩ := dat_ty hd
    have e1 : isTextD d = false := by cases d <;> first | rfl | exact absurd rfl hs
    have e2 : isStrD d = false := by cases d <;> first | rfl | exact absurd rfl hs
    rw [e1]
    exact ⟨_, if_r (dt_w (or_t (dt_not (tb (is_str ht B.isi B.str (db_of (va 0 rfl))))) (by rw [e2]; rfl))) rfl de_bl, .ret rfl⟩
end
end K01


set_option Elab.async false
set_option linter.all false
set_option maxRecDepth 100000
set_option maxHeartbeats 4000000
namespace K01
open PySem PySem.Spec PyProof.Rows L2 Dt
theorem tf : ¬ (true = false) := fun z => Bool.noConfusion z
/-- an own error class without fields -/
structure ExcAt (K : PySem.W.Frag) (mg : Str → Option Value) (x : Str) (C : Addr) : Prop where
  q : PySem.W.excIn K C [.type "ValueError", .type "Exception", .type "BaseException", .type "object"] "ValueError.__new__" = true
  g : mg x = some (.ref C)
  k : PySem.W.keepIn K (.ref C) = true
  b : PySem.W.subIn K (.ref C) (.type "BaseException") = some true
  t : PySem.W.typeIn K (.ref C) = some (.type "type")
section
variable {Pr : Program} {wo : World} {K : PySem.W.Frag} {mg : Str → Option Value} {base : Heap} {CB : Addr}
/-! ### is_single -/
abbrev sIsSingle : Stmt := topS 21
theorem sc_is_single : FnScope ["thing"] ["thing"] (defScope sIsSingle) := ⟨rfl, rfl, rfl, by decide +kernel, rfl, by decide +kernel, by decide +kernel⟩
def c_is_single : Con := fun ps r os => ∃ d, dat1 d = true ∧ ps = [.v d] ∧ r = .ret (.bl (isSingleD d)) ∧ os = []
theorem ok_is_single (F : DefAt K mg "is_single" sIsSingle ["thing"]) (B : Blts mg) (G : FnAt Pr wo K mg base "is_text" 2 ["thing"] c_is_text) : FnAt Pr wo K mg base "is_single" 3 ["thing"] c_is_single := by
  refine fnAt (n := 0) F sc_is_single (fun qs r os h => by obtain ⟨c, _, rfl, _⟩ := h; rfl) rfl fun f cdv A outer s H E cz qs r os h => ?_
  obtain ⟨d, hd, rfl, rfl, rfl⟩ := h
  obtain ⟨t, ht⟩ := dat_ty hd
  by_cases h1 : (isBoolD d || isTextD d) = true
  · have e : isSingleD d = true := by cases d <;> first | rfl | exact h1 | exact absurd h1 Bool.false_ne_true
    rw [e]
    exact ⟨_, if_r (dt_w (dw_or (tb (is_bool ht B.isi B.bool (db_of (va 0 rfl)))) fun _ => dw_or1 (tb (de_callV cz G (by decide) (da_cons (va 0 rfl) da_nil) ⟨d, hd, rfl, rfl, rfl⟩)))) h1 de_bl, .ret rfl⟩
  · have h1 : (isBoolD d || isTextD d) = false := by simpa using h1
    by_cases h2 : isIntD d = true
    · cases d with
      | int i =>
        have e : isSingleD (.int i) = decide ((if i < 0 then -i else i) < 1000000000) := decide_eq_decide.mpr (by split <;> omega)
        rw [e]
        exact ⟨_, if_n (dt_w (dw_or (tb (is_bool ht B.isi B.bool (db_of (va 0 rfl)))) fun _ => dw_or1 (tb (de_callV cz G (by decide) (da_cons (va 0 rfl) da_nil) ⟨_, hd, rfl, rfl, rfl⟩)))) h1 (ret (vand_t (is_int ht B.isi B.int (db_of (va 0 rfl))) rfl (de_one (de_cmpI rfl (de_abs (b_abs B.abs) (va 0 rfl)) de_int)))), .ret rfl⟩
      | bl b => exact absurd h1 tf
      | _ => exact absurd h2 Bool.false_ne_true
    · have h2 : isIntD d = false := by simpa using h2
      have e : isSingleD d = false := by cases d <;> first | rfl | exact h1 | exact absurd h2 tf
      rw [e]
      exact ⟨_, if_n (dt_w (dw_or (tb (is_bool ht B.isi B.bool (db_of (va 0 rfl)))) fun _ => dw_or1 (tb (de_callV cz G (by decide) (da_cons (va 0 rfl) da_nil) ⟨d, hd, rfl, rfl, rfl⟩)))) h1 (ret (vand_f (is_int ht B.isi B.int (db_of (va 0 rfl))) h2)), .ret rfl⟩
/-! ### is_value -/
abbrev sIsValue : Stmt := topS 22
theorem sc_is_value : FnScope ["thing", "one"] ["thing"] (defScope sIsValue) := ⟨rfl, rfl, rfl, by decide +kernel, rfl, by decide +kernel, by decide +kernel⟩
def c_is_value : Con := fun ps r os => ∃ d, dat d = true ∧ ps = [.v d] ∧ r = .ret (.bl (isValueD d)) ∧ os = []
theorem ok_is_value (F : DefAt K mg "is_value" sIsValue ["thing"]) (B : Blts mg) (C : Cons mg) (G : FnAt Pr wo K mg base "is_single" 3 ["thing"] c_is_single) : FnAt Pr wo K mg base "is_value" 4 ["thing"] c_is_value := by
  refine fnAt (n := 1) F sc_is_value (fun qs r os h => by obtain ⟨c, _, rfl, _⟩ := h; rfl) rfl fun f cdv A outer s H E cz qs r os h => ?_
  obtain ⟨d, hd, rfl, rfl, rfl⟩ := h
  obtain ⟨t, ht⟩ := dat_ty (dat_1 hd)
  obtain ⟨tm, hm⟩ := C.mit
  by_cases h1 : isListD d = true
  · cases d with
    | lst xs =>
      have hd : (decide (xs.length ≤ 100000) && xs.all dat1) = true := hd
      rw [Bool.and_eq_true, List.all_eq_true] at hd
      have hl : xs.length ≤ 100000 := of_decide_eq_true hd.1
      have e : isValueD (.lst xs) = (decide (((xs.length : Nat) : Int) ≤ 20) && xs.all isSingleD) := by
        show (decide (xs.length ≤ 20) && _) = _
        congr 1
        exact decide_eq_decide.mpr (by omega)
      rw [e]
      refine ⟨_, if_r (tb (is_list ht B.isi B.list (db_of (va 0 rfl)))) rfl (de_and (de_cmpI rfl (de_len (b_len B.len) (db_of (va 0 rfl)) rfl) (gi hm)) fun _ => de_one (all_c (g := id) 1 cz B.all (by rw [List.map_id]; exact di_list (va 0 rfl)) hl fun y hy s0 H0 C0 cl fp => ?_)), .ret rfl⟩
      exact de_callV (cz.blk s0 H0 C0 cl fp) G (by decide) (da_cons (va 1 rfl) da_nil) ⟨y, hd.2 y hy, rfl, rfl, rfl⟩
    | _ => exact absurd h1 Bool.false_ne_true
  · have h1 : isListD d = false := by simpa using h1
    have e : isValueD d = isSingleD d := by cases d <;> first | rfl | exact absurd h1 tf
    rw [e]
    exact ⟨_, if_n (tb (is_list ht B.isi B.list (db_of (va 0 rfl)))) h1 (ret (de_callV cz G (by decide) (da_cons (va 0 rfl) da_nil) ⟨d, dat_1 hd, rfl, rfl, rfl⟩)), .ret rfl⟩
/-! ### look_value -/
abbrev sLook : Stmt := topS 23
theorem sc_look : FnScope ["value"] ["value"] (defScope sLook) := ⟨rfl, rfl, rfl, by decide +kernel, rfl, by decide +kernel, by decide +kernel⟩
def c_look (CB : Addr) : Con := fun ps r os => ∃ d, dat d = true ∧ ps = [.v d] ∧ r = (if isValueD d = true then .ret .non else .exc CB) ∧ os = []
theorem ok_look (F : DefAt K mg "look_value" sLook ["value"]) (X : ExcAt K mg "BadValue" CB) (G : FnAt Pr wo K mg base "is_value" 4 ["thing"] c_is_value) : FnAt Pr wo K mg base "look_value" 5 ["value"] (c_look CB) := by
  refine fnAt (n := 0) F sc_look (fun qs r os h => by obtain ⟨c, _, rfl, _⟩ := h; rfl) rfl fun f cdv A outer s H E cz qs r os h => ?_
  obtain ⟨d, hd, rfl, rfl, rfl⟩ := h
  by_cases h1 : isValueD d = true
  · rw [if_pos h1]
    exact ⟨_, if_n (dt_not (tb (de_callV cz G (by decide) (da_cons (va 0 rfl) da_nil) ⟨d, hd, rfl, rfl, rfl⟩))) (by rw [h1]; rfl) dss_nil, .non rfl⟩
  · rw [if_neg h1]
    exact ⟨_, if_t (dt_not (tb (de_callV cz G (by decide) (da_cons (va 0 rfl) da_nil) ⟨d, hd, rfl, rfl, rfl⟩))) (by simpa using h1) (dss1 (ds_raise cz X.q X.g X.k X.b X.t rfl)) rfl, .exc rfl⟩
/-! ### kind_of, kind -/
abbrev sKindOf : Stmt := topS 25
theorem sc_kind_of : FnScope ["value"] ["value"] (defScope sKindOf) := ⟨rfl, rfl, rfl, by decide +kernel, rfl, by decide +kernel, by decide +kernel⟩
def c_kind_of : Con := fun ps r os => ∃ d, dat1 d = true ∧ ps = [.v d] ∧ r = .ret (.str (kindD d)) ∧ os = []
theorem ok_kind_of (F : DefAt K mg "kind_of" sKindOf ["value"]) (B : Blts mg) : FnAt Pr wo K mg base "kind_of" 1 ["value"] c_kind_of := by
  refine fnAt (n := 0) F sc_kind_of (fun qs r os h => by obtain ⟨c, _, rfl, _⟩ := h; rfl) rfl fun f cdv A outer s H E cz qs r os h => ?_
  obtain ⟨d, hd, rfl, rfl, rfl⟩ := h
  obtain ⟨t, ht⟩ := dat_ty hd
  by_cases h1 : isBoolD d = true
  · have e : kindD d = "truth" := by cases d <;> first | rfl | exact absurd h1 Bool.false_ne_true
    rw [e]
    exact ⟨_, if_r (tb (is_bool ht B.isi B.bool (db_of (va 0 rfl)))) h1 de_str, .ret rfl⟩
  · have h1 : isBoolD d = false := by simpa using h1
    by_cases h2 : isIntD d = true
    · have e : kindD d = "number" := by cases d <;> first | rfl | exact absurd h1 tf | exact absurd h2 Bool.false_ne_true
      rw [e]
      exact ⟨_, if_n (tb (is_bool ht B.isi B.bool (db_of (va 0 rfl)))) h1 (if_r (tb (is_int ht B.isi B.int (db_of (va 0 rfl)))) h2 de_str), .ret rfl⟩
    · have h2 : isIntD d = false := by simpa using h2
      by_cases h3 : isStrD d = true
      · have e : kindD d = "text" := by cases d <;> first | rfl | exact absurd h3 Bool.false_ne_true
        rw [e]
        exact ⟨_, if_n (tb (is_bool ht B.isi B.bool (db_of (va 0 rfl)))) h1 (if_n (tb (is_int ht B.isi B.int (db_of (va 0 rfl)))) h2 (ret (ife_t (tb (is_str ht B.isi B.str (db_of (va 0 rfl)))) h3 de_str))), .ret rfl⟩
      · have h3 : isStrD d = false := by simpa using h3
        have e : kindD d = "list" := by cases d <;> first | rfl | exact absurd h1 tf | exact absurd h2 tf | exact absurd h3 tf
        rw [e]
        exact ⟨_, if_n (tb (is_bool ht B.isi B.bool (db_of (va 0 rfl)))) h1 (if_n (tb (is_int ht B.isi B.int (db_of (va 0 rfl)))) h2 (ret (ife_f (tb (is_str ht B.isi B.str (db_of (va 0 rfl)))) h3 de_str))), .ret rfl⟩
abbrev sKind : Stmt := topS 24
theorem sc_kind : FnScope ["value"] ["value"] (defScope sKind) := ⟨rfl, rfl, rfl, by decide +kernel, rfl, by decide +kernel, by decide +kernel⟩
def c_kind (CB : Addr) : Con := fun ps r os => ∃ d, dat d = true ∧ ps = [.v d] ∧ r = (if isValueD d = true then .ret (.str (kindD d)) else .exc CB) ∧ os = []
theorem ok_kind (F : DefAt K mg "kind" sKind ["value"]) (G : FnAt Pr wo K mg base "look_value" 5 ["value"] (c_look CB)) (G2 : FnAt Pr wo K mg base "kind_of" 1 ["value"] c_kind_of) : FnAt Pr wo K mg base "kind" 6 ["value"] (c_kind CB) := by
  refine fnAt (n := 0) F sc_kind (fun qs r os h => by obtain ⟨c, _, rfl, _⟩ := h; rfl) rfl fun f cdv A outer s H E cz qs r os h => ?_
  obtain ⟨d, hd, rfl, rfl, rfl⟩ := h
  by_cases h1 : isValueD d = true
  · rw [if_pos h1]
    exact ⟨_, seq (ds_expr (de_callV (r := .ret .non) cz G (by decide) (da_cons (va 0 rfl) da_nil) ⟨d, hd, rfl, (if_pos h1).symm, rfl⟩)) (ret (de_callV cz G2 (by decide) (da_cons (va 0 rfl) da_nil) ⟨d, dat_1 hd, rfl, rfl, rfl⟩)), .ret rfl⟩
  · rw [if_neg h1]
    exact ⟨_, dss (ds_exprX (de_callV (r := .exc CB) cz G (by decide) (da_cons (va 0 rfl) da_nil) ⟨d, hd, rfl, (if_neg h1).symm, rfl⟩)) rfl, .exc rfl⟩
end
end K01


set_option Elab.async false
set_option linter.all false
set_option maxRecDepth 100000
set_option maxHeartbeats 4000000
namespace K01
open PySem PySem.Spec PyProof.Rows L2 Dt
/-! ### mirrors: writing -/
def esc (c : Nat) : List Nat := if c = 10 then [92, 110] else if c = 34 ∨ c = 92 then [92, c] else [c]
def quoteL (l : List Nat) : List Nat := [34] ++ (l.map esc).flatten ++ [34]
def intL (i : Int) : List Nat := (toString i : Str).cps.toList
def textS : D → List Nat
  | .bl b => if b then [121, 101, 115] else [110, 111]
  | .int i => intL i
  | .str z => quoteL z.cps.toList
  | _ => []
def textD : D → List Nat
  | .lst xs => [91] ++ TL.joinL [44, 32] (xs.map textS) ++ [93]
  | d => textS d
/-! ### mirrors: reading, by suffixes -/
def skipB : List Nat → List Nat
  | [] => []
  | c :: r => if c = 32 then skipB r else c :: r
theorem skipB_suf : ∀ s : List Nat, skipB s <:+ s
  | [] => List.suffix_refl _
  | c :: r => by
    unfold skipB
    split
    · exact (skipB_suf r).trans (List.suffix_cons _ _)
    · exact List.suffix_refl _
theorem take1 {l s : List Nat} {a : Nat} (h : l.drop a = s) : (l.drop a).take 1 = s.take 1 := by rw [h]
theorem drop_succ {l r : List Nat} {a c : Nat} (h : l.drop a = c :: r) : l.drop (a + 1) = r := by
  rw [← List.tail_drop, h]
  rfl
theorem drop_lt {l r : List Nat} {a c : Nat} (h : l.drop a = c :: r) : a < l.length := by
  have := congrArg List.length h
  rw [List.length_drop, List.length_cons] at this
  omega
theorem drop_get {l r : List Nat} {a c : Nat} (h : l.drop a = c :: r) : l[a]? = some c := by
  have : (l.drop a)[0]? = some c := by rw [h]; rfl
  rw [List.getElem?_drop, Nat.add_zero] at this
  exact this
theorem drop_nil {l : List Nat} {a : Nat} (h : l.drop a = []) (ha : a ≤ l.length) : a = l.length := by
  have := congrArg List.length h
  rw [List.length_drop, List.length_nil] at this
  omega
theorem pos_of {l s : List Nat} {a : Nat} (h : l.drop a = s) (ha : a ≤ l.length) : posOf l s = a := by rw [← h, pos_drop ha]
section
variable {Pr : Program} {wo : World} {K : PySem.W.Frag} {mg : Str → Option Value} {base : Heap} {CB : Addr}
/-! ### blanks_from -/
abbrev sBl : Stmt := topS 32
theorem sc_bl : FnScope ["text", "at"] ["text", "at"] (defScope sBl) := ⟨rfl, rfl, rfl, by decide +kernel, rfl, by decide +kernel, by decide +kernel⟩
def c_bl : Con := fun ps r os => ∃ (l : List Nat) (a : Nat), l.length ≤ 50000 ∧ a ≤ l.length ∧ ps = [.v (.str (mk l)), .v (.int (a : Int))] ∧ r = .ret (.int (posOf l (skipB (l.drop a)) : Nat)) ∧ os = []
theorem ok_bl (F : DefAt K mg "blanks_from" sBl ["text", "at"]) : FnAt Pr wo K mg base "blanks_from" 1 ["text", "at"] c_bl := by
  refine fnAt (n := 0) F sc_bl (fun qs r os h => by obtain ⟨l, a, _, _, rfl, _⟩ := h; rfl) rfl fun f cdv A outer s H E cz qs r os h => ?_
  obtain ⟨l, a, hl, ha, rfl, rfl, rfl⟩ := h
  have hz : l.length ≤ 100000 := by omega
  have key : ∀ (s' : List Nat) (a : Nat), l.drop a = s' → a ≤ l.length → ∃ n, WhR (Xd Pr wo K mg base ["text", "at"] "blanks_from" sBl f cdv A outer s H E) (Wd0 E) (wT (bodyAt sBl 0)) (wB (bodyAt sBl 0)) n
      [.v (.str (mk l)), .v (.int (a : Int))] (.next [.v (.str (mk l)), .v (.int (posOf l (skipB s') : Nat))]) := by
    intro s'
    induction s' with
    | nil =>
      intro a h ha
      have ea := drop_nil h ha
      have e : posOf l (skipB []) = a := by rw [ea]; rfl
      rw [e]
      refine ⟨0, .done ?_⟩
      exact to (eqs rfl (sl1 hz (va 0 rfl) (va 1 rfl) (de_add (va 1 rfl) de_int)) de_str) (by rw [h]; rfl)
    | cons c r ih =>
      intro a h ha
      by_cases hc : c = 32
      · have hlt := drop_lt h
        obtain ⟨n, hn⟩ := ih (a + 1) (drop_succ h) hlt
        have e : skipB (c :: r) = skipB r := if_pos hc
        rw [e]
        refine ⟨n + 1, .turn (ρ1 := [.v (.str (mk l)), .v (.int (a : Int))]) (ρ2 := [.v (.str (mk l)), .v (.int ((a + 1 : Nat) : Int))]) ?_ ?_ hn⟩
        · exact to (eqs rfl (sl1 hz (va 0 rfl) (va 1 rfl) (de_add (va 1 rfl) de_int)) de_str) (by rw [h, hc]; rfl)
        · exact dss1 (st 1 cz (DE.cast (de_add (va 1 rfl) de_int) (by rw [show ((a + 1 : Nat) : Int) = (a : Int) + 1 by omega])))
      · have e : skipB (c :: r) = c :: r := if_neg hc
        rw [e, pos_of h ha]
        refine ⟨0, .done ?_⟩
        exact to (eqs rfl (sl1 hz (va 0 rfl) (va 1 rfl) (de_add (va 1 rfl) de_int)) de_str) (by rw [h]; exact decide_eq_false (by intro z; exact hc (List.cons.inj z).1))
  obtain ⟨n, hn⟩ := key _ a rfl ha
  exact ⟨_, seq (ds_while cz.po hn) (ret (va 1 rfl)), .ret rfl⟩
end
end K01


set_option Elab.async false
set_option linter.all false
set_option maxRecDepth 100000
set_option maxHeartbeats 4000000
namespace K01
open PySem PySem.Spec PyProof.Rows L2 Dt
theorem esc_len (c : Nat) : (esc c).length ≤ 2 := by
  unfold esc
  split
  · decide
  · split <;> simp
theorem flat_len : ∀ l : List Nat, (l.map esc).flatten.length ≤ 2 * l.length
  | [] => Nat.zero_le _
  | c :: r => by
    have h := flat_len r
    have h2 := esc_len c
    rw [List.map_cons, List.flatten_cons, List.length_append, List.length_cons]
    omega
theorem quoteL_len (l : List Nat) : (quoteL l).length ≤ 2 * l.length + 2 := by
  have h := flat_len l
  unfold quoteL
  rw [List.length_append, List.length_append, List.length_singleton]
  omega
theorem intL_nat (n : Nat) : intL (n : Int) = TL.numL n := TL.tl_num n
theorem intL_neg (n : Nat) : intL (Int.negSucc n) = 45 :: TL.numL (n + 1) := by
  have h : (toString (Int.negSucc n) : Str).cps.toList = (toString (Int.negSucc n)).toList.map Char.toNat := PyProof.Rows.signs_ofString _
  show (toString (Int.negSucc n) : Str).cps.toList = _
  rw [h]
  show (("-" ++ toString (n + 1)).toList).map Char.toNat = _
  rw [String.toList_append, List.map_append]
  show 45 :: ((toString (n + 1)).toList).map Char.toNat = _
  congr 1
  have q := TL.tl_num (n + 1)
  have h2 : (toString (((n + 1 : Nat)) : Int) : Str).cps.toList = (toString ((n + 1 : Nat) : Int)).toList.map Char.toNat := PyProof.Rows.signs_ofString _
  rw [← q]
  exact h2.symm
theorem intL_len {i : Int} (h : i.natAbs < 1000000000) : (intL i).length ≤ 10 := by
  cases i with
  | ofNat n =>
    have h1 : (TL.numL n).length ≤ 9 := TL.numL_len (by decide) (by simpa using h)
    have e : intL (Int.ofNat n) = TL.numL n := intL_nat n
    rw [e]
    omega
  | negSucc n =>
    have h1 : (TL.numL (n + 1)).length ≤ 9 := TL.numL_len (by decide) (by simpa using h)
    rw [intL_neg, List.length_cons]
    omega
theorem isTextL_len {l : List Nat} (h : isTextL l = true) : l.length ≤ 200 := by
  unfold isTextL at h
  rw [Bool.and_eq_true] at h
  exact of_decide_eq_true h.1
theorem textS_len {d : D} (h : isSingleD d = true) : (textS d).length ≤ 402 := by
  cases d with
  | bl b => cases b <;> decide
  | int i =>
    have := intL_len (i := i) (of_decide_eq_true h)
    show (intL i).length ≤ 402
    omega
  | str z =>
    have h1 := isTextL_len (l := z.cps.toList) h
    have h2 := quoteL_len z.cps.toList
    show (quoteL z.cps.toList).length ≤ 402
    omega
  | _ => exact absurd h Bool.false_ne_true
theorem single_dat {d : D} (h : isSingleD d = true) : dat1 d = true := by
  cases d with
  | str z =>
    have h1 := isTextL_len (l := z.cps.toList) h
    exact decide_eq_true (show z.cps.toList.length ≤ 100000 by omega)
  | _ => first | rfl | exact absurd h Bool.false_ne_true
theorem sum_le {α : Type} (f : α → Nat) (m : Nat) : ∀ l : List α, (∀ x ∈ l, f x ≤ m) → (l.map f).sum ≤ l.length * m
  | [], _ => Nat.zero_le _
  | x :: l, h => by
    have h1 := sum_le f m l fun y hy => h y (List.mem_cons_of_mem _ hy)
    have h2 := h x List.mem_cons_self
    rw [List.map_cons, List.sum_cons, List.length_cons, Nat.add_mul]
    omega
theorem items_len {xs : List D} (h1 : xs.length ≤ 20) (h2 : xs.all isSingleD = true) : ((xs.map textS).map List.length).sum + (xs.map textS).length * 2 ≤ 8200 := by
  rw [List.all_eq_true] at h2
  rw [List.map_map, List.length_map]
  have h3 := sum_le (List.length ∘ textS) 402 xs fun x hx => textS_len (h2 x hx)
  have h4 : xs.length * 402 ≤ 20 * 402 := Nat.mul_le_mul_right _ h1
  omega
theorem val_lst {xs : List D} (h : isValueD (.lst xs) = true) : xs.length ≤ 20 ∧ xs.all isSingleD = true := by
  have h : (decide (xs.length ≤ 20) && xs.all isSingleD) = true := h
  rw [Bool.and_eq_true] at h
  exact ⟨of_decide_eq_true h.1, h.2⟩
section
variable {Pr : Program} {wo : World} {K : PySem.W.Frag} {mg : Str → Option Value} {base : Heap} {CB : Addr}
/-! ### quoted -/
abbrev sQ : Stmt := topS 26
theorem sc_q : FnScope ["text", "found", "sign"] ["text"] (defScope sQ) := ⟨rfl, rfl, rfl, by decide +kernel, rfl, by decide +kernel, by decide +kernel⟩
def c_q : Con := fun ps r os => ∃ l : List Nat, l.length ≤ 20000 ∧ ps = [.v (.str (mk l))] ∧ r = .ret (.str (mk (quoteL l))) ∧ os = []
theorem ok_q (F : DefAt K mg "quoted" sQ ["text"]) : FnAt Pr wo K mg base "quoted" 1 ["text"] c_q := by
  refine fnAt (n := 2) F sc_q (fun qs r os h => by obtain ⟨l, _, rfl, _⟩ := h; rfl) rfl fun f cdv A outer s H E cz qs r os h => ?_
  obtain ⟨l, hl, rfl, rfl, rfl⟩ := h
  have key : ∀ (l' : List Nat) (acc : List D) (s2 : S), acc.length + l'.length ≤ 20000 → ∃ s3, FoR (Xd Pr wo K mg base ["text", "found", "sign"] "quoted" sQ f cdv A outer s H E) (Wd0 E) (fT (bodyAt sQ 1)) (fB (bodyAt sQ 1)) (l'.map fun c => .str (mk [c]))
      [.v (.str (mk l)), .own none (.lst acc), s2] (.next [.v (.str (mk l)), .own none (.lst (acc ++ l'.map fun c => D.str (mk (esc c)))), s3]) := by
    intro l'
    induction l' with
    | nil =>
      intro acc s2 _
      have e : acc ++ ([] : List Nat).map (fun c => D.str (mk (esc c))) = acc := List.append_nil acc
      rw [e]
      exact ⟨s2, .nil⟩
    | cons c r ih =>
      intro acc s2 hn
      rw [List.length_cons] at hn
      have hsz : acc.length < sizeLine := Nat.lt_of_lt_of_le (show acc.length < 100000 by omega) (by decide)
      obtain ⟨s3, h3⟩ := ih (acc ++ [.str (mk (esc c))]) (.v (.str (mk [c]))) (by simp only [List.length_append, List.length_cons, List.length_nil]; omega)
      refine ⟨s3, ?_⟩
      have e : acc ++ (c :: r).map (fun c => D.str (mk (esc c))) = (acc ++ [.str (mk (esc c))]) ++ r.map fun c => D.str (mk (esc c)) := by simp
      rw [e]
      refine .turn (bd_name (i := 2) cz.nd rfl (.inl rfl)) ?_ h3
      by_cases h1 : c = 10
      · refine if_t (eqs rfl (va 2 rfl) de_str) (by rw [h1]; rfl) (dss1 (ds_append (i := 1) rfl (.inl rfl) (cs (y := esc c) (by rw [h1]; rfl)) rfl ⟨_, _, rfl⟩ hsz)) dss_nil
      · by_cases h2 : c = 34 ∨ c = 92
        · have e2 : esc c = [92, c] := by unfold esc; rw [if_neg h1, if_pos h2]
          rw [e2]
          exact if_f (eqs rfl (va 2 rfl) de_str) (decide_eq_false fun z => h1 (List.cons.inj z).1) (dss1 (ds_append (i := 1) rfl (.inl rfl) (ife_t (dt_inS (va 2 rfl) de_str) (decide_eq_true (by rcases h2 with z | z <;> (rw [z]; decide))) (cats (x := [92]) (y := [c]) (by show 1 + 1 ≤ 100000; decide) (cs rfl) (va 2 rfl))) rfl ⟨_, _, rfl⟩ hsz)) dss_nil
        · have e2 : esc c = [c] := by unfold esc; rw [if_neg h1, if_neg h2]
          rw [e2]
          exact if_f (eqs rfl (va 2 rfl) de_str) (decide_eq_false fun z => h1 (List.cons.inj z).1) (dss1 (ds_append (i := 1) rfl (.inl rfl) (ife_f (dt_inS (va 2 rfl) de_str) (decide_eq_false (by
            intro z
            have z : c ∈ [34, 92] := z
            simp only [List.mem_cons, List.not_mem_nil, or_false] at z
            exact h2 z)) (va 2 rfl)) rfl ⟨_, _, rfl⟩ hsz)) dss_nil
  obtain ⟨s3, h3⟩ := key l [] .no (by simpa using hl)
  have fl := flat_len l
  have hj : TL.joinL [] (l.map esc) = (l.map esc).flatten := by
    generalize l.map esc = ls
    induction ls with
    | nil => rfl
    | cons p r ih =>
      cases r with
      | nil => simp [TL.joinL]
      | cons q r =>
        show p ++ ([] ++ TL.joinL [] (q :: r)) = p ++ (q :: r).flatten
        rw [ih, List.nil_append]
  have hsum : ((l.map esc).map List.length).sum + (l.map esc).length * ([] : List Nat).length ≤ 1000000 := by
    have := sum_le (List.length ∘ esc) 2 l fun x _ => esc_len x
    rw [List.map_map, List.length_nil, Nat.mul_zero]
    omega
  unfold quoteL
  refine ⟨_, seq (sto 1 cz (de_lst da_nil (Nat.zero_le _))) (seq (ds_for cz.po cz.calm (di_strL (va 0 rfl)) h3) (ret (cats (x := [34] ++ (l.map esc).flatten) (y := [34]) ?_ (cats (x := [34]) ?_ (cs rfl) (hj ▸ joins (s := []) (ls := l.map esc) hsum (cs rfl) (vb 1 (by rw [List.map_map]; rfl)))) (cs rfl)))), .ret rfl⟩
  · simp only [List.length_append, List.length_cons, List.length_nil]; omega
  · rw [List.length_singleton]; omega
/-! ### text_of -/
abbrev sTO : Stmt := topS 28
theorem sc_to : FnScope ["value", "one"] ["value"] (defScope sTO) := ⟨rfl, rfl, rfl, by decide +kernel, rfl, by decide +kernel, by decide +kernel⟩
def c_text1 : Con := fun ps r os => ∃ d, isSingleD d = true ∧ ps = [.v d] ∧ r = .ret (.str (mk (textS d))) ∧ os = []
def c_text : Con := fun ps r os => ∃ d, isValueD d = true ∧ ps = [.v d] ∧ r = .ret (.str (mk (textD d))) ∧ os = []
theorem log_small {i : Int} (h : i.natAbs < 1000000000) : i.natAbs.log2 < 1920 := by
  by_cases h0 : i.natAbs = 0
  · rw [h0]; decide
  · have : i.natAbs.log2 < 31 := (Nat.log2_lt h0).mpr (by omega)
    omega
theorem ok_text1 (F : DefAt K mg "text_of" sTO ["value"]) (B : Blts mg) (G : FnAt Pr wo K mg base "quoted" 1 ["text"] c_q) : FnAt Pr wo K mg base "text_of" 2 ["value"] c_text1 := by
  refine fnAt (n := 1) F sc_to (fun qs r os h => by obtain ⟨l, _, rfl, _⟩ := h; rfl) rfl fun f cdv A outer s H E cz qs r os h => ?_
  obtain ⟨d, hd, rfl, rfl, rfl⟩ := h
  cases d with
  | bl b =>
    cases b with
    | true => exact ⟨_, if_r (tb (is_bool rfl B.isi B.bool (db_of (va 0 rfl)))) rfl (ife_t (tb (va 0 rfl)) rfl (cs rfl)), .ret rfl⟩
    | false => exact ⟨_, if_r (tb (is_bool rfl B.isi B.bool (db_of (va 0 rfl)))) rfl (ife_f (tb (va 0 rfl)) rfl (cs rfl)), .ret rfl⟩
  | int i => exact ⟨_, if_n (tb (is_bool rfl B.isi B.bool (db_of (va 0 rfl)))) rfl (if_r (tb (is_int rfl B.isi B.int (db_of (va 0 rfl)))) rfl (de_strI (log_small (of_decide_eq_true hd)) (b_str B.str) (va 0 rfl))), .ret rfl⟩
  | str z =>
    have hl : z.cps.toList.length ≤ 20000 := Nat.le_trans (isTextL_len hd) (by decide)
    exact ⟨_, if_n (tb (is_bool rfl B.isi B.bool (db_of (va 0 rfl)))) rfl (if_n (tb (is_int rfl B.isi B.int (db_of (va 0 rfl)))) rfl (if_r (tb (is_str rfl B.isi B.str (db_of (va 0 rfl)))) rfl (de_callV cz G (by decide) (da_cons (va 0 rfl) da_nil) ⟨z.cps.toList, hl, rfl, rfl, rfl⟩))), .ret rfl⟩
  | _ => exact absurd hd Bool.false_ne_true
theorem ok_text (F : DefAt K mg "text_of" sTO ["value"]) (B : Blts mg) (Gq : FnAt Pr wo K mg base "quoted" 1 ["text"] c_q) (G : FnAt Pr wo K mg base "text_of" 2 ["value"] c_text1) : FnAt Pr wo K mg base "text_of" 3 ["value"] c_text := by
  refine fnAt (n := 1) F sc_to (fun qs r os h => by obtain ⟨l, _, rfl, _⟩ := h; rfl) rfl fun f cdv A outer s H E cz qs r os h => ?_
  obtain ⟨d, hd, rfl, rfl, rfl⟩ := h
  cases d with
  | lst xs =>
    obtain ⟨h1, h2⟩ := val_lst hd
    have hs := items_len h1 h2
    have jl := joinL_len [44, 32] (xs.map textS)
    rw [List.all_eq_true] at h2
    have hs' : ((xs.map textS).map List.length).sum + (xs.map textS).length * ([44, 32] : List Nat).length ≤ 8200 := hs
    refine ⟨_, if_n (tb (is_bool rfl B.isi B.bool (db_of (va 0 rfl)))) rfl (if_n (tb (is_int rfl B.isi B.int (db_of (va 0 rfl)))) rfl (if_n (tb (is_str rfl B.isi B.str (db_of (va 0 rfl)))) rfl (ret (cats (x := [91] ++ TL.joinL [44, 32] (xs.map textS)) (y := [93]) ?_ (cats (x := [91]) ?_ (cs rfl) (joins (s := [44, 32]) (ls := xs.map textS) (by omega) (cs rfl) (db_new (by
      rw [List.map_map]
      exact lcm (g := id) 1 cz (by rw [List.map_id]; exact di_list (va 0 rfl)) (by omega) fun y hy s0 H0 C0 cl fp => de_callV (cz.blk s0 H0 C0 cl fp) G (by decide) (da_cons (va 1 rfl) da_nil) ⟨y, h2 y hy, rfl, rfl, rfl⟩)))) (cs rfl))))), .ret rfl⟩
    · simp only [List.length_append, List.length_cons, List.length_nil]; omega
    · rw [List.length_singleton]; omega
  | bl b =>
    cases b with
    | true => exact ⟨_, if_r (tb (is_bool rfl B.isi B.bool (db_of (va 0 rfl)))) rfl (ife_t (tb (va 0 rfl)) rfl (cs rfl)), .ret rfl⟩
    | false => exact ⟨_, if_r (tb (is_bool rfl B.isi B.bool (db_of (va 0 rfl)))) rfl (ife_f (tb (va 0 rfl)) rfl (cs rfl)), .ret rfl⟩
  | int i => exact ⟨_, if_n (tb (is_bool rfl B.isi B.bool (db_of (va 0 rfl)))) rfl (if_r (tb (is_int rfl B.isi B.int (db_of (va 0 rfl)))) rfl (de_strI (log_small (of_decide_eq_true hd)) (b_str B.str) (va 0 rfl))), .ret rfl⟩
  | str z =>
    have hl : z.cps.toList.length ≤ 20000 := Nat.le_trans (isTextL_len hd) (by decide)
    exact ⟨_, if_n (tb (is_bool rfl B.isi B.bool (db_of (va 0 rfl)))) rfl (if_n (tb (is_int rfl B.isi B.int (db_of (va 0 rfl)))) rfl (if_r (tb (is_str rfl B.isi B.str (db_of (va 0 rfl)))) rfl (de_callV cz Gq (by decide) (da_cons (va 0 rfl) da_nil) ⟨z.cps.toList, hl, rfl, rfl, rfl⟩))), .ret rfl⟩
  | _ => exact absurd hd Bool.false_ne_true
/-! ### value_text -/
abbrev sVT : Stmt := topS 27
theorem sc_vt : FnScope ["value"] ["value"] (defScope sVT) := ⟨rfl, rfl, rfl, by decide +kernel, rfl, by decide +kernel, by decide +kernel⟩
def c_vt (CB : Addr) : Con := fun ps r os => ∃ d, dat d = true ∧ ps = [.v d] ∧ r = (if isValueD d = true then .ret (.str (mk (textD d))) else .exc CB) ∧ os = []
theorem ok_vt (F : DefAt K mg "value_text" sVT ["value"]) (G : FnAt Pr wo K mg base "look_value" 5 ["value"] (c_look CB)) (G2 : FnAt Pr wo K mg base "text_of" 3 ["value"] c_text) : FnAt Pr wo K mg base "value_text" 6 ["value"] (c_vt CB) := by
  refine fnAt (n := 0) F sc_vt (fun qs r os h => by obtain ⟨c, _, rfl, _⟩ := h; rfl) rfl fun f cdv A outer s H E cz qs r os h => ?_
  obtain ⟨d, hd, rfl, rfl, rfl⟩ := h
  by_cases h1 : isValueD d = true
  · rw [if_pos h1]
    exact ⟨_, seq (ds_expr (de_callV (r := .ret .non) cz G (by decide) (da_cons (va 0 rfl) da_nil) ⟨d, hd, rfl, (if_pos h1).symm, rfl⟩)) (ret (de_callV cz G2 (by decide) (da_cons (va 0 rfl) da_nil) ⟨d, h1, rfl, rfl, rfl⟩)), .ret rfl⟩
  · rw [if_neg h1]
    exact ⟨_, dss (ds_exprX (de_callV (r := .exc CB) cz G (by decide) (da_cons (va 0 rfl) da_nil) ⟨d, hd, rfl, (if_neg h1).symm, rfl⟩)) rfl, .exc rfl⟩
end
end K01


set_option Elab.async false
set_option linter.all false
set_option maxRecDepth 100000
set_option maxHeartbeats 4000000
namespace K01
open PySem PySem.Spec PyProof.Rows L2 Dt
def unesc (c : Nat) : Option Nat := if c = 92 then some 92 else if c = 34 then some 34 else if c = 110 then some 10 else none
def loopT : List Nat → List Nat → Option (List Nat × List Nat)
  | [], acc => some (acc, [])
  | c :: r, acc => if c = 34 then some (acc, c :: r) else if c = 92 then
      (match r with
      | [] => none
      | e :: r' => match unesc e with
        | none => none
        | some u => loopT r' (acc ++ [u]))
    else loopT r (acc ++ [c])
theorem loopT_nil (acc : List Nat) : loopT [] acc = some (acc, []) := rfl
theorem loopT_cons (c : Nat) (r acc : List Nat) : loopT (c :: r) acc = if c = 34 then some (acc, c :: r) else if c = 92 then
      (match r with
      | [] => none
      | e :: r' => match unesc e with
        | none => none
        | some u => loopT r' (acc ++ [u]))
    else loopT r (acc ++ [c]) := by
  rw [loopT.eq_def]
def scanT (s : List Nat) : Option (List Nat × List Nat) := match loopT s [] with
  | none => none
  | some (acc, rest) => match rest with
    | [] => none
    | _ :: q => if acc.length ≤ 200 then some (acc, q) else none
theorem loopT_suf : ∀ (n : Nat) (s acc acc2 rest : List Nat), s.length ≤ n → loopT s acc = some (acc2, rest) → rest <:+ s ∧ acc2.length + rest.length ≤ acc.length + s.length ∧ (rest = [] ∨ ∃ q, rest = 34 :: q)
  | n, [], acc, acc2, rest, _, h => by
    rw [loopT] at h
    cases h
    exact ⟨List.suffix_refl _, Nat.le_refl _, .inl rfl⟩
  | 0, c :: r, acc, acc2, rest, hn, h => by
    rw [List.length_cons] at hn
    omega
  | n + 1, c :: r, acc, acc2, rest, hn, h => by
    rw [List.length_cons] at hn
    rw [loopT_cons] at h
    by_cases h1 : c = 34
    · rw [if_pos h1] at h
      cases h
      exact ⟨List.suffix_refl _, Nat.le_refl _, .inr ⟨r, by rw [h1]⟩⟩
    · rw [if_neg h1] at h
      by_cases h2 : c = 92
      · rw [if_pos h2] at h
        cases r with
        | nil => cases h
        | cons e r' =>
          rw [List.length_cons] at hn
          dsimp only at h
          cases h3 : unesc e with
          | none => rw [h3] at h; cases h
          | some u =>
            rw [h3] at h
            obtain ⟨g1, g2, g3⟩ := loopT_suf n r' _ acc2 rest (by omega) h
            refine ⟨(g1.trans (List.suffix_cons _ _)).trans (List.suffix_cons _ _), ?_, g3⟩
            rw [List.length_append, List.length_singleton] at g2
            rw [List.length_cons, List.length_cons]
            omega
      · rw [if_neg h2] at h
        obtain ⟨g1, g2, g3⟩ := loopT_suf n r _ acc2 rest (by omega) h
        refine ⟨g1.trans (List.suffix_cons _ _), ?_, g3⟩
        rw [List.length_append, List.length_singleton] at g2
        rw [List.length_cons]
        omega
theorem scanT_suf {s acc q : List Nat} (h : scanT s = some (acc, q)) : q <:+ s ∧ q.length < s.length ∧ acc.length ≤ 200 := by
  unfold scanT at h
  split at h
  · cases h
  · rename_i acc2 rest h1
    obtain ⟨g1, g2, g3⟩ := loopT_suf s.length s [] acc2 rest (Nat.le_refl _) h1
    split at h
    · cases h
    · rename_i c q'
      split at h
      · cases h
        rename_i h2
        have := g1.length_le
        rw [List.length_cons] at this
        exact ⟨(List.suffix_cons _ _).trans g1, by omega, h2⟩
      · cases h
/-- the dict of escapes -/
structure EscAt (K : PySem.W.Frag) (wo : World) (mg : Str → Option Value) : Prop where
  ex : ∃ dk ens n t1 t2 t3, KDict K wo dk ens n ∧ mg "ESCAPES" = some (.ref dk) ∧ PySem.W.nsIn K dk (mk [92]) = some (some (.str (mk [92]) t1)) ∧ PySem.W.nsIn K dk (mk [34]) = some (some (.str (mk [34]) t2)) ∧
    PySem.W.nsIn K dk (mk [110]) = some (some (.str (mk [10]) t3)) ∧ ∀ z : Str, z ≠ mk [92] → z ≠ mk [34] → z ≠ mk [110] → PySem.W.nsIn K dk z = some none
theorem nd1 {c x : Nat} (h : c ≠ x) : (!decide ([c] = [x])) = true := by
  rw [decide_eq_false fun z => h (List.cons.inj z).1]
  rfl
def outT (l : List Nat) : Option (List Nat × List Nat) → D
  | none => .non
  | some (acc, q) => .tup [.str (mk acc), .int (posOf l q : Nat)]
abbrev sgn (c : Nat) : D := .str (mk [c])
theorem joinL_sing : ∀ l : List Nat, TL.joinL [] (l.map fun c => [c]) = l
  | [] => rfl
  | [c] => rfl
  | c :: d :: r => by
    have h := joinL_sing (d :: r)
    show [c] ++ ([] ++ TL.joinL [] ((d :: r).map fun c => [c])) = _
    rw [h]
    rfl
theorem sum_sing : ∀ l : List Nat, ((l.map fun c => [c]).map List.length).sum = l.length
  | [] => rfl
  | c :: r => by
    rw [List.map_cons, List.map_cons, List.sum_cons, sum_sing r, List.length_cons]
    show 1 + r.length = r.length + 1
    omega
section
variable {Pr : Program} {wo : World} {K : PySem.W.Frag} {mg : Str → Option Value} {base : Heap} {CB : Addr}
abbrev sTA : Stmt := topS 30
theorem sc_ta : FnScope ["text", "at", "found", "k"] ["text", "at"] (defScope sTA) := ⟨rfl, rfl, rfl, by decide +kernel, rfl, by decide +kernel, by decide +kernel⟩
def c_ta : Con := fun ps r os => ∃ (l : List Nat) (a : Nat), l.length ≤ 50000 ∧ a < l.length ∧ ps = [.v (.str (mk l)), .v (.int (a : Int))] ∧ r = .ret (outT l (scanT (l.drop (a + 1)))) ∧ os = []
theorem ok_ta (F : DefAt K mg "text_at" sTA ["text", "at"]) (B : Blts mg) (C : Cons mg) (T : EscAt K wo mg) : FnAt Pr wo K mg base "text_at" 1 ["text", "at"] c_ta := by
  refine fnAt (n := 2) F sc_ta (fun qs r os h => by obtain ⟨l, a, _, _, rfl, _⟩ := h; rfl) rfl fun f cdv A outer s H E cz qs r os h => ?_
  obtain ⟨l, a, hl, ha, rfl, rfl, rfl⟩ := h
  obtain ⟨dk, ens, ne, t1, t2, t3, T, tm, e1, e2, e3, e4⟩ := T.ex
  obtain ⟨tx, hmx⟩ := C.mtx
  have hz : l.length ≤ 100000 := by omega
  have key : ∀ (n : Nat) (s' acc : List Nat) (k : Nat), s'.length ≤ n → l.drop k = s' → k ≤ l.length → acc.length + s'.length ≤ l.length →
      match loopT s' acc with
      | none => ∃ n ρ', WhR (Xd Pr wo K mg base ["text", "at", "found", "k"] "text_at" sTA f cdv A outer s H E) (Wd0 E) (wT (bodyAt sTA 2)) (wB (bodyAt sTA 2)) n [.v (.str (mk l)), .v (.int (a : Int)), .own none (.lst (acc.map sgn)), .v (.int (k : Int))] (.ret .non ρ')
      | some (acc2, rest) => ∃ n, WhR (Xd Pr wo K mg base ["text", "at", "found", "k"] "text_at" sTA f cdv A outer s H E) (Wd0 E) (wT (bodyAt sTA 2)) (wB (bodyAt sTA 2)) n [.v (.str (mk l)), .v (.int (a : Int)), .own none (.lst (acc.map sgn)), .v (.int (k : Int))]
          (.next [.v (.str (mk l)), .v (.int (a : Int)), .own none (.lst (acc2.map sgn)), .v (.int (posOf l rest : Nat))]) := by
    intro n
    induction n with
    | zero =>
      intro s' acc k hn h hk hs
      have : s' = [] := List.length_eq_zero_iff.mp (by omega)
      subst this
      have ek := drop_nil h hk
      rw [loopT]
      refine ⟨0, ?_⟩
      have e : posOf l [] = k := by rw [ek]; rfl
      rw [e]
      exact .done (dt_w (and_f (dt_cmpI rfl (va 3 rfl) (de_len (b_len B.len) (db_of (va 0 rfl)) (len_str hz))) (decide_eq_false (by show ¬ ((k : Int) < ((l.length : Nat) : Int)); omega))))
    | succ n ih =>
      intro s' acc k hn h hk hs
      cases s' with
      | nil => exact (by
          have ek := drop_nil h hk
          rw [loopT]
          refine ⟨0, ?_⟩
          have e : posOf l [] = k := by rw [ek]; rfl
          rw [e]
          exact .done (dt_w (and_f (dt_cmpI rfl (va 3 rfl) (de_len (b_len B.len) (db_of (va 0 rfl)) (len_str hz))) (decide_eq_false (by show ¬ ((k : Int) < ((l.length : Nat) : Int)); omega)))))
      | cons c r =>
        rw [List.length_cons] at hn hs
        have hlt := drop_lt h
        have hg := drop_get h
        have tlt : decide ((k : Int) < (((mk l).length : Nat) : Int)) = true := decide_eq_true (by show (k : Int) < ((l.length : Nat) : Int); omega)
        rw [loopT_cons]
        by_cases h1 : c = 34
        · rw [if_pos h1]
          refine ⟨0, ?_⟩
          rw [pos_of h hk]
          exact .done (dt_w (and_t (dt_cmpI rfl (va 3 rfl) (de_len (b_len B.len) (db_of (va 0 rfl)) (len_str hz))) tlt (dw_and1 (to (nes rfl (ixs hz hg (va 0 rfl) (va 3 rfl)) de_str) (by rw [h1]; rfl)))))
        · rw [if_neg h1]
          have hsz : (acc.map sgn).length < sizeLine := Nat.lt_of_lt_of_le (show (acc.map sgn).length < 100000 by rw [List.length_map]; omega) (by decide)
          have test : ∀ {o : Oc} {ρ2 : List S} {m : Nat}, DSs (Xd Pr wo K mg base ["text", "at", "found", "k"] "text_at" sTA f cdv A outer s H E) (Wd0 E) (wB (bodyAt sTA 2)) [.v (.str (mk l)), .v (.int (a : Int)), .own none (.lst (acc.map sgn)), .v (.int (k : Int))] (.next ρ2) → WhR (Xd Pr wo K mg base ["text", "at", "found", "k"] "text_at" sTA f cdv A outer s H E) (Wd0 E) (wT (bodyAt sTA 2)) (wB (bodyAt sTA 2)) m ρ2 o → WhR (Xd Pr wo K mg base ["text", "at", "found", "k"] "text_at" sTA f cdv A outer s H E) (Wd0 E) (wT (bodyAt sTA 2)) (wB (bodyAt sTA 2)) (m + 1) [.v (.str (mk l)), .v (.int (a : Int)), .own none (.lst (acc.map sgn)), .v (.int (k : Int))] o := fun hb hr =>
            .turn (dt_w (and_t (dt_cmpI rfl (va 3 rfl) (de_len (b_len B.len) (db_of (va 0 rfl)) (len_str hz))) tlt (dw_and1 (to (nes (y := [34]) rfl (ixs hz hg (va 0 rfl) (va 3 rfl)) de_str) (nd1 h1))))) hb hr
          by_cases h2 : c = 92
          · rw [if_pos h2]
            have tb2 : decide ([c] = [92]) = true := by rw [h2]; rfl
            have d1 := drop_succ h
            have k1 : ((k : Int) + 1) = ((k + 1 : Nat) : Int) := by omega
            have k2 : ((k : Int) + 2) = ((k + 2 : Nat) : Int) := by omega
            have e21 : k + 2 - (k + 1) = 1 := by omega
            have retn : ∀ z : Nat → Prop, PySem.W.nsIn K dk (mk ((l.drop (k + 1)).take (k + 2 - (k + 1)))) = some none → ∃ n ρ', WhR (Xd Pr wo K mg base ["text", "at", "found", "k"] "text_at" sTA f cdv A outer s H E) (Wd0 E) (wT (bodyAt sTA 2)) (wB (bodyAt sTA 2)) n [.v (.str (mk l)), .v (.int (a : Int)), .own none (.lst (acc.map sgn)), .v (.int (k : Int))] (.ret .non ρ') := fun _ hns =>
              ⟨0, _, .ret (dt_w (and_t (dt_cmpI rfl (va 3 rfl) (de_len (b_len B.len) (db_of (va 0 rfl)) (len_str hz))) tlt (dw_and1 (to (nes (y := [34]) rfl (ixs hz hg (va 0 rfl) (va 3 rfl)) de_str) (nd1 h1)))))
                (if_t (eqs rfl (ixs hz hg (va 0 rfl) (va 3 rfl)) de_str) tb2 (if_r (dt_notInK T rfl tm hns (sl2 (i := k + 1) (j := k + 2) hz (va 0 rfl) (DE.cast (de_add (va 3 rfl) de_int) (congrArg D.int k1)) (DE.cast (de_add (va 3 rfl) de_int) (congrArg D.int k2)))) rfl de_non) rfl)⟩
            cases r with
            | nil =>
              refine retn (fun _ => True) ?_
              have tk0 : (l.drop (k + 1)).take (k + 2 - (k + 1)) = [] := by rw [d1, e21]; rfl
              rw [tk0]
              exact e4 _ (by intro z; cases mk_inj.mp z) (by intro z; cases mk_inj.mp z) (by intro z; cases mk_inj.mp z)
            | cons e r' =>
              rw [List.length_cons] at hn hs
              have hlt2 := drop_lt d1
              have hg2 := drop_get d1
              have d2 := drop_succ d1
              dsimp only
              have tk1 : (l.drop (k + 1)).take (k + 2 - (k + 1)) = [e] := by rw [d1, e21]; rfl
              have go : ∀ (u : Nat) (tu : Tok), PySem.W.nsIn K dk (mk [e]) = some (some (.str (mk [u]) tu)) → DSs (Xd Pr wo K mg base ["text", "at", "found", "k"] "text_at" sTA f cdv A outer s H E) (Wd0 E) (wB (bodyAt sTA 2)) [.v (.str (mk l)), .v (.int (a : Int)), .own none (.lst (acc.map sgn)), .v (.int (k : Int))] (.next [.v (.str (mk l)), .v (.int (a : Int)), .own none (.lst ((acc ++ [u]).map sgn)), .v (.int ((k + 1 + 1 : Nat) : Int))]) := fun u tu hu => by
                have ec : (acc ++ [u]).map sgn = acc.map sgn ++ [sgn u] := by rw [List.map_append]; rfl
                rw [ec]
                exact if_t (eqs rfl (ixs hz hg (va 0 rfl) (va 3 rfl)) de_str) tb2 (if_n (dt_notInK T rfl tm (by rw [tk1]; exact hu) (sl2 (i := k + 1) (j := k + 2) hz (va 0 rfl) (DE.cast (de_add (va 3 rfl) de_int) (congrArg D.int k1)) (DE.cast (de_add (va 3 rfl) de_int) (congrArg D.int k2)))) rfl (seq (ds_append (i := 2) rfl (.inl rfl) (de_itemK T rfl tm hu (v0 := .str (mk [u])) ⟨tu, rfl⟩ (fun _ => .str _) (ixs (i := k + 1) hz hg2 (va 0 rfl) (DE.cast (de_add (va 3 rfl) de_int) (congrArg D.int k1)))) rfl ⟨_, _, rfl⟩ hsz) (dss1 (st 3 cz (DE.cast (de_add (va 3 rfl) de_int) (congrArg D.int k2)))))) dss_nil
              have fin : ∀ (u : Nat) (tu : Tok), unesc e = some u → PySem.W.nsIn K dk (mk [e]) = some (some (.str (mk [u]) tu)) → (match loopT r' (acc ++ [u]) with
                  | none => ∃ n ρ', WhR (Xd Pr wo K mg base ["text", "at", "found", "k"] "text_at" sTA f cdv A outer s H E) (Wd0 E) (wT (bodyAt sTA 2)) (wB (bodyAt sTA 2)) n [.v (.str (mk l)), .v (.int (a : Int)), .own none (.lst (acc.map sgn)), .v (.int (k : Int))] (.ret .non ρ')
                  | some (acc2, rest) => ∃ n, WhR (Xd Pr wo K mg base ["text", "at", "found", "k"] "text_at" sTA f cdv A outer s H E) (Wd0 E) (wT (bodyAt sTA 2)) (wB (bodyAt sTA 2)) n [.v (.str (mk l)), .v (.int (a : Int)), .own none (.lst (acc.map sgn)), .v (.int (k : Int))]
                      (.next [.v (.str (mk l)), .v (.int (a : Int)), .own none (.lst (acc2.map sgn)), .v (.int (posOf l rest : Nat))])) := fun u tu _ hu => by
                have ihr := ih r' (acc ++ [u]) (k + 1 + 1) (by omega) d2 (by omega) (by rw [List.length_append, List.length_singleton]; omega)
                revert ihr
                split
                · rintro ⟨m, ρ', hm⟩
                  exact ⟨m + 1, ρ', test (go u tu hu) hm⟩
                · rintro ⟨m, hm⟩
                  exact ⟨m + 1, test (go u tu hu) hm⟩
              by_cases u1 : e = 92
              · have hu : unesc e = some 92 := by unfold unesc; rw [if_pos u1]
                rw [hu]
                exact fin 92 t1 hu (by rw [u1]; exact e1)
              · by_cases u2 : e = 34
                · have hu : unesc e = some 34 := by unfold unesc; rw [if_neg u1, if_pos u2]
                  rw [hu]
                  exact fin 34 t2 hu (by rw [u2]; exact e2)
                · by_cases u3 : e = 110
                  · have hu : unesc e = some 10 := by unfold unesc; rw [if_neg u1, if_neg u2, if_pos u3]
                    rw [hu]
                    exact fin 10 t3 hu (by rw [u3]; exact e3)
                  · have hu : unesc e = none := by unfold unesc; rw [if_neg u1, if_neg u2, if_neg u3]
                    rw [hu]
                    refine retn (fun _ => True) ?_
                    rw [tk1]
                    exact e4 _ (fun z => u1 (List.cons.inj (mk_inj.mp z)).1) (fun z => u2 (List.cons.inj (mk_inj.mp z)).1) (fun z => u3 (List.cons.inj (mk_inj.mp z)).1)
          · rw [if_neg h2]
            have ihr := ih r (acc ++ [c]) (k + 1) (by omega) (drop_succ h) hlt (by rw [List.length_append, List.length_singleton]; omega)
            have ec : (acc ++ [c]).map sgn = acc.map sgn ++ [sgn c] := by rw [List.map_append]; rfl
            have body : DSs (Xd Pr wo K mg base ["text", "at", "found", "k"] "text_at" sTA f cdv A outer s H E) (Wd0 E) (wB (bodyAt sTA 2)) [.v (.str (mk l)), .v (.int (a : Int)), .own none (.lst (acc.map sgn)), .v (.int (k : Int))] (.next [.v (.str (mk l)), .v (.int (a : Int)), .own none (.lst ((acc ++ [c]).map sgn)), .v (.int ((k + 1 : Nat) : Int))]) := by
              rw [ec]
              exact if_f (eqs rfl (ixs hz hg (va 0 rfl) (va 3 rfl)) de_str) (decide_eq_false (fun z => h2 (List.cons.inj z).1)) (seq (ds_append (i := 2) rfl (.inl rfl) (ixs hz hg (va 0 rfl) (va 3 rfl)) rfl ⟨_, _, rfl⟩ hsz) (dss1 (st 3 cz (DE.cast (de_add (va 3 rfl) de_int) (by rw [show ((k + 1 : Nat) : Int) = (k : Int) + 1 by omega]))))) dss_nil
            revert ihr
            split
            · rintro ⟨m, ρ', hm⟩
              exact ⟨m + 1, ρ', test body hm⟩
            · rintro ⟨m, hm⟩
              exact ⟨m + 1, test body hm⟩
  have hk := key (l.drop (a + 1)).length (l.drop (a + 1)) [] (a + 1) (Nat.le_refl _) rfl ha (by rw [List.length_drop]; simp)
  unfold scanT
  revert hk
  cases hlo : loopT (l.drop (a + 1)) [] with
  | none =>
    rintro ⟨n, ρ', hn⟩
    exact ⟨_, seq (sto 2 cz (de_lst da_nil (Nat.zero_le _))) (seq (st 3 cz (DE.cast (de_add (va 1 rfl) de_int) (congrArg D.int (show (a : Int) + 1 = ((a + 1 : Nat) : Int) by omega)))) (dss (ds_while cz.po hn) rfl)), .ret rfl⟩
  | some p =>
    obtain ⟨acc2, rest⟩ := p
    rintro ⟨n, hn⟩
    obtain ⟨g1, g2, g3⟩ := loopT_suf _ _ [] acc2 rest (Nat.le_refl _) hlo
    have suf : rest <:+ l := g1.trans (List.drop_suffix _ _)
    have la : acc2.length ≤ 50000 := by
      rw [List.length_drop, List.length_nil] at g2
      omega
    have hlen : lenD (.lst (acc2.map sgn)) = some acc2.length := by
      show some (acc2.map sgn).length = _
      rw [List.length_map]
    dsimp only
    rcases g3 with rfl | ⟨q, rfl⟩
    · dsimp only
      exact ⟨_, seq (sto 2 cz (de_lst da_nil (Nat.zero_le _))) (seq (st 3 cz (DE.cast (de_add (va 1 rfl) de_int) (congrArg D.int (show (a : Int) + 1 = ((a + 1 : Nat) : Int) by omega)))) (seq (ds_while cz.po hn) (if_r (dt_w (or_t (dt_cmpI rfl (va 3 rfl) (de_len (b_len B.len) (db_of (va 0 rfl)) (len_str hz))) (decide_eq_true (Int.le_refl _)))) rfl de_non))), .ret rfl⟩
    · have plt : posOf l (34 :: q) < l.length := by
        have := suf.length_le
        rw [List.length_cons] at this
        unfold posOf
        rw [List.length_cons]
        omega
      have nge : decide ((((mk l).length : Nat) : Int) ≤ ((posOf l (34 :: q) : Nat) : Int)) = false := decide_eq_false (by show ¬ (((l.length : Nat) : Int) ≤ _); omega)
      dsimp only
      by_cases h2 : acc2.length ≤ 200
      · rw [if_pos h2]
        have ps : ((posOf l (34 :: q) : Nat) : Int) + 1 = ((posOf l q : Nat) : Int) := by
          rw [pos_cast suf, pos_cast ((List.suffix_cons _ _).trans suf), List.length_cons]
          omega
        show ∃ o, _ ∧ Tells _ _ o (.ret (.tup [.str (mk acc2), .int ((posOf l q : Nat) : Int)]))
        refine ⟨_, seq (sto 2 cz (de_lst da_nil (Nat.zero_le _))) (seq (st 3 cz (DE.cast (de_add (va 1 rfl) de_int) (congrArg D.int (show (a : Int) + 1 = ((a + 1 : Nat) : Int) by omega)))) (seq (ds_while cz.po hn) (if_n (dt_w (or_f (dt_cmpI rfl (va 3 rfl) (de_len (b_len B.len) (db_of (va 0 rfl)) (len_str hz))) nge (dw_or1 (dt_cmpI rfl (de_len (b_len B.len) (vb 2 rfl) hlen) (gi hmx))))) (decide_eq_false (by omega))
          (ret (de_tup (da_cons (joinL_sing acc2 ▸ joins (s := []) (ls := acc2.map fun c => [c]) (by rw [sum_sing, List.length_nil]; omega) (cs rfl) (vb 2 (by rw [List.map_map]; rfl))) (da_cons (DE.cast (de_add (va 3 rfl) de_int) (congrArg D.int ps)) da_nil)) (by show 2 ≤ sizeLine; decide)))))), .ret rfl⟩
      · rw [if_neg h2]
        exact ⟨_, seq (sto 2 cz (de_lst da_nil (Nat.zero_le _))) (seq (st 3 cz (DE.cast (de_add (va 1 rfl) de_int) (congrArg D.int (show (a : Int) + 1 = ((a + 1 : Nat) : Int) by omega)))) (seq (ds_while cz.po hn) (if_r (dt_w (or_f (dt_cmpI rfl (va 3 rfl) (de_len (b_len B.len) (db_of (va 0 rfl)) (len_str hz))) nge (dw_or1 (dt_cmpI rfl (de_len (b_len B.len) (vb 2 rfl) hlen) (gi hmx))))) (decide_eq_true (by omega)) de_non))), .ret rfl⟩
end
end K01


set_option Elab.async false
set_option linter.all false
set_option maxRecDepth 100000
set_option maxHeartbeats 4000000
namespace K01
open PySem PySem.Spec PyProof.Rows L2 Dt
def isDig (c : Nat) : Bool := decide (48 ≤ c) && decide (c ≤ 57)
def digsOf : List Nat → List Nat
  | [] => []
  | c :: r => if isDig c = true then c :: digsOf r else []
def restOf : List Nat → List Nat
  | [] => []
  | c :: r => if isDig c = true then restOf r else c :: r
theorem digs_rest : ∀ s : List Nat, digsOf s ++ restOf s = s
  | [] => rfl
  | c :: r => by
    unfold digsOf restOf
    split
    · rw [List.cons_append, digs_rest r]
    · rfl
theorem digs_all : ∀ s : List Nat, ∀ c ∈ digsOf s, 48 ≤ c ∧ c ≤ 57
  | [], c, h => by cases h
  | x :: r, c, h => by
    unfold digsOf at h
    split at h
    · rename_i hx
      rcases List.mem_cons.mp h with rfl | h
      · unfold isDig at hx
        rw [Bool.and_eq_true] at hx
        exact ⟨of_decide_eq_true hx.1, of_decide_eq_true hx.2⟩
      · exact digs_all r c h
    · cases h
theorem rest_suf (s : List Nat) : restOf s <:+ s := ⟨digsOf s, digs_rest s⟩
def isNeg (s : List Nat) : Bool := decide (s.take 1 = [45])
def numBody (s : List Nat) : List Nat := if isNeg s = true then s.drop 1 else s
def numBad (neg : Bool) (ds : List Nat) : Bool := decide (ds.length = 0) || decide (9 < ds.length) || (decide (ds.take 1 = [48]) && (decide (1 < ds.length) || neg))
def numVal (neg : Bool) (ds : List Nat) : Int := if neg = true then -((NumText.digitsVal ds : Nat) : Int) else ((NumText.digitsVal ds : Nat) : Int)
def numS (s : List Nat) : Option (Int × List Nat) :=
  if numBad (isNeg s) (digsOf (numBody s)) = true then none else some (numVal (isNeg s) (digsOf (numBody s)), restOf (numBody s))
theorem numBody_suf (s : List Nat) : numBody s <:+ s := by
  unfold numBody
  split
  · exact List.drop_suffix _ _
  · exact List.suffix_refl _
theorem numS_suf {s r : List Nat} {i : Int} (h : numS s = some (i, r)) : r <:+ s ∧ r.length < s.length := by
  unfold numS at h
  split at h
  · cases h
  · rename_i hb
    cases h
    refine ⟨(rest_suf _).trans (numBody_suf s), ?_⟩
    have h1 := congrArg List.length (digs_rest (numBody s))
    rw [List.length_append] at h1
    have h2 := (numBody_suf s).length_le
    have h3 : (digsOf (numBody s)).length ≠ 0 := fun z => hb (by unfold numBad; rw [decide_eq_true z]; rfl)
    omega
def outN (l : List Nat) : Option (Int × List Nat) → D
  | none => .non
  | some (i, q) => .tup [.int i, .int (posOf l q : Nat)]
theorem neg_cons {s : List Nat} (h : isNeg s = true) : s = 45 :: s.drop 1 := by
  unfold isNeg at h
  have h := of_decide_eq_true h
  cases s with
  | nil => cases h
  | cons c r =>
    have : c = 45 := (List.cons.inj h).1
    rw [this]
    rfl
theorem num_text (s : List Nat) (hb : ¬ numBad (isNeg s) (digsOf (numBody s)) = true) : PySem.intText? (mk ((if isNeg s = true then [45] else []) ++ digsOf (numBody s))) = some (numVal (isNeg s) (digsOf (numBody s))) := by
  have hne : digsOf (numBody s) ≠ [] := fun z => hb (by unfold numBad; rw [z]; rfl)
  have h9 : (digsOf (numBody s)).length ≤ 9 := by
    refine Nat.le_of_not_lt fun z => hb ?_
    unfold numBad
    rw [decide_eq_true z, Bool.or_true]
    rfl
  have hd : NumText.AllDigits (digsOf (numBody s)) := digs_all _
  unfold numVal
  by_cases h : isNeg s = true
  · rw [if_pos h, if_pos h]
    exact intText_neg rfl hd hne (by show (45 :: digsOf (numBody s)).length ≤ 4300; rw [List.length_cons]; omega)
  · rw [if_neg h, if_neg h]
    exact intText_digits hd hne (by show (digsOf (numBody s)).length ≤ 4300; omega)
theorem mem_figs (c : Nat) : decide (c ∈ ("0123456789" : Str).cps.toList) = isDig c := by
  have e : ("0123456789" : Str).cps.toList = [48, 49, 50, 51, 52, 53, 54, 55, 56, 57] := rfl
  rw [e]
  unfold isDig
  by_cases h : 48 ≤ c ∧ c ≤ 57
  · rw [decide_eq_true h.1, decide_eq_true h.2]
    refine decide_eq_true ?_
    simp only [List.mem_cons, List.not_mem_nil, or_false]
    omega
  · have : (decide (48 ≤ c) && decide (c ≤ 57)) = false := by
      rw [Bool.and_eq_false_iff]
      by_cases h1 : 48 ≤ c
      · exact .inr (decide_eq_false fun z => h ⟨h1, z⟩)
      · exact .inl (decide_eq_false h1)
    rw [this]
    refine decide_eq_false ?_
    simp only [List.mem_cons, List.not_mem_nil, or_false]
    omega
section
variable {Pr : Program} {wo : World} {K : PySem.W.Frag} {mg : Str → Option Value} {base : Heap} {CB : Addr}
abbrev sNA : Stmt := topS 29
theorem sc_na : FnScope ["text", "at", "end", "first", "figures"] ["text", "at"] (defScope sNA) := ⟨rfl, rfl, rfl, by decide +kernel, rfl, by decide +kernel, by decide +kernel⟩
def c_na : Con := fun ps r os => ∃ (l : List Nat) (a : Nat), l.length ≤ 50000 ∧ a ≤ l.length ∧ ps = [.v (.str (mk l)), .v (.int (a : Int))] ∧ r = .ret (outN l (numS (l.drop a))) ∧ os = []
theorem ok_na (F : DefAt K mg "number_at" sNA ["text", "at"]) (B : Blts mg) (C : Cons mg) : FnAt Pr wo K mg base "number_at" 1 ["text", "at"] c_na := by
  refine fnAt (n := 3) F sc_na (fun qs r os h => by obtain ⟨l, a, _, _, rfl, _⟩ := h; rfl) rfl fun f cdv A outer s H E cz qs r os h => ?_
  obtain ⟨l, a, hl, ha, rfl, rfl, rfl⟩ := h
  obtain ⟨tf, hmf⟩ := C.figs
  obtain ⟨tm, hmm⟩ := C.mfig
  have hz : l.length ≤ 100000 := by omega
  have key : ∀ (s' : List Nat) (b e : Nat), l.drop e = s' → e ≤ l.length → ∃ n, WhR (Xd Pr wo K mg base ["text", "at", "end", "first", "figures"] "number_at" sNA f cdv A outer s H E) (Wd0 E) (wT (bodyAt sNA 2)) (wB (bodyAt sNA 2)) n
      [.v (.str (mk l)), .v (.int (a : Int)), .v (.int (e : Int)), .v (.int (b : Int)), .no] (.next [.v (.str (mk l)), .v (.int (a : Int)), .v (.int (posOf l (restOf s') : Nat)), .v (.int (b : Int)), .no]) := by
    intro s'
    induction s' with
    | nil =>
      intro b e h he
      have ee := drop_nil h he
      have e0 : posOf l (restOf []) = e := by rw [ee]; rfl
      rw [e0]
      exact ⟨0, .done (dt_w (and_f (nes (y := []) rfl (sl1 hz (va 0 rfl) (va 2 rfl) (de_add (va 2 rfl) de_int)) de_str) (by rw [h]; rfl)))⟩
    | cons c r ih =>
      intro b e h he
      have hg := drop_get h
      have ne : (!decide ((l.drop e).take 1 = [])) = true := by rw [h]; rfl
      by_cases hd : isDig c = true
      · have hlt := drop_lt h
        obtain ⟨n, hn⟩ := ih b (e + 1) (drop_succ h) hlt
        have e0 : restOf (c :: r) = restOf r := if_pos hd
        rw [e0]
        refine ⟨n + 1, .turn (ρ2 := [.v (.str (mk l)), .v (.int (a : Int)), .v (.int ((e + 1 : Nat) : Int)), .v (.int (b : Int)), .no]) (dt_w (and_t (nes (y := []) rfl (sl1 hz (va 0 rfl) (va 2 rfl) (de_add (va 2 rfl) de_int)) de_str) ne (dw_and1 (to (dt_inS (ixs hz hg (va 0 rfl) (va 2 rfl)) (gs hmf)) (by rw [mem_figs]; exact hd))))) ?_ hn⟩
        exact dss1 (st 2 cz (DE.cast (de_add (va 2 rfl) de_int) (congrArg D.int (show (e : Int) + 1 = ((e + 1 : Nat) : Int) by omega))))
      · have e0 : restOf (c :: r) = c :: r := if_neg hd
        rw [e0, pos_of h he]
        exact ⟨0, .done (dt_w (and_t (nes (y := []) rfl (sl1 hz (va 0 rfl) (va 2 rfl) (de_add (va 2 rfl) de_int)) de_str) ne (dw_and1 (to (dt_inS (ixs hz hg (va 0 rfl) (va 2 rfl)) (gs hmf)) (by rw [mem_figs]; simpa using hd)))))⟩
  -- the place behind the sign
  have hb : ∃ b : Nat, b ≤ l.length ∧ l.drop b = numBody (l.drop a) ∧ a ≤ b ∧ (isNeg (l.drop a) = true → b = a + 1) ∧ (isNeg (l.drop a) = false → b = a) := by
    unfold numBody
    by_cases hn : isNeg (l.drop a) = true
    · have hc := neg_cons hn
      have hlt := drop_lt hc
      refine ⟨a + 1, hlt, ?_, by omega, fun _ => rfl, fun z => by rw [hn] at z; cases z⟩
      rw [if_pos hn, List.drop_drop]
    · refine ⟨a, ha, ?_, Nat.le_refl _, fun z => absurd z hn, fun _ => rfl⟩
      rw [if_neg hn]
  obtain ⟨b, hbl, hbd, hab, hb1, hb2⟩ := hb
  obtain ⟨n, hn⟩ := key (numBody (l.drop a)) b b hbd hbl
  have suf : restOf (numBody (l.drop a)) <:+ l := ((rest_suf _).trans (numBody_suf _)).trans (List.drop_suffix _ _)
  have hsplit : l.drop b = digsOf (numBody (l.drop a)) ++ restOf (numBody (l.drop a)) := by rw [hbd, digs_rest]
  generalize eds : digsOf (numBody (l.drop a)) = ds at *
  generalize ers : restOf (numBody (l.drop a)) = rs at *
  have elen : l.length - b = ds.length + rs.length := by
    have := congrArg List.length hsplit
    rw [List.length_drop, List.length_append] at this
    exact this
  have hpos : posOf l rs = b + ds.length := by
    unfold posOf
    omega
  have hfig : (l.drop b).take (posOf l rs - b) = ds := by
    rw [hsplit, hpos, Nat.add_sub_cancel_left, List.take_left]
  have fl : ds.length ≤ 100000 := by omega
  -- first three statements
  have head : ∀ {o : Oc}, DSs (Xd Pr wo K mg base ["text", "at", "end", "first", "figures"] "number_at" sNA f cdv A outer s H E) (Wd0 E) ((defBody sNA).drop 4) [.v (.str (mk l)), .v (.int (a : Int)), .v (.int (posOf l rs : Nat)), .v (.int (b : Int)), .v (.str (mk ds))] o →
      DSs (Xd Pr wo K mg base ["text", "at", "end", "first", "figures"] "number_at" sNA f cdv A outer s H E) (Wd0 E) (defBody sNA) (toS 0 [P.v (.str (mk l)), P.v (.int (a : Int))] ++ List.replicate 3 S.no) o := fun {o} hk => by
    have tail : DSs (Xd Pr wo K mg base ["text", "at", "end", "first", "figures"] "number_at" sNA f cdv A outer s H E) (Wd0 E) ((defBody sNA).drop 1) [.v (.str (mk l)), .v (.int (a : Int)), .v (.int (b : Int)), .no, .no] o :=
      seq (st 3 cz (va 2 rfl)) (seq (ds_while cz.po hn) (seq (st 4 cz (DE.cast (sl2 (i := b) (j := posOf l rs) hz (va 0 rfl) (va 3 rfl) (va 2 rfl)) (by rw [hfig]))) hk))
    by_cases hng : isNeg (l.drop a) = true
    · have e := hb1 hng
      subst e
      exact seq (st 2 cz (ife_t (eqs (y := [45]) rfl (sl1 hz (va 0 rfl) (va 1 rfl) (de_add (va 1 rfl) de_int)) de_str) hng (DE.cast (de_add (va 1 rfl) de_int) (congrArg D.int (show (a : Int) + 1 = ((a + 1 : Nat) : Int) by omega))))) tail
    · have hng : isNeg (l.drop a) = false := by simpa using hng
      have e := hb2 hng
      subst e
      exact seq (st 2 cz (ife_f (eqs (y := [45]) rfl (sl1 hz (va 0 rfl) (va 1 rfl) (de_add (va 1 rfl) de_int)) de_str) hng (va 1 rfl))) tail
  have hneg : isNeg (l.drop a) = decide ((a : Int) < (b : Int)) := by
    by_cases hng : isNeg (l.drop a) = true
    · rw [hng, hb1 hng]
      exact (decide_eq_true (by omega)).symm
    · have hng : isNeg (l.drop a) = false := by simpa using hng
      rw [hng, hb2 hng]
      exact (decide_eq_false (by omega)).symm
  have lenf : lenD (.str (mk ds)) = some ds.length := len_str fl
  unfold numS
  rw [eds, ers]
  by_cases h0 : ds.length = 0
  · have bad : numBad (isNeg (l.drop a)) ds = true := by unfold numBad; rw [decide_eq_true h0]; rfl
    rw [if_pos bad]
    exact ⟨_, head (if_r (dt_w (or_t (dt_not (dt_chainI rfl rfl de_int (de_len (b_len B.len) (db_of (va 4 rfl)) lenf) (gi hmm))) (by rw [h0]; rfl))) rfl de_non), .ret rfl⟩
  · by_cases h9 : 9 < ds.length
    · have bad : numBad (isNeg (l.drop a)) ds = true := by unfold numBad; rw [decide_eq_true h9, Bool.or_true]; rfl
      rw [if_pos bad]
      exact ⟨_, head (if_r (dt_w (or_t (dt_not (dt_chainI rfl rfl de_int (de_len (b_len B.len) (db_of (va 4 rfl)) lenf) (gi hmm))) (by
        have q : decide (((ds.length : Nat) : Int) ≤ 9) = false := decide_eq_false (by omega)
        show (!(decide ((1 : Int) ≤ ((ds.length : Nat) : Int)) && decide (((ds.length : Nat) : Int) ≤ 9))) = true
        rw [q, Bool.and_false]
        rfl))) rfl de_non), .ret rfl⟩
    · have c1 : (!(decide ((1 : Int) ≤ ((ds.length : Nat) : Int)) && decide (((ds.length : Nat) : Int) ≤ 9))) = false := by
        rw [decide_eq_true (show (1 : Int) ≤ ((ds.length : Nat) : Int) by omega), decide_eq_true (show ((ds.length : Nat) : Int) ≤ 9 by omega)]
        rfl
      obtain ⟨c, dr, hds⟩ : ∃ c dr, ds = c :: dr := by
        cases ds with
        | nil => exact absurd rfl h0
        | cons c dr => exact ⟨c, dr, rfl⟩
      have hg : ds[0]? = some c := by rw [hds]; rfl
      have e0 : numBad (isNeg (l.drop a)) ds = (decide ([c] = [48]) && (decide ((1 : Int) < ((ds.length : Nat) : Int)) || decide ((a : Int) < (b : Int)))) := by
        unfold numBad
        rw [decide_eq_false h0, decide_eq_false h9, Bool.false_or, Bool.false_or, hneg]
        have t1 : ds.take 1 = [c] := by rw [hds]; rfl
        rw [t1]
        congr 2
        exact decide_eq_decide.mpr (by omega)
      have e00 : ((0 : Nat) : Int) = 0 := rfl
      by_cases bad : numBad (isNeg (l.drop a)) ds = true
      · rw [if_pos bad]
        rw [e0, Bool.and_eq_true] at bad
        exact ⟨_, head (if_r (dt_w (or_f (dt_not (dt_chainI rfl rfl de_int (de_len (b_len B.len) (db_of (va 4 rfl)) lenf) (gi hmm))) c1 (dw_or1 (dt_w (and_t (eqs (y := [48]) rfl (ixs (i := 0) fl hg (va 4 rfl) de_int) de_str) bad.1 (dw_and1 (dt_w (dw_or (dt_cmpI rfl (de_len (b_len B.len) (db_of (va 4 rfl)) lenf) de_int) fun _ => dw_or1 (dt_cmpI rfl (va 3 rfl) (va 1 rfl)))))))))) bad.2 de_non), .ret rfl⟩
      · have nb := bad
        rw [if_neg bad]
        have bad : numBad (isNeg (l.drop a)) ds = false := by simpa using bad
        rw [e0] at bad
        have cut : (l.drop a).take (posOf l rs - a) = (if isNeg (l.drop a) = true then [45] else []) ++ ds := by
          by_cases hng : isNeg (l.drop a) = true
          · rw [if_pos hng]
            have e := hb1 hng
            have hc := neg_cons hng
            rw [List.drop_drop] at hc
            rw [hc, ← e, hsplit, hpos, e, show a + 1 + ds.length - a = ds.length + 1 by omega, List.take_succ_cons, List.take_left]
            rfl
          · rw [if_neg hng]
            have e := hb2 (by simpa using hng)
            rw [← e, hsplit, hpos, Nat.add_sub_cancel_left, List.take_left]
            rfl
        have it : PySem.intText? (mk ((l.drop a).take (posOf l rs - a))) = some (numVal (isNeg (l.drop a)) ds) := by
          rw [cut, ← eds]
          exact num_text _ (by rw [eds]; exact nb)
        have il : (mk ((l.drop a).take (posOf l rs - a))).length ≤ 640 := by
          rw [cut]
          show ((if isNeg (l.drop a) = true then [45] else []) ++ ds).length ≤ 640
          rw [List.length_append]
          split
          · rw [List.length_singleton]; omega
          · rw [List.length_nil]; omega
        have fin : ∀ {k0 : Bool}, DSs (Xd Pr wo K mg base ["text", "at", "end", "first", "figures"] "number_at" sNA f cdv A outer s H E) (Wd0 E) ((defBody sNA).drop 5) [.v (.str (mk l)), .v (.int (a : Int)), .v (.int (posOf l rs : Nat)), .v (.int (b : Int)), .v (.str (mk ds))] (.ret (.tup [.int (numVal (isNeg (l.drop a)) ds), .int (posOf l rs : Nat)]) [.v (.str (mk l)), .v (.int (a : Int)), .v (.int (posOf l rs : Nat)), .v (.int (b : Int)), .v (.str (mk ds))]) := fun {_} =>
          ret (de_tup (da_cons (de_intS it il (b_int B.int) (sl2 (i := a) (j := posOf l rs) hz (va 0 rfl) (va 1 rfl) (va 2 rfl))) (da_cons (va 2 rfl) da_nil)) (by show 2 ≤ sizeLine; decide))
        by_cases b1 : decide ([c] = [48]) = true
        · have b2 : (decide ((1 : Int) < ((ds.length : Nat) : Int)) || decide ((a : Int) < (b : Int))) = false := by rw [b1, Bool.true_and] at bad; exact bad
          exact ⟨_, head (if_n (dt_w (or_f (dt_not (dt_chainI rfl rfl de_int (de_len (b_len B.len) (db_of (va 4 rfl)) lenf) (gi hmm))) c1 (dw_or1 (dt_w (and_t (eqs (y := [48]) rfl (ixs (i := 0) fl hg (va 4 rfl) de_int) de_str) b1 (dw_and1 (dt_w (dw_or (dt_cmpI rfl (de_len (b_len B.len) (db_of (va 4 rfl)) lenf) de_int) fun _ => dw_or1 (dt_cmpI rfl (va 3 rfl) (va 1 rfl)))))))))) b2 (fin (k0 := true))), .ret rfl⟩
        · have b1 : decide ([c] = [48]) = false := by simpa using b1
          exact ⟨_, head (if_n (dt_w (or_f (dt_not (dt_chainI rfl rfl de_int (de_len (b_len B.len) (db_of (va 4 rfl)) lenf) (gi hmm))) c1 (dw_or1 (dt_w (and_f (eqs (y := [48]) rfl (ixs (i := 0) fl hg (va 4 rfl) de_int) de_str) b1))))) rfl (fin (k0 := true))), .ret rfl⟩
end
end K01


set_option Elab.async false
set_option linter.all false
set_option maxRecDepth 100000
set_option maxHeartbeats 4000000
namespace K01
open PySem PySem.Spec PyProof.Rows L2 Dt
theorem sw_mk {l w : List Nat} {a : Nat} (ha : a ≤ l.length) : Txt.startswith3 (mk l) (mk w) (a : Int) = decide ((l.drop a).take w.length = w) := by
  have hf : fromIndex (mk l).length (a : Int) = a := by
    unfold fromIndex
    rw [if_neg (by omega)]
    omega
  unfold Txt.startswith3
  rw [hf, StrLaws.subAt_eq]
  show (decide (a + w.length ≤ l.length) && ((l.drop a).take w.length == w)) = _
  by_cases h : (l.drop a).take w.length = w
  · have h2 := congrArg List.length h
    rw [List.length_take, List.length_drop] at h2
    rw [decide_eq_true (show a + w.length ≤ l.length by omega), h, decide_eq_true rfl, Bool.true_and]
    exact beq_self_eq_true w
  · rw [decide_eq_false h, beq_eq_false_iff_ne.mpr h, Bool.and_false]
theorem tw_skip : ∀ l : List Nat, l.drop (l.takeWhile (mk [32]).cps.contains).length = skipB l
  | [] => rfl
  | c :: r => by
    have hc : (mk [32]).cps.contains c = decide (c = 32) := by
      show Array.contains #[32] c = _
      simp [Array.contains, eq_comm]
      rfl
    unfold skipB
    rw [List.takeWhile_cons, hc]
    by_cases h : c = 32
    · rw [decide_eq_true h, if_pos rfl, if_pos h, List.length_cons, List.drop_succ_cons, tw_skip r]
    · rw [decide_eq_false h, if_neg Bool.false_ne_true, if_neg h]
      rfl
theorem lstrip_mk (l : List Nat) : Txt.lstripChars (mk l) (mk [32]) = mk (skipB l) := by
  unfold Txt.lstripChars Txt.stripBy
  split
  · rename_i h
    unfold stripSame at h
    rw [Bool.and_eq_true] at h
    have h1 : (l.takeWhile (mk [32]).cps.contains).length = 0 := by
      have := h.1
      unfold stripLo at this
      rw [if_pos rfl] at this
      exact eq_of_beq this
    have h2 := tw_skip l
    rw [h1, List.drop_zero] at h2
    rw [← h2]
  · unfold stripped Builtin.Str.strSub stripHi stripLo
    rw [if_pos rfl, if_neg Bool.false_ne_true]
    refine str_ext ?_
    show ((l.toArray).extract _ _).toList = _
    rw [Array.toList_extract]
    show (l.drop _).take _ = _
    rw [List.take_of_length_le (by rw [List.length_drop]; exact Nat.le_refl _)]
    exact tw_skip l
/-! ### single_at -/
def tagI : Option (Int × List Nat) → Option (D × List Nat)
  | none => none
  | some (i, q) => some (.int i, q)
def tagT : Option (List Nat × List Nat) → Option (D × List Nat)
  | none => none
  | some (t, q) => some (.str (mk t), q)
def outS (l : List Nat) : Option (D × List Nat) → D
  | none => .non
  | some (d, q) => .tup [d, .int (posOf l q : Nat)]
theorem outS_I (l : List Nat) (o : Option (Int × List Nat)) : outS l (tagI o) = outN l o := by rcases o with _ | ⟨_, _⟩ <;> rfl
theorem outS_T (l : List Nat) (o : Option (List Nat × List Nat)) : outS l (tagT o) = outT l o := by rcases o with _ | ⟨_, _⟩ <;> rfl
def singleS (s : List Nat) : Option (D × List Nat) :=
  if s.take 1 = [34] then tagT (scanT (s.drop 1)) else if s.take 3 = [121, 101, 115] then some (.bl true, s.drop 3) else if s.take 2 = [110, 111] then some (.bl false, s.drop 2) else tagI (numS s)
theorem take_len {s w : List Nat} {n : Nat} (h : s.take n = w) (hw : w.length = n) : n ≤ s.length := by
  have := congrArg List.length h
  rw [List.length_take, hw] at this
  omega
theorem singleS_suf {s q : List Nat} {d : D} (h : singleS s = some (d, q)) : q <:+ s ∧ q.length < s.length := by
  unfold singleS at h
  split at h
  · rename_i h1
    have h1 := take_len h1 rfl
    cases h2 : scanT (s.drop 1) with
    | none => rw [h2] at h; cases h
    | some p =>
      obtain ⟨t, q'⟩ := p
      rw [h2] at h
      cases h
      obtain ⟨g1, g2, _⟩ := scanT_suf h2
      rw [List.length_drop] at g2
      exact ⟨g1.trans (List.drop_suffix _ _), by omega⟩
  · split at h
    · rename_i h1
      have h1 := take_len h1 rfl
      cases h
      exact ⟨List.drop_suffix _ _, by rw [List.length_drop]; omega⟩
    · split at h
      · rename_i h1
        have h1 := take_len h1 rfl
        cases h
        exact ⟨List.drop_suffix _ _, by rw [List.length_drop]; omega⟩
      · cases h2 : numS s with
        | none => rw [h2] at h; cases h
        | some p =>
          obtain ⟨i, q'⟩ := p
          rw [h2] at h
          cases h
          exact numS_suf h2
section
variable {Pr : Program} {wo : World} {K : PySem.W.Frag} {mg : Str → Option Value} {base : Heap} {CB : Addr}
abbrev sSA : Stmt := topS 31
theorem sc_sa : FnScope ["text", "at", "word", "truth"] ["text", "at"] (defScope sSA) := ⟨rfl, rfl, rfl, by decide +kernel, rfl, by decide +kernel, by decide +kernel⟩
def c_sa : Con := fun ps r os => ∃ (l : List Nat) (a : Nat), l.length ≤ 50000 ∧ a ≤ l.length ∧ ps = [.v (.str (mk l)), .v (.int (a : Int))] ∧ r = .ret (outS l (singleS (l.drop a))) ∧ os = []
theorem ok_sa (F : DefAt K mg "single_at" sSA ["text", "at"]) (B : Blts mg) (GT : FnAt Pr wo K mg base "text_at" 1 ["text", "at"] c_ta) (GN : FnAt Pr wo K mg base "number_at" 1 ["text", "at"] c_na) : FnAt Pr wo K mg base "single_at" 2 ["text", "at"] c_sa := by
  refine fnAt (n := 2) F sc_sa (fun qs r os h => by obtain ⟨l, a, _, _, rfl, _⟩ := h; rfl) rfl fun f cdv A outer s H E cz qs r os h => ?_
  obtain ⟨l, a, hl, ha, rfl, rfl, rfl⟩ := h
  have hz : l.length ≤ 100000 := by omega
  unfold singleS
  by_cases h1 : (l.drop a).take 1 = [34]
  · have hlt : a < l.length := by
      have := take_len h1 rfl
      rw [List.length_drop] at this
      omega
    rw [if_pos h1, outS_T, List.drop_drop]
    exact ⟨_, if_r (eqs (y := [34]) rfl (sl1 hz (va 0 rfl) (va 1 rfl) (de_add (va 1 rfl) de_int)) de_str) (decide_eq_true h1) (de_callV cz GT (by decide) (da_cons (va 0 rfl) (da_cons (va 1 rfl) da_nil)) ⟨l, a, hl, hlt, rfl, rfl, rfl⟩), .ret rfl⟩
  · rw [if_neg h1]
    have tup : ∀ {o : Oc}, FoR (Xd Pr wo K mg base ["text", "at", "word", "truth"] "single_at" sSA f cdv A outer s H E) (Wd0 E) (fT (bodyAt sSA 1)) (fB (bodyAt sSA 1)) [.tup [.str (mk [121, 101, 115]), .bl true], .tup [.str (mk [110, 111]), .bl false]]
        [.v (.str (mk l)), .v (.int (a : Int)), .no, .no] o → DS (Xd Pr wo K mg base ["text", "at", "word", "truth"] "single_at" sSA f cdv A outer s H E) (Wd0 E) (bodyAt sSA 1) [.v (.str (mk l)), .v (.int (a : Int)), .no, .no] o := fun {o} h =>
      ds_for cz.po cz.calm (di_tup (de_tup (da_cons (de_tup (da_cons (cs rfl) (da_cons de_bl da_nil)) (by show 2 ≤ sizeLine; decide)) (da_cons (de_tup (da_cons (cs rfl) (da_cons de_bl da_nil)) (by show 2 ≤ sizeLine; decide)) da_nil)) (by show 2 ≤ sizeLine; decide))) h
    have bnd : ∀ {r1 r2 : S} {z : Str} {b : Bool}, Bd (Xd Pr wo K mg base ["text", "at", "word", "truth"] "single_at" sSA f cdv A outer s H E) (Wd0 E) (fT (bodyAt sSA 1)) (.tup [.str z, .bl b]) [.v (.str (mk l)), .v (.int (a : Int)), r1, r2] [.v (.str (mk l)), .v (.int (a : Int)), .v (.str z), .v (.bl b)] := fun {r1 r2 z b} =>
      bd_tup2 (i := 2) (j := 3) cz.calm cz.nd rfl (Or.inl rfl) rfl (Or.inl rfl)
    have yes : ∀ {w : List Nat} {b : Bool} , w.length ≤ 100000 → (l.drop a).take w.length = w → DSs (Xd Pr wo K mg base ["text", "at", "word", "truth"] "single_at" sSA f cdv A outer s H E) (Wd0 E) (fB (bodyAt sSA 1)) [.v (.str (mk l)), .v (.int (a : Int)), .v (.str (mk w)), .v (.bl b)]
        (.ret (outS l (some (.bl b, (l.drop a).drop w.length))) [.v (.str (mk l)), .v (.int (a : Int)), .v (.str (mk w)), .v (.bl b)]) := fun {w b} hw h => by
      have e : ((posOf l ((l.drop a).drop w.length) : Nat) : Int) = (a : Int) + ((w.length : Nat) : Int) := by
        have := take_len h rfl
        rw [List.length_drop] at this
        rw [List.drop_drop, pos_drop (by omega)]
        omega
      have e2 : outS l (some (.bl b, (l.drop a).drop w.length)) = .tup [.bl b, .int ((a : Int) + ((w.length : Nat) : Int))] := by
        rw [← e]
        rfl
      rw [e2]
      exact if_r (tb (de_sw3 (va 0 rfl) (va 2 rfl) (va 1 rfl))) (by rw [sw_mk ha]; exact decide_eq_true h) (de_tup (da_cons (va 3 rfl) (da_cons (de_add (va 1 rfl) (de_len (b_len B.len) (db_of (va 2 rfl)) (len_str hw))) da_nil)) (by show 2 ≤ sizeLine; decide))
    have no : ∀ {w : List Nat} {b : Bool}, ¬ (l.drop a).take w.length = w → DSs (Xd Pr wo K mg base ["text", "at", "word", "truth"] "single_at" sSA f cdv A outer s H E) (Wd0 E) (fB (bodyAt sSA 1)) [.v (.str (mk l)), .v (.int (a : Int)), .v (.str (mk w)), .v (.bl b)]
        (.next [.v (.str (mk l)), .v (.int (a : Int)), .v (.str (mk w)), .v (.bl b)]) := fun {w b} h =>
      if_n (tb (de_sw3 (va 0 rfl) (va 2 rfl) (va 1 rfl))) (by rw [sw_mk ha]; exact decide_eq_false h) dss_nil
    have top : ∀ {o : Oc}, DSs (Xd Pr wo K mg base ["text", "at", "word", "truth"] "single_at" sSA f cdv A outer s H E) (Wd0 E) ((defBody sSA).drop 1) [.v (.str (mk l)), .v (.int (a : Int)), .no, .no] o → DSs (Xd Pr wo K mg base ["text", "at", "word", "truth"] "single_at" sSA f cdv A outer s H E) (Wd0 E) (defBody sSA) (toS 0 [P.v (.str (mk l)), P.v (.int (a : Int))] ++ List.replicate 2 S.no) o := fun {o} h =>
      if_n (eqs (y := [34]) rfl (sl1 hz (va 0 rfl) (va 1 rfl) (de_add (va 1 rfl) de_int)) de_str) (decide_eq_false h1) h
    by_cases h2 : (l.drop a).take 3 = [121, 101, 115]
    · rw [if_pos h2]
      exact ⟨_, top (dss (tup (.ret bnd (yes (w := [121, 101, 115]) (by decide) h2))) rfl), .ret rfl⟩
    · rw [if_neg h2]
      by_cases h3 : (l.drop a).take 2 = [110, 111]
      · rw [if_pos h3]
        exact ⟨_, top (dss (tup (.turn bnd (no (w := [121, 101, 115]) h2) (.ret bnd (yes (w := [110, 111]) (by decide) h3)))) rfl), .ret rfl⟩
      · rw [if_neg h3, outS_I]
        exact ⟨_, top (seq (tup (.turn bnd (no (w := [121, 101, 115]) h2) (.turn bnd (no (w := [110, 111]) h3) .nil))) (ret (de_callV cz GN (by decide) (da_cons (va 0 rfl) (da_cons (va 1 rfl) da_nil)) ⟨l, a, hl, ha, rfl, rfl, rfl⟩))), .ret rfl⟩
end
end K01


set_option Elab.async false
set_option linter.all false
set_option maxRecDepth 100000
set_option maxHeartbeats 4000000
namespace K01
open PySem PySem.Spec PyProof.Rows L2 Dt
/-- the items of a list, n more may come -/
def itemsS : Nat → List Nat → List D → Option (List D × List Nat)
  | 0, _, _ => none
  | n + 1, s, acc => match singleS s with
    | none => none
    | some (d, q) => if (skipB q).take 1 = [93] then some (acc ++ [d], (skipB q).drop 1) else if (skipB q).take 1 = [44] then itemsS n (skipB ((skipB q).drop 1)) (acc ++ [d]) else none
def tagL : Option (List D × List Nat) → Option (D × List Nat)
  | none => none
  | some (xs, q) => some (.lst xs, q)
def listS (s : List Nat) : Option (D × List Nat) := if s.take 1 = [93] then some (.lst [], s.drop 1) else tagL (itemsS 20 s [])
def valueS (s : List Nat) : Option (D × List Nat) := if s.take 1 = [91] then listS (skipB (s.drop 1)) else singleS s
theorem itemsS_suf : ∀ (n : Nat) {s q : List Nat} {acc xs : List D}, itemsS n s acc = some (xs, q) → q <:+ s
  | 0, _, _, _, _, h => by cases h
  | n + 1, s, q, acc, xs, h => by
    unfold itemsS at h
    cases h1 : singleS s with
    | none => rw [h1] at h; cases h
    | some p =>
      obtain ⟨d, q1⟩ := p
      rw [h1] at h
      have g := (singleS_suf h1).1
      dsimp only at h
      split at h
      · cases h
        exact ((List.drop_suffix _ _).trans (skipB_suf _)).trans g
      · split at h
        · exact (((itemsS_suf n h).trans (skipB_suf _)).trans (List.drop_suffix _ _)).trans ((skipB_suf _).trans g)
        · cases h
theorem listS_suf {s q : List Nat} {d : D} (h : listS s = some (d, q)) : q <:+ s := by
  unfold listS at h
  split at h
  · cases h
    exact List.drop_suffix _ _
  · cases h1 : itemsS 20 s [] with
    | none => rw [h1] at h; cases h
    | some p =>
      obtain ⟨xs, q1⟩ := p
      rw [h1] at h
      cases h
      exact itemsS_suf _ h1
theorem valueS_suf {s q : List Nat} {d : D} (h : valueS s = some (d, q)) : q <:+ s := by
  unfold valueS at h
  split at h
  · exact ((listS_suf h).trans (skipB_suf _)).trans (List.drop_suffix _ _)
  · exact (singleS_suf h).1
theorem drop_pos1 {l q : List Nat} (h : q <:+ l) (h0 : 1 ≤ q.length) : posOf l (q.drop 1) = posOf l q + 1 := by
  have := h.length_le
  unfold posOf
  rw [List.length_drop]
  omega
section
variable {Pr : Program} {wo : World} {K : PySem.W.Frag} {mg : Str → Option Value} {base : Heap} {CB : Addr}
abbrev sVA : Stmt := topS 33
theorem sc_va : FnScope ["text", "at", "items", "one"] ["text", "at"] (defScope sVA) := ⟨rfl, rfl, rfl, by decide +kernel, rfl, by decide +kernel, by decide +kernel⟩
def c_va : Con := fun ps r os => ∃ (l : List Nat) (a : Nat), l.length ≤ 50000 ∧ a ≤ l.length ∧ ps = [.v (.str (mk l)), .v (.int (a : Int))] ∧ r = .ret (outS l (valueS (l.drop a))) ∧ os = []
theorem ok_va (F : DefAt K mg "value_at" sVA ["text", "at"]) (B : Blts mg) (C : Cons mg) (GS : FnAt Pr wo K mg base "single_at" 2 ["text", "at"] c_sa) (GB : FnAt Pr wo K mg base "blanks_from" 1 ["text", "at"] c_bl) : FnAt Pr wo K mg base "value_at" 3 ["text", "at"] c_va := by
  refine fnAt (n := 2) F sc_va (fun qs r os h => by obtain ⟨l, a, _, _, rfl, _⟩ := h; rfl) rfl fun f cdv A outer s H E cz qs r os h => ?_
  obtain ⟨l, a, hl, ha, rfl, rfl, rfl⟩ := h
  obtain ⟨tm, hmi⟩ := C.mit
  have hz : l.length ≤ 100000 := by omega
  have p1 : ∀ i : Nat, (i : Int) + 1 = ((i + 1 : Nat) : Int) := fun i => by omega
  have key : ∀ (n : Nat) (acc : List D) (s' : List Nat) (a : Nat) (r1 : S), acc.length + n = 20 → l.drop a = s' → a ≤ l.length →
      ∃ m ρ', WhR (Xd Pr wo K mg base ["text", "at", "items", "one"] "value_at" sVA f cdv A outer s H E) (Wd0 E) (wT (bodyAt sVA 4)) (wB (bodyAt sVA 4)) m [.v (.str (mk l)), .v (.int (a : Int)), .own none (.lst acc), r1] (.ret (outS l (tagL (itemsS n s' acc))) ρ') := by
    intro n
    induction n with
    | zero =>
      intro acc s' a r1 hn h ha
      refine ⟨0, _, .ret (tb de_bl) (seq (st 3 cz (de_callV cz GS (by decide) (da_cons (va 0 rfl) (da_cons (va 1 rfl) da_nil)) ⟨l, a, hl, ha, rfl, rfl, rfl⟩)) (if_r (dt_w (dw_or (dt_isN (va 3 rfl)) fun _ => dw_or1 (dt_cmpI rfl (de_len (b_len B.len) (vb 2 rfl) rfl) (gi hmi)))) ?_ de_non))⟩
      have : decide (((acc.length : Nat) : Int) = 20) = true := decide_eq_true (by omega)
      rw [this, Bool.or_true]
    | succ n ih =>
      intro acc s' a r1 hn h ha
      have st1 : ∀ {o : Oc}, DSs (Xd Pr wo K mg base ["text", "at", "items", "one"] "value_at" sVA f cdv A outer s H E) (Wd0 E) ((wB (bodyAt sVA 4)).drop 1) [.v (.str (mk l)), .v (.int (a : Int)), .own none (.lst acc), .v (outS l (singleS s'))] o →
          DSs (Xd Pr wo K mg base ["text", "at", "items", "one"] "value_at" sVA f cdv A outer s H E) (Wd0 E) (wB (bodyAt sVA 4)) [.v (.str (mk l)), .v (.int (a : Int)), .own none (.lst acc), r1] o := fun {o} h1 =>
        seq (st 3 cz (de_callV (r := .ret (outS l (singleS s'))) cz GS (by decide) (da_cons (va 0 rfl) (da_cons (va 1 rfl) da_nil)) ⟨l, a, hl, ha, rfl, by rw [h], rfl⟩)) h1
      unfold itemsS
      cases h1 : singleS s' with
      | none =>
        rw [h1] at st1
        exact ⟨0, _, .ret (tb de_bl) (st1 (if_r (dt_w (or_t (dt_isN (va 3 rfl)) rfl)) rfl de_non))⟩
      | some p =>
        obtain ⟨d, q⟩ := p
        rw [h1] at st1
        have sq : q <:+ l := (singleS_suf h1).1.trans (h ▸ List.drop_suffix _ _)
        have sk : skipB q <:+ l := (skipB_suf q).trans sq
        have dk := drop_pos sk
        have nf : decide (((acc.length : Nat) : Int) = 20) = false := decide_eq_false (by omega)
        dsimp only
        have st2 : ∀ {o : Oc}, DSs (Xd Pr wo K mg base ["text", "at", "items", "one"] "value_at" sVA f cdv A outer s H E) (Wd0 E) ((wB (bodyAt sVA 4)).drop 4) [.v (.str (mk l)), .v (.int (posOf l (skipB q) : Nat)), .own none (.lst (acc ++ [d])), .v (outS l (some (d, q)))] o →
            DSs (Xd Pr wo K mg base ["text", "at", "items", "one"] "value_at" sVA f cdv A outer s H E) (Wd0 E) (wB (bodyAt sVA 4)) [.v (.str (mk l)), .v (.int (a : Int)), .own none (.lst acc), r1] o := fun {o} h2 =>
          st1 (if_n (dt_w (or_f (dt_isN (va 3 rfl)) rfl (dw_or1 (dt_cmpI rfl (de_len (b_len B.len) (vb 2 rfl) rfl) (gi hmi))))) nf (seq (ds_append (i := 2) rfl (.inl rfl) (de_ix (va 3 rfl) de_int rfl) rfl ⟨_, _, rfl⟩ (Nat.lt_of_le_of_lt (show acc.length ≤ 20 by omega) (by decide)))
            (seq (st 1 cz (de_callV (r := .ret (.int (posOf l (skipB q) : Nat))) cz GB (by decide) (da_cons (va 0 rfl) (da_cons (de_ix (va 3 rfl) de_int rfl) da_nil)) ⟨l, posOf l q, hl, pos_le, rfl, by rw [drop_pos sq], rfl⟩)) h2)))
        by_cases h2 : (skipB q).take 1 = [93]
        · rw [if_pos h2]
          have e : outS l (tagL (some (acc ++ [d], (skipB q).drop 1))) = .tup [.lst (acc ++ [d]), .int ((posOf l (skipB q) : Nat) + 1)] := by
            show D.tup [_, .int ((posOf l ((skipB q).drop 1) : Nat) : Int)] = _
            rw [drop_pos1 sk (take_len h2 rfl), p1]
          rw [e]
          exact ⟨0, _, .ret (tb de_bl) (st2 (if_r (eqs (y := [93]) rfl (sl1 hz (va 0 rfl) (va 1 rfl) (de_add (va 1 rfl) de_int)) de_str) (by rw [dk]; exact decide_eq_true h2) (de_tup (da_cons (vf 2 rfl) (da_cons (de_add (va 1 rfl) de_int) da_nil)) (by show 2 ≤ sizeLine; decide))))⟩
        · rw [if_neg h2]
          have n2 : decide ((l.drop (posOf l (skipB q))).take 1 = [93]) = false := by rw [dk]; exact decide_eq_false h2
          by_cases h3 : (skipB q).take 1 = [44]
          · rw [if_pos h3]
            have sd : (skipB q).drop 1 <:+ l := (List.drop_suffix _ _).trans sk
            have ss : skipB ((skipB q).drop 1) <:+ l := (skipB_suf _).trans sd
            obtain ⟨m, ρ', hm⟩ := ih (acc ++ [d]) (skipB ((skipB q).drop 1)) (posOf l (skipB ((skipB q).drop 1))) (.v (outS l (some (d, q)))) (by rw [List.length_append, List.length_singleton]; omega) (drop_pos ss) pos_le
            refine ⟨m + 1, ρ', .turn (tb de_bl) (st2 (if_n (eqs (y := [93]) rfl (sl1 hz (va 0 rfl) (va 1 rfl) (de_add (va 1 rfl) de_int)) de_str) n2 (if_n (nes (y := [44]) rfl (sl1 hz (va 0 rfl) (va 1 rfl) (de_add (va 1 rfl) de_int)) de_str) (by rw [dk, h3]; rfl) (dss1 (st 1 cz (de_callV cz GB (by decide) (da_cons (va 0 rfl) (da_cons (DE.cast (de_add (va 1 rfl) de_int) (congrArg D.int (p1 _))) da_nil)) ⟨l, posOf l (skipB q) + 1, hl, ?_, rfl, rfl, rfl⟩)))))) ?_⟩
            · have := take_len h3 rfl
              have := sk.length_le
              unfold posOf
              omega
            · have e : l.drop (posOf l (skipB q) + 1) = (skipB q).drop 1 := by rw [← List.drop_drop, dk]
              rw [e]
              exact hm
          · rw [if_neg h3]
            exact ⟨0, _, .ret (tb de_bl) (st2 (if_n (eqs (y := [93]) rfl (sl1 hz (va 0 rfl) (va 1 rfl) (de_add (va 1 rfl) de_int)) de_str) n2 (if_r (nes (y := [44]) rfl (sl1 hz (va 0 rfl) (va 1 rfl) (de_add (va 1 rfl) de_int)) de_str) (by rw [dk, decide_eq_false h3]; rfl) de_non)))⟩
  unfold valueS
  by_cases h1 : (l.drop a).take 1 = [91]
  · rw [if_pos h1]
    have hlt : a + 1 ≤ l.length := by
      have := take_len h1 rfl
      rw [List.length_drop] at this
      omega
    have sk : skipB ((l.drop a).drop 1) <:+ l := ((skipB_suf _).trans (List.drop_suffix _ _)).trans (List.drop_suffix _ _)
    have dk := drop_pos sk
    have st1 : ∀ {o : Oc}, DSs (Xd Pr wo K mg base ["text", "at", "items", "one"] "value_at" sVA f cdv A outer s H E) (Wd0 E) ((defBody sVA).drop 3) [.v (.str (mk l)), .v (.int (posOf l (skipB ((l.drop a).drop 1)) : Nat)), .own none (.lst []), .no] o →
        DSs (Xd Pr wo K mg base ["text", "at", "items", "one"] "value_at" sVA f cdv A outer s H E) (Wd0 E) (defBody sVA) (toS 0 [P.v (.str (mk l)), P.v (.int (a : Int))] ++ List.replicate 2 S.no) o := fun {o} h2 =>
      if_n (nes (y := [91]) rfl (sl1 hz (va 0 rfl) (va 1 rfl) (de_add (va 1 rfl) de_int)) de_str) (by rw [h1]; rfl) (seq (sto 2 cz (de_lst da_nil (by show 0 ≤ sizeLine; decide))) (seq (st 1 cz (de_callV (r := .ret (.int (posOf l (skipB ((l.drop a).drop 1)) : Nat))) cz GB (by decide) (da_cons (va 0 rfl) (da_cons (DE.cast (de_add (va 1 rfl) de_int) (congrArg D.int (p1 _))) da_nil)) ⟨l, a + 1, hl, hlt, rfl, by rw [List.drop_drop], rfl⟩)) h2))
    unfold listS
    by_cases h2 : (skipB ((l.drop a).drop 1)).take 1 = [93]
    · rw [if_pos h2]
      have e : outS l (some (.lst [], (skipB ((l.drop a).drop 1)).drop 1)) = .tup [.lst [], .int ((posOf l (skipB ((l.drop a).drop 1)) : Nat) + 1)] := by
        show D.tup [_, .int ((posOf l ((skipB ((l.drop a).drop 1)).drop 1) : Nat) : Int)] = _
        rw [drop_pos1 sk (take_len h2 rfl), p1]
      rw [e]
      exact ⟨_, st1 (if_r (eqs (y := [93]) rfl (sl1 hz (va 0 rfl) (va 1 rfl) (de_add (va 1 rfl) de_int)) de_str) (by rw [dk]; exact decide_eq_true h2) (de_tup (da_cons (vf 2 rfl) (da_cons (de_add (va 1 rfl) de_int) da_nil)) (by show 2 ≤ sizeLine; decide))), .ret rfl⟩
    · rw [if_neg h2]
      obtain ⟨m, ρ', hm⟩ := key 20 [] _ _ .no rfl dk pos_le
      exact ⟨_, st1 (if_n (eqs (y := [93]) rfl (sl1 hz (va 0 rfl) (va 1 rfl) (de_add (va 1 rfl) de_int)) de_str) (by rw [dk]; exact decide_eq_false h2) (dss1 (ds_while cz.po hm))), .ret rfl⟩
  · rw [if_neg h1]
    exact ⟨_, if_r (nes (y := [91]) rfl (sl1 hz (va 0 rfl) (va 1 rfl) (de_add (va 1 rfl) de_int)) de_str) (by rw [decide_eq_false h1]; rfl) (de_callV cz GS (by decide) (da_cons (va 0 rfl) (da_cons (va 1 rfl) da_nil)) ⟨l, a, hl, ha, rfl, rfl, rfl⟩), .ret rfl⟩
/-! ### read_value -/
def readS (l : List Nat) : Option D := if l.all isSign = true then (match valueS l with
  | some (d, []) => some d
  | _ => none) else none
abbrev sRV : Stmt := topS 34
theorem sc_rv : FnScope ["text", "found", "sign"] ["text"] (defScope sRV) := ⟨rfl, rfl, rfl, by decide +kernel, rfl, by decide +kernel, by decide +kernel⟩
def resR (CB : Addr) : Option D → Res
  | none => .exc CB
  | some d => .ret d
def c_rv (CB : Addr) : Con := fun ps r os => ∃ (l : List Nat), l.length ≤ 50000 ∧ ps = [.v (.str (mk l))] ∧ r = resR CB (readS l) ∧ os = []
theorem ok_rv (F : DefAt K mg "read_value" sRV ["text"]) (B : Blts mg) (X : ExcAt K mg "BadValue" CB) (GS : FnAt Pr wo K mg base "is_sign" 1 ["sign"] c_is_sign) (GV : FnAt Pr wo K mg base "value_at" 3 ["text", "at"] c_va) : FnAt Pr wo K mg base "read_value" 4 ["text"] (c_rv CB) := by
  refine fnAt (n := 2) F sc_rv (fun qs r os h => by obtain ⟨l, _, rfl, _⟩ := h; rfl) rfl fun f cdv A outer s H E cz qs r os h => ?_
  obtain ⟨l, hl, rfl, rfl, rfl⟩ := h
  have hz : l.length ≤ 100000 := by omega
  have bad : DSs (Xd Pr wo K mg base ["text", "found", "sign"] "read_value" sRV f cdv A outer s H E) (Wd0 E) ((defBody sRV).drop 1) [.v (.str (mk l)), .v .non, .no] (.exc CB [.v (.str (mk l)), .v .non, .no]) :=
    if_t (dt_w (or_t (dt_isN (va 1 rfl)) rfl)) rfl (dss1 (ds_raise cz X.q X.g X.k X.b X.t rfl)) rfl
  unfold readS
  by_cases h1 : l.all isSign = true
  · rw [if_pos h1]
    have st1 : ∀ {o : Oc}, DSs (Xd Pr wo K mg base ["text", "found", "sign"] "read_value" sRV f cdv A outer s H E) (Wd0 E) ((defBody sRV).drop 1) [.v (.str (mk l)), .v (outS l (valueS l)), .no] o →
        DSs (Xd Pr wo K mg base ["text", "found", "sign"] "read_value" sRV f cdv A outer s H E) (Wd0 E) (defBody sRV) (toS 0 [P.v (.str (mk l))] ++ List.replicate 2 S.no) o := fun {o} h2 =>
      seq (st 1 cz (ife_t (tb (all_c 2 cz B.all (di_strL (l := l) (va 0 rfl)) hz fun c hc s0 H0 C0 cl fp => de_callV (cz.blk s0 H0 C0 cl fp) GS (by decide) (da_cons (va 2 rfl) da_nil) ⟨c, rfl, rfl, rfl⟩)) h1 (de_callV cz GV (by decide) (da_cons (va 0 rfl) (da_cons de_int da_nil)) ⟨l, 0, hl, Nat.zero_le _, rfl, rfl, rfl⟩))) h2
    cases h2 : valueS l with
    | none =>
      rw [h2] at st1
      exact ⟨_, st1 bad, .exc rfl⟩
    | some p =>
      obtain ⟨d, q⟩ := p
      rw [h2] at st1
      have sq := valueS_suf h2
      cases q with
      | nil =>
        exact ⟨_, st1 (if_n (dt_w (or_f (dt_isN (va 1 rfl)) rfl (dw_or1 (dt_cmpI rfl (de_ix (va 1 rfl) de_int rfl) (de_len (b_len B.len) (db_of (va 0 rfl)) (len_str hz)))))) (by
          show (!decide ((posOf l [] : Nat) = ((l.length : Nat) : Int))) = false
          rw [show posOf l [] = l.length from rfl, decide_eq_true rfl]
          rfl) (ret (de_ix (va 1 rfl) de_int rfl))), .ret rfl⟩
      | cons c r =>
        exact ⟨_, st1 (if_t (dt_w (or_f (dt_isN (va 1 rfl)) rfl (dw_or1 (dt_cmpI rfl (de_ix (va 1 rfl) de_int rfl) (de_len (b_len B.len) (db_of (va 0 rfl)) (len_str hz)))))) (by
          show (!decide (((posOf l (c :: r) : Nat) : Int) = ((l.length : Nat) : Int))) = true
          have := sq.length_le
          rw [List.length_cons] at this
          rw [decide_eq_false (by unfold posOf; rw [List.length_cons]; omega)]
          rfl) (dss1 (ds_raise cz X.q X.g X.k X.b X.t rfl)) rfl), .exc rfl⟩
  · rw [if_neg h1]
    exact ⟨_, seq (st 1 cz (ife_f (tb (all_c 2 cz B.all (di_strL (l := l) (va 0 rfl)) hz fun c hc s0 H0 C0 cl fp => de_callV (cz.blk s0 H0 C0 cl fp) GS (by decide) (da_cons (va 2 rfl) da_nil) ⟨c, rfl, rfl, rfl⟩)) (by simpa using h1) de_non)) bad, .exc rfl⟩
end
end K01


set_option Elab.async false
set_option linter.all false
set_option maxRecDepth 100000
set_option maxHeartbeats 4000000
namespace K01
open PySem PySem.Spec PyProof.Rows L2 Dt
/-! ### the draws -/
def tw (n : Nat) : O := .lst (List.replicate n (.int 0))
def cellI (ns : List Int) (k : Nat) : Int := (ns[k % ns.length]?).getD 0
def mixI (ns : List Int) (k : Nat) : Int :=
  (((cellI ns k + 104729 * ((k : Int) + 1)) % 4294967291) ^ 5 % 4294967279 / 64 * 69621 + ((cellI ns k + 104729 * ((k : Int) + 1)) % 4294967291) ^ 5 % 4294967279) % 4294967231
def drawN (ns : List Int) (n m : Nat) : Nat := (mixI ns (n + 1) / 8 % (m : Int)).toNat
theorem draw_lt {ns : List Int} {n m : Nat} (h : 0 < m) : drawN ns n m < m := by
  unfold drawN
  have h1 := Int.emod_lt_of_pos (mixI ns (n + 1) / 8) (show (0 : Int) < (m : Int) by omega)
  have h2 := Int.emod_nonneg (mixI ns (n + 1) / 8) (show (m : Int) ≠ 0 by omega)
  omega
theorem _root_.Dt.DS.cast {X : Cx} {W : WX} {st : Stmt} {ρ : List S} {o o' : Oc} (h : DS X W st ρ o) (e : o = o') : DS X W st ρ o' := e ▸ h
theorem setO_own {o o0 : O} {kk : Option Nat} : ∀ {i : Nat} {ρ : List S}, ρ[i]? = some (.own kk o0) → setO o i ρ = ρ.set i (.own kk o)
  | 0, [], h => by cases h
  | 0, s :: r, h => by
    have : s = .own kk o0 := Option.some.inj h
    subst this
    rfl
  | n + 1, [], h => by cases h
  | n + 1, s :: r, h => by
    show s :: setO o n r = s :: r.set n _
    rw [setO_own (i := n) (ρ := r) h]
section
variable {Pr : Program} {wo : World} {K : PySem.W.Frag} {mg : Str → Option Value} {base : Heap} {CB : Addr}
abbrev sCell : Stmt := topS 36
theorem sc_cell : FnScope ["script", "k"] ["script", "k"] (defScope sCell) := ⟨rfl, rfl, rfl, by decide +kernel, rfl, by decide +kernel, by decide +kernel⟩
def c_cell : Con := fun ps r os => ∃ (ns : List Int) (k : Nat), ps = [.v (.scr ns), .v (.int (k : Int))] ∧ r = .ret (.int (cellI ns k)) ∧ os = []
theorem ok_cell (F : DefAt K mg "_law_cell" sCell ["script", "k"]) (B : Blts mg) : FnAt Pr wo K mg base "_law_cell" 1 ["script", "k"] c_cell := by
  refine fnAt (n := 0) F sc_cell (fun qs r os h => by obtain ⟨l, a, rfl, _⟩ := h; rfl) rfl fun f cdv A outer s H E cz qs r os h => ?_
  obtain ⟨ns, k, rfl, rfl, rfl⟩ := h
  cases hn : ns with
  | nil => exact ⟨_, if_n (dt_tru rfl (va 0 rfl)) rfl (ret de_int), .ret rfl⟩
  | cons c r =>
    have hl : k % (c :: r).length < (c :: r).length := Nat.mod_lt _ (by rw [List.length_cons]; omega)
    have e1 : ((k : Int) % (((c :: r).length : Nat) : Int)) = ((k % (c :: r).length : Nat) : Int) := (Int.natCast_emod _ _).symm
    have e2 : cellI (c :: r) k = (c :: r)[k % (c :: r).length] := by
      unfold cellI
      rw [List.getElem?_eq_getElem hl]
      rfl
    rw [e2]
    refine ⟨_, if_r (dt_tru rfl (va 0 rfl)) rfl (de_ix (va 0 rfl) (de_mod (by rw [List.length_cons]; omega) (va 1 rfl) (de_len (b_len B.len) (db_of (va 0 rfl)) rfl)) ?_), .ret rfl⟩
    show (atI (c :: r) ((k : Int) % (((c :: r).length : Nat) : Int))).map D.int = _
    rw [e1, atI_nat (List.getElem?_eq_getElem hl)]
    rfl
abbrev sMix : Stmt := topS 37
theorem sc_mix : FnScope ["script", "k", "number"] ["script", "k"] (defScope sMix) := ⟨rfl, rfl, rfl, by decide +kernel, rfl, by decide +kernel, by decide +kernel⟩
def c_mix : Con := fun ps r os => ∃ (ns : List Int) (k : Nat), k < 1000000 ∧ ps = [.v (.scr ns), .v (.int (k : Int))] ∧ r = .ret (.int (mixI ns k)) ∧ os = []
theorem ok_mix (F : DefAt K mg "_law_mix" sMix ["script", "k"]) (G : FnAt Pr wo K mg base "_law_cell" 1 ["script", "k"] c_cell) : FnAt Pr wo K mg base "_law_mix" 2 ["script", "k"] c_mix := by
  refine fnAt (n := 1) F sc_mix (fun qs r os h => by obtain ⟨l, a, _, rfl, _⟩ := h; rfl) rfl fun f cdv A outer s H E cz qs r os h => ?_
  obtain ⟨ns, k, hk, rfl, rfl, rfl⟩ := h
  have b1 := Int.emod_lt_of_pos (cellI ns k + 104729 * ((k : Int) + 1)) (show (0 : Int) < 4294967291 by decide)
  have b2 := Int.emod_nonneg (cellI ns k + 104729 * ((k : Int) + 1)) (show (4294967291 : Int) ≠ 0 by decide)
  have e5 : mixI ns k = (((cellI ns k + 104729 * ((k : Int) + 1)) % 4294967291) ^ (5 : Int).toNat % 4294967279 / 64 * 69621 + ((cellI ns k + 104729 * ((k : Int) + 1)) % 4294967291) ^ (5 : Int).toNat % 4294967279) % 4294967231 := rfl
  rw [e5]
  refine ⟨_, seq (st 2 cz (de_mod (by decide) (de_add (de_callV cz G (by decide) (da_cons (va 0 rfl) (da_cons (va 1 rfl) da_nil)) ⟨ns, k, rfl, rfl, rfl⟩) (de_mul (.inl (by decide)) de_int (de_add (va 1 rfl) de_int))) de_int))
    (seq (st 2 cz (de_mod (by decide) (de_pow ⟨by decide, by decide, by omega⟩ (va 2 rfl) de_int) de_int)) (ret (de_mod (by decide) (de_add (de_mul (.inr (by decide)) (de_fdiv ⟨by decide, by decide⟩ (va 2 rfl) de_int) de_int) (va 2 rfl)) de_int))), .ret rfl⟩
abbrev sDraw : Stmt := topS 38
theorem sc_draw : FnScope ["script", "town", "many"] ["script", "town", "many"] (defScope sDraw) := ⟨rfl, rfl, rfl, by decide +kernel, rfl, by decide +kernel, by decide +kernel⟩
def c_draw : Con := fun ps r os => ∃ (ns : List Int) (n m : Nat), n < 100000 ∧ 0 < m ∧ ps = [.v (.scr ns), .io (tw n), .v (.int (m : Int))] ∧ r = .ret (.int (drawN ns n m : Nat)) ∧ os = [tw (n + 1)]
theorem ok_draw (F : DefAt K mg "_law_draw" sDraw ["script", "town", "many"]) (B : Blts mg) (G : FnAt Pr wo K mg base "_law_mix" 2 ["script", "k"] c_mix) : FnAt Pr wo K mg base "_law_draw" 3 ["script", "town", "many"] c_draw := by
  refine fnAt (n := 0) F sc_draw (fun qs r os h => by obtain ⟨_, _, _, _, _, rfl, _⟩ := h; rfl) rfl fun f cdv A outer s H E cz qs r os h => ?_
  obtain ⟨ns, n, m, hn, hm, rfl, rfl, rfl⟩ := h
  have e1 : List.replicate n (D.int 0) ++ [.int 0] = List.replicate (n + 1) (.int 0) := List.replicate_succ'.symm
  have e2 : mixI ns (n + 1) / 8 % (m : Int) = ((drawN ns n m : Nat) : Int) := by
    have h2 := Int.emod_nonneg (mixI ns (n + 1) / 8) (show (m : Int) ≠ 0 by omega)
    unfold drawN
    omega
  have a1 : DS (Xd Pr wo K mg base ["script", "town", "many"] "_law_draw" sDraw f cdv A outer s H E) (Wd0 E) (bodyAt sDraw 0) [.v (.scr ns), .own (some 0) (tw n), .v (.int (m : Int))] (.next [.v (.scr ns), .own (some 0) (tw (n + 1)), .v (.int (m : Int))]) :=
    DS.cast (ds_append (ds := List.replicate n (D.int 0)) (i := 1) rfl (.inl rfl) de_int rfl ⟨_, _, rfl⟩ (by rw [List.length_replicate]; exact Nat.lt_of_lt_of_le hn (by decide))) (by
      show Oc.next [_, S.own _ (.lst (List.replicate n (D.int 0) ++ [.int 0])), _] = _
      rw [e1]
      rfl)
  exact ⟨_, seq a1 (ret (DE.cast (de_mod (by omega) (de_fdiv ⟨by decide, by decide⟩ (de_callV cz G (by decide) (da_cons (va 0 rfl) (da_cons (de_len (b_len B.len) (vb 1 rfl) rfl) da_nil)) ⟨ns, n + 1, by omega, by rw [List.length_replicate]; rfl, rfl, rfl⟩) de_int) (va 2 rfl)) (congrArg D.int e2))), .ret ⟨_, _, rfl, rfl, rfl⟩⟩
/-- some[draw] -/
def pickD (ns : List Int) (n : Nat) (ds : List D) : D := (ds[drawN ns n ds.length]?).getD .non
theorem pick_get {ns : List Int} {n : Nat} {ds : List D} (h : 0 < ds.length) : ds[drawN ns n ds.length]? = some (pickD ns n ds) := by
  unfold pickD
  rw [List.getElem?_eq_getElem (draw_lt h)]
  rfl
theorem pick_mem {ns : List Int} {n : Nat} {ds : List D} (h : 0 < ds.length) : pickD ns n ds ∈ ds := List.mem_of_getElem? (pick_get h)
abbrev sPick : Stmt := topS 39
theorem sc_pick : FnScope ["script", "town", "some"] ["script", "town", "some"] (defScope sPick) := ⟨rfl, rfl, rfl, by decide +kernel, rfl, by decide +kernel, by decide +kernel⟩
def c_pick : Con := fun ps r os => ∃ (ns : List Int) (n : Nat) (ds : List D), n < 100000 ∧ 0 < ds.length ∧ ps = [.v (.scr ns), .io (tw n), .v (.lst ds)] ∧ r = .ret (pickD ns n ds) ∧ os = [tw (n + 1)]
section
variable {X : Cx} {W : WX} {ρ ρ1 : List S} {es et e : Expr} {p pos pt : Pos} {k j it n n' : Nat} {m : Nat} {ns : List Int} {ds : List D} {kk k0 : Option Nat} {o0 : O} {xt f : Str} {d : D}
/-- a draw -/
theorem de_draw (cz : Cz X W k) (G : FnAt X.prog X.w X.K X.mg X.base "_law_draw" j ["script", "town", "many"] c_draw) (hj : j ≤ k) (hs : DE X W es ρ (.val (.scr ns) ρ)) (hN : X.N[it]? = some xt) (h0 : ρ[it]? = some (.own k0 o0)) (he : DE X W e ρ (.val (.int (m : Int)) ρ1)) (h1 : ρ1[it]? = some (.own kk (tw n))) (hm : 0 < m) (hn : n < 100000)
    (hg : Gl X "_law_draw" := by rfl) (st1 : starEach [es, .Name xt pt, e] X.env = (false, eval es X.env) :: starEach [.Name xt pt, e] X.env := by rfl) (st2 : starEach [.Name xt pt, e] X.env = (false, eval (.Name xt pt) X.env) :: starEach [e] X.env := by rfl) (st3 : starEach [e] X.env = (false, eval e X.env) :: starEach [] X.env := by rfl) (hpl : (backTo pos (starEach [.Name xt pt, e] X.env)).any (·.1) = false := by rfl)
    (hv : Vis X.env.scope xt := by first | exact Or.inl rfl | exact Or.inr (Or.inl rfl) | exact Or.inr (Or.inr rfl)) (hd : (xt == ("__debug__" : Str)) = false := by decide) (hcd : (xt == ("__classdict__" : Str)) = false := by decide) :
    DE X W (.Call (.Name "_law_draw" p) [es, .Name xt pt, e] [] pos) ρ (.val (.int (drawN ns n m : Nat)) (ρ1.set it (.own kk (tw (n + 1))))) := by
  have z := de_callF (p := p) (pos := pos) cz G hj (dg_v hs (dg_io hN hv h0 (dg_v he dg_nil st3) st2 hd hcd) st1) (.v (.io h1 (.v .nil))) ⟨ns, n, m, hn, hm, rfl, rfl, rfl⟩ (by show ([it] : List Nat).Nodup; exact List.nodup_cons.mpr ⟨List.not_mem_nil, List.nodup_nil⟩) hg (by decide) st1 hpl
  rw [← setO_own h1]
  exact z
theorem de_pick (cz : Cz X W k) (G : FnAt X.prog X.w X.K X.mg X.base "_law_pick" j ["script", "town", "some"] c_pick) (hj : j ≤ k) (hs : DE X W es ρ (.val (.scr ns) ρ)) (hN : X.N[it]? = some xt) (h0 : ρ[it]? = some (.own k0 o0)) (he : DE X W e ρ (.val (.lst ds) ρ1)) (h1 : ρ1[it]? = some (.own kk (tw n))) (hm : 0 < ds.length) (hn : n < 100000)
    (hg : Gl X "_law_pick" := by rfl) (st1 : starEach [es, .Name xt pt, e] X.env = (false, eval es X.env) :: starEach [.Name xt pt, e] X.env := by rfl) (st2 : starEach [.Name xt pt, e] X.env = (false, eval (.Name xt pt) X.env) :: starEach [e] X.env := by rfl) (st3 : starEach [e] X.env = (false, eval e X.env) :: starEach [] X.env := by rfl) (hpl : (backTo pos (starEach [.Name xt pt, e] X.env)).any (·.1) = false := by rfl)
    (hv : Vis X.env.scope xt := by first | exact Or.inl rfl | exact Or.inr (Or.inl rfl) | exact Or.inr (Or.inr rfl)) (hd : (xt == ("__debug__" : Str)) = false := by decide) (hcd : (xt == ("__classdict__" : Str)) = false := by decide) :
    DE X W (.Call (.Name "_law_pick" p) [es, .Name xt pt, e] [] pos) ρ (.val (pickD ns n ds) (ρ1.set it (.own kk (tw (n + 1))))) := by
  have z := de_callF (p := p) (pos := pos) cz G hj (dg_v hs (dg_io hN hv h0 (dg_v he dg_nil st3) st2 hd hcd) st1) (.v (.io h1 (.v .nil))) ⟨ns, n, ds, hn, hm, rfl, rfl, rfl⟩ (by show ([it] : List Nat).Nodup; exact List.nodup_cons.mpr ⟨List.not_mem_nil, List.nodup_nil⟩) hg (by decide) st1 hpl
  rw [← setO_own h1]
  exact z
/-- a def of the script and the town alone -/
def c_st (g : List Int → Nat → D × Nat) (mx : Nat) : Con := fun ps r os => ∃ (ns : List Int) (n : Nat), n < mx ∧ ps = [.v (.scr ns), .io (tw n)] ∧ r = .ret (g ns n).1 ∧ os = [tw (g ns n).2]
theorem de_st {g : List Int → Nat → D × Nat} {mx : Nat} (cz : Cz X W k) (G : FnAt X.prog X.w X.K X.mg X.base f j ["script", "town"] (c_st g mx)) (hj : j ≤ k) (hs : DE X W es ρ (.val (.scr ns) ρ)) (hN : X.N[it]? = some xt) (h1 : ρ[it]? = some (.own kk (tw n))) (hn : n < mx)
    (hg : Gl X f := by rfl) (st1 : starEach [es, .Name xt pt] X.env = (false, eval es X.env) :: starEach [.Name xt pt] X.env := by rfl) (st2 : starEach [.Name xt pt] X.env = (false, eval (.Name xt pt) X.env) :: starEach [] X.env := by rfl) (hpl : (backTo pos (starEach [.Name xt pt] X.env)).any (·.1) = false := by rfl)
    (hv : Vis X.env.scope xt := by first | exact Or.inl rfl | exact Or.inr (Or.inl rfl) | exact Or.inr (Or.inr rfl)) (hd : (xt == ("__debug__" : Str)) = false := by decide) (hcd : (xt == ("__classdict__" : Str)) = false := by decide) (hfd : (f == ("__debug__" : Str)) = false := by decide) :
    DE X W (.Call (.Name f p) [es, .Name xt pt] [] pos) ρ (.val (g ns n).1 (ρ.set it (.own kk (tw (g ns n).2)))) := by
  have z := de_callF (p := p) (pos := pos) cz G hj (dg_v hs (dg_io hN hv h1 dg_nil st2 hd hcd) st1) (.v (.io h1 .nil)) ⟨ns, n, hn, rfl, rfl, rfl⟩ (by show ([it] : List Nat).Nodup; exact List.nodup_cons.mpr ⟨List.not_mem_nil, List.nodup_nil⟩) hg hfd st1 hpl
  rw [← setO_own h1]
  exact z
end
theorem ok_pick (F : DefAt K mg "_law_pick" sPick ["script", "town", "some"]) (B : Blts mg) (G : FnAt Pr wo K mg base "_law_draw" 3 ["script", "town", "many"] c_draw) : FnAt Pr wo K mg base "_law_pick" 4 ["script", "town", "some"] c_pick := by
  refine fnAt (n := 0) F sc_pick (fun qs r os h => by obtain ⟨_, _, _, _, _, rfl, _⟩ := h; rfl) rfl fun f cdv A outer s H E cz qs r os h => ?_
  obtain ⟨ns, n, ds, hn, hm, rfl, rfl, rfl⟩ := h
  refine ⟨_, ret (de_ix (va 2 rfl) (de_draw (it := 1) cz G (by decide) (va 0 rfl) rfl rfl (de_len (b_len B.len) (db_of (va 2 rfl)) rfl) rfl hm hn) ?_), .ret ⟨_, _, rfl, rfl, rfl⟩⟩
  exact atI_nat (pick_get hm)
end
end K01


set_option Elab.async false
set_option linter.all false
set_option maxRecDepth 100000
set_option maxHeartbeats 4000000
namespace K01
open PySem PySem.Spec PyProof.Rows L2 Dt
/-! ### comprehensions that draw -/
def itN (g : Nat → Nat) : Nat → Nat → Nat
  | n, 0 => n
  | n, m + 1 => itN g (g n) m
def outsN {α : Type} (f : Nat → α) (g : Nat → Nat) : Nat → Nat → List α
  | _, 0 => []
  | n, m + 1 => f n :: outsN f g (g n) m
theorem outs_len {α : Type} (f : Nat → α) (g : Nat → Nat) : ∀ (m n : Nat), (outsN f g n m).length = m
  | 0, _ => rfl
  | m + 1, n => by
    show (outsN f g (g n) m).length + 1 = m + 1
    rw [outs_len f g m]
theorem outs_map {α β : Type} (f : Nat → α) (h : α → β) (g : Nat → Nat) : ∀ (m n : Nat), outsN (fun n => h (f n)) g n m = (outsN f g n m).map h
  | 0, _ => rfl
  | m + 1, n => by
    show h (f n) :: outsN (fun n => h (f n)) g (g n) m = h (f n) :: (outsN f g (g n) m).map h
    rw [outs_map f h g m]
theorem outs_all {α : Type} (f : Nat → α) (g : Nat → Nat) (q : α → Prop) (h : ∀ n, q (f n)) : ∀ (m n : Nat), ∀ x ∈ outsN f g n m, q x
  | 0, _, x, hx => by cases hx
  | m + 1, n, x, hx => by
    rcases List.mem_cons.mp hx with rfl | hx
    · exact h n
    · exact outs_all f g q h m (g n) x hx
theorem it_le {g : Nat → Nat} {c : Nat} (h : ∀ n, g n ≤ n + c) : ∀ (m n : Nat), itN g n m ≤ n + c * m
  | 0, n => Nat.le_refl _
  | m + 1, n => by
    have h1 := it_le h m (g n)
    have h2 := h n
    show itN g (g n) m ≤ _
    rw [Nat.mul_add, Nat.mul_one]
    omega
section
variable {X : Cx} {W : WX} {scope : Scope} {elt : Expr} {j : Nat} {P : Nat → List S} {f : Nat → D} {g : Nat → Nat} {B : Nat}
theorem lcr_st (hno : ∀ n, (P n)[j]? = some .no) (step : ∀ n d, n < B → ∀ s H0 C cl fp, DE (Bk X scope s H0 C cl fp) W0 elt ((P n).set j (.v d)) (.val (f n) ((P (g n)).set j (.v d)))) : ∀ (ds : List D) (n : Nat), (∀ i, i < ds.length → itN g n i < B) → LcR X scope [] elt j ds (P n) (outsN f g n ds.length) (P (itN g n ds.length))
  | [], n, _ => .nil
  | d :: ds, n, hb => by
    have t := lcr_st hno step ds (g n) fun i hi => hb (i + 1) (Nat.succ_lt_succ hi)
    refine .keep .nil (step n d (hb 0 (Nat.succ_pos _))) ?_
    rw [set_back (hno _)]
    exact t
end
section
variable {X : Cx} {W : WX} {ρ ρ1 ρ2 : List S} {x y : Str} {scope : Scope} {tp py pos spos : Pos} {iter elt : Expr} {ifs : List Expr} {items es : List D} {k : Nat}
/-- y = [elt for x in iter ..] -/
theorem stl (i j : Nat) (cz : Cz X W k) (hi : DI X W (.Name x tp) iter ρ items ρ1) (h : LcR X scope ifs elt j items ρ1 es ρ2) (hl : es.length ≤ 100000) (hno : ρ1[j]? = some .no := by rfl) (hy : X.N[i]? = some y := by rfl) (hyl : X.env.scope.names.lookup y = some .local := by rfl)
    (hsw : swapsWith (.ListComp elt [⟨.Name x tp, iter, ifs, 0⟩] scope pos) (some (.Name y py)) spos.line X.env = pure true := by rfl) (ok : blkC X.N X.env.scope scope [(x, j)] = true := by rfl) (hifs : ifs.length ≤ 1 := by decide) (hj : X.N[j]? = some x := by rfl) (hx : (relabel scope X.env).names.lookup x = some .local := by rfl) (hs : ∀ x, foldedSetIterable iter X.env x = pure x := by intro _; rfl) :
    DS X W (.Assign [.Name y py] (.ListComp elt [⟨.Name x tp, iter, ifs, 0⟩] scope pos) spos) ρ (.next (ρ2.set i (.own none (.lst es)))) := ds_setLc cz.calm cz.nd hy hyl hsw hj hx (blkOk_by ok) hifs hno hi h (szL hl) hs
theorem di_rng {a : Expr} {tg : Expr} {n : Nat} {p1 : Pos} (m : X.mg "range" = none) (h : DE X W a ρ (.val (.int (n : Int)) ρ1)) (hn : n < 1000000) (g : Gl X "range" := by rfl) (hs : starEach [a] X.env = [(false, eval a X.env)] := by rfl) : DI X W tg (.Call (.Name "range" p1) [a] [] pos) ρ (rngD 0 n) ρ1 := by
  have z := di_range1 (tg := tg) (p1 := p1) (pos := pos) (b_range m g) h (by omega) (by omega) hs
  rwa [Int.toNat_natCast] at z
end
/-! ### signs -/
def pk {α : Type} (a0 : α) (ns : List Int) (n : Nat) (L : List α) : α := (L[drawN ns n L.length]?).getD a0
theorem pick_map {α : Type} (a0 : α) {ns : List Int} {n : Nat} {L : List α} {f : α → D} (h : 0 < L.length) : pickD ns n (L.map f) = f (pk a0 ns n L) := by
  unfold pickD pk
  rw [List.length_map, List.getElem?_map, List.getElem?_eq_getElem (draw_lt h)]
  rfl
theorem pk_mem {α : Type} (a0 : α) {ns : List Int} {n : Nat} {L : List α} (h : 0 < L.length) : pk a0 ns n L ∈ L := by
  unfold pk
  rw [List.getElem?_eq_getElem (draw_lt h)]
  exact List.getElem_mem _
def SG : List Nat := ((List.range 95).map (32 + ·)).filter fun c => !decide (c = 37)
theorem SG_len : SG.length = 94 := by decide +kernel
theorem SG_sign : ∀ c ∈ SG, isSign c = true := by decide +kernel
def sgL (ns : List Int) (n : Nat) : List Nat := [97, 98, 34, 92, 35, 91, 93, 61, 32, pk 0 ns n SG]
def signG (ns : List Int) (n : Nat) : Nat := pk 0 ns (n + 1) (sgL ns n)
theorem SG_text : (" !\"#$&'()*+,-./0123456789:;<=>?@ABCDEFGHIJKLMNOPQRSTUVWXYZ[\\]^_`abcdefghijklmnopqrstuvwxyz{|}~" : Str) = mk SG := by decide +kernel
theorem sign_ok (ns : List Int) (n : Nat) : isSign (signG ns n) = true := by
  have h := pk_mem 0 (ns := ns) (n := n + 1) (L := sgL ns n) (by show 0 < 10; decide)
  unfold signG
  generalize pk 0 ns (n + 1) (sgL ns n) = c at h
  have h2 := SG_sign _ (pk_mem 0 (ns := ns) (n := n) (L := SG) (by rw [SG_len]; decide))
  unfold sgL at h
  simp only [List.mem_cons, List.not_mem_nil, or_false] at h
  rcases h with rfl | rfl | rfl | rfl | rfl | rfl | rfl | rfl | rfl | rfl
  all_goals first | decide | exact h2
def gSign (ns : List Int) (n : Nat) : D × Nat := (.str (mk [signG ns n]), n + 2)
section
variable {Pr : Program} {wo : World} {K : PySem.W.Frag} {mg : Str → Option Value} {base : Heap} {CB : Addr}
abbrev sSign : Stmt := topS 41
theorem sc_sign : FnScope ["script", "town", "code", "signs"] ["script", "town"] (defScope sSign) := ⟨rfl, rfl, rfl, by decide +kernel, rfl, by decide +kernel, by decide +kernel⟩
theorem ok_sign (F : DefAt K mg "_law_sign" sSign ["script", "town"]) (GD : FnAt Pr wo K mg base "_law_draw" 3 ["script", "town", "many"] c_draw) (GP : FnAt Pr wo K mg base "_law_pick" 4 ["script", "town", "some"] c_pick) : FnAt Pr wo K mg base "_law_sign" 5 ["script", "town"] (c_st gSign 90000) := by
  refine fnAt (n := 2) F sc_sign (fun qs r os h => by obtain ⟨_, _, _, rfl, _⟩ := h; rfl) rfl fun f cdv A outer s H E cz qs r os h => ?_
  obtain ⟨ns, n, hn, rfl, rfl, rfl⟩ := h
  have hg : SG[drawN ns n 94]? = some (pk 0 ns n SG) := by
    unfold pk
    have : drawN ns n 94 < SG.length := by rw [SG_len]; exact draw_lt (by decide)
    rw [SG_len, List.getElem?_eq_getElem this]
    rfl
  have e : (gSign ns n).1 = pickD ns (n + 1) [.str (mk [97]), .str (mk [98]), .str (mk [34]), .str (mk [92]), .str (mk [35]), .str (mk [91]), .str (mk [93]), .str (mk [61]), .str (mk [32]), .str (mk [pk 0 ns n SG])] :=
    (pick_map 0 (ns := ns) (n := n + 1) (L := sgL ns n) (f := fun c => D.str (mk [c])) (by show 0 < 10; decide)).symm
  rw [e]
  have hT := SG_text
  have hSl : SG.length ≤ 100000 := by rw [SG_len]; decide
  clear e
  generalize pk 0 ns n SG = cc at hg ⊢
  generalize SG = L at hg hT hSl
  exact ⟨_, seq (st 2 cz (de_add de_int (de_draw (it := 1) cz GD (by decide) (va 0 rfl) rfl rfl (de_int (i := 94)) rfl (by decide) (by omega))))
    (seq (st 3 cz (cs (y := L) hT))
      (ret (de_pick (it := 1) cz GP (by decide) (va 0 rfl) rfl rfl (de_still (de_lst (da_cons (cs rfl) (da_cons (cs rfl) (da_cons (cs rfl) (da_cons (cs rfl) (da_cons (cs rfl) (da_cons (cs rfl) (da_cons (cs rfl) (da_cons (cs rfl) (da_cons (cs rfl) (da_cons (ixs hSl hg (va 3 rfl) (DE.cast (de_sub (va 2 rfl) de_int) (congrArg D.int (show (32 : Int) + ((drawN ns n 94 : Nat) : Int) - 32 = ((drawN ns n 94 : Nat) : Int) by omega)))) da_nil)))))))))) (by show 10 ≤ sizeLine; decide))) rfl (by show 0 < 10; decide) (by omega)))), .ret ⟨_, _, rfl, rfl, rfl⟩⟩
end
end K01


set_option Elab.async false
set_option linter.all false
set_option maxRecDepth 100000
set_option maxHeartbeats 4000000
namespace K01
open PySem PySem.Spec PyProof.Rows L2 Dt
def numG (ns : List Int) (n : Nat) : List D := [.int 0, .int 1, .int (0 - 1), .int 999999999, .int (0 - 999999999), .int ((drawN ns (n + 1) 5000 : Nat) - 2500)]
def manyG (ns : List Int) (n : Nat) : Nat := drawN ns (n + 2) (pk 0 ns (n + 1) [3, 9, 9, 30])
def signsL (ns : List Int) (n m : Nat) : List Nat := outsN (signG ns) (fun n => n + 2) n m
def endN (n m : Nat) : Nat := itN (fun n => n + 2) n m
def textG (ns : List Int) (n : Nat) : List Nat × Nat :=
  if drawN ns (endN (n + 3) (manyG ns n)) 4 = 0 then
    ((signsL ns (n + 3) (manyG ns n)).take (drawN ns (endN (n + 3) (manyG ns n) + 1) (manyG ns n + 1)) ++ [10] ++ (signsL ns (n + 3) (manyG ns n)).drop (drawN ns (endN (n + 3) (manyG ns n) + 1) (manyG ns n + 1)), endN (n + 3) (manyG ns n) + 2)
  else (signsL ns (n + 3) (manyG ns n), endN (n + 3) (manyG ns n) + 1)
def gSingle (ns : List Int) (n : Nat) : D × Nat :=
  if drawN ns n 4 = 0 then (pickD ns (n + 2) (numG ns n), n + 3)
  else if drawN ns n 4 = 1 then (.bl (decide (drawN ns (n + 1) 2 = 0)), n + 2)
  else (.str (mk (textG ns n).1), (textG ns n).2)
theorem many_lt (ns : List Int) (n : Nat) : manyG ns n < 30 := by
  have h := pk_mem 0 (ns := ns) (n := n + 1) (L := [3, 9, 9, 30]) (by decide)
  unfold manyG
  generalize pk 0 ns (n + 1) [3, 9, 9, 30] = c at h
  simp only [List.mem_cons, List.not_mem_nil, or_false] at h
  have : 0 < c := by omega
  have := draw_lt (ns := ns) (n := n + 2) this
  omega
theorem signs_len (ns : List Int) (n m : Nat) : (signsL ns n m).length = m := outs_len _ _ _ _
theorem end_eq : ∀ (m n : Nat), endN n m = n + 2 * m
  | 0, n => rfl
  | m + 1, n => by
    show endN (n + 2) m = _
    rw [end_eq m]
    omega
theorem textG_n (ns : List Int) (n : Nat) : (textG ns n).2 ≤ n + 70 := by
  have := many_lt ns n
  unfold textG
  split <;> dsimp only <;> rw [end_eq] <;> omega
theorem textG_ok (ns : List Int) (n : Nat) : isTextL (textG ns n).1 = true := by
  have hm := many_lt ns n
  have hs : ∀ c ∈ signsL ns (n + 3) (manyG ns n), isSign c = true := outs_all _ _ _ (sign_ok ns) _ _
  have hl := signs_len ns (n + 3) (manyG ns n)
  unfold isTextL
  rw [Bool.and_eq_true]
  unfold textG
  generalize signsL ns (n + 3) (manyG ns n) = l at hs hl ⊢
  have one : ∀ c ∈ l, (decide (c = 10) || isSign c) = true := fun c hc => by rw [hs c hc, Bool.or_true]
  split
  · dsimp only
    refine ⟨decide_eq_true ?_, List.all_eq_true.mpr fun c hc => ?_⟩
    · rw [List.length_append, List.length_append, List.length_take, List.length_drop, List.length_singleton]
      omega
    · rcases List.mem_append.mp hc with hc | hc
      · rcases List.mem_append.mp hc with hc | hc
        · exact one c (List.mem_of_mem_take hc)
        · rw [List.mem_singleton.mp hc]
          decide
      · exact one c (List.mem_of_mem_drop hc)
  · exact ⟨decide_eq_true (by show l.length ≤ 200; omega), List.all_eq_true.mpr one⟩
theorem gSingle_n (ns : List Int) (n : Nat) : (gSingle ns n).2 ≤ n + 70 := by
  unfold gSingle
  split
  · dsimp only; omega
  · split
    · dsimp only; omega
    · exact textG_n ns n
theorem gSingle_ok (ns : List Int) (n : Nat) : isSingleD (gSingle ns n).1 = true := by
  unfold gSingle
  split
  · have h := pick_mem (ns := ns) (n := n + 2) (ds := numG ns n) (by show 0 < 6; decide)
    have hd := draw_lt (ns := ns) (n := n + 1) (m := 5000) (by decide)
    dsimp only
    generalize pickD ns (n + 2) (numG ns n) = d at h ⊢
    unfold numG at h
    simp only [List.mem_cons, List.not_mem_nil, or_false] at h
    rcases h with rfl | rfl | rfl | rfl | rfl | rfl
    · decide
    · decide
    · decide
    · decide
    · decide
    · exact decide_eq_true (by omega)
  · split
    · rfl
    · exact textG_ok ns n
def cntG (ns : List Int) (n : Nat) : Nat := drawN ns (n + 2) (pk 0 ns (n + 1) [3, 3, 21])
def gValue (ns : List Int) (n : Nat) : D × Nat :=
  if 0 < drawN ns n 4 then gSingle ns (n + 1)
  else (.lst (outsN (fun n => (gSingle ns n).1) (fun n => (gSingle ns n).2) (n + 3) (cntG ns n)), itN (fun n => (gSingle ns n).2) (n + 3) (cntG ns n))
theorem cnt_lt (ns : List Int) (n : Nat) : cntG ns n < 21 := by
  have h := pk_mem 0 (ns := ns) (n := n + 1) (L := [3, 3, 21]) (by decide)
  unfold cntG
  generalize pk 0 ns (n + 1) [3, 3, 21] = c at h
  simp only [List.mem_cons, List.not_mem_nil, or_false] at h
  have : 0 < c := by omega
  have := draw_lt (ns := ns) (n := n + 2) this
  omega
theorem gValue_n (ns : List Int) (n : Nat) : (gValue ns n).2 ≤ n + 1500 := by
  unfold gValue
  split
  · have := gSingle_n ns (n + 1)
    omega
  · have h1 := it_le (g := fun n => (gSingle ns n).2) (c := 70) (fun n => gSingle_n ns n) (cntG ns n) (n + 3)
    have h2 := cnt_lt ns n
    dsimp only
    omega
theorem single_value {d : D} (h : isSingleD d = true) : isValueD d = true := by cases d <;> first | exact h | cases h
theorem gValue_ok (ns : List Int) (n : Nat) : isValueD (gValue ns n).1 = true := by
  unfold gValue
  split
  · exact single_value (gSingle_ok ns (n + 1))
  · show (decide (_ ≤ 20) && _) = true
    rw [Bool.and_eq_true]
    refine ⟨decide_eq_true ?_, List.all_eq_true.mpr (outs_all _ _ _ (fun n => gSingle_ok ns n) _ _)⟩
    rw [outs_len]
    have := cnt_lt ns n
    omega
section
variable {Pr : Program} {wo : World} {K : PySem.W.Frag} {mg : Str → Option Value} {base : Heap} {CB : Addr}
abbrev sSingle : Stmt := topS 42
theorem sc_single : FnScope ["script", "town", "sort_of", "many", "found", "k"] ["script", "town"] (defScope sSingle) := ⟨rfl, rfl, rfl, by decide +kernel, rfl, by decide +kernel, by decide +kernel⟩
theorem ok_single (F : DefAt K mg "_law_single" sSingle ["script", "town"]) (B : Blts mg) (GD : FnAt Pr wo K mg base "_law_draw" 3 ["script", "town", "many"] c_draw) (GP : FnAt Pr wo K mg base "_law_pick" 4 ["script", "town", "some"] c_pick) (GS : FnAt Pr wo K mg base "_law_sign" 5 ["script", "town"] (c_st gSign 90000)) :
    FnAt Pr wo K mg base "_law_single" 6 ["script", "town"] (c_st gSingle 80000) := by
  refine fnAt (n := 4) F sc_single (fun qs r os h => by obtain ⟨_, _, _, rfl, _⟩ := h; rfl) rfl fun f cdv A outer s H E cz qs r os h => ?_
  obtain ⟨ns, n, hn, rfl, rfl, rfl⟩ := h
  have top : ∀ {o : Oc}, DSs (Xd Pr wo K mg base ["script", "town", "sort_of", "many", "found", "k"] "_law_single" sSingle f cdv A outer s H E) (Wd0 E) ((defBody sSingle).drop 1) [.v (.scr ns), .own (some 0) (tw (n + 1)), .v (.int (drawN ns n 4 : Nat)), .no, .no, .no] o →
      DSs (Xd Pr wo K mg base ["script", "town", "sort_of", "many", "found", "k"] "_law_single" sSingle f cdv A outer s H E) (Wd0 E) (defBody sSingle) (toS 0 [P.v (.scr ns), P.io (tw n)] ++ List.replicate 4 S.no) o := fun {o} h =>
    seq (st 2 cz (de_draw (it := 1) cz GD (by decide) (va 0 rfl) rfl rfl (de_int (i := 4)) rfl (by decide) (by omega))) h
  unfold gSingle
  by_cases h0 : drawN ns n 4 = 0
  · rw [if_pos h0]
    exact ⟨_, top (if_r (dt_cmpI rfl (va 2 rfl) de_int) (decide_eq_true (by omega)) (de_pick (it := 1) cz GP (by decide) (va 0 rfl) rfl rfl (de_still (de_lst (da_cons de_int (da_cons de_int (da_cons (de_sub de_int de_int) (da_cons de_int (da_cons (de_sub de_int de_int) (da_cons (de_sub (de_draw (it := 1) cz GD (by decide) (va 0 rfl) rfl rfl (de_int (i := 5000)) rfl (by decide) (by omega)) de_int) da_nil)))))) (by show 6 ≤ sizeLine; decide))) rfl (by show 0 < 6; decide) (by omega))), .ret ⟨_, _, rfl, rfl, rfl⟩⟩
  · rw [if_neg h0]
    by_cases h1 : drawN ns n 4 = 1
    · rw [if_pos h1]
      have e : decide (drawN ns (n + 1) 2 = 0) = decide (((drawN ns (n + 1) 2 : Nat) : Int) = 0) := decide_eq_decide.mpr (by omega)
      rw [e]
      exact ⟨_, top (if_n (dt_cmpI rfl (va 2 rfl) de_int) (decide_eq_false (by omega)) (if_r (dt_cmpI rfl (va 2 rfl) de_int) (decide_eq_true (by omega)) (de_cmpI rfl (de_draw (it := 1) cz GD (by decide) (va 0 rfl) rfl rfl (de_int (i := 2)) rfl (by decide) (by omega)) de_int))), .ret ⟨_, _, rfl, rfl, rfl⟩⟩
    · rw [if_neg h1]
      have hm := many_lt ns n
      have pm : pickD ns (n + 1) [.int ((3 : Nat) : Int), .int ((9 : Nat) : Int), .int ((9 : Nat) : Int), .int ((30 : Nat) : Int)] = .int ((pk 0 ns (n + 1) [3, 9, 9, 30] : Nat) : Int) := pick_map 0 (ns := ns) (n := n + 1) (L := [3, 9, 9, 30]) (f := fun c => D.int (c : Nat)) (by decide)
      have pp : 0 < pk 0 ns (n + 1) [3, 9, 9, 30] := by
        have h := pk_mem 0 (ns := ns) (n := n + 1) (L := [3, 9, 9, 30]) (by decide)
        simp only [List.mem_cons, List.not_mem_nil, or_false] at h
        omega
      have hl := signs_len ns (n + 3) (manyG ns n)
      have en := end_eq (manyG ns n) (n + 3)
      have body : ∀ {o : Oc}, DSs (Xd Pr wo K mg base ["script", "town", "sort_of", "many", "found", "k"] "_law_single" sSingle f cdv A outer s H E) (Wd0 E) ((defBody sSingle).drop 5) [.v (.scr ns), .own (some 0) (tw (endN (n + 3) (manyG ns n))), .v (.int (drawN ns n 4 : Nat)), .v (.int (manyG ns n : Nat)), .own none (.lst ((signsL ns (n + 3) (manyG ns n)).map sgn)), .no] o →
          DSs (Xd Pr wo K mg base ["script", "town", "sort_of", "many", "found", "k"] "_law_single" sSingle f cdv A outer s H E) (Wd0 E) (defBody sSingle) (toS 0 [P.v (.scr ns), P.io (tw n)] ++ List.replicate 4 S.no) o := fun {o} h => by
        refine top (if_n (dt_cmpI rfl (va 2 rfl) de_int) (decide_eq_false (by omega)) (if_n (dt_cmpI rfl (va 2 rfl) de_int) (decide_eq_false (by omega)) (seq (st 3 cz (DE.cast (d' := .int (manyG ns n : Nat)) (de_draw (m := pk 0 ns (n + 1) [3, 9, 9, 30]) (it := 1) cz GD (by decide) (va 0 rfl) rfl rfl (DE.cast (de_pick (it := 1) cz GP (by decide) (va 0 rfl) rfl rfl (de_still (de_lst (da_cons de_int (da_cons de_int (da_cons de_int (da_cons de_int da_nil)))) (by show 4 ≤ sizeLine; decide))) rfl (by show 0 < 4; decide) (by omega)) pm) rfl pp (by omega)) rfl)) ?_)))
        refine seq (stl 4 5 cz (di_rng (n := manyG ns n) B.range (va 3 rfl) (by show manyG ns n < 1000000; omega)) (lcr_st (B := 90000) (P := fun n' => [.v (.scr ns), .own (some 0) (tw n'), .v (.int (drawN ns n 4 : Nat)), .v (.int (manyG ns n : Nat)), .no, .no]) (f := fun n => (gSign ns n).1) (g := fun n => n + 2) (fun _ => rfl) (fun n' d hb s0 H0 C0 cl fp => ?_) _ (n + 3) ?_) ?_) ?_
        · exact de_st (g := gSign) (it := 1) (cz.blk s0 H0 C0 cl fp) GS (by decide) (va 0 rfl) rfl rfl hb
        · intro i hi
          rw [rngD_len] at hi
          have := end_eq i (n + 3)
          show endN (n + 3) i < 90000
          omega
        · rw [outs_len, rngD_len]
          omega
        · rw [rngD_len]
          have e : outsN (fun n => (gSign ns n).1) (fun n => n + 2) (n + 3) (manyG ns n) = (signsL ns (n + 3) (manyG ns n)).map sgn := outs_map (signG ns) sgn _ _ _
          rw [e]
          exact h
      unfold textG
      have lenE : lenD (.lst ((signsL ns (n + 3) (manyG ns n)).map sgn)) = some (manyG ns n) := by
        show some ((signsL ns (n + 3) (manyG ns n)).map sgn).length = _
        rw [List.length_map, hl]
      have fin : ∀ (l : List Nat) (ds : List D) (n' : Nat), ds = l.map sgn → l.length ≤ 200 → DSs (Xd Pr wo K mg base ["script", "town", "sort_of", "many", "found", "k"] "_law_single" sSingle f cdv A outer s H E) (Wd0 E) ((defBody sSingle).drop 6) [.v (.scr ns), .own (some 0) (tw n'), .v (.int (drawN ns n 4 : Nat)), .v (.int (manyG ns n : Nat)), .own none (.lst ds), .no]
          (.ret (.str (mk l)) [.v (.scr ns), .own (some 0) (tw n'), .v (.int (drawN ns n 4 : Nat)), .v (.int (manyG ns n : Nat)), .own none (.lst ds), .no]) := fun l ds n' hds hl' => by
        subst hds
        have z : DSs (Xd Pr wo K mg base ["script", "town", "sort_of", "many", "found", "k"] "_law_single" sSingle f cdv A outer s H E) (Wd0 E) ((defBody sSingle).drop 6) [.v (.scr ns), .own (some 0) (tw n'), .v (.int (drawN ns n 4 : Nat)), .v (.int (manyG ns n : Nat)), .own none (.lst (l.map sgn)), .no]
          (.ret (.str (mk (TL.joinL [] (l.map fun c => [c])))) [.v (.scr ns), .own (some 0) (tw n'), .v (.int (drawN ns n 4 : Nat)), .v (.int (manyG ns n : Nat)), .own none (.lst (l.map sgn)), .no]) :=
          ret (joins (s := []) (ls := l.map fun c => [c]) (by rw [sum_sing, List.length_map]; show l.length + l.length * 0 ≤ _; omega) (cs rfl) (by rw [List.map_map]; exact vb 4 rfl))
        rw [joinL_sing] at z
        exact z
      by_cases h2 : drawN ns (endN (n + 3) (manyG ns n)) 4 = 0
      · rw [if_pos h2]
        have e : ((signsL ns (n + 3) (manyG ns n)).map sgn).take (drawN ns (endN (n + 3) (manyG ns n) + 1) (manyG ns n + 1)) ++ [sgn 10] ++ ((signsL ns (n + 3) (manyG ns n)).map sgn).drop (drawN ns (endN (n + 3) (manyG ns n) + 1) (manyG ns n + 1)) =
            ((signsL ns (n + 3) (manyG ns n)).take (drawN ns (endN (n + 3) (manyG ns n) + 1) (manyG ns n + 1)) ++ [10] ++ (signsL ns (n + 3) (manyG ns n)).drop (drawN ns (endN (n + 3) (manyG ns n) + 1) (manyG ns n + 1))).map sgn := by
          rw [List.map_append, List.map_append, List.map_take, List.map_drop]
          rfl
        have dl := draw_lt (ns := ns) (n := endN (n + 3) (manyG ns n) + 1) (m := manyG ns n + 1) (by omega)
        refine ⟨_, body (if_t (o := .ret (.str (mk ((signsL ns (n + 3) (manyG ns n)).take (drawN ns (endN (n + 3) (manyG ns n) + 1) (manyG ns n + 1)) ++ [10] ++ (signsL ns (n + 3) (manyG ns n)).drop (drawN ns (endN (n + 3) (manyG ns n) + 1) (manyG ns n + 1))))) [.v (.scr ns), .own (some 0) (tw (endN (n + 3) (manyG ns n) + 2)), .v (.int (drawN ns n 4 : Nat)), .v (.int (manyG ns n : Nat)), .own none (.lst (((signsL ns (n + 3) (manyG ns n)).map sgn).take (drawN ns (endN (n + 3) (manyG ns n) + 1) (manyG ns n + 1)) ++ [sgn 10] ++ ((signsL ns (n + 3) (manyG ns n)).map sgn).drop (drawN ns (endN (n + 3) (manyG ns n) + 1) (manyG ns n + 1)))), .no]) (dt_cmpI rfl (de_draw (m := 4) (it := 1) cz GD (by decide) (va 0 rfl) rfl rfl (de_int (i := 4)) rfl (by decide) (by omega)) de_int) (decide_eq_true (by omega)) (dss1 (ds_insert (ds := (signsL ns (n + 3) (manyG ns n)).map sgn) (i := 4) rfl (by first | exact Or.inl rfl | exact Or.inr (Or.inl rfl) | exact Or.inr (Or.inr rfl)) (de_draw (m := manyG ns n + 1) (it := 1) cz GD (by decide) (va 0 rfl) rfl rfl (de_add (de_len (b_len B.len) (vb 4 rfl) lenE) de_int) rfl (by omega) (by omega)) (cs (y := [10]) rfl) rfl ⟨_, _, rfl⟩ (by rw [List.length_map, hl]; exact Nat.lt_of_lt_of_le hm (by decide)) (by omega))) (show DSs _ _ _ _ _ from ?_)), .ret ⟨_, _, rfl, rfl, rfl⟩⟩
        exact fin _ _ (endN (n + 3) (manyG ns n) + 2) e (by rw [List.length_append, List.length_append, List.length_take, List.length_drop, List.length_singleton]; omega)
      · rw [if_neg h2]
        exact ⟨_, body (if_n (dt_cmpI rfl (de_draw (m := 4) (it := 1) cz GD (by decide) (va 0 rfl) rfl rfl (de_int (i := 4)) rfl (by decide) (by omega)) de_int) (decide_eq_false (by omega)) (fin _ _ _ rfl (by omega))), .ret ⟨_, _, rfl, rfl, rfl⟩⟩
end
end K01


set_option Elab.async false
set_option linter.all false
set_option maxRecDepth 100000
set_option maxHeartbeats 4000000
namespace K01
open PySem PySem.Spec PyProof.Rows L2 Dt
/-! ### replace, sign by sign -/
theorem repl1 (c : Nat) (z : List Nat) : ∀ l : List Nat, StrLaws.replL [c] z l = (l.map fun a => if a = c then z else [a]).flatten
  | [] => StrLaws.replL_nil
  | a :: r => by
    rw [List.map_cons, List.flatten_cons]
    by_cases h : a = c
    · rw [if_pos h, StrLaws.replL_hit (by exact fun z => nomatch z) (by rw [h]; rfl)]
      show z ++ StrLaws.replL [c] z r = _
      rw [repl1 c z r]
    · rw [if_neg h, StrLaws.replL_miss (by
        show ¬ [a] = [c]
        exact fun z => h (List.cons.inj z).1), repl1 c z r]
      rfl
theorem repl_mk (c : Nat) (z l : List Nat) : Txt.replace (mk l) (mk [c]) (mk z) = mk ((l.map fun a => if a = c then z else [a]).flatten) := by
  refine str_ext ?_
  rw [StrLaws.replace_list (show 1 ≤ (mk [c]).length from Nat.le_refl 1)]
  exact repl1 c z l
def escW (l : List Nat) : List Nat := ((((l.map fun a => if a = 92 then [92, 92] else [a]).flatten.map fun a => if a = 34 then [92, 34] else [a]).flatten).map fun a => if a = 10 then [92, 110] else [a]).flatten
theorem escW_eq : ∀ l : List Nat, escW l = (l.map esc).flatten
  | [] => rfl
  | a :: r => by
    have ih := escW_eq r
    unfold escW at ih ⊢
    rw [List.map_cons, List.flatten_cons, List.map_append, List.flatten_append, List.map_append, List.flatten_append, ih, List.map_cons, List.flatten_cons]
    congr 1
    unfold esc
    by_cases h1 : a = 92
    · subst h1; decide
    · rw [if_neg h1]
      by_cases h2 : a = 34
      · subst h2; decide
      · show ((((if a = 34 then [92, 34] else [a]) ++ []).map fun a => if a = 10 then [92, 110] else [a]).flatten) = _
        rw [if_neg h2]
        show (if a = 10 then [92, 110] else [a]) ++ [] = _
        rw [List.append_nil]
        by_cases h3 : a = 10
        · rw [if_pos h3, if_pos h3]
        · rw [if_neg h3, if_neg h3, if_neg (by rintro (h | h); exact h2 h; exact h1 h)]
section
variable {X : Cx} {W : WX} {ρ ρ1 : List S} {o b : Expr} {apos pos : Pos}
theorem det_replM {c u v : Nat} {l : List Nat} {y' z' : Str} {j j' : Nat} {c0 c1 : Pos} (hy : y' = mk [c]) (hz : z' = mk [u, v]) (hl : l.length ≤ 100000) (ho : DEt X W o ρ (.str (mk l)) ρ1) (hyz : (y' == z') = false := by decide)
    (hst : starEach [.Constant (.str y') j c0, .Constant (.str z') j' c1] X.env = [(false, eval (.Constant (.str y') j c0) X.env), (false, eval (.Constant (.str z') j' c1) X.env)] := by rfl)
    (hbase : attributeBase o "replace" X.env (eval o X.env) = eval o X.env := by rfl) (hline : (apos.endLine == pos.line) = true := by rfl) :
    DEt X W (.Call (.Attribute o "replace" apos) [.Constant (.str y') j c0, .Constant (.str z') j' c1] [] pos) ρ (.str (mk ((l.map fun a => if a = c then [u, v] else [a]).flatten))) ρ1 := by
  subst hy hz
  rw [← repl_mk]
  exact det_repl (by show l.length + (l.length + 1) * 2 ≤ 16777216; omega) ho hyz hst hbase hline
theorem de_addTM {x0 : Str} {x y : List Nat} {j : Nat} {c0 : Pos} (hx : x0 = mk x) (hl : x.length + y.length ≤ 100000) (h : DEt X W b ρ (.str (mk y)) ρ1) : DE X W (.BinOp (.Constant (.str x0) j c0) .Add b pos) ρ (.val (.str (mk (x ++ y))) ρ1) := by
  subst hx
  rw [← mk_app]
  exact de_addT (szL hl) h
end
theorem rep_len (c : Nat) (x y : Nat) : ∀ l : List Nat, ((l.map fun a => if a = c then [x, y] else [a]).flatten).length ≤ 2 * l.length
  | [] => Nat.le_refl _
  | a :: r => by
    have ih := rep_len c x y r
    rw [List.map_cons, List.flatten_cons, List.length_append, List.length_cons]
    split
    · show 2 + _ ≤ _
      omega
    · show 1 + _ ≤ _
      omega
section
variable {Pr : Program} {wo : World} {K : PySem.W.Frag} {mg : Str → Option Value} {base : Heap} {CB : Addr}
abbrev sValue : Stmt := topS 43
theorem sc_value : FnScope ["script", "town", "k"] ["script", "town"] (defScope sValue) := ⟨rfl, rfl, rfl, by decide +kernel, rfl, by decide +kernel, by decide +kernel⟩
theorem ok_value (F : DefAt K mg "_law_value" sValue ["script", "town"]) (B : Blts mg) (GD : FnAt Pr wo K mg base "_law_draw" 3 ["script", "town", "many"] c_draw) (GP : FnAt Pr wo K mg base "_law_pick" 4 ["script", "town", "some"] c_pick) (GS : FnAt Pr wo K mg base "_law_single" 6 ["script", "town"] (c_st gSingle 80000)) :
    FnAt Pr wo K mg base "_law_value" 7 ["script", "town"] (c_st gValue 70000) := by
  refine fnAt (n := 1) F sc_value (fun qs r os h => by obtain ⟨_, _, _, rfl, _⟩ := h; rfl) rfl fun f cdv A outer s H E cz qs r os h => ?_
  obtain ⟨ns, n, hn, rfl, rfl, rfl⟩ := h
  unfold gValue
  by_cases h0 : 0 < drawN ns n 4
  · rw [if_pos h0]
    exact ⟨_, if_r (dt_cmpI rfl (de_draw (m := 4) (it := 1) cz GD (by decide) (va 0 rfl) rfl rfl (de_int (i := 4)) rfl (by decide) (by omega)) de_int) (decide_eq_true (by omega)) (de_st (g := gSingle) (it := 1) cz GS (by decide) (va 0 rfl) rfl rfl (by omega)), .ret ⟨_, _, rfl, rfl, rfl⟩⟩
  · rw [if_neg h0]
    have hc := cnt_lt ns n
    have pm : pickD ns (n + 1) [.int ((3 : Nat) : Int), .int ((3 : Nat) : Int), .int ((21 : Nat) : Int)] = .int ((pk 0 ns (n + 1) [3, 3, 21] : Nat) : Int) := pick_map 0 (ns := ns) (n := n + 1) (L := [3, 3, 21]) (f := fun c => D.int (c : Nat)) (by decide)
    have pp : 0 < pk 0 ns (n + 1) [3, 3, 21] := by
      have h := pk_mem 0 (ns := ns) (n := n + 1) (L := [3, 3, 21]) (by decide)
      simp only [List.mem_cons, List.not_mem_nil, or_false] at h
      omega
    refine ⟨_, if_n (dt_cmpI rfl (de_draw (m := 4) (it := 1) cz GD (by decide) (va 0 rfl) rfl rfl (de_int (i := 4)) rfl (by decide) (by omega)) de_int) (decide_eq_false (by omega)) (ret (de_still (lc 2 cz (di_rng (n := cntG ns n) B.range (DE.cast (d' := .int (cntG ns n : Nat)) (de_draw (m := pk 0 ns (n + 1) [3, 3, 21]) (it := 1) cz GD (by decide) (va 0 rfl) rfl rfl (DE.cast (de_pick (it := 1) cz GP (by decide) (va 0 rfl) rfl rfl (de_still (de_lst (da_cons de_int (da_cons de_int (da_cons de_int da_nil))) (by show 3 ≤ sizeLine; decide))) rfl (by show 0 < 3; decide) (by omega)) pm) rfl pp (by omega)) rfl) (by show cntG ns n < 1000000; omega))
      (lcr_st (B := 80000) (P := fun n' => [.v (.scr ns), .own (some 0) (tw n'), .no]) (f := fun n => (gSingle ns n).1) (g := fun n => (gSingle ns n).2) (fun _ => rfl) (fun n' d hb s0 H0 C0 cl fp => de_st (g := gSingle) (it := 1) (cz.blk s0 H0 C0 cl fp) GS (by decide) (va 0 rfl) rfl rfl hb) _ (n + 3) ?_) ?_))), ?_⟩
    · intro i hi
      rw [rngD_len] at hi
      have := it_le (g := fun n => (gSingle ns n).2) (c := 70) (fun n => gSingle_n ns n) i (n + 3)
      omega
    · rw [outs_len, rngD_len]
      exact szL (by omega)
    · rw [rngD_len]
      exact .ret ⟨_, _, rfl, rfl, rfl⟩
/-! ### _law_written -/
abbrev sWr : Stmt := topS 44
theorem sc_wr : FnScope ["value", "one"] ["value"] (defScope sWr) := ⟨rfl, rfl, rfl, by decide +kernel, rfl, by decide +kernel, by decide +kernel⟩
theorem wr_single {d : D} (F : DefAt K mg "_law_written" sWr ["value"]) (B : Blts mg) {k : Nat} {f cdv A outer s H E} (cz : Cz (Xd Pr wo K mg base ["value", "one"] "_law_written" sWr f cdv A outer s H E) (Wd0 E) k) (hd : isSingleD d = true) :
    DSs (Xd Pr wo K mg base ["value", "one"] "_law_written" sWr f cdv A outer s H E) (Wd0 E) (defBody sWr) [.v d, .no] (.ret (.str (mk (textS d))) [.v d, .no]) := by
  cases d with
  | bl b =>
    refine if_r (tb (is_bool rfl B.isi B.bool (db_of (va 0 rfl)))) rfl (de_ix (i := if b then 1 else 0) (de_still (de_lst (da_cons (cs (y := [110, 111]) rfl) (da_cons (cs (y := [121, 101, 115]) rfl) da_nil)) (by show 2 ≤ sizeLine; decide))) (de_intB (b_int B.int) (va 0 rfl)) ?_)
    cases b <;> rfl
  | int i => exact if_n (tb (is_bool rfl B.isi B.bool (db_of (va 0 rfl)))) rfl (if_r (tb (is_int rfl B.isi B.int (db_of (va 0 rfl)))) rfl (de_strI (log_small (of_decide_eq_true hd)) (b_str B.str) (va 0 rfl)))
  | str z =>
    have hl : z.cps.toList.length ≤ 200 := isTextL_len hd
    generalize hz : z.cps.toList = l at hl
    have ez : z = mk l := by rw [← hz]
    subst ez
    have l1 := rep_len 92 92 92 l
    have l2 := rep_len 34 92 34 ((l.map fun a => if a = 92 then [92, 92] else [a]).flatten)
    have l3 := rep_len 10 92 110 (((l.map fun a => if a = 92 then [92, 92] else [a]).flatten.map fun a => if a = 34 then [92, 34] else [a]).flatten)
    have ew : quoteL l = [34] ++ escW l ++ [34] := by rw [escW_eq]; rfl
    show DSs _ _ _ _ (.ret (.str (mk (quoteL l))) _)
    rw [ew]
    have le : (escW l).length ≤ 1600 := by
      unfold escW
      omega
    exact if_n (tb (is_bool rfl B.isi B.bool (db_of (va 0 rfl)))) rfl (if_n (tb (is_int rfl B.isi B.int (db_of (va 0 rfl)))) rfl (if_n (tb (is_list rfl B.isi B.list (db_of (va 0 rfl)))) rfl (ret (cats (x := [34] ++ escW l) (y := [34]) (by rw [List.length_append, List.length_singleton]; omega)
      (de_addTM (x := [34]) (y := escW l) rfl (by rw [List.length_singleton]; omega) (det_replM (c := 10) (u := 92) (v := 110) rfl rfl (by omega) (det_replM (c := 34) (u := 92) (v := 34) rfl rfl (by omega) (det_replM (c := 92) (u := 92) (v := 92) rfl rfl (by omega) (det_of (va 0 rfl)))))) (cs rfl)))))
  | _ => cases hd
theorem ok_wr1 (F : DefAt K mg "_law_written" sWr ["value"]) (B : Blts mg) : FnAt Pr wo K mg base "_law_written" 1 ["value"] c_text1 := by
  refine fnAt (n := 1) F sc_wr (fun qs r os h => by obtain ⟨l, _, rfl, _⟩ := h; rfl) rfl fun f cdv A outer s H E cz qs r os h => ?_
  obtain ⟨d, hd, rfl, rfl, rfl⟩ := h
  exact ⟨_, wr_single F B cz hd, .ret rfl⟩
theorem ok_wr (F : DefAt K mg "_law_written" sWr ["value"]) (B : Blts mg) (G : FnAt Pr wo K mg base "_law_written" 1 ["value"] c_text1) : FnAt Pr wo K mg base "_law_written" 2 ["value"] c_text := by
  refine fnAt (n := 1) F sc_wr (fun qs r os h => by obtain ⟨l, _, rfl, _⟩ := h; rfl) rfl fun f cdv A outer s H E cz qs r os h => ?_
  obtain ⟨d, hd, rfl, rfl, rfl⟩ := h
  by_cases hL : isListD d = true
  · cases d with
    | lst xs =>
      obtain ⟨h1, h2⟩ := val_lst hd
      have hs := items_len h1 h2
      have jl := joinL_len [44, 32] (xs.map textS)
      rw [List.all_eq_true] at h2
      have hs' : ((xs.map textS).map List.length).sum + (xs.map textS).length * ([44, 32] : List Nat).length ≤ 8200 := hs
      refine ⟨_, if_n (tb (is_bool rfl B.isi B.bool (db_of (va 0 rfl)))) rfl (if_n (tb (is_int rfl B.isi B.int (db_of (va 0 rfl)))) rfl (if_r (tb (is_list rfl B.isi B.list (db_of (va 0 rfl)))) rfl (cats (x := [91] ++ TL.joinL [44, 32] (xs.map textS)) (y := [93]) ?_ (cats (x := [91]) ?_ (cs rfl) (joins (s := [44, 32]) (ls := xs.map textS) (by omega) (cs rfl) (db_new (by
        rw [List.map_map]
        exact lcm (g := id) 1 cz (by rw [List.map_id]; exact di_list (va 0 rfl)) (by omega) fun y hy s0 H0 C0 cl fp => de_callV (cz.blk s0 H0 C0 cl fp) G (by decide) (da_cons (va 1 rfl) da_nil) ⟨y, h2 y hy, rfl, rfl, rfl⟩)))) (cs rfl)))), .ret rfl⟩
      · simp only [List.length_append, List.length_cons, List.length_nil]; omega
      · rw [List.length_singleton]; omega
    | _ => cases hL
  · have hd1 : isSingleD d = true := by cases d <;> first | exact hd | exact absurd rfl hL
    have e : textD d = textS d := by cases d <;> first | rfl | exact absurd rfl hL
    rw [e]
    exact ⟨_, wr_single F B cz hd1, .ret rfl⟩
end
end K01


set_option Elab.async false
set_option linter.all false
set_option maxRecDepth 100000
set_option maxHeartbeats 4000000
namespace K01
open PySem PySem.Spec PyProof.Rows L2 Dt
/-! ### _law_same, of a thing and itself -/
def fl1 : D → Bool
  | .bl _ => true
  | .int _ => true
  | .str _ => true
  | _ => false
def flV : D → Bool
  | .lst xs => decide (xs.length ≤ 100) && xs.all fl1
  | d => fl1 d
section
variable {Pr : Program} {wo : World} {K : PySem.W.Frag} {mg : Str → Option Value} {base : Heap} {CB : Addr}
abbrev sSame : Stmt := topS 45
theorem sc_same : FnScope ["one", "other", "k"] ["one", "other"] (defScope sSame) := ⟨rfl, rfl, rfl, by decide +kernel, rfl, by decide +kernel, by decide +kernel⟩
def c_same1 : Con := fun ps r os => ∃ d, fl1 d = true ∧ ps = [.v d, .v d] ∧ r = .ret (.bl true) ∧ os = []
def c_same : Con := fun ps r os => ∃ d, flV d = true ∧ ps = [.v d, .v d] ∧ r = .ret (.bl true) ∧ os = []
theorem same_single {d : D} (B : Blts mg) {k : Nat} {f cdv A outer s H E} (cz : Cz (Xd Pr wo K mg base ["one", "other", "k"] "_law_same" sSame f cdv A outer s H E) (Wd0 E) k) (hd : fl1 d = true) :
    DSs (Xd Pr wo K mg base ["one", "other", "k"] "_law_same" sSame f cdv A outer s H E) (Wd0 E) (defBody sSame) [.v d, .v d, .no] (.ret (.bl true) [.v d, .v d, .no]) := by
  cases d with
  | bl b =>
    exact if_n (dt_w (and_f (tb (is_list rfl B.isi B.list (db_of (va 0 rfl)))) rfl)) rfl (if_n (dt_neB (is_bool rfl B.isi B.bool (db_of (va 0 rfl))) (is_bool rfl B.isi B.bool (db_of (va 1 rfl)))) rfl (ret (DE.cast (vand_t (de_eqB (va 0 rfl) (va 1 rfl)) (decide_eq_true rfl) (de_one (de_eqB (is_list rfl B.isi B.list (db_of (va 0 rfl))) (is_list rfl B.isi B.list (db_of (va 1 rfl)))))) (show D.bl (decide (false = false)) = D.bl true from rfl))))
  | int i =>
    exact if_n (dt_w (and_f (tb (is_list rfl B.isi B.list (db_of (va 0 rfl)))) rfl)) rfl (if_n (dt_neB (is_bool rfl B.isi B.bool (db_of (va 0 rfl))) (is_bool rfl B.isi B.bool (db_of (va 1 rfl)))) rfl (ret (DE.cast (vand_t (de_cmpI rfl (va 0 rfl) (va 1 rfl)) (decide_eq_true rfl) (de_one (de_eqB (is_list rfl B.isi B.list (db_of (va 0 rfl))) (is_list rfl B.isi B.list (db_of (va 1 rfl)))))) (show D.bl (decide (false = false)) = D.bl true from rfl))))
  | str z =>
    exact if_n (dt_w (and_f (tb (is_list rfl B.isi B.list (db_of (va 0 rfl)))) rfl)) rfl (if_n (dt_neB (is_bool rfl B.isi B.bool (db_of (va 0 rfl))) (is_bool rfl B.isi B.bool (db_of (va 1 rfl)))) rfl (ret (DE.cast (vand_t (de_cmpS rfl (va 0 rfl) (va 1 rfl)) (decide_eq_true rfl) (de_one (de_eqB (is_list rfl B.isi B.list (db_of (va 0 rfl))) (is_list rfl B.isi B.list (db_of (va 1 rfl)))))) (show D.bl (decide (false = false)) = D.bl true from rfl))))
  | _ => cases hd
theorem ok_same1 (F : DefAt K mg "_law_same" sSame ["one", "other"]) (B : Blts mg) : FnAt Pr wo K mg base "_law_same" 1 ["one", "other"] c_same1 := by
  refine fnAt (n := 1) F sc_same (fun qs r os h => by obtain ⟨l, _, rfl, _⟩ := h; rfl) rfl fun f cdv A outer s H E cz qs r os h => ?_
  obtain ⟨d, hd, rfl, rfl, rfl⟩ := h
  exact ⟨_, same_single B cz hd, .ret rfl⟩
theorem ok_same (F : DefAt K mg "_law_same" sSame ["one", "other"]) (B : Blts mg) (G : FnAt Pr wo K mg base "_law_same" 1 ["one", "other"] c_same1) : FnAt Pr wo K mg base "_law_same" 2 ["one", "other"] c_same := by
  refine fnAt (n := 1) F sc_same (fun qs r os h => by obtain ⟨l, _, rfl, _⟩ := h; rfl) rfl fun f cdv A outer s H E cz qs r os h => ?_
  obtain ⟨d, hd, rfl, rfl, rfl⟩ := h
  by_cases hL : isListD d = true
  · cases d with
    | lst xs =>
      have hd : (decide (xs.length ≤ 100) && xs.all fl1) = true := hd
      rw [Bool.and_eq_true, List.all_eq_true] at hd
      have hl : xs.length ≤ 100 := of_decide_eq_true hd.1
      have ea : ((List.range xs.length).all fun _ => true) = true := List.all_eq_true.mpr fun _ _ => rfl
      refine ⟨_, if_r (dt_w (and_t (tb (is_list rfl B.isi B.list (db_of (va 0 rfl)))) rfl (dw_and1 (tb (is_list rfl B.isi B.list (db_of (va 1 rfl))))))) rfl (DE.cast (vand_t (de_cmpI rfl (de_len (b_len B.len) (db_of (va 0 rfl)) rfl) (de_len (b_len B.len) (db_of (va 1 rfl)) rfl)) (decide_eq_true rfl) (de_one (all_c (l := List.range xs.length) (g := fun i => D.int ((0 : Int) + (i : Nat))) (q := fun _ => true) 2 cz B.all (di_rng (n := xs.length) B.range (de_len (b_len B.len) (db_of (va 0 rfl)) rfl) (by omega)) (by rw [List.length_range]; omega) fun y hy s0 H0 C0 cl fp => ?_))) (congrArg D.bl ea)), .ret rfl⟩
      have hy := List.mem_range.mp hy
      have hg := List.getElem?_eq_getElem hy
      have ga : ixD (.lst xs) ((0 : Int) + (y : Nat)) = some xs[y] := by
        show atI xs _ = _
        rw [Int.zero_add]
        exact atI_nat hg
      exact de_callV (cz.blk s0 H0 C0 cl fp) G (by decide) (da_cons (de_ix (va 0 rfl) (va 2 rfl) ga) (da_cons (de_ix (va 1 rfl) (va 2 rfl) ga) da_nil)) ⟨xs[y], hd.2 _ (List.getElem_mem hy), rfl, rfl, rfl⟩
    | _ => cases hL
  · have hd1 : fl1 d = true := by cases d <;> first | exact hd | exact absurd rfl hL
    exact ⟨_, same_single B cz hd1, .ret rfl⟩
end
end K01


set_option Elab.async false
set_option linter.all false
set_option maxRecDepth 100000
set_option maxHeartbeats 4000000
namespace K01
open PySem PySem.Spec PyProof.Rows L2 Dt
def ifB : Stmt → List Stmt
  | .If _ b _ _ => b
  | _ => []
def outU : Option (D × List Nat) → D
  | none => .non
  | some (d, q) => .tup [d, .str (mk q)]
theorem eqF_str (a b : Str) : eqF (.str a) (.str b) = decide (a = b) := by
  by_cases h : a = b
  · rw [decide_eq_true h, h]
    simp [eqF, toPy, PyData.eqv]
  · rw [decide_eq_false h]
    simp [eqF, toPy, PyData.eqv, h]
theorem inF_str (x : List Nat) : ∀ ys : List (List Nat), inF (.str (mk x)) (ys.map fun y => D.str (mk y)) = decide (x ∈ ys)
  | [] => rfl
  | y :: ys => by
    have ih := inF_str x ys
    unfold inF at ih ⊢
    rw [List.map_cons, List.any_cons, ih, eqF_str, dec_mk]
    by_cases h : y = x
    · subst h
      rw [decide_eq_true rfl, decide_eq_true List.mem_cons_self]
      rfl
    · rw [decide_eq_false h, Bool.false_or]
      exact decide_eq_decide.mpr (by rw [List.mem_cons]; exact ⟨.inr, fun z => z.resolve_left (fun w => h w.symm)⟩)
theorem unesc_in {e : Nat} : ([e] ∈ ([[92], [34], [110]] : List (List Nat))) ↔ (unesc e).isSome = true := by
  unfold unesc
  by_cases h1 : e = 92
  · subst h1; decide
  · by_cases h2 : e = 34
    · subst h2; decide
    · by_cases h3 : e = 110
      · subst h3; decide
      · rw [if_neg h1, if_neg h2, if_neg h3]
        simp [h1, h2, h3]
theorem unesc_val {e u : Nat} (h : unesc e = some u) : u = if e = 110 then 10 else e := by
  unfold unesc at h
  split at h
  · cases h; rename_i h1; rw [h1]; rfl
  · split at h
    · cases h; rename_i h1; rw [h1]; rfl
    · split at h
      · cases h; rename_i h1; rw [if_pos h1]
      · cases h
section
variable {Pr : Program} {wo : World} {K : PySem.W.Frag} {mg : Str → Option Value} {base : Heap} {CB : Addr}
abbrev sTk : Stmt := topS 46
abbrev nTk : List Str := ["text", "found", "left", "size", "first", "figures", "figure"]
theorem sc_tk : FnScope nTk ["text"] (defScope sTk) := ⟨rfl, rfl, rfl, by decide +kernel, rfl, by decide +kernel, by decide +kernel⟩
abbrev wTk : Stmt := (ifB (bodyAt sTk 1)).getD 2 (.Pass ⟨0, 0, 0, 0⟩)
theorem tk_text {l : List Nat} (hz : l.length ≤ 50000) (B : Blts mg) {k : Nat} {f cdv A outer s H E} (cz : Cz (Xd Pr wo K mg base nTk "_law_take" sTk f cdv A outer s H E) (Wd0 E) k) (h1 : l.take 1 = [34]) :
    ∃ ρ', DSs (Xd Pr wo K mg base nTk "_law_take" sTk f cdv A outer s H E) (Wd0 E) (ifB (bodyAt sTk 1)) [.v (.str (mk l)), .no, .no, .no, .no, .no, .no] (.ret (outU (tagT (scanT (l.drop 1)))) ρ') := by
  have key : ∀ (n : Nat) (s' acc : List Nat), s'.length ≤ n → acc.length + s'.length ≤ l.length →
      match loopT s' acc with
      | none => ∃ m ρ', WhR (Xd Pr wo K mg base nTk "_law_take" sTk f cdv A outer s H E) (Wd0 E) (wT wTk) (wB wTk) m [.v (.str (mk l)), .own none (.lst (acc.map sgn)), .v (.str (mk s')), .no, .no, .no, .no] (.ret .non ρ')
      | some (acc2, rest) => ∃ m, WhR (Xd Pr wo K mg base nTk "_law_take" sTk f cdv A outer s H E) (Wd0 E) (wT wTk) (wB wTk) m [.v (.str (mk l)), .own none (.lst (acc.map sgn)), .v (.str (mk s')), .no, .no, .no, .no] (.next [.v (.str (mk l)), .own none (.lst (acc2.map sgn)), .v (.str (mk rest)), .no, .no, .no, .no]) := by
    intro n
    induction n with
    | zero =>
      intro s' acc hn hs
      have : s' = [] := List.length_eq_zero_iff.mp (by omega)
      subst this
      rw [loopT]
      exact ⟨0, .done (dt_w (and_f (nes (y := []) rfl (va 2 rfl) de_str) rfl))⟩
    | succ n ih =>
      intro s' acc hn hs
      cases s' with
      | nil => rw [loopT]; exact ⟨0, .done (dt_w (and_f (nes (y := []) rfl (va 2 rfl) de_str) rfl))⟩
      | cons c r =>
        rw [List.length_cons] at hn hs
        have hzr : (c :: r).length ≤ 100000 := by rw [List.length_cons]; omega
        have hg : (c :: r)[0]? = some c := rfl
        have hsz : (acc.map sgn).length < sizeLine := by rw [List.length_map]; exact Nat.lt_of_le_of_lt (show acc.length ≤ 100000 by omega) (by decide)
        rw [loopT_cons]
        by_cases c1 : c = 34
        · rw [if_pos c1]
          exact ⟨0, .done (dt_w (and_t (nes (y := []) rfl (va 2 rfl) de_str) rfl (dw_and1 (to (nes (y := [34]) rfl (ixs (i := 0) hzr hg (va 2 rfl) de_int) de_str) (by rw [c1]; rfl)))))⟩
        · rw [if_neg c1]
          have tst : DT (Xd Pr wo K mg base nTk "_law_take" sTk f cdv A outer s H E) (Wd0 E) (wT wTk) [.v (.str (mk l)), .own none (.lst (acc.map sgn)), .v (.str (mk (c :: r))), .no, .no, .no, .no] true [.v (.str (mk l)), .own none (.lst (acc.map sgn)), .v (.str (mk (c :: r))), .no, .no, .no, .no] :=
            dt_w (and_t (nes (y := []) rfl (va 2 rfl) de_str) rfl (dw_and1 (to (nes (y := [34]) rfl (ixs (i := 0) hzr hg (va 2 rfl) de_int) de_str) (nd1 c1))))
          by_cases c2 : c = 92
          · rw [if_pos c2]
            have t2 : decide ([c] = [92]) = true := decide_eq_true (by rw [c2])
            cases r with
            | nil =>
              refine ⟨0, _, .ret tst (if_t (eqs (y := [92]) rfl (ixs (i := 0) hzr hg (va 2 rfl) de_int) de_str) t2 (if_r (dt_notInL (ds := ([[92], [34], [110]] : List (List Nat)).map fun y => D.str (mk y)) rfl rfl (sl2 (i := 1) (j := 2) hzr (va 2 rfl) de_int de_int) (de_still (de_lst (da_cons (cs rfl) (da_cons (cs rfl) (da_cons (cs rfl) da_nil))) (by show 3 ≤ sizeLine; decide)))) (by rw [inF_str]; rfl) de_non) rfl)⟩
            | cons e r' =>
              dsimp only
              have tk : ((c :: e :: r').drop 1).take (2 - 1) = [e] := rfl
              have hg1 : (c :: e :: r')[1]? = some e := rfl
              cases hu : unesc e with
              | none =>
                refine ⟨0, _, .ret tst (if_t (eqs (y := [92]) rfl (ixs (i := 0) hzr hg (va 2 rfl) de_int) de_str) t2 (if_r (dt_notInL (ds := ([[92], [34], [110]] : List (List Nat)).map fun y => D.str (mk y)) rfl rfl (sl2 (i := 1) (j := 2) hzr (va 2 rfl) de_int de_int) (de_still (de_lst (da_cons (cs rfl) (da_cons (cs rfl) (da_cons (cs rfl) da_nil))) (by show 3 ≤ sizeLine; decide)))) (by rw [inF_str, tk, decide_eq_false (fun z => by rw [unesc_in, hu] at z; cases z)]; rfl) de_non) rfl)⟩
              | some u =>
                dsimp only
                have hm : decide ([e] ∈ ([[92], [34], [110]] : List (List Nat))) = true := decide_eq_true (by rw [unesc_in, hu]; rfl)
                have ih' := ih r' (acc ++ [u]) (by rw [List.length_cons] at hn; omega) (by rw [List.length_append, List.length_singleton]; rw [List.length_cons] at hs; omega)
                have bd : DSs (Xd Pr wo K mg base nTk "_law_take" sTk f cdv A outer s H E) (Wd0 E) (wB wTk) [.v (.str (mk l)), .own none (.lst (acc.map sgn)), .v (.str (mk (c :: e :: r'))), .no, .no, .no, .no] (.next [.v (.str (mk l)), .own none (.lst ((acc ++ [u]).map sgn)), .v (.str (mk r')), .no, .no, .no, .no]) := by
                  rw [List.map_append, unesc_val hu]
                  refine if_t (eqs (y := [92]) rfl (ixs (i := 0) hzr hg (va 2 rfl) de_int) de_str) t2 (if_n (dt_notInL (ds := ([[92], [34], [110]] : List (List Nat)).map fun y => D.str (mk y)) rfl rfl (sl2 (i := 1) (j := 2) hzr (va 2 rfl) de_int de_int) (de_still (de_lst (da_cons (cs rfl) (da_cons (cs rfl) (da_cons (cs rfl) da_nil))) (by show 3 ≤ sizeLine; decide)))) (by rw [inF_str, tk, hm]; rfl) (seq (ds_append (i := 1) (ρ1 := [.v (.str (mk l)), .own none (.lst (acc.map sgn)), .v (.str (mk (c :: e :: r'))), .no, .no, .no, .no]) (d := sgn (if e = 110 then 10 else e)) rfl (.inl rfl) ?_ rfl ⟨_, _, rfl⟩ hsz) (dss1 (st 2 cz (slf (i := 2) hzr (va 2 rfl) de_int))))) dss_nil
                  by_cases e1 : e = 110
                  · rw [if_pos e1]
                    exact ife_t (eqs (y := [110]) rfl (ixs (i := 1) hzr hg1 (va 2 rfl) de_int) de_str) (by rw [e1]; rfl) (cs rfl)
                  · rw [if_neg e1]
                    exact ife_f (eqs (y := [110]) rfl (ixs (i := 1) hzr hg1 (va 2 rfl) de_int) de_str) (decide_eq_false fun z => e1 (List.cons.inj z).1) (ixs (i := 1) hzr hg1 (va 2 rfl) de_int)
                cases hl2 : loopT r' (acc ++ [u]) with
                | none =>
                  rw [hl2] at ih'
                  obtain ⟨m, ρ', hm⟩ := ih'
                  exact ⟨m + 1, ρ', .turn tst bd hm⟩
                | some p =>
                  obtain ⟨acc2, rest⟩ := p
                  rw [hl2] at ih'
                  obtain ⟨m, hm⟩ := ih'
                  exact ⟨m + 1, .turn tst bd hm⟩
          · rw [if_neg c2]
            have ih' := ih r (acc ++ [c]) (by omega) (by rw [List.length_append, List.length_singleton]; omega)
            have bd : DSs (Xd Pr wo K mg base nTk "_law_take" sTk f cdv A outer s H E) (Wd0 E) (wB wTk) [.v (.str (mk l)), .own none (.lst (acc.map sgn)), .v (.str (mk (c :: r))), .no, .no, .no, .no] (.next [.v (.str (mk l)), .own none (.lst ((acc ++ [c]).map sgn)), .v (.str (mk r)), .no, .no, .no, .no]) := by
              rw [List.map_append]
              exact if_f (eqs (y := [92]) rfl (ixs (i := 0) hzr hg (va 2 rfl) de_int) de_str) (decide_eq_false fun z => c2 (List.cons.inj z).1) (seq (ds_append (i := 1) rfl (.inl rfl) (ixs (i := 0) hzr hg (va 2 rfl) de_int) rfl ⟨_, _, rfl⟩ hsz) (dss1 (st 2 cz (slf (i := 1) hzr (va 2 rfl) de_int)))) dss_nil
            cases hl2 : loopT r (acc ++ [c]) with
            | none =>
              rw [hl2] at ih'
              obtain ⟨m, ρ', hm⟩ := ih'
              exact ⟨m + 1, ρ', .turn tst bd hm⟩
            | some p =>
              obtain ⟨acc2, rest⟩ := p
              rw [hl2] at ih'
              obtain ⟨m, hm⟩ := ih'
              exact ⟨m + 1, .turn tst bd hm⟩
  have hz1 : l.length ≤ 100000 := by omega
  have top : ∀ {o : Oc}, DSs (Xd Pr wo K mg base nTk "_law_take" sTk f cdv A outer s H E) (Wd0 E) ((ifB (bodyAt sTk 1)).drop 2) [.v (.str (mk l)), .own none (.lst (([] : List Nat).map sgn)), .v (.str (mk (l.drop 1))), .no, .no, .no, .no] o →
      DSs (Xd Pr wo K mg base nTk "_law_take" sTk f cdv A outer s H E) (Wd0 E) (ifB (bodyAt sTk 1)) [.v (.str (mk l)), .no, .no, .no, .no, .no, .no] o := fun {o} h =>
    seq (sto 1 cz (de_lst da_nil (by show 0 ≤ sizeLine; decide))) (seq (st 2 cz (slf (i := 1) hz1 (va 0 rfl) de_int)) h)
  have kk := key (l.drop 1).length (l.drop 1) [] (Nat.le_refl _) (by rw [List.length_nil, List.length_drop]; omega)
  unfold scanT
  cases hl2 : loopT (l.drop 1) [] with
  | none =>
    rw [hl2] at kk
    obtain ⟨m, ρ', hm⟩ := kk
    exact ⟨_, top (dss (ds_while cz.po hm) rfl)⟩
  | some p =>
    obtain ⟨acc2, rest⟩ := p
    rw [hl2] at kk
    obtain ⟨m, hm⟩ := kk
    obtain ⟨g1, g2, g3⟩ := loopT_suf _ _ _ _ _ (Nat.le_refl _) hl2
    rw [List.length_nil, List.length_drop] at g2
    have lz : lenD (.lst (acc2.map sgn)) = some acc2.length := congrArg some (List.length_map _)
    dsimp only
    rcases g3 with rfl | ⟨q, rfl⟩
    · exact ⟨_, top (seq (ds_while cz.po hm) (ret (ife_f (dt_w (and_f (nes (y := []) rfl (va 2 rfl) de_str) rfl)) rfl de_non)))⟩
    · dsimp only
      rw [List.length_cons] at g2
      by_cases h2 : acc2.length ≤ 200
      · rw [if_pos h2]
        refine ⟨_, top (seq (ds_while cz.po hm) (ret (ife_t (dt_w (and_t (nes (y := []) rfl (va 2 rfl) de_str) rfl (dw_and1 (to (dt_cmpI rfl (de_len (b_len B.len) (vb 1 rfl) lz) de_int) (decide_eq_true (by omega)))))) rfl (de_tup (da_cons (DE.cast (d' := .str (mk acc2)) (joins (s := []) (ls := acc2.map fun c => [c]) (by rw [sum_sing, List.length_map]; show acc2.length + acc2.length * 0 ≤ _; omega) (cs rfl) (by rw [List.map_map]; exact vb 1 rfl)) (by rw [joinL_sing])) (da_cons (slf (l := 34 :: q) (i := 1) (by rw [List.length_cons]; omega) (va 2 rfl) de_int) da_nil)) (by show 2 ≤ sizeLine; decide)))))⟩
      · rw [if_neg h2]
        exact ⟨_, top (seq (ds_while cz.po hm) (ret (ife_f (dt_w (and_t (nes (y := []) rfl (va 2 rfl) de_str) rfl (dw_and1 (to (dt_cmpI rfl (de_len (b_len B.len) (vb 1 rfl) lz) de_int) (decide_eq_false (by omega)))))) rfl de_non)))⟩
end
end K01


set_option Elab.async false
set_option linter.all false
set_option maxRecDepth 100000
set_option maxHeartbeats 4000000
namespace K01
open PySem PySem.Spec PyProof.Rows L2 Dt
theorem mem_figL (x : List Nat) : decide (x ∈ ([48, 49, 50, 51, 52, 53, 54, 55, 56, 57] : List Nat).map fun c => [c]) = (match x with
    | [c] => isDig c
    | _ => false) := by
  match x with
  | [] => rfl
  | [c] =>
    have h := mem_figs c
    have e : ("0123456789" : Str).cps.toList = [48, 49, 50, 51, 52, 53, 54, 55, 56, 57] := rfl
    rw [e] at h
    show _ = isDig c
    rw [← h]
    exact decide_eq_decide.mpr (by
      rw [List.mem_map]
      exact ⟨fun ⟨a, h1, h2⟩ => by cases h2; exact h1, fun h => ⟨c, h, rfl⟩⟩)
  | _ :: _ :: _ =>
    refine decide_eq_false fun h => ?_
    obtain ⟨a, _, h2⟩ := List.mem_map.mp h
    cases h2
theorem bad_eq {neg : Bool} {c : Nat} {dr : List Nat} (h9 : ¬ 9 < (c :: dr).length) : numBad neg (c :: dr) = ((decide ([c] = [48]) && !decide (c :: dr = [48])) || (decide (c :: dr = [48]) && decide ((if neg = true then (1 : Int) else 0) = 1))) := by
  have e : (c :: dr).take 1 = [c] := rfl
  unfold numBad
  rw [decide_eq_false h9, e, decide_eq_false (show ¬ (c :: dr).length = 0 by rw [List.length_cons]; omega), Bool.false_or, Bool.false_or]
  by_cases h : c = 48
  · subst h
    cases dr with
    | nil => cases neg <;> decide
    | cons a b =>
      have h1 : ¬ (48 :: a :: b) = [48] := fun z => by cases z
      rw [decide_eq_false h1, decide_eq_true (show 1 < (48 :: a :: b).length by rw [List.length_cons, List.length_cons]; omega)]
      rfl
  · have h1 : ¬ [c] = [48] := fun z => h (List.cons.inj z).1
    have h2 : ¬ c :: dr = [48] := fun z => h (List.cons.inj z).1
    rw [decide_eq_false h1, decide_eq_false h2]
    rfl
section
variable {Pr : Program} {wo : World} {K : PySem.W.Frag} {mg : Str → Option Value} {base : Heap} {CB : Addr}
theorem tk_num {l : List Nat} (hl : l.length ≤ 50000) (B : Blts mg) {k : Nat} {f cdv A outer s H E} (cz : Cz (Xd Pr wo K mg base nTk "_law_take" sTk f cdv A outer s H E) (Wd0 E) k) :
    ∃ ρ', DSs (Xd Pr wo K mg base nTk "_law_take" sTk f cdv A outer s H E) (Wd0 E) ((defBody sTk).drop 4) [.v (.str (mk l)), .no, .no, .no, .no, .no, .no] (.ret (outU (tagI (numS l))) ρ') := by
  have hz : l.length ≤ 100000 := by omega
  obtain ⟨fi, hfi⟩ : ∃ fi : Nat, fi = if isNeg l = true then 1 else 0 := ⟨_, rfl⟩
  have fl : fi ≤ l.length := by
    rw [hfi]
    split
    · rename_i h
      exact take_len (of_decide_eq_true h) rfl
    · omega
  have hb : l.drop fi = numBody l := by
    unfold numBody
    rw [hfi]
    split <;> rfl
  have key : ∀ (s' : List Nat) (sz : Nat), l.drop (fi + sz) = s' → fi + sz ≤ l.length → ∃ n, WhR (Xd Pr wo K mg base nTk "_law_take" sTk f cdv A outer s H E) (Wd0 E) (wT (bodyAt sTk 6)) (wB (bodyAt sTk 6)) n
      [.v (.str (mk l)), .no, .no, .v (.int (sz : Int)), .v (.int (fi : Int)), .no, .no] (.next [.v (.str (mk l)), .no, .no, .v (.int ((sz + (digsOf s').length : Nat) : Int)), .v (.int (fi : Int)), .no, .no]) := by
    have tst : ∀ (sz : Nat) (b : Bool), (match (l.drop (fi + sz)).take 1 with
        | [c] => isDig c
        | _ => false) = b → DT (Xd Pr wo K mg base nTk "_law_take" sTk f cdv A outer s H E) (Wd0 E) (wT (bodyAt sTk 6)) [.v (.str (mk l)), .no, .no, .v (.int (sz : Int)), .v (.int (fi : Int)), .no, .no] b [.v (.str (mk l)), .no, .no, .v (.int (sz : Int)), .v (.int (fi : Int)), .no, .no] := fun sz b hb => by
      have e1 : (fi : Int) + (sz : Int) = ((fi + sz : Nat) : Int) := by omega
      refine to (dt_inL (ds := (([48, 49, 50, 51, 52, 53, 54, 55, 56, 57] : List Nat).map fun c => [c]).map fun y => D.str (mk y)) rfl (by decide) (sl1 (i := fi + sz) hz (va 0 rfl) (DE.cast (de_add (va 4 rfl) (va 3 rfl)) (congrArg D.int e1)) (de_add (DE.cast (de_add (va 4 rfl) (va 3 rfl)) (congrArg D.int e1)) de_int)) (de_still ?_)) (by rw [inF_str, mem_figL]; exact hb)
      rw [List.map_map]
      exact lcm (g := fun c => .str (mk [c])) 6 cz (di_strL (cs rfl)) (by decide) fun y hy s0 H0 C0 cl fp => va 6 rfl
    intro s'
    induction s' with
    | nil =>
      intro sz h hs
      exact ⟨0, .done (tst sz false (by rw [h]; rfl))⟩
    | cons c r ih =>
      intro sz h hs
      have hlt := drop_lt h
      by_cases hd : isDig c = true
      · obtain ⟨n, hn⟩ := ih (sz + 1) (drop_succ h) (by omega)
        have e0 : digsOf (c :: r) = c :: digsOf r := if_pos hd
        have e1 : sz + (digsOf (c :: r)).length = sz + 1 + (digsOf r).length := by rw [e0, List.length_cons]; omega
        rw [e1]
        exact ⟨n + 1, .turn (tst sz true (by rw [h]; exact hd)) (dss1 (st 3 cz (DE.cast (de_add (va 3 rfl) de_int) (congrArg D.int (show (sz : Int) + 1 = ((sz + 1 : Nat) : Int) by omega))))) hn⟩
      · have e0 : digsOf (c :: r) = [] := if_neg hd
        rw [e0]
        exact ⟨0, .done (tst sz false (by rw [h]; simpa using hd))⟩
  obtain ⟨n, hn⟩ := key (numBody l) 0 (by rw [Nat.add_zero]; exact hb) (by omega)
  rw [Nat.zero_add] at hn
  have hsplit : l.drop fi = digsOf (numBody l) ++ restOf (numBody l) := by rw [hb, digs_rest]
  have dall := digs_all (numBody l)
  have hrest : l.drop (fi + (digsOf (numBody l)).length) = restOf (numBody l) := by
    rw [← List.drop_drop, hsplit, List.drop_left]
  have hsz : fi + (digsOf (numBody l)).length ≤ l.length := by
    have := congrArg List.length hsplit
    rw [List.length_drop, List.length_append] at this
    omega
  have hfg : (l.drop fi).take (fi + (digsOf (numBody l)).length - fi) = digsOf (numBody l) := by
    rw [hsplit, Nat.add_sub_cancel_left, List.take_left]
  unfold numS
  generalize digsOf (numBody l) = ds at hn hsplit dall hrest hsz hfg ⊢
  generalize restOf (numBody l) = rs at hsplit hrest ⊢
  have e2 : (fi : Int) + ((ds.length : Nat) : Int) = ((fi + ds.length : Nat) : Int) := by omega
  have top : ∀ {o : Oc}, DSs (Xd Pr wo K mg base nTk "_law_take" sTk f cdv A outer s H E) (Wd0 E) ((defBody sTk).drop 8) [.v (.str (mk l)), .no, .no, .v (.int ((ds.length : Nat) : Int)), .v (.int (fi : Int)), .v (.str (mk ds)), .no] o →
      DSs (Xd Pr wo K mg base nTk "_law_take" sTk f cdv A outer s H E) (Wd0 E) ((defBody sTk).drop 4) [.v (.str (mk l)), .no, .no, .no, .no, .no, .no] o := fun {o} h => by
    refine seq (st 3 cz de_int) (seq (st 4 cz (ρ1 := [.v (.str (mk l)), .no, .no, .v (.int ((0 : Nat) : Int)), .no, .no, .no]) (d := .int (fi : Int)) ?_) (seq (ds_while cz.po hn) (seq (st 5 cz (DE.cast (sl2 (i := fi) (j := fi + ds.length) hz (va 0 rfl) (va 4 rfl) (DE.cast (de_add (va 4 rfl) (va 3 rfl)) (congrArg D.int e2))) (by rw [hfg]))) h)))
    rw [hfi]
    by_cases hg : isNeg l = true
    · rw [if_pos hg]
      exact ife_t (eqs (y := [45]) rfl (slt (j := 1) hz (va 0 rfl) de_int) de_str) hg de_int
    · rw [if_neg hg]
      exact ife_f (eqs (y := [45]) rfl (slt (j := 1) hz (va 0 rfl) de_int) de_str) (by simpa [isNeg] using hg) de_int
  by_cases h0 : ds.length = 0
  · have bad : numBad (isNeg l) ds = true := by unfold numBad; rw [decide_eq_true h0]; rfl
    rw [if_pos bad]
    exact ⟨_, top (if_r (dt_w (or_t (dt_cmpI rfl (va 3 rfl) de_int) (decide_eq_true (by omega)))) rfl de_non)⟩
  · by_cases h9 : 9 < ds.length
    · have bad : numBad (isNeg l) ds = true := by unfold numBad; rw [decide_eq_true h9, Bool.or_true]; rfl
      rw [if_pos bad]
      exact ⟨_, top (if_r (dt_w (or_f (dt_cmpI rfl (va 3 rfl) de_int) (decide_eq_false (by omega)) (or_t (dt_cmpI rfl (va 3 rfl) de_int) (decide_eq_true (by omega))))) rfl de_non)⟩
    · obtain ⟨c, dr, hds⟩ : ∃ c dr, ds = c :: dr := by
        cases ds with
        | nil => exact absurd rfl h0
        | cons c dr => exact ⟨c, dr, rfl⟩
      have dz : ds.length ≤ 100000 := by omega
      have hg : ds[0]? = some c := by rw [hds]; rfl
      have e0 : numBad (isNeg l) ds = ((decide ([c] = [48]) && !decide (ds = [48])) || (decide (ds = [48]) && decide ((fi : Int) = 1))) := by
        rw [hds] at h9 ⊢
        rw [bad_eq h9, hfi]
        congr 2
        exact decide_eq_decide.mpr (by split <;> omega)
      by_cases bad : numBad (isNeg l) ds = true
      · rw [if_pos bad]
        rw [e0] at bad
        exact ⟨_, top (if_r (dt_w (or_f (dt_cmpI rfl (va 3 rfl) de_int) (decide_eq_false (by omega)) (or_f (dt_cmpI rfl (va 3 rfl) de_int) (decide_eq_false (by omega)) (dw_or (dt_w (dw_and (eqs (y := [48]) rfl (ixs (i := 0) dz hg (va 5 rfl) de_int) de_str) fun _ => dw_and1 (nes (y := [48]) rfl (va 5 rfl) de_str))) fun _ => dw_or1 (dt_w (dw_and (eqs (y := [48]) rfl (va 5 rfl) de_str) fun _ => dw_and1 (dt_cmpI rfl (va 4 rfl) de_int))))))) bad de_non)⟩
      · rw [if_neg bad]
        have bad : numBad (isNeg l) ds = false := by simpa using bad
        rw [e0] at bad
        have it : PySem.intText? (mk ds) = some ((NumText.digitsVal ds : Nat) : Int) := intText_digits dall (by rw [hds]; exact fun z => nomatch z) (by show ds.length ≤ 4300; omega)
        have ev : numVal (isNeg l) ds = ((NumText.digitsVal ds : Nat) : Int) * (1 - 2 * (fi : Int)) := by
          unfold numVal
          rw [hfi]
          split
          · show _ = _ * (1 - 2 * (1 : Int))
            omega
          · show _ = _ * (1 - 2 * (0 : Int))
            omega
        have f1 : fi ≤ 1 := by rw [hfi]; split <;> omega
        show ∃ ρ', DSs _ _ _ _ (.ret (.tup [.int (numVal (isNeg l) ds), .str (mk rs)]) ρ')
        rw [ev, ← hrest]
        exact ⟨_, top (if_n (dt_w (or_f (dt_cmpI rfl (va 3 rfl) de_int) (decide_eq_false (by omega)) (or_f (dt_cmpI rfl (va 3 rfl) de_int) (decide_eq_false (by omega)) (dw_or (dt_w (dw_and (eqs (y := [48]) rfl (ixs (i := 0) dz hg (va 5 rfl) de_int) de_str) fun _ => dw_and1 (nes (y := [48]) rfl (va 5 rfl) de_str))) fun _ => dw_or1 (dt_w (dw_and (eqs (y := [48]) rfl (va 5 rfl) de_str) fun _ => dw_and1 (dt_cmpI rfl (va 4 rfl) de_int))))))) bad
          (ret (de_tup (da_cons (de_mul (.inr ⟨by omega, by omega⟩) (de_intS it (by show ds.length ≤ 640; omega) (b_int B.int) (va 5 rfl)) (de_sub de_int (de_mul (.inl (by decide)) de_int (va 4 rfl)))) (da_cons (slf (i := fi + ds.length) hz (va 0 rfl) (DE.cast (de_add (va 4 rfl) (va 3 rfl)) (congrArg D.int e2))) da_nil)) (by show 2 ≤ sizeLine; decide))))⟩
end
end K01


set_option Elab.async false
set_option linter.all false
set_option maxRecDepth 100000
set_option maxHeartbeats 4000000
namespace K01
open PySem PySem.Spec PyProof.Rows L2 Dt
theorem single_br {s : List Nat} (h : s.take 1 = [91]) : singleS s = none := by
  cases s with
  | nil => cases h
  | cons c r =>
    have : c = 91 := (List.cons.inj h).1
    subst this
    unfold singleS
    rw [if_neg (by exact fun z => by cases z), if_neg (by
      intro z
      have := (List.cons.inj z).1
      exact absurd this (by decide)), if_neg (by
      intro z
      have := (List.cons.inj z).1
      exact absurd this (by decide))]
    have e1 : isNeg (91 :: r) = false := rfl
    have e2 : numBody (91 :: r) = 91 :: r := if_neg (by rw [e1]; exact Bool.false_ne_true)
    have e3 : digsOf (91 :: r) = [] := if_neg (by decide)
    unfold numS
    rw [e1, e2, e3, if_pos (by rfl)]
    rfl
theorem items_br {n : Nat} {s : List Nat} {acc : List D} (h : s.take 1 = [91]) : itemsS n s acc = none := by
  cases n with
  | zero => rfl
  | succ n =>
    unfold itemsS
    rw [single_br h]
section
variable {Pr : Program} {wo : World} {K : PySem.W.Frag} {mg : Str → Option Value} {base : Heap} {CB : Addr}
theorem tk_single {l : List Nat} (hl : l.length ≤ 50000) (B : Blts mg) {k : Nat} {f cdv A outer s H E} (cz : Cz (Xd Pr wo K mg base nTk "_law_take" sTk f cdv A outer s H E) (Wd0 E) k) (h0 : ¬ l.take 1 = [91]) :
    ∃ ρ', DSs (Xd Pr wo K mg base nTk "_law_take" sTk f cdv A outer s H E) (Wd0 E) (defBody sTk) [.v (.str (mk l)), .no, .no, .no, .no, .no, .no] (.ret (outU (singleS l)) ρ') := by
  have hz : l.length ≤ 100000 := by omega
  unfold singleS
  by_cases h1 : l.take 1 = [34]
  · rw [if_pos h1]
    obtain ⟨ρ', h⟩ := tk_text (Pr := Pr) (wo := wo) hl B cz h1
    exact ⟨ρ', if_n (eqs (y := [91]) rfl (slt (j := 1) hz (va 0 rfl) de_int) de_str) (decide_eq_false h0) (if_t (eqs (y := [34]) rfl (slt (j := 1) hz (va 0 rfl) de_int) de_str) (decide_eq_true h1) h rfl)⟩
  · rw [if_neg h1]
    by_cases h2 : l.take 3 = [121, 101, 115]
    · rw [if_pos h2]
      exact ⟨_, if_n (eqs (y := [91]) rfl (slt (j := 1) hz (va 0 rfl) de_int) de_str) (decide_eq_false h0) (if_n (eqs (y := [34]) rfl (slt (j := 1) hz (va 0 rfl) de_int) de_str) (decide_eq_false h1)
        (if_r (eqs (y := [121, 101, 115]) rfl (slt (j := 3) hz (va 0 rfl) de_int) de_str) (decide_eq_true h2) (de_tup (da_cons de_bl (da_cons (slf (i := 3) hz (va 0 rfl) de_int) da_nil)) (by show 2 ≤ sizeLine; decide))))⟩
    · rw [if_neg h2]
      by_cases h3 : l.take 2 = [110, 111]
      · rw [if_pos h3]
        exact ⟨_, if_n (eqs (y := [91]) rfl (slt (j := 1) hz (va 0 rfl) de_int) de_str) (decide_eq_false h0) (if_n (eqs (y := [34]) rfl (slt (j := 1) hz (va 0 rfl) de_int) de_str) (decide_eq_false h1)
          (if_n (eqs (y := [121, 101, 115]) rfl (slt (j := 3) hz (va 0 rfl) de_int) de_str) (decide_eq_false h2) (if_r (eqs (y := [110, 111]) rfl (slt (j := 2) hz (va 0 rfl) de_int) de_str) (decide_eq_true h3) (de_tup (da_cons de_bl (da_cons (slf (i := 2) hz (va 0 rfl) de_int) da_nil)) (by show 2 ≤ sizeLine; decide)))))⟩
      · rw [if_neg h3]
        obtain ⟨ρ', h⟩ := tk_num (Pr := Pr) (wo := wo) hl B cz
        exact ⟨ρ', if_n (eqs (y := [91]) rfl (slt (j := 1) hz (va 0 rfl) de_int) de_str) (decide_eq_false h0) (if_n (eqs (y := [34]) rfl (slt (j := 1) hz (va 0 rfl) de_int) de_str) (decide_eq_false h1)
          (if_n (eqs (y := [121, 101, 115]) rfl (slt (j := 3) hz (va 0 rfl) de_int) de_str) (decide_eq_false h2) (if_n (eqs (y := [110, 111]) rfl (slt (j := 2) hz (va 0 rfl) de_int) de_str) (decide_eq_false h3) h)))⟩
def c_take1 : Con := fun ps r os => ∃ l : List Nat, l.length ≤ 50000 ∧ ¬ l.take 1 = [91] ∧ ps = [.v (.str (mk l))] ∧ r = .ret (outU (singleS l)) ∧ os = []
def c_tlist : Con := fun ps r os => ∃ l : List Nat, l.length ≤ 50000 ∧ ps = [.v (.str (mk l))] ∧ r = .ret (outU (listS l)) ∧ os = []
def c_take : Con := fun ps r os => ∃ l : List Nat, l.length ≤ 50000 ∧ ps = [.v (.str (mk l))] ∧ r = .ret (outU (valueS l)) ∧ os = []
theorem ok_take1 (F : DefAt K mg "_law_take" sTk ["text"]) (B : Blts mg) : FnAt Pr wo K mg base "_law_take" 1 ["text"] c_take1 := by
  refine fnAt (n := 6) F sc_tk (fun qs r os h => by obtain ⟨l, _, _, rfl, _⟩ := h; rfl) rfl fun f cdv A outer s H E cz qs r os h => ?_
  obtain ⟨l, hl, h0, rfl, rfl, rfl⟩ := h
  obtain ⟨ρ', h⟩ := tk_single (Pr := Pr) (wo := wo) hl B cz h0
  exact ⟨_, h, .ret rfl⟩
section
variable {X : Cx} {W : WX} {ρ ρ1 : List S} {o : Expr} {apos cpos : Pos} {l : List Nat} {z : Str} {j : Nat} {p : Pos}
theorem lstr (hz : z = mk [32]) (hl : l.length ≤ 100000) (ho : DE X W o ρ (.val (.str (mk l)) ρ1)) (hbase : attributeBase o "lstrip" X.env (eval o X.env) = eval o X.env := by rfl)
    (hfew : ((backTo cpos (starEach [.Constant (.str z) j p] X.env)).all (fun x => !x.1) && (backToKw cpos (keywordEach [] X.env)).all (fun x => x.1.isSome)
      && decide (([.Constant (.str z) j p] : List Expr).length + ([] : List Keyword).length + (if ([] : List Keyword).isEmpty then 0 else 1) < 30)) = true := by rfl)
    (hline : (apos.endLine == cpos.line) = true := by rfl) (hs : starEach [.Constant (.str z) j p] X.env = (false, eval (.Constant (.str z) j p) X.env) :: starEach [] X.env := by rfl) :
    DE X W (.Call (.Attribute o "lstrip" apos) [.Constant (.str z) j p] [] cpos) ρ (.val (.str (mk (skipB l))) ρ1) := by
  subst hz
  rw [← lstrip_mk]
  exact de_lstripC (szL hl) ho de_str hbase hfew hline hs
end
theorem skip_len (s : List Nat) : (skipB s).length ≤ s.length := (skipB_suf s).length_le
abbrev sTl : Stmt := topS 47
theorem sc_tl : FnScope ["left", "items", "one"] ["left"] (defScope sTl) := ⟨rfl, rfl, rfl, by decide +kernel, rfl, by decide +kernel, by decide +kernel⟩
theorem ok_tlist (F : DefAt K mg "_law_take_list" sTl ["left"]) (B : Blts mg) (G : FnAt Pr wo K mg base "_law_take" 1 ["text"] c_take1) : FnAt Pr wo K mg base "_law_take_list" 2 ["left"] c_tlist := by
  refine fnAt (n := 2) F sc_tl (fun qs r os h => by obtain ⟨l, _, rfl, _⟩ := h; rfl) rfl fun f cdv A outer s H E cz qs r os h => ?_
  obtain ⟨l, hl, rfl, rfl, rfl⟩ := h
  have hz : l.length ≤ 100000 := by omega
  have key : ∀ (n : Nat) (acc : List D) (l : List Nat) (r1 : S), l.length ≤ 50000 → acc.length + n = 20 →
      ∃ o, DSs (Xd Pr wo K mg base ["left", "items", "one"] "_law_take_list" sTl f cdv A outer s H E) (Wd0 E) ((defBody sTl).drop 2) [.v (.str (mk l)), .own none (.lst acc), r1] (.ret (outU (tagL (itemsS n l acc))) o) := by
    have goto : ∀ {m : Nat} {ρ : List S} {d : D} {ρ' : List S}, WhR (Xd Pr wo K mg base ["left", "items", "one"] "_law_take_list" sTl f cdv A outer s H E) (Wd0 E) (wT (bodyAt sTl 2)) (wB (bodyAt sTl 2)) m ρ (.ret d ρ') → DSs (Xd Pr wo K mg base ["left", "items", "one"] "_law_take_list" sTl f cdv A outer s H E) (Wd0 E) ((defBody sTl).drop 2) ρ (.ret d ρ') := fun {m ρ d ρ'} h => dss (ds_while cz.po h) rfl
    have key2 : ∀ (n : Nat) (acc : List D) (l : List Nat) (r1 : S), l.length ≤ 50000 → acc.length + n = 20 →
        (∃ m ρ', WhR (Xd Pr wo K mg base ["left", "items", "one"] "_law_take_list" sTl f cdv A outer s H E) (Wd0 E) (wT (bodyAt sTl 2)) (wB (bodyAt sTl 2)) m [.v (.str (mk l)), .own none (.lst acc), r1] (.ret (outU (tagL (itemsS n l acc))) ρ')) ∨
        (itemsS n l acc = none ∧ ∃ m ρ', WhR (Xd Pr wo K mg base ["left", "items", "one"] "_law_take_list" sTl f cdv A outer s H E) (Wd0 E) (wT (bodyAt sTl 2)) (wB (bodyAt sTl 2)) m [.v (.str (mk l)), .own none (.lst acc), r1] (.next ρ')) := by
      intro n
      induction n with
      | zero =>
        intro acc l r1 hl hn
        have hz : l.length ≤ 100000 := by omega
        by_cases h0 : l.take 1 = [91]
        · exact .inr ⟨items_br h0, 0, _, .done (to (nes (y := [91]) rfl (slt (j := 1) hz (va 0 rfl) de_int) de_str) (by rw [h0]; rfl))⟩
        · refine .inl ⟨0, _, .ret (to (nes (y := [91]) rfl (slt (j := 1) hz (va 0 rfl) de_int) de_str) (by rw [decide_eq_false h0]; rfl)) (seq (st 2 cz (de_callV cz G (by decide) (da_cons (va 0 rfl) da_nil) ⟨l, hl, h0, rfl, rfl, rfl⟩)) (if_r (dt_w (dw_or (dt_isN (va 2 rfl)) fun _ => dw_or1 (dt_cmpI rfl (de_len (b_len B.len) (vb 1 rfl) rfl) de_int))) ?_ de_non))⟩
          have : decide (((acc.length : Nat) : Int) = 20) = true := decide_eq_true (by omega)
          rw [this, Bool.or_true]
      | succ n ih =>
        intro acc l r1 hl hn
        have hz : l.length ≤ 100000 := by omega
        by_cases h0 : l.take 1 = [91]
        · exact .inr ⟨items_br h0, 0, _, .done (to (nes (y := [91]) rfl (slt (j := 1) hz (va 0 rfl) de_int) de_str) (by rw [h0]; rfl))⟩
        · have tst : DT (Xd Pr wo K mg base ["left", "items", "one"] "_law_take_list" sTl f cdv A outer s H E) (Wd0 E) (wT (bodyAt sTl 2)) [.v (.str (mk l)), .own none (.lst acc), r1] true [.v (.str (mk l)), .own none (.lst acc), r1] :=
            to (nes (y := [91]) rfl (slt (j := 1) hz (va 0 rfl) de_int) de_str) (by rw [decide_eq_false h0]; rfl)
          have st1 : ∀ {o : Oc}, DSs (Xd Pr wo K mg base ["left", "items", "one"] "_law_take_list" sTl f cdv A outer s H E) (Wd0 E) ((wB (bodyAt sTl 2)).drop 1) [.v (.str (mk l)), .own none (.lst acc), .v (outU (singleS l))] o →
              DSs (Xd Pr wo K mg base ["left", "items", "one"] "_law_take_list" sTl f cdv A outer s H E) (Wd0 E) (wB (bodyAt sTl 2)) [.v (.str (mk l)), .own none (.lst acc), r1] o := fun {o} h =>
            seq (st 2 cz (de_callV cz G (by decide) (da_cons (va 0 rfl) da_nil) ⟨l, hl, h0, rfl, rfl, rfl⟩)) h
          unfold itemsS
          cases h1 : singleS l with
          | none =>
            rw [h1] at st1
            exact .inl ⟨0, _, .ret tst (st1 (if_r (dt_w (or_t (dt_isN (va 2 rfl)) rfl)) rfl de_non))⟩
          | some p =>
            obtain ⟨d, q⟩ := p
            rw [h1] at st1
            have lq := (singleS_suf h1).1.length_le
            have ls := skip_len q
            have nf : decide (((acc.length : Nat) : Int) = 20) = false := decide_eq_false (by omega)
            have sz : (skipB q).length ≤ 100000 := by omega
            dsimp only
            have st2 : ∀ {o : Oc}, DSs (Xd Pr wo K mg base ["left", "items", "one"] "_law_take_list" sTl f cdv A outer s H E) (Wd0 E) ((wB (bodyAt sTl 2)).drop 4) [.v (.str (mk (skipB q))), .own none (.lst (acc ++ [d])), .v (outU (some (d, q)))] o →
                DSs (Xd Pr wo K mg base ["left", "items", "one"] "_law_take_list" sTl f cdv A outer s H E) (Wd0 E) (wB (bodyAt sTl 2)) [.v (.str (mk l)), .own none (.lst acc), r1] o := fun {o} h2 =>
              st1 (if_n (dt_w (or_f (dt_isN (va 2 rfl)) rfl (dw_or1 (dt_cmpI rfl (de_len (b_len B.len) (vb 1 rfl) rfl) de_int)))) nf (seq (ds_append (i := 1) rfl (.inl rfl) (de_ix (va 2 rfl) de_int rfl) rfl ⟨_, _, rfl⟩ (Nat.lt_of_le_of_lt (show acc.length ≤ 20 by omega) (by decide)))
                (seq (st 0 cz (lstr (l := q) rfl (by omega) (de_ix (va 2 rfl) de_int rfl))) h2)))
            by_cases h2 : (skipB q).take 1 = [93]
            · rw [if_pos h2]
              exact .inl ⟨0, _, .ret tst (st2 (if_r (eqs (y := [93]) rfl (slt (j := 1) sz (va 0 rfl) de_int) de_str) (decide_eq_true h2) (de_tup (da_cons (vf 1 rfl) (da_cons (slf (i := 1) sz (va 0 rfl) de_int) da_nil)) (by show 2 ≤ sizeLine; decide))))⟩
            · rw [if_neg h2]
              by_cases h3 : (skipB q).take 1 = [44]
              · rw [if_pos h3]
                have ld : ((skipB q).drop 1).length ≤ 50000 := by rw [List.length_drop]; omega
                have lk := skip_len ((skipB q).drop 1)
                have bd : DSs (Xd Pr wo K mg base ["left", "items", "one"] "_law_take_list" sTl f cdv A outer s H E) (Wd0 E) (wB (bodyAt sTl 2)) [.v (.str (mk l)), .own none (.lst acc), r1] (.next [.v (.str (mk (skipB ((skipB q).drop 1)))), .own none (.lst (acc ++ [d])), .v (outU (some (d, q)))]) :=
                  st2 (if_n (eqs (y := [93]) rfl (slt (j := 1) sz (va 0 rfl) de_int) de_str) (decide_eq_false h2) (if_n (nes (y := [44]) rfl (slt (j := 1) sz (va 0 rfl) de_int) de_str) (by rw [h3]; rfl) (dss1 (st 0 cz (lstr (l := (skipB q).drop 1) rfl (by omega) (slf (i := 1) sz (va 0 rfl) de_int))))))
                rcases ih (acc ++ [d]) (skipB ((skipB q).drop 1)) (.v (outU (some (d, q)))) (by omega) (by rw [List.length_append, List.length_singleton]; omega) with ⟨m, ρ', hm⟩ | ⟨e, m, ρ', hm⟩
                · exact .inl ⟨m + 1, ρ', .turn tst bd hm⟩
                · exact .inr ⟨e, m + 1, ρ', .turn tst bd hm⟩
              · rw [if_neg h3]
                exact .inl ⟨0, _, .ret tst (st2 (if_n (eqs (y := [93]) rfl (slt (j := 1) sz (va 0 rfl) de_int) de_str) (decide_eq_false h2) (if_r (nes (y := [44]) rfl (slt (j := 1) sz (va 0 rfl) de_int) de_str) (by rw [decide_eq_false h3]; rfl) de_non)))⟩
    intro n acc l r1 hl hn
    rcases key2 n acc l r1 hl hn with ⟨m, ρ', hm⟩ | ⟨e, m, ρ', hm⟩
    · exact ⟨_, goto hm⟩
    · rw [e]
      exact ⟨_, seq (ds_while cz.po hm) (ret de_non)⟩
  unfold listS
  by_cases h2 : l.take 1 = [93]
  · rw [if_pos h2]
    exact ⟨_, seq (sto 1 cz (de_lst da_nil (by show 0 ≤ sizeLine; decide))) (if_r (eqs (y := [93]) rfl (slt (j := 1) hz (va 0 rfl) de_int) de_str) (decide_eq_true h2) (de_tup (da_cons (vf 1 rfl) (da_cons (slf (i := 1) hz (va 0 rfl) de_int) da_nil)) (by show 2 ≤ sizeLine; decide))), .ret rfl⟩
  · rw [if_neg h2]
    obtain ⟨o, h⟩ := key 20 [] l .no hl rfl
    exact ⟨_, seq (sto 1 cz (de_lst da_nil (by show 0 ≤ sizeLine; decide))) (if_n (eqs (y := [93]) rfl (slt (j := 1) hz (va 0 rfl) de_int) de_str) (decide_eq_false h2) h), .ret rfl⟩
theorem ok_take (F : DefAt K mg "_law_take" sTk ["text"]) (B : Blts mg) (G : FnAt Pr wo K mg base "_law_take_list" 2 ["left"] c_tlist) : FnAt Pr wo K mg base "_law_take" 3 ["text"] c_take := by
  refine fnAt (n := 6) F sc_tk (fun qs r os h => by obtain ⟨l, _, rfl, _⟩ := h; rfl) rfl fun f cdv A outer s H E cz qs r os h => ?_
  obtain ⟨l, hl, rfl, rfl, rfl⟩ := h
  have hz : l.length ≤ 100000 := by omega
  unfold valueS
  by_cases h0 : l.take 1 = [91]
  · rw [if_pos h0]
    have lk := skip_len (l.drop 1)
    rw [List.length_drop] at lk
    exact ⟨_, if_r (eqs (y := [91]) rfl (slt (j := 1) hz (va 0 rfl) de_int) de_str) (decide_eq_true h0) (de_callV cz G (by decide) (da_cons (lstr (l := l.drop 1) rfl (by rw [List.length_drop]; omega) (slf (i := 1) hz (va 0 rfl) de_int)) da_nil) ⟨skipB (l.drop 1), by omega, rfl, rfl, rfl⟩), .ret rfl⟩
  · rw [if_neg h0]
    obtain ⟨ρ', h⟩ := tk_single (Pr := Pr) (wo := wo) hl B cz h0
    exact ⟨_, h, .ret rfl⟩
end
end K01


set_option Elab.async false
set_option linter.all false
set_option maxRecDepth 100000
set_option maxHeartbeats 4000000
namespace K01
open PySem PySem.Spec PyProof.Rows L2 Dt
/-- is an error of the class CB one of the class that the module calls x? -/
def Isn (K : PySem.W.Frag) (mg : Str → Option Value) (CB : Addr) (x : Str) (b : Bool) : Prop := ∃ E, mg x = some (.ref E) ∧ PySem.W.kitOne K (.ref CB) (.ref E) = some b
structure Errs (K : PySem.W.Frag) (mg : Str → Option Value) (CB : Addr) : Prop where
  exc : ExcC K CB
  fault : Isn K mg CB "Fault" false
  bval : Isn K mg CB "BadValue" true
  bpath : Isn K mg CB "BadPath" false
  nopath : Isn K mg CB "NoPath" false
  twice : Isn K mg CB "Twice" false
  wkind : Isn K mg CB "WrongKind" false
  bwish : Isn K mg CB "BadWish" false
  ring : Isn K mg CB "Ring" false
  bfill : Isn K mg CB "BadFill" false
  bdeed : Isn K mg CB "BadDeed" false
  noth : Isn K mg CB "Nothing" false
  verr : PySem.W.kitOne K (.ref CB) (.type "ValueError") = some true
  sett : ∃ E, mg "SettingError" = some (.ref E) ∧ PySem.W.exmOne K (.ref CB) (.ref E) = some true
section
variable {X : Cx} {W : WX} {ρ ρ1 : List S} {a : Expr} {p p2 pos : Pos} {x : Str} {b : Bool} {CB : Addr}
theorem isx (C : ExcC X.K CB) (h : Isn X.K X.mg CB x b) (m : X.mg "isinstance" = none) (ha : DE X W a ρ (.val (.exc CB) ρ1)) (g : Gl X "isinstance" := by rfl) (hg : Gl X x := by rfl)
    (he : starEach [a, .Name x p2] X.env = (false, eval a X.env) :: starEach [.Name x p2] X.env := by rfl) (hd : (x == ("__debug__" : Str)) = false := by decide) :
    DE X W (.Call (.Name "isinstance" p) [a, .Name x p2] [] pos) ρ (.val (.bl b) ρ1) := by
  obtain ⟨E, h1, h2⟩ := h
  exact de_isiO C h2 (b_isi m g) hg h1 ha he hd
theorem stx (i : Nat) {e : Expr} {pos' : Pos} {C : Addr} {k : Nat} (cz : Cz X W k) (h : DE X W e ρ (.exc C ρ1)) (hi : X.N[i]? = some x := by rfl) (hx : Loc X.env.scope x := by first | exact Or.inl rfl | exact Or.inr rfl) (hs : swapsWith e (some (.Name x pos')) pos.line X.env = pure false := by rfl) (hf : X.fn x = true ∨ X.env.scope.names.lookup x = some .local := by first | exact .inl rfl | exact .inr rfl) :
    DS X W (.Assign [.Name x pos'] e pos) ρ (.exc C ρ1) := ds_setX cz.nd hi hx h hs hf
end
section
variable {Pr : Program} {wo : World} {K : PySem.W.Frag} {mg : Str → Option Value} {base : Heap} {CB : Addr}
abbrev sRef : Stmt := topS 40
theorem sc_ref : FnScope ["caught", "kinds", "words"] ["caught"] (defScope sRef) := ⟨rfl, rfl, rfl, by decide +kernel, rfl, by decide +kernel, by decide +kernel⟩
def refu : D := .tup [.str (mk [114, 101, 102, 117, 115, 101, 100]), .str (mk [118, 97, 108, 117, 101])]
def c_ref (CB : Addr) : Con := fun ps r os => ps = [.v (.exc CB)] ∧ r = .ret refu ∧ os = []
theorem ok_ref (F : DefAt K mg "_law_refusal" sRef ["caught"]) (B : Blts mg) (R : Errs K mg CB) : FnAt Pr wo K mg base "_law_refusal" 1 ["caught"] (c_ref CB) := by
  refine fnAt (n := 2) F sc_ref (fun qs r os h => by obtain ⟨rfl, _⟩ := h; rfl) rfl fun f cdv A outer s H E cz qs r os h => ?_
  obtain ⟨rfl, rfl, rfl⟩ := h
  refine ⟨_, if_n (dt_isN (va 0 rfl)) rfl (if_n (tb (isx R.exc R.fault B.isi (va 0 rfl))) rfl
    (seq (sto 1 cz (de_lst (da_cons (isx R.exc R.bval B.isi (va 0 rfl)) (da_cons (isx R.exc R.bpath B.isi (va 0 rfl)) (da_cons (isx R.exc R.nopath B.isi (va 0 rfl)) da_nil))) (by show 3 ≤ sizeLine; decide)))
    (seq (sto 1 cz (de_cat (by show 3 + 3 ≤ sizeLine; decide) (vf 1 rfl) (de_still (de_lst (da_cons (isx R.exc R.twice B.isi (va 0 rfl)) (da_cons (isx R.exc R.wkind B.isi (va 0 rfl)) (da_cons (isx R.exc R.bwish B.isi (va 0 rfl)) da_nil))) (by show 3 ≤ sizeLine; decide)))))
    (seq (sto 1 cz (de_cat (by show 6 + 3 ≤ sizeLine; decide) (vf 1 rfl) (de_still (de_lst (da_cons (isx R.exc R.ring B.isi (va 0 rfl)) (da_cons (isx R.exc R.bfill B.isi (va 0 rfl)) (da_cons (isx R.exc R.bdeed B.isi (va 0 rfl)) da_nil))) (by show 3 ≤ sizeLine; decide)))))
    (seq (ds_append (i := 1) rfl (.inl rfl) (isx R.exc R.noth B.isi (va 0 rfl)) rfl ⟨_, _, rfl⟩ (by show 9 < sizeLine; decide))
    (if_n (dt_w (or_f (dt_cmpI rfl (de_cntB rfl (vb 1 rfl)) de_int) (by decide) (dw_or1 (dt_not (tb (de_isiV R.exc R.verr (b_isi B.isi) (b_verr B.verr) (va 0 rfl))))))) rfl
    (seq (st 2 cz (de_still (de_lst (da_cons (cs rfl) (da_cons (cs rfl) (da_cons (cs rfl) (da_cons (cs rfl) (da_cons (cs rfl) (da_cons (cs rfl) (da_cons (cs rfl) (da_cons (cs rfl) (da_cons (cs rfl) (da_cons (cs rfl) da_nil)))))))))) (by show 10 ≤ sizeLine; decide))))
    (ret (de_tup (da_cons (cs (y := [114, 101, 102, 117, 115, 101, 100]) rfl) (da_cons (de_ix (va 2 rfl) (de_idxB (n := 0) rfl (by decide) (vb 1 rfl)) rfl) da_nil)) (by show 2 ≤ sizeLine; decide)))))))))), .ret rfl⟩
end
end K01


set_option Elab.async false
set_option linter.all false
set_option maxRecDepth 100000
set_option maxHeartbeats 4000000
namespace K01
open PySem PySem.Spec PyProof.Rows L2 Dt
def sFound : Str := mk [102, 111, 117, 110, 100]
def toldR : Option D → D
  | some d => .tup [.str sFound, d]
  | none => refu
def tOc (CB : Addr) (w : Int) (d : D) : Option D → Oc
  | some x => .next [.v (.int w), .v d, .v .non, .v x, .no]
  | none => .exc CB [.v (.int w), .v d, .v .non, .v .non, .no]
def kindO (d : D) : Option D := if isValueD d = true then some (.str (kindD d)) else none
def textO (d : D) : Option D := if isValueD d = true then some (.str (mk (textD d))) else none
section
variable {Pr : Program} {wo : World} {K : PySem.W.Frag} {mg : Str → Option Value} {base : Heap} {CB : Addr}
abbrev sTold : Stmt := topS 48
abbrev nTold : List Str := ["which", "thing", "caught", "found", "e"]
theorem sc_told : FnScope nTold ["which", "thing"] (defScope sTold) := ⟨rfl, rfl, rfl, by decide +kernel, rfl, by decide +kernel, by decide +kernel⟩
def tryB : Stmt → List Stmt
  | .Try b _ _ _ _ => b
  | _ => []
/-- what is asked, what comes of it -/
inductive Ask : Int → D → Option D → Prop
  | kind {d : D} : dat d = true → Ask 0 d (kindO d)
  | text {d : D} : dat d = true → Ask 1 d (textO d)
  | read {l : List Nat} : l.length ≤ 50000 → Ask 2 (.str (mk l)) (readS l)
def c_told : Con := fun ps r os => ∃ w d o, Ask w d o ∧ ps = [.v (.int w), .v d] ∧ r = .ret (toldR o) ∧ os = []
theorem ok_told (F : DefAt K mg "_law_told" sTold ["which", "thing"]) (R : Errs K mg CB) (GK : FnAt Pr wo K mg base "kind" 6 ["value"] (c_kind CB)) (GT : FnAt Pr wo K mg base "value_text" 6 ["value"] (c_vt CB)) (GR : FnAt Pr wo K mg base "read_value" 4 ["text"] (c_rv CB)) (GE : FnAt Pr wo K mg base "_law_refusal" 1 ["caught"] (c_ref CB)) :
    FnAt Pr wo K mg base "_law_told" 7 ["which", "thing"] c_told := by
  refine fnAt (n := 3) F sc_told (fun qs r os h => by obtain ⟨_, _, _, _, rfl, _⟩ := h; rfl) rfl fun f cdv A outer s H E cz qs r os h => ?_
  obtain ⟨w, d, o, hA, rfl, rfl, rfl⟩ := h
  obtain ⟨CE, hm, hx⟩ := R.sett
  have body : ∀ (W' : WX) (pn : List (Addr × Obj)) (xe : Value → Shared → Prop), Takes ((Xd Pr wo K mg base nTold "_law_told" sTold f cdv A outer s H E).tr pn xe) W' → PassesOwn (model Pr wo) (Xd Pr wo K mg base nTold "_law_told" sTold f cdv A outer s H E).A (Xd Pr wo K mg base nTold "_law_told" sTold f cdv A outer s H E).env xe →
      DSs ((Xd Pr wo K mg base nTold "_law_told" sTold f cdv A outer s H E).tr pn xe) W' (tryB (bodyAt sTold 2)) [.v (.int w), .v d, .v .non, .v .non, .no] (tOc CB w d o) := fun W' pn xe tk po => by
    have cz' := cz.try_ tk po
    cases hA with
    | kind hd =>
      unfold kindO
      by_cases hv : isValueD d = true
      · rw [if_pos hv]
        exact if_t (dt_cmpI rfl (va 0 rfl) de_int) rfl (dss1 (st 3 cz' (de_callV (r := .ret (.str (kindD d))) cz' GK (by decide) (da_cons (va 1 rfl) da_nil) ⟨d, hd, rfl, (if_pos hv).symm, rfl⟩))) dss_nil
      · rw [if_neg hv]
        exact if_t (dt_cmpI rfl (va 0 rfl) de_int) rfl (dss1 (stx 3 cz' (de_callV (r := .exc CB) cz' GK (by decide) (da_cons (va 1 rfl) da_nil) ⟨d, hd, rfl, (if_neg hv).symm, rfl⟩))) rfl
    | text hd =>
      unfold textO
      by_cases hv : isValueD d = true
      · rw [if_pos hv]
        exact if_f (dt_cmpI rfl (va 0 rfl) de_int) rfl (dss1 (st 3 cz' (ife_t (dt_cmpI rfl (va 0 rfl) de_int) rfl (de_callV (r := .ret (.str (mk (textD d)))) cz' GT (by decide) (da_cons (va 1 rfl) da_nil) ⟨d, hd, rfl, (if_pos hv).symm, rfl⟩)))) dss_nil
      · rw [if_neg hv]
        exact if_f (dt_cmpI rfl (va 0 rfl) de_int) rfl (dss1 (stx 3 cz' (ife_t (dt_cmpI rfl (va 0 rfl) de_int) rfl (de_callV (r := .exc CB) cz' GT (by decide) (da_cons (va 1 rfl) da_nil) ⟨d, hd, rfl, (if_neg hv).symm, rfl⟩)))) rfl
    | @read l hl =>
      cases hr : readS l with
      | some x =>
        exact if_f (dt_cmpI rfl (va 0 rfl) de_int) rfl (dss1 (st 3 cz' (ife_f (dt_cmpI rfl (va 0 rfl) de_int) rfl (de_callV (r := .ret x) cz' GR (by decide) (da_cons (va 1 rfl) da_nil) ⟨l, hl, rfl, by rw [hr]; rfl, rfl⟩)))) dss_nil
      | none =>
        exact if_f (dt_cmpI rfl (va 0 rfl) de_int) rfl (dss1 (stx 3 cz' (ife_f (dt_cmpI rfl (va 0 rfl) de_int) rfl (de_callV (r := .exc CB) cz' GR (by decide) (da_cons (va 1 rfl) da_nil) ⟨l, hl, rfl, by rw [hr]; rfl, rfl⟩)))) rfl
  cases o with
  | some x =>
    exact ⟨_, seq (st 2 cz de_non) (seq (st 3 cz de_non) (seq (ds_try (i := 4) (iy := 2) cz rfl rfl rfl rfl rfl rfl rfl (by decide) ⟨rfl, by decide, .inl hm⟩ body rfl) (ret (ife_t (dt_isN (va 2 rfl)) rfl (de_tup (da_cons (cs rfl) (da_cons (va 3 rfl) da_nil)) (by show 2 ≤ sizeLine; decide)))))), .ret rfl⟩
  | none =>
    exact ⟨_, seq (st 2 cz de_non) (seq (st 3 cz de_non) (seq (ds_try (i := 4) (iy := 2) cz rfl rfl rfl rfl rfl rfl rfl (by decide) ⟨rfl, by decide, .inl hm⟩ body (.inl ⟨hx, rfl⟩)) (ret (ife_f (dt_isN (va 2 rfl)) rfl (de_callV cz GE (by decide) (da_cons (va 2 rfl) da_nil) ⟨rfl, rfl, rfl⟩))))), .ret rfl⟩
end
end K01


set_option Elab.async false
set_option linter.all false
set_option maxRecDepth 100000
set_option maxHeartbeats 4000000
namespace K01
open PySem PySem.Spec PyProof.Rows L2 Dt
/-! ### what is written is read: numbers -/
def dg (m : Nat) : List Nat := (Nat.toDigits 10 m).map Char.toNat
theorem dchar : ∀ d : Nat, d < 10 → (Nat.digitChar d).toNat = 48 + d := by decide
theorem dg_lt {m : Nat} (h : m < 10) : dg m = [48 + m] := by
  unfold dg
  rw [Nat.toDigits_of_lt_base h, List.map_singleton, dchar m h]
theorem dg_ge {m : Nat} (h : ¬ m < 10) : dg m = dg (m / 10) ++ [48 + m % 10] := by
  have hm : m % 10 < 10 := Nat.mod_lt m (by decide)
  have t : Nat.toDigits 10 (m / 10) ++ Nat.toDigits 10 (m % 10) = Nat.toDigits 10 (10 * (m / 10) + m % 10) := Nat.toDigits_append_toDigits (by decide) (by omega) hm
  rw [Nat.div_add_mod] at t
  unfold dg
  rw [← t, List.map_append]
  have := dg_lt hm
  unfold dg at this
  rw [this]
theorem dg_all (m : Nat) : ∀ c ∈ dg m, 48 ≤ c ∧ c ≤ 57 := by
  induction m using Nat.strongRecOn with
  | _ m ih =>
    by_cases h : m < 10
    · rw [dg_lt h]
      intro c hc
      rw [List.mem_singleton.mp hc]
      omega
    · rw [dg_ge h]
      intro c hc
      rcases List.mem_append.mp hc with hc | hc
      · exact ih (m / 10) (by omega) c hc
      · rw [List.mem_singleton.mp hc]
        omega
theorem dg_head {m : Nat} (h0 : 0 < m) : ∃ c r, dg m = c :: r ∧ 49 ≤ c := by
  induction m using Nat.strongRecOn with
  | _ m ih =>
    by_cases h : m < 10
    · rw [dg_lt h]
      exact ⟨48 + m, [], rfl, by omega⟩
    · obtain ⟨c, r, h1, h2⟩ := ih (m / 10) (by omega) (by omega)
      rw [dg_ge h, h1]
      exact ⟨c, r ++ [48 + m % 10], rfl, h2⟩
theorem dg_ne (m : Nat) : dg m ≠ [] := by
  by_cases h : m < 10
  · rw [dg_lt h]; exact fun z => nomatch z
  · rw [dg_ge h]
    exact fun z => by
      have := (List.append_eq_nil_iff.mp z).2
      cases this
theorem dg_len {m : Nat} (h : m < 1000000000) : (dg m).length ≤ 9 := by
  unfold dg
  rw [List.length_map]
  exact digits10_le (k := 9) (by decide) h
theorem dg_val (m : Nat) : NumText.digitsVal (dg m) = m := PySem.W.KIN.val_back m
theorem intL_pos (m : Nat) : intL ((m : Nat) : Int) = dg m := PySem.W.KIN.signs_num m
theorem intL_neg2 (m : Nat) : intL (Int.negSucc m) = 45 :: dg (m + 1) := by
  have e : intL (Int.negSucc m) = (("-" ++ Nat.repr (m + 1)).toList).map Char.toNat := by
    unfold intL
    rw [signs_ofString]
    rfl
  have e2 : dg (m + 1) = (Nat.repr (m + 1)).toList.map Char.toNat := by
    unfold dg
    rw [Nat.toList_repr]
  rw [e, e2, String.toList_append, List.map_append]
  rfl
/-- a place where a number ends -/
def stop : List Nat → Prop
  | [] => True
  | c :: _ => isDig c = false
theorem digs_app {r : List Nat} (hr : stop r) : ∀ ds : List Nat, (∀ c ∈ ds, 48 ≤ c ∧ c ≤ 57) → digsOf (ds ++ r) = ds ∧ restOf (ds ++ r) = r
  | [], _ => by
    cases r with
    | nil => exact ⟨rfl, rfl⟩
    | cons c r =>
      have hr : isDig c = false := hr
      exact ⟨if_neg (by rw [hr]; exact Bool.false_ne_true), if_neg (by rw [hr]; exact Bool.false_ne_true)⟩
  | c :: ds, h => by
    obtain ⟨h1, h2⟩ := digs_app hr ds fun x hx => h x (List.mem_cons_of_mem _ hx)
    have hc := h c List.mem_cons_self
    have hd : isDig c = true := by
      unfold isDig
      rw [decide_eq_true hc.1, decide_eq_true hc.2]
      rfl
    rw [List.cons_append]
    exact ⟨(if_pos hd).trans (by rw [h1]), (if_pos hd).trans h2⟩
theorem num_back {i : Int} {r : List Nat} (hi : i.natAbs < 1000000000) (hr : stop r) : numS (intL i ++ r) = some (i, r) := by
  have fin : ∀ (m : Nat), m < 1000000000 → numBad false (dg m) = false := fun m hm => by
    have h9 := dg_len hm
    have hne : ¬ (dg m).length = 0 := fun z => dg_ne m (List.length_eq_zero_iff.mp z)
    unfold numBad
    rw [decide_eq_false hne, decide_eq_false (by omega), Bool.false_or, Bool.false_or, Bool.or_false]
    by_cases h0 : m = 0
    · subst h0; rfl
    · obtain ⟨c, t, h1, h2⟩ := dg_head (m := m) (by omega)
      rw [h1, decide_eq_false (by
        show ¬ [c] = [48]
        exact fun z => by have := (List.cons.inj z).1; omega)]
      rfl
  cases i with
  | ofNat m =>
    have hm : m < 1000000000 := hi
    have e1 : intL (Int.ofNat m) = dg m := intL_pos m
    obtain ⟨g1, g2⟩ := digs_app hr (dg m) (dg_all m)
    have hn : isNeg (dg m ++ r) = false := by
      obtain ⟨c, t, h1⟩ : ∃ c t, dg m = c :: t := by
        cases h : dg m with
        | nil => exact absurd h (dg_ne m)
        | cons c t => exact ⟨c, t, rfl⟩
      have hc := dg_all m c (by rw [h1]; exact List.mem_cons_self)
      rw [h1]
      exact decide_eq_false (by
        show ¬ [c] = [45]
        exact fun z => by have := (List.cons.inj z).1; omega)
    have hb : numBody (dg m ++ r) = dg m ++ r := if_neg (by rw [hn]; exact Bool.false_ne_true)
    unfold numS
    rw [e1, hn, hb, g1, g2, fin m hm, if_neg Bool.false_ne_true]
    unfold numVal
    rw [if_neg Bool.false_ne_true, dg_val]
    rfl
  | negSucc m =>
    have hm : m + 1 < 1000000000 := hi
    obtain ⟨g1, g2⟩ := digs_app hr (dg (m + 1)) (dg_all (m + 1))
    have hn : isNeg (45 :: (dg (m + 1) ++ r)) = true := rfl
    have hb : numBody (45 :: (dg (m + 1) ++ r)) = dg (m + 1) ++ r := if_pos hn
    have bad : numBad true (dg (m + 1)) = false := by
      have h9 := dg_len hm
      obtain ⟨c, t, h1, h2⟩ := dg_head (m := m + 1) (by omega)
      have hne : ¬ (dg (m + 1)).length = 0 := fun z => dg_ne (m + 1) (List.length_eq_zero_iff.mp z)
      unfold numBad
      rw [decide_eq_false hne, decide_eq_false (by omega), Bool.false_or, Bool.false_or, h1, decide_eq_false (by
        show ¬ [c] = [48]
        exact fun z => by have := (List.cons.inj z).1; omega)]
      rfl
    unfold numS
    rw [intL_neg2, List.cons_append, hn, hb, g1, g2, bad, if_neg Bool.false_ne_true]
    unfold numVal
    rw [if_pos rfl, dg_val]
    rfl
/-! ### .. texts -/
theorem loop_back {r : List Nat} : ∀ (l acc : List Nat), loopT ((l.map esc).flatten ++ 34 :: r) acc = some (acc ++ l, 34 :: r)
  | [], acc => by
    show loopT (34 :: r) acc = _
    rw [loopT_cons, if_pos rfl, List.append_nil]
  | c :: l, acc => by
    rw [List.map_cons, List.flatten_cons, List.append_assoc]
    unfold esc
    by_cases h1 : c = 10
    · rw [if_pos h1]
      show loopT (92 :: 110 :: ((l.map esc).flatten ++ 34 :: r)) acc = _
      rw [loopT_cons, if_neg (by decide), if_pos rfl]
      show loopT ((l.map esc).flatten ++ 34 :: r) (acc ++ [10]) = _
      rw [loop_back l, List.append_assoc, h1]
      rfl
    · rw [if_neg h1]
      by_cases h2 : c = 34 ∨ c = 92
      · rw [if_pos h2]
        show loopT (92 :: c :: ((l.map esc).flatten ++ 34 :: r)) acc = _
        rw [loopT_cons, if_neg (by decide), if_pos rfl]
        have hu : unesc c = some c := by rcases h2 with rfl | rfl <;> rfl
        show (match unesc c with
          | none => none
          | some u => loopT ((l.map esc).flatten ++ 34 :: r) (acc ++ [u])) = _
        rw [hu]
        show loopT ((l.map esc).flatten ++ 34 :: r) (acc ++ [c]) = _
        rw [loop_back l, List.append_assoc]
        rfl
      · rw [if_neg h2]
        show loopT (c :: ((l.map esc).flatten ++ 34 :: r)) acc = _
        rw [loopT_cons, if_neg (fun z => h2 (.inl z)), if_neg (fun z => h2 (.inr z)), loop_back l, List.append_assoc]
        rfl
theorem text_back {l r : List Nat} (h : l.length ≤ 200) : scanT ((l.map esc).flatten ++ 34 :: r) = some (l, r) := by
  unfold scanT
  rw [loop_back]
  show (if l.length ≤ 200 then some (l, r) else none) = _
  rw [if_pos h]
/-! ### .. singles -/
theorem intL_head (i : Int) : ∃ c t, intL i = c :: t ∧ (c = 45 ∨ (48 ≤ c ∧ c ≤ 57)) := by
  cases i with
  | ofNat m =>
    have e1 : intL (Int.ofNat m) = dg m := intL_pos m
    cases h : dg m with
    | nil => exact absurd h (dg_ne m)
    | cons c t =>
      refine ⟨c, t, e1.trans h, .inr ?_⟩
      exact dg_all m c (by rw [h]; exact List.mem_cons_self)
  | negSucc m => exact ⟨45, _, intL_neg2 m, .inl rfl⟩
theorem ne_head {c x : Nat} {t w : List Nat} {n : Nat} (h : c ≠ x) : ¬ (c :: t).take (n + 1) = x :: w := fun z => by
  rw [List.take_succ_cons] at z
  exact h (List.cons.inj z).1
theorem single_back {d : D} {r : List Nat} (hd : isSingleD d = true) (hr : stop r) : singleS (textS d ++ r) = some (d, r) := by
  cases d with
  | bl b =>
    cases b with
    | true =>
      show singleS (121 :: 101 :: 115 :: r) = _
      unfold singleS
      rw [if_neg (ne_head (by decide)), if_pos (by rfl)]
      rfl
    | false =>
      show singleS (110 :: 111 :: r) = _
      unfold singleS
      rw [if_neg (ne_head (by decide)), if_neg (ne_head (by decide)), if_pos (by rfl)]
      rfl
  | int i =>
    obtain ⟨c, t, h1, h2⟩ := intL_head i
    have hn := num_back (of_decide_eq_true hd) hr
    show singleS (intL i ++ r) = _
    unfold singleS
    rw [hn, h1, List.cons_append, if_neg (ne_head (by omega)), if_neg (ne_head (by omega)), if_neg (ne_head (by omega))]
    rfl
  | str z =>
    have hl := isTextL_len hd
    show singleS (quoteL z.cps.toList ++ r) = _
    have e : quoteL z.cps.toList ++ r = 34 :: ((z.cps.toList.map esc).flatten ++ 34 :: r) := by
      unfold quoteL
      rw [List.append_assoc, List.append_assoc]
      rfl
    unfold singleS
    rw [e, if_pos (by rfl)]
    show tagT (scanT ((z.cps.toList.map esc).flatten ++ 34 :: r)) = _
    rw [text_back hl]
    rfl
  | _ => cases hd
theorem textS_head {d : D} (hd : isSingleD d = true) : ∃ c t, textS d = c :: t ∧ c ≠ 32 ∧ c ≠ 91 ∧ c ≠ 93 := by
  cases d with
  | bl b => cases b <;> exact ⟨_, _, rfl, by decide, by decide, by decide⟩
  | int i =>
    obtain ⟨c, t, h1, h2⟩ := intL_head i
    exact ⟨c, t, h1, by omega, by omega, by omega⟩
  | str z => exact ⟨34, _, rfl, by decide, by decide, by decide⟩
  | _ => cases hd
theorem skip_ne {c : Nat} {r : List Nat} (h : c ≠ 32) : skipB (c :: r) = c :: r := if_neg h
/-! ### .. lists: with blanks around the commas -/
theorem skip_rep (n : Nat) (r : List Nat) : skipB (List.replicate n 32 ++ r) = skipB r := by
  induction n with
  | zero => rfl
  | succ n ih =>
    rw [List.replicate_succ, List.cons_append]
    exact (if_pos rfl).trans ih
theorem stop_of {c : Nat} {r : List Nat} (h : c = 44 ∨ c = 93 ∨ c = 32) : stop (c :: r) := by
  rcases h with rfl | rfl | rfl <;> rfl
/-- the items, written with g blanks before and h after each comma -/
def itemsW (g h : Nat) : List D → List Nat
  | [] => []
  | [d] => textS d ++ (List.replicate g 32 ++ [93])
  | d :: e :: r => textS d ++ (List.replicate g 32 ++ 44 :: (List.replicate h 32 ++ itemsW g h (e :: r)))
theorem stop_rep {g c : Nat} {r : List Nat} (h : c = 44 ∨ c = 93) : stop (List.replicate g 32 ++ c :: r) := by
  cases g with
  | zero => exact stop_of (by omega)
  | succ g => exact stop_of (c := 32) (by omega)
theorem itemsW_head {g h : Nat} {d : D} {r : List D} (hd : isSingleD d = true) : ∃ c t, itemsW g h (d :: r) = c :: t ∧ c ≠ 32 ∧ c ≠ 91 ∧ c ≠ 93 := by
  obtain ⟨c, t, h1, h2⟩ := textS_head hd
  cases r with
  | nil => exact ⟨c, t ++ (List.replicate g 32 ++ [93]), by show textS d ++ _ = _; rw [h1]; rfl, h2⟩
  | cons e r => exact ⟨c, t ++ (List.replicate g 32 ++ 44 :: (List.replicate h 32 ++ itemsW g h (e :: r))), by show textS d ++ _ = _; rw [h1]; rfl, h2⟩
theorem items_back {g h : Nat} : ∀ (xs : List D) (n : Nat) (acc : List D), xs ≠ [] → (∀ x ∈ xs, isSingleD x = true) → xs.length ≤ n → itemsS n (itemsW g h xs) acc = some (acc ++ xs, [])
  | [], _, _, h, _, _ => absurd rfl h
  | [d], 0, _, _, _, hn => by rw [List.length_singleton] at hn; omega
  | [d], n + 1, acc, _, ha, _ => by
    have hd := ha d List.mem_cons_self
    unfold itemsS
    show (match singleS (textS d ++ (List.replicate g 32 ++ [93])) with
      | none => none
      | some (d, q) => _) = _
    rw [single_back hd (stop_rep (.inr rfl))]
    show (if (skipB (List.replicate g 32 ++ [93])).take 1 = [93] then some (acc ++ [d], (skipB (List.replicate g 32 ++ [93])).drop 1) else _) = _
    rw [skip_rep, skip_ne (by decide), if_pos (show List.take 1 [93] = [93] from rfl)]
    rfl
  | d :: e :: r, 0, _, _, _, hn => by rw [List.length_cons] at hn; omega
  | d :: e :: r, n + 1, acc, _, ha, hn => by
    have hd := ha d List.mem_cons_self
    have he := ha e (List.mem_cons_of_mem _ List.mem_cons_self)
    obtain ⟨c, t, h1, h2, _⟩ := itemsW_head (g := g) (h := h) (r := r) he
    rw [List.length_cons] at hn
    unfold itemsS
    show (match singleS (textS d ++ (List.replicate g 32 ++ 44 :: (List.replicate h 32 ++ itemsW g h (e :: r)))) with
      | none => none
      | some (d, q) => _) = _
    rw [single_back hd (stop_rep (.inl rfl))]
    show (if (skipB (List.replicate g 32 ++ 44 :: (List.replicate h 32 ++ itemsW g h (e :: r)))).take 1 = [93] then _ else if (skipB (List.replicate g 32 ++ 44 :: (List.replicate h 32 ++ itemsW g h (e :: r)))).take 1 = [44] then itemsS n (skipB ((skipB (List.replicate g 32 ++ 44 :: (List.replicate h 32 ++ itemsW g h (e :: r)))).drop 1)) (acc ++ [d]) else none) = _
    rw [skip_rep, skip_ne (by decide), if_neg (by show ¬ [44] = [93]; decide), if_pos (show List.take 1 (44 :: (List.replicate h 32 ++ itemsW g h (e :: r))) = [44] from rfl)]
    show itemsS n (skipB (List.replicate h 32 ++ itemsW g h (e :: r))) (acc ++ [d]) = _
    rw [skip_rep, h1, skip_ne h2, ← h1, items_back (e :: r) n (acc ++ [d]) (fun z => nomatch z) (fun x hx => ha x (List.mem_cons_of_mem _ hx)) (by omega), List.append_assoc]
    rfl
theorem textD_items : ∀ xs : List D, xs ≠ [] → TL.joinL [44, 32] (xs.map textS) ++ [93] = itemsW 0 1 xs
  | [], h => absurd rfl h
  | [d], _ => rfl
  | d :: e :: r, _ => by
    have ih := textD_items (e :: r) (fun z => nomatch z)
    show (textS d ++ ([44, 32] ++ TL.joinL [44, 32] ((e :: r).map textS))) ++ [93] = textS d ++ ([] ++ 44 :: ([32] ++ itemsW 0 1 (e :: r)))
    rw [← ih, List.append_assoc, List.append_assoc]
    rfl
theorem value_back {d : D} (hd : isValueD d = true) : valueS (textD d) = some (d, []) := by
  by_cases hL : isListD d = true
  · cases d with
    | lst xs =>
      obtain ⟨h1, h2⟩ := val_lst hd
      rw [List.all_eq_true] at h2
      show valueS (([91] ++ TL.joinL [44, 32] (xs.map textS)) ++ [93]) = _
      rw [List.append_assoc]
      cases xs with
      | nil => rfl
      | cons e r =>
        rw [textD_items (e :: r) (fun z => nomatch z)]
        obtain ⟨c, t, e1, e2, e3, e4⟩ := itemsW_head (g := 0) (h := 1) (r := r) (h2 e List.mem_cons_self)
        have hb := items_back (g := 0) (h := 1) (e :: r) 20 [] (fun z => nomatch z) h2 h1
        unfold valueS
        rw [if_pos (by rfl)]
        show listS (skipB (itemsW 0 1 (e :: r))) = _
        rw [e1] at hb ⊢
        rw [skip_ne e2]
        unfold listS
        rw [if_neg (ne_head e4), hb]
        rfl
    | _ => cases hL
  · have hd1 : isSingleD d = true := by cases d <;> first | exact hd | exact absurd rfl hL
    have e : textD d = textS d := by cases d <;> first | rfl | exact absurd rfl hL
    obtain ⟨c, t, e1, e2, e3, e4⟩ := textS_head hd1
    have hb := single_back (r := []) hd1 trivial
    rw [List.append_nil] at hb
    rw [e]
    unfold valueS
    rw [if_neg (by rw [e1]; exact ne_head e3), hb]
/-! ### .. and every sign of it may stand -/
theorem sign_dig {c : Nat} (h : 48 ≤ c ∧ c ≤ 57) : isSign c = true := by
  unfold isSign
  rw [decide_eq_true (show 32 ≤ c by omega), decide_eq_true (show c < 127 by omega), decide_eq_false (show ¬ c = 37 by omega)]
  rfl
theorem textS_signs {d : D} (hd : isSingleD d = true) : (textS d).all isSign = true := by
  cases d with
  | bl b => cases b <;> decide
  | int i =>
    rw [List.all_eq_true]
    cases i with
    | ofNat m =>
      have e1 : intL (Int.ofNat m) = dg m := intL_pos m
      show ∀ x ∈ intL (Int.ofNat m), _
      rw [e1]
      exact fun c hc => sign_dig (dg_all m c hc)
    | negSucc m =>
      show ∀ x ∈ intL (Int.negSucc m), _
      rw [intL_neg2]
      intro c hc
      rcases List.mem_cons.mp hc with rfl | hc
      · decide
      · exact sign_dig (dg_all _ c hc)
  | str z =>
    have hz : isTextL z.cps.toList = true := hd
    unfold isTextL at hz
    rw [Bool.and_eq_true, List.all_eq_true] at hz
    show (quoteL z.cps.toList).all isSign = true
    rw [List.all_eq_true]
    intro c hc
    unfold quoteL at hc
    rcases List.mem_append.mp hc with hc | hc
    · rcases List.mem_append.mp hc with hc | hc
      · rw [List.mem_singleton.mp hc]; decide
      · obtain ⟨q, hq, hc⟩ := List.mem_flatten.mp hc
        obtain ⟨x, hx, rfl⟩ := List.mem_map.mp hq
        have h2 := hz.2 x hx
        unfold esc at hc
        split at hc
        · simp only [List.mem_cons, List.not_mem_nil, or_false] at hc
          rcases hc with rfl | rfl <;> decide
        · rename_i h3
          rw [decide_eq_false h3, Bool.false_or] at h2
          split at hc
          · simp only [List.mem_cons, List.not_mem_nil, or_false] at hc
            rcases hc with rfl | rfl
            · decide
            · exact h2
          · rw [List.mem_singleton.mp hc]
            exact h2
    · rw [List.mem_singleton.mp hc]; decide
  | _ => cases hd
theorem joinL_all (q : Nat → Bool) (s : List Nat) (hs : s.all q = true) : ∀ ls : List (List Nat), (∀ l ∈ ls, l.all q = true) → (TL.joinL s ls).all q = true
  | [], _ => rfl
  | [p], h => h p List.mem_cons_self
  | p :: t :: r, h => by
    have ih := joinL_all q s hs (t :: r) fun l hl => h l (List.mem_cons_of_mem _ hl)
    show (p ++ (s ++ TL.joinL s (t :: r))).all q = true
    rw [List.all_append, List.all_append, h p List.mem_cons_self, hs, ih]
    rfl
theorem textD_signs {d : D} (hd : isValueD d = true) : (textD d).all isSign = true := by
  by_cases hL : isListD d = true
  · cases d with
    | lst xs =>
      obtain ⟨h1, h2⟩ := val_lst hd
      rw [List.all_eq_true] at h2
      show (([91] ++ TL.joinL [44, 32] (xs.map textS)) ++ [93]).all isSign = true
      rw [List.all_append, List.all_append, joinL_all isSign [44, 32] (by decide) (xs.map textS) fun l hl => by
        obtain ⟨x, hx, rfl⟩ := List.mem_map.mp hl
        exact textS_signs (h2 x hx)]
      decide
    | _ => cases hL
  · have hd1 : isSingleD d = true := by cases d <;> first | exact hd | exact absurd rfl hL
    have e : textD d = textS d := by cases d <;> first | rfl | exact absurd rfl hL
    rw [e]
    exact textS_signs hd1
theorem read_back {d : D} (hd : isValueD d = true) : readS (textD d) = some d := by
  unfold readS
  rw [if_pos (textD_signs hd), value_back hd]
end K01


set_option Elab.async false
set_option linter.all false
set_option maxRecDepth 100000
set_option maxHeartbeats 4000000
namespace K01
open PySem PySem.Spec PyProof.Rows L2 Dt
/-! ### what is read is flat -/
theorem single_fl {s q : List Nat} {d : D} (h : singleS s = some (d, q)) : fl1 d = true := by
  unfold singleS at h
  split at h
  · cases h2 : scanT (s.drop 1) with
    | none => rw [h2] at h; cases h
    | some p => obtain ⟨t, q'⟩ := p; rw [h2] at h; cases h; rfl
  · split at h
    · cases h; rfl
    · split at h
      · cases h; rfl
      · cases h2 : numS s with
        | none => rw [h2] at h; cases h
        | some p => obtain ⟨t, q'⟩ := p; rw [h2] at h; cases h; rfl
theorem items_fl : ∀ (n : Nat) {s q : List Nat} {acc xs : List D}, itemsS n s acc = some (xs, q) → acc.all fl1 = true → xs.all fl1 = true ∧ xs.length ≤ acc.length + n
  | 0, _, _, _, _, h, _ => by cases h
  | n + 1, s, q, acc, xs, h, ha => by
    unfold itemsS at h
    cases h1 : singleS s with
    | none => rw [h1] at h; cases h
    | some p =>
      obtain ⟨d, q1⟩ := p
      rw [h1] at h
      have hb : (acc ++ [d]).all fl1 = true := by rw [List.all_append, ha, List.all_cons, single_fl h1]; rfl
      have hl : (acc ++ [d]).length = acc.length + 1 := by rw [List.length_append]; rfl
      dsimp only at h
      split at h
      · cases h
        exact ⟨hb, by omega⟩
      · split at h
        · obtain ⟨g1, g2⟩ := items_fl n h hb
          exact ⟨g1, by omega⟩
        · cases h
theorem value_fl {s q : List Nat} {d : D} (h : valueS s = some (d, q)) : flV d = true := by
  unfold valueS at h
  split at h
  · unfold listS at h
    split at h
    · cases h; rfl
    · cases h1 : itemsS 20 (skipB (s.drop 1)) [] with
      | none => rw [h1] at h; cases h
      | some p =>
        obtain ⟨xs, q1⟩ := p
        rw [h1] at h
        cases h
        obtain ⟨g1, g2⟩ := items_fl 20 h1 rfl
        rw [List.length_nil] at g2
        show (decide (xs.length ≤ 100) && xs.all fl1) = true
        rw [decide_eq_true (by omega), g1]
        rfl
  · have := single_fl h
    cases d <;> first | exact this | cases this
theorem value_flV {d : D} (h : isValueD d = true) : flV d = true := by
  cases d with
  | lst xs =>
    obtain ⟨h1, h2⟩ := val_lst h
    show (decide (xs.length ≤ 100) && xs.all fl1) = true
    rw [decide_eq_true (by omega), Bool.true_and, List.all_eq_true]
    rw [List.all_eq_true] at h2
    intro x hx
    have := h2 x hx
    cases x <;> first | rfl | cases this
  | bl b => rfl
  | int i => rfl
  | str z => rfl
  | _ => cases h
/-! ### comparing with [] -/
theorem lay_str {l : List Nat} (h : ∀ c ∈ l, c < 1000) : (toPy (.str (mk l))).canLay0 = true := by
  show (l.toArray).all (· < 0x110000) = true
  rw [List.all_toArray, List.all_eq_true]
  intro c hc
  have := h c hc
  exact decide_eq_true (by omega)
theorem strOk1 {c : Nat} (h : c < 1000) : (toPy (.str (mk [c]))).canLay0 = true := lay_str fun x hx => by
  rw [List.mem_singleton.mp hx]
  exact h
theorem ok_str {l : List Nat} (h : ∀ c ∈ l, c < 1000) : okD (.str (mk l)) = true := by
  show (true && ((toPy (.str (mk l))).canLay0 && decide (0 ≤ 64))) = true
  rw [lay_str h]
  rfl
theorem ok_tup2 {a b : D} {n : Nat} (hn : n ≤ 60) (h1 : okD a = true) (h2 : okD b = true) (d1 : (toPy a).depth ≤ n) (d2 : (toPy b).depth ≤ n) : okD (.tup [a, b]) = true := by
  obtain ⟨p1, q1⟩ := okD_p h1
  obtain ⟨p2, q2⟩ := okD_p h2
  unfold okD SeqAt.shaped
  show ((plain a && (plain b && true)) && (((toPy a).canLay0 && ((toPy b).canLay0 && true)) && decide (max (toPy a).depth (max (toPy b).depth 0) + 1 ≤ 64))) = true
  unfold SeqAt.shaped at q1 q2
  rw [Bool.and_eq_true] at q1 q2
  rw [p1, p2, q1.1, q2.1, decide_eq_true (by omega)]
  rfl
theorem ok_refu : okD refu = true := ok_tup2 (n := 0) (by decide) (ok_str (by decide)) (ok_str (by decide)) (Nat.le_refl 0) (Nat.le_refl 0)
theorem ok_signs : ∀ l : List Nat, (∀ c ∈ l, c < 1000) → okD (.lst (l.map sgn)) = true := by
  have h1 : ∀ l : List Nat, plainL (l.map sgn) = true := fun l => by
    induction l with
    | nil => rfl
    | cons c l ih => exact ih
  have h2 : ∀ l : List Nat, (∀ c ∈ l, c < 1000) → PyData.canLayAll0 (toPyL (l.map sgn)) = true := fun l h => by
    induction l with
    | nil => rfl
    | cons c l ih =>
      show (PyData.canLay0 (toPy (sgn c)) && PyData.canLayAll0 (toPyL (l.map sgn))) = true
      rw [strOk1 (h c List.mem_cons_self), ih fun x hx => h x (List.mem_cons_of_mem _ hx)]
      rfl
  have h3 : ∀ l : List Nat, PyData.depthAll (toPyL (l.map sgn)) = 0 := fun l => by
    induction l with
    | nil => rfl
    | cons c l ih =>
      show max 0 (PyData.depthAll (toPyL (l.map sgn))) = 0
      rw [ih]
      rfl
  intro l h
  unfold okD SeqAt.shaped
  show (plainL (l.map sgn) && (PyData.canLayAll0 (toPyL (l.map sgn)) && decide (PyData.depthAll (toPyL (l.map sgn)) + 1 ≤ 64))) = true
  rw [h1, h2 l h, h3]
  rfl
theorem eq_nil (l : List Nat) : eqD (.lst (l.map sgn)) (.lst []) = l.isEmpty := by cases l <;> rfl
theorem le1 (a b : Nat) : (!decide ((mk [b]).cps.toList < (mk [a]).cps.toList)) = decide (a ≤ b) := by
  show (!decide ([b] < [a])) = _
  have : ([b] < [a]) ↔ b < a := by
    rw [List.cons_lt_cons_iff]
    constructor
    · rintro (h | ⟨_, h⟩)
      · exact h
      · exact absurd h (List.not_lt_nil [])
    · exact .inl
  by_cases h : b < a
  · rw [decide_eq_true (this.mpr h), decide_eq_false (by omega)]
    rfl
  · rw [decide_eq_false (fun z => h (this.mp z)), decide_eq_true (by omega)]
    rfl
theorem odd_eq (c : Nat) : (!(decide (32 ≤ c) && decide (c ≤ 126)) || decide (((c : Nat) : Int) = 37)) = !isSign c := by
  unfold isSign
  by_cases h1 : 32 ≤ c
  · by_cases h2 : c ≤ 126
    · by_cases h3 : c = 37
      · subst h3; decide
      · rw [decide_eq_true h1, decide_eq_true h2, decide_eq_true (show c < 127 by omega), decide_eq_false h3, decide_eq_false (show ¬ ((c : Nat) : Int) = 37 by omega)]
        rfl
    · rw [decide_eq_true h1, decide_eq_false h2, decide_eq_false (show ¬ c < 127 by omega)]
      rfl
  · rw [decide_eq_false h1]
    rfl
section
variable {Pr : Program} {wo : World} {K : PySem.W.Frag} {mg : Str → Option Value} {base : Heap} {CB : Addr}
abbrev sIR : Stmt := topS 49
abbrev nIR : List Str := ["text", "found", "due", "sign"]
theorem sc_ir : FnScope nIR ["text"] (defScope sIR) := ⟨rfl, rfl, rfl, by decide +kernel, rfl, by decide +kernel, by decide +kernel⟩
def c_ir : Con := fun ps r os => ∃ l : List Nat, l.length ≤ 50000 ∧ (∀ c ∈ l, c < 1000) ∧ ps = [.v (.str (mk l))] ∧ r = .ret (.bl true) ∧ os = []
theorem ok_ir (F : DefAt K mg "_law_is_read" sIR ["text"]) (B : Blts mg) (GT : FnAt Pr wo K mg base "_law_told" 7 ["which", "thing"] c_told) (GK : FnAt Pr wo K mg base "_law_take" 3 ["text"] c_take) (GS : FnAt Pr wo K mg base "_law_same" 2 ["one", "other"] c_same) : FnAt Pr wo K mg base "_law_is_read" 8 ["text"] c_ir := by
  refine fnAt (n := 3) F sc_ir (fun qs r os h => by obtain ⟨l, _, _, rfl, _⟩ := h; rfl) rfl fun f cdv A outer s H E cz qs r os h => ?_
  obtain ⟨l, hl, hs, rfl, rfl, rfl⟩ := h
  have hz : l.length ≤ 100000 := by omega
  have okf : okD (.lst ((l.filter fun c => !isSign c).map sgn)) = true := ok_signs _ fun c hc => hs c ((List.mem_filter.mp hc).1)
  have tst : DT (Xd Pr wo K mg base nIR "_law_is_read" sIR f cdv A outer s H E) (Wd0 E) (match bodyAt sIR 2 with
      | .If c _ _ _ => c
      | _ => .Constant .none 0 ⟨0, 0, 0, 0⟩) [.v (.str (mk l)), .v (toldR (readS l)), .v .non, .no] ((l.filter fun c => !isSign c).isEmpty) [.v (.str (mk l)), .v (toldR (readS l)), .v .non, .no] := by
    rw [← eq_nil]
    refine dt_eqD cz okf rfl (de_still (lcf (g := fun c => .str (mk [c])) (f := fun c => .str (mk [c])) 3 cz (di_strL (l := l) (va 0 rfl)) hz (fun y hy s0 H0 C0 cl fp => ?_) fun y hy _ s0 H0 C0 cl fp => va 3 rfl)) (de_still (de_lst da_nil (by show 0 ≤ sizeLine; decide)))
    rw [← odd_eq, ← le1 32 y, ← le1 y 126]
    exact dt_w (dw_or (dt_not (dt_chainS rfl rfl de_str (va 3 rfl) de_str)) fun _ => dw_or1 (dt_cmpI rfl (de_ord (b_ord B.ord) (va 3 rfl)) de_int))
  have bad : readS l = none → ∀ {d : D} {h : DT (Xd Pr wo K mg base nIR "_law_is_read" sIR f cdv A outer s H E) (Wd0 E) (match bodyAt sIR 3 with
      | .If c _ _ _ => c
      | _ => .Constant .none 0 ⟨0, 0, 0, 0⟩) [.v (.str (mk l)), .v (toldR (readS l)), .v d, .no] true [.v (.str (mk l)), .v (toldR (readS l)), .v d, .no]}, DSs (Xd Pr wo K mg base nIR "_law_is_read" sIR f cdv A outer s H E) (Wd0 E) ((defBody sIR).drop 3) [.v (.str (mk l)), .v (toldR (readS l)), .v d, .no] (.ret (.bl true) [.v (.str (mk l)), .v (toldR (readS l)), .v d, .no]) := fun hn {d} {h} => by
    rw [hn] at h ⊢
    exact if_r h rfl (DE.cast (de_eqD (d1 := refu) (d2 := refu) cz ok_refu ok_refu (va 1 rfl) (de_tup (da_cons (cs rfl) (da_cons (cs rfl) da_nil)) (by show 2 ≤ sizeLine; decide))) (congrArg D.bl (by decide)))
  have top : ∀ {o : Oc}, DSs (Xd Pr wo K mg base nIR "_law_is_read" sIR f cdv A outer s H E) (Wd0 E) ((defBody sIR).drop 2) [.v (.str (mk l)), .v (toldR (readS l)), .v .non, .no] o → DSs (Xd Pr wo K mg base nIR "_law_is_read" sIR f cdv A outer s H E) (Wd0 E) (defBody sIR) (toS 0 [P.v (.str (mk l))] ++ List.replicate 3 S.no) o := fun {o} h =>
    seq (st 1 cz (de_callV cz GT (by decide) (da_cons de_int (da_cons (va 0 rfl) da_nil)) ⟨2, _, _, .read hl, rfl, rfl, rfl⟩)) (seq (st 2 cz de_non) h)
  by_cases ha : l.all isSign = true
  · have he : (l.filter fun c => !isSign c).isEmpty = true := by
      rw [List.isEmpty_iff, List.filter_eq_nil_iff]
      intro c hc
      rw [List.all_eq_true.mp ha c hc]
      decide
    have due : ∀ {o : Oc}, DSs (Xd Pr wo K mg base nIR "_law_is_read" sIR f cdv A outer s H E) (Wd0 E) ((defBody sIR).drop 3) [.v (.str (mk l)), .v (toldR (readS l)), .v (outU (valueS l)), .no] o → DSs (Xd Pr wo K mg base nIR "_law_is_read" sIR f cdv A outer s H E) (Wd0 E) ((defBody sIR).drop 2) [.v (.str (mk l)), .v (toldR (readS l)), .v .non, .no] o := fun {o} h =>
      if_t tst he (dss1 (st 2 cz (de_callV cz GK (by decide) (da_cons (va 0 rfl) da_nil) ⟨l, hl, rfl, rfl, rfl⟩))) h
    have hr : readS l = (match valueS l with
      | some (d, []) => some d
      | _ => none) := if_pos ha
    cases hv : valueS l with
    | none =>
      rw [hv] at hr due
      exact ⟨_, top (due (bad hr (h := dt_w (or_t (dt_isN (va 2 rfl)) rfl)))), .ret rfl⟩
    | some p =>
      obtain ⟨d, q⟩ := p
      rw [hv] at hr due
      cases q with
      | nil =>
        have hf := value_fl hv
        rw [hr] at due top
        refine ⟨_, top (due (if_n (dt_w (or_f (dt_isN (va 2 rfl)) rfl (dw_or1 (nes (y := []) rfl (de_ix (va 2 rfl) de_int rfl) de_str)))) rfl (ret (vand_t (veqs (x := [102, 111, 117, 110, 100]) (y := [102, 111, 117, 110, 100]) rfl (de_ix (va 1 rfl) de_int rfl) de_str) rfl (de_one (de_callV cz GS (by decide) (da_cons (de_ix (va 1 rfl) de_int rfl) (da_cons (de_ix (va 2 rfl) de_int rfl) da_nil)) ⟨d, hf, rfl, rfl, rfl⟩)))))), .ret rfl⟩
      | cons c q =>
        exact ⟨_, top (due (bad hr (h := dt_w (or_f (dt_isN (va 2 rfl)) rfl (dw_or1 (to (nes (x := c :: q) (y := []) rfl (de_ix (va 2 rfl) de_int rfl) de_str) rfl)))))), .ret rfl⟩
  · have he : (l.filter fun c => !isSign c).isEmpty = false := by
      rw [Bool.eq_false_iff]
      intro z
      rw [List.isEmpty_iff, List.filter_eq_nil_iff] at z
      exact ha (List.all_eq_true.mpr fun c hc => by simpa using z c hc)
    have hr : readS l = none := if_neg ha
    exact ⟨_, top (if_n tst he (bad hr (h := dt_w (or_t (dt_isN (va 2 rfl)) rfl)))), .ret rfl⟩
end
end K01


set_option Elab.async false
set_option linter.all false
set_option maxRecDepth 100000
set_option maxHeartbeats 4000000
namespace K01
open PySem PySem.Spec PyProof.Rows L2 Dt
theorem dss_freeze {X : Cx} {W : WX} {sts : List Stmt} {ρ : List S} {o : Oc} {ds : List D} (i : Nat) (h : ρ[i]? = some (.own none (.lst ds))) (hk : DSs X W sts (ρ.set i (.v (.lst ds))) o) : DSs X W sts ρ o := fun w σ I H Dn ev p => by
  obtain ⟨a, I', h1, h2, h3, h4⟩ := ev.freeze h
  exact hk w σ I' H Dn h4 (p.mono h2)
abbrev sLaw : Stmt := topS 50
abbrev nLaw : List Str := ["script", "town", "value", "text", "word", "found", "k", "at", "sign", "odd", "items", "gap", "long", "some", "bad", "which"]
theorem sc_law : FnScope nLaw ["script"] (defScope sLaw) := ⟨rfl, rfl, rfl, by decide +kernel, rfl, by decide +kernel, by decide +kernel⟩
abbrev XL (Pr : Program) (wo : World) (K : PySem.W.Frag) (mg : Str → Option Value) (base : Heap) (f : Addr) (cdv : Value) (A : Around) (outer : List PySem.Env) (s : Shared) (H : Hp) (E : XK) : Cx := Xd Pr wo K mg base nLaw "law" sLaw f cdv A outer s H E
structure Lw (Pr : Program) (wo : World) (K : PySem.W.Frag) (mg : Str → Option Value) (base : Heap) : Prop where
  b : Blts mg
  draw : FnAt Pr wo K mg base "_law_draw" 3 ["script", "town", "many"] c_draw
  pick : FnAt Pr wo K mg base "_law_pick" 4 ["script", "town", "some"] c_pick
  sign : FnAt Pr wo K mg base "_law_sign" 5 ["script", "town"] (c_st gSign 90000)
  single : FnAt Pr wo K mg base "_law_single" 6 ["script", "town"] (c_st gSingle 80000)
  value : FnAt Pr wo K mg base "_law_value" 7 ["script", "town"] (c_st gValue 70000)
  wr1 : FnAt Pr wo K mg base "_law_written" 1 ["value"] c_text1
  wr : FnAt Pr wo K mg base "_law_written" 2 ["value"] c_text
  same : FnAt Pr wo K mg base "_law_same" 2 ["one", "other"] c_same
  told : FnAt Pr wo K mg base "_law_told" 7 ["which", "thing"] c_told
  isr : FnAt Pr wo K mg base "_law_is_read" 8 ["text"] c_ir
/-- from statement i on the law answers True -/
def Gd (X : Cx) (W : WX) (i : Nat) (ρ : List S) : Prop := ∃ ρ', DSs X W ((defBody sLaw).drop i) ρ (.ret (.bl true) ρ')
def ones (n : Nat) : D := .lst (List.replicate n (.int 1))
theorem ones_eq (n : Nat) : (List.replicate n [D.int 1]).flatten = List.replicate n (.int 1) := by
  induction n with
  | zero => rfl
  | succ n ih => rw [List.replicate_succ, List.flatten_cons, ih]; rfl
/-- what no value is, and isn't part of one -/
structure Bd0 (b : D) : Prop where
  s : isSingleD b = false
  v : isValueD b = false
  d : dat b = true
  o : okD b = true
theorem dat1_of {d : D} (h : dat d = true) : dat1 d = true := dat_1 h
section
variable {X : Cx} {W : WX} {ρ ρ1 : List S} {a b : Expr} {p pos : Pos} {k j : Nat} {d : D}
theorem de_told0 {w : Int} {o : Option D} {r : D} (cz : Cz X W k) (G : FnAt X.prog X.w X.K X.mg X.base "_law_told" 7 ["which", "thing"] c_told) (hk : 7 ≤ k) (ha : DE X W a ρ (.val (.int w) ρ)) (hb : DE X W b ρ (.val d ρ1)) (hA : Ask w d o) (hr : toldR o = r) (hg : Gl X "_law_told" := by rfl)
    (h1 : starEach [a, b] X.env = (false, eval a X.env) :: starEach [b] X.env := by rfl) (h2 : starEach [b] X.env = (false, eval b X.env) :: starEach [] X.env := by rfl) (hpl : (backTo pos (starEach [b] X.env)).any (·.1) = false := by rfl) :
    DE X W (.Call (.Name "_law_told" p) [a, b] [] pos) ρ (.val r ρ1) := by
  subst hr
  exact de_callV cz G hk (da_cons ha (da_cons hb da_nil h2) h1) ⟨w, d, o, hA, rfl, rfl, rfl⟩ hg (by decide) h1 hpl
end
theorem told_kind {d : D} (h : isValueD d = true) : toldR (kindO d) = .tup [.str sFound, .str (kindD d)] := by
  unfold kindO
  rw [if_pos h]
  rfl
theorem told_text {d : D} (h : isValueD d = true) : toldR (textO d) = .tup [.str sFound, .str (mk (textD d))] := by
  unfold textO
  rw [if_pos h]
  rfl
theorem told_kindN {d : D} (h : isValueD d = false) : toldR (kindO d) = refu := by
  unfold kindO
  rw [if_neg (by rw [h]; exact Bool.false_ne_true)]
  rfl
theorem told_textN {d : D} (h : isValueD d = false) : toldR (textO d) = refu := by
  unfold textO
  rw [if_neg (by rw [h]; exact Bool.false_ne_true)]
  rfl
theorem ok_refus : okD (.lst [refu, refu]) = true := by
  have h := ok_refu
  obtain ⟨p1, q1⟩ := okD_p h
  unfold SeqAt.shaped at q1
  rw [Bool.and_eq_true] at q1
  unfold okD SeqAt.shaped
  show ((plain refu && (plain refu && true)) && (((toPy refu).canLay0 && ((toPy refu).canLay0 && true)) && true)) = true
  rw [p1, q1.1]
  rfl
section
variable {Pr : Program} {wo : World} {K : PySem.W.Frag} {mg : Str → Option Value} {base : Heap} {f : Addr} {cdv : Value} {A : Around} {outer : List PySem.Env} {s : Shared} {H : Hp} {E : XK} {ns : List Int} {k : Nat}
variable {x1 x2 x3 x4 x5 x6 x7 x8 x9 x10 x11 x12 x13 x14 x15 : S} {n : Nat}
theorem g21 (L : Lw Pr wo K mg base) (cz : Cz (XL Pr wo K mg base f cdv A outer s H E) (Wd0 E) 8) {lg : List Nat} (h1 : lg.length = 201) (h2 : ∀ c ∈ lg, isSign c = true) :
    Gd (XL Pr wo K mg base f cdv A outer s H E) (Wd0 E) 21 [.v (.scr ns), x1, x2, x3, x4, x5, x6, x7, x8, x9, x10, x11, .v (.str (mk lg)), x13, x14, x15] := by
  have hv : isValueD (.str (mk (lg.drop 1))) = true := by
    show isTextL (lg.drop 1) = true
    unfold isTextL
    rw [decide_eq_true (by rw [List.length_drop]; omega), Bool.true_and, List.all_eq_true]
    intro c hc
    rw [h2 c (List.mem_of_mem_drop hc), Bool.or_true]
  have hd : dat (.str (mk (lg.drop 1))) = true := decide_eq_true (by show (lg.drop 1).length ≤ 100000; rw [List.length_drop]; omega)
  have hv2 : isValueD (.lst (List.replicate 20 [D.int 1]).flatten) = true := by decide
  have hd2 : dat (.lst (List.replicate 20 [D.int 1]).flatten) = true := by decide
  exact ⟨_, ret (vand_t (veqs (x := [102, 111, 117, 110, 100]) (y := [102, 111, 117, 110, 100]) rfl (de_ix (de_told0 cz L.told (by decide) de_int (slf (i := 1) (by omega) (va 12 rfl) de_int) (.text hd) (told_text hv)) de_int rfl) de_str) rfl
    (de_one (DE.cast (veqs (x := [102, 111, 117, 110, 100]) (y := [102, 111, 117, 110, 100]) rfl (de_ix (de_told0 cz L.told (by decide) de_int (de_still (de_rep (i := 20) (by decide) (by decide) (by decide) (de_still (de_lst (da_cons de_int da_nil) (by show 1 ≤ sizeLine; decide))) de_int)) (.text hd2) (told_text hv2)) de_int rfl) de_str) rfl)))⟩
theorem g20 (L : Lw Pr wo K mg base) (cz : Cz (XL Pr wo K mg base f cdv A outer s H E) (Wd0 E) 8) {b : D} (hb : Bd0 b)
    (h : Gd (XL Pr wo K mg base f cdv A outer s H E) (Wd0 E) 21 [.v (.scr ns), x1, x2, x3, x4, x5, x6, x7, x8, x9, x10, x11, x12, x13, .v b, .no]) :
    Gd (XL Pr wo K mg base f cdv A outer s H E) (Wd0 E) 20 [.v (.scr ns), x1, x2, x3, x4, x5, x6, x7, x8, x9, x10, x11, x12, x13, .v b, .no] := by
  obtain ⟨ρ', h⟩ := h
  refine ⟨ρ', if_n (dt_neD (d1 := .lst [refu, refu]) (d2 := .lst [refu, refu]) cz ok_refus ok_refus (de_still (lcm (l := ([0, 1] : List Int)) (g := D.int) (f := fun _ => refu) 15 cz (di_tup (de_tup (da_cons de_int (da_cons de_int da_nil)) (by show 2 ≤ sizeLine; decide))) (by decide) fun y hy s0 H0 C0 cl fp => ?_)) (de_still (de_rep (i := 2) (by decide) (by decide) (by decide) (de_still (de_lst (da_cons (de_tup (da_cons (cs rfl) (da_cons (cs rfl) da_nil)) (by show 2 ≤ sizeLine; decide)) da_nil) (by show 1 ≤ sizeLine; decide))) de_int))) (by decide) h⟩
  simp only [List.mem_cons, List.not_mem_nil, or_false] at hy
  rcases hy with rfl | rfl
  · exact de_told0 (cz.blk s0 H0 C0 cl fp) L.told (by decide) (va 15 rfl) (va 14 rfl) (.kind hb.d) (told_kindN hb.v)
  · exact de_told0 (cz.blk s0 H0 C0 cl fp) L.told (by decide) (va 15 rfl) (va 14 rfl) (.text hb.d) (told_textN hb.v)
end
end K01


set_option Elab.async false
set_option linter.all false
set_option maxRecDepth 100000
set_option maxHeartbeats 4000000
namespace K01
open PySem PySem.Spec PyProof.Rows L2 Dt
theorem ones_ok (n : Nat) : okD (ones n) = true := by
  have h1 : ∀ n, plainL (List.replicate n (.int 1)) = true := fun n => by
    induction n with
    | zero => rfl
    | succ n ih => exact ih
  have h2 : ∀ n, PyData.canLayAll0 (toPyL (List.replicate n (.int 1))) = true := fun n => by
    induction n with
    | zero => rfl
    | succ n ih => exact ih
  have h3 : ∀ n, PyData.depthAll (toPyL (List.replicate n (.int 1))) = 0 := fun n => by
    induction n with
    | zero => rfl
    | succ n ih =>
      show max 0 (PyData.depthAll (toPyL (List.replicate n (.int 1)))) = 0
      rw [ih]
      rfl
  unfold okD SeqAt.shaped ones
  show (plainL (List.replicate n (.int 1)) && (PyData.canLayAll0 (toPyL (List.replicate n (.int 1))) && decide (PyData.depthAll (toPyL (List.replicate n (.int 1))) + 1 ≤ 64))) = true
  rw [h1, h2, h3]
  rfl
def itsB (b : D) (q : Nat) : List D := [D.int 1, .str (mk [97]), .bl true].take q ++ [b] ++ [D.int 1, .str (mk [97]), .bl true].drop q
theorem itsB_bad {b : D} {q : Nat} (hb : Bd0 b) : isValueD (.lst (itsB b q)) = false ∧ dat (.lst (itsB b q)) = true := by
  constructor
  · show (decide ((itsB b q).length ≤ 20) && (itsB b q).all isSingleD) = false
    have : (itsB b q).all isSingleD = false := by
      unfold itsB
      rw [List.all_append, List.all_append, List.all_cons, hb.s, Bool.false_and, Bool.and_false, Bool.false_and]
    rw [this, Bool.and_false]
  · show (decide ((itsB b q).length ≤ 100000) && (itsB b q).all dat1) = true
    have h1 : (itsB b q).length ≤ 100000 := by
      unfold itsB
      simp only [List.length_append, List.length_take, List.length_drop, List.length_cons, List.length_nil]
      omega
    have h2 : (itsB b q).all dat1 = true := by
      rw [List.all_eq_true]
      intro x hx
      have h3 : ∀ y ∈ [D.int 1, .str (mk [97]), .bl true], dat1 y = true := by decide
      unfold itsB at hx
      rcases List.mem_append.mp hx with hx | hx
      · rcases List.mem_append.mp hx with hx | hx
        · exact h3 x (List.mem_of_mem_take hx)
        · rw [List.mem_singleton.mp hx]
          exact dat_1 hb.d
      · exact h3 x (List.mem_of_mem_drop hx)
    rw [decide_eq_true h1, h2]
    rfl
def someL (lg : List Nat) : List D := [.int (10 ^ 9), .int (0 - 10 ^ 9), .non, .tup [.int 1, .int 2], .str (mk lg), .str (mk [97, 9, 98]), .str (mk [9]), ones 21, .lst [.lst [.int 1]], .lst [.non]]
theorem some_bad {lg : List Nat} (h1 : lg.length = 201) (h2 : ∀ c ∈ lg, isSign c = true) : ∀ b ∈ someL lg, Bd0 b := by
  have sg : ∀ {c : Nat}, isSign c = true → c < 1000 := fun {c} h => by
    unfold isSign at h
    rw [Bool.and_eq_true, Bool.and_eq_true] at h
    have := of_decide_eq_true h.1.2
    omega
  intro b hb
  unfold someL at hb
  simp only [List.mem_cons, List.not_mem_nil, or_false] at hb
  rcases hb with rfl | rfl | rfl | rfl | rfl | rfl | rfl | rfl | rfl | rfl
  · exact ⟨by decide, by decide, rfl, by decide⟩
  · exact ⟨by decide, by decide, rfl, by decide⟩
  · exact ⟨rfl, rfl, rfl, by decide⟩
  · exact ⟨rfl, rfl, rfl, by decide⟩
  · have hs : isTextL lg = false := by
      unfold isTextL
      rw [decide_eq_false (by omega), Bool.false_and]
    exact ⟨hs, hs, decide_eq_true (by show lg.length ≤ 100000; omega), ok_str fun c hc => sg (h2 c hc)⟩
  · exact ⟨by decide, by decide, by decide, ok_str (by decide)⟩
  · exact ⟨by decide, by decide, by decide, ok_str (by decide)⟩
  · exact ⟨rfl, by decide, by decide, ones_ok 21⟩
  · exact ⟨rfl, by decide, by decide, by decide⟩
  · exact ⟨rfl, by decide, by decide, by decide⟩
section
variable {Pr : Program} {wo : World} {K : PySem.W.Frag} {mg : Str → Option Value} {base : Heap} {f : Addr} {cdv : Value} {A : Around} {outer : List PySem.Env} {s : Shared} {H : Hp} {E : XK} {ns : List Int} {k : Nat}
variable {x1 x2 x3 x4 x5 x6 x7 x8 x9 x10 x11 x12 x13 x14 x15 : S} {n : Nat}
theorem g19 (L : Lw Pr wo K mg base) (cz : Cz (XL Pr wo K mg base f cdv A outer s H E) (Wd0 E) 8) {b : D} {q : Nat} (hb : Bd0 b)
    (h : Gd (XL Pr wo K mg base f cdv A outer s H E) (Wd0 E) 20 [.v (.scr ns), x1, x2, x3, x4, x5, x6, x7, x8, x9, .v (.lst (itsB b q)), x11, x12, x13, .v b, .no]) :
    Gd (XL Pr wo K mg base f cdv A outer s H E) (Wd0 E) 19 [.v (.scr ns), x1, x2, x3, x4, x5, x6, x7, x8, x9, .v (.lst (itsB b q)), x11, x12, x13, .v b, .no] := by
  obtain ⟨ρ', h⟩ := h
  obtain ⟨hv, hd⟩ := itsB_bad (q := q) hb
  have o21 : (List.replicate (21 : Int).toNat [D.int 1]).flatten = List.replicate 21 (.int 1) := ones_eq 21
  refine ⟨ρ', if_n (dt_w (dw_and (k := !eqD b (ones 21)) (k' := false) (dt_neD cz hb.o (ones_ok 21) (va 14 rfl) (DE.cast (de_still (de_rep (i := 21) (by decide) (by decide) (by decide) (de_still (de_lst (da_cons de_int da_nil) (by show 1 ≤ sizeLine; decide))) de_int)) (congrArg D.lst o21))) fun _ => dw_and1 (to (dt_neD (d1 := .lst [refu, refu]) (d2 := .lst [refu, refu]) cz ok_refus ok_refus (de_still (lcm (l := ([0, 1] : List Int)) (g := D.int) (f := fun _ => refu) 15 cz (di_tup (de_tup (da_cons de_int (da_cons de_int da_nil)) (by show 2 ≤ sizeLine; decide))) (by decide) fun y hy s0 H0 C0 cl fp => ?_)) (de_still (de_rep (i := 2) (by decide) (by decide) (by decide) (de_still (de_lst (da_cons (de_tup (da_cons (cs rfl) (da_cons (cs rfl) da_nil)) (by show 2 ≤ sizeLine; decide)) da_nil) (by show 1 ≤ sizeLine; decide))) de_int))) (by decide)))) (Bool.and_false _) h⟩
  simp only [List.mem_cons, List.not_mem_nil, or_false] at hy
  rcases hy with rfl | rfl
  · exact de_told0 (cz.blk s0 H0 C0 cl fp) L.told (by decide) (va 15 rfl) (va 10 rfl) (.kind hd) (told_kindN hv)
  · exact de_told0 (cz.blk s0 H0 C0 cl fp) L.told (by decide) (va 15 rfl) (va 10 rfl) (.text hd) (told_textN hv)
theorem g15 (L : Lw Pr wo K mg base) (cz : Cz (XL Pr wo K mg base f cdv A outer s H E) (Wd0 E) 8) {lg : List Nat} (hn : n < 50000) (h1 : lg.length = 201) (h2 : ∀ c ∈ lg, isSign c = true) :
    Gd (XL Pr wo K mg base f cdv A outer s H E) (Wd0 E) 15 [.v (.scr ns), .own none (tw n), x2, x3, x4, x5, x6, x7, x8, x9, x10, x11, .v (.str (mk lg)), x13, x14, .no] := by
  have hb : Bd0 (pickD ns n (someL lg)) := some_bad h1 h2 _ (pick_mem (by show 0 < 10; decide))
  have dl := draw_lt (ns := ns) (n := n + 1) (m := 4) (by decide)
  obtain ⟨ρ', h⟩ := g19 (q := drawN ns (n + 1) 4) L cz hb (g20 L cz hb (g21 (ns := ns) (x1 := .own none (tw (n + 2))) (x2 := x2) (x3 := x3) (x4 := x4) (x5 := x5) (x6 := x6) (x7 := x7) (x8 := x8) (x9 := x9) (x10 := .v (.lst (itsB (pickD ns n (someL lg)) (drawN ns (n + 1) 4)))) (x11 := x11) (x13 := .v (.lst (someL lg))) (x14 := .v (pickD ns n (someL lg))) (x15 := .no) L cz h1 h2))
  have o21 : (List.replicate (21 : Int).toNat [D.int 1]).flatten = List.replicate 21 (.int 1) := ones_eq 21
  have i9 : (10 : Int) ^ (9 : Int).toNat = 10 ^ 9 := rfl
  refine ⟨ρ', seq (st (d := .lst (someL lg)) 13 cz (de_still (de_lst (da_cons (de_pow ⟨by decide, by decide, by decide⟩ de_int de_int) (da_cons (de_sub de_int (de_pow ⟨by decide, by decide, by decide⟩ de_int de_int)) (da_cons de_non (da_cons (de_tup (da_cons de_int (da_cons de_int da_nil)) (by show 2 ≤ sizeLine; decide)) (da_cons (va 12 rfl) (da_cons (cs (y := [97, 9, 98]) rfl) (da_cons (cs (y := [9]) rfl) (da_cons (DE.cast (de_still (de_rep (i := 21) (by decide) (by decide) (by decide) (de_still (de_lst (da_cons de_int da_nil) (by show 1 ≤ sizeLine; decide))) de_int)) (congrArg D.lst o21)) (da_cons (de_still (de_lst (da_cons (de_still (de_lst (da_cons de_int da_nil) (by show 1 ≤ sizeLine; decide))) da_nil) (by show 1 ≤ sizeLine; decide))) (da_cons (de_still (de_lst (da_cons de_non da_nil) (by show 1 ≤ sizeLine; decide))) da_nil)))))))))) (by show 10 ≤ sizeLine; decide))))
    (seq (st 14 cz (de_pick (ds := someL lg) (it := 1) cz L.pick (by decide) (va 0 rfl) rfl rfl (va 13 rfl) rfl (by show 0 < 10; decide) (by omega)))
    (seq (sto 10 cz (de_lst (da_cons de_int (da_cons (cs (y := [97]) rfl) (da_cons de_bl da_nil))) (by show 3 ≤ sizeLine; decide)))
    (seq (ds_insert (ds := [D.int 1, .str (mk [97]), .bl true]) (i := 10) rfl (by first | exact Or.inl rfl | exact Or.inr (Or.inl rfl) | exact Or.inr (Or.inr rfl)) (de_draw (m := 4) (it := 1) cz L.draw (by decide) (va 0 rfl) rfl rfl (de_int (i := 4)) rfl (by decide) (by omega)) (va 14 rfl) rfl ⟨_, _, rfl⟩ (by show 3 < sizeLine; decide) (by omega))
    (dss_freeze 10 rfl h))))⟩
end
end K01


set_option Elab.async false
set_option linter.all false
set_option maxRecDepth 100000
set_option maxHeartbeats 4000000
namespace K01
open PySem PySem.Spec PyProof.Rows L2 Dt
theorem rep_flat (c n : Nat) : (List.replicate n [c]).flatten = List.replicate n c := by
  induction n with
  | zero => rfl
  | succ n ih => rw [List.replicate_succ, List.flatten_cons, ih, List.replicate_succ]; rfl
section
variable {X : Cx} {W : WX} {ρ ρ1 ρ2 : List S} {a b : Expr} {pos : Pos} {z : Str} {c n : Nat}
theorem muls (ha : DE X W a ρ (.val (.str (mk [c])) ρ1)) (hn : n ≤ 1000) (hb : DE X W b ρ1 (.val (.int (n : Int)) ρ2)) : DE X W (.BinOp a .Mult b pos) ρ (.val (.str (mk (List.replicate n c))) ρ2) := by
  have h := de_mulS (pos := pos) (n := n) (by show 1 * n ≤ 1000000; omega) (by omega) ha hb
  have e : repS (mk [c]) n = mk (List.replicate n c) := by
    show mk ((List.replicate n [c]).flatten) = _
    rw [rep_flat]
  rwa [e] at h
end
theorem sign_lt {c : Nat} (h : isSign c = true) : c < 1000 := by
  unfold isSign at h
  rw [Bool.and_eq_true, Bool.and_eq_true] at h
  have := of_decide_eq_true h.1.2
  omega
section
variable {Pr : Program} {wo : World} {K : PySem.W.Frag} {mg : Str → Option Value} {base : Heap} {f : Addr} {cdv : Value} {A : Around} {outer : List PySem.Env} {s : Shared} {H : Hp} {E : XK} {ns : List Int} {k : Nat}
variable {x1 x2 x3 x4 x5 x6 x7 x8 x9 x10 x11 x12 x13 x14 x15 : S} {n : Nat}
theorem g13 (L : Lw Pr wo K mg base) (cz : Cz (XL Pr wo K mg base f cdv A outer s H E) (Wd0 E) 8) (hn : n < 40000) :
    Gd (XL Pr wo K mg base f cdv A outer s H E) (Wd0 E) 13 [.v (.scr ns), .own none (tw n), x2, x3, x4, x5, x6, x7, x8, x9, x10, x11, x12, x13, x14, .no] := by
  have dl := draw_lt (ns := ns) (n := n) (m := 200) (by decide)
  obtain ⟨lg, elg⟩ : ∃ lg, lg = (List.replicate (drawN ns n 200) 97 ++ [signG ns (n + 1)]) ++ List.replicate (200 - drawN ns n 200) 98 := ⟨_, rfl⟩
  have h1 : lg.length = 201 := by
    rw [elg, List.length_append, List.length_append, List.length_replicate, List.length_replicate, List.length_singleton]
    omega
  have h2 : ∀ c ∈ lg, isSign c = true := by
    rw [elg]
    intro c hc
    rcases List.mem_append.mp hc with hc | hc
    · rcases List.mem_append.mp hc with hc | hc
      · rw [(List.mem_replicate.mp hc).2]; decide
      · rw [List.mem_singleton.mp hc]; exact sign_ok _ _
    · rw [(List.mem_replicate.mp hc).2]; decide
  obtain ⟨ρ', h⟩ := g15 (ns := ns) (n := n + 3) (x2 := x2) (x3 := x3) (x4 := x4) (x5 := x5) (x6 := x6) (x7 := .v (.int (drawN ns n 200 : Nat))) (x8 := x8) (x9 := x9) (x10 := x10) (x11 := x11) (x13 := x13) (x14 := x14) L cz (by omega) h1 h2
  rw [elg] at h
  have hs : (200 : Int) - ((drawN ns n 200 : Nat) : Int) = ((200 - drawN ns n 200 : Nat) : Int) := by omega
  exact ⟨ρ', seq (st 7 cz (de_draw (m := 200) (it := 1) cz L.draw (by decide) (va 0 rfl) rfl rfl (de_int (i := 200)) rfl (by decide) (by omega)))
    (seq (st 12 cz (cats (by rw [List.length_append, List.length_replicate, List.length_replicate, List.length_singleton]; omega) (cats (by rw [List.length_replicate, List.length_singleton]; omega) (muls (n := drawN ns n 200) (c := 97) (cs rfl) (by omega) (va 7 rfl)) (de_st (g := gSign) (it := 1) cz L.sign (by decide) (va 0 rfl) rfl rfl (by omega))) (muls (n := 200 - drawN ns n 200) (c := 98) (cs rfl) (by omega) (DE.cast (de_sub de_int (va 7 rfl)) (congrArg D.int hs))))) h)⟩
/-- the list of written singles -/
def wrL (ns : List Int) (n m : Nat) : List (List Nat) := outsN (fun n => textS (gSingle ns n).1) (fun n => (gSingle ns n).2) n m
theorem wr_all (ns : List Int) (n m : Nat) : ∀ l ∈ wrL ns n m, l.length ≤ 402 ∧ l.all isSign = true := outs_all _ _ _ (fun n => ⟨textS_len (gSingle_ok ns n), textS_signs (gSingle_ok ns n)⟩) _ _
theorem wr_len (ns : List Int) (n m : Nat) : (wrL ns n m).length = m := outs_len _ _ _ _
theorem g10 (L : Lw Pr wo K mg base) (cz : Cz (XL Pr wo K mg base f cdv A outer s H E) (Wd0 E) 8) (hn : n < 30000) :
    Gd (XL Pr wo K mg base f cdv A outer s H E) (Wd0 E) 10 [.v (.scr ns), .own none (tw n), x2, x3, x4, x5, x6, x7, x8, x9, .no, x11, x12, x13, x14, .no] := by
  obtain ⟨m, em⟩ : ∃ m, m = pk 0 ns n [1, 2, 20, 21] := ⟨_, rfl⟩
  have hm : m ≤ 21 := by
    have h := pk_mem 0 (ns := ns) (n := n) (L := [1, 2, 20, 21]) (by decide)
    rw [← em] at h
    simp only [List.mem_cons, List.not_mem_nil, or_false] at h
    omega
  have pm : pickD ns n [.int ((1 : Nat) : Int), .int ((2 : Nat) : Int), .int ((20 : Nat) : Int), .int ((21 : Nat) : Int)] = .int ((m : Nat) : Int) := by
    rw [em]
    exact pick_map 0 (ns := ns) (n := n) (L := [1, 2, 20, 21]) (f := fun c => D.int (c : Nat)) (by decide)
  obtain ⟨n2, en2⟩ : ∃ n2, n2 = itN (fun n => (gSingle ns n).2) (n + 1) m := ⟨_, rfl⟩
  have hn2 : n2 ≤ n + 1 + 70 * m := by rw [en2]; exact it_le (g := fun n => (gSingle ns n).2) (c := 70) (fun n => gSingle_n ns n) m (n + 1)
  have dl := draw_lt (ns := ns) (n := n2) (m := 3) (by decide)
  obtain ⟨g, eg⟩ : ∃ g, g = drawN ns n2 3 := ⟨_, rfl⟩
  rw [← eg] at dl
  have wa := wr_all ns (n + 1) m
  have wl := wr_len ns (n + 1) m
  obtain ⟨ws, ews⟩ : ∃ ws, ws = wrL ns (n + 1) m := ⟨_, rfl⟩
  rw [← ews] at wa wl
  have sum : (ws.map List.length).sum ≤ ws.length * 402 := sum_le List.length 402 ws fun l hl => (wa l hl).1
  have glen : (List.replicate g 32 ++ [44] ++ List.replicate g 32 ++ [32]).length ≤ 6 := by
    simp only [List.length_append, List.length_replicate, List.length_singleton]
    omega
  obtain ⟨sp, esp⟩ : ∃ sp, sp = List.replicate g 32 ++ [44] ++ List.replicate g 32 ++ [32] := ⟨_, rfl⟩
  rw [← esp] at glen
  have jl := joinL_len sp ws
  have b1 : ws.length * sp.length ≤ 21 * 6 := Nat.mul_le_mul (by omega) glen
  have b2 : ws.length * 402 ≤ 21 * 402 := Nat.mul_le_mul_right _ (by omega)
  have rep32 : ∀ c ∈ List.replicate g 32, c < 1000 := fun c hc => by rw [(List.mem_replicate.mp hc).2]; decide
  have jall : ∀ c ∈ TL.joinL sp ws, c < 1000 := by
    have h := joinL_all (fun c => decide (c < 1000)) sp (by
      rw [esp, List.all_eq_true]
      intro c hc
      refine decide_eq_true ?_
      simp only [List.mem_append, List.mem_singleton] at hc
      rcases hc with ((hc | hc) | hc) | hc
      · exact rep32 c hc
      · omega
      · exact rep32 c hc
      · omega) ws fun l hl => List.all_eq_true.mpr fun c hc => decide_eq_true (sign_lt (List.all_eq_true.mp (wa l hl).2 c hc))
    intro c hc
    exact of_decide_eq_true (List.all_eq_true.mp h c hc)
  have tall : ∀ c ∈ [91] ++ List.replicate g 32 ++ TL.joinL sp ws ++ List.replicate g 32 ++ [93], c < 1000 := by
    intro c hc
    simp only [List.mem_append, List.mem_singleton] at hc
    rcases hc with (((hc | hc) | hc) | hc) | hc
    · omega
    · exact rep32 c hc
    · exact jall c hc
    · exact rep32 c hc
    · omega
  obtain ⟨ρ', h⟩ := g13 (ns := ns) (n := n2 + 1) (x2 := x2) (x3 := x3) (x4 := x4) (x5 := x5) (x6 := .no) (x7 := x7) (x8 := x8) (x9 := x9) (x10 := .own none (.lst (ws.map fun l => .str (mk l)))) (x11 := .v (.str (mk (List.replicate g 32)))) (x12 := x12) (x13 := x13) (x14 := x14) L cz (by omega)
  refine ⟨ρ', dss_forget 6 (seq (sto 10 cz (lc 6 cz (di_rng (n := m) L.b.range (DE.cast (de_pick (it := 1) cz L.pick (by decide) (va 0 rfl) rfl rfl (de_still (de_lst (da_cons de_int (da_cons de_int (da_cons de_int (da_cons de_int da_nil)))) (by show 4 ≤ sizeLine; decide))) rfl (by show 0 < 4; decide) (by omega)) pm) (by omega))
    (lcr_st (B := 80000) (P := fun n' => [.v (.scr ns), .own none (tw n'), x2, x3, x4, x5, .no, x7, x8, x9, .no, x11, x12, x13, x14, .no]) (f := fun n => .str (mk (textS (gSingle ns n).1))) (g := fun n => (gSingle ns n).2) (fun _ => rfl) (fun n' d hb s0 H0 C0 cl fp => ?_) _ (n + 1) ?_) ?_)) ?_)⟩
  · exact de_callV (cz.blk s0 H0 C0 cl fp) L.wr1 (by decide) (da_cons (de_st (g := gSingle) (it := 1) (cz.blk s0 H0 C0 cl fp) L.single (by decide) (va 0 rfl) rfl rfl hb) da_nil) ⟨_, gSingle_ok ns n', rfl, rfl, rfl⟩
  · intro i hi
    rw [rngD_len] at hi
    have := it_le (g := fun n => (gSingle ns n).2) (c := 70) (fun n => gSingle_n ns n) i (n + 1)
    omega
  · rw [outs_len, rngD_len]
    exact szL (by omega)
  · rw [rngD_len]
    have e : outsN (fun n => D.str (mk (textS (gSingle ns n).1))) (fun n => (gSingle ns n).2) (n + 1) m = ws.map fun l => .str (mk l) := by
      rw [ews]
      exact outs_map (fun n => textS (gSingle ns n).1) (fun l => D.str (mk l)) _ _ _
    rw [e, ← en2]
    refine seq (st 11 cz (muls (n := g) (c := 32) (cs rfl) (by omega) (DE.cast (de_draw (m := 3) (it := 1) cz L.draw (by decide) (va 0 rfl) rfl rfl (de_int (i := 3)) rfl (by decide) (by omega)) (by rw [eg])))) (if_n (dt_not (tb (de_callV (r := .ret (.bl true)) cz L.isr (by decide) (da_cons
      (cats (x := [91] ++ List.replicate g 32 ++ TL.joinL sp ws ++ List.replicate g 32) (y := [93]) ?_ (cats (x := [91] ++ List.replicate g 32 ++ TL.joinL sp ws) (y := List.replicate g 32) ?_ (cats (x := [91] ++ List.replicate g 32) (y := TL.joinL sp ws) ?_ (cats (x := [91]) (y := List.replicate g 32) ?_ (cs rfl) (va 11 rfl))
        (joins (s := sp) (ls := ws) (by omega) (DE.cast (cats (x := List.replicate g 32 ++ [44] ++ List.replicate g 32) (y := [32]) ?_ (cats (x := List.replicate g 32 ++ [44]) (y := List.replicate g 32) ?_ (cats (x := List.replicate g 32) (y := [44]) ?_ (va 11 rfl) (cs rfl)) (va 11 rfl)) (cs rfl)) (by rw [esp])) (vb 10 rfl))) (va 11 rfl)) (cs rfl)) da_nil) ⟨_, ?_, tall, rfl, rfl, rfl⟩))) rfl h)
    all_goals (simp only [List.length_append, List.length_replicate, List.length_singleton]; omega)
end
end K01


set_option Elab.async false
set_option linter.all false
set_option maxRecDepth 100000
set_option maxHeartbeats 1000000
namespace K01
open PySem PySem.Spec PyProof.Rows L2 Dt
theorem da_c {X : Cx} {W : WX} {ρ ρ1 : List S} {z : Str} {j : Nat} {p : Pos} {es : List Expr} {ds : List D} {y : List Nat} (hz : z = mk y) (h : DA X W es ρ ds ρ1) : DA X W (.Constant (.str z) j p :: es) ρ (.str (mk y) :: ds) ρ1 := da_cons (cs hz) h rfl
theorem slfT {X : Cx} {W : WX} {ρ ρ1 ρ2 : List S} {pos p2 : Pos} {a e1 : Expr} {l : List Nat} {i : Nat} (hz : l.length ≤ 100000) (h : DE X W a ρ (.val (.str (mk l)) ρ1)) (h1 : DE X W e1 ρ1 (.val (.int (i : Int)) ρ2)) : DE X W (.Subscript a (.Slice (some e1) none none p2) pos) ρ (.val (.str (mk (l.drop i))) ρ2) := by
  rw [← cut_from]
  exact de_slS h (do_some h1) do_none (szL hz)
def odds : List (List Nat) := [[45, 48], [45, 48, 53], [48, 48], [48], [45], [45, 45, 49], [49, 45], [45, 49], [49, 48, 48, 48, 48, 48, 48, 48, 48, 48], [121, 101, 115, 32], [34, 97], [], [91], [91, 49, 93, 93]]
def fI : Stmt → Expr
  | .For _ i _ _ _ => i
  | _ => .Constant .none 0 ⟨0, 0, 0, 0⟩
def lsE : Expr → List Expr
  | .List es _ => es
  | _ => []
theorem drop_body {st : Stmt} {i : Nat} (h : i < (defBody st).length) : (defBody st).drop i = bodyAt st i :: (defBody st).drop (i + 1) := by
  rw [List.drop_eq_getElem_cons h]
  unfold bodyAt
  rw [List.getD_eq_getElem?_getD, List.getElem?_eq_getElem h]
  rfl
theorem for9 : ∃ p, bodyAt sLaw 9 = .For (fT (bodyAt sLaw 9)) (fI (bodyAt sLaw 9)) (fB (bodyAt sLaw 9)) [] p := by
  obtain ⟨a, b, c, e, h⟩ : ∃ a b c e, bodyAt sLaw 9 = .For a b c [] e := ⟨_, _, _, _, rfl⟩
  exact ⟨e, by rw [h]; rfl⟩
theorem list9 : ∃ p, fI (bodyAt sLaw 9) = .List (lsE (fI (bodyAt sLaw 9))) p := by
  obtain ⟨a, b, h⟩ : ∃ a b, fI (bodyAt sLaw 9) = .List a b := ⟨_, _, rfl⟩
  exact ⟨b, by rw [h]; rfl⟩
/-- a list of written texts -/
def conS : List Expr → List (List Nat) → Bool
  | [], [] => true
  | .Constant (.str z) _ _ :: es, y :: ys => decide (z = mk y) && conS es ys
  | _, _ => false
theorem da_conS {X : Cx} {W : WX} {ρ : List S} : ∀ {es : List Expr} {ys : List (List Nat)}, conS es ys = true → DA X W es ρ (ys.map fun l => .str (mk l)) ρ := by
  intro es
  induction es with
  | nil =>
    intro ys h
    cases ys with
    | nil => exact da_nil
    | cons y ys => cases h
  | cons e es ih =>
    intro ys h
    cases ys with
    | nil => cases e <;> first | cases h | (rename_i c _ _; cases c <;> cases h)
    | cons y ys =>
      cases e with
      | Constant c j p =>
        cases c with
        | str z =>
          have h : (decide (z = mk y) && conS es ys) = true := h
          rw [Bool.and_eq_true] at h
          exact da_c (of_decide_eq_true h.1) (ih h.2)
        | _ => cases h
      | _ => cases h
theorem g9c {X : Cx} {W : WX} {ρ ρ2 : List S} {k : Nat} {b : Stmt} {rest bd : List Stmt} {tg it : Expr} {es : List Expr} {p q : Pos} {o : Oc} (hb : b = .For tg it bd [] p) (hit : it = .List es q) (hc : conS es odds = true) (hr : FoR X W tg bd (odds.map fun l => .str (mk l)) ρ (.next ρ2)) (cz : Cz X W k) (h : DSs X W rest ρ2 o) : DSs X W (b :: rest) ρ o := by
  subst hit
  subst hb
  exact Dt.seq (ds_for cz.po cz.calm (di_list (de_still (de_lst (da_conS hc) (by rw [List.length_map]; exact szL (by decide))))) hr (fun _ => rfl)) h
theorem con9 : conS (lsE (fI (bodyAt sLaw 9))) odds = true := by decide +kernel
theorem textD_len {d : D} (hd : isValueD d = true) : (textD d).length ≤ 9000 := by
  by_cases hL : isListD d = true
  · cases d with
    | lst xs =>
      obtain ⟨h1, h2⟩ := val_lst hd
      have hs := items_len h1 h2
      have jl := joinL_len [44, 32] (xs.map textS)
      have hs' : ((xs.map textS).map List.length).sum + (xs.map textS).length * ([44, 32] : List Nat).length ≤ 8200 := hs
      show (([91] ++ TL.joinL [44, 32] (xs.map textS)) ++ [93]).length ≤ 9000
      simp only [List.length_append, List.length_singleton]
      omega
    | _ => cases hL
  · have hd1 : isSingleD d = true := by cases d <;> first | exact hd | exact absurd rfl hL
    have e : textD d = textS d := by cases d <;> first | rfl | exact absurd rfl hL
    have := textS_len hd1
    rw [e]
    omega
theorem textD_lt {d : D} (hd : isValueD d = true) : ∀ c ∈ textD d, c < 1000 := fun c hc => sign_lt (List.all_eq_true.mp (textD_signs hd) c hc)
theorem eq_tup (a b : Str) : eqD (.tup [.str a, .str b]) (.tup [.str a, .str b]) = true := by
  simp [eqD, toPy, toPyL, PyData.eqv, PyData.eqvAll]
theorem ok_ff {l : List Nat} (h : ∀ c ∈ l, c < 1000) : okD (.tup [.str sFound, .str (mk l)]) = true := ok_tup2 (n := 0) (by decide) (ok_str (by decide)) (ok_str h) (Nat.le_refl 0) (Nat.le_refl 0)
theorem kind_mk (d : D) : ∃ l : List Nat, kindD d = mk l ∧ ∀ c ∈ l, c < 1000 := by
  cases d <;> first
    | exact ⟨[116, 114, 117, 116, 104], rfl, by decide⟩
    | exact ⟨[110, 117, 109, 98, 101, 114], rfl, by decide⟩
    | exact ⟨[116, 101, 120, 116], rfl, by decide⟩
    | exact ⟨[108, 105, 115, 116], rfl, by decide⟩
section
variable {Pr : Program} {wo : World} {K : PySem.W.Frag} {mg : Str → Option Value} {base : Heap} {f : Addr} {cdv : Value} {A : Around} {outer : List PySem.Env} {s : Shared} {H : Hp} {E : XK} {ns : List Int} {k : Nat}
variable {x1 x2 x3 x4 x5 x6 x7 x8 x9 x10 x11 x12 x13 x14 x15 : S} {n : Nat}
theorem g9 (L : Lw Pr wo K mg base) (cz : Cz (XL Pr wo K mg base f cdv A outer s H E) (Wd0 E) 8) (hn : n < 30000) :
    Gd (XL Pr wo K mg base f cdv A outer s H E) (Wd0 E) 9 [.v (.scr ns), .own none (tw n), x2, x3, x4, x5, x6, x7, x8, x9, .no, x11, x12, x13, x14, .no] := by
  have run : ∀ (ls : List (List Nat)) (x9 : S), (∀ l ∈ ls, l.length ≤ 50000 ∧ ∀ c ∈ l, c < 1000) → ∃ x9', FoR (XL Pr wo K mg base f cdv A outer s H E) (Wd0 E) (fT (bodyAt sLaw 9)) (fB (bodyAt sLaw 9)) (ls.map fun l => .str (mk l))
      [.v (.scr ns), .own none (tw n), x2, x3, x4, x5, x6, x7, x8, x9, .no, x11, x12, x13, x14, .no] (.next [.v (.scr ns), .own none (tw n), x2, x3, x4, x5, x6, x7, x8, x9', .no, x11, x12, x13, x14, .no]) := by
    intro ls
    induction ls with
    | nil => exact fun x9 _ => ⟨x9, .nil⟩
    | cons l ls ih =>
      intro x9 h
      obtain ⟨x9', ih⟩ := ih (.v (.str (mk l))) fun q hq => h q (List.mem_cons_of_mem _ hq)
      obtain ⟨h1, h2⟩ := h l List.mem_cons_self
      exact ⟨x9', .turn (bd_name (i := 9) cz.nd rfl (.inl rfl)) (if_n (dt_not (tb (de_callV cz L.isr (by decide) (da_cons (va 9 rfl) da_nil) ⟨l, h1, h2, rfl, rfl, rfl⟩))) rfl dss_nil) ih⟩
  obtain ⟨x9', hr⟩ := run odds x9 (by decide)
  obtain ⟨ρ', h⟩ : ∃ ρ', DSs (XL Pr wo K mg base f cdv A outer s H E) (Wd0 E) ((defBody sLaw).drop (9 + 1)) [.v (.scr ns), .own none (tw n), x2, x3, x4, x5, x6, x7, x8, x9', .no, x11, x12, x13, x14, .no] (.ret (.bl true) ρ') := g10 (ns := ns) (x2 := x2) (x3 := x3) (x4 := x4) (x5 := x5) (x6 := x6) (x7 := x7) (x8 := x8) (x9 := x9') (x11 := x11) (x12 := x12) (x13 := x13) (x14 := x14) L cz hn
  obtain ⟨p, e9⟩ := for9
  obtain ⟨q, e91⟩ := list9
  have c9 := con9
  have db := drop_body (show 9 < (defBody sLaw).length by decide +kernel)
  show ∃ ρ', DSs _ _ ((defBody sLaw).drop 9) _ (.ret (.bl true) ρ')
  rw [db]
  clear db
  generalize (defBody sLaw).drop (9 + 1) = rest at h ⊢
  generalize lsE (fI (bodyAt sLaw 9)) = es at e91 c9
  generalize fT (bodyAt sLaw 9) = tg at hr e9
  generalize fB (bodyAt sLaw 9) = bd at hr e9
  generalize fI (bodyAt sLaw 9) = it at e9 e91
  generalize bodyAt sLaw 9 = b at e9 ⊢
  exact ⟨ρ', g9c e9 e91 c9 hr cz h⟩
end
end K01


set_option Elab.async false
set_option linter.all false
set_option maxRecDepth 100000
set_option maxHeartbeats 4000000
namespace K01
open PySem PySem.Spec PyProof.Rows L2 Dt
theorem for8 : ∃ p, bodyAt sLaw 8 = .For (fT (bodyAt sLaw 8)) (fI (bodyAt sLaw 8)) (fB (bodyAt sLaw 8)) [] p := by
  obtain ⟨a, b, c, e, h⟩ : ∃ a b c e, bodyAt sLaw 8 = .For a b c [] e := ⟨_, _, _, _, rfl⟩
  exact ⟨e, by rw [h]; rfl⟩
theorem g8c {X : Cx} {W : WX} {ρ ρ1 ρ2 : List S} {k : Nat} {b : Stmt} {rest bd : List Stmt} {tg it : Expr} {p : Pos} {items : List D} {o : Oc} (hb : b = .For tg it bd [] p) (hi : DI X W tg it ρ items ρ1) (hr : FoR X W tg bd items ρ1 (.next ρ2)) (cz : Cz X W k) (hs : ∀ x, foldedSetIterable it X.env x = pure x) (h : DSs X W rest ρ2 o) : DSs X W (b :: rest) ρ o := by
  subst hb
  exact Dt.seq (ds_for cz.po cz.calm hi hr hs) h
section
variable {Pr : Program} {wo : World} {K : PySem.W.Frag} {mg : Str → Option Value} {base : Heap} {f : Addr} {cdv : Value} {A : Around} {outer : List PySem.Env} {s : Shared} {H : Hp} {E : XK} {ns : List Int} {k : Nat}
variable {x1 x2 x3 x4 x5 x6 x7 x8 x9 x10 x11 x12 x13 x14 x15 : S} {n : Nat}
theorem g8 (L : Lw Pr wo K mg base) (cz : Cz (XL Pr wo K mg base f cdv A outer s H E) (Wd0 E) 8) {l : List Nat} (hn : n < 20000) (hl : l.length ≤ 20000) (hc : ∀ c ∈ l, c < 1000) :
    Gd (XL Pr wo K mg base f cdv A outer s H E) (Wd0 E) 8 [.v (.scr ns), .own none (tw n), x2, .v (.str (mk l)), x4, x5, x6, x7, x8, x9, .no, x11, x12, x13, x14, .no] := by
  have run : ∀ (ds : List D) (l : List Nat) (n : Nat) (x6 x7 x8 : S), ds.length + l.length ≤ 20003 → (∀ c ∈ l, c < 1000) → n + 5 * ds.length ≤ 25000 → ∃ l' n' x6' x7' x8', n' ≤ 25000 ∧ FoR (XL Pr wo K mg base f cdv A outer s H E) (Wd0 E) (fT (bodyAt sLaw 8)) (fB (bodyAt sLaw 8)) ds
      [.v (.scr ns), .own none (tw n), x2, .v (.str (mk l)), x4, x5, x6, x7, x8, x9, .no, x11, x12, x13, x14, .no] (.next [.v (.scr ns), .own none (tw n'), x2, .v (.str (mk l')), x4, x5, x6', x7', x8', x9, .no, x11, x12, x13, x14, .no]) := by
    intro ds
    induction ds with
    | nil => exact fun l n x6 x7 x8 _ _ hn => ⟨l, n, x6, x7, x8, by simpa using hn, .nil⟩
    | cons d ds ih =>
      intro l n x6 x7 x8 hl hc hn
      rw [List.length_cons] at hl hn
      have hz : l.length ≤ 100000 := by omega
      have dl := draw_lt (ns := ns) (n := n) (m := l.length + 1) (by omega)
      obtain ⟨a, ea⟩ : ∃ a, a = drawN ns n (l.length + 1) := ⟨_, rfl⟩
      rw [← ea] at dl
      have dl2 := draw_lt (ns := ns) (n := n + 4) (m := 2) (by decide)
      have mem := pk_mem ([] : List Nat) (ns := ns) (n := n + 3) (L := [[], [], [48], [44], [32], [93], [10], [signG ns (n + 1)]]) (by show 0 < 8; decide)
      have pm : pickD ns (n + 3) [.str (mk []), .str (mk []), .str (mk [48]), .str (mk [44]), .str (mk [32]), .str (mk [93]), .str (mk [10]), .str (mk [signG ns (n + 1)])] = .str (mk (pk [] ns (n + 3) [[], [], [48], [44], [32], [93], [10], [signG ns (n + 1)]])) :=
        pick_map ([] : List Nat) (ns := ns) (n := n + 3) (L := [[], [], [48], [44], [32], [93], [10], [signG ns (n + 1)]]) (f := fun l => D.str (mk l)) (by show 0 < 8; decide)
      generalize pk ([] : List Nat) ns (n + 3) [[], [], [48], [44], [32], [93], [10], [signG ns (n + 1)]] = sg at mem pm
      have so := sign_lt (sign_ok ns (n + 1))
      have hs : sg.length ≤ 1 ∧ ∀ c ∈ sg, c < 1000 := by
        simp only [List.mem_cons, List.not_mem_nil, or_false] at mem
        rcases mem with rfl | rfl | rfl | rfl | rfl | rfl | rfl | rfl
        all_goals first | exact ⟨by decide, by decide⟩ | exact ⟨Nat.le_refl 1, fun c hc => by rw [List.mem_singleton.mp hc]; exact so⟩
      obtain ⟨b, eb⟩ : ∃ b, b = drawN ns (n + 4) 2 := ⟨_, rfl⟩
      rw [← eb] at dl2
      have hl2 : ((l.take a ++ sg) ++ l.drop (a + b)).length ≤ l.length + 1 := by
        rw [List.length_append, List.length_append, List.length_take, List.length_drop]
        omega
      have hc2 : ∀ c ∈ (l.take a ++ sg) ++ l.drop (a + b), c < 1000 := by
        intro c hh
        rcases List.mem_append.mp hh with hh | hh
        · rcases List.mem_append.mp hh with hh | hh
          · exact hc c (List.mem_of_mem_take hh)
          · exact hs.2 c hh
        · exact hc c (List.mem_of_mem_drop hh)
      obtain ⟨l', n', x6', x7', x8', hn', ih⟩ := ih ((l.take a ++ sg) ++ l.drop (a + b)) (n + 5) (.v d) (.v (.int (a : Int))) (.v (.str (mk sg))) (by omega) hc2 (by omega)
      have e1 : (a : Int) + (b : Int) = ((a + b : Nat) : Int) := by omega
      refine ⟨l', n', x6', x7', x8', hn', .turn (bd_name (i := 6) cz.nd rfl (by first | exact Or.inl rfl | exact Or.inr rfl)) (seq (st 7 cz (DE.cast (de_draw (m := l.length + 1) (it := 1) cz L.draw (by decide) (va 0 rfl) rfl rfl (de_add (de_len (b_len L.b.len) (db_of (va 3 rfl)) (Dt.len_str (z := mk l) hz)) de_int) rfl (by omega) (by omega)) (by rw [ea])))
        (seq (st 8 cz (DE.cast (de_pick (n := n + 3) (it := 1) cz L.pick (by decide) (va 0 rfl) rfl rfl (de_still (de_lst (da_c (y := []) rfl (da_c (y := []) rfl (da_c (y := [48]) rfl (da_c (y := [44]) rfl (da_c (y := [32]) rfl (da_c (y := [93]) rfl (da_c (y := [10]) rfl (da_cons (de_st (g := gSign) (it := 1) cz L.sign (by decide) (va 0 rfl) rfl rfl (by omega)) da_nil)))))))) (by show 8 ≤ sizeLine; decide))) rfl (by show 0 < 8; decide) (by omega)) pm))
        (seq (st 3 cz (cats (x := l.take a ++ sg) (y := l.drop (a + b)) ?_ (cats (x := l.take a) (y := sg) ?_ (slt (j := a) hz (va 3 rfl) (va 7 rfl)) (va 8 rfl)) (slfT (i := a + b) hz (va 3 rfl) (DE.cast (de_add (va 7 rfl) (DE.cast (d' := .int (b : Nat)) (de_draw (m := 2) (it := 1) cz L.draw (by decide) (va 0 rfl) rfl rfl (de_int (i := 2)) rfl (by decide) (by omega)) (by rw [eb]))) (congrArg D.int e1)))))
        (if_n (dt_not (tb (de_callV cz L.isr (by decide) (da_cons (va 3 rfl) da_nil) ⟨(l.take a ++ sg) ++ l.drop (a + b), by omega, hc2, rfl, rfl, rfl⟩))) rfl dss_nil)))) ih⟩
      · rw [List.length_append] at hl2
        omega
      · rw [List.length_take]
        omega
  obtain ⟨l', n', x6', x7', x8', hn', hr⟩ := run (rngD 0 3) l n x6 x7 x8 (by rw [rngD_len]; omega) hc (by rw [rngD_len]; omega)
  obtain ⟨ρ', h⟩ : ∃ ρ', DSs (XL Pr wo K mg base f cdv A outer s H E) (Wd0 E) ((defBody sLaw).drop (8 + 1)) [.v (.scr ns), .own none (tw n'), x2, .v (.str (mk l')), x4, x5, x6', x7', x8', x9, .no, x11, x12, x13, x14, .no] (.ret (.bl true) ρ') := g9 (ns := ns) (x2 := x2) (x3 := .v (.str (mk l'))) (x4 := x4) (x5 := x5) (x6 := x6') (x7 := x7') (x8 := x8') (x9 := x9) (x11 := x11) (x12 := x12) (x13 := x13) (x14 := x14) (n := n') L cz (by omega)
  have hdi : DI (XL Pr wo K mg base f cdv A outer s H E) (Wd0 E) (fT (bodyAt sLaw 8)) (fI (bodyAt sLaw 8)) [.v (.scr ns), .own none (tw n), x2, .v (.str (mk l)), x4, x5, x6, x7, x8, x9, .no, x11, x12, x13, x14, .no] (rngD 0 3) [.v (.scr ns), .own none (tw n), x2, .v (.str (mk l)), x4, x5, x6, x7, x8, x9, .no, x11, x12, x13, x14, .no] := di_rng (n := 3) L.b.range de_int (by decide)
  have hs : ∀ x, foldedSetIterable (fI (bodyAt sLaw 8)) (XL Pr wo K mg base f cdv A outer s H E).env x = pure x := fun _ => rfl
  obtain ⟨p, e8⟩ := for8
  have db := drop_body (show 8 < (defBody sLaw).length by decide +kernel)
  show ∃ ρ', DSs _ _ ((defBody sLaw).drop 8) _ (.ret (.bl true) ρ')
  rw [db]
  clear db
  generalize (defBody sLaw).drop (8 + 1) = rest at h ⊢
  generalize fT (bodyAt sLaw 8) = tg at hr e8 hdi
  generalize fB (bodyAt sLaw 8) = bd at hr e8
  generalize fI (bodyAt sLaw 8) = it at e8 hdi hs
  generalize bodyAt sLaw 8 = b at e8 ⊢
  exact ⟨ρ', g8c e8 hdi hr cz hs h⟩
end
end K01


set_option Elab.async false
set_option linter.all false
set_option maxRecDepth 100000
set_option maxHeartbeats 1000000
namespace K01
open PySem PySem.Spec PyProof.Rows L2 Dt
section
variable {Pr : Program} {wo : World} {K : PySem.W.Frag} {mg : Str → Option Value} {base : Heap}
theorem fnOkF {x : Str} {st : Stmt} {N ns : List Str} {f : Addr} {fd : FuncData} {k n : Nat} {fc : Con} (F : Fun K x x st f fd) (Sc : FnScope N ns (defScope st)) (hl : ∀ qs r os, fc qs r os → qs.length = ns.length) (hn : N.length - ns.length = n)
    (hb : ∀ f cdv A outer s H E, Cz (Xd Pr wo K mg base N x st f cdv A outer s H E) (Wd0 E) k → ∀ qs r os, fc qs r os → ∃ o, DSs (Xd Pr wo K mg base N x st f cdv A outer s H E) (Wd0 E) (defBody st) (toS 0 qs ++ List.replicate n .no) o ∧ Tells qs os o r) :
    FnOk Pr wo K mg base (L2.CX Pr wo) (k + 1) f fd ns (spC K fc) := by
  refine F.okX Sc (fun vs H Q E h => ?_) (fun cdv A outer s H vs Q E hr h => ?_)
  · obtain ⟨I, qs, A, r, os, h1, h2, h3, _⟩ := h
    rw [h2.length]
    exact hl _ _ _ h3
  · obtain ⟨I, qs, B, r, os, h1, h2, h3, h4⟩ := h
    have hlen : vs.length = ns.length := by rw [h2.length]; exact hl _ _ _ h3
    have ev := ev_start (N := N) (n := n) h1 h2 (by rw [hlen]; exact hn)
    refine ⟨_, pss_wp, ?_⟩
    have cz : Cz (Xd Pr wo K mg base N x st f cdv A outer s H E) (Wd0 E) k := ⟨rfl, Sc.nd, takes_of rfl rfl rfl rfl, passes_of rfl, hr⟩
    obtain ⟨o, h5, h6⟩ := hb f cdv A outer s H E cz qs r os h3
    have fin : ∀ {σ' : L2.St} {ρ' : List S} {I' H' : Hp}, Ev K ⟨I, H, B, fun _ => none⟩ I' H' σ' ρ' → Fin ρ' 0 0 qs os → Done K H I' H' Q E r := fun e' f' => h4 _ _ e'.step (back_of e' 0 0 os h2 (fun m φ q => by rw [Nat.zero_add]; exact q) f')
    refine h5 _ _ I H _ ev ?_
    cases h6 with
    | ret f' => exact fun v σ' I' H' _ e' rv => fin e' f' v rv
    | non f' => exact fun σ' I' H' _ e' => fin e' f' .non .non
    | own f' =>
      intro v σ' I' H' _ e'
      have dn := fin e'.pop f'
      obtain ⟨φ, g1, _⟩ := e'.owns
      obtain ⟨u, hu, s⟩ := g1 _ _ _ get_app_r
      have el := e'.pop.len
      rw [← el, get_app_r] at hu
      cases hu
      exact dn v _ s.at_ fun a ha => ⟨s.out a ha, s.io a ha⟩
    | exc f' => exact fun σ' I' H' _ e' => fin e' f'
theorem g3 {f : Addr} {cdv : Value} {A : Around} {outer : List PySem.Env} {s : Shared} {H : Hp} {E : XK} {x1 x3 : S} {ns : List Int} {v : D} {o : Oc} (B : Blts mg) (cz : Cz (XL Pr wo K mg base f cdv A outer s H E) (Wd0 E) 8) (hv : isValueD v = true)
    (h : DSs (XL Pr wo K mg base f cdv A outer s H E) (Wd0 E) ((defBody sLaw).drop 5) [.v (.scr ns), x1, .v v, x3, .v (.str (kindD v)), .no, .no, .no, .no, .no, .no, .no, .no, .no, .no, .no] o) :
    DSs (XL Pr wo K mg base f cdv A outer s H E) (Wd0 E) ((defBody sLaw).drop 3) [.v (.scr ns), x1, .v v, x3, .no, .no, .no, .no, .no, .no, .no, .no, .no, .no, .no, .no] o := by
  cases v with
  | bl b => exact Dt.seq (Dt.st 4 cz (ife_t (tb (is_bool rfl B.isi B.bool (db_of (va 2 rfl)))) rfl de_str)) (Dt.seq (Dt.st 4 cz (ife_f (tb (is_list rfl B.isi B.list (db_of (va 2 rfl)))) rfl (va 4 rfl))) h)
  | int i => exact Dt.seq (Dt.st 4 cz (ife_f (tb (is_bool rfl B.isi B.bool (db_of (va 2 rfl)))) rfl (ife_t (tb (is_int rfl B.isi B.int (db_of (va 2 rfl)))) rfl de_str))) (Dt.seq (Dt.st 4 cz (ife_f (tb (is_list rfl B.isi B.list (db_of (va 2 rfl)))) rfl (va 4 rfl))) h)
  | str z => exact Dt.seq (Dt.st 4 cz (ife_f (tb (is_bool rfl B.isi B.bool (db_of (va 2 rfl)))) rfl (ife_f (tb (is_int rfl B.isi B.int (db_of (va 2 rfl)))) rfl de_str))) (Dt.seq (Dt.st 4 cz (ife_f (tb (is_list rfl B.isi B.list (db_of (va 2 rfl)))) rfl (va 4 rfl))) h)
  | lst xs => exact Dt.seq (Dt.st 4 cz (ife_f (tb (is_bool rfl B.isi B.bool (db_of (va 2 rfl)))) rfl (ife_f (tb (is_int rfl B.isi B.int (db_of (va 2 rfl)))) rfl de_str))) (Dt.seq (Dt.st 4 cz (ife_t (tb (is_list rfl B.isi B.list (db_of (va 2 rfl)))) rfl de_str)) h)
  | _ => cases hv
theorem dat_value {d : D} (h : isValueD d = true) : dat d = true := by
  cases d with
  | lst xs =>
    obtain ⟨h1, h2⟩ := val_lst h
    show (decide (xs.length ≤ 100000) && xs.all dat1) = true
    rw [List.all_eq_true] at h2
    rw [decide_eq_true (by omega), Bool.true_and, List.all_eq_true]
    exact fun x hx => single_dat (h2 x hx)
  | str z =>
    have h1 := isTextL_len (l := z.cps.toList) h
    exact decide_eq_true (show z.cps.toList.length ≤ 100000 by omega)
  | bl b => rfl
  | int i => rfl
  | _ => cases h
def c_law : Con := fun ps r os => ∃ ns : List Int, ps = [.v (.scr ns)] ∧ r = .ret (.bl true) ∧ os = []
theorem ok_law {fa : Addr} {fd : FuncData} (F : Fun K "law" "law" sLaw fa fd) (L : Lw Pr wo K mg base) : FnOk Pr wo K mg base (L2.CX Pr wo) 9 fa fd ["script"] (spC K c_law) := by
  refine fnOkF (n := 15) F sc_law (fun qs r os h => by obtain ⟨_, rfl, _⟩ := h; rfl) rfl fun f cdv A outer s H E cz qs r os h => ?_
  obtain ⟨ns, rfl, rfl, rfl⟩ := h
  have hv := gValue_ok ns 0
  have hn := gValue_n ns 0
  have B := L.b
  obtain ⟨v, ev⟩ : ∃ v, v = (gValue ns 0).1 := ⟨_, rfl⟩
  obtain ⟨n, en⟩ : ∃ n, n = (gValue ns 0).2 := ⟨_, rfl⟩
  rw [← ev] at hv
  rw [← en] at hn
  obtain ⟨kl, ek, hk⟩ := kind_mk v
  have hl := textD_len hv
  have hlt := textD_lt hv
  have hd := dat_value hv
  obtain ⟨ρ', h⟩ := g8 (ns := ns) (n := n) (l := textD v) (x2 := .v v) (x4 := .v (.str (kindD v))) (x5 := .v (.tup [.str sFound, v])) (x6 := .no) (x7 := .no) (x8 := .no) (x9 := .no) (x11 := .no) (x12 := .no) (x13 := .no) (x14 := .no) L cz (by omega) (by omega) hlt
  have okk : okD (.tup [.str sFound, .str (kindD v)]) = true := by rw [ek]; exact ok_ff hk
  have h5 : DSs (XL Pr wo K mg base f cdv A outer s H E) (Wd0 E) ((defBody sLaw).drop 5) [.v (.scr ns), .own none (tw n), .v v, .v (.str (mk (textD v))), .v (.str (kindD v)), .no, .no, .no, .no, .no, .no, .no, .no, .no, .no, .no] (.ret (.bl true) ρ') := by
    refine if_n (dt_w (or_f (dt_neD cz okk okk (de_told0 cz L.told (by decide) de_int (va 2 rfl) (.kind hd) (told_kind hv)) (de_tup (da_cons (cs rfl) (da_cons (va 4 rfl) da_nil)) (by show 2 ≤ sizeLine; decide))) (by rw [eq_tup]; rfl) (dw_or1 (to (dt_neD cz (ok_ff hlt) (ok_ff hlt) (de_told0 cz L.told (by decide) de_int (va 2 rfl) (.text hd) (told_text hv)) (de_tup (da_cons (cs rfl) (da_cons (va 3 rfl) da_nil)) (by show 2 ≤ sizeLine; decide))) (show (!eqD _ _) = false by rw [eq_tup]; rfl))))) rfl
      (Dt.seq (Dt.st 5 cz (de_told0 (r := .tup [.str sFound, v]) cz L.told (by decide) de_int (va 3 rfl) (.read (l := textD v) (by omega)) (by rw [read_back hv]; rfl)))
      (if_n (dt_w (or_f (nes (x := [102, 111, 117, 110, 100]) (y := [102, 111, 117, 110, 100]) rfl (de_ix (va 5 rfl) de_int rfl) de_str) rfl (or_f (dt_not (tb (de_callV (r := .ret (.bl true)) cz L.same (by decide) (da_cons (de_ix (va 5 rfl) de_int rfl) (da_cons (va 2 rfl) da_nil)) ⟨v, value_flV hv, rfl, rfl, rfl⟩))) rfl (dw_or1 (dt_not (tb (de_callV (r := .ret (.bl true)) cz L.isr (by decide) (da_cons (va 3 rfl) da_nil) ⟨textD v, by omega, hlt, rfl, rfl, rfl⟩))))))) rfl ?_))
    exact h
  have h3 := g3 B cz hv h5
  have e0 : tw 0 = .lst [] := rfl
  refine ⟨_, Dt.seq (sto 1 cz (de_lst da_nil (by show 0 ≤ sizeLine; decide))) (Dt.seq (Dt.st 2 cz (DE.cast (de_st (g := gValue) (n := 0) (it := 1) cz L.value (by decide) (va 0 rfl) rfl rfl (by decide)) ev.symm)) (Dt.seq (Dt.st 3 cz (de_callV (r := .ret (.str (mk (textD v)))) cz L.wr (by decide) (da_cons (va 2 rfl) da_nil) ⟨v, hv, rfl, rfl, rfl⟩)) ?_)), .ret (ρ := ρ') rfl⟩
  rw [en] at h3
  exact h3
end
end K01


set_option Elab.async false
set_option linter.all false
set_option maxRecDepth 100000
set_option maxHeartbeats 1000000
namespace K01
open PySem PySem.Spec PyProof.Rows L2 Dt
/-- the text's def x stands in the module -/
def DefIn (K : PySem.W.Frag) (x : Str) (st : Stmt) (f : Addr) (fd : FuncData) : Prop := PySem.W.nsIn K mainGlobals x = some (some (.ref f)) ∧ Fun K x x st f fd
theorem defIn_mk {K : PySem.W.Frag} {x : Str} {st : Stmt} {f : Addr} {oc : Value} {od an : Option Addr} {osl : Array (Option Value)} {kV doc pm cdv ct : Value} (a : PySem.W.nsIn K mainGlobals x = some (some (.ref f)))
    (l : K.lookup f = some ⟨oc, od, .func (PySem.W.fnOf x x (defArgs st) (defBody st) (defScope st) .none kV doc pm an cdv ct), osl⟩) (c : PySem.W.codeIn K cdv x = true) (k : PySem.W.keepIn K (.ref f) = true) : ∃ f fd, DefIn K x st f fd := ⟨f, _, a, fun_mk l c k⟩
section
variable {K : PySem.W.Frag} {h : Heap} {mg : Str → Option Value}
theorem defAt {x : Str} {st : Stmt} {ps : List Str} (X : K.In h) (G : h.Ns mainGlobals mg) (D : ∃ f fd, DefIn K x st f fd)
    (hb : ∀ (kV doc pm : Value) (an : Option Addr) (cdv ct : Value) (us : List Value), us.length = ps.length → bindArgs (PySem.W.fnOf x x (defArgs st) (defBody st) (defScope st) .none kV doc pm an cdv ct) ⟨us, []⟩ = pure (ps.zip us)) : DefAt K mg x st ps := by
  obtain ⟨f, fd, a, F⟩ := D
  exact ⟨f, fd, F, PySem.W.mg_of X G a, F.binds hb⟩
/-- classes -/
theorem kit_ref {t : Value} {C : Addr} {v : Bool} (n : (t == Value.ref C) = false) (c : (PySem.W.clsIn K C).isSome = true) (ty : PySem.W.typeIn K (.ref C) = some (.type "type")) (s : PySem.W.subIn K t (.ref C) = some v) : PySem.W.kitOne K t (.ref C) = some v := by
  unfold PySem.W.kitOne
  rw [n, if_neg Bool.false_ne_true]
  show (if ((PySem.W.clsIn K C).isSome && PySem.W.typeIn K (.ref C) == some (.type "type")) = true then PySem.W.subIn K t (.ref C) else none) = _
  rw [c, ty, if_pos (by rfl)]
  exact s
theorem kit_self {C : Addr} : PySem.W.kitOne K (.ref C) (.ref C) = some true := by
  unfold PySem.W.kitOne
  rw [if_pos (beq_self_eq_true _)]
theorem kit_verr {C : Addr} (s : PySem.W.subIn K (.ref C) (.type "ValueError") = some true) : PySem.W.kitOne K (.ref C) (.type "ValueError") = some true := by
  unfold PySem.W.kitOne
  rw [if_neg (by exact Bool.false_ne_true)]
  show (if PySem.W.kitMeta "ValueError" = true then PySem.W.subIn K (.ref C) (.type "ValueError") else none) = _
  rw [if_pos (by decide +kernel)]
  exact s
theorem isn_mk {CB E : Addr} {x : Str} {b : Bool} (X : K.In h) (G : h.Ns mainGlobals mg) (a : PySem.W.nsIn K mainGlobals x = some (some (.ref E))) (n : (Value.ref CB == Value.ref E) = false) (c : (PySem.W.clsIn K E).isSome = true) (ty : PySem.W.typeIn K (.ref E) = some (.type "type")) (s : PySem.W.subIn K (.ref CB) (.ref E) = some b) : Isn K mg CB x b :=
  ⟨E, PySem.W.mg_of X G a, kit_ref n c ty s⟩
/-- a dict of the top -/
theorem ns_other {P : Params} {dk : Addr} {es : Array DictEntry} {n : Nat} {ks : List Str} {z : Str} (l : K.lookup dk = some ⟨.type "dict", none, .dict es n, #[]⟩) (hk : es.toList.map He.keyOf = He.keysIn P ks) (hz : ∀ k ∈ ks, k ≠ z) : PySem.W.nsIn K dk z = some none := by
  unfold PySem.W.nsIn
  rw [l]
  dsimp only
  have key : ∀ (l : List DictEntry) (ks : List Str), l.map He.keyOf = He.keysIn P ks → (∀ k ∈ ks, k ≠ z) → l.find? (·.key.isStr z) = none ∧ l.any (·.refKey) = false := by
    intro l
    induction l with
    | nil => exact fun _ _ _ => ⟨rfl, rfl⟩
    | cons e r ih =>
      intro ks h hz
      cases ks with
      | nil => cases h
      | cons k ks =>
        have h1 : He.keyOf e :: r.map He.keyOf = some (k, PyData.keyHash P k) :: He.keysIn P ks := h
        injection h1 with h2 h3
        obtain ⟨g1, g2⟩ := ih ks h3 fun x hx => hz x (List.mem_cons_of_mem _ hx)
        unfold He.keyOf at h2
        split at h2
        · rename_i x t q
          have h4 := Option.some.inj h2
          obtain ⟨h5, h6⟩ := Prod.mk.inj h4
          have hx := hz k List.mem_cons_self
          have e1 : e.key.isStr z = false := by
            rw [q]
            show (x == z) = false
            rw [h5]
            exact beq_eq_false_iff_ne.mpr hx
          have e2 : e.refKey = false := by
            unfold DictEntry.refKey
            rw [q]
          exact ⟨by rw [List.find?_cons, e1]; exact g1, by rw [List.any_cons, e2, g2]; rfl⟩
        · cases h2
  obtain ⟨g1, g2⟩ := key es.toList ks hk hz
  rw [g1, g2]
  rfl
theorem esc_mk {wo : World} {dk : Addr} {es : Array DictEntry} {n : Nat} {t1 t2 t3 : Tok} (X : K.In h) (G : h.Ns mainGlobals mg) (a : PySem.W.nsIn K mainGlobals "ESCAPES" = some (some (.ref dk))) (l : K.lookup dk = some ⟨.type "dict", none, .dict es n, #[]⟩) (hk : es.toList.map He.keyOf = He.keysIn wo.params ["\\", "\"", "n"]) (low : (dk == sysModules) = false)
    (e1 : PySem.W.nsIn K dk "\\" = some (some (.str "\\" t1))) (e2 : PySem.W.nsIn K dk "\"" = some (some (.str "\"" t2))) (e3 : PySem.W.nsIn K dk "n" = some (some (.str "\n" t3))) : EscAt K wo mg :=
  ⟨dk, es, n, t1, t2, t3, ⟨l, He.keysLit_of hk, low⟩, PySem.W.mg_of X G a, e1, e2, e3, fun z z1 z2 z3 => ns_other l hk (by
    intro k hk
    simp only [List.mem_cons, List.not_mem_nil, or_false] at hk
    rcases hk with rfl | rfl | rfl
    · exact fun q => z1 q.symm
    · exact fun q => z2 q.symm
    · exact fun q => z3 q.symm)⟩
end
end K01


set_option Elab.async false
set_option linter.all false
set_option maxRecDepth 100000
set_option maxHeartbeats 1000000
namespace K01
open PySem PySem.Spec PyProof.Rows L2 Dt
/-- what the head tells of the defs -/
structure Defs (K : PySem.W.Frag) : Prop where
  d0 : ∃ f fd, DefIn K "is_sign" sIsSign f fd
  d1 : ∃ f fd, DefIn K "is_text" sIsText f fd
  d2 : ∃ f fd, DefIn K "is_single" sIsSingle f fd
  d3 : ∃ f fd, DefIn K "is_value" sIsValue f fd
  d4 : ∃ f fd, DefIn K "look_value" sLook f fd
  d5 : ∃ f fd, DefIn K "kind" sKind f fd
  d6 : ∃ f fd, DefIn K "kind_of" sKindOf f fd
  d7 : ∃ f fd, DefIn K "quoted" sQ f fd
  d8 : ∃ f fd, DefIn K "value_text" sVT f fd
  d9 : ∃ f fd, DefIn K "text_of" sTO f fd
  d10 : ∃ f fd, DefIn K "number_at" sNA f fd
  d11 : ∃ f fd, DefIn K "text_at" sTA f fd
  d12 : ∃ f fd, DefIn K "single_at" sSA f fd
  d13 : ∃ f fd, DefIn K "blanks_from" sBl f fd
  d14 : ∃ f fd, DefIn K "value_at" sVA f fd
  d15 : ∃ f fd, DefIn K "read_value" sRV f fd
  d16 : ∃ f fd, DefIn K "_law_cell" sCell f fd
  d17 : ∃ f fd, DefIn K "_law_mix" sMix f fd
  d18 : ∃ f fd, DefIn K "_law_draw" sDraw f fd
  d19 : ∃ f fd, DefIn K "_law_pick" sPick f fd
  d20 : ∃ f fd, DefIn K "_law_refusal" sRef f fd
  d21 : ∃ f fd, DefIn K "_law_sign" sSign f fd
  d22 : ∃ f fd, DefIn K "_law_single" sSingle f fd
  d23 : ∃ f fd, DefIn K "_law_value" sValue f fd
  d24 : ∃ f fd, DefIn K "_law_written" sWr f fd
  d25 : ∃ f fd, DefIn K "_law_same" sSame f fd
  d26 : ∃ f fd, DefIn K "_law_take" sTk f fd
  d27 : ∃ f fd, DefIn K "_law_take_list" sTl f fd
  d28 : ∃ f fd, DefIn K "_law_told" sTold f fd
  d29 : ∃ f fd, DefIn K "_law_is_read" sIR f fd
section
variable {K : PySem.W.Frag} {h : Heap} {mg : Str → Option Value} {Pr : Program} {wo : World} {base : Heap} {CB : Addr}
theorem a0 (X : K.In h) (G : h.Ns mainGlobals mg) (D : Defs K) : DefAt K mg "is_sign" sIsSign ["sign"] := defAt X G D.d0 fun _ _ _ _ _ _ us hl => match us, hl with | [_], _ => rfl
theorem a1 (X : K.In h) (G : h.Ns mainGlobals mg) (D : Defs K) : DefAt K mg "is_text" sIsText ["thing"] := defAt X G D.d1 fun _ _ _ _ _ _ us hl => match us, hl with | [_], _ => rfl
theorem a2 (X : K.In h) (G : h.Ns mainGlobals mg) (D : Defs K) : DefAt K mg "is_single" sIsSingle ["thing"] := defAt X G D.d2 fun _ _ _ _ _ _ us hl => match us, hl with | [_], _ => rfl
theorem a3 (X : K.In h) (G : h.Ns mainGlobals mg) (D : Defs K) : DefAt K mg "is_value" sIsValue ["thing"] := defAt X G D.d3 fun _ _ _ _ _ _ us hl => match us, hl with | [_], _ => rfl
theorem a4 (X : K.In h) (G : h.Ns mainGlobals mg) (D : Defs K) : DefAt K mg "look_value" sLook ["value"] := defAt X G D.d4 fun _ _ _ _ _ _ us hl => match us, hl with | [_], _ => rfl
theorem a5 (X : K.In h) (G : h.Ns mainGlobals mg) (D : Defs K) : DefAt K mg "kind" sKind ["value"] := defAt X G D.d5 fun _ _ _ _ _ _ us hl => match us, hl with | [_], _ => rfl
theorem a6 (X : K.In h) (G : h.Ns mainGlobals mg) (D : Defs K) : DefAt K mg "kind_of" sKindOf ["value"] := defAt X G D.d6 fun _ _ _ _ _ _ us hl => match us, hl with | [_], _ => rfl
theorem a7 (X : K.In h) (G : h.Ns mainGlobals mg) (D : Defs K) : DefAt K mg "quoted" sQ ["text"] := defAt X G D.d7 fun _ _ _ _ _ _ us hl => match us, hl with | [_], _ => rfl
theorem a8 (X : K.In h) (G : h.Ns mainGlobals mg) (D : Defs K) : DefAt K mg "value_text" sVT ["value"] := defAt X G D.d8 fun _ _ _ _ _ _ us hl => match us, hl with | [_], _ => rfl
theorem a9 (X : K.In h) (G : h.Ns mainGlobals mg) (D : Defs K) : DefAt K mg "text_of" sTO ["value"] := defAt X G D.d9 fun _ _ _ _ _ _ us hl => match us, hl with | [_], _ => rfl
theorem a10 (X : K.In h) (G : h.Ns mainGlobals mg) (D : Defs K) : DefAt K mg "number_at" sNA ["text", "at"] := defAt X G D.d10 fun _ _ _ _ _ _ us hl => match us, hl with | [_, _], _ => rfl
theorem a11 (X : K.In h) (G : h.Ns mainGlobals mg) (D : Defs K) : DefAt K mg "text_at" sTA ["text", "at"] := defAt X G D.d11 fun _ _ _ _ _ _ us hl => match us, hl with | [_, _], _ => rfl
theorem a12 (X : K.In h) (G : h.Ns mainGlobals mg) (D : Defs K) : DefAt K mg "single_at" sSA ["text", "at"] := defAt X G D.d12 fun _ _ _ _ _ _ us hl => match us, hl with | [_, _], _ => rfl
theorem a13 (X : K.In h) (G : h.Ns mainGlobals mg) (D : Defs K) : DefAt K mg "blanks_from" sBl ["text", "at"] := defAt X G D.d13 fun _ _ _ _ _ _ us hl => match us, hl with | [_, _], _ => rfl
theorem a14 (X : K.In h) (G : h.Ns mainGlobals mg) (D : Defs K) : DefAt K mg "value_at" sVA ["text", "at"] := defAt X G D.d14 fun _ _ _ _ _ _ us hl => match us, hl with | [_, _], _ => rfl
theorem a15 (X : K.In h) (G : h.Ns mainGlobals mg) (D : Defs K) : DefAt K mg "read_value" sRV ["text"] := defAt X G D.d15 fun _ _ _ _ _ _ us hl => match us, hl with | [_], _ => rfl
theorem a16 (X : K.In h) (G : h.Ns mainGlobals mg) (D : Defs K) : DefAt K mg "_law_cell" sCell ["script", "k"] := defAt X G D.d16 fun _ _ _ _ _ _ us hl => match us, hl with | [_, _], _ => rfl
theorem a17 (X : K.In h) (G : h.Ns mainGlobals mg) (D : Defs K) : DefAt K mg "_law_mix" sMix ["script", "k"] := defAt X G D.d17 fun _ _ _ _ _ _ us hl => match us, hl with | [_, _], _ => rfl
theorem a18 (X : K.In h) (G : h.Ns mainGlobals mg) (D : Defs K) : DefAt K mg "_law_draw" sDraw ["script", "town", "many"] := defAt X G D.d18 fun _ _ _ _ _ _ us hl => match us, hl with | [_, _, _], _ => rfl
theorem a19 (X : K.In h) (G : h.Ns mainGlobals mg) (D : Defs K) : DefAt K mg "_law_pick" sPick ["script", "town", "some"] := defAt X G D.d19 fun _ _ _ _ _ _ us hl => match us, hl with | [_, _, _], _ => rfl
theorem a20 (X : K.In h) (G : h.Ns mainGlobals mg) (D : Defs K) : DefAt K mg "_law_refusal" sRef ["caught"] := defAt X G D.d20 fun _ _ _ _ _ _ us hl => match us, hl with | [_], _ => rfl
theorem a21 (X : K.In h) (G : h.Ns mainGlobals mg) (D : Defs K) : DefAt K mg "_law_sign" sSign ["script", "town"] := defAt X G D.d21 fun _ _ _ _ _ _ us hl => match us, hl with | [_, _], _ => rfl
theorem a22 (X : K.In h) (G : h.Ns mainGlobals mg) (D : Defs K) : DefAt K mg "_law_single" sSingle ["script", "town"] := defAt X G D.d22 fun _ _ _ _ _ _ us hl => match us, hl with | [_, _], _ => rfl
theorem a23 (X : K.In h) (G : h.Ns mainGlobals mg) (D : Defs K) : DefAt K mg "_law_value" sValue ["script", "town"] := defAt X G D.d23 fun _ _ _ _ _ _ us hl => match us, hl with | [_, _], _ => rfl
theorem a24 (X : K.In h) (G : h.Ns mainGlobals mg) (D : Defs K) : DefAt K mg "_law_written" sWr ["value"] := defAt X G D.d24 fun _ _ _ _ _ _ us hl => match us, hl with | [_], _ => rfl
theorem a25 (X : K.In h) (G : h.Ns mainGlobals mg) (D : Defs K) : DefAt K mg "_law_same" sSame ["one", "other"] := defAt X G D.d25 fun _ _ _ _ _ _ us hl => match us, hl with | [_, _], _ => rfl
theorem a26 (X : K.In h) (G : h.Ns mainGlobals mg) (D : Defs K) : DefAt K mg "_law_take" sTk ["text"] := defAt X G D.d26 fun _ _ _ _ _ _ us hl => match us, hl with | [_], _ => rfl
theorem a27 (X : K.In h) (G : h.Ns mainGlobals mg) (D : Defs K) : DefAt K mg "_law_take_list" sTl ["left"] := defAt X G D.d27 fun _ _ _ _ _ _ us hl => match us, hl with | [_], _ => rfl
theorem a28 (X : K.In h) (G : h.Ns mainGlobals mg) (D : Defs K) : DefAt K mg "_law_told" sTold ["which", "thing"] := defAt X G D.d28 fun _ _ _ _ _ _ us hl => match us, hl with | [_, _], _ => rfl
theorem a29 (X : K.In h) (G : h.Ns mainGlobals mg) (D : Defs K) : DefAt K mg "_law_is_read" sIR ["text"] := defAt X G D.d29 fun _ _ _ _ _ _ us hl => match us, hl with | [_], _ => rfl
theorem lw_mk (X : K.In h) (G : h.Ns mainGlobals mg) (D : Defs K) (B : Blts mg) (C : Cons mg) (Xc : ExcAt K mg "BadValue" CB) (T : EscAt K wo mg) (R : Errs K mg CB) : Lw Pr wo K mg base := by
  have is_sign := ok_is_sign (Pr := Pr) (wo := wo) (base := base) (a0 X G D) B
  have is_text := ok_is_text (a1 X G D) B C is_sign
  have is_single := ok_is_single (a2 X G D) B is_text
  have is_value := ok_is_value (a3 X G D) B C is_single
  have look := ok_look (a4 X G D) Xc is_value
  have kind_of := ok_kind_of (Pr := Pr) (wo := wo) (base := base) (a6 X G D) B
  have kind := ok_kind (a5 X G D) look kind_of
  have quoted := ok_q (Pr := Pr) (wo := wo) (base := base) (a7 X G D)
  have text1 := ok_text1 (a9 X G D) B quoted
  have text := ok_text (a9 X G D) B quoted text1
  have vt := ok_vt (a8 X G D) look text
  have na := ok_na (Pr := Pr) (wo := wo) (base := base) (a10 X G D) B C
  have ta := ok_ta (Pr := Pr) (base := base) (a11 X G D) B C T
  have sa := ok_sa (a12 X G D) B ta na
  have bl := ok_bl (Pr := Pr) (wo := wo) (base := base) (a13 X G D)
  have va := ok_va (a14 X G D) B C sa bl
  have rv := ok_rv (a15 X G D) B Xc is_sign va
  have cell := ok_cell (Pr := Pr) (wo := wo) (base := base) (a16 X G D) B
  have mix := ok_mix (a17 X G D) cell
  have draw := ok_draw (a18 X G D) B mix
  have pick := ok_pick (a19 X G D) B draw
  have ref := ok_ref (Pr := Pr) (wo := wo) (base := base) (a20 X G D) B R
  have sign := ok_sign (a21 X G D) draw pick
  have single := ok_single (a22 X G D) B draw pick sign
  have value := ok_value (a23 X G D) B draw pick single
  have wr1 := ok_wr1 (Pr := Pr) (wo := wo) (base := base) (a24 X G D) B
  have wr := ok_wr (a24 X G D) B wr1
  have same1 := ok_same1 (Pr := Pr) (wo := wo) (base := base) (a25 X G D) B
  have same := ok_same (a25 X G D) B same1
  have take1 := ok_take1 (Pr := Pr) (wo := wo) (base := base) (a26 X G D) B
  have tlist := ok_tlist (a27 X G D) B take1
  have take := ok_take (a26 X G D) B tlist
  have told := ok_told (a28 X G D) R kind vt rv ref
  have isr := ok_ir (a29 X G D) B told take same
  exact ⟨B, draw, pick, sign, single, value, wr1, wr, same, told, isr⟩
end
end K01


set_option Elab.async false
set_option linter.all false
set_option maxRecDepth 100000
set_option maxHeartbeats 1000000
namespace K01
open PySem PySem.Spec PyProof.Rows L2 Dt
theorem all01 {l : PySem.W.OpenLaw} {w : World} {K : PySem.W.Frag} {h : Heap} {mg : Str → Option Value} {fa f3 CB : Addr} (X : K.In h) (G : h.Ns mainGlobals mg) (hfa : mg "law" = some (.ref fa))
    {od3 an3 : Option Addr} {sl3 : Array (Option Value)} {oc3 kV3 dc3 pm3 cd3 ct3 : Value}
    (a3 : PySem.W.nsIn K mainGlobals "law" = some (some (.ref f3))) (l3 : K.lookup f3 = some ⟨oc3, od3, .func (PySem.W.fnOf "law" "law" (defArgs sLaw) (defBody sLaw) (defScope sLaw) .none kV3 dc3 pm3 an3 cd3 ct3), sl3⟩) (c3 : PySem.W.codeIn K cd3 "law" = true) (k3 : PySem.W.keepIn K (.ref f3) = true)
    (D : Defs K) (B : Blts mg) (C : Cons mg) (Xc : ExcAt K mg "BadValue" CB) (T : EscAt K w mg) (R : Errs K mg CB) :
    ∃ fd : FuncData, (∀ (s : Shared) (v : Value), BindsTo s fd ⟨[v], []⟩ [("script", v)]) ∧ ∀ base : Heap, K.In base → base.Ns mainGlobals mg → FnOk l.prog w K mg base (L2.CX l.prog w) 9 fa fd ["script"] (spC K c_law) := by
  have e := hfa.symm.trans (PySem.W.mg_of X G a3)
  cases e
  have F3 := fun_mk (st := sLaw) l3 c3 k3
  refine ⟨PySem.W.fnOf "law" "law" (defArgs sLaw) (defBody sLaw) (defScope sLaw) .none kV3 dc3 pm3 an3 cd3 ct3, fun s v => .of_eq rfl, fun base _ _ => ?_⟩
  exact ok_law F3 (lw_mk X G D B C Xc T R)
theorem sp_law {K : PySem.W.Frag} {H : Hp} {a : Addr} {ns : List Int} (hS : SqL K H a (ns.map V.int)) : spC K c_law [.ref a] H (fun v _ => v = .bl true) fun _ _ _ => False :=
  ⟨H, [.v (.scr ns)], [], .ret (.bl true), [], Same.refl H, .v (.scr hS) .nil, ⟨ns, rfl, rfl, rfl⟩, fun I' H' _ _ v r => by cases r; rfl⟩
theorem no_exc {P : Program} {w : World} {H : Hp} {s : Shared} {e : Value} {s' : Shared} (h : L2.CX P w [] H s (fun _ _ _ => False) e s') : False := by
  obtain ⟨_, _, _, _, _, _, _, _, _, _, _, _, z⟩ := h
  exact z
theorem walk {l : PySem.W.OpenLaw} {q : Program} {loose : List Str} {XP : (Str → Option Value) → Heap → Prop} {YP : World → Heap → Prop} {d : DefRec} {K : Params → PySem.W.Frag} (hn : l.most = some 63) (hdf : d.params.defaults = [])
    (hY : ∀ (w : World) (h : Heap), YP w h → (K w.params).In h)
    (F : ∀ (w : World) (mg : Str → Option Value) (fa : Addr) (h : Heap), (K w.params).In h → h.Ns mainGlobals mg → mg d.name = some (.ref fa) →
      ∃ fd : FuncData, (∀ (s : Shared) (u : Value), BindsTo s fd ⟨[u], []⟩ [("script", u)]) ∧ ∀ base : Heap, (K w.params).In base → base.Ns mainGlobals mg → FnOk l.prog w (K w.params) mg base (L2.CX l.prog w) 9 fa fd ["script"] (spC (K w.params) c_law)) :
    PySem.W.WalkO q loose XP YP l.row.toRowW d [] (fun f vs => PySem.call f vs) :=
  L2.walk_of (n := 63) (k := 9) (x := "script") (CX := fun w => L2.CX l.prog w) (sp := fun w => spC (K w.params) c_law) hn (by decide) hdf ⟨rfl, by decide, by decide⟩ hY F (fun w H a ns _ _ hS => sp_law hS) fun w H s e s' z => no_exc z
end K01


set_option Elab.async false
set_option linter.all false
set_option maxRecDepth 100000
set_option maxHeartbeats 1000000
namespace K01
open PySem PySem.Spec PyProof.Rows L2 Dt
section
variable {K : PySem.W.Frag} {h : Heap} {mg : Str → Option Value} {CB : Addr}
theorem exc_mk (X : K.In h) (G : h.Ns mainGlobals mg) (a : PySem.W.nsIn K mainGlobals "BadValue" = some (some (.ref CB))) (q : PySem.W.excIn K CB [.type "ValueError", .type "Exception", .type "BaseException", .type "object"] "ValueError.__new__" = true) (k : PySem.W.keepIn K (.ref CB) = true)
    (b : PySem.W.subIn K (.ref CB) (.type "BaseException") = some true) (t : PySem.W.typeIn K (.ref CB) = some (.type "type")) : ExcAt K mg "BadValue" CB := ⟨q, PySem.W.mg_of X G a, k, b, t⟩
theorem cons_mk {t1 t2 t3 t4 : Tok} (X : K.In h) (G : h.Ns mainGlobals mg) (a : PySem.W.nsIn K mainGlobals "FIGURES" = some (some (.str "0123456789" t1))) (b : PySem.W.nsIn K mainGlobals "MOST_FIGURES" = some (some (.int 9 t2))) (c : PySem.W.nsIn K mainGlobals "MOST_ITEMS" = some (some (.int 20 t3))) (d : PySem.W.nsIn K mainGlobals "MOST_TEXT" = some (some (.int 200 t4))) : Cons mg :=
  ⟨⟨_, PySem.W.mg_of X G a⟩, ⟨_, PySem.W.mg_of X G b⟩, ⟨_, PySem.W.mg_of X G c⟩, ⟨_, PySem.W.mg_of X G d⟩⟩
theorem sett_mk {E : Addr} (X : K.In h) (G : h.Ns mainGlobals mg) (a : PySem.W.nsIn K mainGlobals "SettingError" = some (some (.ref E))) (x : PySem.W.exmOne K (.ref CB) (.ref E) = some true) : ∃ E, mg "SettingError" = some (.ref E) ∧ PySem.W.exmOne K (.ref CB) (.ref E) = some true := ⟨E, PySem.W.mg_of X G a, x⟩
theorem bval_mk (X : K.In h) (G : h.Ns mainGlobals mg) (a : PySem.W.nsIn K mainGlobals "BadValue" = some (some (.ref CB))) : Isn K mg CB "BadValue" true := ⟨CB, PySem.W.mg_of X G a, kit_self⟩
theorem bn (X : K.In h) (G : h.Ns mainGlobals mg) {x : Str} (a : PySem.W.nsIn K mainGlobals x = some none) : mg x = none := PySem.W.mg_none_of X G a
end
end K01


set_option Elab.async false
set_option linter.all false
set_option maxRecDepth 100000
open PySem PySem.W PyProof.Rows
set_option maxHeartbeats 0 in
theorem PySem.Challenge.cw_settingbook_k01_whole_values_holds : PySem.Challenge.rw_settingbook_k01_whole_values.Holds := by
  w_on; o_law; k_head; (case hw => w_witness2)
  k_fill
  refine K01.walk (l := PySem.Challenge.rw_settingbook_k01_whole_values) rfl rfl (fun w h Y => PySem.W.kIn_of Y) ?F
  case F =>
    intro w mg fa h KX G hmg
    refine' K01.all01 KX G hmg ?a3 ?l3 ?c3 ?k3 ?D ?B ?C ?X ?T ?R
    (case a3 => k_is); (case l3 => k_is); (case c3 => k_is); (case k3 => k_is)
    case D =>
      refine' ⟨?d0, ?d1, ?d2, ?d3, ?d4, ?d5, ?d6, ?d7, ?d8, ?d9, ?d10, ?d11, ?d12, ?d13, ?d14, ?d15, ?d16, ?d17, ?d18, ?d19, ?d20, ?d21, ?d22, ?d23, ?d24, ?d25, ?d26, ?d27, ?d28, ?d29⟩
      (case d0 => refine' K01.defIn_mk ?a ?l ?c ?k; (case a => k_is); (case l => k_is); (case c => k_is); (case k => k_is))
      (case d1 => refine' K01.defIn_mk ?a ?l ?c ?k; (case a => k_is); (case l => k_is); (case c => k_is); (case k => k_is))
      (case d2 => refine' K01.defIn_mk ?a ?l ?c ?k; (case a => k_is); (case l => k_is); (case c => k_is); (case k => k_is))
      (case d3 => refine' K01.defIn_mk ?a ?l ?c ?k; (case a => k_is); (case l => k_is); (case c => k_is); (case k => k_is))
      (case d4 => refine' K01.defIn_mk ?a ?l ?c ?k; (case a => k_is); (case l => k_is); (case c => k_is); (case k => k_is))
      (case d5 => refine' K01.defIn_mk ?a ?l ?c ?k; (case a => k_is); (case l => k_is); (case c => k_is); (case k => k_is))
      (case d6 => refine' K01.defIn_mk ?a ?l ?c ?k; (case a => k_is); (case l => k_is); (case c => k_is); (case k => k_is))
      (case d7 => refine' K01.defIn_mk ?a ?l ?c ?k; (case a => k_is); (case l => k_is); (case c => k_is); (case k => k_is))
      (case d8 => refine' K01.defIn_mk ?a ?l ?c ?k; (case a => k_is); (case l => k_is); (case c => k_is); (case k => k_is))
      (case d9 => refine' K01.defIn_mk ?a ?l ?c ?k; (case a => k_is); (case l => k_is); (case c => k_is); (case k => k_is))
      (case d10 => refine' K01.defIn_mk ?a ?l ?c ?k; (case a => k_is); (case l => k_is); (case c => k_is); (case k => k_is))
      (case d11 => refine' K01.defIn_mk ?a ?l ?c ?k; (case a => k_is); (case l => k_is); (case c => k_is); (case k => k_is))
      (case d12 => refine' K01.defIn_mk ?a ?l ?c ?k; (case a => k_is); (case l => k_is); (case c => k_is); (case k => k_is))
      (case d13 => refine' K01.defIn_mk ?a ?l ?c ?k; (case a => k_is); (case l => k_is); (case c => k_is); (case k => k_is))
      (case d14 => refine' K01.defIn_mk ?a ?l ?c ?k; (case a => k_is); (case l => k_is); (case c => k_is); (case k => k_is))
      (case d15 => refine' K01.defIn_mk ?a ?l ?c ?k; (case a => k_is); (case l => k_is); (case c => k_is); (case k => k_is))
      (case d16 => refine' K01.defIn_mk ?a ?l ?c ?k; (case a => k_is); (case l => k_is); (case c => k_is); (case k => k_is))
      (case d17 => refine' K01.defIn_mk ?a ?l ?c ?k; (case a => k_is); (case l => k_is); (case c => k_is); (case k => k_is))
      (case d18 => refine' K01.defIn_mk ?a ?l ?c ?k; (case a => k_is); (case l => k_is); (case c => k_is); (case k => k_is))
      (case d19 => refine' K01.defIn_mk ?a ?l ?c ?k; (case a => k_is); (case l => k_is); (case c => k_is); (case k => k_is))
      (case d20 => refine' K01.defIn_mk ?a ?l ?c ?k; (case a => k_is); (case l => k_is); (case c => k_is); (case k => k_is))
      (case d21 => refine' K01.defIn_mk ?a ?l ?c ?k; (case a => k_is); (case l => k_is); (case c => k_is); (case k => k_is))
      (case d22 => refine' K01.defIn_mk ?a ?l ?c ?k; (case a => k_is); (case l => k_is); (case c => k_is); (case k => k_is))
      (case d23 => refine' K01.defIn_mk ?a ?l ?c ?k; (case a => k_is); (case l => k_is); (case c => k_is); (case k => k_is))
      (case d24 => refine' K01.defIn_mk ?a ?l ?c ?k; (case a => k_is); (case l => k_is); (case c => k_is); (case k => k_is))
      (case d25 => refine' K01.defIn_mk ?a ?l ?c ?k; (case a => k_is); (case l => k_is); (case c => k_is); (case k => k_is))
      (case d26 => refine' K01.defIn_mk ?a ?l ?c ?k; (case a => k_is); (case l => k_is); (case c => k_is); (case k => k_is))
      (case d27 => refine' K01.defIn_mk ?a ?l ?c ?k; (case a => k_is); (case l => k_is); (case c => k_is); (case k => k_is))
      (case d28 => refine' K01.defIn_mk ?a ?l ?c ?k; (case a => k_is); (case l => k_is); (case c => k_is); (case k => k_is))
      (case d29 => refine' K01.defIn_mk ?a ?l ?c ?k; (case a => k_is); (case l => k_is); (case c => k_is); (case k => k_is))
    case B =>
      refine' ⟨K01.bn KX G ?b0, K01.bn KX G ?b1, K01.bn KX G ?b2, K01.bn KX G ?b3, K01.bn KX G ?b4, K01.bn KX G ?b5, K01.bn KX G ?b6, K01.bn KX G ?b7, K01.bn KX G ?b8, K01.bn KX G ?b9, K01.bn KX G ?b10⟩
      (case b0 => k_is)
      (case b1 => k_is)
      (case b2 => k_is)
      (case b3 => k_is)
      (case b4 => k_is)
      (case b5 => k_is)
      (case b6 => k_is)
      (case b7 => k_is)
      (case b8 => k_is)
      (case b9 => k_is)
      (case b10 => k_is)
    case C =>
      refine' K01.cons_mk KX G ?a ?b ?c ?d
      (case a => k_is); (case b => k_is); (case c => k_is); (case d => k_is)
    case X =>
      refine' K01.exc_mk KX G ?a ?xq ?k ?b ?t
      (case a => k_is); (case xq => k_exc); (case k => k_is); (case b => k_is); (case t => k_is)
    case T =>
      refine' K01.esc_mk KX G ?a ?l ?hk ?low ?e1 ?e2 ?e3
      (case a => k_is); (case l => k_is); (case hk => rfl); (case low => rfl); (case e1 => k_is); (case e2 => k_is); (case e3 => k_is)
    case R =>
      refine' ⟨?exc, ?fault, ?bval, ?bpath, ?nopath, ?twice, ?wkind, ?bwish, ?ring, ?bfill, ?bdeed, ?noth, ?verr, ?sett⟩
      case exc =>
        refine' ⟨?hg, ?hk, ?hs, ?hd, ?ha, ?hn, ?ht, ?hm⟩
        (case hg => k_is); (case hk => k_is); (case hs => k_is); (case hd => k_is); (case ha => k_is); (case hn => k_is); (case ht => k_is); (case hm => k_is)
      case bval =>
        refine' K01.bval_mk KX G ?a
        (case a => k_is)
      case fault =>
        refine' K01.isn_mk KX G ?a ?n ?c ?ty ?s
        (case a => k_is); (case n => rfl); (case c => rfl); (case ty => k_is); (case s => k_is)
      case bpath =>
        refine' K01.isn_mk KX G ?a ?n ?c ?ty ?s
        (case a => k_is); (case n => rfl); (case c => rfl); (case ty => k_is); (case s => k_is)
      case nopath =>
        refine' K01.isn_mk KX G ?a ?n ?c ?ty ?s
        (case a => k_is); (case n => rfl); (case c => rfl); (case ty => k_is); (case s => k_is)
      case twice =>
        refine' K01.isn_mk KX G ?a ?n ?c ?ty ?s
        (case a => k_is); (case n => rfl); (case c => rfl); (case ty => k_is); (case s => k_is)
      case wkind =>
        refine' K01.isn_mk KX G ?a ?n ?c ?ty ?s
        (case a => k_is); (case n => rfl); (case c => rfl); (case ty => k_is); (case s => k_is)
      case bwish =>
        refine' K01.isn_mk KX G ?a ?n ?c ?ty ?s
        (case a => k_is); (case n => rfl); (case c => rfl); (case ty => k_is); (case s => k_is)
      case ring =>
        refine' K01.isn_mk KX G ?a ?n ?c ?ty ?s
        (case a => k_is); (case n => rfl); (case c => rfl); (case ty => k_is); (case s => k_is)
      case bfill =>
        refine' K01.isn_mk KX G ?a ?n ?c ?ty ?s
        (case a => k_is); (case n => rfl); (case c => rfl); (case ty => k_is); (case s => k_is)
      case bdeed =>
        refine' K01.isn_mk KX G ?a ?n ?c ?ty ?s
        (case a => k_is); (case n => rfl); (case c => rfl); (case ty => k_is); (case s => k_is)
      case noth =>
        refine' K01.isn_mk KX G ?a ?n ?c ?ty ?s
        (case a => k_is); (case n => rfl); (case c => rfl); (case ty => k_is); (case s => k_is)
      case verr =>
        refine' K01.kit_verr ?s
        (case s => k_is)
      case sett =>
        refine' K01.sett_mk KX G ?a ?x
        (case a => k_is); (case x => first | rfl | k_is)
#print axioms PySem.Challenge.cw_settingbook_k01_whole_values_holds

