import PyProof.Rows.All
import Wide.All
import OpenK.AllK
import Wide.FinOn
import HandS.ForMost
import HandS.ForExc
import HandS.IsInst
import HandS.StrMore
import HandS.Walk
import HandS.Flow
import HandS.ExcIs
import HandS.More
import HandS.ReplaceLit
import HandS.ReplaceList
import HandS.ExcInit
import HandS.ExcField
import HandS.ClsMeth
import KE.KExcIs
import PySem.Challenge.RW_settingbook_k11_whole_each_fault
import HandS.Codes
import PyProof.Rows.RegReprOcc
import HandS.Iter
import KE.KDictList
import HandS.SortRule
import HandS.HeadHook3
set_option Elab.async false
set_option linter.all false
set_option maxRecDepth 100000
set_option maxHeartbeats 1000000
/-! Dt: a big-step semantics on plain data over the layer HandS. -/
namespace Dt
open PySem PySem.Spec PyProof.Rows L2

/-- plain data -/
inductive D where
  | non | bl (b : Bool) | int (i : Int) | str (x : Str) | lst (xs : List D) | tup (xs : List D) | exc (C : Addr) | scr (ns : List Int)
  /-- an instance (its attributes' names, and what they are); a dict with text keys; a list of unlike objects; a caught error with attributes -/
  | ins (C : Addr) (ns : List Str) (xs : List D) | dic (ks : List Str) (xs : List D) | rws (xs : List D) | xf (C : Addr) (ns : List Str) (xs : List D)
  /-- the error that is being handled, by its place; a value as it is -/
  | exn (a d : Addr) (ns : List Str) (xs : List D) | raw (v : V)
  /-- a dict that is locked -/
  | dkl (ks : List Str) (xs : List D)

/-- a caught exception of the own class C, without fields -/
def ExH (C a : Addr) : HO := .ext fun h => ∃ (oe : Obj) (vs : Array Value), h.get? a = some oe ∧ Zc (.ref C) none oe ∧ oe.data = .fields vs
/-- .. with a dict -/
def ExF (C d a : Addr) : HO := .ext fun h => ∃ (oe : Obj) (vs : Array Value), h.get? a = some oe ∧ Zc (.ref C) (some d) oe ∧ oe.data = .fields vs
/-- the pairs of a dict with text keys -/
def kvOf (ks : List Str) (vs : List V) : List (Key × V) := (ks.map Sum.inr).zip vs

mutual
inductive Rp (K : PySem.W.Frag) (I : Hp) : V → D → Prop
  | non : Rp K I .non .non
  | bl (b : Bool) : Rp K I (.bl b) (.bl b)
  | int (i : Int) : Rp K I (.int i) (.int i)
  | str (x : Str) : Rp K I (.str x) (.str x)
  | lst {a : Addr} {xs : List V} {ds : List D} : I a = some (.lst xs) → RpAll K I xs ds → Rp K I (.ref a) (.lst ds)
  | tup {a : Addr} {xs : List V} {ds : List D} : SqT K I a xs → RpAll K I xs ds → Rp K I (.ref a) (.tup ds)
  | exc {a C : Addr} : I a = some (ExH C a) → Rp K I (.ref a) (.exc C)
  | scr {a : Addr} {ns : List Int} : SqL K I a (ns.map V.int) → Rp K I (.ref a) (.scr ns)
  | ins {a C dx : Addr} {ns : List Str} {xs : List V} {ds : List D} : I a = some (.ins C dx (ns.zip xs)) → ns.length = xs.length → RpAll K I xs ds → Rp K I (.ref a) (.ins C ns ds)
  | dic {a : Addr} {ks : List Str} {xs : List V} {ds : List D} : Rd I a (.dK (kvOf ks xs)) → ks.length = xs.length → ks.Nodup → RpAll K I xs ds → Rp K I (.ref a) (.dic ks ds)
  | dkl {a : Addr} {o : Obj} {ks : List Str} {xs : List V} {ds : List D} : I a = some (.frz o (.dK (kvOf ks xs))) → ks.length = xs.length → ks.Nodup → RpAll K I xs ds → Rp K I (.ref a) (.dkl ks ds)
  | rws {a : Addr} {xs : List V} {ds : List D} : I a = some (.lst xs) → xs.Nodup → RpAll K I xs ds → Rp K I (.ref a) (.rws ds)
  | xf {a C d : Addr} {ns : List Str} {xs : List V} {ds : List D} : I a = some (ExF C d a) → I d = some (.xd (ns.zip xs)) → ns.length = xs.length → RpAll K I xs ds → Rp K I (.ref a) (.xf C ns ds)
  | exn {a d : Addr} {ns : List Str} {xs : List V} {ds : List D} : I d = some (.xd (ns.zip xs)) → ns.length = xs.length → RpAll K I xs ds → Rp K I (.ref a) (.exn a d ns ds)
  | raw (v : V) : Rp K I v (.raw v)
inductive RpAll (K : PySem.W.Frag) (I : Hp) : List V → List D → Prop
  | nil : RpAll K I [] []
  | cons {v : V} {vs : List V} {d : D} {ds : List D} : Rp K I v d → RpAll K I vs ds → RpAll K I (v :: vs) (d :: ds)
end

theorem same_rd {H H' : Hp} {a : Addr} {u : HO} (e : Same H H') (h : Rd H a u) : Rd H' a u := by
  rcases h with h | ⟨o, h⟩
  · exact .inl (e _ _ h)
  · exact .inr ⟨o, e _ _ h⟩
theorem same_t {K : PySem.W.Frag} {H H' : Hp} {a : Addr} {xs : List V} (e : Same H H') (h : SqT K H a xs) : SqT K H' a xs := by
  rcases h with (h | ⟨o, h⟩) | h
  · exact .inl (.inl (e _ _ h))
  · exact .inl (.inr ⟨o, e _ _ h⟩)
  · exact .inr h

section
variable {K : PySem.W.Frag} {I I' : Hp}
mutual
theorem Rp.mono (e : Same I I') : ∀ (d : D) (v : V), Rp K I v d → Rp K I' v d
  | .non, _, h => by cases h; exact .non
  | .bl b, _, h => by cases h; exact .bl b
  | .int i, _, h => by cases h; exact .int i
  | .str x, _, h => by cases h; exact .str x
  | .lst ds, _, h => by
    cases h with
    | lst h1 h2 => exact .lst (e _ _ h1) (RpAll.mono e ds _ h2)
  | .tup ds, _, h => by
    cases h with
    | tup h1 h2 => exact .tup (same_t e h1) (RpAll.mono e ds _ h2)
  | .exc C, _, h => by
    cases h with
    | exc h1 => exact .exc (e _ _ h1)
  | .scr ns, _, h => by
    cases h with
    | scr h1 => exact .scr (e.seq h1)
  | .ins C ns ds, _, h => by
    cases h with
    | ins h1 h2 h3 => exact .ins (e _ _ h1) h2 (RpAll.mono e ds _ h3)
  | .dic ks ds, _, h => by
    cases h with
    | dic h1 h2 h3 h4 => exact .dic (same_rd e h1) h2 h3 (RpAll.mono e ds _ h4)
  | .dkl ks ds, _, h => by
    cases h with
    | dkl h1 h2 h3 h4 => exact .dkl (e _ _ h1) h2 h3 (RpAll.mono e ds _ h4)
  | .rws ds, _, h => by
    cases h with
    | rws h1 h2 h3 => exact .rws (e _ _ h1) h2 (RpAll.mono e ds _ h3)
  | .xf C ns ds, _, h => by
    cases h with
    | xf h1 h2 h3 h4 => exact .xf (e _ _ h1) (e _ _ h2) h3 (RpAll.mono e ds _ h4)
  | .exn a d ns ds, _, h => by
    cases h with
    | exn h1 h2 h3 => exact .exn (e _ _ h1) h2 (RpAll.mono e ds _ h3)
  | .raw v, _, h => by cases h; exact .raw v
theorem RpAll.mono (e : Same I I') : ∀ (ds : List D) (vs : List V), RpAll K I vs ds → RpAll K I' vs ds
  | [], _, h => by cases h; exact .nil
  | d :: ds, _, h => by
    cases h with
    | cons h1 h2 => exact .cons (Rp.mono e d _ h1) (RpAll.mono e ds _ h2)
end
theorem Rp.up {v : V} {d : D} (h : Rp K I v d) (e : Same I I') : Rp K I' v d := Rp.mono e d v h
theorem RpAll.up {v : List V} {d : List D} (h : RpAll K I v d) (e : Same I I') : RpAll K I' v d := RpAll.mono e d v h

theorem RpAll.length : ∀ {vs : List V} {ds : List D}, RpAll K I vs ds → vs.length = ds.length
  | _, _, .nil => rfl
  | _, _, .cons _ t => by rw [List.length_cons, List.length_cons, t.length]
theorem RpAll.get : ∀ {vs : List V} {ds : List D} {i : Nat} {d : D}, RpAll K I vs ds → ds[i]? = some d → ∃ v, vs[i]? = some v ∧ Rp K I v d
  | _, _, _, _, .nil, e => by simp at e
  | _, _, 0, _, .cons r _, e => by simp at e; subst e; exact ⟨_, rfl, r⟩
  | _, _, i + 1, d, .cons _ t, e => by
    obtain ⟨u, h1, h2⟩ := RpAll.get (i := i) (d := d) t (by simpa using e)
    exact ⟨u, by simpa using h1, h2⟩
theorem RpAll.getV : ∀ {vs : List V} {ds : List D} {i : Nat} {v : V}, RpAll K I vs ds → vs[i]? = some v → ∃ d, ds[i]? = some d ∧ Rp K I v d
  | _, _, _, _, .nil, e => by simp at e
  | _, _, 0, _, .cons r _, e => by simp at e; subst e; exact ⟨_, rfl, r⟩
  | _, _, i + 1, d, .cons _ t, e => by
    obtain ⟨u, h1, h2⟩ := RpAll.getV (i := i) (v := d) t (by simpa using e)
    exact ⟨u, by simpa using h1, h2⟩
theorem RpAll.append : ∀ {vs us : List V} {ds es : List D}, RpAll K I vs ds → RpAll K I us es → RpAll K I (vs ++ us) (ds ++ es)
  | _, _, _, _, .nil, s => s
  | _, _, _, _, .cons r t, s => .cons r (RpAll.append t s)
theorem RpAll.take : ∀ {vs : List V} {ds : List D} (n : Nat), RpAll K I vs ds → RpAll K I (vs.take n) (ds.take n)
  | _, _, 0, _ => .nil
  | _, _, _ + 1, .nil => .nil
  | _, _, n + 1, .cons r t => .cons r (RpAll.take n t)
theorem RpAll.drop : ∀ {vs : List V} {ds : List D} (n : Nat), RpAll K I vs ds → RpAll K I (vs.drop n) (ds.drop n)
  | _, _, 0, r => r
  | _, _, _ + 1, .nil => .nil
  | _, _, n + 1, .cons _ t => RpAll.drop n t
theorem RpAll.set {v : V} {d : D} (r : Rp K I v d) : ∀ {vs : List V} {ds : List D} (i : Nat), RpAll K I vs ds → RpAll K I (vs.set i v) (ds.set i d)
  | _, _, _, .nil => .nil
  | _, _, 0, .cons _ t => .cons r t
  | _, _, i + 1, .cons q t => .cons q (RpAll.set r i t)
theorem RpAll.one {v : V} {d : D} (r : Rp K I v d) : RpAll K I [v] [d] := .cons r .nil
end

mutual
/-- what may be changed: lists, dicts, instances; an instance's attributes may be owned with it -/
inductive O where
  | lst (ds : List D) | dic (ks : List Str) (ds : List D) | rws (ds : List D) | ins (C : Addr) (ns : List Str) (fs : List F) | ols (fs : List F) | tup (fs : List F)
inductive F where
  | d (d : D) | o (o : O)
end
mutual
/-- .. as data, once it stands still -/
def O.era : O → D
  | .lst ds => .lst ds
  | .dic ks ds => .dic ks ds
  | .rws ds => .rws ds
  | .ins C ns fs => .ins C ns (F.eras fs)
  | .ols fs => .lst (F.eras fs)
  | .tup fs => .tup (F.eras fs)
def F.era : F → D
  | .d d => d
  | .o o => o.era
def F.eras : List F → List D
  | [] => []
  | f :: r => f.era :: F.eras r
end
/-- a slot: nothing known, data, something owned (some k: the k-th that was handed in) -/
inductive S where
  | no | v (d : D) | own (k : Option Nat) (o : O)

mutual
inductive OwnAt (K : PySem.W.Frag) (I H : Hp) : V → O → List Addr → Prop
  | lst {a : Addr} {vs : List V} {ds : List D} : H a = some (.lst vs) → RpAll K I vs ds → OwnAt K I H (.ref a) (.lst ds) [a]
  | dic {a : Addr} {ks : List Str} {vs : List V} {ds : List D} : H a = some (.dK (kvOf ks vs)) → ks.length = vs.length → ks.Nodup → RpAll K I vs ds → OwnAt K I H (.ref a) (.dic ks ds) [a]
  | rws {a : Addr} {vs : List V} {ds : List D} : H a = some (.lst vs) → vs.Nodup → RpAll K I vs ds → OwnAt K I H (.ref a) (.rws ds) [a]
  | ins {a dx C : Addr} {ns : List Str} {vs : List V} {fs : List F} {φ : List Addr} : H a = some (.ins C dx (ns.zip vs)) → ns.length = vs.length → H dx = some (.own a) → FsAt K I H vs fs φ → a ∉ φ → dx ∉ φ → OwnAt K I H (.ref a) (.ins C ns fs) (a :: dx :: φ)
  | ols {a : Addr} {vs : List V} {fs : List F} {φ : List Addr} : H a = some (.lst vs) → FsAt K I H vs fs φ → a ∉ φ → OwnAt K I H (.ref a) (.ols fs) (a :: φ)
  | tup {a : Addr} {vs : List V} {fs : List F} {φ : List Addr} : H a = some (.tup vs) → FsAt K I H vs fs φ → a ∉ φ → OwnAt K I H (.ref a) (.tup fs) (a :: φ)
inductive FsAt (K : PySem.W.Frag) (I H : Hp) : List V → List F → List Addr → Prop
  | nil : FsAt K I H [] [] []
  | d {v : V} {d : D} {vs : List V} {fs : List F} {φ : List Addr} : Rp K I v d → FsAt K I H vs fs φ → FsAt K I H (v :: vs) (.d d :: fs) φ
  | o {v : V} {o : O} {vs : List V} {fs : List F} {φ ψ : List Addr} : OwnAt K I H v o φ → FsAt K I H vs fs ψ → (∀ a ∈ φ, a ∉ ψ) → FsAt K I H (v :: vs) (.o o :: fs) (φ ++ ψ)
end
section
variable {K : PySem.W.Frag} {I H I' H' : Hp}
mutual
theorem OwnAt.mono (e : Same I I') : ∀ {v : V} {o : O} {φ : List Addr}, OwnAt K I H v o φ → (∀ a ∈ φ, ∀ u, H a = some u → H' a = some u) → OwnAt K I' H' v o φ
  | _, _, _, .lst h1 h2, k => .lst (k _ List.mem_cons_self _ h1) (h2.up e)
  | _, _, _, .dic h1 h2 h3 h4, k => .dic (k _ List.mem_cons_self _ h1) h2 h3 (h4.up e)
  | _, _, _, .rws h1 h2 h3, k => .rws (k _ List.mem_cons_self _ h1) h2 (h3.up e)
  | _, _, _, .ins h1 h2 h3 h4 h5 h6, k => .ins (k _ List.mem_cons_self _ h1) h2 (k _ (List.mem_cons_of_mem _ List.mem_cons_self) _ h3) (FsAt.mono e h4 fun a ha => k a (List.mem_cons_of_mem _ (List.mem_cons_of_mem _ ha))) h5 h6
  | _, _, _, .ols h1 h2 h3, k => .ols (k _ List.mem_cons_self _ h1) (FsAt.mono e h2 fun a ha => k a (List.mem_cons_of_mem _ ha)) h3
  | _, _, _, .tup h1 h2 h3, k => .tup (k _ List.mem_cons_self _ h1) (FsAt.mono e h2 fun a ha => k a (List.mem_cons_of_mem _ ha)) h3
theorem FsAt.mono (e : Same I I') : ∀ {vs : List V} {fs : List F} {φ : List Addr}, FsAt K I H vs fs φ → (∀ a ∈ φ, ∀ u, H a = some u → H' a = some u) → FsAt K I' H' vs fs φ
  | _, _, _, .nil, _ => .nil
  | _, _, _, .d h1 h2, k => .d (h1.up e) (FsAt.mono e h2 k)
  | _, _, _, .o h1 h2 h3, k => .o (OwnAt.mono e h1 fun a ha => k a (List.mem_append_left _ ha)) (FsAt.mono e h2 fun a ha => k a (List.mem_append_right _ ha)) h3
end
mutual
theorem OwnAt.there : ∀ {v : V} {o : O} {φ : List Addr}, OwnAt K I H v o φ → ∀ a ∈ φ, ∃ u, H a = some u
  | _, _, _, .lst h1 _, a, ha => by rw [List.mem_singleton] at ha; subst ha; exact ⟨_, h1⟩
  | _, _, _, .dic h1 _ _ _, a, ha => by rw [List.mem_singleton] at ha; subst ha; exact ⟨_, h1⟩
  | _, _, _, .rws h1 _ _, a, ha => by rw [List.mem_singleton] at ha; subst ha; exact ⟨_, h1⟩
  | _, _, _, .ins h1 _ h3 h4 _ _, a, ha => by
    rcases List.mem_cons.mp ha with rfl | ha
    · exact ⟨_, h1⟩
    · rcases List.mem_cons.mp ha with rfl | ha
      · exact ⟨_, h3⟩
      · exact FsAt.there h4 a ha
  | _, _, _, .ols h1 h2 _, a, ha => by
    rcases List.mem_cons.mp ha with rfl | ha
    · exact ⟨_, h1⟩
    · exact FsAt.there h2 a ha
  | _, _, _, .tup h1 h2 _, a, ha => by
    rcases List.mem_cons.mp ha with rfl | ha
    · exact ⟨_, h1⟩
    · exact FsAt.there h2 a ha
theorem FsAt.there : ∀ {vs : List V} {fs : List F} {φ : List Addr}, FsAt K I H vs fs φ → ∀ a ∈ φ, ∃ u, H a = some u
  | _, _, _, .nil, a, ha => by cases ha
  | _, _, _, .d _ h2, a, ha => FsAt.there h2 a ha
  | _, _, _, .o h1 h2 _, a, ha => by
    rcases List.mem_append.mp ha with ha | ha
    · exact OwnAt.there h1 a ha
    · exact FsAt.there h2 a ha
end
/-- what stands still, and the footprint too -/
def frzI (I H : Hp) (φ : List Addr) : Hp := fun b => if b ∈ φ then H b else I b
theorem frz_in {φ : List Addr} {b : Addr} (h : b ∈ φ) : frzI I H φ b = H b := if_pos h
theorem frz_out {φ : List Addr} {b : Addr} (h : b ∉ φ) : frzI I H φ b = I b := if_neg h
mutual
theorem OwnAt.frz (s : Same I I') : ∀ {v : V} {o : O} {φ : List Addr}, OwnAt K I H v o φ → (∀ a ∈ φ, I' a = H a) → Rp K I' v o.era
  | _, _, _, .lst h1 h2, k => .lst (by rw [k _ List.mem_cons_self]; exact h1) (h2.up s)
  | _, _, _, .dic h1 h2 h3 h4, k => .dic (.inl (by rw [k _ List.mem_cons_self]; exact h1)) h2 h3 (h4.up s)
  | _, _, _, .rws h1 h2 h3, k => .rws (by rw [k _ List.mem_cons_self]; exact h1) h2 (h3.up s)
  | _, _, _, .ins h1 h2 h3 h4 h5 h6, k => .ins (by rw [k _ List.mem_cons_self]; exact h1) h2 (FsAt.frz s h4 fun a ha => k a (List.mem_cons_of_mem _ (List.mem_cons_of_mem _ ha)))
  | _, _, _, .ols h1 h2 h3, k => .lst (by rw [k _ List.mem_cons_self]; exact h1) (FsAt.frz s h2 fun a ha => k a (List.mem_cons_of_mem _ ha))
  | _, _, _, .tup h1 h2 h3, k => .tup (.inl (.inl (by rw [k _ List.mem_cons_self]; exact h1))) (FsAt.frz s h2 fun a ha => k a (List.mem_cons_of_mem _ ha))
theorem FsAt.frz (s : Same I I') : ∀ {vs : List V} {fs : List F} {φ : List Addr}, FsAt K I H vs fs φ → (∀ a ∈ φ, I' a = H a) → RpAll K I' vs (F.eras fs)
  | _, _, _, .nil, _ => .nil
  | _, _, _, .d h1 h2, k => .cons (h1.up s) (FsAt.frz s h2 k)
  | _, _, _, .o h1 h2 h3, k => .cons (OwnAt.frz s h1 fun a ha => k a (List.mem_append_left _ ha)) (FsAt.frz s h2 fun a ha => k a (List.mem_append_right _ ha))
end
theorem OwnAt.ref {v : V} {o : O} {φ : List Addr} (h : OwnAt K I H v o φ) : ∃ a ψ, v = .ref a ∧ φ = a :: ψ := by
  cases h with
  | lst h1 h2 => exact ⟨_, _, rfl, rfl⟩
  | dic h1 h2 h3 h4 => exact ⟨_, _, rfl, rfl⟩
  | rws h1 h2 h3 => exact ⟨_, _, rfl, rfl⟩
  | ins h1 h2 h3 h4 h5 h6 => exact ⟨_, _, rfl, rfl⟩
  | ols h1 h2 h3 => exact ⟨_, _, rfl, rfl⟩
  | tup h1 h2 h3 => exact ⟨_, _, rfl, rfl⟩
end

/-- a call's entry: what stands still, the heap, what was handed in to be changed -/
structure Wd where
  I0 : Hp
  H0 : Hp
  A : List (List Addr)
  B : List V
  /-- what the code at hand knows nothing of, and leaves as it is -/
  Pt : Hp := fun _ => none

/-- where what is owned may lie -/
def IoOk (w : Wd) (v : V) (φ : List Addr) : Option Nat → Prop
  | some k => w.B[k]? = some v ∧ ∃ l, w.A[k]? = some l ∧ ∀ a ∈ φ, a ∈ l ∨ w.H0 a = none
  | none => ∀ a ∈ φ, w.H0 a = none
structure SlotOk (K : PySem.W.Frag) (w : Wd) (I H : Hp) (v : V) (k : Option Nat) (o : O) (φ : List Addr) : Prop where
  at_ : OwnAt K I H v o φ
  out : ∀ a ∈ φ, I a = none
  io : IoOk w v φ k
  np : ∀ a ∈ φ, w.Pt a = none

structure Ev (K : PySem.W.Frag) (w : Wd) (I H : Hp) (σ : L2.St) (ρ : List S) : Prop where
  sub : Same I H
  old : Same w.I0 I
  frm : ∀ b o, w.H0 b = some o → (∀ l ∈ w.A, b ∉ l) → H b = some o
  new : ∀ b o, I b = some o → w.I0 b = some o ∨ w.H0 b = none
  trk : ∀ b o, w.H0 b = some o → ∃ u, H b = some u
  prt : ∀ b o, w.Pt b = some o → H b = some o
  pI : ∀ b o, w.Pt b = some o → I b = none
  len : σ.length = ρ.length
  vals : ∀ (i : Nat) (d : D), ρ[i]? = some (S.v d) → ∃ v, σ[i]? = some (some v) ∧ Rp K I v d
  owns : ∃ φ : Nat → List Addr, (∀ (i : Nat) (k : Option Nat) (o : O), ρ[i]? = some (S.own k o) → ∃ v, σ[i]? = some (some v) ∧ SlotOk K w I H v k o (φ i)) ∧
    ∀ (i j : Nat) (k k' : Option Nat) (o o' : O), i ≠ j → ρ[i]? = some (S.own k o) → ρ[j]? = some (S.own k' o') → ∀ a ∈ φ i, a ∉ φ j

section
variable {K : PySem.W.Frag} {w : Wd} {I I' H H' : Hp} {σ : L2.St} {ρ : List S} {p : Addr} {v : V} {d : D}
theorem Ev.freshP (e : Ev K w I H σ ρ) (h : H p = none) : w.Pt p = none := by
  cases q : w.Pt p with
  | none => rfl
  | some o =>
    rw [e.prt p o q] at h
    cases h
theorem Ev.fresh (e : Ev K w I H σ ρ) (h : H p = none) : w.H0 p = none ∧ I p = none := by
  constructor
  · cases q : w.H0 p with
    | none => rfl
    | some o =>
      obtain ⟨u, hu⟩ := e.trk p o q
      rw [h] at hu
      cases hu
  · cases q : I p with
    | none => rfl
    | some o =>
      rw [e.sub p o q] at h
      cases h

theorem same_upd {H : Hp} {p : Addr} {o : HO} (h : H p = none) : Same H (upd H p o) := fun b x e => by
  rw [upd_ne (ne_of_none e h)]
  exact e
theorem same_upd2 {I H : Hp} {p : Addr} {o : HO} (s : Same I H) (h : I p = none) : Same I (upd H p o) := fun b x e => by
  rw [upd_ne (ne_of_none e h)]
  exact s _ _ e
theorem same_upd3 {I H : Hp} {p : Addr} {o : HO} (s : Same I H) (h : H p = none) : Same (upd I p o) (upd H p o) := fun b x e => by
  by_cases hb : b = p
  · subst hb
    rw [upd_same] at e ⊢
    exact e
  · rw [upd_ne hb] at e ⊢
    exact s _ _ e

/-- the heap grows: what stands still may grow by what is new -/
theorem Ev.grow (e : Ev K w I H σ ρ) (s1 : Same I I') (s2 : Same I' H') (s3 : Same H H') (n : ∀ b o, I' b = some o → I b = some o ∨ H b = none) : Ev K w I' H' σ ρ where
  sub := s2
  old := e.old.trans s1
  frm := fun b o h1 h2 => s3 _ _ (e.frm b o h1 h2)
  new := fun b o h => by
    rcases n b o h with h | h
    · exact e.new b o h
    · exact .inr (e.fresh h).1
  trk := fun b o h => let ⟨u, hu⟩ := e.trk b o h; ⟨u, s3 _ _ hu⟩
  prt := fun b o h => s3 _ _ (e.prt b o h)
  pI := fun b o h => by
    cases q : I' b with
    | none => rfl
    | some x =>
      rcases n b x q with z | z
      · rw [e.pI b o h] at z; cases z
      · rw [e.prt b o h] at z; cases z
  len := e.len
  vals := fun i d h => let ⟨v, h1, h2⟩ := e.vals i d h; ⟨v, h1, h2.up s1⟩
  owns := by
    obtain ⟨φ, h1, h2⟩ := e.owns
    refine ⟨φ, fun i k o h => ?_, h2⟩
    obtain ⟨v, hv, ⟨q1, q2, q3, q4⟩⟩ := h1 i k o h
    refine ⟨v, hv, q1.mono s1 fun a _ u => s3 a u, fun a ha => ?_, q3, q4⟩
    obtain ⟨u, hu⟩ := q1.there a ha
    cases q : I' a with
    | none => rfl
    | some x =>
      rcases n a x q with z | z
      · rw [q2 a ha] at z; cases z
      · rw [hu] at z; cases z
/-- a new thing that stands still -/
theorem Ev.still {o : HO} (e : Ev K w I H σ ρ) (h : H p = none) : Ev K w (upd I p o) (upd H p o) σ ρ :=
  e.grow (same_upd (e.fresh h).2) (same_upd3 e.sub h) (same_upd h) fun b x q => by
    by_cases hb : b = p
    · subst hb; exact .inr h
    · rw [upd_ne hb] at q; exact .inl q
/-- a new thing that nothing speaks of -/
theorem Ev.other {o : HO} (e : Ev K w I H σ ρ) (h : H p = none) : Ev K w I (upd H p o) σ ρ :=
  e.grow (Same.refl I) (same_upd2 e.sub (e.fresh h).2) (same_upd h) fun b x q => .inl q

theorem get_app_l {α : Type} {l : List α} {x : α} {i : Nat} (h : i < l.length) : (l ++ [x])[i]? = l[i]? := by
  rw [List.getElem?_append_left h]
theorem get_app_r {α : Type} {l : List α} {x : α} : (l ++ [x])[l.length]? = some x := by
  rw [List.getElem?_append_right (Nat.le_refl _)]
  simp
theorem get_app {α : Type} {l : List α} {x y : α} {i : Nat} (h : (l ++ [x])[i]? = some y) : (l[i]? = some y ∧ i < l.length) ∨ (i = l.length ∧ y = x) := by
  by_cases hi : i < l.length
  · rw [get_app_l hi] at h
    exact .inl ⟨h, hi⟩
  · by_cases he : i = l.length
    · subst he
      rw [get_app_r] at h
      exact .inr ⟨rfl, (Option.some.inj h).symm⟩
    · have := (List.getElem?_eq_some_iff.mp h).1
      rw [List.length_append, List.length_singleton] at this
      omega
theorem get_set {α : Type} {l : List α} {x y : α} {i j : Nat} (h : (l.set i x)[j]? = some y) : (i = j ∧ y = x ∧ j < l.length) ∨ (i ≠ j ∧ l[j]? = some y ∧ j < l.length) := by
  have hl := (List.getElem?_eq_some_iff.mp h).1
  rw [List.length_set] at hl
  by_cases e : i = j
  · subst e
    rw [List.getElem?_set_self hl] at h
    exact .inl ⟨rfl, (Option.some.inj h).symm, hl⟩
  · rw [List.getElem?_set_ne e] at h
    exact .inr ⟨e, h, hl⟩
/-- a new owned thing as one slot more -/
theorem Ev.gain {o : O} {φ : List Addr} {ψ : Nat → List Addr} (e : Ev K w I H σ ρ) (h : OwnAt K I H v o φ) (h1 : ∀ a ∈ φ, I a = none) (h2 : ∀ a ∈ φ, w.H0 a = none) (h4 : ∀ a ∈ φ, w.Pt a = none)
    (g1 : ∀ (i : Nat) (k : Option Nat) (o : O), ρ[i]? = some (S.own k o) → ∃ v, σ[i]? = some (some v) ∧ SlotOk K w I H v k o (ψ i))
    (g2 : ∀ (i j : Nat) (k k' : Option Nat) (o o' : O), i ≠ j → ρ[i]? = some (S.own k o) → ρ[j]? = some (S.own k' o') → ∀ a ∈ ψ i, a ∉ ψ j)
    (h3 : ∀ (i : Nat) (k : Option Nat) (o : O), ρ[i]? = some (S.own k o) → ∀ a ∈ φ, a ∉ ψ i) : Ev K w I H (σ ++ [some v]) (ρ ++ [.own none o]) := by
  refine ⟨e.sub, e.old, e.frm, e.new, e.trk, e.prt, e.pI, by rw [List.length_append, List.length_append, e.len]; rfl, fun i d q => ?_, ?_⟩
  · rcases get_app q with ⟨q, hi⟩ | ⟨_, q⟩
    · obtain ⟨v, h1, h2⟩ := e.vals i d q
      exact ⟨v, by rw [get_app_l (by rw [e.len]; exact hi)]; exact h1, h2⟩
    · cases q
  · refine ⟨fun i => if i = ρ.length then φ else ψ i, fun i k o q => ?_, fun i j k k' o1 o2 hij q q' a ha hb => ?_⟩
    · rcases get_app q with ⟨q, hi⟩ | ⟨hi, q⟩
      · obtain ⟨v, hv, s⟩ := g1 i k o q
        refine ⟨v, by rw [get_app_l (by rw [e.len]; exact hi)]; exact hv, ?_⟩
        dsimp only
        rw [if_neg (Nat.ne_of_lt hi)]
        exact s
      · cases q
        subst hi
        refine ⟨v, by rw [← e.len]; exact get_app_r, ?_⟩
        dsimp only
        rw [if_pos rfl]
        exact ⟨h, h1, h2, h4⟩
    · dsimp only at ha hb
      rcases get_app q with ⟨q, hi⟩ | ⟨hi, _⟩
      · rw [if_neg (Nat.ne_of_lt hi)] at ha
        rcases get_app q' with ⟨q', hj⟩ | ⟨hj, _⟩
        · rw [if_neg (Nat.ne_of_lt hj)] at hb
          exact g2 i j k k' o1 o2 hij q q' a ha hb
        · rw [if_pos hj] at hb
          exact h3 i k o1 q a hb ha
      · rw [if_pos hi] at ha
        rcases get_app q' with ⟨q', hj⟩ | ⟨hj, _⟩
        · rw [if_neg (Nat.ne_of_lt hj)] at hb
          exact h3 j k' o2 q' a ha hb
        · exact hij (hi.trans hj.symm)
theorem Ev.born {o : O} {φ : List Addr} (e : Ev K w I H σ ρ) (s : Same H H') (ho : OwnAt K I H' v o φ) (hf : ∀ a ∈ φ, H a = none) : Ev K w I H' (σ ++ [some v]) (ρ ++ [.own none o]) := by
  obtain ⟨ψ, h1, h2⟩ := e.owns
  have g := e.grow (Same.refl I) (e.sub.trans s) s fun b o z => .inl z
  refine g.gain ho (fun a ha => (e.fresh (hf a ha)).2) (fun a ha => (e.fresh (hf a ha)).1) (fun a ha => e.freshP (hf a ha)) (ψ := ψ) (fun i k o q => ?_) h2 fun i k o q a ha hb => ?_
  · obtain ⟨v, hv, t⟩ := h1 i k o q
    exact ⟨v, hv, t.at_.mono (Same.refl I) fun a _ u => s a u, t.out, t.io, t.np⟩
  · obtain ⟨v, _, t⟩ := h1 i k o q
    obtain ⟨u, hu⟩ := t.at_.there a hb
    rw [hf a ha] at hu
    cases hu
/-- .. a new owned list, held as one slot more -/
theorem Ev.alloc {vs : List V} {ds : List D} (e : Ev K w I H σ ρ) (h : H p = none) (r : RpAll K I vs ds) : Ev K w I (upd H p (.lst vs)) (σ ++ [some (.ref p)]) (ρ ++ [.own none (.lst ds)]) :=
  e.born (same_upd h) (.lst upd_same r) fun a ha => by rw [List.mem_singleton.mp ha]; exact h
/-- a slot is stored -/
theorem Ev.setV {i : Nat} (e : Ev K w I H σ ρ) (r : Rp K I v d) : Ev K w I H (σ.set i (some v)) (ρ.set i (.v d)) := by
  refine ⟨e.sub, e.old, e.frm, e.new, e.trk, e.prt, e.pI, by rw [List.length_set, List.length_set, e.len], fun j d' q => ?_, ?_⟩
  · rcases get_set q with ⟨rfl, q, hl⟩ | ⟨hne, q, hl⟩
    · cases q
      exact ⟨v, List.getElem?_set_self (by rw [e.len]; exact hl), r⟩
    · rw [List.getElem?_set_ne hne]
      exact e.vals j d' q
  · obtain ⟨φ, h1, h2⟩ := e.owns
    have back : ∀ (j : Nat) (k : Option Nat) (o : O), (ρ.set i (S.v d))[j]? = some (S.own k o) → i ≠ j ∧ ρ[j]? = some (S.own k o) := fun j k o q => by
      rcases get_set q with ⟨_, q, _⟩ | ⟨hne, q, _⟩
      · cases q
      · exact ⟨hne, q⟩
    refine ⟨φ, fun j k o q => ?_, fun j j' k k' o o' hj q q' => h2 j j' k k' o o' hj (back j k o q).2 (back j' k' o' q').2⟩
    obtain ⟨hij, q⟩ := back j k o q
    obtain ⟨u, h3, h4⟩ := h1 j k o q
    exact ⟨u, by rw [List.getElem?_set_ne hij]; exact h3, h4⟩
/-- the slot behind the last one is stored -/
theorem Ev.move {i : Nat} {o : O} (e : Ev K w I H (σ ++ [some v]) (ρ ++ [.own none o])) : Ev K w I H (σ.set i (some v)) (ρ.set i (.own none o)) := by
  have el : σ.length = ρ.length := by
    have := e.len
    rw [List.length_append, List.length_append] at this
    exact Nat.add_right_cancel this
  refine ⟨e.sub, e.old, e.frm, e.new, e.trk, e.prt, e.pI, by rw [List.length_set, List.length_set, el], fun j d' q => ?_, ?_⟩
  · rcases get_set q with ⟨_, q, _⟩ | ⟨hne, q, hj⟩
    · cases q
    · rw [List.getElem?_set_ne hne]
      obtain ⟨u, h2, h3⟩ := e.vals j d' (by rw [get_app_l hj]; exact q)
      exact ⟨u, by rw [get_app_l (by rw [el]; exact hj)] at h2; exact h2, h3⟩
  · obtain ⟨φ, h1, h2⟩ := e.owns
    have back : ∀ (j : Nat) (k : Option Nat) (o' : O), (ρ.set i (S.own none o))[j]? = some (S.own k o') → (i = j ∧ k = none ∧ o' = o ∧ j < ρ.length) ∨ (i ≠ j ∧ ρ[j]? = some (S.own k o') ∧ j < ρ.length) := fun j k o' q => by
      rcases get_set q with ⟨e1, q, hl⟩ | ⟨hne, q, hl⟩
      · cases q
        exact .inl ⟨e1, rfl, rfl, hl⟩
      · exact .inr ⟨hne, q, hl⟩
    have last : (ρ ++ [S.own none o])[ρ.length]? = some (.own none o) := get_app_r
    refine ⟨fun j => if i = j then φ ρ.length else φ j, fun j k o' q => ?_, fun j j' k k' o1 o2 hj q q' a ha hb => ?_⟩
    · rcases back j k o' q with ⟨hij, rfl, rfl, hl⟩ | ⟨hne, q, hl⟩
      · obtain ⟨u, h3, h4⟩ := h1 ρ.length none _ last
        rw [← el, get_app_r] at h3
        cases h3
        refine ⟨v, ?_, ?_⟩
        · rw [hij]
          exact List.getElem?_set_self (by rw [el]; exact hl)
        · dsimp only
          rw [if_pos hij]
          exact h4
      · obtain ⟨u, h3, h4⟩ := h1 j k o' (by rw [get_app_l hl]; exact q)
        refine ⟨u, ?_, ?_⟩
        · rw [List.getElem?_set_ne hne]
          rw [get_app_l (by rw [el]; exact hl)] at h3
          exact h3
        · dsimp only
          rw [if_neg hne]
          exact h4
    · dsimp only at ha hb
      rcases back j k o1 q with ⟨e1, _, _, hl⟩ | ⟨hne, qj, hl⟩
      · rw [if_pos e1] at ha
        rcases back j' k' o2 q' with ⟨e2, _, _, _⟩ | ⟨hne', qj', hl'⟩
        · exact hj (e1.symm.trans e2)
        · rw [if_neg hne'] at hb
          exact h2 ρ.length j' _ _ _ _ (Nat.ne_of_gt hl') last (by rw [get_app_l hl']; exact qj') a ha hb
      · rw [if_neg hne] at ha
        rcases back j' k' o2 q' with ⟨e2, _, _, _⟩ | ⟨hne', qj', hl'⟩
        · rw [if_pos e2] at hb
          exact h2 j ρ.length _ _ _ _ (Nat.ne_of_lt hl) (by rw [get_app_l hl]; exact qj) last a ha hb
        · rw [if_neg hne'] at hb
          exact h2 j j' _ _ _ _ hj (by rw [get_app_l hl]; exact qj) (by rw [get_app_l hl']; exact qj') a ha hb
/-- a slot is forgotten -/
theorem Ev.wipe1 {i : Nat} (e : Ev K w I H σ ρ) : Ev K w I H (σ.set i none) (ρ.set i .no) := by
  refine ⟨e.sub, e.old, e.frm, e.new, e.trk, e.prt, e.pI, by rw [List.length_set, List.length_set, e.len], fun j d' q => ?_, ?_⟩
  · rcases get_set q with ⟨_, q, _⟩ | ⟨hne, q, hj⟩
    · cases q
    · rw [List.getElem?_set_ne hne]
      exact e.vals j d' q
  · obtain ⟨φ, h1, h2⟩ := e.owns
    have back : ∀ (j : Nat) (k : Option Nat) (o : O), (ρ.set i S.no)[j]? = some (S.own k o) → i ≠ j ∧ ρ[j]? = some (S.own k o) := fun j k o q => by
      rcases get_set q with ⟨_, q, _⟩ | ⟨hne, q, _⟩
      · cases q
      · exact ⟨hne, q⟩
    refine ⟨φ, fun j k o q => ?_, fun j j' k k' o o' hj q q' => h2 j j' k k' o o' hj (back j k o q).2 (back j' k' o' q').2⟩
    obtain ⟨hij, q⟩ := back j k o q
    obtain ⟨u, h3, h4⟩ := h1 j k o q
    exact ⟨u, by rw [List.getElem?_set_ne hij]; exact h3, h4⟩
/-- what is owned by a slot is changed -/
theorem Ev.chg {i : Nat} {k : Option Nat} {o : O} (e : Ev K w I H σ ρ) (q : ρ[i]? = some (.own k o)) :
    ∃ v φ, σ[i]? = some (some v) ∧ OwnAt K I H v o φ ∧ (∀ a ∈ φ, I a = none) ∧ (∀ a ∈ φ, w.Pt a = none) ∧
      ∀ (I' H' : Hp) (o' : O) (φ' : List Addr), Same I I' → Same I' H' → (∀ b u, H b = some u → b ∉ φ → H' b = some u) → (∀ b u, I' b = some u → I b = some u ∨ H b = none) → (∀ a ∈ φ, ∃ u, H' a = some u) →
        OwnAt K I' H' v o' φ' → (∀ a ∈ φ', I' a = none ∧ (a ∈ φ ∨ H a = none)) → Ev K w I' H' σ (ρ.set i (.own k o')) := by
  obtain ⟨φ, h1, h2⟩ := e.owns
  obtain ⟨v, hv, s⟩ := h1 i k _ q
  refine ⟨v, φ i, hv, s.at_, s.out, s.np, fun I' H' o' φ' sI sH keep new tr at' out' => ?_⟩
  have nA : ∀ b o, w.H0 b = some o → (∀ l ∈ w.A, b ∉ l) → b ∉ φ i := fun b o hb hl hin => by
    have z := s.io
    cases k with
    | none =>
      have := z b hin
      rw [hb] at this
      cases this
    | some k =>
      obtain ⟨_, l, z1, z2⟩ := z
      rcases z2 b hin with y | y
      · exact hl l (List.mem_of_getElem? z1) y
      · rw [hb] at y; cases y
  have nP : ∀ b o, w.Pt b = some o → b ∉ φ i := fun b o hb hin => by
    rw [s.np b hin] at hb
    cases hb
  refine ⟨sH, e.old.trans sI, fun b o hb hl => keep b o (e.frm b o hb hl) (nA b o hb hl), fun b o hb => ?_, fun b o hb => ?_, fun b o hb => keep b o (e.prt b o hb) (nP b o hb), fun b o hb => ?_, by rw [List.length_set]; exact e.len, fun j d' qj => ?_, ?_⟩
  · rcases new b o hb with z | z
    · exact e.new b o z
    · exact .inr (e.fresh z).1
  · by_cases z : b ∈ φ i
    · exact tr b z
    · obtain ⟨u, hu⟩ := e.trk b o hb
      exact ⟨u, keep b u hu z⟩
  · cases z : I' b with
    | none => rfl
    | some x =>
      rcases new b x z with y | y
      · rw [e.pI b o hb] at y; cases y
      · rw [e.prt b o hb] at y; cases y
  · rcases get_set qj with ⟨_, qj, _⟩ | ⟨hne, qj, hj⟩
    · cases qj
    · obtain ⟨u, h3, h4⟩ := e.vals j d' qj
      exact ⟨u, h3, h4.up sI⟩
  · refine ⟨fun j => if j = i then φ' else φ j, fun j k' o1 qj => ?_, fun j j' k1 k2 o1 o2 hj q1 q2 => ?_⟩
    · rcases get_set qj with ⟨hij, qj, _⟩ | ⟨hij, qj, _⟩
      · cases qj
        subst hij
        refine ⟨v, hv, ?_⟩
        dsimp only
        rw [if_pos rfl]
        refine ⟨at', fun a ha => (out' a ha).1, ?_, fun a ha => ?_⟩
        · have z := s.io
          cases k with
          | none =>
            intro a ha
            rcases (out' a ha).2 with y | y
            · exact z a y
            · exact (e.fresh y).1
          | some k =>
            obtain ⟨z0, l, z1, z2⟩ := z
            refine ⟨z0, l, z1, fun a ha => ?_⟩
            rcases (out' a ha).2 with y | y
            · exact z2 a y
            · exact .inr (e.fresh y).1
        · rcases (out' a ha).2 with y | y
          · exact s.np a y
          · exact e.freshP y
      · obtain ⟨u, h3, ⟨t1, t2, t3, t4⟩⟩ := h1 j k' o1 qj
        refine ⟨u, h3, ?_⟩
        dsimp only
        rw [if_neg (Ne.symm hij)]
        refine ⟨t1.mono sI fun b hb x hx => keep b x hx fun z => h2 i j _ _ _ _ hij q qj b z hb, fun a ha => ?_, t3, t4⟩
        cases z : I' a with
        | none => rfl
        | some x =>
          obtain ⟨y, hy⟩ := t1.there a ha
          rcases new a x z with p | p
          · rw [t2 a ha] at p; cases p
          · rw [hy] at p; cases p
    · have back : ∀ (j : Nat) (k' : Option Nat) (o1 : O), (ρ.set i (S.own k o'))[j]? = some (S.own k' o1) → ∃ k'' o'', ρ[j]? = some (S.own k'' o'') := fun j k' o qj => by
        rcases get_set qj with ⟨z, _, _⟩ | ⟨_, qj, _⟩
        · subst z; exact ⟨_, _, q⟩
        · exact ⟨_, _, qj⟩
      obtain ⟨k3, o3, q3⟩ := back j k1 o1 q1
      obtain ⟨k4, o4, q4⟩ := back j' k2 o2 q2
      intro a ha hb
      dsimp only at ha hb
      by_cases e1 : j = i
      · rw [if_pos e1] at ha
        rw [if_neg (fun z => hj (e1.trans z.symm))] at hb
        subst e1
        rcases (out' a ha).2 with y | y
        · exact h2 j j' _ _ _ _ hj q3 q4 a y hb
        · obtain ⟨u, _, t⟩ := h1 j' _ _ q4
          obtain ⟨x, hx⟩ := t.at_.there a hb
          rw [y] at hx
          cases hx
      · rw [if_neg e1] at ha
        by_cases e2 : j' = i
        · rw [if_pos e2] at hb
          subst e2
          rcases (out' a hb).2 with y | y
          · exact h2 j j' _ _ _ _ hj q3 q4 a ha y
          · obtain ⟨u, _, t⟩ := h1 j _ _ q3
            obtain ⟨x, hx⟩ := t.at_.there a ha
            rw [y] at hx
            cases hx
        · rw [if_neg e2] at hb
          exact h2 j j' _ _ _ _ hj q3 q4 a ha hb
/-- an owned list is changed -/
theorem Ev.change {i : Nat} {k : Option Nat} {ds es : List D} (e : Ev K w I H σ ρ) (q : ρ[i]? = some (.own k (.lst ds))) :
    ∃ a vs, σ[i]? = some (some (.ref a)) ∧ H a = some (.lst vs) ∧ I a = none ∧ RpAll K I vs ds ∧ ∀ us, RpAll K I us es → Ev K w I (upd H a (.lst us)) σ (ρ.set i (.own k (.lst es))) := by
  obtain ⟨v, φ, hv, at_, out, _, c⟩ := e.chg q
  cases at_ with
  | @lst a vs _ ha hr =>
    have na := out a List.mem_cons_self
    refine ⟨a, vs, hv, ha, na, hr, fun us ru => c I _ _ [a] (Same.refl I) (same_upd2 e.sub na) (fun b u hb hn => ?_) (fun b u z => .inl z) (fun b hb => ?_) (.lst upd_same ru) fun b hb => ?_⟩
    · rw [upd_ne fun z => hn (by rw [z]; exact List.mem_cons_self)]
      exact hb
    · rw [List.mem_singleton.mp hb]
      exact ⟨_, upd_same⟩
    · rw [List.mem_singleton.mp hb]
      exact ⟨na, .inl List.mem_cons_self⟩
/-- what we own and have made stands still from here on -/
theorem Ev.freeze {i : Nat} {o : O} (e : Ev K w I H σ ρ) (q : ρ[i]? = some (.own none o)) :
    ∃ v I', σ[i]? = some (some v) ∧ Same I I' ∧ Rp K I' v o.era ∧ Ev K w I' H σ (ρ.set i (.v o.era)) := by
  obtain ⟨φ, h1, h2⟩ := e.owns
  obtain ⟨v, hv, s⟩ := h1 i none _ q
  have sm : Same I (frzI I H (φ i)) := fun b u hb => by
    by_cases z : b ∈ φ i
    · rw [s.out b z] at hb; cases hb
    · rw [frz_out z]; exact hb
  have rr : Rp K (frzI I H (φ i)) v o.era := s.at_.frz sm fun a ha => frz_in ha
  have s0 : ∀ a ∈ φ i, w.H0 a = none := s.io
  refine ⟨v, frzI I H (φ i), hv, sm, rr, ⟨fun b u hb => ?_, e.old.trans sm, e.frm, fun b u hb => ?_, e.trk, e.prt, fun b u hb => ?_, by rw [List.length_set]; exact e.len, fun j d' qj => ?_, ?_⟩⟩
  · by_cases z : b ∈ φ i
    · rw [frz_in z] at hb; exact hb
    · rw [frz_out z] at hb; exact e.sub b u hb
  · by_cases z : b ∈ φ i
    · exact .inr (s0 b z)
    · rw [frz_out z] at hb; exact e.new b u hb
  · have z : b ∉ φ i := fun z => by rw [s.np b z] at hb; cases hb
    rw [frz_out z]
    exact e.pI b u hb
  · rcases get_set qj with ⟨z, qj, _⟩ | ⟨_, qj, _⟩
    · cases qj
      subst z
      exact ⟨_, hv, rr⟩
    · obtain ⟨u, h3, h4⟩ := e.vals j d' qj
      exact ⟨u, h3, h4.up sm⟩
  · have back : ∀ (j : Nat) (k : Option Nat) (o1 : O), (ρ.set i (S.v o.era))[j]? = some (S.own k o1) → i ≠ j ∧ ρ[j]? = some (S.own k o1) := fun j k o q => by
      rcases get_set q with ⟨_, q, _⟩ | ⟨hne, q, _⟩
      · cases q
      · exact ⟨hne, q⟩
    refine ⟨φ, fun j k o1 qj => ?_, fun j j' k k' o o' hj q q' => h2 j j' k k' o o' hj (back j k o q).2 (back j' k' o' q').2⟩
    obtain ⟨hij, qj⟩ := back j k o1 qj
    obtain ⟨u, h3, ⟨t1, t2, t3, t4⟩⟩ := h1 j k o1 qj
    refine ⟨u, h3, t1.mono sm fun _ _ _ z => z, fun b hb => ?_, t3, t4⟩
    rw [frz_out fun z => h2 i j _ _ _ _ hij q qj b z hb]
    exact t2 b hb
/-- one slot more, gone -/
theorem Ev.pop {x : Option V} {s : S} (e : Ev K w I H (σ ++ [x]) (ρ ++ [s])) : Ev K w I H σ ρ := by
  have el : σ.length = ρ.length := by
    have := e.len
    rw [List.length_append, List.length_append] at this
    exact Nat.add_right_cancel this
  refine ⟨e.sub, e.old, e.frm, e.new, e.trk, e.prt, e.pI, el, fun j d' q => ?_, ?_⟩
  · have hj := (List.getElem?_eq_some_iff.mp q).1
    obtain ⟨u, h2, h3⟩ := e.vals j d' (by rw [get_app_l hj]; exact q)
    exact ⟨u, by rw [get_app_l (by rw [el]; exact hj)] at h2; exact h2, h3⟩
  · obtain ⟨φ, h1, h2⟩ := e.owns
    refine ⟨φ, fun j k o q => ?_, fun j j' k k' o o' hj q q' => ?_⟩
    · have hj := (List.getElem?_eq_some_iff.mp q).1
      obtain ⟨u, h3, h4⟩ := h1 j k o (by rw [get_app_l hj]; exact q)
      exact ⟨u, by rw [get_app_l (by rw [el]; exact hj)] at h3; exact h3, h4⟩
    · have hj1 := (List.getElem?_eq_some_iff.mp q).1
      have hj2 := (List.getElem?_eq_some_iff.mp q').1
      exact h2 j j' k k' o o' hj (by rw [get_app_l hj1]; exact q) (by rw [get_app_l hj2]; exact q')
/-- .. standing still -/
theorem Ev.settle {o : O} (e : Ev K w I H (σ ++ [some v]) (ρ ++ [.own none o])) : ∃ I', Same I I' ∧ Rp K I' v o.era ∧ Ev K w I' H σ ρ := by
  have el : σ.length = ρ.length := by
    have := e.len
    rw [List.length_append, List.length_append] at this
    exact Nat.add_right_cancel this
  obtain ⟨a, I', h1, h2, h3, h4⟩ := e.freeze (i := ρ.length) get_app_r
  rw [← el, get_app_r] at h1
  cases h1
  refine ⟨I', h2, h3, ?_⟩
  have q : (ρ ++ [S.own none o]).set ρ.length (.v o.era) = ρ ++ [.v o.era] := by
    rw [List.set_append_right _ _ (Nat.le_refl _)]
    simp
  rw [q] at h4
  exact h4.pop
end
/-- an argument that is not starred -/
def nst : Expr → Bool
  | .Starred _ _ => false
  | _ => true
theorem star_cons {a : Expr} {es : List Expr} {env : PySem.Env} (h : nst a = true) : starEach (a :: es) env = (false, eval a env) :: starEach es env := by
  cases a
  all_goals first | rfl | cases h
end Dt


set_option Elab.async false
set_option linter.all false
set_option maxRecDepth 100000
set_option maxHeartbeats 1000000
/-! The judgements and the rules. -/
namespace Dt
open PySem PySem.Spec PyProof.Rows L2

/-! ### the weakest readings -/
structure wpE (X : Cx) (e : Expr) (σ : L2.St) (H : Hp) (Q : VK) : Prop where
  run : ∀ (pins : List (Addr × Obj)) (s : Shared), Inv X pins σ H s → wpAny (model X.prog X.w) X.A (eval e X.env) (EP X pins σ Q) X.xe s
structure wpT (X : Cx) (e : Expr) (σ : L2.St) (H : Hp) (Q : Bool → Hp → Prop) : Prop where
  run : ∀ (pins : List (Addr × Obj)) (s : Shared), Inv X pins σ H s → wpAny (model X.prog X.w) X.A (isTrue e X.env (eval e X.env)) (TP X pins σ Q) X.xe s
structure wpW (X : Cx) (e : Expr) (σ : L2.St) (H : Hp) (Q : Bool → Hp → Prop) : Prop where
  run : ∀ (whole : Sem Value) (pins : List (Addr × Obj)) (s : Shared), Inv X pins σ H s → wpAny (model X.prog X.w) X.A (isTrue e X.env whole) (TP X pins σ Q) X.xe s
structure wpA (X : Cx) (es : List Expr) (σ : L2.St) (H : Hp) (Q : List V → Hp → Prop) : Prop where
  run : ∀ (pos : Pos) (pins : List (Addr × Obj)) (s : Shared), Inv X pins σ H s → wpAny (model X.prog X.w) X.A (spliced (backTo pos (starEach es X.env))) (AP X pins σ Q) X.xe s
def wpO (X : Cx) (e : Option Expr) : TO := fun σ H Q => ∃ t, PO X e t ∧ t σ H Q
structure wpS (X : Cx) (st : Stmt) (D : Ends) (σ : L2.St) (H : Hp) : Prop where
  run : ∀ (pins : List (Addr × Obj)) (s : Shared), Inv X pins σ H s → wpAny (model X.prog X.w) X.A (exec st X.env) (SP X pins D) X.xe s
structure wpSs (X : Cx) (sts : List Stmt) (D : Ends) (σ : L2.St) (H : Hp) : Prop where
  run : ∀ (pins : List (Addr × Obj)) (s : Shared), Inv X pins σ H s → wpAny (model X.prog X.w) X.A (execs sts X.env) (SP X pins D) X.xe s
structure wpG (X : Cx) (tg : Expr) (v : V) (σ : L2.St) (H : Hp) (Q : L2.St → Hp → Prop) : Prop where
  run : ∀ (pins : List (Addr × Obj)) (s : Shared) (u : Value), Inv X pins σ H s → RelV v u → wpAny (model X.prog X.w) X.A (assign tg X.env u) (fun _ s' => ∃ σ' H', Inv X pins σ' H' s' ∧ Q σ' H') X.xe s
structure wpI (X : Cx) (tg iter : Expr) (σ : L2.St) (H : Hp) (R : It → Hp → Prop) : Prop where
  run : ∀ (pins : List (Addr × Obj)) (s : Shared), Inv X pins σ H s → wpAny (model X.prog X.w) X.A (eval iter X.env) (fun v s1 => wpAny (model X.prog X.w) X.A (pyIter v) (PIE X pins σ tg R) X.xe s1) X.xe s
section
variable {X : Cx} {e tg : Expr} {es : List Expr} {st : Stmt} {sts : List Stmt} {σ : L2.St} {H : Hp}
theorem pe_wp : PE X e (wpE X e) := ⟨fun pins s _ _ _ I h => h.run pins s I⟩
theorem pt_wp : PT X e (wpT X e) := ⟨fun pins s _ _ _ I h => h.run pins s I⟩
theorem pw_wp : PW X e (wpW X e) := ⟨fun wh pins s _ _ _ I h => h.run wh pins s I⟩
theorem pa_wp : PA X es (wpA X es) := ⟨fun pos pins s _ _ _ I h => h.run pos pins s I⟩
theorem ps_wp : PS X st (wpS X st) := ⟨fun pins s _ _ _ I h => h.run pins s I⟩
theorem pss_wp : PSs X sts (wpSs X sts) := ⟨fun pins s _ _ _ I h => h.run pins s I⟩
theorem pg_wp : PG X tg (wpG X tg) := ⟨fun pins s _ _ _ u _ I r h => h.run pins s u I r⟩
theorem pi_wp : PI X tg e (wpI X tg e) := ⟨fun pins s _ _ _ I h => h.run pins s I⟩
theorem po_wp {e : Option Expr} : PO X e (wpO X e) := ⟨fun pins s σ H Q I h => by
  obtain ⟨t, hp, ht⟩ := h
  exact hp.run pins s σ H Q I ht⟩
theorem wpE_of {t : TE} {Q : VK} (h : PE X e t) (q : t σ H Q) : wpE X e σ H Q := ⟨fun pins s I => h.run pins s σ H Q I q⟩
theorem wpT_of {t : TT} {Q : Bool → Hp → Prop} (h : PT X e t) (q : t σ H Q) : wpT X e σ H Q := ⟨fun pins s I => h.run pins s σ H Q I q⟩
theorem wpW_of {t : TT} {Q : Bool → Hp → Prop} (h : PW X e t) (q : t σ H Q) : wpW X e σ H Q := ⟨fun wh pins s I => h.run wh pins s σ H Q I q⟩
theorem wpA_of {t : TA} {Q : List V → Hp → Prop} (h : PA X es t) (q : t σ H Q) : wpA X es σ H Q := ⟨fun pos pins s I => h.run pos pins s σ H Q I q⟩
theorem wpO_of {e : Option Expr} {t : TO} {Q : Option Int → Hp → Prop} (h : PO X e t) (q : t σ H Q) : wpO X e σ H Q := ⟨t, h, q⟩
theorem wpS_of {t : TS} {D : Ends} (h : PS X st t) (q : t D σ H) : wpS X st D σ H := ⟨fun pins s I => h.run pins s σ H D I q⟩
theorem wpSs_of {t : TS} {D : Ends} (h : PSs X sts t) (q : t D σ H) : wpSs X sts D σ H := ⟨fun pins s I => h.run pins s σ H D I q⟩
theorem wpG_of {t : TG} {v : V} {Q : L2.St → Hp → Prop} (h : PG X tg t) (q : t v σ H Q) : wpG X tg v σ H Q := ⟨fun pins s u I r => h.run pins s σ H v u Q I r q⟩
theorem wpI_of {t : TI} {R : It → Hp → Prop} (h : PI X tg e t) (q : t σ H R) : wpI X tg e σ H R := ⟨fun pins s I => h.run pins s σ H R I q⟩
end

/-! ### the judgements -/
example (ds : List D) : (O.lst ds).era = .lst ds := rfl
example (C : Addr) (d : D) : (O.ins C ["a"] [.d d]).era = .ins C ["a"] [d] := rfl
/-- what is raised: an error of an own class, without attributes, or with some -/
inductive Ex where
  | p (C : Addr) | f (C : Addr) (ns : List Str) (ds : List D)
instance : Coe Addr Ex := ⟨Ex.p⟩
def Ex.dat : Ex → D
  | .p C => .exc C
  | .f C ns ds => .xf C ns ds
def Wish (K : PySem.W.Frag) (E : XK) (I H : Hp) : Ex → Prop
  | .p C => E (.ref C) none H
  | .f C ns ds => ∀ dd vs, I dd = some (.xd (ns.zip vs)) → ns.length = vs.length → RpAll K I vs ds → E (.ref C) (some dd) H
inductive Ov where
  | val (d : D) (ρ : List S) | own (o : O) (ρ : List S) | exc (x : Ex) (ρ : List S)
def PostE (K : PySem.W.Frag) (w : Wd) (W : WX) (σ : L2.St) (I : Hp) (Q : VK) : Ov → Prop
  | .val d ρ' => ∀ v I' H', Same I I' → Ev K w I' H' σ ρ' → Rp K I' v d → Q v H'
  | .own o ρ' => ∀ v I' H', Same I I' → Ev K w I' H' (σ ++ [some v]) (ρ' ++ [.own none o]) → Q v H'
  | .exc x ρ' => ∀ I' H', Same I I' → Ev K w I' H' σ ρ' → Wish K (fun c d H => W c d σ H) I' H' x
def DE (X : Cx) (W : WX) (e : Expr) (ρ : List S) (o : Ov) : Prop :=
  ∀ (w : Wd) (σ : L2.St) (I H : Hp) (Q : VK), Ev X.K w I H σ ρ → PostE X.K w W σ I Q o → wpE X e σ H Q
def DT (X : Cx) (W : WX) (e : Expr) (ρ : List S) (b : Bool) (ρ' : List S) : Prop :=
  ∀ (w : Wd) (σ : L2.St) (I H : Hp) (Q : Bool → Hp → Prop), Ev X.K w I H σ ρ → (∀ I' H', Same I I' → Ev X.K w I' H' σ ρ' → Q b H') → wpT X e σ H Q
def DW (X : Cx) (W : WX) (e : Expr) (ρ : List S) (b : Bool) (ρ' : List S) : Prop :=
  ∀ (w : Wd) (σ : L2.St) (I H : Hp) (Q : Bool → Hp → Prop), Ev X.K w I H σ ρ → (∀ I' H', Same I I' → Ev X.K w I' H' σ ρ' → Q b H') → wpW X e σ H Q
/-- arguments that are data -/
def DA (X : Cx) (W : WX) (es : List Expr) (ρ : List S) (ds : List D) (ρ' : List S) : Prop :=
  ∀ (w : Wd) (σ : L2.St) (I H : Hp) (Q : List V → Hp → Prop), Ev X.K w I H σ ρ → (∀ vs I' H', Same I I' → Ev X.K w I' H' σ ρ' → RpAll X.K I' vs ds → Q vs H') → wpA X es σ H Q
/-- an optional part of a slice -/
def DO (X : Cx) (W : WX) (e : Option Expr) (ρ : List S) (i : Option Int) (ρ' : List S) : Prop :=
  ∀ (w : Wd) (σ : L2.St) (I H : Hp) (Q : Option Int → Hp → Prop), Ev X.K w I H σ ρ → (∀ I' H', Same I I' → Ev X.K w I' H' σ ρ' → Q i H') → wpO X e σ H Q

inductive Oc where
  | next (ρ : List S) | brk (ρ : List S) | cont (ρ : List S) | ret (d : D) (ρ : List S) | rown (o : O) (ρ : List S) | exc (x : Ex) (ρ : List S)
def PostS (K : PySem.W.Frag) (w : Wd) (W : WX) (I : Hp) (Dn : Ends) : Oc → Prop
  | .next ρ' => ∀ σ' I' H', Same I I' → Ev K w I' H' σ' ρ' → Dn.nx σ' H'
  | .brk ρ' => ∀ σ' I' H', Same I I' → Ev K w I' H' σ' ρ' → Dn.bk σ' H'
  | .cont ρ' => ∀ σ' I' H', Same I I' → Ev K w I' H' σ' ρ' → Dn.ct σ' H'
  | .ret d ρ' => ∀ v σ' I' H', Same I I' → Ev K w I' H' σ' ρ' → Rp K I' v d → Dn.rt v H'
  | .rown o ρ' => ∀ v σ' I' H', Same I I' → Ev K w I' H' (σ' ++ [some v]) (ρ' ++ [.own none o]) → Dn.rt v H'
  | .exc x ρ' => ∀ σ' I' H', Same I I' → Ev K w I' H' σ' ρ' → Wish K (fun c d H => W c d σ' H) I' H' x
def DS (X : Cx) (W : WX) (st : Stmt) (ρ : List S) (o : Oc) : Prop :=
  ∀ (w : Wd) (σ : L2.St) (I H : Hp) (Dn : Ends), Ev X.K w I H σ ρ → PostS X.K w W I Dn o → wpS X st Dn σ H
def DSs (X : Cx) (W : WX) (sts : List Stmt) (ρ : List S) (o : Oc) : Prop :=
  ∀ (w : Wd) (σ : L2.St) (I H : Hp) (Dn : Ends), Ev X.K w I H σ ρ → PostS X.K w W I Dn o → wpSs X sts Dn σ H
/-- what follows a statement -/
def Kt (X : Cx) (W : WX) (rest : List Stmt) (o : Oc) : Oc → Prop
  | .next ρ => DSs X W rest ρ o
  | o1 => o = o1

theorem PostE.mono {K : PySem.W.Frag} {w : Wd} {W : WX} {σ : L2.St} {I I1 : Hp} {Q : VK} {o : Ov} (e : Same I I1) (h : PostE K w W σ I Q o) : PostE K w W σ I1 Q o := by
  cases o with
  | val d ρ' => exact fun v I' H' s => h v I' H' (e.trans s)
  | own d ρ' => exact fun v I' H' s => h v I' H' (e.trans s)
  | exc d ρ' => exact fun I' H' s => h I' H' (e.trans s)
theorem PostS.mono {K : PySem.W.Frag} {w : Wd} {W : WX} {I I1 : Hp} {Dn : Ends} {o : Oc} (e : Same I I1) (h : PostS K w W I Dn o) : PostS K w W I1 Dn o := by
  cases o with
  | next ρ' => exact fun σ' I' H' s => h σ' I' H' (e.trans s)
  | brk ρ' => exact fun σ' I' H' s => h σ' I' H' (e.trans s)
  | cont ρ' => exact fun σ' I' H' s => h σ' I' H' (e.trans s)
  | ret d ρ' => exact fun v σ' I' H' s => h v σ' I' H' (e.trans s)
  | rown d ρ' => exact fun v σ' I' H' s => h v σ' I' H' (e.trans s)
  | exc d ρ' => exact fun σ' I' H' s => h σ' I' H' (e.trans s)
/-- the ends that are no next are as they were -/
theorem PostS.seq {K : PySem.W.Frag} {w : Wd} {W : WX} {I : Hp} {Dn : Ends} {N : L2.St → Hp → Prop} {o : Oc} (h : PostS K w W I Dn o) (hn : ∀ ρ, o ≠ .next ρ) : PostS K w W I { Dn with nx := N } o := by
  cases o with
  | next ρ' => exact absurd rfl (hn ρ')
  | brk ρ' => exact h
  | cont ρ' => exact h
  | ret d ρ' => exact h
  | rown d ρ' => exact h
  | exc d ρ' => exact h

/-- the context of a def's body (or of a try's) -/
structure Cz (X : Cx) (W : WX) (k : Nat) : Prop where
  calm : X.calm = true
  nd : X.N.Nodup
  tk : Takes X W
  po : PassesOwn (model X.prog X.w) X.A X.env X.xe
  rm : Room k X.A

section
variable {X : Cx} {W : WX} {ρ ρ1 ρ2 ρ3 : List S} {pos : Pos}

/-! ### names and constants -/
theorem de_var {i : Nat} {x : Str} {d : D} (hN : X.N[i]? = some x) (hv : Vis X.env.scope x) (h : ρ[i]? = some (.v d)) (hd : (x == ("__debug__" : Str)) = false := by decide) (hcd : (x == ("__classdict__" : Str)) = false := by decide) : DE X W (.Name x pos) ρ (.val d ρ) :=
  fun w σ I H Q e p => by
    obtain ⟨v, h1, h2⟩ := e.vals i d h
    exact wpE_of (pe_var hN hv hd hcd) ⟨v, h1, p v I H (Same.refl I) e h2⟩
/-- an owned list of our own making is read as a value: it stands still from here on -/
theorem de_frz {i : Nat} {x : Str} {o : O} (hN : X.N[i]? = some x) (hv : Vis X.env.scope x) (h : ρ[i]? = some (.own none o)) (hd : (x == ("__debug__" : Str)) = false := by decide) (hcd : (x == ("__classdict__" : Str)) = false := by decide) :
    DE X W (.Name x pos) ρ (.val o.era (ρ.set i (.v o.era))) :=
  fun w σ I H Q e p => by
    obtain ⟨a, I', h1, h2, h3, h4⟩ := e.freeze h
    exact wpE_of (pe_var hN hv hd hcd) ⟨_, h1, p _ I' H h2 h4 h3⟩
theorem de_int {i : Int} {j : Nat} : DE X W (.Constant (.int i) j pos) ρ (.val (.int i) ρ) := fun w σ I H Q e p => wpE_of pe_int (p _ I H (Same.refl I) e (.int i))
theorem de_bl {b : Bool} {j : Nat} : DE X W (.Constant (.bool b) j pos) ρ (.val (.bl b) ρ) := fun w σ I H Q e p => wpE_of pe_bl (p _ I H (Same.refl I) e (.bl b))
theorem de_non {j : Nat} : DE X W (.Constant .none j pos) ρ (.val .non ρ) := fun w σ I H Q e p => wpE_of pe_non (p _ I H (Same.refl I) e .non)
theorem de_str {x : Str} {j : Nat} : DE X W (.Constant (.str x) j pos) ρ (.val (.str x) ρ) := fun w σ I H Q e p => wpE_of pe_str (p _ I H (Same.refl I) e (.str x))
theorem de_glob {x : Str} {v : V} {u : Value} {d : D} (hg : Gl X x) (hm : X.mg x = some u) (r : RelV v u) (q : ∀ I, Rp X.K I v d) (hd : (x == ("__debug__" : Str)) = false := by decide) : DE X W (.Name x pos) ρ (.val d ρ) :=
  fun w σ I H Q e p => wpE_of (pe_glob hg hm r hd) (p _ I H (Same.refl I) e (q I))
theorem DE.cast {e : Expr} {d d' : D} (h : DE X W e ρ (.val d ρ1)) (q : d = d') : DE X W e ρ (.val d' ρ1) := q ▸ h
/-- a new owned list stands still at once -/
theorem de_still {e : Expr} {o : O} (h : DE X W e ρ (.own o ρ1)) : DE X W e ρ (.val o.era ρ1) := fun w σ I H Q ev p => h w σ I H Q ev fun v I' H' s e' => by
  obtain ⟨I2, s2, r, e2⟩ := e'.settle
  exact p v I2 H' (s.trans s2) e2 r

/-! ### two operands -/
def Prim2 (K : PySem.W.Frag) (r : R2) (d1 d2 d : D) : Prop := ∀ (I H : Hp) (v1 v2 : V) (Q : VK), Same I H → Rp K I v1 d1 → Rp K I v2 d2 → (∀ v, Rp K I v d → Q v H) → r v1 v2 H Q
def Prim2L (K : PySem.W.Frag) (r : R2) (d1 d2 : D) (ds : List D) : Prop := ∀ (I H : Hp) (v1 v2 : V) (Q : VK), Same I H → Rp K I v1 d1 → Rp K I v2 d2 → (∀ p vs, H p = none → RpAll K I vs ds → Q (.ref p) (upd H p (.lst vs))) → r v1 v2 H Q
variable {a b c : Expr} {d d1 d2 d3 : D}
theorem de2 {e : Expr} {r : R2} (hpe : PE X e (tOp r (wpE X a) (wpE X b))) (ha : DE X W a ρ (.val d1 ρ1)) (hb : DE X W b ρ1 (.val d2 ρ2)) (hp : Prim2 X.K r d1 d2 d) : DE X W e ρ (.val d ρ2) :=
  fun w σ I H Q e p => wpE_of hpe (ha w σ I H _ e fun v1 I1 H1 s1 e1 r1 => hb w σ I1 H1 _ e1 fun v2 I2 H2 s2 e2 r2 =>
    hp I2 H2 v1 v2 Q e2.sub (r1.up s2) r2 fun v r => p v I2 H2 (s1.trans s2) e2 r)
theorem de2L {e : Expr} {r : R2} {ds : List D} (hpe : PE X e (tOp r (wpE X a) (wpE X b))) (ha : DE X W a ρ (.val d1 ρ1)) (hb : DE X W b ρ1 (.val d2 ρ2)) (hp : Prim2L X.K r d1 d2 ds) : DE X W e ρ (.own (.lst ds) ρ2) :=
  fun w σ I H Q e p => wpE_of hpe (ha w σ I H _ e fun v1 I1 H1 s1 e1 r1 => hb w σ I1 H1 _ e1 fun v2 I2 H2 s2 e2 r2 =>
    hp I2 H2 v1 v2 Q e2.sub (r1.up s2) r2 fun q vs hq rv => p _ I2 _ (s1.trans s2) (e2.alloc hq rv))
theorem dt2 {e : Expr} {r : R2} {k : Bool} (hpe : PT X e (tTest (tOp r (wpE X a) (wpE X b)))) (ha : DE X W a ρ (.val d1 ρ1)) (hb : DE X W b ρ1 (.val d2 ρ2)) (hp : Prim2 X.K r d1 d2 (.bl k)) : DT X W e ρ k ρ2 :=
  fun w σ I H Q e p => wpT_of hpe (ha w σ I H _ e fun v1 I1 H1 s1 e1 r1 => hb w σ I1 H1 _ e1 fun v2 I2 H2 s2 e2 r2 =>
    hp I2 H2 v1 v2 _ e2.sub (r1.up s2) r2 fun v r => by
      cases r
      exact ⟨k, rfl, p I2 H2 (s1.trans s2) e2⟩)
theorem prim_I0 {K : PySem.W.Frag} {g : Int → Int → V} {i j : Int} {d : D} (h : ∀ I, Rp K I (g i j) d) : Prim2 K (rI0 g) (.int i) (.int j) d := fun I H v1 v2 Q s r1 r2 q => by
  cases r1; cases r2
  exact ⟨i, j, rfl, rfl, q _ (h I)⟩
theorem prim_I {K : PySem.W.Frag} {C : Int → Int → Prop} {g : Int → Int → V} {i j : Int} {d : D} (hc : C i j) (h : ∀ I, Rp K I (g i j) d) : Prim2 K (rI C g) (.int i) (.int j) d := fun I H v1 v2 Q s r1 r2 q => by
  cases r1; cases r2
  exact ⟨i, j, rfl, rfl, hc, q _ (h I)⟩
section
variable {i j : Int}
theorem de_add (ha : DE X W a ρ (.val (.int i) ρ1)) (hb : DE X W b ρ1 (.val (.int j) ρ2)) : DE X W (.BinOp a .Add b pos) ρ (.val (.int (i + j)) ρ2) := de2 (pe_op op_add pe_wp pe_wp) ha hb (prim_I0 fun I => .int _)
theorem de_sub (ha : DE X W a ρ (.val (.int i) ρ1)) (hb : DE X W b ρ1 (.val (.int j) ρ2)) : DE X W (.BinOp a .Sub b pos) ρ (.val (.int (i - j)) ρ2) := de2 (pe_op op_sub pe_wp pe_wp) ha hb (prim_I0 fun I => .int _)
theorem de_mul (hc : CMul i j) (ha : DE X W a ρ (.val (.int i) ρ1)) (hb : DE X W b ρ1 (.val (.int j) ρ2)) : DE X W (.BinOp a .Mult b pos) ρ (.val (.int (i * j)) ρ2) := de2 (pe_op op_mul pe_wp pe_wp) ha hb (prim_I hc fun I => .int _)
theorem de_mod (hc : 0 < j) (ha : DE X W a ρ (.val (.int i) ρ1)) (hb : DE X W b ρ1 (.val (.int j) ρ2)) : DE X W (.BinOp a .Mod b pos) ρ (.val (.int (i % j)) ρ2) := de2 (pe_op op_mod pe_wp pe_wp) ha hb (prim_I (C := fun _ j => 0 < j) hc fun I => .int _)
theorem de_fdiv (hc : CDiv i j) (ha : DE X W a ρ (.val (.int i) ρ1)) (hb : DE X W b ρ1 (.val (.int j) ρ2)) : DE X W (.BinOp a .FloorDiv b pos) ρ (.val (.int (i / j)) ρ2) := de2 (pe_op op_fdiv pe_wp pe_wp) ha hb (prim_I hc fun I => .int _)
theorem de_pow (hc : CPow i j) (ha : DE X W a ρ (.val (.int i) ρ1)) (hb : DE X W b ρ1 (.val (.int j) ρ2)) : DE X W (.BinOp a .Pow b pos) ρ (.val (.int (i ^ j.toNat)) ρ2) := de2 (pe_op op_pow pe_wp pe_wp) ha hb (prim_I hc fun I => .int _)
end
theorem de_addS {x y : Str} (hl : x.length + y.length ≤ sizeLine) (ha : DE X W a ρ (.val (.str x) ρ1)) (hb : DE X W b ρ1 (.val (.str y) ρ2)) : DE X W (.BinOp a .Add b pos) ρ (.val (.str (x ++ y)) ρ2) :=
  de2 (pe_op op_add_str pe_wp pe_wp) ha hb fun I H v1 v2 Q s r1 r2 q => by
    cases r1; cases r2
    exact ⟨x, y, rfl, rfl, hl, q _ (.str _)⟩
/-! ### comparisons -/
/-- the answer of a comparison of two ints -/
def cmpI : CmpOp → Int → Int → Option Bool
  | .Lt, i, j => some (decide (i < j))
  | .LtE, i, j => some (decide (i ≤ j))
  | .Gt, i, j => some (decide (j < i))
  | .GtE, i, j => some (decide (j ≤ i))
  | .Eq, i, j => some (decide (i = j))
  | .NotEq, i, j => some (!decide (i = j))
  | _, _, _ => none
theorem dec_vint {i j : Int} : decide (V.int i = V.int j) = decide (i = j) := by
  by_cases h : i = j
  · subst h; simp
  · rw [decide_eq_false h]
    exact decide_eq_false fun z => h (V.int.inj z)
theorem dec_vstr {i j : Str} : decide (V.str i = V.str j) = decide (i = j) := by
  by_cases h : i = j
  · subst h; simp
  · rw [decide_eq_false h]
    exact decide_eq_false fun z => h (V.str.inj z)
theorem dec_vbl {i j : Bool} : decide (V.bl i = V.bl j) = decide (i = j) := by
  cases i <;> cases j <;> decide
theorem cmpI_op {op : CmpOp} {i j : Int} {k : Bool} (h : cmpI op i j = some k) : ∃ r, OpR X (compareOp op) r ∧ Prim2 X.K r (.int i) (.int j) (.bl k) := by
  cases op <;> first | cases h
  · exact ⟨_, op_eq, fun I H v1 v2 Q s r1 r2 q => by cases r1; cases r2; exact ⟨rfl, by rw [dec_vint]; exact q _ (.bl _)⟩⟩
  · exact ⟨_, op_ne, fun I H v1 v2 Q s r1 r2 q => by cases r1; cases r2; exact ⟨rfl, by rw [dec_vint]; exact q _ (.bl _)⟩⟩
  · exact ⟨_, op_lt, prim_I0 fun I => .bl _⟩
  · exact ⟨_, op_le, prim_I0 fun I => .bl _⟩
  · exact ⟨_, op_gt, prim_I0 fun I => .bl _⟩
  · exact ⟨_, op_ge, prim_I0 fun I => .bl _⟩
theorem cmpI_ne {op : CmpOp} {i j : Int} {k : Bool} (h : cmpI op i j = some k) : op ≠ .In ∧ op ≠ .NotIn := by refine ⟨fun z => ?_, fun z => ?_⟩ <;> (subst z; cases h)
theorem de_cmpI {op : CmpOp} {i j : Int} {k : Bool} (h : cmpI op i j = some k) (ha : DE X W a ρ (.val (.int i) ρ1)) (hb : DE X W b ρ1 (.val (.int j) ρ2)) : DE X W (.Compare a [op] [b] pos) ρ (.val (.bl k) ρ2) := by
  obtain ⟨r, h1, h2⟩ := cmpI_op (X := X) h
  exact de2 (pe_cmpR h1 pe_wp pe_wp (nomark _ (cmpI_ne h).1 (cmpI_ne h).2)) ha hb h2
theorem dt_cmpI {op : CmpOp} {i j : Int} {k : Bool} (h : cmpI op i j = some k) (ha : DE X W a ρ (.val (.int i) ρ1)) (hb : DE X W b ρ1 (.val (.int j) ρ2)) : DT X W (.Compare a [op] [b] pos) ρ k ρ2 := by
  obtain ⟨r, h1, h2⟩ := cmpI_op (X := X) h
  exact dt2 (pt_cmpR h1 pe_wp pe_wp (nomark _ (cmpI_ne h).1 (cmpI_ne h).2)) ha hb h2
def cmpS : CmpOp → Str → Str → Option Bool
  | .Eq, i, j => some (decide (i = j))
  | .NotEq, i, j => some (!decide (i = j))
  | .LtE, i, j => some (!decide (j.cps.toList < i.cps.toList))
  | _, _, _ => none
theorem cmpS_op {op : CmpOp} {i j : Str} {k : Bool} (h : cmpS op i j = some k) : ∃ r, OpR X (compareOp op) r ∧ Prim2 X.K r (.str i) (.str j) (.bl k) := by
  cases op <;> first | cases h
  · exact ⟨_, op_eq, fun I H v1 v2 Q s r1 r2 q => by cases r1; cases r2; exact ⟨rfl, by rw [dec_vstr]; exact q _ (.bl _)⟩⟩
  · exact ⟨_, op_ne, fun I H v1 v2 Q s r1 r2 q => by cases r1; cases r2; exact ⟨rfl, by rw [dec_vstr]; exact q _ (.bl _)⟩⟩
  · exact ⟨_, op_le_str, fun I H v1 v2 Q s r1 r2 q => by cases r1; cases r2; exact ⟨_, _, rfl, rfl, q _ (.bl _)⟩⟩
theorem cmpS_ne {op : CmpOp} {i j : Str} {k : Bool} (h : cmpS op i j = some k) : op ≠ .In ∧ op ≠ .NotIn := by refine ⟨fun z => ?_, fun z => ?_⟩ <;> (subst z; cases h)
theorem de_cmpS {op : CmpOp} {i j : Str} {k : Bool} (h : cmpS op i j = some k) (ha : DE X W a ρ (.val (.str i) ρ1)) (hb : DE X W b ρ1 (.val (.str j) ρ2)) : DE X W (.Compare a [op] [b] pos) ρ (.val (.bl k) ρ2) := by
  obtain ⟨r, h1, h2⟩ := cmpS_op (X := X) h
  exact de2 (pe_cmpR h1 pe_wp pe_wp (nomark _ (cmpS_ne h).1 (cmpS_ne h).2)) ha hb h2
theorem dt_cmpS {op : CmpOp} {i j : Str} {k : Bool} (h : cmpS op i j = some k) (ha : DE X W a ρ (.val (.str i) ρ1)) (hb : DE X W b ρ1 (.val (.str j) ρ2)) : DT X W (.Compare a [op] [b] pos) ρ k ρ2 := by
  obtain ⟨r, h1, h2⟩ := cmpS_op (X := X) h
  exact dt2 (pt_cmpR h1 pe_wp pe_wp (nomark _ (cmpS_ne h).1 (cmpS_ne h).2)) ha hb h2
/-- one sign in a text -/
theorem de_inS {ch : Nat} {z : Str} (ha : DE X W a ρ (.val (.str ⟨#[ch]⟩) ρ1)) (hb : DE X W b ρ1 (.val (.str z) ρ2)) (hm : behindInMarks .In b = false := by rfl) : DE X W (.Compare a [.In] [b] pos) ρ (.val (.bl (decide (ch ∈ z.cps.toList))) ρ2) :=
  de2 (pe_cmpR op_in_sign pe_wp pe_wp hm) ha hb fun I H v1 v2 Q s r1 r2 q => by cases r1; cases r2; exact ⟨ch, z, rfl, rfl, q _ (.bl _)⟩
theorem dt_inS {ch : Nat} {z : Str} (ha : DE X W a ρ (.val (.str ⟨#[ch]⟩) ρ1)) (hb : DE X W b ρ1 (.val (.str z) ρ2)) (hm : behindInMarks .In b = false := by rfl) : DT X W (.Compare a [.In] [b] pos) ρ (decide (ch ∈ z.cps.toList)) ρ2 :=
  dt2 (pt_cmpR op_in_sign pe_wp pe_wp hm) ha hb fun I H v1 v2 Q s r1 r2 q => by cases r1; cases r2; exact ⟨ch, z, rfl, rfl, q _ (.bl _)⟩
/-- is None, is not None -/
def isNon : D → Bool
  | .non => true
  | .raw v => decide (v = .non)
  | _ => false
theorem rp_non {K : PySem.W.Frag} {I : Hp} {v : V} {d : D} (h : Rp K I v d) : decide (v = .non) = isNon d := by
  cases h with
  | raw v => rfl
  | _ => rfl
theorem dt_isN {j : Nat} {p2 : Pos} (ha : DE X W a ρ (.val d1 ρ1)) : DT X W (.Compare a [.Is] [.Constant .none j p2] pos) ρ (isNon d1) ρ1 :=
  dt2 (pt_cmpR op_isN pe_wp pe_wp (nomark _)) ha de_non fun I H v1 v2 Q s r1 r2 q => by
    cases r2
    exact ⟨rfl, by rw [rp_non r1]; exact q _ (.bl _)⟩
theorem dt_notN {j : Nat} {p2 : Pos} (ha : DE X W a ρ (.val d1 ρ1)) : DT X W (.Compare a [.IsNot] [.Constant .none j p2] pos) ρ (!isNon d1) ρ1 :=
  dt2 (pt_cmpR op_notN pe_wp pe_wp (nomark _)) ha de_non fun I H v1 v2 Q s r1 r2 q => by
    cases r2
    exact ⟨rfl, by rw [rp_non r1]; exact q _ (.bl _)⟩
/-- a op b op' c (ints) -/
theorem de_chainI {op op' : CmpOp} {i j l : Int} {k k' : Bool} (h : cmpI op i j = some k) (h' : cmpI op' j l = some k') (ha : DE X W a ρ (.val (.int i) ρ)) (hb : DE X W b ρ (.val (.int j) ρ)) (hc : DE X W c ρ (.val (.int l) ρ)) (hm : lastMarks [op, op'] [b, c] = false := by with_unfolding_all rfl) : DE X W (.Compare a [op, op'] [b, c] pos) ρ (.val (.bl (k && k')) ρ) := by
  obtain ⟨r, h1, h2⟩ := cmpI_op (X := X) h
  obtain ⟨r', h1', h2'⟩ := cmpI_op (X := X) h'
  refine fun w σ I H Q e p => wpE_of (pe_chain h1 h1' pe_wp pe_wp pe_wp hm) ?_
  refine ha w σ I H _ e fun v1 I1 H1 s1 e1 r1 => hb w σ I1 H1 _ e1 fun v2 I2 H2 s2 e2 r2 => h2 I2 H2 v1 v2 _ e2.sub (r1.up s2) r2 fun v rv => ?_
  cases rv
  refine ⟨k, rfl, ?_⟩
  cases k with
  | true =>
    refine hc w σ I2 H2 _ e2 fun v3 I3 H3 s3 e3 r3 => h2' I3 H3 v2 v3 _ e3.sub (r2.up s3) r3 fun v rv => ?_
    cases rv
    exact p _ I3 H3 ((s1.trans s2).trans s3) e3 (.bl _)
  | false => exact p _ I2 H2 (s1.trans s2) e2 (.bl _)
theorem dt_chainI {op op' : CmpOp} {i j l : Int} {k k' : Bool} (h : cmpI op i j = some k) (h' : cmpI op' j l = some k') (ha : DE X W a ρ (.val (.int i) ρ)) (hb : DE X W b ρ (.val (.int j) ρ)) (hc : DE X W c ρ (.val (.int l) ρ)) (hm : lastMarks [op, op'] [b, c] = false := by with_unfolding_all rfl) : DT X W (.Compare a [op, op'] [b, c] pos) ρ (k && k') ρ := by
  obtain ⟨r, h1, h2⟩ := cmpI_op (X := X) h
  obtain ⟨r', h1', h2'⟩ := cmpI_op (X := X) h'
  refine fun w σ I H Q e p => wpT_of (pt_chain h1 h1' pe_wp pe_wp pe_wp hm) ?_
  refine ha w σ I H _ e fun v1 I1 H1 s1 e1 r1 => hb w σ I1 H1 _ e1 fun v2 I2 H2 s2 e2 r2 => h2 I2 H2 v1 v2 _ e2.sub (r1.up s2) r2 fun v rv => ?_
  cases rv
  refine ⟨k, rfl, ?_⟩
  cases k with
  | true =>
    refine hc w σ I2 H2 _ e2 fun v3 I3 H3 s3 e3 r3 => h2' I3 H3 v2 v3 _ e3.sub (r2.up s3) r3 fun v rv => ?_
    cases rv
    exact ⟨_, rfl, p I3 H3 ((s1.trans s2).trans s3) e3⟩
  | false => exact ⟨false, rfl, p I2 H2 (s1.trans s2) e2⟩

/-! ### tests -/
/-- a value's truth -/
def truD : D → Option Bool
  | .non => some false
  | .bl b => some b
  | .int i => some (i != 0)
  | .str y => if y.length ≤ sizeLine then some ((y.length : Int) != 0) else none
  | .lst xs => some (!xs.isEmpty)
  | .tup xs => some (!xs.isEmpty)
  | .exc _ => none
  | .scr ns => some (!ns.isEmpty)
  | .rws xs => some (!xs.isEmpty)
  | _ => none
theorem RpAll.empty {K : PySem.W.Frag} {I : Hp} {vs : List V} {ds : List D} (h : RpAll K I vs ds) : vs.isEmpty = ds.isEmpty := by cases h <;> rfl
theorem tru_of {K : PySem.W.Frag} {I H : Hp} {v : V} {d : D} {k : Bool} (s : Same I H) (r : Rp K I v d) (h : truD d = some k) : TruV K v H k := by
  cases r with
  | non => cases h; rfl
  | bl b => cases h; rfl
  | int i => cases h; rfl
  | str x =>
    have h : (if x.length ≤ sizeLine then some ((x.length : Int) != 0) else none) = some k := h
    by_cases hl : x.length ≤ sizeLine
    · rw [if_pos hl] at h
      exact ⟨hl, (Option.some.inj h).symm⟩
    · rw [if_neg hl] at h
      cases h
  | lst h1 h2 => cases h; exact .inl ⟨_, .of (s _ _ h1), by rw [h2.empty]⟩
  | tup h1 h2 => cases h; exact .inr (.inl ⟨_, same_t s h1, by rw [h2.empty]⟩)
  | exc h1 => cases h
  | @scr a ns h1 => cases h; exact .inl ⟨_, s.seq h1, by cases ns <;> rfl⟩
  | rws h1 h2 h3 => cases h; exact .inl ⟨_, .of (s _ _ h1), by rw [h3.empty]⟩
  | ins h1 h2 h3 => cases h
  | dic h1 h2 h3 h4 => cases h
  | xf h1 h2 h3 h4 => cases h
  | exn h1 h2 h3 => cases h
  | raw v => cases h
  | dkl h1 h2 h3 h4 => cases h
/-- a list of unlike objects is a list -/
theorem Rp.lst_of {K : PySem.W.Frag} {I : Hp} {v : V} {ds : List D} (h : Rp K I v (.rws ds)) : Rp K I v (.lst ds) := by
  cases h with
  | rws h1 h2 h3 => exact .lst h1 h3
theorem de_rws {ds : List D} (h : DE X W a ρ (.val (.rws ds) ρ1)) : DE X W a ρ (.val (.lst ds) ρ1) := fun w σ I H Q e p => h w σ I H Q e fun v I1 H1 s1 e1 r1 => p v I1 H1 s1 e1 r1.lst_of
theorem dt_tru {k : Bool} (h : truD d = some k) (ha : DE X W a ρ (.val d ρ1)) (he : ∀ whole, isTrue a X.env whole = (do let v ← whole; standAt a.pos; holding [v] (truthy v)) := by intro _; rfl) : DT X W a ρ k ρ1 :=
  fun w σ I H Q e p => wpT_of (pt_truth pe_wp he) (ha w σ I H _ e fun v1 I1 H1 s1 e1 r1 => ⟨k, tru_of e1.sub r1 h, p I1 H1 s1 e1⟩)
theorem dt_not {k : Bool} (h : DT X W a ρ k ρ1) : DT X W (.UnaryOp .Not a pos) ρ (!k) ρ1 := fun w σ I H Q e p => wpT_of (pt_not pt_wp) (h w σ I H _ e fun I1 H1 s1 e1 => p I1 H1 s1 e1)
theorem dt_w {k : Bool} (h : DW X W a ρ k ρ1) : DT X W a ρ k ρ1 := fun w σ I H Q e p => wpT_of (PW.pt pw_wp) (h w σ I H _ e fun I1 H1 s1 e1 => p I1 H1 s1 e1)
theorem dw_and1 {k : Bool} (h : DT X W a ρ k ρ1) : DW X W (.BoolOp .And [a] pos) ρ k ρ1 := fun w σ I H Q e p => wpW_of (pw_and1 pt_wp) (h w σ I H _ e fun I1 H1 s1 e1 => p I1 H1 s1 e1)
theorem dw_or1 {k : Bool} (h : DT X W a ρ k ρ1) : DW X W (.BoolOp .Or [a] pos) ρ k ρ1 := fun w σ I H Q e p => wpW_of (pw_or1 pt_wp) (h w σ I H _ e fun I1 H1 s1 e1 => p I1 H1 s1 e1)
theorem dw_and {k k' : Bool} {rest : List Expr} (h : DT X W a ρ k ρ) (h' : k = true → DW X W (.BoolOp .And (b :: rest) pos) ρ k' ρ) : DW X W (.BoolOp .And (a :: b :: rest) pos) ρ (k && k') ρ :=
  fun w σ I H Q e p => wpW_of (pw_and pt_wp pw_wp) (h w σ I H _ e fun I1 H1 s1 e1 => by
    cases k with
    | true =>
      show (if true = true then _ else _)
      rw [if_pos rfl]
      exact h' rfl w σ I1 H1 _ e1 fun I2 H2 s2 e2 => p I2 H2 (s1.trans s2) e2
    | false =>
      show (if false = true then _ else _)
      rw [if_neg Bool.false_ne_true]
      exact p I1 H1 s1 e1)
theorem dw_or {k k' : Bool} {rest : List Expr} (h : DT X W a ρ k ρ) (h' : k = false → DW X W (.BoolOp .Or (b :: rest) pos) ρ k' ρ) : DW X W (.BoolOp .Or (a :: b :: rest) pos) ρ (k || k') ρ :=
  fun w σ I H Q e p => wpW_of (pw_or pt_wp pw_wp) (h w σ I H _ e fun I1 H1 s1 e1 => by
    cases k with
    | true =>
      show (if true = true then _ else _)
      rw [if_pos rfl]
      exact p I1 H1 s1 e1
    | false =>
      show (if false = true then _ else _)
      rw [if_neg Bool.false_ne_true]
      exact h' rfl w σ I1 H1 _ e1 fun I2 H2 s2 e2 => p I2 H2 (s1.trans s2) e2)
/-- and, or, not as values (bools) -/
theorem de_one {op : BoolOp} {o : Ov} (h : DE X W a ρ o) : DE X W (.BoolOp op [a] pos) ρ o := fun w σ I H Q e p => wpE_of (pe_one pe_wp) (h w σ I H Q e p)
theorem de_and {k k' : Bool} {rest : List Expr} (h : DE X W a ρ (.val (.bl k) ρ)) (h' : k = true → DE X W (.BoolOp .And (b :: rest) pos) ρ (.val (.bl k') ρ)) : DE X W (.BoolOp .And (a :: b :: rest) pos) ρ (.val (.bl (k && k')) ρ) :=
  fun w σ I H Q e p => wpE_of (pe_and pe_wp pe_wp) (h w σ I H _ e fun v I1 H1 s1 e1 r => by
    cases r
    refine ⟨k, rfl, ?_⟩
    cases k with
    | true =>
      rw [if_pos rfl]
      exact h' rfl w σ I1 H1 _ e1 fun v I2 H2 s2 e2 r => p v I2 H2 (s1.trans s2) e2 r
    | false =>
      rw [if_neg Bool.false_ne_true]
      exact p _ I1 H1 s1 e1 (.bl false))
theorem de_or {k k' : Bool} {rest : List Expr} (h : DE X W a ρ (.val (.bl k) ρ)) (h' : k = false → DE X W (.BoolOp .Or (b :: rest) pos) ρ (.val (.bl k') ρ)) : DE X W (.BoolOp .Or (a :: b :: rest) pos) ρ (.val (.bl (k || k')) ρ) :=
  fun w σ I H Q e p => wpE_of (pe_or pe_wp pe_wp) (h w σ I H _ e fun v I1 H1 s1 e1 r => by
    cases r
    refine ⟨k, rfl, ?_⟩
    cases k with
    | true =>
      rw [if_pos rfl]
      exact p _ I1 H1 s1 e1 (.bl true)
    | false =>
      rw [if_neg Bool.false_ne_true]
      exact h' rfl w σ I1 H1 _ e1 fun v I2 H2 s2 e2 r => p v I2 H2 (s1.trans s2) e2 r)
theorem de_not {k : Bool} (h : DE X W a ρ (.val (.bl k) ρ1)) : DE X W (.UnaryOp .Not a pos) ρ (.val (.bl (!k)) ρ1) := fun w σ I H Q e p => wpE_of (pe_not pe_wp) (h w σ I H _ e fun v I1 H1 s1 e1 r => by
    cases r
    exact ⟨k, rfl, p _ I1 H1 s1 e1 (.bl _)⟩)
/-- a if c else b -/
theorem de_if {k : Bool} {o : Ov} (h : DT X W c ρ k ρ1) (ha : k = true → DE X W a ρ1 o) (hb : k = false → DE X W b ρ1 o) : DE X W (.IfExp c a b pos) ρ o :=
  fun w σ I H Q e p => wpE_of (pe_ifExp pt_wp pe_wp pe_wp) (h w σ I H _ e fun I1 H1 s1 e1 => by
    cases k with
    | true =>
      rw [if_pos rfl]
      exact ha rfl w σ I1 H1 _ e1 (p.mono s1)
    | false =>
      rw [if_neg Bool.false_ne_true]
      exact hb rfl w σ I1 H1 _ e1 (p.mono s1))

/-! ### arguments, displays -/
theorem da_nil : DA X W [] ρ [] ρ := fun w σ I H Q e p => wpA_of pa_nil (p [] I H (Same.refl I) e .nil)
theorem da_cons {es : List Expr} {ds : List D} (h : DE X W a ρ (.val d ρ1)) (hr : DA X W es ρ1 ds ρ2) (hs : starEach (a :: es) X.env = (false, eval a X.env) :: starEach es X.env := by exact Dt.star_cons rfl) : DA X W (a :: es) ρ (d :: ds) ρ2 :=
  fun w σ I H Q e p => wpA_of (pa_cons pe_wp pa_wp hs) (h w σ I H _ e fun v I1 H1 s1 e1 r => hr w σ I1 H1 _ e1 fun vs I2 H2 s2 e2 r2 => p _ I2 H2 (s1.trans s2) e2 (.cons (r.up s2) r2))
theorem de_lst {es : List Expr} {ds : List D} (h : DA X W es ρ ds ρ1) (hl : ds.length ≤ sizeLine) : DE X W (.List es pos) ρ (.own (.lst ds) ρ1) :=
  fun w σ I H Q e p => wpE_of (pe_lst pa_wp) (h w σ I H _ e fun vs I1 H1 s1 e1 r => ⟨by rw [r.length]; exact hl, fun q hq => p _ I1 _ s1 (e1.alloc hq r)⟩)
theorem de_tup {es : List Expr} {ds : List D} {x1 : Nat} (h : DA X W es ρ ds ρ1) (hl : ds.length ≤ sizeLine) : DE X W (.Tuple es x1 pos) ρ (.val (.tup ds) ρ1) :=
  fun w σ I H Q e p => wpE_of (pe_tup pa_wp) (h w σ I H _ e fun vs I1 H1 s1 e1 r => ⟨by rw [r.length]; exact hl, fun q hq => by
    have s2 : Same I1 (upd I1 q (.tup vs)) := same_upd (e1.fresh hq).2
    exact p _ (upd I1 q (.tup vs)) _ (s1.trans s2) (e1.still hq) (.tup (.of upd_same) (r.up s2))⟩)
end
end Dt


set_option Elab.async false
set_option linter.all false
set_option maxRecDepth 100000
set_option maxHeartbeats 1000000
namespace Dt
open PySem PySem.Spec PyProof.Rows L2

/-! ### borrowed: read at once, whether it stands still or not -/
def DB (X : Cx) (W : WX) (e : Expr) (ρ : List S) (d : D) (ρ' : List S) : Prop :=
  ∀ (w : Wd) (σ : L2.St) (I H : Hp) (Q : VK), Ev X.K w I H σ ρ → (∀ v I' H', Same I I' → Ev X.K w I' H' σ ρ' → Rp X.K H' v d → Q v H') → wpE X e σ H Q
def DAb (X : Cx) (W : WX) (es : List Expr) (ρ : List S) (ds : List D) (ρ' : List S) : Prop :=
  ∀ (w : Wd) (σ : L2.St) (I H : Hp) (Q : List V → Hp → Prop), Ev X.K w I H σ ρ → (∀ vs I' H', Same I I' → Ev X.K w I' H' σ ρ' → RpAll X.K H' vs ds → Q vs H') → wpA X es σ H Q
section
variable {X : Cx} {W : WX} {ρ ρ1 ρ2 ρ3 : List S} {pos : Pos} {a b c e : Expr} {es : List Expr} {d d1 d2 : D} {ds : List D}
theorem db_of (h : DE X W a ρ (.val d ρ1)) : DB X W a ρ d ρ1 := fun w σ I H Q ev p => h w σ I H Q ev fun v I1 H1 s1 e1 r => p v I1 H1 s1 e1 (r.up e1.sub)
theorem db_own {i : Nat} {x : Str} {k : Option Nat} (hN : X.N[i]? = some x) (hv : Vis X.env.scope x) (h : ρ[i]? = some (.own k (.lst ds))) (hd : (x == ("__debug__" : Str)) = false := by decide) (hcd : (x == ("__classdict__" : Str)) = false := by decide) : DB X W (.Name x pos) ρ (.lst ds) ρ :=
  fun w σ I H Q ev p => by
    obtain ⟨a, vs, h1, h2, h3, h4, _⟩ := ev.change (es := ds) h
    exact wpE_of (pe_var hN hv hd hcd) ⟨_, h1, p _ I H (Same.refl I) ev (.lst h2 (h4.up ev.sub))⟩
/-- a new list, borrowed -/
theorem db_new (h : DE X W a ρ (.own (.lst ds) ρ1)) : DB X W a ρ (.lst ds) ρ1 := db_of (d := .lst ds) (de_still h)
theorem dab_of (h : DA X W es ρ ds ρ1) : DAb X W es ρ ds ρ1 := fun w σ I H Q ev p => h w σ I H Q ev fun v I1 H1 s1 e1 r => p v I1 H1 s1 e1 (r.up e1.sub)
theorem dab_one (h : DB X W a ρ d ρ1) (hs : starEach [a] X.env = (false, eval a X.env) :: starEach [] X.env := by exact Dt.star_cons rfl) : DAb X W [a] ρ [d] ρ1 := fun w σ I H Q ev p => wpA_of (pa_cons pe_wp pa_wp hs) (h w σ I H _ ev fun v I1 H1 s1 e1 r => wpA_of pa_nil (p _ I1 H1 s1 e1 (.one r)))
theorem dt_truB {k : Bool} (h : truD d = some k) (ha : DB X W a ρ d ρ1) (he : ∀ whole, isTrue a X.env whole = (do let v ← whole; standAt a.pos; holding [v] (truthy v)) := by intro _; rfl) : DT X W a ρ k ρ1 :=
  fun w σ I H Q ev p => wpT_of (pt_truth pe_wp he) (ha w σ I H _ ev fun v1 I1 H1 s1 e1 r1 => ⟨k, tru_of (Same.refl H1) r1 h, p I1 H1 s1 e1⟩)

/-! ### built-in functions -/
def PrimC (K : PySem.W.Frag) (r : List V → Hp → VK → Prop) (ds : List D) (d : D) : Prop := ∀ (H : Hp) (vs : List V) (Q : VK), RpAll K H vs ds → (∀ v, (∀ I, Rp K I v d) → Q v H) → r vs H Q
def PrimCL (K : PySem.W.Frag) (r : List V → Hp → VK → Prop) (ds : List D) (es : List D) : Prop := ∀ (I H : Hp) (vs : List V) (Q : VK), Same I H → RpAll K I vs ds → (∀ p us, H p = none → RpAll K I us es → Q (.ref p) (upd H p (.lst us))) → r vs H Q
theorem de_cb {r : List V → Hp → VK → Prop} (hpe : PE X e (tCB r (wpA X es))) (ha : DAb X W es ρ ds ρ1) (hp : PrimC X.K r ds d) : DE X W e ρ (.val d ρ1) :=
  fun w σ I H Q ev p => wpE_of hpe (ha w σ I H _ ev fun vs I1 H1 s1 e1 r1 => hp H1 vs Q r1 fun v rv => p v I1 H1 s1 e1 (rv I1))
theorem de_cbL {r : List V → Hp → VK → Prop} {fs : List D} (hpe : PE X e (tCB r (wpA X es))) (ha : DA X W es ρ ds ρ1) (hp : PrimCL X.K r ds fs) : DE X W e ρ (.own (.lst fs) ρ1) :=
  fun w σ I H Q ev p => wpE_of hpe (ha w σ I H _ ev fun vs I1 H1 s1 e1 r1 => hp I1 H1 vs Q e1.sub r1 fun q us hq ru => p _ I1 _ s1 (e1.alloc hq ru))
theorem all1 {K : PySem.W.Frag} {H : Hp} {vs : List V} {d : D} (h : RpAll K H vs [d]) : ∃ v, vs = [v] ∧ Rp K H v d := by
  cases h with
  | cons h1 h2 => cases h2; exact ⟨_, rfl, h1⟩
theorem all2 {K : PySem.W.Frag} {H : Hp} {vs : List V} {d d' : D} (h : RpAll K H vs [d, d']) : ∃ v v', vs = [v, v'] ∧ Rp K H v d ∧ Rp K H v' d' := by
  cases h with
  | cons h1 h2 => obtain ⟨v', rfl, h3⟩ := all1 h2; exact ⟨_, _, rfl, h1, h3⟩
/-- a name of the built-in module -/
structure Blt (X : Cx) (x : Str) (u : Value) : Prop where
  g : Gl X x
  m : X.mg x = none
  v : bootBuiltins x = some u
  n : x ≠ "__name__"
  d : (x == ("__debug__" : Str)) = false
/-- how long -/
def lenD : D → Option Nat
  | .str x => if x.length ≤ sizeLine then some x.length else none
  | .lst xs => some xs.length
  | .tup xs => some xs.length
  | .scr ns => some ns.length
  | .rws xs => some xs.length
  | _ => none
theorem prim_len {K : PySem.W.Frag} {d : D} {n : Nat} (h : lenD d = some n) : PrimC K (fun xs H Q => ∃ x n, xs = [x] ∧ LenV K x H n ∧ Q (.int n) H) [d] (.int n) := fun H vs Q r q => by
  obtain ⟨v, rfl, rv⟩ := all1 r
  refine ⟨v, n, rfl, ?_, q _ fun I => .int _⟩
  cases rv with
  | str x =>
    have h : (if x.length ≤ sizeLine then some x.length else none) = some n := h
    by_cases hl : x.length ≤ sizeLine
    · rw [if_pos hl] at h
      exact ⟨hl, (Option.some.inj h).symm⟩
    · rw [if_neg hl] at h
      cases h
  | lst h1 h2 => cases h; exact .inl ⟨_, .of h1, h2.length.symm⟩
  | tup h1 h2 => cases h; exact .inr ⟨_, h1, h2.length.symm⟩
  | non => cases h
  | bl => cases h
  | int => cases h
  | exc => cases h
  | @scr a ns h1 => cases h; exact .inl ⟨_, h1, (List.length_map _).symm⟩
  | rws h1 h2 h3 => cases h; exact .inl ⟨_, .of h1, h3.length.symm⟩
  | ins h1 h2 h3 => cases h
  | dic h1 h2 h3 h4 => cases h
  | xf h1 h2 h3 h4 => cases h
  | exn h1 h2 h3 => cases h
  | raw v => cases h
  | dkl h1 h2 h3 h4 => cases h
theorem de_len {p : Pos} {n : Nat} (hx : Blt X "len" (.builtin "len")) (ha : DB X W a ρ d ρ1) (h : lenD d = some n) (he : starEach [a] X.env = (false, eval a X.env) :: starEach [] X.env := by exact Dt.star_cons rfl) :
    DE X W (.Call (.Name "len" p) [a] [] pos) ρ (.val (.int n) ρ1) := de_cb (pe_callB call_len hx.g hx.m hx.v pa_wp hx.n hx.d he) (dab_one ha he) (prim_len h)
theorem de_ord {p : Pos} {ch : Nat} (hx : Blt X "ord" (.builtin "ord")) (ha : DE X W a ρ (.val (.str ⟨#[ch]⟩) ρ1)) (he : starEach [a] X.env = (false, eval a X.env) :: starEach [] X.env := by exact Dt.star_cons rfl) :
    DE X W (.Call (.Name "ord" p) [a] [] pos) ρ (.val (.int (ch : Nat)) ρ1) := de_cb (pe_callB call_ord hx.g hx.m hx.v pa_wp hx.n hx.d he) (dab_one (db_of ha) he) fun H vs Q r q => by
  obtain ⟨v, rfl, rv⟩ := all1 r
  cases rv
  exact ⟨_, rfl, rfl, q _ fun I => .int _⟩
theorem de_abs {p : Pos} {i : Int} (hx : Blt X "abs" (.builtin "abs")) (ha : DE X W a ρ (.val (.int i) ρ1)) (he : starEach [a] X.env = (false, eval a X.env) :: starEach [] X.env := by exact Dt.star_cons rfl) :
    DE X W (.Call (.Name "abs" p) [a] [] pos) ρ (.val (.int (if i < 0 then -i else i)) ρ1) := de_cb (pe_callB call_abs hx.g hx.m hx.v pa_wp hx.n hx.d he) (dab_one (db_of ha) he) fun H vs Q r q => by
  obtain ⟨v, rfl, rv⟩ := all1 r
  cases rv
  exact ⟨_, rfl, q _ fun I => .int _⟩
theorem rp_bls {K : PySem.W.Frag} {H : Hp} : ∀ {bs : List Bool} {vs : List V}, RpAll K H vs (bs.map D.bl) → vs = bs.map V.bl
  | [], _, h => by cases h; rfl
  | b :: bs, _, h => by
    cases h with
    | cons h1 h2 =>
      cases h1
      rw [rp_bls h2]
      rfl
theorem rp_ints {K : PySem.W.Frag} {H : Hp} : ∀ {bs : List Int} {vs : List V}, RpAll K H vs (bs.map D.int) → vs = bs.map V.int
  | [], _, h => by cases h; rfl
  | b :: bs, _, h => by
    cases h with
    | cons h1 h2 =>
      cases h1
      rw [rp_ints h2]
      rfl
theorem rp_strs {K : PySem.W.Frag} {H : Hp} : ∀ {bs : List Str} {vs : List V}, RpAll K H vs (bs.map D.str) → vs = bs.map V.str
  | [], _, h => by cases h; rfl
  | b :: bs, _, h => by
    cases h with
    | cons h1 h2 =>
      cases h1
      rw [rp_strs h2]
      rfl
theorem rpl_of {K : PySem.W.Frag} {H : Hp} {v : V} {ds : List D} (h : Rp K H v (.lst ds)) : ∃ a vs, v = .ref a ∧ SqL K H a vs ∧ RpAll K H vs ds := by
  cases h with
  | lst h1 h2 => exact ⟨_, _, rfl, .of h1, h2⟩
theorem rpl_tr {K : PySem.W.Frag} {H : Hp} {v : V} {ds : List D} (h : Rp K H v (.lst ds)) : ∃ a vs, v = .ref a ∧ H a = some (.lst vs) ∧ RpAll K H vs ds := by
  cases h with
  | lst h1 h2 => exact ⟨_, _, rfl, h1, h2⟩
theorem rpt_of {K : PySem.W.Frag} {H : Hp} {v : V} {ds : List D} (h : Rp K H v (.tup ds)) : ∃ a vs, v = .ref a ∧ SqT K H a vs ∧ RpAll K H vs ds := by
  cases h with
  | tup h1 h2 => exact ⟨_, _, rfl, h1, h2⟩
theorem de_all {p : Pos} {bs : List Bool} (hc : X.calm = true) (hx : Blt X "all" (.builtin "all")) (ha : DB X W a ρ (.lst (bs.map D.bl)) ρ1) (he : starEach [a] X.env = (false, eval a X.env) :: starEach [] X.env := by exact Dt.star_cons rfl) :
    DE X W (.Call (.Name "all" p) [a] [] pos) ρ (.val (.bl (bs.all id)) ρ1) := de_cb (pe_callB (cr_all hc) hx.g hx.m hx.v pa_wp hx.n hx.d he) (dab_one ha he) fun H vs Q r q => by
  obtain ⟨v, rfl, rv⟩ := all1 r
  obtain ⟨a, us, rfl, h1, h2⟩ := rpl_of rv
  exact ⟨a, bs, rfl, by rw [← rp_bls h2]; exact h1, q _ fun I => .bl _⟩
theorem de_any {p : Pos} {bs : List Bool} (hc : X.calm = true) (hx : Blt X "any" (.builtin "any")) (ha : DB X W a ρ (.lst (bs.map D.bl)) ρ1) (he : starEach [a] X.env = (false, eval a X.env) :: starEach [] X.env := by exact Dt.star_cons rfl) :
    DE X W (.Call (.Name "any" p) [a] [] pos) ρ (.val (.bl (bs.any id)) ρ1) := de_cb (pe_callB (cr_any hc) hx.g hx.m hx.v pa_wp hx.n hx.d he) (dab_one ha he) fun H vs Q r q => by
  obtain ⟨v, rfl, rv⟩ := all1 r
  obtain ⟨a, us, rfl, h1, h2⟩ := rpl_of rv
  exact ⟨a, bs, rfl, by rw [← rp_bls h2]; exact h1, q _ fun I => .bl _⟩
theorem de_sum {p : Pos} {ns : List Int} (hc : X.calm = true) (hx : Blt X "sum" (.builtin "sum")) (ha : DB X W a ρ (.lst (ns.map D.int)) ρ1) (he : starEach [a] X.env = (false, eval a X.env) :: starEach [] X.env := by exact Dt.star_cons rfl) :
    DE X W (.Call (.Name "sum" p) [a] [] pos) ρ (.val (.int ns.sum) ρ1) := de_cb (pe_callB (cr_sum hc) hx.g hx.m hx.v pa_wp hx.n hx.d he) (dab_one ha he) fun H vs Q r q => by
  obtain ⟨v, rfl, rv⟩ := all1 r
  obtain ⟨a, us, rfl, h1, h2⟩ := rpl_of rv
  exact ⟨a, ns, rfl, by rw [← rp_ints h2]; exact h1, q _ fun I => .int _⟩
theorem de_strI {p : Pos} {i : Int} (hl : i.natAbs.log2 < 1920) (hx : Blt X "str" (.type "str")) (ha : DE X W a ρ (.val (.int i) ρ1)) (he : starEach [a] X.env = (false, eval a X.env) :: starEach [] X.env := by exact Dt.star_cons rfl) :
    DE X W (.Call (.Name "str" p) [a] [] pos) ρ (.val (.str (toString i)) ρ1) := de_cb (pe_callTy call_str_int hx.g hx.m hx.v pa_wp hx.n hx.d he) (dab_one (db_of ha) he) fun H vs Q r q => by
  obtain ⟨v, rfl, rv⟩ := all1 r
  cases rv
  exact ⟨i, rfl, hl, q _ fun I => .str _⟩
theorem de_intS {p : Pos} {z : Str} {n : Int} (hz : PySem.intText? z = some n) (hl : z.length ≤ 640) (hx : Blt X "int" (.type "int")) (ha : DE X W a ρ (.val (.str z) ρ1)) (he : starEach [a] X.env = (false, eval a X.env) :: starEach [] X.env := by exact Dt.star_cons rfl) :
    DE X W (.Call (.Name "int" p) [a] [] pos) ρ (.val (.int n) ρ1) := de_cb (pe_callTy call_int_str hx.g hx.m hx.v pa_wp hx.n hx.d he) (dab_one (db_of ha) he) fun H vs Q r q => by
  obtain ⟨v, rfl, rv⟩ := all1 r
  cases rv
  exact ⟨z, n, rfl, hz, hl, q _ fun I => .int _⟩
theorem de_intB {p : Pos} {k : Bool} (hx : Blt X "int" (.type "int")) (ha : DE X W a ρ (.val (.bl k) ρ1)) (he : starEach [a] X.env = (false, eval a X.env) :: starEach [] X.env := by exact Dt.star_cons rfl) :
    DE X W (.Call (.Name "int" p) [a] [] pos) ρ (.val (.int (if k then 1 else 0)) ρ1) := de_cb (pe_callTy call_int1 hx.g hx.m hx.v pa_wp hx.n hx.d he) (dab_one (db_of ha) he) fun H vs Q r q => by
  obtain ⟨v, rfl, rv⟩ := all1 r
  cases rv
  exact .inr ⟨k, rfl, q _ fun I => .int _⟩
/-- list(x) -/
theorem de_listL {p : Pos} (hx : Blt X "list" (.type "list")) (ha : DE X W a ρ (.val (.lst ds) ρ1)) (he : starEach [a] X.env = (false, eval a X.env) :: starEach [] X.env := by exact Dt.star_cons rfl) :
    DE X W (.Call (.Name "list" p) [a] [] pos) ρ (.own (.lst ds) ρ1) := de_cbL (pe_callTy call_list_of hx.g hx.m hx.v pa_wp hx.n hx.d he) (da_cons ha da_nil he) fun I H vs Q s r q => by
  obtain ⟨v, rfl, rv⟩ := all1 r
  obtain ⟨a, us, rfl, h1, h2⟩ := rpl_of rv
  exact ⟨a, us, rfl, .inl (s.seq h1), fun l hl => q l us hl h2⟩
/-! ### isinstance against a built-in class -/
def tyD : D → Option String
  | .non => some "NoneType"
  | .bl _ => some "bool"
  | .int _ => some "int"
  | .str _ => some "str"
  | .lst _ => some "list"
  | .tup _ => some "tuple"
  | _ => none
theorem ty_of {K : PySem.W.Frag} {H : Hp} {v : V} {d : D} {t : String} (r : Rp K H v d) (h : tyD d = some t) : TyX K H v (.type t) := by
  cases r with
  | non => cases h; exact .base .non
  | bl b => cases h; exact .base (.bl b)
  | int i => cases h; exact .base (.int i)
  | str x => cases h; exact .base (.str x)
  | lst h1 h2 =>
    cases h
    exact .base (.lst h1)
  | tup h1 h2 =>
    cases h
    rcases h1 with (h1 | ⟨o, h1⟩) | ⟨o, its, n, h1, h3, _⟩
    · exact .base (.tup h1)
    · exact .fTuple h1
    · exact .kTuple h1 h3
  | rws h1 h2 h3 => cases h
  | exc h1 => cases h
  | scr h1 => cases h
  | ins h1 h2 h3 => cases h
  | dic h1 h2 h3 h4 => cases h
  | xf h1 h2 h3 h4 => cases h
  | exn h1 h2 h3 => cases h
  | raw v => cases h
  | dkl h1 h2 h3 h4 => cases h
theorem de_isi {p p2 : Pos} {t y : String} {x : Str} {k : Bool} (ht : tyD d = some t) (hk : kitB t y = some k) (hx : Blt X "isinstance" (.builtin "isinstance")) (hy : Blt X x (.type y)) (ha : DB X W a ρ d ρ1)
    (he : starEach [a, .Name x p2] X.env = (false, eval a X.env) :: starEach [.Name x p2] X.env := by exact Dt.star_cons rfl) :
    DE X W (.Call (.Name "isinstance" p) [a, .Name x p2] [] pos) ρ (.val (.bl k) ρ1) :=
  fun w σ I H Q ev q => wpE_of (pe_callB call_isi hx.g hx.m hx.v (pa_cons pe_wp (pa_cons (pe_bltn (v := .ty y) hy.g hy.m hy.v rfl hy.n hy.d) pa_nil) he) hx.n hx.d he)
    (ha w σ I H _ ev fun v I1 H1 s1 e1 r1 => ⟨v, .ty y, .type t, .type y, k, rfl, .ty y, ty_of r1 ht, kit_ty hk, q _ I1 H1 s1 e1 (.bl k)⟩)

/-! ### subscripts -/
def ixD : D → Int → Option D
  | .str z, i => if z.length ≤ sizeLine then (atI z.cps.toList i).map fun c => .str ⟨#[c]⟩ else none
  | .lst xs, i => atI xs i
  | .tup xs, i => atI xs i
  | .scr ns, i => (atI ns i).map .int
  | .rws xs, i => atI xs i
  | _, _ => none
theorem RpAll.atI {K : PySem.W.Frag} {I : Hp} {vs : List V} {ds : List D} {i : Int} {d : D} (h : RpAll K I vs ds) (e : L2.atI ds i = some d) : ∃ v, L2.atI vs i = some v ∧ Rp K I v d := by
  unfold L2.atI at e ⊢
  rw [h.length]
  cases q : ixN ds.length i with
  | none => rw [q] at e; cases e
  | some j =>
    rw [q] at e
    exact h.get e
theorem de_ix {i : Int} (ha : DE X W a ρ (.val d1 ρ1)) (hb : DE X W b ρ1 (.val (.int i) ρ2)) (h : ixD d1 i = some d) (hs : PlainIx b := by exact fun _ _ => rfl) : DE X W (.Subscript a b pos) ρ (.val d ρ2) :=
  de2 (pe_ix ix_seq pe_wp pe_wp hs) ha hb fun I H v1 v2 Q s r1 r2 q => by
    cases r2
    cases r1 with
    | str z =>
      have h : (if z.length ≤ sizeLine then (atI z.cps.toList i).map fun c => D.str ⟨#[c]⟩ else none) = some d := h
      by_cases hl : z.length ≤ sizeLine
      · rw [if_pos hl] at h
        cases e : atI z.cps.toList i with
        | none => rw [e] at h; cases h
        | some ch =>
          rw [e] at h
          cases h
          exact .inr (.inr ⟨z, i, ch, rfl, rfl, hl, e, q _ (.str _)⟩)
      · rw [if_neg hl] at h
        cases h
    | lst h1 h2 =>
      obtain ⟨v, e, rv⟩ := h2.atI h
      exact .inl ⟨_, _, i, v, rfl, rfl, .of (s _ _ h1), e, q _ rv⟩
    | tup h1 h2 =>
      obtain ⟨v, e, rv⟩ := h2.atI h
      exact .inr (.inl ⟨_, _, i, v, rfl, rfl, same_t s h1, e, q _ rv⟩)
    | non => cases h
    | bl => cases h
    | int => cases h
    | exc => cases h
    | @scr a ns h1 =>
      have h : (atI ns i).map D.int = some d := h
      cases e : atI ns i with
      | none => rw [e] at h; cases h
      | some m =>
        rw [e] at h
        cases h
        refine .inl ⟨_, _, i, .int m, rfl, rfl, s.seq h1, ?_, q _ (.int m)⟩
        unfold L2.atI at e ⊢
        rw [List.length_map]
        cases q2 : ixN ns.length i with
        | none => rw [q2] at e; cases e
        | some j =>
          rw [q2] at e
          have e : ns[j]? = some m := e
          show (ns.map V.int)[j]? = some (V.int m)
          rw [List.getElem?_map, e]
          rfl
    | rws h1 h2 h3 =>
      obtain ⟨v, e, rv⟩ := h3.atI h
      exact .inl ⟨_, _, i, v, rfl, rfl, .of (s _ _ h1), e, q _ rv⟩
    | ins h1 h2 h3 => cases h
    | dic h1 h2 h3 h4 => cases h
    | xf h1 h2 h3 h4 => cases h
    | exn h1 h2 h3 => cases h
    | raw v => cases h
    | dkl h1 h2 h3 h4 => cases h
/-! ### slices -/
theorem do_none : DO X W none ρ none ρ := fun w σ I H Q ev p => wpO_of po_none (p I H (Same.refl I) ev)
theorem do_some {i : Int} (h : DE X W a ρ (.val (.int i) ρ1)) : DO X W (some a) ρ (some i) ρ1 := fun w σ I H Q ev p => wpO_of (po_some pe_wp) (h w σ I H _ ev fun v I1 H1 s1 e1 r => by
  cases r
  exact ⟨i, rfl, p I1 H1 s1 e1⟩)
theorem de_slS {lo hi : Option Expr} {i j : Option Int} {z : Str} {p2 : Pos} (ha : DE X W a ρ (.val (.str z) ρ1)) (hl : DO X W lo ρ1 i ρ2) (hh : DO X W hi ρ2 j ρ3) (hz : z.length ≤ sizeLine) : DE X W (.Subscript a (.Slice lo hi none p2) pos) ρ (.val (.str (cutS z i j)) ρ3) :=
  fun w σ I H Q ev p => wpE_of (pe_slice sl_str pe_wp po_wp po_wp) (ha w σ I H _ ev fun v I1 H1 s1 e1 r => hl w σ I1 H1 _ e1 fun I2 H2 s2 e2 => hh w σ I2 H2 _ e2 fun I3 H3 s3 e3 => by
    cases r
    exact ⟨z, rfl, hz, p _ I3 H3 ((s1.trans s2).trans s3) e3 (.str _)⟩)
def cutD (xs : List D) (lo hi : Option Int) : List D := (xs.drop (HT.sIx xs.length 0 lo)).take (HT.sIx xs.length xs.length hi - HT.sIx xs.length 0 lo)
theorem de_slL {lo hi : Option Expr} {i j : Option Int} {p2 : Pos} (ha : DE X W a ρ (.val (.lst ds) ρ1)) (hl : DO X W lo ρ1 i ρ2) (hh : DO X W hi ρ2 j ρ3) : DE X W (.Subscript a (.Slice lo hi none p2) pos) ρ (.own (.lst (cutD ds i j)) ρ3) :=
  fun w σ I H Q ev p => wpE_of (pe_slice sl_list pe_wp po_wp po_wp) (ha w σ I H _ ev fun v I1 H1 s1 e1 r => hl w σ I1 H1 _ e1 fun I2 H2 s2 e2 => hh w σ I2 H2 _ e2 fun I3 H3 s3 e3 => by
    obtain ⟨a, vs, rfl, h1, h2⟩ := rpl_of (r.up (s2.trans s3))
    refine ⟨a, vs, rfl, e3.sub.seq h1, fun q hq => p _ I3 _ ((s1.trans s2).trans s3) (e3.alloc hq ?_)⟩
    unfold cutV cutD
    rw [h2.length]
    exact (h2.drop _).take _)

/-! ### methods of texts -/
def PrimM (K : PySem.W.Frag) (r : V → List V → Hp → VK → Prop) (d0 : D) (ds : List D) (d : D) : Prop := ∀ (H : Hp) (v : V) (vs : List V) (Q : VK), Rp K H v d0 → RpAll K H vs ds → (∀ u, (∀ I, Rp K I u d) → Q u H) → r v vs H Q
theorem de_bm {name : Str} {id : String} {r : V → List V → Hp → VK → Prop} {o : Expr} {apos cpos : Pos} {z : Str} (slot : Slot "str" name id) (hty : typeOf (.builtin id) = pure (.type "method_descriptor")) (hm : MtR X id r)
    (ho : DE X W o ρ (.val (.str z) ρ1)) (ha : DAb X W (a :: es) ρ1 ds ρ2) (hp : PrimM X.K r (.str z) ds d)
    (hbase : attributeBase o name X.env (eval o X.env) = eval o X.env := by rfl)
    (hfew : ((backTo cpos (starEach (a :: es) X.env)).all (fun x => !x.1) && (backToKw cpos (keywordEach [] X.env)).all (fun x => x.1.isSome)
      && decide ((a :: es).length + ([] : List Keyword).length + (if ([] : List Keyword).isEmpty then 0 else 1) < 30)) = true := by rfl)
    (hline : (apos.endLine == cpos.line) = true := by rfl) (hs : starEach (a :: es) X.env = (false, eval a X.env) :: starEach es X.env := by exact Dt.star_cons rfl) (hplain : (backTo cpos (starEach es X.env)).any (·.1) = false := by rfl) :
    DE X W (.Call (.Attribute o name apos) (a :: es) [] cpos) ρ (.val d ρ2) :=
  fun w σ I H Q ev p => wpE_of (pe_bm PySem.F.plainAttrs_str slot hty hm pe_wp pa_wp hbase hfew hline hs hplain) (ho w σ I H _ ev fun v I1 H1 s1 e1 r1 => by
    cases r1
    exact ⟨rfl, ha w σ I1 H1 _ e1 fun vs I2 H2 s2 e2 r2 => hp H2 _ vs Q (.str z) r2 fun u ru => p u I2 H2 (s1.trans s2) e2 (ru I2)⟩)
section
variable {o : Expr} {apos cpos : Pos} {z y : Str}
theorem de_join {p : Pos} {ys : List Str} (hl : (ys.map (·.length)).sum + ys.length * z.length ≤ 16777216) (ho : DE X W o ρ (.val (.str z) ρ1)) (ha : DB X W a ρ1 (.lst (ys.map D.str)) ρ2)
    (hbase : attributeBase o "join" X.env (eval o X.env) = eval o X.env := by rfl) (hfew : ((backTo cpos (starEach [a] X.env)).all (fun x => !x.1) && (backToKw cpos (keywordEach [] X.env)).all (fun x => x.1.isSome)
      && decide (([a] : List Expr).length + ([] : List Keyword).length + (if ([] : List Keyword).isEmpty then 0 else 1) < 30)) = true := by rfl)
    (hline : (apos.endLine == cpos.line) = true := by rfl) (hs : starEach [a] X.env = (false, eval a X.env) :: starEach [] X.env := by exact Dt.star_cons rfl) :
    DE X W (.Call (.Attribute o "join" apos) [a] [] cpos) ρ (.val (.str (Txt.join z ys)) ρ2) :=
  de_bm PySem.F.slot_str_join PySem.F.type_str_join mt_join ho (dab_one ha hs) (fun H v vs Q r1 r2 q => by
    cases r1
    obtain ⟨v, rfl, rv⟩ := all1 r2
    obtain ⟨a, us, rfl, h1, h2⟩ := rpl_of rv
    rw [rp_strs h2] at h1
    exact ⟨z, a, ys, rfl, rfl, .inl h1, hl, q _ fun I => .str _⟩) hbase hfew hline hs
end
end
end Dt


set_option Elab.async false
set_option linter.all false
set_option maxRecDepth 100000
set_option maxHeartbeats 1000000
namespace Dt
open PySem PySem.Spec PyProof.Rows L2

/-! ### what a def promises -/
/-- an argument: data, something that may be changed, something that is given away, something that is not looked at -/
inductive P where
  | v (d : D) | io (o : O) | mv (o : O) | x
inductive Res where
  | ret (d : D) | own (o : O) | exc (e : Ex)
abbrev Con := List P → Res → List O → Prop

inductive ArgsAt (K : PySem.W.Frag) (I H : Hp) : List V → List P → List (List Addr) → List V → List Addr → Prop
  | nil : ArgsAt K I H [] [] [] [] []
  | v {v : V} {d : D} {vs : List V} {ps : List P} {A : List (List Addr)} {B : List V} {M : List Addr} : Rp K I v d → ArgsAt K I H vs ps A B M → ArgsAt K I H (v :: vs) (.v d :: ps) A B M
  | x {v : V} {vs : List V} {ps : List P} {A : List (List Addr)} {B : List V} {M : List Addr} : ArgsAt K I H vs ps A B M → ArgsAt K I H (v :: vs) (.x :: ps) A B M
  | io {v : V} {o : O} {φ : List Addr} {vs : List V} {ps : List P} {A : List (List Addr)} {B : List V} {M : List Addr} : OwnAt K I H v o φ → (∀ a ∈ φ, I a = none) → (∀ l ∈ A, ∀ a ∈ φ, a ∉ l) → (∀ a ∈ φ, a ∉ M) → ArgsAt K I H vs ps A B M → ArgsAt K I H (v :: vs) (.io o :: ps) (φ :: A) (v :: B) M
  | mv {v : V} {o : O} {φ : List Addr} {vs : List V} {ps : List P} {A : List (List Addr)} {B : List V} {M : List Addr} : OwnAt K I H v o φ → (∀ a ∈ φ, I a = none) → (∀ l ∈ A, ∀ a ∈ φ, a ∉ l) → (∀ a ∈ φ, a ∉ M) → ArgsAt K I H vs ps A B M → ArgsAt K I H (v :: vs) (.mv o :: ps) A B (φ ++ M)
/-- the heap without what is given away -/
def cut (H : Hp) (M : List Addr) : Hp := fun b => if b ∈ M then none else H b
theorem cut_in {H : Hp} {M : List Addr} {b : Addr} (h : b ∈ M) : cut H M b = none := if_pos h
theorem cut_out {H : Hp} {M : List Addr} {b : Addr} (h : b ∉ M) : cut H M b = H b := if_neg h
theorem cut_some {H : Hp} {M : List Addr} {b : Addr} {o : HO} (h : cut H M b = some o) : b ∉ M ∧ H b = some o := by
  by_cases z : b ∈ M
  · rw [cut_in z] at h; cases h
  · rw [cut_out z] at h; exact ⟨z, h⟩
theorem cut_none {H : Hp} {M : List Addr} {b : Addr} (h : cut H M b = none) : b ∈ M ∨ H b = none := by
  by_cases z : b ∈ M
  · exact .inl z
  · rw [cut_out z] at h; exact .inr h
inductive Back (K : PySem.W.Frag) (I H H0 : Hp) : List O → List (List Addr) → List V → List (List Addr) → Prop
  | nil : Back K I H H0 [] [] [] []
  | cons {v : V} {o : O} {φ ψ : List Addr} {os : List O} {A : List (List Addr)} {B : List V} {Φ : List (List Addr)} : OwnAt K I H v o ψ → (∀ a ∈ ψ, I a = none ∧ (a ∈ φ ∨ H0 a = none)) → (∀ l ∈ Φ, ∀ a ∈ ψ, a ∉ l) → Back K I H H0 os A B Φ → Back K I H H0 (o :: os) (φ :: A) (v :: B) (ψ :: Φ)
structure Step (I H : Hp) (A : List (List Addr)) (I' H' : Hp) : Prop where
  s1 : Same I I'
  s2 : Same I' H'
  frm : ∀ b o, H b = some o → (∀ l ∈ A, b ∉ l) → H' b = some o
  new : ∀ b o, I' b = some o → I b = some o ∨ H b = none
  trk : ∀ b o, H b = some o → ∃ u, H' b = some u
def Done (K : PySem.W.Frag) (H I' H' : Hp) (Φ : List (List Addr)) (Q : VK) (E : XK) : Res → Prop
  | .ret d => ∀ v, Rp K I' v d → Q v H'
  | .own o => ∀ v φ, OwnAt K I' H' v o φ → (∀ a ∈ φ, I' a = none ∧ H a = none) → (∀ l ∈ Φ, ∀ a ∈ φ, a ∉ l) → Q v H'
  | .exc x => Wish K E I' H' x
def spC (K : PySem.W.Frag) (f : Con) : Sp := fun vs H Q E => ∃ (I : Hp) (ps : List P) (A : List (List Addr)) (B : List V) (M : List Addr) (r : Res) (os : List O),
  Same I H ∧ ArgsAt K I H vs ps A B M ∧ f ps r os ∧ ∀ I' H' Φ, Step I (cut H M) A I' H' → Back K I' H' (cut H M) os A B Φ → Done K (cut H M) I' H' Φ Q E r

theorem ArgsAt.length {K : PySem.W.Frag} {I H : Hp} : ∀ {vs : List V} {ps : List P} {A : List (List Addr)} {B : List V} {M : List Addr}, ArgsAt K I H vs ps A B M → vs.length = ps.length
  | _, _, _, _, _, .nil => rfl
  | _, _, _, _, _, .v _ t => by rw [List.length_cons, List.length_cons, t.length]
  | _, _, _, _, _, .x t => by rw [List.length_cons, List.length_cons, t.length]
  | _, _, _, _, _, .io _ _ _ _ t => by rw [List.length_cons, List.length_cons, t.length]
  | _, _, _, _, _, .mv _ _ _ _ t => by rw [List.length_cons, List.length_cons, t.length]

/-! ### a def's start -/
def toS : Nat → List P → List S
  | _, [] => []
  | n, .v d :: ps => .v d :: toS n ps
  | n, .io o :: ps => .own (some n) o :: toS (n + 1) ps
  | n, .mv o :: ps => .own none o :: toS n ps
  | n, .x :: ps => .no :: toS n ps
theorem toS_length : ∀ (n : Nat) (ps : List P), (toS n ps).length = ps.length
  | _, [] => rfl
  | n, .v d :: ps => by unfold toS; rw [List.length_cons, List.length_cons, toS_length n ps]
  | n, .io o :: ps => by unfold toS; rw [List.length_cons, List.length_cons, toS_length (n + 1) ps]
  | n, .mv o :: ps => by unfold toS; rw [List.length_cons, List.length_cons, toS_length n ps]
  | n, .x :: ps => by unfold toS; rw [List.length_cons, List.length_cons, toS_length n ps]
section
variable {K : PySem.W.Frag} {I H : Hp}
theorem args_v : ∀ {vs : List V} {ps : List P} {A : List (List Addr)} {B : List V} {M : List Addr} (n i : Nat) (d : D), ArgsAt K I H vs ps A B M → (toS n ps)[i]? = some (S.v d) → ∃ v, vs[i]? = some v ∧ Rp K I v d
  | _, _, _, _, _, n, i, d, .nil, h => by simp [toS] at h
  | _, _, _, _, _, n, 0, d, .v r t, h => by simp [toS] at h; subst h; exact ⟨_, rfl, r⟩
  | _, _, _, _, _, n, i + 1, d, .v r t, h => by
    obtain ⟨v, h1, h2⟩ := args_v n i d t (by simpa [toS] using h)
    exact ⟨v, by simpa using h1, h2⟩
  | _, _, _, _, _, n, 0, d, .x t, h => by simp [toS] at h
  | _, _, _, _, _, n, i + 1, d, .x t, h => by
    obtain ⟨v, h1, h2⟩ := args_v n i d t (by simpa [toS] using h)
    exact ⟨v, by simpa using h1, h2⟩
  | _, _, _, _, _, n, 0, d, .io _ _ _ _ t, h => by simp [toS] at h
  | _, _, _, _, _, n, i + 1, d, .io _ _ _ _ t, h => by
    obtain ⟨v, h1, h2⟩ := args_v (n + 1) i d t (by simpa [toS] using h)
    exact ⟨v, by simpa using h1, h2⟩
  | _, _, _, _, _, n, 0, d, .mv _ _ _ _ t, h => by simp [toS] at h
  | _, _, _, _, _, n, i + 1, d, .mv _ _ _ _ t, h => by
    obtain ⟨v, h1, h2⟩ := args_v n i d t (by simpa [toS] using h)
    exact ⟨v, by simpa using h1, h2⟩
/-- where the slots of a start lie -/
structure Lies (K : PySem.W.Frag) (I H : Hp) (vs : List V) (A : List (List Addr)) (B : List V) (M : List Addr) (n : Nat) (ρ : List S) (Φ : Nat → List Addr) : Prop where
  at_ : ∀ (i : Nat) (k : Option Nat) (o : O), ρ[i]? = some (S.own k o) → ∃ v, vs[i]? = some v ∧ OwnAt K I H v o (Φ i) ∧ (∀ a ∈ Φ i, I a = none) ∧ match k with
    | some m => ∃ m', m = n + m' ∧ A[m']? = some (Φ i) ∧ B[m']? = some v
    | none => ∀ a ∈ Φ i, a ∈ M
  dj : ∀ (i j : Nat) (k k' : Option Nat) (o o' : O), i ≠ j → ρ[i]? = some (S.own k o) → ρ[j]? = some (S.own k' o') → ∀ a ∈ Φ i, a ∉ Φ j
  src : ∀ (i : Nat) (k : Option Nat) (o : O), ρ[i]? = some (S.own k o) → ∀ a ∈ Φ i, a ∈ M ∨ ∃ l ∈ A, a ∈ l
def shiftΦ (φ : List Addr) (Φ : Nat → List Addr) : Nat → List Addr
  | 0 => φ
  | i + 1 => Φ i
theorem args_lie : ∀ {vs : List V} {ps : List P} {A : List (List Addr)} {B : List V} {M : List Addr} (n : Nat), ArgsAt K I H vs ps A B M → ∃ Φ, Lies K I H vs A B M n (toS n ps) Φ
  | _, _, _, _, _, n, .nil => ⟨fun _ => [], fun i k o h => by simp [toS] at h, fun i j k k' o o' _ h => by simp [toS] at h, fun i k o h => by simp [toS] at h⟩
  | _, _, _, _, _, n, .v r t => by
    obtain ⟨Φ, L⟩ := args_lie n t
    refine ⟨shiftΦ [] Φ, fun i k o h => ?_, fun i j k k' o o' hij h h' => ?_, fun i k o h => ?_⟩
    · cases i with
      | zero => simp [toS] at h
      | succ i => exact L.at_ i k o (by simpa [toS] using h)
    · cases i with
      | zero => simp [toS] at h
      | succ i => cases j with
        | zero => simp [toS] at h'
        | succ j => exact L.dj i j k k' o o' (fun z => hij (by rw [z])) (by simpa [toS] using h) (by simpa [toS] using h')
    · cases i with
      | zero => simp [toS] at h
      | succ i => exact L.src i k o (by simpa [toS] using h)
  | _, _, _, _, _, n, .x t => by
    obtain ⟨Φ, L⟩ := args_lie n t
    refine ⟨shiftΦ [] Φ, fun i k o h => ?_, fun i j k k' o o' hij h h' => ?_, fun i k o h => ?_⟩
    · cases i with
      | zero => simp [toS] at h
      | succ i => exact L.at_ i k o (by simpa [toS] using h)
    · cases i with
      | zero => simp [toS] at h
      | succ i => cases j with
        | zero => simp [toS] at h'
        | succ j => exact L.dj i j k k' o o' (fun z => hij (by rw [z])) (by simpa [toS] using h) (by simpa [toS] using h')
    · cases i with
      | zero => simp [toS] at h
      | succ i => exact L.src i k o (by simpa [toS] using h)
  | _, _, _, _, _, n, .io (φ := φ) a b c d t => by
    obtain ⟨Φ, L⟩ := args_lie (n + 1) t
    refine ⟨shiftΦ φ Φ, fun i k o h => ?_, fun i j k k' o o' hij h h' => ?_, fun i k o h => ?_⟩
    · cases i with
      | zero =>
        simp [toS] at h
        obtain ⟨h1, h2⟩ := h
        subst h1 h2
        exact ⟨_, rfl, a, b, 0, rfl, rfl, rfl⟩
      | succ i =>
        obtain ⟨v, h1, h2, h3, h4⟩ := L.at_ i k o (by simpa [toS] using h)
        refine ⟨v, h1, h2, h3, ?_⟩
        cases k with
        | none => exact h4
        | some m =>
          obtain ⟨m', q1, q2, q3⟩ := h4
          exact ⟨m' + 1, by omega, q2, q3⟩
    · cases i with
      | zero => cases j with
        | zero => exact absurd rfl hij
        | succ j =>
          intro x hx hy
          rcases L.src j k' o' (by simpa [toS] using h') x hy with z | ⟨l, z1, z2⟩
          · exact d x hx z
          · exact c l z1 x hx z2
      | succ i => cases j with
        | zero =>
          intro x hy hx
          rcases L.src i k o (by simpa [toS] using h) x hy with z | ⟨l, z1, z2⟩
          · exact d x hx z
          · exact c l z1 x hx z2
        | succ j => exact L.dj i j k k' o o' (fun z => hij (by rw [z])) (by simpa [toS] using h) (by simpa [toS] using h')
    · cases i with
      | zero => exact fun x hx => .inr ⟨φ, List.mem_cons_self, hx⟩
      | succ i =>
        intro x hx
        rcases L.src i k o (by simpa [toS] using h) x hx with z | ⟨l, z1, z2⟩
        · exact .inl z
        · exact .inr ⟨l, List.mem_cons_of_mem _ z1, z2⟩
  | _, _, _, _, _, n, .mv (φ := φ) a b c d t => by
    obtain ⟨Φ, L⟩ := args_lie n t
    refine ⟨shiftΦ φ Φ, fun i k o h => ?_, fun i j k k' o o' hij h h' => ?_, fun i k o h => ?_⟩
    · cases i with
      | zero =>
        simp [toS] at h
        obtain ⟨h1, h2⟩ := h
        subst h1 h2
        exact ⟨_, rfl, a, b, fun x hx => List.mem_append_left _ hx⟩
      | succ i =>
        obtain ⟨v, h1, h2, h3, h4⟩ := L.at_ i k o (by simpa [toS] using h)
        refine ⟨v, h1, h2, h3, ?_⟩
        cases k with
        | none => exact fun x hx => List.mem_append_right _ (h4 x hx)
        | some m => exact h4
    · cases i with
      | zero => cases j with
        | zero => exact absurd rfl hij
        | succ j =>
          intro x hx hy
          rcases L.src j k' o' (by simpa [toS] using h') x hy with z | ⟨l, z1, z2⟩
          · exact d x hx z
          · exact c l z1 x hx z2
      | succ i => cases j with
        | zero =>
          intro x hy hx
          rcases L.src i k o (by simpa [toS] using h) x hy with z | ⟨l, z1, z2⟩
          · exact d x hx z
          · exact c l z1 x hx z2
        | succ j => exact L.dj i j k k' o o' (fun z => hij (by rw [z])) (by simpa [toS] using h) (by simpa [toS] using h')
    · cases i with
      | zero => exact fun x hx => .inl (List.mem_append_left _ hx)
      | succ i =>
        intro x hx
        rcases L.src i k o (by simpa [toS] using h) x hx with z | z
        · exact .inl (List.mem_append_right _ z)
        · exact .inr z
theorem ev_start {vs : List V} {ps : List P} {A : List (List Addr)} {B : List V} {M : List Addr} {N : List Str} {n : Nat} (s : Same I H) (h : ArgsAt K I H vs ps A B M) (hn : N.length - vs.length = n) : Ev K ⟨I, cut H M, A, B, fun _ => none⟩ I H (start N vs) (toS 0 ps ++ List.replicate n .no) := by
  have hl := h.length
  have look : ∀ (i : Nat) (x : S), (toS 0 ps ++ List.replicate n S.no)[i]? = some x → x ≠ .no → (toS 0 ps)[i]? = some x ∧ i < vs.length := fun i x q hx => by
    by_cases hi : i < (toS 0 ps).length
    · rw [List.getElem?_append_left hi] at q
      exact ⟨q, by rw [hl, ← toS_length 0 ps]; exact hi⟩
    · rw [List.getElem?_append_right (Nat.le_of_not_lt hi), List.getElem?_replicate] at q
      split at q
      · cases q; exact absurd rfl hx
      · cases q
  have slot : ∀ (i : Nat) (v : V), vs[i]? = some v → (start N vs)[i]? = some (some v) := fun i v q => by
    unfold L2.start
    have hi := (List.getElem?_eq_some_iff.mp q).1
    rw [List.getElem?_append_left (by rw [List.length_map]; exact hi), List.getElem?_map, q]
    rfl
  refine ⟨s, Same.refl I, fun b o h _ => (cut_some h).2, fun b o h => .inl h, fun b o h => ⟨o, (cut_some h).2⟩, fun b o h => (by cases h), fun b o h => (by cases h), ?_, fun i d q => ?_, ?_⟩
  · unfold L2.start
    rw [List.length_append, List.length_append, List.length_map, List.length_replicate, List.length_replicate, toS_length, hl, ← hn, hl]
  · obtain ⟨q, hi⟩ := look i _ q (by intro z; cases z)
    obtain ⟨v, h1, h2⟩ := args_v 0 i d h q
    exact ⟨v, slot i v h1, h2⟩
  · obtain ⟨Φ, L⟩ := args_lie 0 h
    refine ⟨Φ, fun i k o q => ?_, fun i j k k' o o' hij q q' => ?_⟩
    · obtain ⟨q, hi⟩ := look i _ q (by intro z; cases z)
      obtain ⟨v, h1, h2, h3, h4⟩ := L.at_ i k o q
      refine ⟨v, slot i v h1, h2, h3, ?_, fun _ _ => rfl⟩
      cases k with
      | none => exact fun a ha => cut_in (h4 a ha)
      | some m =>
        obtain ⟨m', q1, q2, q3⟩ := h4
        rw [Nat.zero_add] at q1
        subst q1
        exact ⟨q3, _, q2, fun a ha => .inl ha⟩
    · obtain ⟨q, hi⟩ := look i _ q (by intro z; cases z)
      obtain ⟨q', hj⟩ := look j _ q' (by intro z; cases z)
      exact L.dj i j k k' o o' hij q q'
end

/-! ### a def's end -/
/-- what was handed in is as os tells -/
def Fin (ρ : List S) : Nat → Nat → List P → List O → Prop
  | _, _, [], os => os = []
  | i, n, .v _ :: ps, os => Fin ρ (i + 1) n ps os
  | i, n, .io _ :: ps, os => ∃ o' r, os = o' :: r ∧ ρ[i]? = some (.own (some n) o') ∧ Fin ρ (i + 1) (n + 1) ps r
  | i, n, .mv _ :: ps, os => Fin ρ (i + 1) n ps os
  | i, n, .x :: ps, os => Fin ρ (i + 1) n ps os
section
variable {K : PySem.W.Frag} {w : Wd} {I H I' H' : Hp} {σ : L2.St} {ρ : List S} {ψ : Nat → List Addr}
theorem back_of (h1 : ∀ (i : Nat) (k : Option Nat) (o : O), ρ[i]? = some (S.own k o) → ∃ v, σ[i]? = some (some v) ∧ SlotOk K w I' H' v k o (ψ i))
    (h2 : ∀ (i j : Nat) (k k' : Option Nat) (o o' : O), i ≠ j → ρ[i]? = some (S.own k o) → ρ[j]? = some (S.own k' o') → ∀ a ∈ ψ i, a ∉ ψ j) :
    ∀ {vs : List V} {ps : List P} {A : List (List Addr)} {B : List V} {M : List Addr} (i n : Nat) (os : List O), ArgsAt K I H vs ps A B M → (∀ m φ, A[m]? = some φ → w.A[n + m]? = some φ) → (∀ m v, B[m]? = some v → w.B[n + m]? = some v) → Fin ρ i n ps os →
      ∃ Φ, Back K I' H' w.H0 os A B Φ ∧ ∀ l ∈ Φ, ∃ j k o, i ≤ j ∧ ρ[j]? = some (S.own k o) ∧ l = ψ j
  | _, _, _, _, _, i, n, os, .nil, _, _, f => by
    have f : os = [] := f
    subst f
    exact ⟨[], .nil, fun l hl => by cases hl⟩
  | _, _, _, _, _, i, n, os, .v r t, hA, hB, f => by
    obtain ⟨Φ, g1, g2⟩ := back_of h1 h2 (i + 1) n os t hA hB f
    exact ⟨Φ, g1, fun l hl => let ⟨j, k, o, z, y⟩ := g2 l hl; ⟨j, k, o, by omega, y⟩⟩
  | _, _, _, _, _, i, n, os, .x t, hA, hB, f => by
    obtain ⟨Φ, g1, g2⟩ := back_of h1 h2 (i + 1) n os t hA hB f
    exact ⟨Φ, g1, fun l hl => let ⟨j, k, o, z, y⟩ := g2 l hl; ⟨j, k, o, by omega, y⟩⟩
  | _, _, _, _, _, i, n, os, .mv _ _ _ _ t, hA, hB, f => by
    obtain ⟨Φ, g1, g2⟩ := back_of h1 h2 (i + 1) n os t hA hB f
    exact ⟨Φ, g1, fun l hl => let ⟨j, k, o, z, y⟩ := g2 l hl; ⟨j, k, o, by omega, y⟩⟩
  | _, _, _, _, _, i, n, os, .io (v := v) (φ := φ) a b c d t, hA, hB, f => by
    obtain ⟨o', r, rfl, f1, f2⟩ := f
    obtain ⟨Φ, g1, g2⟩ := back_of h1 h2 (i + 1) (n + 1) r t (fun m ψ q => by
      rw [Nat.add_assoc, Nat.add_comm 1 m]
      exact hA (m + 1) ψ (by simpa using q)) (fun m ψ q => by
      rw [Nat.add_assoc, Nat.add_comm 1 m]
      exact hB (m + 1) ψ (by simpa using q)) f2
    obtain ⟨u, hu, s⟩ := h1 i _ _ f1
    obtain ⟨s0, l, s1, s2⟩ := s.io
    have q2 := hA 0 φ rfl
    rw [Nat.add_zero, s1] at q2
    have q3 : l = φ := Option.some.inj q2
    subst q3
    have q4 := hB 0 v rfl
    rw [Nat.add_zero, s0] at q4
    have q5 : u = v := Option.some.inj q4
    subst q5
    refine ⟨ψ i :: Φ, .cons s.at_ (fun a ha => ⟨s.out a ha, s2 a ha⟩) (fun l hl a ha hb => ?_) g1, fun l hl => ?_⟩
    · obtain ⟨j, k, o, z1, z2, rfl⟩ := g2 l hl
      exact h2 i j _ _ _ _ (by omega) f1 z2 a ha hb
    · rcases List.mem_cons.mp hl with rfl | hl
      · exact ⟨i, _, _, Nat.le_refl i, f1, rfl⟩
      · obtain ⟨j, k, o, z, y⟩ := g2 l hl
        exact ⟨j, k, o, by omega, y⟩
end
/-- how a body's end tells the answer -/
inductive Tells (ps : List P) (os : List O) : Oc → Res → Prop
  | ret {d : D} {ρ : List S} : Fin ρ 0 0 ps os → Tells ps os (.ret d ρ) (.ret d)
  | non {ρ : List S} : Fin ρ 0 0 ps os → Tells ps os (.next ρ) (.ret .non)
  | own {o : O} {ρ : List S} : Fin ρ 0 0 ps os → Tells ps os (.rown o ρ) (.own o)
  | exc {x : Ex} {ρ : List S} : Fin ρ 0 0 ps os → Tells ps os (.exc x ρ) (.exc x)
theorem Ev.step {K : PySem.W.Frag} {w : Wd} {I H : Hp} {σ : L2.St} {ρ : List S} (e : Ev K w I H σ ρ) : Step w.I0 w.H0 w.A I H := ⟨e.old, e.sub, e.frm, e.new, e.trk⟩
/-- a body's end is the call's end -/
theorem tells_done {K : PySem.W.Frag} {I H : Hp} {vs : List V} {qs : List P} {A : List (List Addr)} {B : List V} {M : List Addr} {os : List O} {r : Res} {o : Oc} {Q : VK} {E : XK} (h2 : ArgsAt K I H vs qs A B M)
    (h4 : ∀ I' H' Φ, Step I (cut H M) A I' H' → Back K I' H' (cut H M) os A B Φ → Done K (cut H M) I' H' Φ Q E r) (h6 : Tells qs os o r) :
    PostS K ⟨I, cut H M, A, B, fun _ => none⟩ (fun cls d _ H => E cls d H) I { nx := fun _ H => Q .non H, rt := Q } o := by
  have fin : ∀ {σ' : L2.St} {ρ' : List S} {I' H' : Hp}, Ev K ⟨I, cut H M, A, B, fun _ => none⟩ I' H' σ' ρ' → Fin ρ' 0 0 qs os → ∃ Φ, Done K (cut H M) I' H' Φ Q E r := fun e' f' => by
    obtain ⟨ψ, g1, g2⟩ := e'.owns
    obtain ⟨Φ, b, _⟩ := back_of g1 g2 0 0 os h2 (fun m φ q => by rw [Nat.zero_add]; exact q) (fun m φ q => by rw [Nat.zero_add]; exact q) f'
    exact ⟨Φ, h4 _ _ Φ e'.step b⟩
  cases h6 with
  | ret f' =>
    intro v σ' I' H' _ e' rv
    obtain ⟨Φ, d⟩ := fin e' f'
    exact d v rv
  | non f' =>
    intro σ' I' H' _ e'
    obtain ⟨Φ, d⟩ := fin e' f'
    exact d .non .non
  | @own oo ρ f' =>
    intro v σ' I' H' _ e'
    obtain ⟨ψ, g1, g2⟩ := e'.owns
    have el := e'.pop.len
    obtain ⟨u, hu, s⟩ := g1 _ _ _ get_app_r
    rw [← el, get_app_r] at hu
    cases hu
    have up : ∀ {i : Nat} {k : Option Nat} {o : O}, ρ[i]? = some (S.own k o) → (ρ ++ [S.own none oo])[i]? = some (S.own k o) ∧ i < ρ.length := fun {i k o} q => by
      have hi := (List.getElem?_eq_some_iff.mp q).1
      exact ⟨by rw [get_app_l hi]; exact q, hi⟩
    obtain ⟨Φ, b, bo⟩ := back_of (σ := σ') (ρ := ρ) (w := ⟨I, cut H M, A, B, fun _ => none⟩) (ψ := ψ) (fun i k o q => by
      obtain ⟨q1, hi⟩ := up q
      obtain ⟨u, hu, s⟩ := g1 i k o q1
      exact ⟨u, by rw [get_app_l (by rw [el]; exact hi)] at hu; exact hu, s⟩) (fun i j k k' o o' hij q q' => g2 i j k k' o o' hij (up q).1 (up q').1) 0 0 os h2 (fun m φ q => by rw [Nat.zero_add]; exact q) (fun m φ q => by rw [Nat.zero_add]; exact q) f'
    refine h4 _ _ Φ e'.pop.step b v _ s.at_ (fun a ha => ⟨s.out a ha, s.io a ha⟩) fun l hl a ha hb => ?_
    obtain ⟨j, k, o, _, z, rfl⟩ := bo l hl
    exact g2 _ j _ _ _ _ (Nat.ne_of_gt (up z).2) get_app_r (up z).1 a ha hb
  | exc f' =>
    intro σ' I' H' _ e'
    obtain ⟨Φ, d⟩ := fin e' f'
    exact d
section
variable {Pr : Program} {wo : World} {K : PySem.W.Frag} {mg : Str → Option Value} {base : Heap}
end

/-! ### the caller's side -/
inductive Ag where
  | v (d : D) | io (i : Nat) | mv (i : Nat) | x
inductive AgAt (K : PySem.W.Frag) (I : Hp) (σ : L2.St) : List V → List Ag → Prop
  | nil : AgAt K I σ [] []
  | v {v : V} {d : D} {vs : List V} {as : List Ag} : Rp K I v d → AgAt K I σ vs as → AgAt K I σ (v :: vs) (.v d :: as)
  | io {v : V} {i : Nat} {vs : List V} {as : List Ag} : σ[i]? = some (some v) → AgAt K I σ vs as → AgAt K I σ (v :: vs) (.io i :: as)
  | mv {v : V} {i : Nat} {vs : List V} {as : List Ag} : σ[i]? = some (some v) → AgAt K I σ vs as → AgAt K I σ (v :: vs) (.mv i :: as)
  | x {v : V} {vs : List V} {as : List Ag} : AgAt K I σ vs as → AgAt K I σ (v :: vs) (.x :: as)
def DG (X : Cx) (W : WX) (es : List Expr) (ρ : List S) (as : List Ag) (ρ' : List S) : Prop :=
  ∀ (w : Wd) (σ : L2.St) (I H : Hp) (Q : List V → Hp → Prop), Ev X.K w I H σ ρ → (∀ vs I' H', Same I I' → Ev X.K w I' H' σ ρ' → AgAt X.K I' σ vs as → Q vs H') → wpA X es σ H Q
def iosOf : List Ag → List Nat
  | [] => []
  | .v _ :: r => iosOf r
  | .io i :: r => i :: iosOf r
  | .mv _ :: r => iosOf r
  | .x :: r => iosOf r
def mvsOf : List Ag → List Nat
  | [] => []
  | .v _ :: r => mvsOf r
  | .io _ :: r => mvsOf r
  | .mv i :: r => i :: mvsOf r
  | .x :: r => mvsOf r
/-- what is handed to the def -/
inductive Pas (ρ : List S) : List Ag → List P → Prop
  | nil : Pas ρ [] []
  | v {d : D} {as : List Ag} {ps : List P} : Pas ρ as ps → Pas ρ (.v d :: as) (.v d :: ps)
  | io {i : Nat} {k : Option Nat} {o : O} {as : List Ag} {ps : List P} : ρ[i]? = some (.own k o) → Pas ρ as ps → Pas ρ (.io i :: as) (.io o :: ps)
  | mv {i : Nat} {o : O} {as : List Ag} {ps : List P} : ρ[i]? = some (.own none o) → Pas ρ as ps → Pas ρ (.mv i :: as) (.mv o :: ps)
  | x {as : List Ag} {ps : List P} : Pas ρ as ps → Pas ρ (.x :: as) (.x :: ps)
def ownSet (o : O) : S → S
  | .own k _ => .own k o
  | s => s
def setO (o : O) : Nat → List S → List S
  | _, [] => []
  | 0, s :: r => ownSet o s :: r
  | n + 1, s :: r => s :: setO o n r
def putS : List Nat → List O → List S → List S
  | i :: is, o :: os, ρ => putS is os (setO o i ρ)
  | _, _, ρ => ρ
theorem setO_get (o : O) : ∀ (i j : Nat) (ρ : List S), (setO o i ρ)[j]? = if i = j then ρ[j]?.map (ownSet o) else ρ[j]?
  | i, j, [] => by cases i <;> simp [setO]
  | 0, 0, s :: r => by simp [setO]
  | 0, j + 1, s :: r => by simp [setO]
  | n + 1, 0, s :: r => by simp [setO]
  | n + 1, j + 1, s :: r => by
    have := setO_get o n j r
    simp only [setO, List.getElem?_cons_succ, this, Nat.add_right_cancel_iff]
theorem setO_len (o : O) : ∀ (i : Nat) (ρ : List S), (setO o i ρ).length = ρ.length
  | i, [] => by cases i <;> rfl
  | 0, s :: r => rfl
  | n + 1, s :: r => by simp only [setO, List.length_cons, setO_len o n r]
theorem putS_len : ∀ (is : List Nat) (os : List O) (ρ : List S), (putS is os ρ).length = ρ.length
  | [], _, ρ => by simp [putS]
  | i :: is, [], ρ => by simp [putS]
  | i :: is, o :: os, ρ => by rw [putS, putS_len is os, setO_len]
theorem putS_v : ∀ (is : List Nat) (os : List O) (ρ : List S) (j : Nat) (d : D), (putS is os ρ)[j]? = some (S.v d) → ρ[j]? = some (S.v d)
  | [], _, ρ, j, d, h => by simpa [putS] using h
  | i :: is, [], ρ, j, d, h => by simpa [putS] using h
  | i :: is, o :: os, ρ, j, d, h => by
    rw [putS] at h
    have h2 := putS_v is os _ j d h
    rw [setO_get] at h2
    split at h2
    · cases q : ρ[j]? with
      | none => rw [q] at h2; cases h2
      | some s =>
        rw [q] at h2
        cases s with
        | no => cases h2
        | v d' => exact h2
        | own k o' => cases h2
    · exact h2
theorem putS_o : ∀ (is : List Nat) (os : List O) (ρ : List S) (j : Nat) (k : Option Nat) (o : O), is.Nodup → (putS is os ρ)[j]? = some (S.own k o) →
    (∃ o1, ρ[j]? = some (S.own k o1)) ∧ ((j ∉ is ∧ ρ[j]? = some (S.own k o)) ∨ (∃ n : Nat, is[n]? = some j ∧ (os[n]? = some o ∨ (os[n]? = none ∧ ρ[j]? = some (S.own k o)))))
  | [], _, ρ, j, k, o, _, h => by
    have h : ρ[j]? = some (S.own k o) := by simpa [putS] using h
    exact ⟨⟨o, h⟩, .inl ⟨by simp, h⟩⟩
  | i :: is, [], ρ, j, k, o, _, h => by
    have h : ρ[j]? = some (S.own k o) := by simpa [putS] using h
    refine ⟨⟨o, h⟩, ?_⟩
    by_cases hj : j ∈ i :: is
    · obtain ⟨n, hn⟩ := List.mem_iff_getElem?.mp hj
      exact .inr ⟨n, hn, .inr ⟨by simp, h⟩⟩
    · exact .inl ⟨hj, h⟩
  | i :: is, p :: os, ρ, j, k, o, nd, h => by
    rw [putS] at h
    rw [List.nodup_cons] at nd
    obtain ⟨⟨o1, h1⟩, h2⟩ := putS_o is os _ j k o nd.2 h
    rw [setO_get] at h1
    by_cases hij : i = j
    · subst hij
      rw [if_pos rfl] at h1
      have back : ∀ o2, (ρ[i]?.map (ownSet p)) = some (S.own k o2) → o2 = p ∧ ∃ o3, ρ[i]? = some (S.own k o3) := fun o2 q => by
        cases q1 : ρ[i]? with
        | none => rw [q1] at q; cases q
        | some s =>
          rw [q1] at q
          cases s with
          | no => cases q
          | v d' => cases q
          | own k' o' =>
            cases q
            exact ⟨rfl, o', rfl⟩
      refine ⟨(back o1 h1).2, .inr ⟨0, rfl, .inl ?_⟩⟩
      rcases h2 with ⟨_, h2⟩ | ⟨n, hn, _⟩
      · rw [setO_get, if_pos rfl] at h2
        rw [(back o h2).1]
        rfl
      · exact absurd (List.mem_of_getElem? hn) nd.1
    · rw [if_neg hij] at h1
      refine ⟨⟨o1, h1⟩, ?_⟩
      rcases h2 with ⟨hj, h2⟩ | ⟨n, hn, h2⟩
      · rw [setO_get, if_neg hij] at h2
        exact .inl ⟨fun z => (List.mem_cons.mp z).elim (fun z => hij z.symm) hj, h2⟩
      · rw [setO_get, if_neg hij] at h2
        exact .inr ⟨n + 1, hn, h2⟩
/-- what was given away is gone -/
def clr : List Nat → List S → List S
  | [], ρ => ρ
  | i :: is, ρ => clr is (ρ.set i .no)
theorem clr_len : ∀ (is : List Nat) (ρ : List S), (clr is ρ).length = ρ.length
  | [], _ => rfl
  | i :: is, ρ => by rw [clr, clr_len is, List.length_set]
theorem clr_get : ∀ (is : List Nat) (ρ : List S) (j : Nat) (s : S), s ≠ .no → (clr is ρ)[j]? = some s → j ∉ is ∧ ρ[j]? = some s
  | [], _, j, s, _, h => ⟨by simp, h⟩
  | i :: is, ρ, j, s, hs, h => by
    rw [clr] at h
    obtain ⟨h1, h2⟩ := clr_get is _ j s hs h
    rcases get_set h2 with ⟨_, z, _⟩ | ⟨hne, z, _⟩
    · exact absurd z hs
    · exact ⟨fun z => (List.mem_cons.mp z).elim (fun z => hne z.symm) h1, z⟩
section
variable {K : PySem.W.Frag} {w : Wd} {I H I' H' : Hp} {σ : L2.St} {ρ : List S}
theorem args_at {φ : Nat → List Addr} (h1 : ∀ (i : Nat) (k : Option Nat) (o : O), ρ[i]? = some (S.own k o) → ∃ v, σ[i]? = some (some v) ∧ SlotOk K w I H v k o (φ i))
    (h2 : ∀ (i j : Nat) (k k' : Option Nat) (o o' : O), i ≠ j → ρ[i]? = some (S.own k o) → ρ[j]? = some (S.own k' o') → ∀ a ∈ φ i, a ∉ φ j) :
    ∀ {vs : List V} {as : List Ag} {ps : List P}, AgAt K I σ vs as → Pas ρ as ps → (iosOf as).Nodup → (mvsOf as).Nodup → (∀ i ∈ iosOf as, i ∉ mvsOf as) → ∃ B, ArgsAt K I H vs ps ((iosOf as).map φ) B ((mvsOf as).map φ).flatten ∧ (∀ (n i : Nat), (iosOf as)[n]? = some i → ∃ v, B[n]? = some v ∧ σ[i]? = some (some v)) ∧
      (∀ i ∈ iosOf as, ∃ k o, ρ[i]? = some (S.own k o)) ∧ ∀ i ∈ mvsOf as, ∃ o, ρ[i]? = some (S.own none o)
  | _, _, _, .nil, .nil, _, _, _ => ⟨[], .nil, fun n i h => (by simp [iosOf] at h), fun i hi => (by cases hi), fun i hi => (by cases hi)⟩
  | _, _, _, .v r t, .v q, nd, nd2, nd3 => by
    obtain ⟨B, g1, g2⟩ := args_at h1 h2 t q nd nd2 nd3
    exact ⟨B, .v r g1, g2⟩
  | _, _, _, .x t, .x q, nd, nd2, nd3 => by
    obtain ⟨B, g1, g2⟩ := args_at h1 h2 t q nd nd2 nd3
    exact ⟨B, .x g1, g2⟩
  | _, _, _, .io (i := i) e t, .io (k := k) (o := o) q1 q, nd, nd2, nd3 => by
    have nd' : i ∉ iosOf _ ∧ (iosOf _).Nodup := List.nodup_cons.mp nd
    have nm : i ∉ mvsOf _ := nd3 i List.mem_cons_self
    obtain ⟨B, h3, h4, h5, h6⟩ := args_at h1 h2 t q nd'.2 nd2 fun j hj => nd3 j (List.mem_cons_of_mem _ hj)
    obtain ⟨u, hu, s⟩ := h1 i k o q1
    rw [e] at hu
    cases hu
    refine ⟨_ :: B, .io s.at_ s.out (fun l hl a ha hb => ?_) (fun a ha hb => ?_) h3, fun n j hn => ?_, fun j hj => ?_, h6⟩
    · obtain ⟨j, hj, rfl⟩ := List.mem_map.mp hl
      obtain ⟨k', o', qj⟩ := h5 j hj
      exact h2 i j k k' o o' (fun z => nd'.1 (z ▸ hj)) q1 qj a ha hb
    · obtain ⟨l, hl, hb⟩ := List.mem_flatten.mp hb
      obtain ⟨j, hj, rfl⟩ := List.mem_map.mp hl
      obtain ⟨o', qj⟩ := h6 j hj
      exact h2 i j k none o o' (fun z => nm (z ▸ hj)) q1 qj a ha hb
    · cases n with
      | zero =>
        simp [iosOf] at hn
        subst hn
        exact ⟨_, rfl, e⟩
      | succ n => exact h4 n j (by simpa [iosOf] using hn)
    · rcases List.mem_cons.mp hj with rfl | hj
      · exact ⟨k, o, q1⟩
      · exact h5 j hj
  | _, _, _, .mv (i := i) e t, .mv (o := o) q1 q, nd, nd2, nd3 => by
    have nd' : i ∉ mvsOf _ ∧ (mvsOf _).Nodup := List.nodup_cons.mp nd2
    have nm : i ∉ iosOf _ := fun z => nd3 i z List.mem_cons_self
    obtain ⟨B, h3, h4, h5, h6⟩ := args_at h1 h2 t q nd nd'.2 fun j hj z => nd3 j hj (List.mem_cons_of_mem _ z)
    obtain ⟨u, hu, s⟩ := h1 i none o q1
    rw [e] at hu
    cases hu
    refine ⟨B, ?_, h4, h5, fun j hj => ?_⟩
    · rw [mvsOf, List.map_cons, List.flatten_cons]
      refine .mv s.at_ s.out (fun l hl a ha hb => ?_) (fun a ha hb => ?_) h3
      · obtain ⟨j, hj, rfl⟩ := List.mem_map.mp hl
        obtain ⟨k', o', qj⟩ := h5 j hj
        exact h2 i j _ k' o o' (fun z => nm (z ▸ hj)) q1 qj a ha hb
      · obtain ⟨l, hl, hb⟩ := List.mem_flatten.mp hb
        obtain ⟨j, hj, rfl⟩ := List.mem_map.mp hl
        obtain ⟨o', qj⟩ := h6 j hj
        exact h2 i j _ none o o' (fun z => nd'.1 (z ▸ hj)) q1 qj a ha hb
    · rcases List.mem_cons.mp hj with rfl | hj
      · exact ⟨o, q1⟩
      · exact h6 j hj
theorem back_get {H0 : Hp} : ∀ {os : List O} {A : List (List Addr)} {B : List V} {Φ : List (List Addr)}, Back K I' H' H0 os A B Φ → os.length = A.length ∧ (∀ (n : Nat) (o : O) (f : List Addr) (v : V), os[n]? = some o → A[n]? = some f → B[n]? = some v → ∃ l, Φ[n]? = some l ∧ OwnAt K I' H' v o l ∧ ∀ a ∈ l, I' a = none ∧ (a ∈ f ∨ H0 a = none)) ∧
    ∀ (n m : Nat) (l l' : List Addr), n ≠ m → Φ[n]? = some l → Φ[m]? = some l' → ∀ a ∈ l, a ∉ l'
  | _, _, _, _, .nil => ⟨rfl, fun n o f v h => by simp at h, fun n m l l' _ h => by simp at h⟩
  | _, _, _, _, .cons a b c t => by
    obtain ⟨g1, g2, g3⟩ := back_get t
    refine ⟨by rw [List.length_cons, List.length_cons, g1], fun n o f v h h' h'' => ?_, fun n m l l' hnm h h' => ?_⟩
    · cases n with
      | zero =>
        simp at h h' h''
        subst h h' h''
        exact ⟨_, rfl, a, b⟩
      | succ n => exact g2 n o f v (by simpa using h) (by simpa using h') (by simpa using h'')
    · cases n with
      | zero =>
        simp at h
        subst h
        cases m with
        | zero => exact absurd rfl hnm
        | succ m => exact fun x hx => c l' (List.mem_of_getElem? (by simpa using h')) x hx
      | succ n =>
        cases m with
        | zero =>
          simp at h'
          subst h'
          exact fun x hy hx => c l (List.mem_of_getElem? (by simpa using h)) x hx hy
        | succ m => exact g3 n m l l' (fun z => hnm (by rw [z])) (by simpa using h) (by simpa using h')
/-- behind a call -/
theorem Ev.after {as : List Ag} {os : List O} {B : List V} {Φ : List (List Addr)} {φ : Nat → List Addr} (e : Ev K w I H σ ρ)
    (h1 : ∀ (i : Nat) (k : Option Nat) (o : O), ρ[i]? = some (S.own k o) → ∃ v, σ[i]? = some (some v) ∧ SlotOk K w I H v k o (φ i))
    (h2 : ∀ (i j : Nat) (k k' : Option Nat) (o o' : O), i ≠ j → ρ[i]? = some (S.own k o) → ρ[j]? = some (S.own k' o') → ∀ a ∈ φ i, a ∉ φ j)
    (nd : (iosOf as).Nodup) (hB : ∀ (n i : Nat), (iosOf as)[n]? = some i → ∃ v, B[n]? = some v ∧ σ[i]? = some (some v))
    (hio : ∀ i ∈ iosOf as, ∃ k o, ρ[i]? = some (S.own k o)) (hmv : ∀ i ∈ mvsOf as, ∃ o, ρ[i]? = some (S.own none o))
    (st : Step I (cut H ((mvsOf as).map φ).flatten) ((iosOf as).map φ) I' H') (bk : Back K I' H' (cut H ((mvsOf as).map φ).flatten) os ((iosOf as).map φ) B Φ) :
    ∃ ψ : Nat → List Addr, Ev K w I' H' σ (clr (mvsOf as) (putS (iosOf as) os ρ)) ∧
    (∀ (i : Nat) (k : Option Nat) (o : O), (clr (mvsOf as) (putS (iosOf as) os ρ))[i]? = some (S.own k o) → ∃ v, σ[i]? = some (some v) ∧ SlotOk K w I' H' v k o (ψ i)) ∧
    (∀ (i j : Nat) (k k' : Option Nat) (o o' : O), i ≠ j → (clr (mvsOf as) (putS (iosOf as) os ρ))[i]? = some (S.own k o) → (clr (mvsOf as) (putS (iosOf as) os ρ))[j]? = some (S.own k' o') → ∀ a ∈ ψ i, a ∉ ψ j) ∧
    ∀ (i : Nat) (k : Option Nat) (o : O), (clr (mvsOf as) (putS (iosOf as) os ρ))[i]? = some (S.own k o) → ψ i ∈ Φ ∨ (i ∉ mvsOf as ∧ ψ i = φ i ∧ ∃ k o, ρ[i]? = some (S.own k o)) := by
  let M := ((mvsOf as).map φ).flatten
  obtain ⟨bl, bg, bd⟩ := back_get bk
  have inM : ∀ b, b ∈ M → ∃ i o, i ∈ mvsOf as ∧ ρ[i]? = some (S.own none o) ∧ b ∈ φ i := fun b hb => by
    obtain ⟨l, hl, hb⟩ := List.mem_flatten.mp hb
    obtain ⟨j, hj, rfl⟩ := List.mem_map.mp hl
    obtain ⟨o, q⟩ := hmv j hj
    exact ⟨j, o, hj, q, hb⟩
  have M0 : ∀ b, b ∈ M → w.H0 b = none ∧ w.Pt b = none := fun b hb => by
    obtain ⟨i, o, _, q, hb⟩ := inM b hb
    obtain ⟨v, _, s⟩ := h1 i none o q
    exact ⟨s.io b hb, s.np b hb⟩
  have MI : ∀ b, b ∈ M → I b = none := fun b hb => by
    obtain ⟨i, o, _, q, hb⟩ := inM b hb
    obtain ⟨v, _, s⟩ := h1 i none o q
    exact s.out b hb
  have inA : ∀ b o, w.H0 b = some o → (∀ l ∈ w.A, b ∉ l) → ∀ l ∈ (iosOf as).map φ, b ∉ l := fun b o hb hl l hm hin => by
    obtain ⟨i, hi, rfl⟩ := List.mem_map.mp hm
    obtain ⟨k, o', q⟩ := hio i hi
    obtain ⟨v, _, s⟩ := h1 i k o' q
    have s3 := s.io
    cases k with
    | none =>
      have := s3 b hin
      rw [hb] at this
      cases this
    | some k =>
      obtain ⟨_, l, z1, z2⟩ := s3
      rcases z2 b hin with y | y
      · exact hl _ (List.mem_of_getElem? z1) y
      · rw [hb] at y; cases y
  have cutH : ∀ b o, H b = some o → b ∉ M → cut H M b = some o := fun b o hb hn => by rw [cut_out hn]; exact hb
  have look : ∀ (j : Nat) (k : Option Nat) (o : O), (clr (mvsOf as) (putS (iosOf as) os ρ))[j]? = some (S.own k o) → j ∉ mvsOf as ∧ (∃ o1, ρ[j]? = some (S.own k o1)) ∧ ((j ∉ iosOf as ∧ ρ[j]? = some (S.own k o)) ∨ ∃ n, (iosOf as)[n]? = some j ∧ os[n]? = some o) := fun j k o q => by
    obtain ⟨q0, q⟩ := clr_get _ _ _ _ (by intro z; cases z) q
    obtain ⟨q1, q2⟩ := putS_o _ _ _ j k o nd q
    refine ⟨q0, q1, ?_⟩
    rcases q2 with z | ⟨n, hn, z⟩
    · exact .inl z
    · rcases z with z | ⟨z, _⟩
      · exact .inr ⟨n, hn, z⟩
      · have := (List.getElem?_eq_some_iff.mp hn).1
        have := List.getElem?_eq_none_iff.mp z
        rw [List.length_map] at bl
        omega
  have ixo : ∀ (n j : Nat), (iosOf as)[n]? = some j → (iosOf as).idxOf j = n := fun n j h => by
    obtain ⟨hn, rfl⟩ := List.getElem?_eq_some_iff.mp h
    exact nd.idxOf_getElem n hn
  let ψ : Nat → List Addr := fun j => if j ∈ iosOf as then Φ.getD ((iosOf as).idxOf j) [] else φ j
  have ψn : ∀ (n j : Nat) (l : List Addr), (iosOf as)[n]? = some j → Φ[n]? = some l → ψ j = l := fun n j l h h' => by
    show (if j ∈ iosOf as then Φ.getD ((iosOf as).idxOf j) [] else φ j) = l
    rw [if_pos (List.mem_of_getElem? h), ixo n j h, List.getD_eq_getElem?_getD, h']
    rfl
  have ψo : ∀ j, j ∉ iosOf as → ψ j = φ j := fun j h => if_neg h
  have new : ∀ (n j : Nat) (o : O), (iosOf as)[n]? = some j → os[n]? = some o → ∃ v l, σ[j]? = some (some v) ∧ Φ[n]? = some l ∧ OwnAt K I' H' v o l ∧ ∀ a ∈ l, I' a = none ∧ (a ∈ φ j ∨ cut H M a = none) := fun n j o hn ho => by
    obtain ⟨v, hb, hv⟩ := hB n j hn
    obtain ⟨l, g1, g2, g3⟩ := bg n o (φ j) v ho (by rw [List.getElem?_map, hn]; rfl) hb
    exact ⟨v, l, hv, g1, g2, g3⟩
  have g1 : ∀ (i : Nat) (k : Option Nat) (o : O), (clr (mvsOf as) (putS (iosOf as) os ρ))[i]? = some (S.own k o) → ∃ v, σ[i]? = some (some v) ∧ SlotOk K w I' H' v k o (ψ i) := fun j k o q => by
    obtain ⟨nm, ⟨o1, q1⟩, q2⟩ := look j k o q
    obtain ⟨v, hv, s⟩ := h1 j k o1 q1
    have notM : ∀ a, a ∈ φ j → a ∉ M := fun a ha hm => by
      obtain ⟨i, o', hi, qi, hb⟩ := inM a hm
      exact h2 j i _ _ _ _ (fun z => nm (z ▸ hi)) q1 qi a ha hb
    rcases q2 with ⟨hj, q3⟩ | ⟨n, hn, q3⟩
    · obtain ⟨v, hv, s⟩ := h1 j k o q3
      rw [ψo j hj]
      refine ⟨v, hv, s.at_.mono st.s1 fun a ha u hu => st.frm a u (cutH a u hu (notM a ha)) fun l hl hb => ?_, fun a ha => ?_, s.io, s.np⟩
      · obtain ⟨i, hi, rfl⟩ := List.mem_map.mp hl
        obtain ⟨k', o', qi⟩ := hio i hi
        exact h2 j i _ _ _ _ (fun z => hj (z ▸ hi)) q1 qi a ha hb
      · cases z : I' a with
        | none => rfl
        | some x =>
          obtain ⟨u, hu⟩ := s.at_.there a ha
          rcases st.new a x z with y | y
          · rw [s.out a ha] at y; cases y
          · rw [cut_out (notM a ha), hu] at y; cases y
    · obtain ⟨u, l, hu, g1, g2, g3⟩ := new n j o hn q3
      rw [hv] at hu
      cases hu
      rw [ψn n j l hn g1]
      refine ⟨v, hv, g2, fun a ha => (g3 a ha).1, ?_, fun a ha => ?_⟩
      · have z := s.io
        cases k with
        | none =>
          intro a ha
          rcases (g3 a ha).2 with y | y
          · exact z a y
          · rcases cut_none y with y | y
            · exact (M0 a y).1
            · exact (e.fresh y).1
        | some k =>
          obtain ⟨z0, l', z1, z2⟩ := z
          refine ⟨z0, l', z1, fun a ha => ?_⟩
          rcases (g3 a ha).2 with y | y
          · exact z2 a y
          · rcases cut_none y with y | y
            · exact .inr (M0 a y).1
            · exact .inr (e.fresh y).1
      · rcases (g3 a ha).2 with y | y
        · exact s.np a y
        · rcases cut_none y with y | y
          · exact (M0 a y).2
          · exact e.freshP y
  have sep : ∀ (n i j : Nat) (k : Option Nat) (o o' : O), (iosOf as)[n]? = some i → os[n]? = some o → j ∉ iosOf as → j ∉ mvsOf as → ρ[j]? = some (S.own k o') → ∀ l, Φ[n]? = some l → ∀ a ∈ l, a ∉ φ j := fun n i j k o o' hn ho hj hj2 q l hl a ha hb => by
    obtain ⟨u, l', hu, g1, g2, g3⟩ := new n i o hn ho
    rw [hl] at g1
    cases g1
    obtain ⟨k1, o1, qi⟩ := hio i (List.mem_of_getElem? hn)
    rcases (g3 a ha).2 with y | y
    · exact h2 i j _ _ _ _ (fun z => hj (z ▸ List.mem_of_getElem? hn)) qi q a y hb
    · rcases cut_none y with y | y
      · obtain ⟨i', o2, hi', qi', hb'⟩ := inM a y
        exact h2 i' j _ _ _ _ (fun z => hj2 (z ▸ hi')) qi' q a hb' hb
      · obtain ⟨v, _, s⟩ := h1 j k o' q
        obtain ⟨x, hx⟩ := s.at_.there a hb
        rw [y] at hx
        cases hx
  have g2 : ∀ (i j : Nat) (k k' : Option Nat) (o o' : O), i ≠ j → (clr (mvsOf as) (putS (iosOf as) os ρ))[i]? = some (S.own k o) → (clr (mvsOf as) (putS (iosOf as) os ρ))[j]? = some (S.own k' o') → ∀ a ∈ ψ i, a ∉ ψ j := fun i j k k' o o' hij q q' => by
    obtain ⟨nm, ⟨o1, q1⟩, q2⟩ := look i k o q
    obtain ⟨nm', ⟨o1', q1'⟩, q2'⟩ := look j k' o' q'
    rcases q2 with ⟨hi, q3⟩ | ⟨n, hn, q3⟩
    · rw [ψo i hi]
      rcases q2' with ⟨hj, q3'⟩ | ⟨n', hn', q3'⟩
      · rw [ψo j hj]
        exact h2 i j _ _ _ _ hij q1 q1'
      · obtain ⟨_, l, _, y1, _⟩ := new n' j o' hn' q3'
        rw [ψn n' j l hn' y1]
        exact fun a ha hb => sep n' j i k o' o hn' q3' hi nm q3 l y1 a hb ha
    · obtain ⟨_, l, _, y1, _⟩ := new n i o hn q3
      rw [ψn n i l hn y1]
      rcases q2' with ⟨hj, q3'⟩ | ⟨n', hn', q3'⟩
      · rw [ψo j hj]
        exact sep n i j k' o o' hn q3 hj nm' q3' l y1
      · obtain ⟨_, l', _, y1', _⟩ := new n' j o' hn' q3'
        rw [ψn n' j l' hn' y1']
        refine bd n n' l l' (fun z => ?_) y1 y1'
        subst z
        rw [hn] at hn'
        exact hij (Option.some.inj hn')
  refine ⟨ψ, ⟨st.s2, e.old.trans st.s1, fun b o hb hl => st.frm b o (cutH b o (e.frm b o hb hl) fun hm => ?_) (inA b o hb hl), fun b o hb => ?_, fun b o hb => ?_, fun b o hb => st.frm b o (cutH b o (e.prt b o hb) fun hm => ?_) (fun l hm hin => ?_), fun b o hb => ?_, by rw [clr_len, putS_len]; exact e.len, fun j d q => ?_, ψ, g1, g2⟩, g1, g2, fun j k o q => ?_⟩
  · rw [(M0 b hm).1] at hb; cases hb
  · rcases st.new b o hb with z | z
    · exact e.new b o z
    · rcases cut_none z with z | z
      · exact .inr (M0 b z).1
      · exact .inr (e.fresh z).1
  · obtain ⟨u, hu⟩ := e.trk b o hb
    exact st.trk b u (cutH b u hu fun hm => by rw [(M0 b hm).1] at hb; cases hb)
  · rw [(M0 b hm).2] at hb; cases hb
  · obtain ⟨i, hi, rfl⟩ := List.mem_map.mp hm
    obtain ⟨k, o', q⟩ := hio i hi
    obtain ⟨v, _, s⟩ := h1 i k o' q
    rw [s.np b hin] at hb
    cases hb
  · cases q : I' b with
    | none => rfl
    | some x =>
      rcases st.new b x q with z | z
      · rw [e.pI b o hb] at z; cases z
      · rcases cut_none z with z | z
        · rw [(M0 b z).2] at hb; cases hb
        · rw [e.prt b o hb] at z; cases z
  · obtain ⟨_, q⟩ := clr_get _ _ _ _ (by intro z; cases z) q
    obtain ⟨v, h3, h4⟩ := e.vals j d (putS_v _ _ _ j d q)
    exact ⟨v, h3, h4.up st.s1⟩
  · obtain ⟨nm, ⟨o1, q1⟩, q2⟩ := look j k o q
    rcases q2 with ⟨hj, q3⟩ | ⟨n, hn, q3⟩
    · exact .inr ⟨nm, ψo j hj, k, o1, q1⟩
    · obtain ⟨_, l, _, y1, _⟩ := new n j o hn q3
      rw [ψn n j l hn y1]
      exact .inl (List.mem_of_getElem? y1)
end
def Res.ov (ρ : List S) : Res → Ov
  | .ret d => .val d ρ
  | .own o => .own o ρ
  | .exc x => .exc x ρ
section
variable {X : Cx} {W : WX} {ρ ρ1 ρ2 : List S} {e : Expr} {es : List Expr} {d : D} {as : List Ag} {k : Nat}
theorem dg_nil : DG X W [] ρ [] ρ := fun w σ I H Q ev p => wpA_of pa_nil (p [] I H (Same.refl I) ev .nil)
theorem AgAt.up {K : PySem.W.Frag} {I I' : Hp} {σ : L2.St} (s : Same I I') : ∀ {vs : List V} {as : List Ag}, AgAt K I σ vs as → AgAt K I' σ vs as
  | _, _, .nil => .nil
  | _, _, .v r t => .v (r.up s) (t.up s)
  | _, _, .io r t => .io r (t.up s)
  | _, _, .mv r t => .mv r (t.up s)
  | _, _, .x t => .x (t.up s)
theorem dg_v (h : DE X W e ρ (.val d ρ1)) (hr : DG X W es ρ1 as ρ2) (hs : starEach (e :: es) X.env = (false, eval e X.env) :: starEach es X.env := by exact Dt.star_cons rfl) : DG X W (e :: es) ρ (.v d :: as) ρ2 :=
  fun w σ I H Q ev p => wpA_of (pa_cons pe_wp pa_wp hs) (h w σ I H _ ev fun v I1 H1 s1 e1 r => hr w σ I1 H1 _ e1 fun vs I2 H2 s2 e2 r2 => p _ I2 H2 (s1.trans s2) e2 (.v (r.up s2) r2))
theorem dg_io {i : Nat} {x : Str} {pos : Pos} {kk : Option Nat} {o : O} (hN : X.N[i]? = some x) (hv : Vis X.env.scope x) (h : ρ[i]? = some (.own kk o)) (hr : DG X W es ρ as ρ2) (hs : starEach (.Name x pos :: es) X.env = (false, eval (.Name x pos) X.env) :: starEach es X.env := by exact Dt.star_cons rfl)
    (hd : (x == ("__debug__" : Str)) = false := by decide) (hcd : (x == ("__classdict__" : Str)) = false := by decide) : DG X W (.Name x pos :: es) ρ (.io i :: as) ρ2 :=
  fun w σ I H Q ev p => by
    obtain ⟨φ, h1, _⟩ := ev.owns
    obtain ⟨v, hv', _⟩ := h1 i kk o h
    exact wpA_of (pa_cons (pe_var hN hv hd hcd) pa_wp hs) ⟨v, hv', hr w σ I H _ ev fun vs I2 H2 s2 e2 r2 => p _ I2 H2 s2 e2 (.io hv' r2)⟩
theorem dg_mv {i : Nat} {x : Str} {pos : Pos} {o : O} (hN : X.N[i]? = some x) (hv : Vis X.env.scope x) (h : ρ[i]? = some (.own none o)) (hr : DG X W es ρ as ρ2) (hs : starEach (.Name x pos :: es) X.env = (false, eval (.Name x pos) X.env) :: starEach es X.env := by exact Dt.star_cons rfl)
    (hd : (x == ("__debug__" : Str)) = false := by decide) (hcd : (x == ("__classdict__" : Str)) = false := by decide) : DG X W (.Name x pos :: es) ρ (.mv i :: as) ρ2 :=
  fun w σ I H Q ev p => by
    obtain ⟨φ, h1, _⟩ := ev.owns
    obtain ⟨v, hv', _⟩ := h1 i none o h
    exact wpA_of (pa_cons (pe_var hN hv hd hcd) pa_wp hs) ⟨v, hv', hr w σ I H _ ev fun vs I2 H2 s2 e2 r2 => p _ I2 H2 s2 e2 (.mv hv' r2)⟩
/-- .. that is not looked at -/
theorem dg_x {i : Nat} {x : Str} {pos : Pos} {kk : Option Nat} {o : O} (hN : X.N[i]? = some x) (hv : Vis X.env.scope x) (h : ρ[i]? = some (.own kk o)) (hr : DG X W es ρ as ρ2) (hs : starEach (.Name x pos :: es) X.env = (false, eval (.Name x pos) X.env) :: starEach es X.env := by exact Dt.star_cons rfl)
    (hd : (x == ("__debug__" : Str)) = false := by decide) (hcd : (x == ("__classdict__" : Str)) = false := by decide) : DG X W (.Name x pos :: es) ρ (.x :: as) ρ2 :=
  fun w σ I H Q ev p => by
    obtain ⟨φ, h1, _⟩ := ev.owns
    obtain ⟨v, hv', _⟩ := h1 i kk o h
    exact wpA_of (pa_cons (pe_var hN hv hd hcd) pa_wp hs) ⟨v, hv', hr w σ I H _ ev fun vs I2 H2 s2 e2 r2 => p _ I2 H2 s2 e2 (.x r2)⟩
/-- the end of a call -/
theorem call_end {w : Wd} {σ : L2.St} {I H : Hp} {Q : VK} {vs : List V} {ps : List P} {os : List O} {r : Res} {fc : Con} (ev : Ev X.K w I H σ ρ) (ag : AgAt X.K I σ vs as) (hp : Pas ρ as ps) (hf : fc ps r os) (nd : (iosOf as).Nodup) (nd2 : (mvsOf as).Nodup) (nd3 : ∀ i ∈ iosOf as, i ∉ mvsOf as)
    (q : PostE X.K w W σ I Q (r.ov (clr (mvsOf as) (putS (iosOf as) os ρ)))) : spC X.K fc vs H Q (fun c d H' => W c d σ H') := by
  obtain ⟨φ, h1, h2⟩ := ev.owns
  obtain ⟨B, g1, g2, g3, g4⟩ := args_at h1 h2 ag hp nd nd2 nd3
  refine ⟨I, ps, (iosOf as).map φ, B, ((mvsOf as).map φ).flatten, r, os, ev.sub, g1, hf, fun I2 H2 Φ st bk => ?_⟩
  obtain ⟨ψ, e2, k1, k2, k3⟩ := ev.after h1 h2 nd g2 g3 g4 st bk
  cases r with
  | ret d => exact fun v rv => q v I2 H2 st.s1 e2 rv
  | exc x => exact q I2 H2 st.s1 e2
  | own o =>
    intro v f ho hn hd
    have fr : ∀ a ∈ f, w.H0 a = none ∧ w.Pt a = none := fun a ha => by
      rcases cut_none (hn a ha).2 with z | z
      · obtain ⟨l, hl, hb⟩ := List.mem_flatten.mp z
        obtain ⟨j, hj, rfl⟩ := List.mem_map.mp hl
        obtain ⟨o', qj⟩ := g4 j hj
        obtain ⟨u, _, s⟩ := h1 j none o' qj
        exact ⟨s.io a hb, s.np a hb⟩
      · exact ⟨(ev.fresh z).1, ev.freshP z⟩
    refine q v I2 H2 st.s1 (e2.gain ho (fun a ha => (hn a ha).1) (fun a ha => (fr a ha).1) (fun a ha => (fr a ha).2) k1 k2 fun i kk o' q1 a ha hb => ?_)
    rcases k3 i kk o' q1 with z | ⟨nm, z, k', o1, qi⟩
    · exact hd _ z a ha hb
    · rw [z] at hb
      rcases cut_none (hn a ha).2 with y | y
      · obtain ⟨l, hl, hb'⟩ := List.mem_flatten.mp y
        obtain ⟨j, hj, rfl⟩ := List.mem_map.mp hl
        obtain ⟨o2, qj⟩ := g4 j hj
        exact h2 j i _ _ _ _ (fun z => nm (z ▸ hj)) qj qi a hb' hb
      · obtain ⟨u, _, s⟩ := h1 i k' o1 qi
        obtain ⟨x, hx⟩ := s.at_.there a hb
        rw [y] at hx
        cases hx
/-- THE CALL of a def -/
theorem de_call {f : Addr} {fd : FuncData} {ns : List Str} {fc : Con} {j : Nat} {x : Str} {p pos : Pos} {ps : List P} {os : List O} {r : Res} (c : Cz X W k) (F : FnOk X.prog X.w X.K X.mg X.base (L2.CX X.prog X.w) j f fd ns (spC X.K fc)) (hj : j ≤ k)
    (hg : Gl X x) (hm : X.mg x = some (.ref f)) (hk : PySem.W.keepIn X.K (.ref f) = true) (hb : Binds X.K fd ns []) (ha : DG X W (e :: es) ρ as ρ1) (hp : Pas ρ1 as ps) (hf : fc ps r os) (nd : (iosOf as).Nodup) (nd2 : (mvsOf as).Nodup) (nd3 : ∀ i ∈ iosOf as, i ∉ mvsOf as)
    (hdb : (x == ("__debug__" : Str)) = false := by decide) (he : starEach (e :: es) X.env = (false, eval e X.env) :: starEach es X.env := by exact Dt.star_cons rfl) (hpl : (backTo pos (starEach es X.env)).any (·.1) = false := by rfl) :
    DE X W (.Call (.Name x p) (e :: es) [] pos) ρ (r.ov (clr (mvsOf as) (putS (iosOf as) os ρ1))) :=
  fun w σ I H Q ev q => wpE_of (pe_callS F (c.rm.mono hj) hg hm hk hb (fun σ => passAt c.tk σ) pa_wp hdb he hpl) (ha w σ I H _ ev fun vs I1 H1 s1 e1 ag => call_end e1 ag hp hf nd nd2 nd3 (q.mono s1))
end
end Dt


set_option Elab.async false
set_option linter.all false
set_option maxRecDepth 100000
set_option maxHeartbeats 1000000
namespace Dt
open PySem PySem.Spec PyProof.Rows L2
section
variable {X : Cx} {W : WX} {ρ ρ1 ρ2 ρ3 : List S} {pos : Pos} {a b c e : Expr} {es : List Expr} {d d1 d2 : D} {ds : List D} {st : Stmt} {rest sts sts' : List Stmt} {o o1 : Oc}

/-! ### blocks -/
theorem dss_nil : DSs X W [] ρ (.next ρ) := fun w σ I H Dn ev p => wpSs_of pss_nil (p σ I H (Same.refl I) ev)
theorem dss (h : DS X W st ρ o1) (k : Kt X W rest o o1) : DSs X W (st :: rest) ρ o := fun w σ I H Dn ev p => by
  refine wpSs_of (pss_cons ps_wp pss_wp) (h w σ I H _ ev ?_)
  cases o1 with
  | next ρ' => exact fun σ' I' H' s e' => k w σ' I' H' Dn e' (p.mono s)
  | brk ρ' =>
    have k : o = .brk ρ' := k
    subst k
    exact p
  | cont ρ' =>
    have k : o = .cont ρ' := k
    subst k
    exact p
  | ret d ρ' =>
    have k : o = .ret d ρ' := k
    subst k
    exact p
  | rown d ρ' =>
    have k : o = .rown d ρ' := k
    subst k
    exact p
  | exc C ρ' =>
    have k : o = .exc C ρ' := k
    subst k
    exact p
/-- the last statement -/
theorem dss1 (h : DS X W st ρ o) : DSs X W [st] ρ o := fun w σ I H Dn ev p => wpSs_of (pss_one ps_wp) (h w σ I H Dn ev p)
theorem kt_next (h : DSs X W rest ρ o) : Kt X W rest o (.next ρ) := h

/-! ### small statements -/
theorem ds_expr (h : DE X W e ρ (.val d ρ1)) (hs : swapsWith e none pos.line X.env = pure false := by rfl) : DS X W (.Expr e pos) ρ (.next ρ1) :=
  fun w σ I H Dn ev p => wpS_of (ps_expr pe_wp hs) (h w σ I H _ ev fun v I1 H1 s1 e1 r => p σ I1 H1 s1 e1)
theorem ds_exprX {C : Ex} (h : DE X W e ρ (.exc C ρ1)) (hs : swapsWith e none pos.line X.env = pure false := by rfl) : DS X W (.Expr e pos) ρ (.exc C ρ1) :=
  fun w σ I H Dn ev p => wpS_of (ps_expr pe_wp hs) (h w σ I H _ ev fun I1 H1 s1 e1 => p σ I1 H1 s1 e1)
theorem ds_ret (h : DE X W e ρ (.val d ρ1)) : DS X W (.Return (some e) pos) ρ (.ret d ρ1) :=
  fun w σ I H Dn ev p => wpS_of (ps_ret pe_wp) (h w σ I H _ ev fun v I1 H1 s1 e1 r => p v σ I1 H1 s1 e1 r)
theorem ds_retX {C : Ex} (h : DE X W e ρ (.exc C ρ1)) : DS X W (.Return (some e) pos) ρ (.exc C ρ1) :=
  fun w σ I H Dn ev p => wpS_of (ps_ret pe_wp) (h w σ I H _ ev fun I1 H1 s1 e1 => p σ I1 H1 s1 e1)
theorem ds_retO {q : O} (h : DE X W e ρ (.own q ρ1)) : DS X W (.Return (some e) pos) ρ (.rown q ρ1) :=
  fun w σ I H Dn ev p => wpS_of (ps_ret pe_wp) (h w σ I H _ ev fun v I1 H1 s1 e1 => p v σ I1 H1 s1 e1)
theorem ds_pass : DS X W (.Pass pos) ρ (.next ρ) := fun w σ I H Dn ev p => wpS_of ps_pass (p σ I H (Same.refl I) ev)
theorem ds_break : DS X W (.Break pos) ρ (.brk ρ) := fun w σ I H Dn ev p => wpS_of ps_break (p σ I H (Same.refl I) ev)
section
variable {i : Nat} {x : Str} {pos' : Pos}
theorem ds_set (hN : X.N.Nodup) (hi : X.N[i]? = some x) (hx : Loc X.env.scope x) (h : DE X W e ρ (.val d ρ1)) (hs : swapsWith e (some (.Name x pos')) pos.line X.env = pure false := by rfl) (hf : X.fn x = true ∨ X.env.scope.names.lookup x = some .local := by first | exact .inl rfl | exact .inr rfl | assumption) :
    DS X W (.Assign [.Name x pos'] e pos) ρ (.next (ρ1.set i (.v d))) :=
  fun w σ I H Dn ev p => wpS_of (ps_set hN hi hx pe_wp hs hf) (h w σ I H _ ev fun v I1 H1 s1 e1 r => p _ I1 H1 s1 (e1.setV r))
theorem ds_setO {q : O} (hN : X.N.Nodup) (hi : X.N[i]? = some x) (hx : Loc X.env.scope x) (h : DE X W e ρ (.own q ρ1)) (hs : swapsWith e (some (.Name x pos')) pos.line X.env = pure false := by rfl) (hf : X.fn x = true ∨ X.env.scope.names.lookup x = some .local := by first | exact .inl rfl | exact .inr rfl | assumption) :
    DS X W (.Assign [.Name x pos'] e pos) ρ (.next (ρ1.set i (.own none q))) :=
  fun w σ I H Dn ev p => wpS_of (ps_set hN hi hx pe_wp hs hf) (h w σ I H _ ev fun v I1 H1 s1 e1 => p _ I1 H1 s1 e1.move)
theorem ds_setX {C : Ex} (hN : X.N.Nodup) (hi : X.N[i]? = some x) (hx : Loc X.env.scope x) (h : DE X W e ρ (.exc C ρ1)) (hs : swapsWith e (some (.Name x pos')) pos.line X.env = pure false := by rfl) (hf : X.fn x = true ∨ X.env.scope.names.lookup x = some .local := by first | exact .inl rfl | exact .inr rfl | assumption) :
    DS X W (.Assign [.Name x pos'] e pos) ρ (.exc C ρ1) :=
  fun w σ I H Dn ev p => wpS_of (ps_set hN hi hx pe_wp hs hf) (h w σ I H _ ev fun I1 H1 s1 e1 => p σ I1 H1 s1 e1)
/-- x.append(e), x an owned list -/
theorem ds_append {k : Option Nat} {apos cpos npos : Pos} (hi : X.N[i]? = some x) (hv : Vis X.env.scope x) (h : DE X W e ρ (.val d ρ1)) (hq : ρ1[i]? = some (.own k (.lst ds))) (hq0 : ∃ k0 ds0, ρ[i]? = some (S.own k0 (.lst ds0))) (hl : ds.length < sizeLine)
    (hd : (x == ("__debug__" : Str)) = false := by decide) (hcd : (x == ("__classdict__" : Str)) = false := by decide)
    (hfew : ((backTo cpos (starEach [e] X.env)).all (fun x => !x.1) && (backToKw cpos (keywordEach [] X.env)).all (fun x => x.1.isSome)
      && decide (([e] : List Expr).length + ([] : List Keyword).length + (if ([] : List Keyword).isEmpty then 0 else 1) < 30)) = true := by rfl)
    (hline : (apos.endLine == cpos.line) = true := by rfl) (hs : starEach [e] X.env = (false, eval e X.env) :: starEach [] X.env := by exact Dt.star_cons rfl)
    (hsw : swapsWith (.Call (.Attribute (.Name x npos) "append" apos) [e] [] cpos) none pos.line X.env = pure false := by rfl) :
    DS X W (.Expr (.Call (.Attribute (.Name x npos) "append" apos) [e] [] cpos) pos) ρ (.next (ρ1.set i (.own k (.lst (ds ++ [d]))))) :=
  fun w σ I H Dn ev p => wpS_of (ps_expr (pe_bm PySem.F.plainAttrs_list PySem.F.slot_list_append PySem.F.type_list_append mt_append (pe_var hi hv hd hcd) (pa_cons pe_wp pa_nil hs) rfl hfew hline hs rfl) hsw) (by
    obtain ⟨k0, ds0, hq0⟩ := hq0
    obtain ⟨a, vs, h1, h2, h3, h4, _⟩ := ev.change (es := ds0) hq0
    refine ⟨.ref a, h1, .inl ⟨rfl, vs, .of h2⟩, h w σ I H _ ev fun v I1 H1 s1 e1 r => ?_⟩
    obtain ⟨a', vs', g1, g2, g3, g4, g5⟩ := e1.change (es := ds ++ [d]) hq
    rw [h1] at g1
    cases g1
    exact ⟨a, vs', v, rfl, rfl, g2, by rw [g4.length]; exact hl, p _ I1 _ s1 (g5 _ (g4.append (.one r)))⟩)
end

/-! ### if -/
theorem ds_if {k : Bool} (h : DT X W c ρ k ρ1) (h1 : k = true → DSs X W sts ρ1 o) (h2 : k = false → DSs X W sts' ρ1 o) : DS X W (.If c sts sts' pos) ρ o :=
  fun w σ I H Dn ev p => wpS_of (ps_if pt_wp pss_wp pss_wp) (h w σ I H _ ev fun I1 H1 s1 e1 => by
    cases k with
    | true =>
      rw [if_pos rfl]
      exact h1 rfl w σ I1 H1 Dn e1 (p.mono s1)
    | false =>
      rw [if_neg Bool.false_ne_true]
      exact h2 rfl w σ I1 H1 Dn e1 (p.mono s1))
/-- an if and what follows it -/
theorem dss_if {k : Bool} (h : DT X W c ρ k ρ1) (h1 : k = true → ∃ o1, DSs X W sts ρ1 o1 ∧ Kt X W rest o o1) (h2 : k = false → ∃ o1, DSs X W sts' ρ1 o1 ∧ Kt X W rest o o1) : DSs X W (.If c sts sts' pos :: rest) ρ o := by
  cases k with
  | true =>
    obtain ⟨o1, g1, g2⟩ := h1 rfl
    exact dss (ds_if h (fun _ => g1) (fun z => nomatch z)) g2
  | false =>
    obtain ⟨o1, g1, g2⟩ := h2 rfl
    exact dss (ds_if h (fun z => nomatch z) (fun _ => g1)) g2

/-! ### while -/
/-- a while loop's run -/
inductive WhR (X : Cx) (W : WX) (c : Expr) (body : List Stmt) : Nat → List S → Oc → Prop
  | done {n : Nat} {ρ ρ1 : List S} : DT X W c ρ false ρ1 → WhR X W c body n ρ (.next ρ1)
  | turn {n : Nat} {ρ ρ1 ρ2 : List S} {o : Oc} : DT X W c ρ true ρ1 → DSs X W body ρ1 (.next ρ2) → WhR X W c body n ρ2 o → WhR X W c body (n + 1) ρ o
  | brk {n : Nat} {ρ ρ1 ρ2 : List S} : DT X W c ρ true ρ1 → DSs X W body ρ1 (.brk ρ2) → WhR X W c body n ρ (.next ρ2)
  | ret {n : Nat} {ρ ρ1 ρ2 : List S} {d : D} : DT X W c ρ true ρ1 → DSs X W body ρ1 (.ret d ρ2) → WhR X W c body n ρ (.ret d ρ2)
  | exc {n : Nat} {ρ ρ1 ρ2 : List S} {x : Ex} : DT X W c ρ true ρ1 → DSs X W body ρ1 (.exc x ρ2) → WhR X W c body n ρ (.exc x ρ2)
theorem ds_while {n : Nat} (hp : PassesOwn (model X.prog X.w) X.A X.env X.xe) (h : WhR X W c sts n ρ o) : DS X W (.While c sts [] pos) ρ o := fun w σ I H Dn ev p => by
  refine wpS_of (ps_while hp pt_wp pss_wp) ⟨fun m σ' H' => ∃ I' ρ', Same I I' ∧ Ev X.K w I' H' σ' ρ' ∧ WhR X W c sts m ρ' o, ⟨n, I, ρ, Same.refl I, ev, h⟩, ?_⟩
  rintro m σ1 H1 ⟨I1, ρ1, s1, e1, r1⟩
  cases r1 with
  | done h1 =>
    refine h1 w σ1 I1 H1 _ e1 fun I2 H2 s2 e2 => ?_
    rw [if_neg Bool.false_ne_true]
    exact p σ1 I2 H2 (s1.trans s2) e2
  | @turn n' _ ρa ρb _ h1 h2 h3 =>
    refine h1 w σ1 I1 H1 _ e1 fun I2 H2 s2 e2 => ?_
    rw [if_pos rfl]
    refine ⟨fun σ' H' => ∃ I' ρ', Same I I' ∧ Ev X.K w I' H' σ' ρ' ∧ WhR X W c sts n' ρ' o, fun σ' H' z => ⟨n', Nat.lt_succ_self n', z⟩, h2 w σ1 I2 H2 _ e2 fun σ3 I3 H3 s3 e3 => ⟨I3, ρb, (s1.trans s2).trans s3, e3, h3⟩⟩
  | brk h1 h2 =>
    refine h1 w σ1 I1 H1 _ e1 fun I2 H2 s2 e2 => ?_
    rw [if_pos rfl]
    exact ⟨fun _ _ => False, fun _ _ z => z.elim, h2 w σ1 I2 H2 _ e2 fun σ3 I3 H3 s3 e3 => p σ3 I3 H3 ((s1.trans s2).trans s3) e3⟩
  | ret h1 h2 =>
    refine h1 w σ1 I1 H1 _ e1 fun I2 H2 s2 e2 => ?_
    rw [if_pos rfl]
    exact ⟨fun _ _ => False, fun _ _ z => z.elim, h2 w σ1 I2 H2 _ e2 fun v σ3 I3 H3 s3 e3 => p v σ3 I3 H3 ((s1.trans s2).trans s3) e3⟩
  | exc h1 h2 =>
    refine h1 w σ1 I1 H1 _ e1 fun I2 H2 s2 e2 => ?_
    rw [if_pos rfl]
    exact ⟨fun _ _ => False, fun _ _ z => z.elim, h2 w σ1 I2 H2 _ e2 fun σ3 I3 H3 s3 e3 => p σ3 I3 H3 ((s1.trans s2).trans s3) e3⟩

/-! ### what is walked -/
def Yl (K : PySem.W.Frag) (items : List D) (I0 : Hp) (Y : Nat → Hp → V → Hp → Prop) : Prop :=
  ∀ (i : Nat) (Hc : Hp) (v : V) (H2 I1 : Hp), i < items.length → Same I0 I1 → Same I1 Hc → Y i Hc v H2 → ∃ I3 d, Same I1 I3 ∧ Same I3 H2 ∧ Same Hc H2 ∧ (∀ b o, I3 b = some o → I1 b = some o ∨ Hc b = none) ∧ items[i]? = some d ∧ Rp K I3 v d
def DI (X : Cx) (W : WX) (tg iter : Expr) (ρ : List S) (items : List D) (ρ' : List S) : Prop :=
  ∀ (w : Wd) (σ : L2.St) (I H : Hp) (R : It → Hp → Prop), Ev X.K w I H σ ρ →
    (∀ (J : It) (G : Hp → Prop) (Y : Nat → Hp → V → Hp → Prop) (I' H' : Hp), Same I I' → Ev X.K w I' H' σ ρ' → Walk J items.length G Y → (∀ I1 H1, Same I' I1 → Same I1 H1 → G H1) → Yl X.K items I' Y → R J H') → wpI X tg iter σ H R
section
variable {tg : Expr}
theorem di_list (h : DE X W a ρ (.val (.lst ds) ρ1)) : DI X W tg a ρ ds ρ1 := fun w σ I H R ev p => wpI_of (pi_list pe_wp) (h w σ I H _ ev fun v I1 H1 s1 e1 r => by
  obtain ⟨q, vs, rfl, h1, h2⟩ := rpl_of r
  refine ⟨q, rfl, ⟨vs, e1.sub.seq h1⟩, p (Itl X.K q) (fun H => SqL X.K H q vs) (YAt vs) I1 H1 s1 e1 (by rw [← h2.length]; exact walk_list) (fun I2 H2 s2 s3 => (s2.trans s3).seq h1) fun i Hc v H2 I2 hi s2 s3 y => ?_⟩
  obtain ⟨rfl, y⟩ := y
  obtain ⟨d, q1, q2⟩ := h2.getV y
  exact ⟨I2, d, Same.refl _, s3, Same.refl _, fun b o z => .inl z, q1, q2.up s2⟩)
theorem di_tup (h : DE X W a ρ (.val (.tup ds) ρ1)) : DI X W tg a ρ ds ρ1 := fun w σ I H R ev p => wpI_of (pi_tup pe_wp) (h w σ I H _ ev fun v I1 H1 s1 e1 r => by
  obtain ⟨q, vs, rfl, h1, h2⟩ := rpt_of r
  refine ⟨q, rfl, ⟨vs, same_t e1.sub h1⟩, p (Itt X.K q) (fun H => SqT X.K H q vs) (YAt vs) I1 H1 s1 e1 (by rw [← h2.length]; exact walk_tup) (fun I2 H2 s2 s3 => same_t (s2.trans s3) h1) fun i Hc v H2 I2 hi s2 s3 y => ?_⟩
  obtain ⟨rfl, y⟩ := y
  obtain ⟨d, q1, q2⟩ := h2.getV y
  exact ⟨I2, d, Same.refl _, s3, Same.refl _, fun b o z => .inl z, q1, q2.up s2⟩)
/-- a text's signs -/
def signs (z : Str) : List D := z.cps.toList.map fun c => .str ⟨#[c]⟩
theorem di_str {z : Str} (h : DE X W a ρ (.val (.str z) ρ1)) : DI X W tg a ρ (signs z) ρ1 := fun w σ I H R ev p => wpI_of (pi_str pe_wp) (h w σ I H _ ev fun v I1 H1 s1 e1 r => by
  cases r
  refine ⟨z, rfl, p (Its z) _ _ I1 H1 s1 e1 (by unfold signs; rw [List.length_map, Array.length_toList]; exact walk_str) (fun _ _ _ _ => trivial) fun i Hc v H2 I2 hi s2 s3 y => ?_⟩
  obtain ⟨rfl, ch, y1, rfl⟩ := y
  exact ⟨I2, _, Same.refl _, s3, Same.refl _, fun b o z => .inl z, by unfold signs; rw [List.getElem?_map, Array.getElem?_toList, y1]; rfl, .str _⟩)
def rngD (lo : Int) (n : Nat) : List D := (List.range n).map fun i => .int (lo + (i : Nat))
theorem rngD_len {lo : Int} {n : Nat} : (rngD lo n).length = n := by unfold rngD; rw [List.length_map, List.length_range]
theorem di_range1 {j : Int} {p1 : Pos} (hx : Blt X "range" (.type "range")) (h : DE X W a ρ (.val (.int j) ρ1)) (h1 : -(2 ^ 62) ≤ j) (h2 : j < 2 ^ 62) (hs : starEach [a] X.env = [(false, eval a X.env)] := by rfl) : DI X W tg (.Call (.Name "range" p1) [a] [] pos) ρ (rngD 0 j.toNat) ρ1 :=
  fun w σ I H R ev p => wpI_of (pi_range1 hx.g hx.m pa_wp hs) (da_cons h da_nil hs w σ I H _ ev fun vs I1 H1 s1 e1 r => by
    obtain ⟨v, rfl, rv⟩ := all1 r
    cases rv
    refine ⟨j, rfl, h1, h2, p (Itr 0 j.toNat) _ _ I1 H1 s1 e1 (by rw [rngD_len]; exact walk_range) (fun _ _ _ _ => trivial) fun i Hc v H2 I2 hi s2 s3 y => ?_⟩
    obtain ⟨rfl, rfl⟩ := y
    rw [rngD_len] at hi
    exact ⟨I2, _, Same.refl _, s3, Same.refl _, fun b o z => .inl z, by unfold rngD; rw [List.getElem?_map, List.getElem?_range hi]; rfl, .int _⟩)
end
/-! ### targets -/
def Bd (X : Cx) (W : WX) (tg : Expr) (d : D) (ρ ρ' : List S) : Prop :=
  ∀ (w : Wd) (σ : L2.St) (I H : Hp) (v : V) (Q : L2.St → Hp → Prop), Ev X.K w I H σ ρ → Rp X.K I v d → (∀ σ', Ev X.K w I H σ' ρ' → Q σ' H) → wpG X tg v σ H Q
theorem bd_name {i : Nat} {x : Str} (hN : X.N.Nodup) (hi : X.N[i]? = some x) (hx : Loc X.env.scope x) (hf : X.fn x = true ∨ X.env.scope.names.lookup x = some .local := by first | exact .inl rfl | exact .inr rfl | assumption) : Bd X W (.Name x pos) d ρ (ρ.set i (.v d)) :=
  fun w σ I H v Q ev r p => wpG_of (pg_name hN hi hx hf) (p _ (ev.setV r))
/-- (x, y) = a pair -/
theorem bd_tup2 {i j : Nat} {x y : Str} {p1 p2 : Pos} {kk : Nat} (hc : X.calm = true) (hN : X.N.Nodup) (hi : X.N[i]? = some x) (hx : Loc X.env.scope x) (hj : X.N[j]? = some y) (hy : Loc X.env.scope y)
    (hf : X.fn x = true ∨ X.env.scope.names.lookup x = some .local := by first | exact .inl rfl | exact .inr rfl | assumption) (hf' : X.fn y = true ∨ X.env.scope.names.lookup y = some .local := by first | exact .inl rfl | exact .inr rfl | assumption) :
    Bd X W (.Tuple [.Name x p1, .Name y p2] kk pos) (.tup [d1, d2]) ρ ((ρ.set i (.v d1)).set j (.v d2)) :=
  fun w σ I H v Q ev r p => by
    obtain ⟨a, vs, rfl, h1, h2⟩ := rpt_of r
    obtain ⟨v1, v2, rfl, r1, r2⟩ := all2 h2
    exact wpG_of (pg_tup hc (pgs_cons (pg_name hN hi hx hf) (pgs_cons (pg_name hN hj hy hf') pgs_nil))) ⟨a, [v1, v2], rfl, same_t ev.sub h1, rfl, v1, [v2], rfl, v2, [], rfl, rfl, p _ ((ev.setV r1).setV r2)⟩

/-! ### for -/
inductive FoR (X : Cx) (W : WX) (tg : Expr) (body : List Stmt) : List D → List S → Oc → Prop
  | nil {ρ : List S} : FoR X W tg body [] ρ (.next ρ)
  | turn {d : D} {ds : List D} {ρ ρ1 ρ2 : List S} {o : Oc} : Bd X W tg d ρ ρ1 → DSs X W body ρ1 (.next ρ2) → FoR X W tg body ds ρ2 o → FoR X W tg body (d :: ds) ρ o
  | brk {d : D} {ds : List D} {ρ ρ1 ρ2 : List S} : Bd X W tg d ρ ρ1 → DSs X W body ρ1 (.brk ρ2) → FoR X W tg body (d :: ds) ρ (.next ρ2)
  | ret {d v : D} {ds : List D} {ρ ρ1 ρ2 : List S} : Bd X W tg d ρ ρ1 → DSs X W body ρ1 (.ret v ρ2) → FoR X W tg body (d :: ds) ρ (.ret v ρ2)
  | exc {d : D} {C : Addr} {ds : List D} {ρ ρ1 ρ2 : List S} : Bd X W tg d ρ ρ1 → DSs X W body ρ1 (.exc C ρ2) → FoR X W tg body (d :: ds) ρ (.exc C ρ2)
theorem ds_for {tg : Expr} {items : List D} (hp : PassesOwn (model X.prog X.w) X.A X.env X.xe) (hc : X.calm = true) (hi : DI X W tg a ρ items ρ1) (h : FoR X W tg sts items ρ1 o) (hs : ∀ x, foldedSetIterable a X.env x = pure x := by intro _; rfl) : DS X W (.For tg a sts [] pos) ρ o := fun w σ I H Dn ev p => by
  refine wpS_of (ps_for hp hc pi_wp pg_wp pss_wp hs) (hi w σ I H _ ev fun J G Y I1 H1 s1 e1 wk hG hY => ?_)
  refine ⟨fun i m σ' H' => m = items.length - i ∧ i ≤ items.length ∧ ∃ I' ρ', Same I1 I' ∧ Ev X.K w I' H' σ' ρ' ∧ FoR X W tg sts (items.drop i) ρ' o, ⟨items.length, by omega, Nat.zero_le _, I1, ρ1, Same.refl _, e1, h⟩, ?_⟩
  rintro i m σ2 H2 ⟨rfl, hi, I2, ρ2, s2, e2, r2⟩
  by_cases hlt : i < items.length
  · rw [List.drop_eq_getElem_cons hlt] at r2
    have it : items[i]? = some items[i] := List.getElem?_eq_getElem hlt
    refine .inr ⟨wk.goes i H2 hlt (hG I2 H2 s2 e2.sub), ?_⟩
    have bind : ∀ {ρ3 : List S} {x : V} {H3 : Hp} {Q : L2.St → Hp → Prop}, Bd X W tg items[i] ρ2 ρ3 → J.yld i H2 x H3 → (∀ σ3 I3, Same I2 I3 → Ev X.K w I3 H3 σ3 ρ3 → Q σ3 H3) → wpG X tg x σ2 H3 Q := fun {ρ3 x H3 Q} hb hy hq => by
      obtain ⟨I3, d, q1, q2, q3, q4, q5, q6⟩ := hY i H2 x H3 I2 hlt s2 e2.sub (wk.yields i H2 x H3 hlt (hG I2 H2 s2 e2.sub) hy)
      rw [it] at q5
      cases q5
      have e3 := e2.grow q1 q2 q3 q4
      exact hb w σ2 I3 H3 x Q e3 q6 fun σ3 e4 => hq σ3 I3 q1 e4
    cases r2 with
    | @turn _ _ _ ρa ρb _ hb hd hr =>
      refine ⟨fun σ' H' => ∃ I', Same I1 I' ∧ Ev X.K w I' H' σ' ρb, fun σ' H' z => ?_, fun x H3 hy => bind hb hy fun σ3 I3 s3 e3 => hd w σ3 I3 H3 _ e3 fun σ4 I4 H4 s4 e4 => ⟨I4, (s2.trans s3).trans s4, e4⟩⟩
      obtain ⟨I', z1, z2⟩ := z
      exact ⟨items.length - (i + 1), by omega, rfl, by omega, I', ρb, z1, z2, hr⟩
    | brk hb hd =>
      refine ⟨fun _ _ => False, fun _ _ z => z.elim, fun x H3 hy => bind hb hy fun σ3 I3 s3 e3 => hd w σ3 I3 H3 _ e3 fun σ4 I4 H4 s4 e4 => p σ4 I4 H4 (((s1.trans s2).trans s3).trans s4) e4⟩
    | ret hb hd =>
      refine ⟨fun _ _ => False, fun _ _ z => z.elim, fun x H3 hy => bind hb hy fun σ3 I3 s3 e3 => hd w σ3 I3 H3 _ e3 fun v σ4 I4 H4 s4 e4 => p v σ4 I4 H4 (((s1.trans s2).trans s3).trans s4) e4⟩
    | exc hb hd =>
      refine ⟨fun _ _ => False, fun _ _ z => z.elim, fun x H3 hy => bind hb hy fun σ3 I3 s3 e3 => hd w σ3 I3 H3 _ e3 fun σ4 I4 H4 s4 e4 => p σ4 I4 H4 (((s1.trans s2).trans s3).trans s4) e4⟩
  · have ei : i = items.length := by omega
    subst ei
    rw [List.drop_length] at r2
    cases r2
    exact .inl ⟨wk.stops H2 (hG I2 H2 s2 e2.sub), p σ2 I2 H2 (s1.trans s2) e2⟩
end

/-! ### list comprehensions -/
abbrev W0 : WX := fun _ _ _ _ => False
abbrev Bk (X : Cx) (scope : Scope) (s : Shared) (H : Hp) (C : Addr) (cl : List (Str × Addr)) (fp : List Addr) : Cx := X.blk s H scope (compEnvC scope cl C X.env) fp
def wpEb (X : Cx) (scope : Scope) (e : Expr) : TE := fun σ H Q => ∀ s H0 C cl fp, wpE (Bk X scope s H0 C cl fp) e σ H Q
def wpTb (X : Cx) (scope : Scope) : List Expr → TT
  | [] => tYes
  | e :: _ => fun σ H Q => ∀ s H0 C cl fp, wpT (Bk X scope s H0 C cl fp) e σ H Q
/-- the tests of a comprehension: none or one -/
inductive Tst (X : Cx) (scope : Scope) : List Expr → List S → Bool → List S → Prop
  | nil {ρ : List S} : Tst X scope [] ρ true ρ
  | one {e : Expr} {ρ ρ1 : List S} {b : Bool} : (∀ s H0 C cl fp, DT (Bk X scope s H0 C cl fp) W0 e ρ b ρ1) → Tst X scope [e] ρ b ρ1
inductive LcR (X : Cx) (scope : Scope) (ifs : List Expr) (elt : Expr) (j : Nat) : List D → List S → List D → List S → Prop
  | nil {ρ : List S} : LcR X scope ifs elt j [] ρ [] ρ
  | keep {d v : D} {ds es : List D} {ρ ρ1 ρ2 ρ3 : List S} : Tst X scope ifs (ρ.set j (.v d)) true ρ1 → (∀ s H0 C cl fp, DE (Bk X scope s H0 C cl fp) W0 elt ρ1 (.val v ρ2)) → LcR X scope ifs elt j ds (ρ2.set j .no) es ρ3 → LcR X scope ifs elt j (d :: ds) ρ (v :: es) ρ3
  | skip {d : D} {ds es : List D} {ρ ρ1 ρ3 : List S} : Tst X scope ifs (ρ.set j (.v d)) false ρ1 → LcR X scope ifs elt j ds (ρ1.set j .no) es ρ3 → LcR X scope ifs elt j (d :: ds) ρ es ρ3
/-- something is protected -/
def Wd.guard (w : Wd) (p : Addr) (o : HO) : Wd := { w with Pt := upd w.Pt p o }
section
variable {K : PySem.W.Frag} {w : Wd} {I H : Hp} {σ : L2.St} {ρ : List S} {p : Addr} {u u' : HO}
theorem Ev.guard (e : Ev K w I H σ ρ) (h : H p = none) : Ev K (w.guard p u) I (upd H p u) σ ρ := by
  have g := e.other (o := u) h
  have f := e.fresh h
  refine ⟨g.sub, g.old, g.frm, g.new, g.trk, fun b o hb => ?_, fun b o hb => ?_, g.len, g.vals, ?_⟩
  · by_cases z : b = p
    · subst z
      have hb : upd w.Pt b u b = some o := hb
      rw [upd_same] at hb ⊢
      exact hb
    · have hb : upd w.Pt p u b = some o := hb
      rw [upd_ne z] at hb
      exact g.prt b o hb
  · by_cases z : b = p
    · subst z; exact f.2
    · have hb : upd w.Pt p u b = some o := hb
      rw [upd_ne z] at hb
      exact g.pI b o hb
  · obtain ⟨φ, h1, h2⟩ := g.owns
    obtain ⟨φ, h1, h2⟩ := e.owns
    have ne : ∀ (i : Nat) (k : Option Nat) (o : O), ρ[i]? = some (S.own k o) → ∀ a ∈ φ i, a ≠ p := fun i k o q a ha z => by
      obtain ⟨v, hv, s⟩ := h1 i k o q
      obtain ⟨y, hy⟩ := s.at_.there a ha
      rw [z, h] at hy
      cases hy
    refine ⟨φ, fun i k o q => ?_, h2⟩
    obtain ⟨v, hv, s⟩ := h1 i k o q
    exact ⟨v, hv, s.at_.mono (Same.refl I) fun a ha y hy => by rw [upd_ne (ne i k o q a ha)]; exact hy, s.out, s.io, fun a ha => by
      show upd w.Pt p u a = none
      rw [upd_ne (ne i k o q a ha)]
      exact s.np a ha⟩
theorem Ev.reguard (e : Ev K (w.guard p u) I H σ ρ) (h0 : w.H0 p = none) : Ev K (w.guard p u') I (upd H p u') σ ρ := by
  have hp : H p = some u := e.prt p u upd_same
  have ip : I p = none := e.pI p u upd_same
  refine ⟨same_upd2 e.sub ip, e.old, fun b o hb hl => by rw [upd_ne (ne_of_none hb h0)]; exact e.frm b o hb hl, e.new, fun b o hb => ?_, fun b o hb => ?_, fun b o hb => ?_, e.len, e.vals, ?_⟩
  · rw [upd_ne (ne_of_none hb h0)]
    exact e.trk b o hb
  · by_cases z : b = p
    · subst z
      have hb : upd w.Pt b u' b = some o := hb
      rw [upd_same] at hb ⊢
      exact hb
    · have hb : upd w.Pt p u' b = some o := hb
      rw [upd_ne z] at hb ⊢
      exact e.prt b o (by show upd w.Pt p u b = some o; rw [upd_ne z]; exact hb)
  · by_cases z : b = p
    · subst z; exact ip
    · have hb : upd w.Pt p u' b = some o := hb
      rw [upd_ne z] at hb
      exact e.pI b o (by show upd w.Pt p u b = some o; rw [upd_ne z]; exact hb)
  · obtain ⟨φ, h1, h2⟩ := e.owns
    have ne : ∀ (i : Nat) (k : Option Nat) (o : O), ρ[i]? = some (S.own k o) → ∀ a ∈ φ i, a ≠ p := fun i k o q a ha z => by
      obtain ⟨v, hv, s⟩ := h1 i k o q
      have y : upd w.Pt p u a = none := s.np a ha
      rw [z, upd_same] at y
      cases y
    refine ⟨φ, fun i k o q => ?_, h2⟩
    obtain ⟨v, hv, s⟩ := h1 i k o q
    exact ⟨v, hv, s.at_.mono (Same.refl I) fun a ha y hy => by rw [upd_ne (ne i k o q a ha)]; exact hy, s.out, s.io, fun a ha => by
      show upd w.Pt p u' a = none
      have z := s.np a ha
      have z : upd w.Pt p u a = none := z
      rw [upd_ne (ne i k o q a ha)] at z ⊢
      exact z⟩
/-- the protected list becomes an owned one -/
theorem Ev.unguard {vs : List V} {ds : List D} (e : Ev K (w.guard p (.lst vs)) I H σ ρ) (h0 : w.H0 p = none) (hw : w.Pt p = none) (r : RpAll K I vs ds) : Ev K w I H (σ ++ [some (.ref p)]) (ρ ++ [.own none (.lst ds)]) := by
  have hp : H p = some (.lst vs) := e.prt p _ upd_same
  have ip : I p = none := e.pI p _ upd_same
  obtain ⟨φ, h1, h2⟩ := e.owns
  have ne : ∀ (i : Nat) (k : Option Nat) (o : O), ρ[i]? = some (S.own k o) → ∀ a ∈ φ i, a ≠ p := fun i k o q a ha z => by
    obtain ⟨v, hv, s⟩ := h1 i k o q
    have y : upd w.Pt p (.lst vs) a = none := s.np a ha
    rw [z, upd_same] at y
    cases y
  have g1 : ∀ (i : Nat) (k : Option Nat) (o : O), ρ[i]? = some (S.own k o) → ∃ v, σ[i]? = some (some v) ∧ SlotOk K w I H v k o (φ i) := fun i k o q => by
    obtain ⟨v, hv, s⟩ := h1 i k o q
    exact ⟨v, hv, s.at_, s.out, s.io, fun a ha => by
      have z : upd w.Pt p (.lst vs) a = none := s.np a ha
      rw [upd_ne (ne i k o q a ha)] at z
      exact z⟩
  have e' : Ev K w I H σ ρ := ⟨e.sub, e.old, e.frm, e.new, e.trk, fun b o hb => e.prt b o (by show upd w.Pt p (.lst vs) b = some o; rw [upd_ne (ne_of_none hb hw)]; exact hb), fun b o hb => e.pI b o (by show upd w.Pt p (.lst vs) b = some o; rw [upd_ne (ne_of_none hb hw)]; exact hb), e.len, e.vals, φ, g1, h2⟩
  exact e'.gain (.lst hp r) (fun a ha => by rw [List.mem_singleton.mp ha]; exact ip) (fun a ha => by rw [List.mem_singleton.mp ha]; exact h0) (fun a ha => by rw [List.mem_singleton.mp ha]; exact hw) g1 h2 fun i k o q a ha hb => ne i k o q a hb (List.mem_singleton.mp ha)
/-- a slot that nothing is known of -/
theorem Ev.other_slot {j : Nat} {x : Option V} (e : Ev K w I H σ ρ) (h : ρ[j]? = some .no) : Ev K w I H (σ.set j x) ρ := by
  refine ⟨e.sub, e.old, e.frm, e.new, e.trk, e.prt, e.pI, by rw [List.length_set]; exact e.len, fun i d q => ?_, ?_⟩
  · have hij : j ≠ i := fun z => by rw [z, q] at h; cases h
    rw [List.getElem?_set_ne hij]
    exact e.vals i d q
  · obtain ⟨φ, h1, h2⟩ := e.owns
    refine ⟨φ, fun i k o q => ?_, h2⟩
    have hij : j ≠ i := fun z => by rw [z, q] at h; cases h
    rw [List.getElem?_set_ne hij]
    exact h1 i k o q
end
section
variable {X : Cx} {W : WX} {ρ ρ1 ρ2 ρ3 : List S} {pos : Pos} {iter elt : Expr} {ifs : List Expr} {items es : List D} {scope : Scope} {x : Str} {j : Nat} {tp : Pos}
theorem Ev.forget {K : PySem.W.Frag} {w : Wd} {I H : Hp} {σ : L2.St} (e : Ev K w I H σ ρ) : Ev K w I H σ (ρ.set j .no) := by
  have g := e.wipe1 (i := j)
  by_cases hj : j < σ.length
  · have q : (σ.set j none).set j σ[j] = σ := by
      rw [List.set_set, List.set_getElem_self]
    have z := g.other_slot (j := j) (x := σ[j]) (List.getElem?_set_self (by rw [← e.len]; exact hj))
    rw [q] at z
    exact z
  · have q : σ.set j none = σ := List.set_eq_of_length_le (Nat.le_of_not_lt hj)
    rw [q] at g
    exact g
theorem dss_forget {sts : List Stmt} {o : Oc} (j : Nat) (h : DSs X W sts (ρ.set j .no) o) : DSs X W sts ρ o := fun w σ I H Dn ev p => h w σ I H Dn ev.forget p
theorem tst_ok (hifs : ifs.length ≤ 1) (s : Shared) (H0 : Hp) (C : Addr) (cl : List (Str × Addr)) (fp : List Addr) : PTs (Bk X scope s H0 C cl fp) ifs (wpTb X scope ifs) := by
  match ifs, hifs with
  | [], _ => exact pts_nil
  | [e], _ => exact pts_one ⟨fun pins s' σ H Q I h => (h s H0 C cl fp).run pins s' I⟩
theorem tst_run {w : Wd} {σ : L2.St} {I H : Hp} {k : Bool} {Q : Bool → Hp → Prop} (h : Tst X scope ifs ρ k ρ1) (ev : Ev X.K w I H σ ρ) (p : ∀ I' H', Same I I' → Ev X.K w I' H' σ ρ1 → Q k H') : wpTb X scope ifs σ H Q := by
  cases h with
  | nil => exact p I H (Same.refl I) ev
  | one h => exact fun s H0 C cl fp => h s H0 C cl fp w σ I H Q ev p
theorem lc_run (hc : X.calm = true) (hN : X.N.Nodup) (hj : X.N[j]? = some x) (hno : ρ1[j]? = some .no) (hi : DI X W (.Name x tp) iter ρ items ρ1) (h : LcR X scope ifs elt j items ρ1 es ρ2) (hl : es.length ≤ sizeLine)
    {w : Wd} {σ : L2.St} {I H : Hp} {Q : VK} (ev : Ev X.K w I H σ ρ) (p : ∀ v I' H', Same I I' → Ev X.K w I' H' (σ ++ [some v]) (ρ2 ++ [.own none (.lst es)]) → Q v H') :
    tLc (wpI X (.Name x tp) iter) (gName j) (wpTb X scope ifs) (wpEb X scope elt) [j] σ H Q := by
  refine hi w σ I H _ ev fun J G Y I1 H1 s1 e1 wk hG hY => fun Dl hD => ?_
  have hw : w.Pt Dl = none := e1.freshP hD
  have h0 : w.H0 Dl = none := (e1.fresh hD).1
  have jl : j < σ.length := by rw [e1.len]; exact (List.getElem?_eq_some_iff.mp hno).1
  have wp : wipe σ [j] = σ.set j none := rfl
  have back : (σ.set j none).set j σ[j] = σ := by rw [List.set_set, List.set_getElem_self]
  refine ⟨fun i m H' => m = items.length - i ∧ i ≤ items.length ∧ ∃ I' ρ' vs as rest, Same I1 I' ∧ Ev X.K (w.guard Dl (.lst vs)) I' H' (σ.set j none) ρ' ∧ ρ'[j]? = some S.no ∧ RpAll X.K I' vs as ∧ as ++ rest = es ∧ LcR X scope ifs elt j (items.drop i) ρ' rest ρ2,
    ⟨items.length, by omega, Nat.zero_le _, I1, ρ1, [], [], es, Same.refl _, (e1.guard hD).other_slot hno, hno, .nil, rfl, h⟩, ?_⟩
  rintro i m H2 ⟨rfl, hile, I2, ρ', vs, as, rest, s2, e2, hno2, rv, has, r2⟩
  by_cases hlt : i < items.length
  · rw [List.drop_eq_getElem_cons hlt] at r2
    have it : items[i]? = some items[i] := List.getElem?_eq_getElem hlt
    refine .inr ⟨wk.goes i H2 hlt (hG I2 H2 s2 e2.sub), ?_⟩
    have bind : ∀ {y : V} {H3 : Hp}, J.yld i H2 y H3 → ∃ I3, Same I2 I3 ∧ Ev X.K (w.guard Dl (.lst vs)) I3 H3 ((σ.set j none).set j (some y)) (ρ'.set j (.v items[i])) := fun {y H3} hy => by
      obtain ⟨I3, d, q1, q2, q3, q4, q5, q6⟩ := hY i H2 y H3 I2 hlt s2 e2.sub (wk.yields i H2 y H3 hlt (hG I2 H2 s2 e2.sub) hy)
      rw [it] at q5
      cases q5
      exact ⟨I3, q1, (e2.grow q1 q2 q3 q4).setV q6⟩
    have wset : ∀ y : V, wipe ((σ.set j none).set j (some y)) [j] = wipe σ [j] := fun y => by
      show ((σ.set j none).set j (some y)).set j none = σ.set j none
      rw [List.set_set, List.set_set]
    have wset2 : ∀ y : V, ((σ.set j none).set j (some y)).set j none = σ.set j none := wset
    have rl : as.length < sizeLine ∨ rest = [] := by
      cases rest with
      | nil => exact .inr rfl
      | cons z zs =>
        left
        rw [← has, List.length_append, List.length_cons] at hl
        omega
    cases r2 with
    | @keep _ v _ es' _ ρa ρb _ ht he hr =>
      refine ⟨fun H' => ∃ I' vs', Same I1 I' ∧ Ev X.K (w.guard Dl (.lst vs')) I' H' (σ.set j none) (ρb.set j .no) ∧ (ρb.set j .no)[j]? = some S.no ∧ RpAll X.K I' vs' (as ++ [v]), fun H' z => ?_, fun y H3 hy => ?_⟩
      · obtain ⟨I', vs', z1, z2, z3, z4⟩ := z
        exact ⟨items.length - (i + 1), by omega, rfl, by omega, I', _, vs', as ++ [v], es', z1, z2, z3, z4, by rw [List.append_assoc]; exact has, hr⟩
      · obtain ⟨I3, s3, e3⟩ := bind hy
        refine ⟨wset y, tst_run ht e3 fun I4 H4 s4 e4 => ?_⟩
        rw [if_pos rfl]
        intro s0 H0 C cl fp
        refine he s0 H0 C cl fp _ _ I4 H4 _ e4 fun u I5 H5 s5 e5 ru => ?_
        refine ⟨vs, e5.prt Dl _ upd_same, ?_, I5, vs ++ [u], ((s2.trans s3).trans s4).trans s5, ?_, ?_, ?_⟩
        · rw [rv.length]
          rcases rl with rl | rl
          · exact rl
          · cases rl
        · have g := (e5.wipe1 (i := j)).reguard (u' := .lst (vs ++ [u])) h0
          have z : ((wipe σ [j]).set j (some y)).set j none = σ.set j none := wset2 y
          rw [z] at g
          exact g
        · refine List.getElem?_set_self ?_
          have this : ((σ.set j none).set j (some y)).length = ρb.length := e5.len
          rw [List.length_set, List.length_set] at this
          rw [← this]
          exact jl
        · exact (rv.up ((s3.trans s4).trans s5)).append (.one ru)
    | @skip _ _ _ _ ρa _ ht hr =>
      refine ⟨fun H' => ∃ I' vs', Same I1 I' ∧ Ev X.K (w.guard Dl (.lst vs')) I' H' (σ.set j none) (ρa.set j .no) ∧ (ρa.set j .no)[j]? = some S.no ∧ RpAll X.K I' vs' as, fun H' z => ?_, fun y H3 hy => ?_⟩
      · obtain ⟨I', vs', z1, z2, z3, z4⟩ := z
        exact ⟨items.length - (i + 1), by omega, rfl, by omega, I', _, vs', as, rest, z1, z2, z3, z4, has, hr⟩
      · obtain ⟨I3, s3, e3⟩ := bind hy
        refine ⟨wset y, tst_run ht e3 fun I4 H4 s4 e4 => ?_⟩
        rw [if_neg Bool.false_ne_true]
        refine ⟨I4, vs, (s2.trans s3).trans s4, ?_, ?_, rv.up (s3.trans s4)⟩
        · have g := e4.wipe1 (i := j)
          have z : ((wipe σ [j]).set j (some y)).set j none = σ.set j none := wset2 y
          rw [z] at g
          exact g
        · refine List.getElem?_set_self ?_
          have this : ((σ.set j none).set j (some y)).length = ρa.length := e4.len
          rw [List.length_set, List.length_set] at this
          rw [← this]
          exact jl
  · have ei : i = items.length := by omega
    subst ei
    rw [List.drop_length] at r2
    cases r2
    refine .inl ⟨wk.stops H2 (hG I2 H2 s2 e2.sub), ?_⟩
    rw [List.append_nil] at has
    subst has
    have g := e2.other_slot (j := j) (x := σ[j]) hno2
    rw [back] at g
    exact p _ I2 H2 (s1.trans s2) (g.unguard h0 hw rv)
theorem de_lc (hc : X.calm = true) (hN : X.N.Nodup) (hj : X.N[j]? = some x) (hx : (relabel scope X.env).names.lookup x = some .local) (ok : BlkOk X.N X.env.scope scope [(x, j)]) (hifs : ifs.length ≤ 1) (hno : ρ1[j]? = some .no) (hi : DI X W (.Name x tp) iter ρ items ρ1) (h : LcR X scope ifs elt j items ρ1 es ρ2) (hl : es.length ≤ sizeLine)
    (hs : ∀ x, foldedSetIterable iter X.env x = pure x := by intro _; rfl) : DE X W (.ListComp elt [⟨.Name x tp, iter, ifs, 0⟩] scope pos) ρ (.own (.lst es) ρ2) :=
  fun w σ I H Q ev p => wpE_of (pe_lc (own := [(x, j)]) (g := gName j) hc hN pi_wp ok (fun _ _ _ _ _ => pg_name hN hj (.inl hx) (.inr hx)) (fun s H0 C cl fp => tst_ok hifs s H0 C cl fp) (fun s H0 C cl fp => ⟨fun pins s' σ H Q I h => (h s H0 C cl fp).run pins s' I⟩) hs)
    (lc_run hc hN hj hno hi h hl ev p)
/-- y = [..] on one line -/
theorem ds_setLc {i : Nat} {y : Str} {py spos : Pos} (hc : X.calm = true) (hN : X.N.Nodup) (hy : X.N[i]? = some y) (hyl : X.env.scope.names.lookup y = some .local) (hsw : swapsWith (.ListComp elt [⟨.Name x tp, iter, ifs, 0⟩] scope pos) (some (.Name y py)) spos.line X.env = pure true)
    (hj : X.N[j]? = some x) (hx : (relabel scope X.env).names.lookup x = some .local) (ok : BlkOk X.N X.env.scope scope [(x, j)]) (hifs : ifs.length ≤ 1) (hno : ρ1[j]? = some .no) (hi : DI X W (.Name x tp) iter ρ items ρ1) (h : LcR X scope ifs elt j items ρ1 es ρ2) (hl : es.length ≤ sizeLine)
    (hs : ∀ x, foldedSetIterable iter X.env x = pure x := by intro _; rfl) : DS X W (.Assign [.Name y py] (.ListComp elt [⟨.Name x tp, iter, ifs, 0⟩] scope pos) spos) ρ (.next (ρ2.set i (.own none (.lst es)))) :=
  fun w σ I H Dn ev p => wpS_of (ps_setLc (i := i) (own := [(x, j)]) (g := gName j) hc hN hy hyl hsw pi_wp ok (fun _ _ _ _ _ => pg_name hN hj (.inl hx) (.inr hx)) (fun s H0 C cl fp => tst_ok hifs s H0 C cl fp) (fun s H0 C cl fp => ⟨fun pins s' σ H Q I h => (h s H0 C cl fp).run pins s' I⟩) hs)
    (lc_run hc hN hj hno hi h hl ev fun v I' H' s e' => p _ I' H' s e'.move)
end
end Dt


set_option Elab.async false
set_option linter.all false
set_option maxRecDepth 100000
set_option maxHeartbeats 1000000
namespace Dt
open PySem PySem.Spec PyProof.Rows L2
section
variable {X : Cx} {pins : List (Addr × Obj)} {σ : L2.St} {H : Hp} {s : Shared}
/-- an object of ours that wasn't tracked is from here on -/
theorem inv_track {a : Addr} {u : HO} (I : Inv X pins σ H s) (n0 : X.s_0.heap.get? a = none) (na : H a = none) (nL : a ≠ X.env.locals)
    (nC : ∀ x c, X.env.cells.lookup x = some c → c ≠ a) (nP : ∀ p ∈ X.pn ++ pins, p.1 ≠ a) (ob : ObjOk X.prog X.w (upd H a u) s.heap a u) : Inv X pins σ (upd H a u) s := by
  have nn : ∀ b x, H b = some x → b ≠ a := fun b x e => ne_of_none e na
  have bs := I.base
  refine ⟨I.ok, I.os, I.bare, ⟨bs.keep, bs.slot, fun b o e n hx => ?_, bs.there, fun b xs e => ?_, fun b o x e => ?_, fun b ps e => ?_⟩, I.loc, I.cell, ?_, fun x c e => ?_, fun p hp => ?_, fun b o e => ?_, I.len⟩
  · rw [upd_ne fun z => by rw [z, n0] at e; cases e]
    exact bs.free b o e n hx
  · have q := bs.tups b xs e
    rw [upd_ne (nn b _ q)]
    exact q
  · have q := bs.frzs b o x e
    rw [upd_ne (nn b _ q)]
    exact q
  · obtain ⟨m, q⟩ := bs.tbls b ps e
    exact ⟨m, by rw [upd_ne (nn b _ q)]; exact q⟩
  · rw [upd_ne nL.symm]
    exact I.free
  · rw [upd_ne (nC x c e)]
    exact I.freeC x c e
  · obtain ⟨h1, h2, h3⟩ := I.pin p hp
    exact ⟨h1, by rw [upd_ne (nP p hp)]; exact h2, h3⟩
  · by_cases hb : b = a
    · subst hb
      rw [upd_same] at e
      cases e
      exact ob
    · rw [upd_ne hb] at e
      exact (I.hok b o e).stay (fun c v _ q => q) (fun c q => by rw [upd_ne (nn c _ q)]; exact q) fun c xs q => by
        rw [upd_ne (nn c _ q)]
        exact q
end
theorem Ev.set_no {K : PySem.W.Frag} {w : Wd} {I H : Hp} {σ : L2.St} {ρ : List S} {i : Nat} {x : Option V} (e : Ev K w I H σ ρ) : Ev K w I H (σ.set i x) (ρ.set i .no) := by
  by_cases il : i < ρ.length
  · exact (e.forget (j := i)).other_slot (j := i) (x := x) (List.getElem?_set_self il)
  · have h1 : ρ.set i .no = ρ := List.set_eq_of_length_le (Nat.le_of_not_lt il)
    have h2 : σ.set i x = σ := List.set_eq_of_length_le (by rw [e.len]; exact Nat.le_of_not_lt il)
    rw [h1, h2]
    exact e
def Ex.cls : Ex → Addr
  | .p C => C
  | .f C _ _ => C
/-- what 'except c as n: y = n' wishes -/
def ExD (C : Addr) (d : Option Addr) (a : Addr) : HO := .ext fun h => ∃ (oe : Obj) (vs : Array Value), h.get? a = some oe ∧ Zc (.ref C) d oe ∧ oe.data = .fields vs
def wKeep (K : PySem.W.Frag) (c : Value) (i iy : Nat) (Wout : WX) (Dn : Ends) : WX := fun cls d σ H =>
  ∃ b, PySem.W.exmOne K cls c = some b ∧ (b = true → ∃ C, cls = .ref C ∧ ∀ a, H a = none → Dn.nx (((σ.set i (some (.ref a))).set iy (some (.ref a))).set i none) (upd H a (ExD C d a))) ∧ (b = false → Wout cls d σ H)
section
variable {X : Cx} {x n y : Str} {c : Value} {i iy : Nat} {body : List Stmt} {np pos pos' py pn' pa : Pos} {tb : WX → TS} {Wout : WX}
theorem ps_try_keep (hs : X.stack = X.env :: X.outer) (hf : X.env.frame = some X.env.locals) (hex : X.ex = []) (hN : X.N.Nodup) (hi : X.N[i]? = some n) (hln : X.env.kindOf n = some .local) (hiy : X.N[iy]? = some y) (hly : X.env.kindOf y = some .local) (hne : i ≠ iy) (hc : Names X x c) (tk : Takes X Wout)
    (hb : ∀ (W : WX) (pn : List (Addr × Obj)) (xe : Value → Shared → Prop), Takes (X.tr pn xe) W → PassesOwn (model X.prog X.w) X.A X.env xe → PSs (X.tr pn xe) body (tb W))
    (hsw : swapsWith (.Name n pn') (some (.Name y py)) pa.line X.env = pure false := by rfl) (hd : (n == ("__debug__" : Str)) = false := by decide) (hcd : (n == ("__classdict__" : Str)) = false := by decide) :
    PS X (.Try body [.ExceptHandler (some (.Name x np)) (some n) [.Assign [.Name y py] (.Name n pn') pa] pos'] [] [] pos) (fun Dn σ H => tb (wKeep X.K c i iy Wout Dn) Dn σ H) := by
  refine ⟨fun pins s σ H Dn I h => ?_⟩
  have ok := I.ok
  have hfr : X.A.frames = some (X.env :: X.outer) := ok.frames.trans (by rw [hs])
  let hand : List ExceptHandler := [.ExceptHandler (some (.Name x np)) (some n) [.Assign [.Name y py] (.Name n pn') pa] pos']
  let M := model X.prog X.w
  refine wpAny_Try_except ?_
  let xe : Value → Shared → Prop := fun e s1 => wpAny M X.A (noteFrame e X.env) (fun _ s2 => wpAny M X.A (setFlight e none) (fun _ s3 => wpAny M X.A (handleBy e X.env hand) (SP X pins Dn) X.xe s3) X.xe s2) X.xe s1
  have tk' : Takes (X.tr (X.pn ++ pins) xe) (wKeep X.K c i iy Wout Dn) := fun u s' xx => by
    obtain ⟨a, B, sI, pins', σ', H', cls, d, rfl, J', nb, up, sky, na, os, ag, b, hb1, hyes, hno⟩ := xx
    have J : Inv X pins σ' H' sI := J'.ofTry ok
    have sky' : Sky B (X.env :: X.outer) a (Zc cls d) X.env.locals s'.heap := hs ▸ sky
    show wpAny M X.A (noteFrame (.ref a) X.env) _ _ _
    refine Sky.land Zc.steady hfr hf sky' fun h3 fl3 up3 => ?_
    have J3 : Inv X pins σ' H' { s' with heap := h3 } := J.landed nb fl3.1 (up.trans up3) os ag
    obtain ⟨oe3, vs3, he3, hz3, hd3⟩ := fl3.there
    have nfr : a ∉ frs (X.env :: X.outer) := fun hm => by
      obtain ⟨_, o', e', hnf⟩ := fl3.2.2.1.mem hm
      have z : oe3 = o' := Option.some.inj (he3.symm.trans e')
      exact hnf _ (by rw [← z]; exact hd3)
    have nL : a ≠ X.env.locals := fun z => nfr (List.mem_filterMap.mpr ⟨X.env, List.mem_cons_self, by rw [z]; exact hf⟩)
    have nF : a ∉ X.fs := fun hm => nfr (by
      unfold frs
      rw [List.filterMap_cons, hf]
      exact List.mem_cons_of_mem _ hm)
    -- the exception is new
    have nI : sI.heap.get? a = none := by
      cases q : sI.heap.get? a with
      | none => rfl
      | some o =>
        have z := nb a o q (by rw [hs]; exact nfr)
        rw [fl3.2.1] at z
        cases z
    have n0 : X.s_0.heap.get? a = none := by
      cases q : X.s_0.heap.get? a with
      | none => rfl
      | some o =>
        obtain ⟨o', z⟩ := J.base.there a o q (by rw [hex]; exact fun z => nomatch z)
        rw [nI] at z
        cases z
    have nC : ∀ z k, X.env.cells.lookup z = some k → k ≠ a := fun z k e q => by
      obtain ⟨v, o, ho, _⟩ := J.cell z k e
      rw [q, nI] at ho
      cases ho
    have nP : ∀ p ∈ X.pn ++ pins, p.1 ≠ a := fun p hp q => by
      have z := (J.pin p hp).1
      rw [q, nI] at z
      cases z
    have S3 := J3.suite he3 hd3 na nL nF
    refine wpAny_handleBy_cons (codeAny_handlers_test ?_) (by intro q; cases q)
    have LT : PySem.W.Looks M h3 (typeOf (.ref a)) cls := fun A Q E s k q => wpAny_typeOf_ref (k _ _ he3) (by rw [hz3.1]; exact q)
    have LM := PySem.W.exm_one (M := M) (J3.kIn) LT hb1
    have test : ∀ {Q E : Value → Shared → Prop}, Q c { s' with heap := h3 } → wpAny M (X.A.mark (some (.ref a))) (eval (.Name x np) X.env) Q E { s' with heap := h3 } := fun {Q E} q => by
      obtain ⟨hg, hdbg, hm⟩ := hc
      rcases hm with hm | ⟨hm, hv, hnn⟩
      · exact ld_glob (X := X.suite a ((a, oe3) :: (X.pn ++ pins))) S3 hg hm q hdbg
      · exact ld_blt (X := X.suite a ((a, oe3) :: (X.pn ++ pins))) S3 hg hm hv q hnn hdbg
    refine test (LM.here ?_)
    cases b with
    | true =>
      obtain ⟨C, rfl, hgo⟩ := hyes rfl
      refine codeAny_handlers_suite_as (HandSPX.lands_againZ fl3 fun h4 fl4 up4 => ?_)
      have J4 : Inv X pins σ' H' { s' with heap := h4 } := J.landed nb fl4.1 ((up.trans up3).trans up4) os ag
      obtain ⟨oe4, vs4, he4, hz4, hd4⟩ := fl4.there
      have S4 := J4.suite he4 hd4 na nL nF
      refine store_ok (X := X.suite a ((a, oe4) :: (X.pn ++ pins))) (v := .ref a) S4 hN hi (.inl hln) rfl (fun s5 S5 => ?_) (.inr hln)
      have il : i < σ'.length := by
        rw [J.len]
        exact (List.getElem?_eq_some_iff.mp hi).1
      have run := (pss_one (ps_set (X := X.suite a ((a, oe4) :: (X.pn ++ pins))) (pos := pa) (pos' := py) hN hiy (.inl hly) (pe_var (pos := pn') hi (.inl hln) hd hcd) hsw (.inr hly))).run [] s5 _ H' { nx := fun σ6 H6 => σ6 = (σ'.set i (some (.ref a))).set iy (some (.ref a)) ∧ H6 = H', rt := fun _ _ => False } S5
        ⟨.ref a, List.getElem?_set_self il, rfl, rfl⟩
      refine wpAny_mono run (fun f s6 hsp => ?_) (fun _ _ z => False.elim z)
      cases f with
      | next =>
        obtain ⟨σ6, H6, S6, e1, e2⟩ := hsp
        subst e1 e2
        have p6 := S6.pin (a, oe4) (List.mem_append_left _ List.mem_cons_self)
        have J6 : Inv X (pins ++ [(a, oe4)]) ((σ'.set i (some (.ref a))).set iy (some (.ref a))) H6 s6 :=
          ⟨ok, S6.os, S6.bare, S6.base, S6.loc, S6.cell, S6.free, S6.freeC, fun p hp => S6.pin p (List.mem_append_left _ (by
            rw [← List.append_assoc] at hp
            rcases List.mem_append.mp hp with z | z
            · exact List.mem_cons_of_mem _ z
            · rw [List.mem_singleton.mp z]
              exact List.mem_cons_self)), S6.hok, S6.len⟩
        refine gone_ok J6 hN hi hln fun s7 J7 => ?_
        have p7 := J7.pin (a, oe4) (List.mem_append_right _ (List.mem_append_right _ List.mem_cons_self))
        have J8 : Inv X pins (((σ'.set i (some (.ref a))).set iy (some (.ref a))).set i none) H6 s7 :=
          ⟨ok, J7.os, J7.bare, J7.base, J7.loc, J7.cell, J7.free, J7.freeC, fun p hp => J7.pin p (by
            rw [← List.append_assoc]
            exact List.mem_append_left _ hp), J7.hok, J7.len⟩
        exact ⟨_, _, inv_track (u := ExD C d a) J8 n0 na nL nC nP ⟨⟨oe4, vs4, p7.1, hz4, hd4⟩, ⟨oe4, p7.1⟩, fun _ _ ⟨o, v, q, r⟩ k => ⟨o, v, k o q, r⟩⟩, hgo a na⟩
      | brk =>
        obtain ⟨_, _, _, z⟩ := hsp
        exact z.elim
      | cont =>
        obtain ⟨_, _, _, z⟩ := hsp
        exact z.elim
      | ret u =>
        obtain ⟨_, _, _, _, _, z⟩ := hsp
        exact z.elim
    | false =>
      show wpAny _ X.A (handleBy (.ref a) X.env []) _ _ _
      refine wpAny_handleBy_nil ?_
      obtain ⟨k1, k2, k3, oe, vs, T, oT, ts', he, hz, hd, h1, hr⟩ := id fl3
      unfold PySem.passOn
      refine wpAny_bind (wpAny_field he hd h1 ?_)
      rw [if_neg (by simp : ¬ ((Value.ref T == Value.none) = true))]
      have fin : wpAny M X.A (setFlight (.ref a) X.env.frame) (fun _ s4 => wpAny M X.A (throw (.ref a) : Sem Flow) (SP X pins Dn) X.xe s4) X.xe { s' with heap := h3 } := by
        rw [hf]
        refine HandSPX.setFlight_upZ fl3 fun h4 hh4 up4 => wpAny_throw (tk _ _ ?_)
        exact ⟨a, B, sI, pins, σ', H', cls, d, rfl, J, nb, (up.trans up3).trans up4, .inr (.inr (hs ▸ hh4)), na, os, ag, hno rfl⟩
      first
        | exact wpAny_bind (wpAny_pure (wpAny_bind fin))
        | exact wpAny_bind fin
  refine wpAny_mono ((hb _ (X.pn ++ pins) xe tk' PassesOwn.looking).run [] s σ H Dn (I.toTry _) h) (fun f s1 hsp => ?_) (fun e s1 he => he)
  cases f with
  | next =>
    obtain ⟨σ', H', J', q⟩ := hsp
    exact wpAny_execs_nil ⟨σ', H', J'.ofTry ok, q⟩
  | brk =>
    obtain ⟨σ', H', J', q⟩ := hsp
    exact ⟨σ', H', J'.ofTry ok, q⟩
  | cont =>
    obtain ⟨σ', H', J', q⟩ := hsp
    exact ⟨σ', H', J'.ofTry ok, q⟩
  | ret u =>
    obtain ⟨v, σ', H', J', r, q⟩ := hsp
    exact ⟨v, σ', H', J'.ofTry ok, r, q⟩
end
section
variable {X : Cx} {W : WX} {ρ ρ1 : List S} {pos : Pos}
/-- raise x('m') of an own class -/
theorem ds_raise {x m : Str} {C : Addr} {k j : Nat} {p p2 p3 : Pos} (c : Cz X W k) (q : PySem.W.excIn X.K C [.type "ValueError", .type "Exception", .type "BaseException", .type "object"] "ValueError.__new__" = true) (gC : X.mg x = some (.ref C)) (kC : PySem.W.keepIn X.K (.ref C) = true)
    (b1 : PySem.W.subIn X.K (.ref C) (.type "BaseException") = some true) (t1 : PySem.W.typeIn X.K (.ref C) = some (.type "type")) (hg : Gl X x) (hdb : (x == ("__debug__" : Str)) = false := by decide) :
    DS X W (.Raise (some (.Call (.Name x p) [.Constant (.str m) j p2] [] p3)) none pos) ρ (.exc C ρ) :=
  fun w σ I H Dn ev pp => wpS_of (ps_raise c.calm c.tk (pmk_own PySem.F.excBase_ValueError q gC kC (raises_own b1 t1) hg hdb)) (pp σ I H (Same.refl I) ev)
/-- try: body / except x as n: y = n -/
theorem ds_try {x n y : Str} {cv : Value} {i iy k : Nat} {body : List Stmt} {np pos' py pn' pa : Pos} {o1 o : Oc} (c : Cz X W k) (hs : X.stack = X.env :: X.outer) (hf : X.env.frame = some X.env.locals) (hex : X.ex = [])
    (hi : X.N[i]? = some n) (hln : X.env.kindOf n = some .local) (hiy : X.N[iy]? = some y) (hly : X.env.kindOf y = some .local) (hne : i ≠ iy) (hc : Names X x cv)
    (hb : ∀ (W' : WX) (pn : List (Addr × Obj)) (xe : Value → Shared → Prop), Takes (X.tr pn xe) W' → PassesOwn (model X.prog X.w) X.A X.env xe → DSs (X.tr pn xe) W' body ρ o1)
    (ho : match o1 with
      | .exc x ρ1 => (PySem.W.exmOne X.K (.ref x.cls) cv = some true ∧ o = .next (((ρ1.set i .no).set iy (.v x.dat)).set i .no)) ∨ (PySem.W.exmOne X.K (.ref x.cls) cv = some false ∧ o = .exc x ρ1)
      | o1 => o = o1)
    (hsw : swapsWith (.Name n pn') (some (.Name y py)) pa.line X.env = pure false := by rfl) (hd : (n == ("__debug__" : Str)) = false := by decide) (hcd : (n == ("__classdict__" : Str)) = false := by decide) :
    DS X W (.Try body [.ExceptHandler (some (.Name x np)) (some n) [.Assign [.Name y py] (.Name n pn') pa] pos'] [] [] pos) ρ o := fun w σ I H Dn ev p => by
  refine wpS_of (ps_try_keep (tb := fun W' => fun Dn σ H => ∀ pn xe, Takes (X.tr pn xe) W' → PassesOwn (model X.prog X.w) X.A X.env xe → wpSs (X.tr pn xe) body Dn σ H) hs hf hex c.nd hi hln hiy hly hne hc c.tk (fun W' pn xe tk po => ⟨fun pins s σ H Dn I h => (h pn xe tk po).run pins s I⟩) hsw hd hcd) ?_
  intro pn xe tk po
  refine hb _ pn xe tk po w σ I H Dn ev ?_
  cases o1 with
  | next ρ' => cases ho; exact p
  | brk ρ' => cases ho; exact p
  | cont ρ' => cases ho; exact p
  | ret d ρ' => cases ho; exact p
  | rown d ρ' => cases ho; exact p
  | exc x ρ' =>
    intro σ' I' H' s' e'
    cases x with
    | p C =>
      rcases ho with ⟨h1, rfl⟩ | ⟨h1, rfl⟩
      · refine ⟨true, h1, fun _ => ⟨C, rfl, fun a ha => ?_⟩, fun z => nomatch z⟩
        have e2 := e'.still (o := ExH C a) ha
        have sm : Same I' (upd I' a (ExH C a)) := same_upd (e'.fresh ha).2
        have e3 := e2.set_no (i := i) (x := some (.ref a))
        exact p _ (upd I' a (ExH C a)) _ (s'.trans sm) ((e3.setV (i := iy) (.exc upd_same)).wipe1)
      · exact ⟨false, h1, fun z => (nomatch z), fun _ => p σ' I' H' s' e'⟩
    | f C ns ds =>
      intro dd vs g1 g2 g3
      rcases ho with ⟨h1, rfl⟩ | ⟨h1, rfl⟩
      · refine ⟨true, h1, fun _ => ⟨C, rfl, fun a ha => ?_⟩, fun z => nomatch z⟩
        have e2 := e'.still (o := ExF C dd a) ha
        have sm : Same I' (upd I' a (ExF C dd a)) := same_upd (e'.fresh ha).2
        have e3 := e2.set_no (i := i) (x := some (.ref a))
        exact p _ (upd I' a (ExF C dd a)) _ (s'.trans sm) ((e3.setV (i := iy) (.xf upd_same (sm _ _ g1) g2 (g3.up sm))).wipe1)
      · exact ⟨false, h1, fun z => (nomatch z), fun _ => p σ' I' H' s' e' dd vs g1 g2 g3⟩
end
end Dt


set_option Elab.async false
set_option linter.all false
set_option maxRecDepth 100000
set_option maxHeartbeats 1000000
namespace Dt
open PySem PySem.Spec PyProof.Rows L2

/-! ### == at any depth -/
mutual
def toPy : D → PyData
  | .non => .none
  | .bl b => .bool b
  | .int i => .int i
  | .str x => .str x
  | .lst xs => .list (toPyL xs)
  | .tup xs => .tuple (toPyL xs)
  | _ => .none
def toPyL : List D → List PyData
  | [] => []
  | d :: r => toPy d :: toPyL r
end
mutual
def plain : D → Bool
  | .lst xs => plainL xs
  | .tup xs => plainL xs
  | .non => true
  | .bl _ => true
  | .int _ => true
  | .str _ => true
  | _ => false
def plainL : List D → Bool
  | [] => true
  | d :: r => plain d && plainL r
end
section
variable {K : PySem.W.Frag} {H : Hp}
mutual
theorem rp_dp : ∀ (d : D) (v : V), plain d = true → Rp K H v d → Dp K H v (toPy d)
  | .non, _, _, h => by cases h; exact .non
  | .bl b, _, _, h => by cases h; exact .bl b
  | .int i, _, _, h => by cases h; exact .int i
  | .str x, _, _, h => by cases h; exact .str x
  | .lst ds, _, p, h => by
    cases h with
    | lst h1 h2 => exact .lst (.of h1) (rp_dps ds _ p h2)
  | .tup ds, _, p, h => by
    cases h with
    | tup h1 h2 => exact .tup h1 (rp_dps ds _ p h2)
  | .exc _, _, p, _ => by cases p
  | .scr _, _, p, _ => by cases p
theorem rp_dps : ∀ (ds : List D) (vs : List V), plainL ds = true → RpAll K H vs ds → DpAll K H vs (toPyL ds)
  | [], _, _, h => by cases h; exact .nil
  | d :: ds, _, p, h => by
    cases h with
    | cons h1 h2 =>
      have p : (plain d && plainL ds) = true := p
      rw [Bool.and_eq_true] at p
      exact .cons (rp_dp d _ p.1 h1) (rp_dps ds _ p.2 h2)
end
end
section
variable {X : Cx} {W : WX} {ρ ρ1 ρ2 ρ3 : List S} {pos : Pos} {a b c e : Expr} {es : List Expr} {d d1 d2 : D} {ds : List D} {k : Nat}
def eqD (d1 d2 : D) : Bool := PyData.eqv (toPy d1) (toPy d2)
def okD (d : D) : Bool := plain d && SeqAt.shaped (toPy d)
theorem okD_p {d : D} (h : okD d = true) : plain d = true ∧ SeqAt.shaped (toPy d) = true := by
  unfold okD at h
  rwa [Bool.and_eq_true] at h
theorem de_eqD (cz : Cz X W k) (h1 : okD d1 = true) (h2 : okD d2 = true) (ha : DE X W a ρ (.val d1 ρ1)) (hb : DE X W b ρ1 (.val d2 ρ2)) : DE X W (.Compare a [.Eq] [b] pos) ρ (.val (.bl (eqD d1 d2)) ρ2) :=
  de2 (pe_cmpR (op_eqD cz.rm.units) pe_wp pe_wp (nomark _)) ha hb fun I H v1 v2 Q s r1 r2 q => ⟨_, _, rp_dp _ _ (okD_p h1).1 (r1.up s), rp_dp _ _ (okD_p h2).1 (r2.up s), (okD_p h1).2, (okD_p h2).2, q _ (.bl _)⟩
theorem dt_eqD (cz : Cz X W k) (h1 : okD d1 = true) (h2 : okD d2 = true) (ha : DE X W a ρ (.val d1 ρ1)) (hb : DE X W b ρ1 (.val d2 ρ2)) : DT X W (.Compare a [.Eq] [b] pos) ρ (eqD d1 d2) ρ2 :=
  dt2 (pt_cmpR (op_eqD cz.rm.units) pe_wp pe_wp (nomark _)) ha hb fun I H v1 v2 Q s r1 r2 q => ⟨_, _, rp_dp _ _ (okD_p h1).1 (r1.up s), rp_dp _ _ (okD_p h2).1 (r2.up s), (okD_p h1).2, (okD_p h2).2, q _ (.bl _)⟩
theorem dt_neD (cz : Cz X W k) (h1 : okD d1 = true) (h2 : okD d2 = true) (ha : DE X W a ρ (.val d1 ρ1)) (hb : DE X W b ρ1 (.val d2 ρ2)) : DT X W (.Compare a [.NotEq] [b] pos) ρ (!eqD d1 d2) ρ2 :=
  dt2 (pt_cmpR (op_neD cz.rm.units) pe_wp pe_wp (nomark _)) ha hb fun I H v1 v2 Q s r1 r2 q => ⟨_, _, rp_dp _ _ (okD_p h1).1 (r1.up s), rp_dp _ _ (okD_p h2).1 (r2.up s), (okD_p h1).2, (okD_p h2).2, q _ (.bl _)⟩
/-- bools compared -/
theorem dt_neB {i j : Bool} (ha : DE X W a ρ (.val (.bl i) ρ1)) (hb : DE X W b ρ1 (.val (.bl j) ρ2)) : DT X W (.Compare a [.NotEq] [b] pos) ρ (!decide (i = j)) ρ2 :=
  dt2 (pt_cmpR op_ne pe_wp pe_wp (nomark _)) ha hb fun I H v1 v2 Q s r1 r2 q => by cases r1; cases r2; exact ⟨rfl, by rw [dec_vbl]; exact q _ (.bl _)⟩
theorem de_eqB {i j : Bool} (ha : DE X W a ρ (.val (.bl i) ρ1)) (hb : DE X W b ρ1 (.val (.bl j) ρ2)) : DE X W (.Compare a [.Eq] [b] pos) ρ (.val (.bl (decide (i = j))) ρ2) :=
  de2 (pe_cmpR op_eq pe_wp pe_wp (nomark _)) ha hb fun I H v1 v2 Q s r1 r2 q => by cases r1; cases r2; exact ⟨rfl, by rw [dec_vbl]; exact q _ (.bl _)⟩
/-! ### lists: +, *, in, count, index -/
theorem de_cat {ds es : List D} (hl : ds.length + es.length ≤ sizeLine) (ha : DE X W a ρ (.val (.lst ds) ρ1)) (hb : DE X W b ρ1 (.val (.lst es) ρ2)) : DE X W (.BinOp a .Add b pos) ρ (.own (.lst (ds ++ es)) ρ2) :=
  de2L (pe_op op_cat pe_wp pe_wp) ha hb fun I H v1 v2 Q s r1 r2 q => by
    obtain ⟨x, xs, rfl, h1, h2⟩ := rpl_tr r1
    obtain ⟨y, ys, rfl, h3, h4⟩ := rpl_tr r2
    exact ⟨x, y, xs, ys, rfl, rfl, s _ _ h1, s _ _ h3, by rw [h2.length, h4.length]; exact hl, fun p hp => q p _ hp (h2.append h4)⟩
theorem RpAll.rep {K : PySem.W.Frag} {I : Hp} {vs : List V} {ds : List D} (h : RpAll K I vs ds) : ∀ n : Nat, RpAll K I (List.replicate n vs).flatten (List.replicate n ds).flatten
  | 0 => .nil
  | n + 1 => by
    rw [List.replicate_succ, List.replicate_succ, List.flatten_cons, List.flatten_cons]
    exact h.append (h.rep n)
theorem de_rep {i : Int} (h1 : -(2 ^ 63) ≤ i) (h2 : i < 2 ^ 63) (hl : ds.length * i.toNat ≤ sizeLine) (ha : DE X W a ρ (.val (.lst ds) ρ1)) (hb : DE X W b ρ1 (.val (.int i) ρ2)) : DE X W (.BinOp a .Mult b pos) ρ (.own (.lst (List.replicate i.toNat ds).flatten) ρ2) :=
  de2L (pe_op op_rep pe_wp pe_wp) ha hb fun I H v1 v2 Q s r1 r2 q => by
    obtain ⟨x, xs, rfl, g1, g2⟩ := rpl_tr r1
    cases r2
    exact ⟨x, i, xs, rfl, rfl, s _ _ g1, h1, h2, by rw [g2.length]; exact hl, fun p hp => q p _ hp (g2.rep _)⟩
theorem str_ext {x y : Str} (h : x.cps.toList = y.cps.toList) : x = y := Str.ext' (Array.toList_inj.mp h)
/-- a text times a number -/
def repS (z : Str) (n : Nat) : Str := ⟨(List.replicate n z.cps.toList).flatten.toArray⟩
theorem fold_app (xs : Array Nat) : ∀ (n : Nat) (acc : Array Nat), ((List.replicate n xs).foldl (· ++ ·) acc).toList = acc.toList ++ (List.replicate n xs.toList).flatten
  | 0, acc => by simp
  | n + 1, acc => by
    rw [List.replicate_succ, List.foldl_cons, fold_app xs n, List.replicate_succ, List.flatten_cons, Array.toList_append, List.append_assoc]
theorem op_mulS : OpR X (binaryOp .Mult) (fun x y H Q => ∃ (z : Str) (n : Nat), x = .str z ∧ y = .int (n : Int) ∧ z.length * n ≤ 1000000 ∧ n ≤ 1000000 ∧ Q (.str (repS z n)) H) := by
  intro pins s σ H x y v u Q I rx ry h
  obtain ⟨z, n, rfl, rfl, h1, h2, q⟩ := h
  obtain ⟨t, rfl⟩ := rx
  obtain ⟨t', rfl⟩ := ry
  have hs : sizeLine = 16777216 := sizeLine_eq
  refine PySem.P.mul_str ?_ (fun h3 h4 => ?_) (fun h3 h4 => ?_) ?_
  · have g1 : ¬ ((n : Int) < -(2 ^ 63 : Int)) := by omega
    have g2 : ¬ ((n : Int) ≥ 2 ^ 63) := by omega
    rw [decide_eq_false g1, decide_eq_false g2]
    rfl
  · have g3 : (1000000 : Int) ≤ (2 ^ 63 - 1) / (n : Int) := by
      rw [Int.le_ediv_iff_mul_le (by omega)]
      omega
    have g5 : z.length ≤ 1000000 := by
      have : z.length * 1 ≤ z.length * n := Nat.mul_le_mul_left _ (by omega)
      omega
    omega
  · show decide (z.length * (n : Int).toNat > sizeLine) = false
    refine decide_eq_false ?_
    rw [Int.toNat_natCast]
    omega
  · have len : (repS z n).length = z.length * n := by
      show ((List.replicate n z.cps.toList).flatten.toArray).size = z.cps.size * n
      rw [List.size_toArray, PyProof.Rows.lm_len_rep_flat, Array.length_toList, Nat.mul_comm]
    have fin : ∀ (u : Str) (tk : Tok) (k' : Nat), u = repS z n → EP X pins σ Q (.str u tk) { s with toks := k' } := fun u tk k' e => ⟨.str u, H, I.tok _, ⟨tk, rfl⟩, by rw [e]; exact q⟩
    by_cases h0 : (n : Int) < 1
    · rw [if_pos h0]
      have n0 : n = 0 := by omega
      subst n0
      exact ⟨by decide, fin _ _ _ rfl⟩
    · rw [if_neg h0]
      by_cases h5 : ((n : Int) == 1 || z.length == 0) = true
      · rw [if_pos h5]
        refine fin _ _ s.toks (str_ext ?_)
        show z.cps.toList = (List.replicate n z.cps.toList).flatten
        rw [Bool.or_eq_true, beq_iff_eq, beq_iff_eq] at h5
        rcases h5 with h5 | h5
        · have : n = 1 := by omega
          subst this
          simp
        · have : z.cps.toList = [] := List.length_eq_zero_iff.mp (by rw [Array.length_toList]; exact h5)
          rw [this]
          simp
      · rw [if_neg h5]
        have e : (⟨(List.replicate (n : Int).toNat z.cps).foldl (· ++ ·) #[]⟩ : Str) = repS z n := str_ext (by
          show ((List.replicate (n : Int).toNat z.cps).foldl (· ++ ·) #[]).toList = (List.replicate n z.cps.toList).flatten
          rw [fold_app, Int.toNat_natCast]
          rfl)
        rw [e]
        exact ⟨by rw [len]; omega, fin _ _ _ rfl⟩
theorem de_mulS {z : Str} {n : Nat} (h1 : z.length * n ≤ 1000000) (h2 : n ≤ 1000000) (ha : DE X W a ρ (.val (.str z) ρ1)) (hb : DE X W b ρ1 (.val (.int (n : Int)) ρ2)) : DE X W (.BinOp a .Mult b pos) ρ (.val (.str (repS z n)) ρ2) :=
  de2 (pe_op op_mulS pe_wp pe_wp) ha hb fun I H v1 v2 Q s r1 r2 q => by cases r1; cases r2; exact ⟨z, n, rfl, rfl, h1, h2, q _ (.str _)⟩
/-! ### in -/
def flatD : D → Bool
  | .non | .bl _ | .int _ | .str _ => true
  | _ => false
def eqF (x y : D) : Bool := PyData.eqv (toPy x) (toPy y)
theorem rp_flat {K : PySem.W.Frag} {I : Hp} {v : V} {d : D} (h : Rp K I v d) (f : flatD d = true) : flatV v = true := by cases h <;> first | rfl | exact absurd f Bool.false_ne_true
theorem rp_eqV {K : PySem.W.Frag} {I : Hp} {v u : V} {d e : D} (h : Rp K I v d) (h' : Rp K I u e) (f : flatD d = true) (f' : flatD e = true) : eqV v u = eqF d e := by
  cases h <;> first | exact absurd f Bool.false_ne_true | skip
  all_goals (cases h' <;> first | exact absurd f' Bool.false_ne_true | rfl | (simp only [eqF, toPy, PyData.eqv, eqV]))
theorem rp_flats {K : PySem.W.Frag} {I : Hp} : ∀ {vs : List V} {ds : List D}, RpAll K I vs ds → ds.all flatD = true → vs.all flatV = true
  | _, _, .nil, _ => rfl
  | _, _, .cons r t, f => by
    rw [List.all_cons, Bool.and_eq_true] at f ⊢
    exact ⟨rp_flat r f.1, rp_flats t f.2⟩
def inF (x : D) (ds : List D) : Bool := ds.any fun y => eqF y x
theorem rp_inV {K : PySem.W.Frag} {I : Hp} {v : V} {d : D} (h : Rp K I v d) (f : flatD d = true) : ∀ {vs : List V} {ds : List D}, RpAll K I vs ds → ds.all flatD = true → inV v vs = inF d ds
  | _, _, .nil, _ => rfl
  | _, _, .cons r t, g => by
    rw [List.all_cons, Bool.and_eq_true] at g
    have ih := rp_inV h f t g.2
    unfold inV inF at ih ⊢
    rw [List.any_cons, List.any_cons, ih, rp_eqV r h g.1 f]
theorem dt_inL (h1 : flatD d = true) (h2 : ds.all flatD = true) (ha : DE X W a ρ (.val d ρ1)) (hb : DE X W b ρ1 (.val (.lst ds) ρ2)) (hm : behindInMarks .In b = false := by rfl) : DT X W (.Compare a [.In] [b] pos) ρ (inF d ds) ρ2 :=
  dt2 (pt_cmpR op_in_seq pe_wp pe_wp hm) ha hb fun I H v1 v2 Q s r1 r2 q => by
    obtain ⟨x, xs, rfl, g1, g2⟩ := rpl_tr r2
    refine ⟨x, xs, rfl, .inl (.of (s _ _ g1)), rp_flat r1 h1, rp_flats g2 h2, ?_⟩
    rw [if_neg Bool.false_ne_true, rp_inV r1 h1 g2 h2]
    exact q _ (.bl _)
theorem dt_notInL (h1 : flatD d = true) (h2 : ds.all flatD = true) (ha : DE X W a ρ (.val d ρ1)) (hb : DE X W b ρ1 (.val (.lst ds) ρ2)) (hm : behindInMarks .NotIn b = false := by rfl) : DT X W (.Compare a [.NotIn] [b] pos) ρ (!inF d ds) ρ2 :=
  dt2 (pt_cmpR op_notIn_seq pe_wp pe_wp hm) ha hb fun I H v1 v2 Q s r1 r2 q => by
    obtain ⟨x, xs, rfl, g1, g2⟩ := rpl_tr r2
    refine ⟨x, xs, rfl, .inl (.of (s _ _ g1)), rp_flat r1 h1, rp_flats g2 h2, ?_⟩
    rw [if_pos rfl, rp_inV r1 h1 g2 h2]
    exact q _ (.bl _)
theorem dt_inT (h1 : flatD d = true) (h2 : ds.all flatD = true) (ha : DE X W a ρ (.val d ρ1)) (hb : DE X W b ρ1 (.val (.tup ds) ρ2)) (hm : behindInMarks .In b = false := by rfl) : DT X W (.Compare a [.In] [b] pos) ρ (inF d ds) ρ2 :=
  dt2 (pt_cmpR op_in_seq pe_wp pe_wp hm) ha hb fun I H v1 v2 Q s r1 r2 q => by
    obtain ⟨x, xs, rfl, g1, g2⟩ := rpt_of r2
    refine ⟨x, xs, rfl, .inr (same_t s g1), rp_flat r1 h1, rp_flats g2 h2, ?_⟩
    rw [if_neg Bool.false_ne_true, rp_inV r1 h1 g2 h2]
    exact q _ (.bl _)
/-! ### list methods that only read -/
def rCntF (K : PySem.W.Frag) : V → List V → Hp → VK → Prop := fun x xs H Q => ∃ (p : Addr) (ys : List V) (y : V), x = .ref p ∧ xs = [y] ∧ SqL K H p ys ∧ flatV y = true ∧ ys.all flatV = true ∧ Q (.int ((ys.countP fun z => eqV z y : Nat) : Int)) H
theorem cnt_of {y : V} : ∀ {ys : List V} {us : List Value}, Vals ys us → ys.all flatV = true → us.countP (eqU y) = ys.countP fun z => eqV z y
  | _, _, .nil, _ => rfl
  | _, _, .cons r t, f => by
    rw [List.all_cons, Bool.and_eq_true] at f
    rw [List.countP_cons, List.countP_cons, cnt_of t f.2, eqU_of r f.1]
theorem mt_cntF : MtR X "list.count" (rCntF X.K) := by
  intro pins s σ H x xs v us Q I rx rxs h
  obtain ⟨p, ys, y, rfl, rfl, hs, f1, f2, q⟩ := h
  cases rx
  obtain ⟨u, rfl, ru⟩ := rxs.one
  obtain ⟨its, rv, ⟨⟨cls, dd, data, sl⟩, n, ho, hc, hdn, hd⟩, hlen⟩ := I.list hs
  simp only at hc hd
  subst hc hd
  refine call_meets PySem.F.slot_list_count ⟨_, ho, rfl⟩ PySem.F.entry_list_count (PySem.F.args_list_count_2 _ _)
    (SeqAt.list_countAt p its.toArray n dd sl u (eqU y)) ⟨ho, fun z hz => mem_eqAt ru f1 rv f2 z (by simpa using hz), ?_⟩
  refine ⟨.int _, H, I.tok _, ⟨s.toks, rfl⟩, ?_⟩
  have e : its.toArray.toList.countP (eqU y) = ys.countP fun z => eqV z y := cnt_of rv f2
  rw [e]
  exact q
theorem rp_cnt {K : PySem.W.Frag} {I : Hp} {v : V} {d : D} (h : Rp K I v d) (f : flatD d = true) : ∀ {vs : List V} {ds : List D}, RpAll K I vs ds → ds.all flatD = true → (vs.countP fun z => eqV z v) = ds.countP fun z => eqF z d
  | _, _, .nil, _ => rfl
  | _, _, .cons r t, g => by
    rw [List.all_cons, Bool.and_eq_true] at g
    rw [List.countP_cons, List.countP_cons, rp_cnt h f t g.2, rp_eqV r h g.1 f]
/-- a list's method with one argument -/
theorem de_lm {name : Str} {id : String} {r : V → List V → Hp → VK → Prop} {o : Expr} {apos cpos : Pos} {d1 d2 : D} (slot : Slot "list" name id) (hty : typeOf (.builtin id) = pure (.type "method_descriptor")) (hm : MtR X id r)
    (ho : DB X W o ρ (.lst ds) ρ) (ha : DE X W a ρ (.val d1 ρ)) (hp : ∀ (H : Hp) (v u : V) (Q : VK), Rp X.K H v (.lst ds) → Rp X.K H u d1 → (∀ z, (∀ I, Rp X.K I z d2) → Q z H) → r v [u] H Q)
    (hpure : ∀ w σ I H (Q : VK), Ev X.K w I H σ ρ → (∀ v, Rp X.K H v d1 → Q v H) → wpE X a σ H Q)
    (hbase : attributeBase o name X.env (eval o X.env) = eval o X.env := by rfl)
    (hfew : ((backTo cpos (starEach [a] X.env)).all (fun x => !x.1) && (backToKw cpos (keywordEach [] X.env)).all (fun x => x.1.isSome)
      && decide (([a] : List Expr).length + ([] : List Keyword).length + (if ([] : List Keyword).isEmpty then 0 else 1) < 30)) = true := by rfl)
    (hline : (apos.endLine == cpos.line) = true := by rfl) (hs : starEach [a] X.env = (false, eval a X.env) :: starEach [] X.env := by exact Dt.star_cons rfl) :
    DE X W (.Call (.Attribute o name apos) [a] [] cpos) ρ (.val d2 ρ) :=
  fun w σ I H Q ev p => wpE_of (pe_bm PySem.F.plainAttrs_list slot hty hm pe_wp (pa_cons pe_wp pa_nil hs) hbase hfew hline hs rfl) (ho w σ I H _ ev fun v I1 H1 s1 e1 r1 => by
    obtain ⟨x, xs, rfl, g1, g2⟩ := rpl_tr r1
    exact ⟨.inl ⟨rfl, xs, .of g1⟩, hpure w σ I1 H1 _ e1 fun u ru => hp H1 _ u Q r1 ru fun z rz => p z I1 H1 s1 e1 (rz I1)⟩)
theorem pure_bl {k' : Bool} {j : Nat} {p : Pos} : ∀ w σ I H (Q : VK), Ev X.K w I H σ ρ → (∀ v, Rp X.K H v (.bl k') → Q v H) → wpE X (.Constant (.bool k') j p) σ H Q := fun w σ I H Q e q => wpE_of pe_bl (q _ (.bl k'))
theorem de_cntB {o : Expr} {apos cpos p : Pos} {k' : Bool} {j : Nat} (hf : ds.all flatD = true) (ho : DB X W o ρ (.lst ds) ρ) (hbase : attributeBase o "count" X.env (eval o X.env) = eval o X.env := by rfl) (hline : (apos.endLine == cpos.line) = true := by rfl) :
    DE X W (.Call (.Attribute o "count" apos) [.Constant (.bool k') j p] [] cpos) ρ (.val (.int ((ds.countP fun z => eqF z (.bl k') : Nat) : Int)) ρ) :=
  de_lm (d1 := .bl k') PySem.F.slot_list_count PySem.F.type_list_count mt_cntF ho de_bl (fun H v u Q r1 r2 q => by
    obtain ⟨x, xs, rfl, g1, g2⟩ := rpl_tr r1
    refine ⟨x, xs, u, rfl, rfl, .of g1, rp_flat r2 rfl, rp_flats g2 hf, ?_⟩
    rw [rp_cnt r2 rfl g2 hf]
    exact q _ fun I => .int _) pure_bl hbase rfl hline rfl
theorem de_idxB {o : Expr} {apos cpos p : Pos} {k' : Bool} {j n : Nat} (hf : ds.all flatD = true) (hn : (ds.findIdx? fun z => eqF z (.bl k')) = some n) (ho : DB X W o ρ (.lst ds) ρ) (hbase : attributeBase o "index" X.env (eval o X.env) = eval o X.env := by rfl) (hline : (apos.endLine == cpos.line) = true := by rfl) :
    DE X W (.Call (.Attribute o "index" apos) [.Constant (.bool k') j p] [] cpos) ρ (.val (.int (n : Int)) ρ) :=
  de_lm (d1 := .bl k') PySem.F.slot_list_index PySem.F.type_list_index mt_index ho de_bl (fun H v u Q r1 r2 q => by
    obtain ⟨x, xs, rfl, g1, g2⟩ := rpl_tr r1
    rw [List.findIdx?_eq_some_iff_getElem] at hn
    obtain ⟨hl, h1, h2⟩ := hn
    obtain ⟨z, hz, rz⟩ := g2.get (List.getElem?_eq_getElem hl)
    have fz : flatD ds[n] = true := List.all_eq_true.mp hf _ (List.getElem_mem hl)
    refine ⟨x, xs, u, n, z, rfl, rfl, .of g1, rp_flat r2 rfl, rp_flats g2 hf, hz, by rw [rp_eqV rz r2 fz rfl]; exact h1, fun m z' hm hz' => ?_, q _ fun I => .int _⟩
    obtain ⟨d', hd', rd'⟩ := g2.getV hz'
    obtain ⟨hl', e'⟩ := List.getElem?_eq_some_iff.mp hd'
    have fz' : flatD d' = true := List.all_eq_true.mp hf _ (List.mem_of_getElem? hd')
    rw [rp_eqV rd' r2 fz' rfl]
    have := h2 m hm
    rw [e'] at this
    simpa using this) pure_bl hbase rfl hline rfl
end
end Dt


set_option Elab.async false
set_option linter.all false
set_option maxRecDepth 100000
set_option maxHeartbeats 1000000
namespace Dt
open PySem PySem.Spec PyProof.Rows L2
section
variable {X : Cx} {W : WX} {ρ ρ1 ρ2 ρ3 : List S} {pos : Pos} {a b c e : Expr} {es : List Expr} {d d1 d2 : D} {ds : List D} {k : Nat}
/-! ### a dict of the module with text keys -/
section
variable {dk : Addr} {ens : Array DictEntry} {n : Nat} {x : Str} {z : Str} {p : Pos}
theorem dt_notInK {r : Option Value} (T : KDict X.K X.w dk ens n) (hg : Gl X x) (hm : X.mg x = some (.ref dk)) (hz : PySem.W.nsIn X.K dk z = some r) (ha : DE X W a ρ (.val (.str z) ρ1)) (hd : (x == ("__debug__" : Str)) = false := by decide) (hb : behindInMarks .NotIn (.Name x p) = false := by rfl) :
    DT X W (.Compare a [.NotIn] [.Name x p] pos) ρ (!r.isSome) ρ1 :=
  fun w σ I H Q ev q => wpT_of (pt_cmpR (op_notIn_kd T) pe_wp (pe_glob (v := .ref dk) hg hm rfl hd) hb) (ha w σ I H _ ev fun v I1 H1 s1 e1 r1 => by
    cases r1
    exact ⟨z, r, rfl, rfl, hz, _, rfl, q I1 H1 s1 e1⟩)
theorem ix_kd (T : KDict X.K X.w dk ens n) : IxR X (fun x y H Q => ∃ (z : Str) (u0 : Value) (v0 : V), x = .ref dk ∧ y = .str z ∧ PySem.W.nsIn X.K dk z = some (some u0) ∧ RelV v0 u0 ∧ Q v0 H) := by
  intro value slice pins s σ H x y v u Q I rx ry h hs
  have rx' := rx
  obtain ⟨z, u0, v0, rfl, rfl, e, r, q⟩ := id h
  cases rx'
  exact tail_any (kd_type T I) PySem.F.slot_dict_getitem.lookup (op_item_kd T pins s σ H _ _ _ _ Q I rx ry h) hs
theorem de_itemK {u0 : Value} {v0 : V} {d0 : D} (T : KDict X.K X.w dk ens n) (hg : Gl X x) (hm : X.mg x = some (.ref dk)) (hz : PySem.W.nsIn X.K dk z = some (some u0)) (hr : RelV v0 u0) (hq : ∀ I, Rp X.K I v0 d0) (ha : DE X W a ρ (.val (.str z) ρ1)) (hs : PlainIx a := by exact fun _ _ => rfl) (hd : (x == ("__debug__" : Str)) = false := by decide) :
    DE X W (.Subscript (.Name x p) a pos) ρ (.val d0 ρ1) :=
  fun w σ I H Q ev q => wpE_of (pe_ix (ix_kd T) (pe_glob (v := .ref dk) hg hm rfl hd) pe_wp hs) (ha w σ I H _ ev fun v I1 H1 s1 e1 r1 => by
    cases r1
    exact ⟨z, u0, v0, rfl, rfl, hz, hr, q v0 I1 H1 s1 e1 (hq I1)⟩)
end
/-! ### isinstance of a caught error -/
theorem call_isH {D0 : Addr} (C : ExcC X.K D0) : CallR X (.builtin "isinstance") (fun xs H Q => ∃ (a : Addr) (c : V) (cv : Value) (b : Bool), xs = [.ref a, c] ∧ H a = some (ExH D0 a) ∧ (∀ u, RelV c u → u = cv) ∧ PySem.W.kitOne X.K (.ref D0) cv = some b ∧ Q (.bl b) H) := by
  intro pins s σ H xs us Q I r h
  obtain ⟨a, c, cv, b, rfl, ha, hcv, e, q⟩ := h
  obtain ⟨u1, u2, rfl, r1, r2⟩ := r.two
  cases r1
  have ec := hcv _ r2
  subst ec
  obtain ⟨⟨oe, vs, hget, hz, hv⟩, _, _⟩ := (I.hok a _ ha : ObjOk X.prog X.w H s.heap a (ExH D0 a))
  have J : PySem.W.InstAt s.heap a oe D0 none := by
    obtain ⟨oc, od, oda, osl⟩ := oe
    obtain ⟨h1, h2⟩ := hz
    dsimp only at h1 h2 hv
    subst h1 h2 hv
    exact ⟨hget, rfl, rfl, trivial⟩
  exact PySem.W.kia_one (PySem.W.handS_kitx_exc C.hg C.hk C.hs C.hd C.ha C.hn C.ht C.hm) I.kIn J e (fun z => nomatch z) fun tk => ⟨.bl b, H, I.kept (t' := tk) fun _ _ z => z, rfl, q⟩
theorem de_isiO {D0 E0 : Addr} {p p2 : Pos} {x : Str} {k' : Bool} (C : ExcC X.K D0) (hk : PySem.W.kitOne X.K (.ref D0) (.ref E0) = some k') (hx : Blt X "isinstance" (.builtin "isinstance")) (hg : Gl X x) (hm : X.mg x = some (.ref E0)) (ha : DE X W a ρ (.val (.exc D0) ρ1))
    (he : starEach [a, .Name x p2] X.env = (false, eval a X.env) :: starEach [.Name x p2] X.env := by exact Dt.star_cons rfl) (hd : (x == ("__debug__" : Str)) = false := by decide) :
    DE X W (.Call (.Name "isinstance" p) [a, .Name x p2] [] pos) ρ (.val (.bl k') ρ1) :=
  fun w σ I H Q ev q => wpE_of (pe_callB (call_isH C) hx.g hx.m hx.v (pa_cons pe_wp (pa_cons (pe_glob (v := .ref E0) hg hm rfl hd) pa_nil) he) hx.n hx.d he)
    (ha w σ I H _ ev fun v I1 H1 s1 e1 r1 => by
      cases r1 with
      | exc h1 => exact ⟨_, .ref E0, .ref E0, k', rfl, e1.sub _ _ h1, fun u z => z, hk, q _ I1 H1 s1 e1 (.bl k')⟩)
theorem de_isiV {D0 : Addr} {p p2 : Pos} {x : Str} {y : String} {k' : Bool} (C : ExcC X.K D0) (hk : PySem.W.kitOne X.K (.ref D0) (.type y) = some k') (hx : Blt X "isinstance" (.builtin "isinstance")) (hy : Blt X x (.type y)) (ha : DE X W a ρ (.val (.exc D0) ρ1))
    (he : starEach [a, .Name x p2] X.env = (false, eval a X.env) :: starEach [.Name x p2] X.env := by exact Dt.star_cons rfl) :
    DE X W (.Call (.Name "isinstance" p) [a, .Name x p2] [] pos) ρ (.val (.bl k') ρ1) :=
  fun w σ I H Q ev q => wpE_of (pe_callB (call_isH C) hx.g hx.m hx.v (pa_cons pe_wp (pa_cons (pe_bltn (v := .ty y) hy.g hy.m hy.v rfl hy.n hy.d) pa_nil) he) hx.n hx.d he)
    (ha w σ I H _ ev fun v I1 H1 s1 e1 r1 => by
      cases r1 with
      | exc h1 => exact ⟨_, .ty y, .type y, k', rfl, e1.sub _ _ h1, fun u z => z, hk, q _ I1 H1 s1 e1 (.bl k')⟩)
/-! ### insert -/
theorem ds_insert {i : Nat} {x : Str} {kk : Option Nat} {n : Nat} {apos cpos npos : Pos} (hi : X.N[i]? = some x) (hv : Vis X.env.scope x) (ha : DE X W a ρ (.val (.int (n : Int)) ρ1)) (hb : DE X W b ρ1 (.val d ρ2)) (hq : ρ2[i]? = some (.own kk (.lst ds))) (hq0 : ∃ k0 ds0, ρ[i]? = some (S.own k0 (.lst ds0))) (hl : ds.length < sizeLine) (hn : n < 2 ^ 63)
    (hd : (x == ("__debug__" : Str)) = false := by decide) (hcd : (x == ("__classdict__" : Str)) = false := by decide)
    (hfew : ((backTo cpos (starEach [a, b] X.env)).all (fun x => !x.1) && (backToKw cpos (keywordEach [] X.env)).all (fun x => x.1.isSome)
      && decide (([a, b] : List Expr).length + ([] : List Keyword).length + (if ([] : List Keyword).isEmpty then 0 else 1) < 30)) = true := by rfl)
    (hline : (apos.endLine == cpos.line) = true := by rfl) (hs : starEach [a, b] X.env = (false, eval a X.env) :: starEach [b] X.env := by exact Dt.star_cons rfl) (hs2 : starEach [b] X.env = (false, eval b X.env) :: starEach [] X.env := by exact Dt.star_cons rfl) (hpl : (backTo cpos (starEach [b] X.env)).any (·.1) = false := by rfl)
    (hsw : swapsWith (.Call (.Attribute (.Name x npos) "insert" apos) [a, b] [] cpos) none pos.line X.env = pure false := by rfl) :
    DS X W (.Expr (.Call (.Attribute (.Name x npos) "insert" apos) [a, b] [] cpos) pos) ρ (.next (ρ2.set i (.own kk (.lst (ds.take n ++ [d] ++ ds.drop n))))) :=
  fun w σ I H Dn ev p => wpS_of (ps_expr (pe_bm PySem.F.plainAttrs_list PySem.F.slot_list_insert PySem.F.type_list_insert mt_insert (pe_var hi hv hd hcd) (pa_cons pe_wp (pa_cons pe_wp pa_nil hs2) hs) rfl hfew hline hs hpl) hsw) (by
    obtain ⟨k0, ds0, hq0⟩ := hq0
    obtain ⟨l, vs, h1, h2, h3, h4, _⟩ := ev.change (es := ds0) hq0
    refine ⟨.ref l, h1, .inl ⟨rfl, vs, .of h2⟩, ha w σ I H _ ev fun v I1 H1 s1 e1 r => hb w σ I1 H1 _ e1 fun u I2 H2 s2 e2 r2 => ?_⟩
    cases r
    obtain ⟨a', vs', g1, g2, g3, g4, g5⟩ := e2.change (es := ds.take n ++ [d] ++ ds.drop n) hq
    rw [h1] at g1
    cases g1
    refine ⟨l, vs', (n : Int), u, rfl, rfl, g2, by rw [g4.length]; exact hl, by omega, by omega, p _ I2 _ (s1.trans s2) (g5 _ ?_)⟩
    rw [Int.toNat_natCast]
    exact ((g4.take n).append (.one r2)).append (g4.drop n))
/-! ### texts -/
/-- x <= y <= z -/
theorem dt_chainS {x y z : Str} {op op' : CmpOp} {k1 k2 : Bool} (h : cmpS op x y = some k1) (h' : cmpS op' y z = some k2) (ha : DE X W a ρ (.val (.str x) ρ)) (hb : DE X W b ρ (.val (.str y) ρ)) (hc : DE X W c ρ (.val (.str z) ρ)) (hm : lastMarks [op, op'] [b, c] = false := by with_unfolding_all rfl) : DT X W (.Compare a [op, op'] [b, c] pos) ρ (k1 && k2) ρ := by
  obtain ⟨r, h1, h2⟩ := cmpS_op (X := X) h
  obtain ⟨r', h1', h2'⟩ := cmpS_op (X := X) h'
  refine fun w σ I H Q e p => wpT_of (pt_chain h1 h1' pe_wp pe_wp pe_wp hm) ?_
  refine ha w σ I H _ e fun v1 I1 H1 s1 e1 r1 => hb w σ I1 H1 _ e1 fun v2 I2 H2 s2 e2 r2 => h2 I2 H2 v1 v2 _ e2.sub (r1.up s2) r2 fun v rv => ?_
  cases rv
  refine ⟨k1, rfl, ?_⟩
  cases k1 with
  | true =>
    refine hc w σ I2 H2 _ e2 fun v3 I3 H3 s3 e3 r3 => h2' I3 H3 v2 v3 _ e3.sub (r2.up s3) r3 fun v rv => ?_
    cases rv
    exact ⟨_, rfl, p I3 H3 ((s1.trans s2).trans s3) e3⟩
  | false => exact ⟨false, rfl, p I2 H2 (s1.trans s2) e2⟩
section
variable {o : Expr} {apos cpos : Pos} {z y : Str}
theorem de_sw3 {i : Int} (ho : DE X W o ρ (.val (.str z) ρ1)) (ha : DE X W a ρ1 (.val (.str y) ρ2)) (hb : DE X W b ρ2 (.val (.int i) ρ3))
    (hbase : attributeBase o "startswith" X.env (eval o X.env) = eval o X.env := by rfl) (hfew : ((backTo cpos (starEach [a, b] X.env)).all (fun x => !x.1) && (backToKw cpos (keywordEach [] X.env)).all (fun x => x.1.isSome)
      && decide (([a, b] : List Expr).length + ([] : List Keyword).length + (if ([] : List Keyword).isEmpty then 0 else 1) < 30)) = true := by rfl)
    (hline : (apos.endLine == cpos.line) = true := by rfl) (hs : starEach [a, b] X.env = (false, eval a X.env) :: starEach [b] X.env := by exact Dt.star_cons rfl) (hs2 : starEach [b] X.env = (false, eval b X.env) :: starEach [] X.env := by exact Dt.star_cons rfl) (hpl : (backTo cpos (starEach [b] X.env)).any (·.1) = false := by rfl) :
    DE X W (.Call (.Attribute o "startswith" apos) [a, b] [] cpos) ρ (.val (.bl (Txt.startswith3 z y i)) ρ3) :=
  de_bm PySem.F.slot_str_startswith PySem.F.type_str_startswith mt_startswith3 ho (dab_of (da_cons ha (da_cons hb da_nil hs2) hs)) (fun H v vs Q r1 r2 q => by
    cases r1
    obtain ⟨v1, v2, rfl, g1, g2⟩ := all2 r2
    cases g1
    cases g2
    exact ⟨z, y, i, rfl, rfl, q _ fun I => .bl _⟩) hbase hfew hline hs hpl
theorem de_lstripC (hl : z.length ≤ sizeLine) (ho : DE X W o ρ (.val (.str z) ρ1)) (ha : DE X W a ρ1 (.val (.str y) ρ2))
    (hbase : attributeBase o "lstrip" X.env (eval o X.env) = eval o X.env := by rfl) (hfew : ((backTo cpos (starEach [a] X.env)).all (fun x => !x.1) && (backToKw cpos (keywordEach [] X.env)).all (fun x => x.1.isSome)
      && decide (([a] : List Expr).length + ([] : List Keyword).length + (if ([] : List Keyword).isEmpty then 0 else 1) < 30)) = true := by rfl)
    (hline : (apos.endLine == cpos.line) = true := by rfl) (hs : starEach [a] X.env = (false, eval a X.env) :: starEach [] X.env := by exact Dt.star_cons rfl) :
    DE X W (.Call (.Attribute o "lstrip" apos) [a] [] cpos) ρ (.val (.str (Txt.lstripChars z y)) ρ2) :=
  de_bm PySem.F.slot_str_lstrip PySem.F.type_str_lstrip mt_lstripChars ho (dab_of (da_cons ha da_nil hs)) (fun H v vs Q r1 r2 q => by
    cases r1
    obtain ⟨v1, rfl, g1⟩ := all1 r2
    cases g1
    exact ⟨z, y, rfl, rfl, hl, q _ fun I => .str _⟩) hbase hfew hline hs rfl
/-! ### replace: a token must be out -/
def DEt (X : Cx) (W : WX) (e : Expr) (ρ : List S) (d : D) (ρ' : List S) : Prop := ∃ t, PET X e t ∧ ∀ (w : Wd) (σ : L2.St) (I H : Hp) (Q : VK), Ev X.K w I H σ ρ → (∀ v I' H', Same I I' → Ev X.K w I' H' σ ρ' → Rp X.K I' v d → Q v H') → t σ H Q
theorem det_of (h : DE X W e ρ (.val d ρ1)) : DEt X W e ρ d ρ1 := ⟨wpE X e, fun pins s σ H Q _ I q => q.run pins s I, fun w σ I H Q ev p => h w σ I H Q ev p⟩
theorem det_repl {y' z' x0 : Str} {j j' : Nat} {c0 c1 : Pos} (hl : x0.length + (x0.length + 1) * z'.length ≤ 16777216) (ho : DEt X W o ρ (.str x0) ρ1) (hyz : (y' == z') = false := by decide)
    (hst : starEach [.Constant (.str y') j c0, .Constant (.str z') j' c1] X.env = [(false, eval (.Constant (.str y') j c0) X.env), (false, eval (.Constant (.str z') j' c1) X.env)] := by rfl)
    (hbase : attributeBase o "replace" X.env (eval o X.env) = eval o X.env := by rfl) (hline : (apos.endLine == pos.line) = true := by rfl) :
    DEt X W (.Call (.Attribute o "replace" apos) [.Constant (.str y') j c0, .Constant (.str z') j' c1] [] pos) ρ (.str (Txt.replace x0 y' z')) ρ1 := by
  obtain ⟨t, h1, h2⟩ := ho
  refine ⟨_, CwR.pet_replT h1 hyz hst hbase hline, fun w σ I H Q ev p => h2 w σ I H _ ev fun v I1 H1 s1 e1 r1 => ?_⟩
  cases r1
  exact ⟨x0, rfl, hl, p _ I1 H1 s1 e1 (.str _)⟩
/-- 'c' + e, e wants a token -/
theorem de_addT {x0 y0 : Str} {j : Nat} {c0 : Pos} (hl : x0.length + y0.length ≤ sizeLine) (h : DEt X W b ρ (.str y0) ρ1) : DE X W (.BinOp (.Constant (.str x0) j c0) .Add b pos) ρ (.val (.str (x0 ++ y0)) ρ1) := by
  obtain ⟨t, h1, h2⟩ := h
  intro w σ I H Q ev p
  refine ⟨fun pins s J => ?_⟩
  refine wpAny_BinOp (Calls.Constant_str ?_)
  refine thn (h1 pins { s with toks := s.toks + 1 } σ H (fun v H' => ∃ I', v = .str y0 ∧ Same I I' ∧ Ev X.K w I' H' σ ρ1) (by show 1 ≤ s.toks + 1; omega) (J.tok _) (h2 w σ I H _ ev fun v I1 H1 s1 e1 r1 => by
    cases r1
    exact ⟨I1, rfl, s1, e1⟩)) fun u s2 hh => ?_
  obtain ⟨v, H2, J2, r2, I2, rfl, s3, e3⟩ := hh
  exact op_add_str pins s2 σ H2 (.str x0) (.str y0) _ u Q J2 ⟨_, rfl⟩ r2 ⟨x0, y0, rfl, rfl, hl, p _ I2 H2 s3 e3 (.str _)⟩
end
end
end Dt


set_option Elab.async false
set_option linter.all false
set_option maxRecDepth 100000
set_option maxHeartbeats 1000000
namespace Dt
open PySem PySem.Spec PyProof.Rows L2
/-- the context of a def's body -/
abbrev Xd (Pr : Program) (wo : World) (K : PySem.W.Frag) (mg : Str → Option Value) (base : Heap) (N : List Str) (qual : Str) (st : Stmt) (f : Addr) (cdv : Value) (A : Around) (outer : List PySem.Env) (s : Shared) (H : Hp) (E : XK) : Cx :=
  cxOf (L2.CX Pr wo) Pr wo K mg base N qual (defScope st) f cdv A outer s H E
abbrev Wd0 (E : XK) : WX := fun cls d _ H => E cls d H
/-- the def that the module calls x keeps the promise fc -/
def FnAt (Pr : Program) (wo : World) (K : PySem.W.Frag) (mg : Str → Option Value) (base : Heap) (x : Str) (j : Nat) (ns : List Str) (fc : Con) : Prop :=
  ∃ f fd, FnOk Pr wo K mg base (L2.CX Pr wo) j f fd ns (spC K fc) ∧ mg x = some (.ref f) ∧ PySem.W.keepIn K (.ref f) = true ∧ Binds K fd ns []
/-- what the head tells of a def -/
structure DefAt (K : PySem.W.Frag) (mg : Str → Option Value) (x : Str) (st : Stmt) (ns : List Str) : Prop where
  ex : ∃ f fd, Fun K x x st f fd ∧ mg x = some (.ref f) ∧ Binds K fd ns []
section
variable {Pr : Program} {wo : World} {K : PySem.W.Frag} {mg : Str → Option Value} {base : Heap} {x : Str} {st : Stmt} {N ns : List Str}
theorem fnAt {k n : Nat} {fc : Con} (F : DefAt K mg x st ns) (Sc : FnScope N ns (defScope st)) (hl : ∀ qs r os, fc qs r os → qs.length = ns.length) (hn : N.length - ns.length = n)
    (hb : ∀ f cdv A outer s H E, Cz (Xd Pr wo K mg base N x st f cdv A outer s H E) (Wd0 E) k → ∀ qs r os, fc qs r os → ∃ o, DSs (Xd Pr wo K mg base N x st f cdv A outer s H E) (Wd0 E) (defBody st) (toS 0 qs ++ List.replicate n .no) o ∧ Tells qs os o r) :
    FnAt Pr wo K mg base x (k + 1) ns fc := by
  obtain ⟨f, fd, F, hm, hB⟩ := F.ex
  refine ⟨f, fd, ?_, hm, F.kp, hB⟩
  refine F.okX Sc (fun vs H Q E h => ?_) (fun cdv A outer s H vs Q E hr h => ?_)
  · obtain ⟨I, qs, A, B, M, r, os, h1, h2, h3, _⟩ := h
    rw [h2.length]
    exact hl _ _ _ h3
  · obtain ⟨I, qs, A', B, M, r, os, h1, h2, h3, h4⟩ := h
    have hlen : vs.length = ns.length := by rw [h2.length]; exact hl _ _ _ h3
    have ev := ev_start (N := N) (n := n) h1 h2 (by rw [hlen]; exact hn)
    refine ⟨_, pss_wp, ?_⟩
    have cz : Cz (Xd Pr wo K mg base N x st f cdv A outer s H E) (Wd0 E) k := ⟨rfl, Sc.nd, takes_of rfl rfl rfl rfl, passes_of rfl, hr⟩
    obtain ⟨o, h5, h6⟩ := hb f cdv A outer s H E cz qs r os h3
    exact h5 _ _ I H _ ev (tells_done h2 h4 h6)
end
section
variable {X : Cx} {W : WX} {ρ ρ1 ρ2 : List S} {e : Expr} {es : List Expr} {d : D} {ds : List D} {as : List Ag} {k j : Nat} {x : Str} {ns : List Str} {fc : Con} {p pos : Pos} {ps : List P} {os : List O} {r : Res}
theorem de_callF (c : Cz X W k) (F : FnAt X.prog X.w X.K X.mg X.base x j ns fc) (hj : j ≤ k) (ha : DG X W (e :: es) ρ as ρ1) (hp : Pas ρ1 as ps) (hf : fc ps r os) (nd : (iosOf as).Nodup) (hg : Gl X x := by rfl)
    (hdb : (x == ("__debug__" : Str)) = false := by decide) (he : starEach (e :: es) X.env = (false, eval e X.env) :: starEach es X.env := by exact Dt.star_cons rfl) (hpl : (backTo pos (starEach es X.env)).any (·.1) = false := by rfl) (nd2 : (mvsOf as).Nodup := by exact .nil) (nd3 : ∀ i ∈ iosOf as, i ∉ mvsOf as := by intro _ _ z; cases z) :
    DE X W (.Call (.Name x p) (e :: es) [] pos) ρ (r.ov (clr (mvsOf as) (putS (iosOf as) os ρ1))) := by
  obtain ⟨f, fd, G, hm, hk, hb⟩ := F
  exact de_call c G hj hg hm hk hb ha hp hf nd nd2 nd3 hdb he hpl
theorem agAt_of {K : PySem.W.Frag} {I : Hp} {σ : L2.St} : ∀ {vs : List V} {ds : List D}, RpAll K I vs ds → AgAt K I σ vs (ds.map Ag.v)
  | _, _, .nil => .nil
  | _, _, .cons r t => .v r (agAt_of t)
theorem ios_v : ∀ ds : List D, iosOf (ds.map Ag.v) = []
  | [] => rfl
  | d :: ds => ios_v ds
theorem mvs_v : ∀ ds : List D, mvsOf (ds.map Ag.v) = []
  | [] => rfl
  | d :: ds => mvs_v ds
theorem pas_v {ρ : List S} : ∀ ds : List D, Pas ρ (ds.map Ag.v) (ds.map P.v)
  | [] => .nil
  | d :: ds => .v (pas_v ds)
/-- a call whose arguments are data -/
theorem de_callV (c : Cz X W k) (F : FnAt X.prog X.w X.K X.mg X.base x j ns fc) (hj : j ≤ k) (ha : DA X W (e :: es) ρ ds ρ1) (hf : fc (ds.map P.v) r []) (hg : Gl X x := by rfl)
    (hdb : (x == ("__debug__" : Str)) = false := by decide) (he : starEach (e :: es) X.env = (false, eval e X.env) :: starEach es X.env := by exact Dt.star_cons rfl) (hpl : (backTo pos (starEach es X.env)).any (·.1) = false := by rfl) :
    DE X W (.Call (.Name x p) (e :: es) [] pos) ρ (r.ov ρ1) := by
  have z := de_callF (p := p) (pos := pos) c F hj (as := ds.map Ag.v) (os := []) (fun w σ I H Q ev q => ha w σ I H Q ev fun vs I' H' s e' r' => q vs I' H' s e' (agAt_of r')) (pas_v ds) hf (by rw [ios_v]; exact List.nodup_nil) hg hdb he hpl (by rw [mvs_v]; exact List.nodup_nil) (fun i _ z => by rw [mvs_v] at z; cases z)
  rw [ios_v, mvs_v] at z
  exact z
end
/-! ### the names of the built-in module -/
section
variable {X : Cx}
theorem b_len (m : X.mg "len" = none) (g : Gl X "len" := by rfl) : Blt X "len" (.builtin "len") := ⟨g, m, by decide +kernel, by decide, by decide⟩
theorem b_ord (m : X.mg "ord" = none) (g : Gl X "ord" := by rfl) : Blt X "ord" (.builtin "ord") := ⟨g, m, by decide +kernel, by decide, by decide⟩
theorem b_abs (m : X.mg "abs" = none) (g : Gl X "abs" := by rfl) : Blt X "abs" (.builtin "abs") := ⟨g, m, by decide +kernel, by decide, by decide⟩
theorem b_all (m : X.mg "all" = none) (g : Gl X "all" := by rfl) : Blt X "all" (.builtin "all") := ⟨g, m, by decide +kernel, by decide, by decide⟩
theorem b_any (m : X.mg "any" = none) (g : Gl X "any" := by rfl) : Blt X "any" (.builtin "any") := ⟨g, m, by decide +kernel, by decide, by decide⟩
theorem b_sum (m : X.mg "sum" = none) (g : Gl X "sum" := by rfl) : Blt X "sum" (.builtin "sum") := ⟨g, m, by decide +kernel, by decide, by decide⟩
theorem b_isi (m : X.mg "isinstance" = none) (g : Gl X "isinstance" := by rfl) : Blt X "isinstance" (.builtin "isinstance") := ⟨g, m, by decide +kernel, by decide, by decide⟩
theorem b_str (m : X.mg "str" = none) (g : Gl X "str" := by rfl) : Blt X "str" (.type "str") := ⟨g, m, by decide +kernel, by decide, by decide⟩
theorem b_int (m : X.mg "int" = none) (g : Gl X "int" := by rfl) : Blt X "int" (.type "int") := ⟨g, m, by decide +kernel, by decide, by decide⟩
theorem b_bool (m : X.mg "bool" = none) (g : Gl X "bool" := by rfl) : Blt X "bool" (.type "bool") := ⟨g, m, by decide +kernel, by decide, by decide⟩
theorem b_list (m : X.mg "list" = none) (g : Gl X "list" := by rfl) : Blt X "list" (.type "list") := ⟨g, m, by decide +kernel, by decide, by decide⟩
theorem b_range (m : X.mg "range" = none) (g : Gl X "range" := by rfl) : Blt X "range" (.type "range") := ⟨g, m, by decide +kernel, by decide, by decide⟩
theorem b_verr (m : X.mg "ValueError" = none) (g : Gl X "ValueError" := by rfl) : Blt X "ValueError" (.type "ValueError") := ⟨g, m, by decide +kernel, by decide, by decide⟩
end
end Dt


set_option Elab.async false
set_option linter.all false
set_option maxRecDepth 100000
set_option maxHeartbeats 1000000
namespace Dt
open PySem PySem.Spec PyProof.Rows L2
/-- a text by its signs -/
abbrev mk (l : List Nat) : Str := ⟨l.toArray⟩
theorem mk_cps (l : List Nat) : (mk l).cps.toList = l := rfl
theorem mk_len (l : List Nat) : (mk l).length = l.length := rfl
theorem mk_eta (z : Str) : mk z.cps.toList = z := rfl
theorem mk_inj {a b : List Nat} : mk a = mk b ↔ a = b := ⟨fun h => congrArg (fun z : Str => z.cps.toList) h, fun h => by rw [h]⟩
theorem dec_mk {a b : List Nat} : decide (mk a = mk b) = decide (a = b) := decide_eq_decide.mpr mk_inj
theorem mk_app (a b : List Nat) : mk a ++ mk b = mk (a ++ b) := str_ext (by
  show (a.toArray ++ b.toArray).toList = a ++ b
  simp)
theorem cut_nat {l : List Nat} {a b : Nat} : cutS (mk l) (some (a : Int)) (some (b : Int)) = mk ((l.drop a).take (b - a)) := by
  have h : cutS (mk l) (some (a : Int)) (some (b : Int)) = mk ((l.drop (min a l.length)).take (min b l.length - min a l.length)) := by
    unfold cutS
    rw [HT.sIx_nat, HT.sIx_nat]
    rfl
  rw [h, mk_inj]
  by_cases ha : a ≤ l.length
  · rw [Nat.min_eq_left ha]
    by_cases hb : b ≤ l.length
    · rw [Nat.min_eq_left hb]
    · rw [Nat.min_eq_right (show l.length ≤ b by omega), List.take_of_length_le (by rw [List.length_drop]; omega), List.take_of_length_le (by rw [List.length_drop]; omega)]
  · rw [Nat.min_eq_right (show l.length ≤ a by omega), List.drop_of_length_le (Nat.le_refl _), List.drop_of_length_le (show l.length ≤ a by omega), List.take_nil, List.take_nil]
theorem cut_one {l : List Nat} {a : Nat} : cutS (mk l) (some (a : Int)) (some ((a : Int) + 1)) = mk ((l.drop a).take 1) := by
  have h := cut_nat (l := l) (a := a) (b := a + 1)
  rw [show ((a + 1 : Nat) : Int) = (a : Int) + 1 by omega] at h
  rw [h, show a + 1 - a = 1 by omega]
theorem cut_to {l : List Nat} {b : Nat} : cutS (mk l) none (some (b : Int)) = mk (l.take b) := by
  have h := cut_nat (l := l) (a := 0) (b := b)
  have e : cutS (mk l) none (some (b : Int)) = cutS (mk l) (some ((0 : Nat) : Int)) (some (b : Int)) := by
    unfold cutS
    rw [HT.sIx_nat, HT.sIx_none, HT.sIx_nat, Nat.zero_min]
  rw [e, h, List.drop_zero, Nat.sub_zero]
theorem cut_from {l : List Nat} {a : Nat} : cutS (mk l) (some (a : Int)) none = mk (l.drop a) := by
  have h : cutS (mk l) (some (a : Int)) none = mk ((l.drop (min a l.length)).take (l.length - min a l.length)) := by
    unfold cutS
    rw [HT.sIx_nat, HT.sIx_none]
    rfl
  rw [h, mk_inj]
  by_cases ha : a ≤ l.length
  · rw [Nat.min_eq_left ha, List.take_of_length_le (by rw [List.length_drop]; omega)]
  · rw [Nat.min_eq_right (by omega), List.drop_of_length_le (Nat.le_refl _), List.drop_of_length_le (show l.length ≤ a by omega), List.take_nil]
section
variable {X : Cx} {W : WX} {ρ ρ1 ρ2 ρ3 : List S} {pos : Pos} {a b c e : Expr} {es : List Expr} {d d1 d2 : D} {ds : List D} {k : Nat}
/-- the name in the i-th slot -/
theorem va (i : Nat) {x : Str} (h : ρ[i]? = some (.v d)) (hN : X.N[i]? = some x := by rfl) (hv : Vis X.env.scope x := by first | exact Or.inl rfl | exact Or.inr (Or.inl rfl) | exact Or.inr (Or.inr rfl)) (hd : (x == ("__debug__" : Str)) = false := by decide) (hcd : (x == ("__classdict__" : Str)) = false := by decide) : DE X W (.Name x pos) ρ (.val d ρ) := de_var hN hv h hd hcd
/-- .. borrowed -/
theorem vb (i : Nat) {x : Str} {kk : Option Nat} (h : ρ[i]? = some (.own kk (.lst ds))) (hN : X.N[i]? = some x := by rfl) (hv : Vis X.env.scope x := by first | exact Or.inl rfl | exact Or.inr (Or.inl rfl) | exact Or.inr (Or.inr rfl)) (hd : (x == ("__debug__" : Str)) = false := by decide) (hcd : (x == ("__classdict__" : Str)) = false := by decide) : DB X W (.Name x pos) ρ (.lst ds) ρ := db_own hN hv h hd hcd
/-- .. standing still from here on -/
theorem vf (i : Nat) {x : Str} (h : ρ[i]? = some (.own none (.lst ds))) (hN : X.N[i]? = some x := by rfl) (hv : Vis X.env.scope x := by first | exact Or.inl rfl | exact Or.inr (Or.inl rfl) | exact Or.inr (Or.inr rfl)) (hd : (x == ("__debug__" : Str)) = false := by decide) (hcd : (x == ("__classdict__" : Str)) = false := by decide) : DE X W (.Name x pos) ρ (.val (.lst ds) (ρ.set i (.v (.lst ds)))) := de_frz hN hv h hd hcd
/-- x = e -/
theorem st (i : Nat) {x : Str} {pos' : Pos} (cz : Cz X W k) (h : DE X W e ρ (.val d ρ1)) (hi : X.N[i]? = some x := by rfl) (hx : Loc X.env.scope x := by first | exact Or.inl rfl | exact Or.inr rfl) (hs : swapsWith e (some (.Name x pos')) pos.line X.env = pure false := by rfl) (hf : X.fn x = true ∨ X.env.scope.names.lookup x = some .local := by first | exact .inl rfl | exact .inr rfl) :
    DS X W (.Assign [.Name x pos'] e pos) ρ (.next (ρ1.set i (.v d))) := ds_set cz.nd hi hx h hs hf
theorem sto (i : Nat) {x : Str} {pos' : Pos} {q : O} (cz : Cz X W k) (h : DE X W e ρ (.own q ρ1)) (hi : X.N[i]? = some x := by rfl) (hx : Loc X.env.scope x := by first | exact Or.inl rfl | exact Or.inr rfl) (hs : swapsWith e (some (.Name x pos')) pos.line X.env = pure false := by rfl) (hf : X.fn x = true ∨ X.env.scope.names.lookup x = some .local := by first | exact .inl rfl | exact .inr rfl) :
    DS X W (.Assign [.Name x pos'] e pos) ρ (.next (ρ1.set i (.own none q))) := ds_setO cz.nd hi hx h hs hf
/-- a module's number, text -/
theorem gi {x : Str} {i : Int} {t : Tok} (hm : X.mg x = some (.int i t)) (hg : Gl X x := by rfl) (hd : (x == ("__debug__" : Str)) = false := by decide) : DE X W (.Name x pos) ρ (.val (.int i) ρ) := de_glob hg hm (v := .int i) ⟨t, rfl⟩ (fun _ => .int i) hd
theorem gs {x : Str} {z : Str} {t : Tok} (hm : X.mg x = some (.str z t)) (hg : Gl X x := by rfl) (hd : (x == ("__debug__" : Str)) = false := by decide) : DE X W (.Name x pos) ρ (.val (.str z) ρ) := de_glob hg hm (v := .str z) ⟨t, rfl⟩ (fun _ => .str z) hd
theorem Cz.blk (cz : Cz X W k) {scope : Scope} (s : Shared) (H0 : Hp) (C : Addr) (cl : List (Str × Addr)) (fp : List Addr) : Cz (Bk X scope s H0 C cl fp) W0 k := ⟨cz.calm, cz.nd, takes0, PassesOwn.never, cz.rm⟩
theorem Cz.try_ (cz : Cz X W k) {W' : WX} {pn : List (Addr × Obj)} {xe : Value → Shared → Prop} (tk : Takes (X.tr pn xe) W') (po : PassesOwn (model X.prog X.w) X.A X.env xe) : Cz (X.tr pn xe) W' k := ⟨cz.calm, cz.nd, tk, po, cz.rm⟩
/-! ### kinds -/
def isStrD : D → Bool
  | .str _ => true
  | _ => false
def isIntD : D → Bool
  | .int _ => true
  | .bl _ => true
  | _ => false
def isBoolD : D → Bool
  | .bl _ => true
  | _ => false
def isListD : D → Bool
  | .lst _ => true
  | _ => false
theorem kb : (kitB "NoneType" "str" = some false ∧ kitB "bool" "str" = some false ∧ kitB "int" "str" = some false ∧ kitB "str" "str" = some true ∧ kitB "list" "str" = some false ∧ kitB "tuple" "str" = some false) ∧
    (kitB "NoneType" "int" = some false ∧ kitB "bool" "int" = some true ∧ kitB "int" "int" = some true ∧ kitB "str" "int" = some false ∧ kitB "list" "int" = some false ∧ kitB "tuple" "int" = some false) ∧
    (kitB "NoneType" "bool" = some false ∧ kitB "bool" "bool" = some true ∧ kitB "int" "bool" = some false ∧ kitB "str" "bool" = some false ∧ kitB "list" "bool" = some false ∧ kitB "tuple" "bool" = some false) ∧
    (kitB "NoneType" "list" = some false ∧ kitB "bool" "list" = some false ∧ kitB "int" "list" = some false ∧ kitB "str" "list" = some false ∧ kitB "list" "list" = some true ∧ kitB "tuple" "list" = some false) := by decide +kernel
theorem kit_str {t : String} (h : tyD d = some t) : kitB t "str" = some (isStrD d) := by
  obtain ⟨⟨h1, h2, h3, h4, h5, h6⟩, _⟩ := kb
  cases d <;> cases h <;> first | exact h1 | exact h2 | exact h3 | exact h4 | exact h5 | exact h6
theorem kit_int {t : String} (h : tyD d = some t) : kitB t "int" = some (isIntD d) := by
  obtain ⟨_, ⟨h1, h2, h3, h4, h5, h6⟩, _⟩ := kb
  cases d <;> cases h <;> first | exact h1 | exact h2 | exact h3 | exact h4 | exact h5 | exact h6
theorem kit_bool {t : String} (h : tyD d = some t) : kitB t "bool" = some (isBoolD d) := by
  obtain ⟨_, _, ⟨h1, h2, h3, h4, h5, h6⟩, _⟩ := kb
  cases d <;> cases h <;> first | exact h1 | exact h2 | exact h3 | exact h4 | exact h5 | exact h6
theorem kit_list {t : String} (h : tyD d = some t) : kitB t "list" = some (isListD d) := by
  obtain ⟨_, _, _, ⟨h1, h2, h3, h4, h5, h6⟩⟩ := kb
  cases d <;> cases h <;> first | exact h1 | exact h2 | exact h3 | exact h4 | exact h5 | exact h6
section
variable {p p2 : Pos} {t : String}
theorem is_str (h : tyD d = some t) (m1 : X.mg "isinstance" = none) (m2 : X.mg "str" = none) (ha : DB X W a ρ d ρ1) (g1 : Gl X "isinstance" := by rfl) (g2 : Gl X "str" := by rfl) (he : starEach [a, .Name "str" p2] X.env = (false, eval a X.env) :: starEach [.Name "str" p2] X.env := by exact Dt.star_cons rfl) :
    DE X W (.Call (.Name "isinstance" p) [a, .Name "str" p2] [] pos) ρ (.val (.bl (isStrD d)) ρ1) := de_isi h (kit_str h) (b_isi m1 g1) (b_str m2 g2) ha he
theorem is_int (h : tyD d = some t) (m1 : X.mg "isinstance" = none) (m2 : X.mg "int" = none) (ha : DB X W a ρ d ρ1) (g1 : Gl X "isinstance" := by rfl) (g2 : Gl X "int" := by rfl) (he : starEach [a, .Name "int" p2] X.env = (false, eval a X.env) :: starEach [.Name "int" p2] X.env := by exact Dt.star_cons rfl) :
    DE X W (.Call (.Name "isinstance" p) [a, .Name "int" p2] [] pos) ρ (.val (.bl (isIntD d)) ρ1) := de_isi h (kit_int h) (b_isi m1 g1) (b_int m2 g2) ha he
theorem is_bool (h : tyD d = some t) (m1 : X.mg "isinstance" = none) (m2 : X.mg "bool" = none) (ha : DB X W a ρ d ρ1) (g1 : Gl X "isinstance" := by rfl) (g2 : Gl X "bool" := by rfl) (he : starEach [a, .Name "bool" p2] X.env = (false, eval a X.env) :: starEach [.Name "bool" p2] X.env := by exact Dt.star_cons rfl) :
    DE X W (.Call (.Name "isinstance" p) [a, .Name "bool" p2] [] pos) ρ (.val (.bl (isBoolD d)) ρ1) := de_isi h (kit_bool h) (b_isi m1 g1) (b_bool m2 g2) ha he
theorem is_list (h : tyD d = some t) (m1 : X.mg "isinstance" = none) (m2 : X.mg "list" = none) (ha : DB X W a ρ d ρ1) (g1 : Gl X "isinstance" := by rfl) (g2 : Gl X "list" := by rfl) (he : starEach [a, .Name "list" p2] X.env = (false, eval a X.env) :: starEach [.Name "list" p2] X.env := by exact Dt.star_cons rfl) :
    DE X W (.Call (.Name "isinstance" p) [a, .Name "list" p2] [] pos) ρ (.val (.bl (isListD d)) ρ1) := de_isi h (kit_list h) (b_isi m1 g1) (b_list m2 g2) ha he
end
/-! ### comprehensions that change nothing -/
theorem set_back {j : Nat} {d : D} (h : ρ[j]? = some .no) : (ρ.set j (.v d)).set j .no = ρ := by
  obtain ⟨hl, e⟩ := List.getElem?_eq_some_iff.mp h
  rw [List.set_set]
  conv => lhs; rw [← e]
  exact List.set_getElem_self hl
section
variable {scope : Scope} {elt test : Expr} {j : Nat} {α : Type} {g f : α → D} {q : α → Bool}
theorem lcr_map (hno : ρ[j]? = some .no) : ∀ {l : List α}, (∀ x ∈ l, ∀ s H0 C cl fp, DE (Bk X scope s H0 C cl fp) W0 elt (ρ.set j (.v (g x))) (.val (f x) (ρ.set j (.v (g x))))) → LcR X scope [] elt j (l.map g) ρ (l.map f) ρ
  | [], _ => .nil
  | x :: l, h => by
    have t := lcr_map hno (l := l) fun y hy => h y (List.mem_cons_of_mem _ hy)
    refine .keep .nil (h x List.mem_cons_self) ?_
    rw [set_back hno]
    exact t
theorem lcr_filter (hno : ρ[j]? = some .no) : ∀ {l : List α}, (∀ x ∈ l, ∀ s H0 C cl fp, DT (Bk X scope s H0 C cl fp) W0 test (ρ.set j (.v (g x))) (q x) (ρ.set j (.v (g x)))) → (∀ x ∈ l, q x = true → ∀ s H0 C cl fp, DE (Bk X scope s H0 C cl fp) W0 elt (ρ.set j (.v (g x))) (.val (f x) (ρ.set j (.v (g x))))) →
    LcR X scope [test] elt j (l.map g) ρ ((l.filter q).map f) ρ
  | [], _, _ => .nil
  | x :: l, h, h' => by
    have t := lcr_filter hno (l := l) (fun y hy => h y (List.mem_cons_of_mem _ hy)) fun y hy => h' y (List.mem_cons_of_mem _ hy)
    have hx := h x List.mem_cons_self
    cases e : q x with
    | true =>
      rw [e] at hx
      rw [List.filter_cons_of_pos e]
      refine .keep (.one hx) (h' x List.mem_cons_self e) ?_
      rw [set_back hno]
      exact t
    | false =>
      rw [e] at hx
      rw [List.filter_cons_of_neg (by rw [e]; exact Bool.false_ne_true)]
      refine .skip (.one hx) ?_
      rw [set_back hno]
      exact t
end
theorem di_strL {tg : Expr} {l : List Nat} (h : DE X W a ρ (.val (.str (mk l)) ρ1)) : DI X W tg a ρ (l.map fun c => .str (mk [c])) ρ1 := di_str h
theorem lc (j : Nat) {x : Str} {scope : Scope} {tp : Pos} {iter elt : Expr} {ifs : List Expr} {items es : List D} (cz : Cz X W k) (hi : DI X W (.Name x tp) iter ρ items ρ1) (h : LcR X scope ifs elt j items ρ1 es ρ2) (hl : es.length ≤ sizeLine) (ok : blkC X.N X.env.scope scope [(x, j)] = true := by rfl)
    (hno : ρ1[j]? = some .no := by rfl) (hifs : ifs.length ≤ 1 := by decide) (hj : X.N[j]? = some x := by rfl) (hx : (relabel scope X.env).names.lookup x = some .local := by rfl) (hs : ∀ x, foldedSetIterable iter X.env x = pure x := by intro _; rfl) :
    DE X W (.ListComp elt [⟨.Name x tp, iter, ifs, 0⟩] scope pos) ρ (.own (.lst es) ρ2) := de_lc cz.calm cz.nd hj hx (blkOk_by ok) hifs hno hi h hl hs
/-! ### tests whose answer is known -/
theorem len_str {z : Str} (h : z.length ≤ 100000) : lenD (.str z) = some z.length := if_pos (Nat.le_trans h (by decide))
theorem to {k k' : Bool} (h : DT X W a ρ k ρ1) (q : k = k') : DT X W a ρ k' ρ1 := q ▸ h
theorem dw_or_t {rest : List Expr} (h : DT X W a ρ true ρ1) : DW X W (.BoolOp .Or (a :: b :: rest) pos) ρ true ρ1 :=
  fun w σ I H Q e p => wpW_of (pw_or pt_wp pw_wp) (h w σ I H _ e fun I1 H1 s1 e1 => by
    show (if true = true then _ else _)
    rw [if_pos rfl]
    exact p I1 H1 s1 e1)
theorem dw_or_f {k' : Bool} {rest : List Expr} (h : DT X W a ρ false ρ1) (h' : DW X W (.BoolOp .Or (b :: rest) pos) ρ1 k' ρ2) : DW X W (.BoolOp .Or (a :: b :: rest) pos) ρ k' ρ2 :=
  fun w σ I H Q e p => wpW_of (pw_or pt_wp pw_wp) (h w σ I H _ e fun I1 H1 s1 e1 => by
    show (if false = true then _ else _)
    rw [if_neg Bool.false_ne_true]
    exact h' w σ I1 H1 _ e1 fun I2 H2 s2 e2 => p I2 H2 (s1.trans s2) e2)
theorem dw_and_f {rest : List Expr} (h : DT X W a ρ false ρ1) : DW X W (.BoolOp .And (a :: b :: rest) pos) ρ false ρ1 :=
  fun w σ I H Q e p => wpW_of (pw_and pt_wp pw_wp) (h w σ I H _ e fun I1 H1 s1 e1 => by
    show (if false = true then _ else _)
    rw [if_neg Bool.false_ne_true]
    exact p I1 H1 s1 e1)
theorem dw_and_t {k' : Bool} {rest : List Expr} (h : DT X W a ρ true ρ1) (h' : DW X W (.BoolOp .And (b :: rest) pos) ρ1 k' ρ2) : DW X W (.BoolOp .And (a :: b :: rest) pos) ρ k' ρ2 :=
  fun w σ I H Q e p => wpW_of (pw_and pt_wp pw_wp) (h w σ I H _ e fun I1 H1 s1 e1 => by
    show (if true = true then _ else _)
    rw [if_pos rfl]
    exact h' w σ I1 H1 _ e1 fun I2 H2 s2 e2 => p I2 H2 (s1.trans s2) e2)
theorem de_and_f {rest : List Expr} (h : DE X W a ρ (.val (.bl false) ρ1)) : DE X W (.BoolOp .And (a :: b :: rest) pos) ρ (.val (.bl false) ρ1) :=
  fun w σ I H Q e p => wpE_of (pe_and pe_wp pe_wp) (h w σ I H _ e fun v I1 H1 s1 e1 r => by
    cases r
    refine ⟨false, rfl, ?_⟩
    rw [if_neg Bool.false_ne_true]
    exact p _ I1 H1 s1 e1 (.bl false))
theorem de_and_t {o : Ov} {rest : List Expr} (h : DE X W a ρ (.val (.bl true) ρ1)) (h' : DE X W (.BoolOp .And (b :: rest) pos) ρ1 o) : DE X W (.BoolOp .And (a :: b :: rest) pos) ρ o :=
  fun w σ I H Q e p => wpE_of (pe_and pe_wp pe_wp) (h w σ I H _ e fun v I1 H1 s1 e1 r => by
    cases r
    refine ⟨true, rfl, ?_⟩
    rw [if_pos rfl]
    exact h' w σ I1 H1 _ e1 (p.mono s1))
theorem de_or_t {rest : List Expr} (h : DE X W a ρ (.val (.bl true) ρ1)) : DE X W (.BoolOp .Or (a :: b :: rest) pos) ρ (.val (.bl true) ρ1) :=
  fun w σ I H Q e p => wpE_of (pe_or pe_wp pe_wp) (h w σ I H _ e fun v I1 H1 s1 e1 r => by
    cases r
    refine ⟨true, rfl, ?_⟩
    rw [if_pos rfl]
    exact p _ I1 H1 s1 e1 (.bl true))
theorem de_or_f {o : Ov} {rest : List Expr} (h : DE X W a ρ (.val (.bl false) ρ1)) (h' : DE X W (.BoolOp .Or (b :: rest) pos) ρ1 o) : DE X W (.BoolOp .Or (a :: b :: rest) pos) ρ o :=
  fun w σ I H Q e p => wpE_of (pe_or pe_wp pe_wp) (h w σ I H _ e fun v I1 H1 s1 e1 r => by
    cases r
    refine ⟨false, rfl, ?_⟩
    rw [if_neg Bool.false_ne_true]
    exact h' w σ I1 H1 _ e1 (p.mono s1))
theorem de_if_t {o : Ov} (h : DT X W c ρ true ρ1) (ha : DE X W a ρ1 o) : DE X W (.IfExp c a b pos) ρ o := de_if h (fun _ => ha) fun z => nomatch z
theorem de_if_f {o : Ov} (h : DT X W c ρ false ρ1) (hb : DE X W b ρ1 o) : DE X W (.IfExp c a b pos) ρ o := de_if h (fun z => nomatch z) fun _ => hb
section
variable {sts sts' rest : List Stmt} {o o1 : Oc}
theorem if_t0 (h : DT X W c ρ true ρ1) (h1 : DSs X W sts ρ1 o1) (hk : Kt X W rest o o1) : DSs X W (.If c sts sts' pos :: rest) ρ o := dss (ds_if h (fun _ => h1) fun z => nomatch z) hk
theorem if_f0 (h : DT X W c ρ false ρ1) (h1 : DSs X W sts' ρ1 o1) (hk : Kt X W rest o o1) : DSs X W (.If c sts sts' pos :: rest) ρ o := dss (ds_if h (fun z => nomatch z) fun _ => h1) hk
/-- an if without an else that isn't taken -/
theorem if_n0 (h : DT X W c ρ false ρ1) (hk : DSs X W rest ρ1 o) : DSs X W (.If c sts [] pos :: rest) ρ o := if_f0 h dss_nil hk
/-- a taken branch that ends the block -/
theorem if_e0 (h : DT X W c ρ true ρ1) (h1 : DSs X W sts ρ1 o) (hn : ∀ ρ', o ≠ .next ρ') : DSs X W (.If c sts sts' pos :: rest) ρ o := if_t0 h h1 (by
  cases o with
  | next ρ' => exact absurd rfl (hn ρ')
  | brk ρ' => rfl
  | cont ρ' => rfl
  | ret d ρ' => rfl
  | rown d ρ' => rfl
  | exc C ρ' => rfl)
/-- .. by a return -/
theorem if_r0 {e' : Expr} {p2 : Pos} (h : DT X W c ρ true ρ1) (h1 : DE X W e' ρ1 (.val d ρ2)) : DSs X W (.If c [.Return (some e') p2] sts' pos :: rest) ρ (.ret d ρ2) := if_t0 h (dss1 (ds_ret h1)) rfl
theorem seq {st : Stmt} (h : DS X W st ρ (.next ρ1)) (hk : DSs X W rest ρ1 o) : DSs X W (st :: rest) ρ o := dss h hk
theorem ret (h : DE X W e ρ (.val d ρ1)) : DSs X W [.Return (some e) pos] ρ (.ret d ρ1) := dss1 (ds_ret h)
end
/-- a bool as a test -/
theorem tb {k' : Bool} (ha : DE X W a ρ (.val (.bl k') ρ1)) (he : ∀ whole, isTrue a X.env whole = (do let v ← whole; standAt a.pos; holding [v] (truthy v)) := by intro _; rfl) : DT X W a ρ k' ρ1 := dt_tru rfl ha he
section
variable {k0 : Bool} {rest : List Expr} {o : Ov}
theorem or_t (h : DT X W a ρ k0 ρ1) (hk : k0 = true) : DW X W (.BoolOp .Or (a :: b :: rest) pos) ρ true ρ1 := dw_or_t (hk ▸ h)
theorem or_f {k' : Bool} (h : DT X W a ρ k0 ρ1) (hk : k0 = false) (h' : DW X W (.BoolOp .Or (b :: rest) pos) ρ1 k' ρ2) : DW X W (.BoolOp .Or (a :: b :: rest) pos) ρ k' ρ2 := dw_or_f (hk ▸ h) h'
theorem and_f (h : DT X W a ρ k0 ρ1) (hk : k0 = false) : DW X W (.BoolOp .And (a :: b :: rest) pos) ρ false ρ1 := dw_and_f (hk ▸ h)
theorem and_t {k' : Bool} (h : DT X W a ρ k0 ρ1) (hk : k0 = true) (h' : DW X W (.BoolOp .And (b :: rest) pos) ρ1 k' ρ2) : DW X W (.BoolOp .And (a :: b :: rest) pos) ρ k' ρ2 := dw_and_t (hk ▸ h) h'
theorem vand_f (h : DE X W a ρ (.val (.bl k0) ρ1)) (hk : k0 = false) : DE X W (.BoolOp .And (a :: b :: rest) pos) ρ (.val (.bl false) ρ1) := de_and_f (hk ▸ h)
theorem vand_t (h : DE X W a ρ (.val (.bl k0) ρ1)) (hk : k0 = true) (h' : DE X W (.BoolOp .And (b :: rest) pos) ρ1 o) : DE X W (.BoolOp .And (a :: b :: rest) pos) ρ o := de_and_t (hk ▸ h) h'
theorem vor_t (h : DE X W a ρ (.val (.bl k0) ρ1)) (hk : k0 = true) : DE X W (.BoolOp .Or (a :: b :: rest) pos) ρ (.val (.bl true) ρ1) := de_or_t (hk ▸ h)
theorem vor_f (h : DE X W a ρ (.val (.bl k0) ρ1)) (hk : k0 = false) (h' : DE X W (.BoolOp .Or (b :: rest) pos) ρ1 o) : DE X W (.BoolOp .Or (a :: b :: rest) pos) ρ o := de_or_f (hk ▸ h) h'
theorem ife_t (h : DT X W c ρ k0 ρ1) (hk : k0 = true) (ha : DE X W a ρ1 o) : DE X W (.IfExp c a b pos) ρ o := de_if_t (hk ▸ h) ha
theorem ife_f (h : DT X W c ρ k0 ρ1) (hk : k0 = false) (hb : DE X W b ρ1 o) : DE X W (.IfExp c a b pos) ρ o := de_if_f (hk ▸ h) hb
end
section
variable {k0 : Bool} {sts sts' rest : List Stmt} {o o1 : Oc}
theorem if_t (h : DT X W c ρ k0 ρ1) (hk : k0 = true) (h1 : DSs X W sts ρ1 o1) (hr : Kt X W rest o o1) : DSs X W (.If c sts sts' pos :: rest) ρ o := if_t0 (hk ▸ h) h1 hr
theorem if_f (h : DT X W c ρ k0 ρ1) (hk : k0 = false) (h1 : DSs X W sts' ρ1 o1) (hr : Kt X W rest o o1) : DSs X W (.If c sts sts' pos :: rest) ρ o := if_f0 (hk ▸ h) h1 hr
theorem if_n (h : DT X W c ρ k0 ρ1) (hk : k0 = false) (hr : DSs X W rest ρ1 o) : DSs X W (.If c sts [] pos :: rest) ρ o := if_n0 (hk ▸ h) hr
theorem if_r {e' : Expr} {p2 : Pos} (h : DT X W c ρ k0 ρ1) (hk : k0 = true) (h1 : DE X W e' ρ1 (.val d ρ2)) : DSs X W (.If c [.Return (some e') p2] sts' pos :: rest) ρ (.ret d ρ2) := if_r0 (hk ▸ h) h1
end
/-! ### comprehensions in their usual places -/
section
variable {x : Str} {scope : Scope} {tp p p2 : Pos} {iter elt test : Expr} {α : Type} {l : List α} {g f : α → D} {q : α → Bool}
/-- [elt for x in iter] -/
theorem lcm (j : Nat) (cz : Cz X W k) (hi : DI X W (.Name x tp) iter ρ (l.map g) ρ1) (hl : l.length ≤ 100000) (h : ∀ y ∈ l, ∀ s H0 C cl fp, DE (Bk X scope s H0 C cl fp) W0 elt (ρ1.set j (.v (g y))) (.val (f y) (ρ1.set j (.v (g y))))) (ok : blkC X.N X.env.scope scope [(x, j)] = true := by rfl)
    (hno : ρ1[j]? = some .no := by rfl) (hj : X.N[j]? = some x := by rfl) (hx : (relabel scope X.env).names.lookup x = some .local := by rfl) (hs : ∀ x, foldedSetIterable iter X.env x = pure x := by intro _; rfl) :
    DE X W (.ListComp elt [⟨.Name x tp, iter, [], 0⟩] scope pos) ρ (.own (.lst (l.map f)) ρ1) := lc j cz hi (lcr_map hno h) (by rw [List.length_map]; exact Nat.le_trans hl (by decide)) ok hno (by decide) hj hx hs
/-- [elt for x in iter if test] -/
theorem lcf (j : Nat) (cz : Cz X W k) (hi : DI X W (.Name x tp) iter ρ (l.map g) ρ1) (hl : l.length ≤ 100000) (ht : ∀ y ∈ l, ∀ s H0 C cl fp, DT (Bk X scope s H0 C cl fp) W0 test (ρ1.set j (.v (g y))) (q y) (ρ1.set j (.v (g y))))
    (h : ∀ y ∈ l, q y = true → ∀ s H0 C cl fp, DE (Bk X scope s H0 C cl fp) W0 elt (ρ1.set j (.v (g y))) (.val (f y) (ρ1.set j (.v (g y))))) (ok : blkC X.N X.env.scope scope [(x, j)] = true := by rfl)
    (hno : ρ1[j]? = some .no := by rfl) (hj : X.N[j]? = some x := by rfl) (hx : (relabel scope X.env).names.lookup x = some .local := by rfl) (hs : ∀ x, foldedSetIterable iter X.env x = pure x := by intro _; rfl) :
    DE X W (.ListComp elt [⟨.Name x tp, iter, [test], 0⟩] scope pos) ρ (.own (.lst ((l.filter q).map f)) ρ1) := lc j cz hi (lcr_filter hno ht h) (by rw [List.length_map]; exact Nat.le_trans (Nat.le_trans (List.length_filter_le _ _) hl) (by decide)) ok hno (Nat.le_refl 1) hj hx hs
/-- all([elt for x in iter]) -/
theorem all_c (j : Nat) (cz : Cz X W k) (m : X.mg "all" = none) (hi : DI X W (.Name x tp) iter ρ (l.map g) ρ1) (hl : l.length ≤ 100000) (h : ∀ y ∈ l, ∀ s H0 C cl fp, DE (Bk X scope s H0 C cl fp) W0 elt (ρ1.set j (.v (g y))) (.val (.bl (q y)) (ρ1.set j (.v (g y))))) (gl : Gl X "all" := by rfl) (ok : blkC X.N X.env.scope scope [(x, j)] = true := by rfl)
    (hno : ρ1[j]? = some .no := by rfl) (hj : X.N[j]? = some x := by rfl) (hx : (relabel scope X.env).names.lookup x = some .local := by rfl) (hs : ∀ x, foldedSetIterable iter X.env x = pure x := by intro _; rfl)
    (he : starEach [.ListComp elt [⟨.Name x tp, iter, [], 0⟩] scope p2] X.env = (false, eval (.ListComp elt [⟨.Name x tp, iter, [], 0⟩] scope p2) X.env) :: starEach [] X.env := by exact Dt.star_cons rfl) :
    DE X W (.Call (.Name "all" p) [.ListComp elt [⟨.Name x tp, iter, [], 0⟩] scope p2] [] pos) ρ (.val (.bl (l.all q)) ρ1) := by
  have z := de_all (p := p) (pos := pos) (bs := l.map q) cz.calm (b_all m gl) (db_new (lcm (pos := p2) (f := fun y => .bl (q y)) j cz hi hl h ok hno hj hx hs : DE X W _ ρ (.own (.lst (l.map fun y => D.bl (q y))) ρ1)) |> fun (y : DB X W _ ρ (.lst (l.map fun y => D.bl (q y))) ρ1) => (by rw [List.map_map]; exact y : DB X W _ ρ (.lst ((l.map q).map D.bl)) ρ1)) he
  rw [List.all_map] at z
  exact z
theorem any_c (j : Nat) (cz : Cz X W k) (m : X.mg "any" = none) (hi : DI X W (.Name x tp) iter ρ (l.map g) ρ1) (hl : l.length ≤ 100000) (h : ∀ y ∈ l, ∀ s H0 C cl fp, DE (Bk X scope s H0 C cl fp) W0 elt (ρ1.set j (.v (g y))) (.val (.bl (q y)) (ρ1.set j (.v (g y))))) (gl : Gl X "any" := by rfl) (ok : blkC X.N X.env.scope scope [(x, j)] = true := by rfl)
    (hno : ρ1[j]? = some .no := by rfl) (hj : X.N[j]? = some x := by rfl) (hx : (relabel scope X.env).names.lookup x = some .local := by rfl) (hs : ∀ x, foldedSetIterable iter X.env x = pure x := by intro _; rfl)
    (he : starEach [.ListComp elt [⟨.Name x tp, iter, [], 0⟩] scope p2] X.env = (false, eval (.ListComp elt [⟨.Name x tp, iter, [], 0⟩] scope p2) X.env) :: starEach [] X.env := by exact Dt.star_cons rfl) :
    DE X W (.Call (.Name "any" p) [.ListComp elt [⟨.Name x tp, iter, [], 0⟩] scope p2] [] pos) ρ (.val (.bl (l.any q)) ρ1) := by
  have z := de_any (p := p) (pos := pos) (bs := l.map q) cz.calm (b_any m gl) (db_new (lcm (pos := p2) (f := fun y => .bl (q y)) j cz hi hl h ok hno hj hx hs : DE X W _ ρ (.own (.lst (l.map fun y => D.bl (q y))) ρ1)) |> fun (y : DB X W _ ρ (.lst (l.map fun y => D.bl (q y))) ρ1) => (by rw [List.map_map]; exact y : DB X W _ ρ (.lst ((l.map q).map D.bl)) ρ1)) he
  rw [List.any_map] at z
  exact z
end
end
end Dt


set_option Elab.async false
set_option linter.all false
set_option maxRecDepth 100000
set_option maxHeartbeats 1000000
namespace Dt
open PySem PySem.Spec PyProof.Rows L2
/-! ### places in a text -/
def bodyAt (st : Stmt) (i : Nat) : Stmt := (defBody st).getD i (.Pass ⟨0, 0, 0, 0⟩)
def wT : Stmt → Expr
  | .While c _ _ _ => c
  | _ => .Constant .none 0 ⟨0, 0, 0, 0⟩
def wB : Stmt → List Stmt
  | .While _ b _ _ => b
  | _ => []
def fT : Stmt → Expr
  | .For t _ _ _ _ => t
  | _ => .Constant .none 0 ⟨0, 0, 0, 0⟩
def fB : Stmt → List Stmt
  | .For _ _ b _ _ => b
  | _ => []
/-! ### slices of texts by their signs -/
section
variable {X : Cx} {W : WX} {ρ ρ1 ρ2 ρ3 : List S} {pos p2 : Pos} {a b c e e1 e2 : Expr} {es : List Expr} {d d1 d2 : D} {ds : List D} {k : Nat} {l : List Nat}
theorem szL {n : Nat} (h : n ≤ 100000) : n ≤ sizeLine := Nat.le_trans h (by decide)
/-- x[i:i + 1] -/
theorem sl1 {i : Nat} (hz : l.length ≤ 100000) (h : DE X W a ρ (.val (.str (mk l)) ρ)) (h1 : DE X W e1 ρ (.val (.int (i : Int)) ρ)) (h2 : DE X W e2 ρ (.val (.int ((i : Int) + 1)) ρ)) : DE X W (.Subscript a (.Slice (some e1) (some e2) none p2) pos) ρ (.val (.str (mk ((l.drop i).take 1))) ρ) := by
  rw [← cut_one]
  exact de_slS h (do_some h1) (do_some h2) (szL hz)
/-- x[i:j] -/
theorem sl2 {i j : Nat} (hz : l.length ≤ 100000) (h : DE X W a ρ (.val (.str (mk l)) ρ)) (h1 : DE X W e1 ρ (.val (.int (i : Int)) ρ)) (h2 : DE X W e2 ρ (.val (.int (j : Int)) ρ)) : DE X W (.Subscript a (.Slice (some e1) (some e2) none p2) pos) ρ (.val (.str (mk ((l.drop i).take (j - i)))) ρ) := by
  rw [← cut_nat]
  exact de_slS h (do_some h1) (do_some h2) (szL hz)
/-- x[:j] -/
theorem slt {j : Nat} (hz : l.length ≤ 100000) (h : DE X W a ρ (.val (.str (mk l)) ρ)) (h2 : DE X W e2 ρ (.val (.int (j : Int)) ρ)) : DE X W (.Subscript a (.Slice none (some e2) none p2) pos) ρ (.val (.str (mk (l.take j))) ρ) := by
  rw [← cut_to]
  exact de_slS h do_none (do_some h2) (szL hz)
/-- x[i:] -/
theorem slf {i : Nat} (hz : l.length ≤ 100000) (h : DE X W a ρ (.val (.str (mk l)) ρ)) (h1 : DE X W e1 ρ (.val (.int (i : Int)) ρ)) : DE X W (.Subscript a (.Slice (some e1) none none p2) pos) ρ (.val (.str (mk (l.drop i))) ρ) := by
  rw [← cut_from]
  exact de_slS h (do_some h1) do_none (szL hz)
/-- x[i], x a text -/
theorem ixs {i ch : Nat} (hz : l.length ≤ 100000) (hc : l[i]? = some ch) (h : DE X W a ρ (.val (.str (mk l)) ρ)) (h1 : DE X W b ρ (.val (.int (i : Int)) ρ)) (hs : PlainIx b := by exact fun _ _ => rfl) : DE X W (.Subscript a b pos) ρ (.val (.str (mk [ch])) ρ) :=
  de_ix h h1 (by
    show (if (mk l).length ≤ sizeLine then (atI (mk l).cps.toList (i : Int)).map fun c => D.str ⟨#[c]⟩ else none) = _
    rw [if_pos (show (mk l).length ≤ sizeLine from szL hz), atI_nat (show (mk l).cps.toList[i]? = some ch from hc)]
    rfl) hs
/-- == and != of two texts by their signs -/
theorem eqs {x y : List Nat} {z : Str} (hz : z = mk y) (ha : DE X W a ρ (.val (.str (mk x)) ρ1)) (hb : DE X W b ρ1 (.val (.str z) ρ2)) : DT X W (.Compare a [.Eq] [b] pos) ρ (decide (x = y)) ρ2 := by
  subst hz
  rw [← dec_mk]
  exact dt_cmpS rfl ha hb
theorem nes {x y : List Nat} {z : Str} (hz : z = mk y) (ha : DE X W a ρ (.val (.str (mk x)) ρ1)) (hb : DE X W b ρ1 (.val (.str z) ρ2)) : DT X W (.Compare a [.NotEq] [b] pos) ρ (!decide (x = y)) ρ2 := by
  subst hz
  rw [← dec_mk]
  exact dt_cmpS rfl ha hb
theorem veqs {x y : List Nat} {z : Str} (hz : z = mk y) (ha : DE X W a ρ (.val (.str (mk x)) ρ1)) (hb : DE X W b ρ1 (.val (.str z) ρ2)) : DE X W (.Compare a [.Eq] [b] pos) ρ (.val (.bl (decide (x = y))) ρ2) := by
  subst hz
  rw [← dec_mk]
  exact de_cmpS rfl ha hb
/-- x + y -/
theorem cats {x y : List Nat} (hl : x.length + y.length ≤ 100000) (ha : DE X W a ρ (.val (.str (mk x)) ρ1)) (hb : DE X W b ρ1 (.val (.str (mk y)) ρ2)) : DE X W (.BinOp a .Add b pos) ρ (.val (.str (mk (x ++ y))) ρ2) := by
  rw [← mk_app]
  exact de_addS (szL hl) ha hb
/-- a written text by its signs -/
theorem cs {z : Str} {j : Nat} {y : List Nat} (hz : z = mk y) : DE X W (.Constant (.str z) j pos) ρ (.val (.str (mk y)) ρ) := by
  subst hz
  exact de_str
theorem join_mk {s : List Nat} {ls : List (List Nat)} : Txt.join (mk s) (ls.map mk) = mk (TL.joinL s ls) := by
  rw [TL.join_eq]
  refine str_ext ?_
  have h := TL.tl_join (mk s) (ls.map mk)
  rw [List.map_map] at h
  have e : ls.map (TL.tl ∘ mk) = ls := by
    conv => rhs; rw [← List.map_id ls]
    rfl
  rw [e] at h
  exact h
theorem joinL_len (s : List Nat) : ∀ ls : List (List Nat), (TL.joinL s ls).length ≤ (ls.map List.length).sum + ls.length * s.length
  | [] => Nat.zero_le _
  | [p] => by
    show p.length ≤ ([p.length]).sum + 1 * s.length
    rw [List.sum_singleton]
    omega
  | p :: q :: r => by
    have h := joinL_len s (q :: r)
    show (p ++ (s ++ TL.joinL s (q :: r))).length ≤ (p.length :: (q :: r).map List.length).sum + ((q :: r).length + 1) * s.length
    rw [List.length_append, List.length_append, List.sum_cons, Nat.add_mul]
    omega
/-- s.join(list of texts) -/
theorem joins {o : Expr} {apos cpos : Pos} {s : List Nat} {ls : List (List Nat)} (hl : (ls.map List.length).sum + ls.length * s.length ≤ 1000000) (ho : DE X W o ρ (.val (.str (mk s)) ρ1)) (ha : DB X W a ρ1 (.lst (ls.map fun q => D.str (mk q))) ρ2)
    (hbase : attributeBase o "join" X.env (eval o X.env) = eval o X.env := by rfl) (hfew : ((backTo cpos (starEach [a] X.env)).all (fun x => !x.1) && (backToKw cpos (keywordEach [] X.env)).all (fun x => x.1.isSome)
      && decide (([a] : List Expr).length + ([] : List Keyword).length + (if ([] : List Keyword).isEmpty then 0 else 1) < 30)) = true := by rfl)
    (hline : (apos.endLine == cpos.line) = true := by rfl) (hs : starEach [a] X.env = (false, eval a X.env) :: starEach [] X.env := by exact Dt.star_cons rfl) :
    DE X W (.Call (.Attribute o "join" apos) [a] [] cpos) ρ (.val (.str (mk (TL.joinL s ls))) ρ2) := by
  rw [← join_mk]
  refine de_join (p := cpos) ?_ ho ?_ hbase hfew hline hs
  · rw [List.map_map, List.length_map]
    exact Nat.le_trans hl (by decide)
  · rw [List.map_map]
    exact ha
end
/-! ### suffixes -/
def posOf (l r : List Nat) : Nat := l.length - r.length
theorem drop_pos {l r : List Nat} (h : r <:+ l) : l.drop (posOf l r) = r := by
  obtain ⟨t, rfl⟩ := h
  unfold posOf
  rw [List.length_append, Nat.add_sub_cancel, List.drop_left]
theorem pos_le {l r : List Nat} : posOf l r ≤ l.length := Nat.sub_le _ _
theorem pos_drop {l : List Nat} {a : Nat} (h : a ≤ l.length) : posOf l (l.drop a) = a := by
  unfold posOf
  rw [List.length_drop]
  omega
theorem pos_cast {l r : List Nat} (h : r <:+ l) : ((posOf l r : Nat) : Int) = (l.length : Int) - (r.length : Int) := by
  have := h.length_le
  unfold posOf
  omega
end Dt


set_option Elab.async false
set_option linter.all false
set_option maxRecDepth 100000
set_option maxHeartbeats 1000000
/-! Instances: attributes, methods, making. -/
namespace Dt
open PySem PySem.Spec PyProof.Rows L2

/-! ### names and what they hold, side by side -/
def putN (f : Str) : List Str → List Str
  | [] => [f]
  | g :: r => if g = f then g :: r else g :: putN f r
def putX {α : Type} (f : Str) (x : α) : List Str → List α → List α
  | [], _ => [x]
  | _ :: _, [] => []
  | g :: r, y :: ys => if g = f then x :: ys else y :: putX f x r ys
theorem zip_put {f : Str} {v : V} : ∀ {ns : List Str} {vs : List V}, ns.length = vs.length → putF f v (ns.zip vs) = (putN f ns).zip (putX f v ns vs)
  | [], [], _ => rfl
  | g :: r, y :: ys, h => by
    have ih := zip_put (f := f) (v := v) (ns := r) (vs := ys) (by simpa using h)
    rw [List.zip_cons_cons]
    unfold putN putX
    by_cases e : g = f
    · rw [if_pos e, if_pos e, List.zip_cons_cons]
      show (if g = f then (g, v) :: r.zip ys else _) = _
      rw [if_pos e]
    · rw [if_neg e, if_neg e, List.zip_cons_cons, ← ih]
      show (if g = f then _ else (g, y) :: putF f v (r.zip ys)) = _
      rw [if_neg e]
theorem len_put {α : Type} {f : Str} {v : α} : ∀ {ns : List Str} {vs : List α}, ns.length = vs.length → (putN f ns).length = (putX f v ns vs).length
  | [], [], _ => rfl
  | g :: r, y :: ys, h => by
    have ih := len_put (f := f) (v := v) (ns := r) (vs := ys) (by simpa using h)
    unfold putN putX
    by_cases e : g = f
    · rw [if_pos e, if_pos e]
      simpa using h
    · rw [if_neg e, if_neg e, List.length_cons, List.length_cons, ih]
theorem look_cons {α : Type} {g f : Str} {y : α} {l : List (Str × α)} : ((g, y) :: l).lookup f = if f = g then some y else l.lookup f := by
  by_cases e : f = g
  · subst e; simp [List.lookup]
  · have h : (f == g) = false := by simpa using e
    rw [if_neg e]
    simp [List.lookup, h]
section
variable {K : PySem.W.Frag} {I H : Hp}
theorem rp_look {f : Str} {d : D} : ∀ {ns : List Str} {vs : List V} {ds : List D}, RpAll K I vs ds → (ns.zip ds).lookup f = some d → ∃ v, (ns.zip vs).lookup f = some v ∧ Rp K I v d
  | [], _, _, _, h => by simp at h
  | g :: r, _, _, .nil, h => by simp at h
  | g :: r, _, _, .cons (v := v) (d := d') a t, h => by
    rw [List.zip_cons_cons, look_cons] at h ⊢
    by_cases e : f = g
    · rw [if_pos e] at h ⊢
      cases h
      exact ⟨v, rfl, a⟩
    · rw [if_neg e] at h ⊢
      exact rp_look t h
theorem fs_look {f : Str} {x : F} : ∀ {ns : List Str} {vs : List V} {fs : List F} {φ : List Addr}, FsAt K I H vs fs φ → (ns.zip fs).lookup f = some x → ∃ v, (ns.zip vs).lookup f = some v ∧ ∃ ψ, FsAt K I H [v] [x] ψ ∧ ∀ a ∈ ψ, a ∈ φ
  | [], _, _, _, _, h => by simp at h
  | g :: r, _, _, _, .nil, h => by simp at h
  | g :: r, _, _, _, .d (v := v) a t, h => by
    rw [List.zip_cons_cons, look_cons] at h ⊢
    by_cases e : f = g
    · rw [if_pos e] at h ⊢
      cases h
      exact ⟨v, rfl, [], .d a .nil, fun _ z => by cases z⟩
    · rw [if_neg e] at h ⊢
      exact fs_look t h
  | g :: r, _, _, _, .o (v := v) (φ := φ) a t c, h => by
    rw [List.zip_cons_cons, look_cons] at h ⊢
    by_cases e : f = g
    · rw [if_pos e] at h ⊢
      cases h
      refine ⟨v, rfl, φ ++ [], .o a .nil (fun _ _ z => by cases z), fun x hx => ?_⟩
      rw [List.append_nil] at hx
      exact List.mem_append_left _ hx
    · rw [if_neg e] at h ⊢
      obtain ⟨u, h1, ψ, h2, h3⟩ := fs_look t h
      exact ⟨u, h1, ψ, h2, fun x hx => List.mem_append_right _ (h3 x hx)⟩
theorem fs_len : ∀ {vs : List V} {fs : List F} {φ : List Addr}, FsAt K I H vs fs φ → vs.length = fs.length
  | _, _, _, .nil => rfl
  | _, _, _, .d _ t => by rw [List.length_cons, List.length_cons, fs_len t]
  | _, _, _, .o _ t _ => by rw [List.length_cons, List.length_cons, fs_len t]
/-- an attribute is stored: data -/
theorem fs_put {f : Str} {v : V} {d : D} (rv : Rp K I v d) : ∀ {ns : List Str} {vs : List V} {fs : List F} {φ : List Addr}, FsAt K I H vs fs φ → ns.length = vs.length → ∃ φ', FsAt K I H (putX f v ns vs) (putX f (.d d) ns fs) φ' ∧ ∀ a ∈ φ', a ∈ φ
  | [], _, _, _, .nil, _ => ⟨[], .d rv .nil, fun _ z => z⟩
  | g :: r, _, _, _, .d a t, h => by
    unfold putX
    by_cases e : g = f
    · rw [if_pos e, if_pos e]
      exact ⟨_, .d rv t, fun _ z => z⟩
    · rw [if_neg e, if_neg e]
      obtain ⟨φ', h1, h2⟩ := fs_put rv t (ns := r) (by simpa using h)
      exact ⟨φ', .d a h1, h2⟩
  | g :: r, _, _, _, .o (φ := φ) a t c, h => by
    unfold putX
    by_cases e : g = f
    · rw [if_pos e, if_pos e]
      exact ⟨_, .d rv t, fun _ z => List.mem_append_right _ z⟩
    · rw [if_neg e, if_neg e]
      obtain ⟨φ', h1, h2⟩ := fs_put rv t (ns := r) (by simpa using h)
      exact ⟨φ ++ φ', .o a h1 fun x hx z => c x hx (h2 x z), fun x hx => by
        rcases List.mem_append.mp hx with z | z
        · exact List.mem_append_left _ z
        · exact List.mem_append_right _ (h2 x z)⟩
/-- .. something owned -/
theorem fs_putO {f : Str} {v : V} {o : O} {ψ : List Addr} (rv : OwnAt K I H v o ψ) : ∀ {ns : List Str} {vs : List V} {fs : List F} {φ : List Addr}, FsAt K I H vs fs φ → ns.length = vs.length → (∀ a ∈ ψ, a ∉ φ) → ∃ φ', FsAt K I H (putX f v ns vs) (putX f (.o o) ns fs) φ' ∧ ∀ a ∈ φ', a ∈ φ ∨ a ∈ ψ
  | [], _, _, _, .nil, _, _ => ⟨ψ ++ [], .o rv .nil (fun _ _ z => by cases z), fun x hx => by rw [List.append_nil] at hx; exact .inr hx⟩
  | g :: r, _, _, _, .d a t, h, n => by
    unfold putX
    by_cases e : g = f
    · rw [if_pos e, if_pos e]
      exact ⟨_, .o rv t n, fun x hx => by
        rcases List.mem_append.mp hx with z | z
        · exact .inr z
        · exact .inl z⟩
    · rw [if_neg e, if_neg e]
      obtain ⟨φ', h1, h2⟩ := fs_putO rv t (ns := r) (by simpa using h) n
      exact ⟨φ', .d a h1, h2⟩
  | g :: r, _, _, _, .o (φ := φ) a t c, h, n => by
    have n1 : ∀ x ∈ ψ, x ∉ φ := fun x hx z => n x hx (List.mem_append_left _ z)
    have n2 : ∀ x ∈ ψ, x ∉ _ := fun x hx z => n x hx (List.mem_append_right φ z)
    unfold putX
    by_cases e : g = f
    · rw [if_pos e, if_pos e]
      exact ⟨_, .o rv t n2, fun x hx => by
        rcases List.mem_append.mp hx with z | z
        · exact .inr z
        · exact .inl (List.mem_append_right _ z)⟩
    · rw [if_neg e, if_neg e]
      obtain ⟨φ', h1, h2⟩ := fs_putO rv t (ns := r) (by simpa using h) n2
      refine ⟨φ ++ φ', .o a h1 fun x hx z => ?_, fun x hx => ?_⟩
      · rcases h2 x z with y | y
        · exact c x hx y
        · exact n1 x y hx
      · rcases List.mem_append.mp hx with z | z
        · exact .inl (List.mem_append_left _ z)
        · rcases h2 x z with y | y
          · exact .inl (List.mem_append_right _ y)
          · exact .inr y
end
/-! ### the last slot goes into another -/
section
variable {K : PySem.W.Frag} {w : Wd} {I I' H H' : Hp} {σ : L2.St} {ρ : List S} {v : V}
theorem Ev.take {i : Nat} {k : Option Nat} {o t : O} (e : Ev K w I H (σ ++ [some v]) (ρ ++ [.own none t])) (q : ρ[i]? = some (.own k o)) :
    ∃ u φ ψ, σ[i]? = some (some u) ∧ OwnAt K I H u o φ ∧ OwnAt K I H v t ψ ∧ (∀ a ∈ ψ, a ∉ φ) ∧ (∀ a ∈ φ, I a = none) ∧
      ∀ (H' : Hp) (o' : O) (φ' : List Addr), Same I H' → (∀ b x, H b = some x → b ∉ φ → b ∉ ψ → H' b = some x) → (∀ a ∈ φ, ∃ x, H' a = some x) → (∀ a ∈ ψ, ∃ x, H' a = some x) →
        OwnAt K I H' u o' φ' → (∀ a ∈ φ', a ∈ φ ∨ a ∈ ψ) → Ev K w I H' σ (ρ.set i (.own k o')) := by
  have el := e.pop.len
  have il := (List.getElem?_eq_some_iff.mp q).1
  have up : ∀ {j : Nat} {s : S}, ρ[j]? = some s → (ρ ++ [S.own none t])[j]? = some s ∧ j < ρ.length := fun {j s} q => by
    have hj := (List.getElem?_eq_some_iff.mp q).1
    exact ⟨by rw [get_app_l hj]; exact q, hj⟩
  obtain ⟨φ, h1, h2⟩ := e.owns
  obtain ⟨u, hu, s⟩ := h1 i k o (up q).1
  rw [get_app_l (by rw [el]; exact il)] at hu
  obtain ⟨v', hv', st⟩ := h1 ρ.length none t get_app_r
  rw [← el, get_app_r] at hv'
  cases hv'
  have djt : ∀ {j : Nat} {k' : Option Nat} {o1 : O}, ρ[j]? = some (S.own k' o1) → ∀ a ∈ φ ρ.length, a ∉ φ j := fun {j k' o1} qj => h2 ρ.length j _ _ _ _ (Nat.ne_of_gt (up qj).2) get_app_r (up qj).1
  refine ⟨u, φ i, φ ρ.length, hu, s.at_, st.at_, djt q, s.out, fun H' o' φ' sH keep tr tr2 at' out' => ?_⟩
  have out2 : ∀ a ∈ φ', I a = none := fun a ha => (out' a ha).elim (s.out a) (st.out a)
  have t0 : ∀ a ∈ φ ρ.length, w.H0 a = none := st.io
  have nA : ∀ b o, w.H0 b = some o → (∀ l ∈ w.A, b ∉ l) → b ∉ φ i := fun b o hb hl hin => by
    have z := s.io
    cases k with
    | none =>
      have := z b hin
      rw [hb] at this
      cases this
    | some k =>
      obtain ⟨_, l, z1, z2⟩ := z
      rcases z2 b hin with y | y
      · exact hl l (List.mem_of_getElem? z1) y
      · rw [hb] at y; cases y
  have nB : ∀ b o, w.H0 b = some o → b ∉ φ ρ.length := fun b o hb hin => by
    rw [t0 b hin] at hb
    cases hb
  refine ⟨sH, e.old, fun b o hb hl => keep b o (e.frm b o hb hl) (nA b o hb hl) (nB b o hb), e.new, fun b o hb => ?_, fun b o hb => keep b o (e.prt b o hb) (fun z => ?_) (fun z => ?_), e.pI, by rw [List.length_set]; exact el, fun j d' qj => ?_, ?_⟩
  · by_cases z : b ∈ φ i
    · exact tr b z
    · obtain ⟨x, hx⟩ := e.trk b o hb
      exact ⟨x, keep b x hx z (nB b o hb)⟩
  · rw [s.np b z] at hb; cases hb
  · rw [st.np b z] at hb; cases hb
  · rcases get_set qj with ⟨_, qj, _⟩ | ⟨hne, qj, hj⟩
    · cases qj
    · obtain ⟨x, h3, h4⟩ := e.vals j d' (up qj).1
      exact ⟨x, by rw [get_app_l (by rw [el]; exact hj)] at h3; exact h3, h4⟩
  · refine ⟨fun j => if j = i then φ' else φ j, fun j k' o1 qj => ?_, fun j j' k1 k2 o1 o2 hj q1 q2 => ?_⟩
    · rcases get_set qj with ⟨hij, qj, _⟩ | ⟨hij, qj, hj⟩
      · cases qj
        subst hij
        refine ⟨u, hu, ?_⟩
        dsimp only
        rw [if_pos rfl]
        refine ⟨at', out2, ?_, fun a ha => (out' a ha).elim (s.np a) (st.np a)⟩
        have z := s.io
        cases k with
        | none => exact fun a ha => (out' a ha).elim (z a) (t0 a)
        | some k =>
          obtain ⟨z0, l, z1, z2⟩ := z
          exact ⟨z0, l, z1, fun a ha => (out' a ha).elim (z2 a) fun y => .inr (t0 a y)⟩
      · obtain ⟨x, h3, ⟨t1, t2, t3, t4⟩⟩ := h1 j k' o1 (up qj).1
        refine ⟨x, by rw [get_app_l (by rw [el]; exact hj)] at h3; exact h3, ?_⟩
        dsimp only
        rw [if_neg (Ne.symm hij)]
        exact ⟨t1.mono (Same.refl I) fun b hb y hy => keep b y hy (fun z => h2 i j _ _ _ _ hij (up q).1 (up qj).1 b z hb) fun z => djt qj b z hb, t2, t3, t4⟩
    · have back : ∀ (j : Nat) (k' : Option Nat) (o1 : O), (ρ.set i (S.own k o'))[j]? = some (S.own k' o1) → ∃ k'' o'', ρ[j]? = some (S.own k'' o'') := fun j k' o qj => by
        rcases get_set qj with ⟨z, _, _⟩ | ⟨_, qj, _⟩
        · subst z; exact ⟨_, _, q⟩
        · exact ⟨_, _, qj⟩
      obtain ⟨k3, o3, q3⟩ := back j k1 o1 q1
      obtain ⟨k4, o4, q4⟩ := back j' k2 o2 q2
      intro a ha hb
      dsimp only at ha hb
      by_cases e1 : j = i
      · rw [if_pos e1] at ha
        rw [if_neg (fun z => hj (e1.trans z.symm))] at hb
        subst e1
        rcases out' a ha with y | y
        · exact h2 j j' _ _ _ _ hj (up q3).1 (up q4).1 a y hb
        · exact djt q4 a y hb
      · rw [if_neg e1] at ha
        by_cases e2 : j' = i
        · rw [if_pos e2] at hb
          subst e2
          rcases out' a hb with y | y
          · exact h2 j j' _ _ _ _ hj (up q3).1 (up q4).1 a ha y
          · exact djt q3 a y ha
        · rw [if_neg e2] at hb
          exact h2 j j' _ _ _ _ hj (up q3).1 (up q4).1 a ha hb
end
/-! ### attributes -/
section
variable {X : Cx} {W : WX} {ρ ρ1 ρ2 ρ3 : List S} {pos pos' apos cpos npos : Pos} {a b c e : Expr} {es : List Expr} {d d1 d2 : D} {ds : List D} {C : Addr} {ns : List Str} {fs : List F} {f x : Str} {i : Nat} {kk : Option Nat}
theorem de_fld (cl : Cls X.K C) (hn : NoAttr X.K C f) (h : DE X W e ρ (.val (.ins C ns ds) ρ1)) (hl : (ns.zip ds).lookup f = some d) (hb : attributeBase e f X.env (eval e X.env) = eval e X.env := by rfl) : DE X W (.Attribute e f pos) ρ (.val d ρ1) :=
  fun w σ I H Q ev p => wpE_of (pe_fld pe_wp hb) (h w σ I H _ ev fun v I1 H1 s1 e1 r => by
    cases r with
    | ins h1 h2 h3 =>
      obtain ⟨v, g1, g2⟩ := rp_look h3 hl
      exact ⟨_, C, _, _, v, rfl, e1.sub _ _ h1, cl, hn, g1, p v I1 H1 s1 e1 g2⟩)
/-- of what a slot owns -/
theorem de_fldO (cl : Cls X.K C) (hn : NoAttr X.K C f) (hq : ρ[i]? = some (.own kk (.ins C ns fs))) (hl : (ns.zip fs).lookup f = some (.d d)) (hN : X.N[i]? = some x := by rfl) (hv : Vis X.env.scope x := by first | exact Or.inl rfl | exact Or.inr (Or.inl rfl) | exact Or.inr (Or.inr rfl)) (hb : attributeBase (.Name x npos) f X.env (eval (.Name x npos) X.env) = eval (.Name x npos) X.env := by rfl) (hd : (x == ("__debug__" : Str)) = false := by decide) (hcd : (x == ("__classdict__" : Str)) = false := by decide) :
    DE X W (.Attribute (.Name x npos) f pos) ρ (.val d ρ) :=
  fun w σ I H Q ev p => wpE_of (pe_fld (pe_var hN hv hd hcd) hb) (by
    obtain ⟨v, φ, hv', at_, _⟩ := ev.chg hq
    cases at_ with
    | ins h1 h2 h3 h4 h5 h6 =>
      obtain ⟨u, g1, ψ, g2, _⟩ := fs_look h4 hl
      cases g2 with
      | d g2 _ => exact ⟨_, hv', _, C, _, _, u, rfl, h1, cl, hn, g1, p u I H (Same.refl I) ev g2⟩)
/-- x.f = e, x owned, e data -/
theorem ds_fld (cl : Cls X.K C) (hn : NoAttr X.K C f) (h : DE X W e ρ (.val d ρ1)) (hq : ρ1[i]? = some (.own kk (.ins C ns fs))) (hz : ns.length < 1000) (hN : X.N[i]? = some x := by rfl) (hv : Vis X.env.scope x := by first | exact Or.inl rfl | exact Or.inr (Or.inl rfl) | exact Or.inr (Or.inr rfl)) (hs : swapsWith e (some (.Attribute (.Name x npos) f pos')) pos.line X.env = pure false := by rfl) (hd : (x == ("__debug__" : Str)) = false := by decide) (hcd : (x == ("__classdict__" : Str)) = false := by decide) :
    DS X W (.Assign [.Attribute (.Name x npos) f pos'] e pos) ρ (.next (ρ1.set i (.own kk (.ins C (putN f ns) (putX f (.d d) ns fs))))) :=
  fun w σ I H Dn ev p => wpS_of (ps_fld (pe_var hN hv hd hcd) pe_wp hs) (h w σ I H _ ev fun y I1 H1 s1 e1 r => by
    obtain ⟨v, φ, hv', at_, out, _, c⟩ := e1.chg hq
    cases at_ with
    | @ins a0 dx0 _ _ vs _ φ0 h1 h2 h3 h4 h5 h6 =>
      have nda : dx0 ≠ a0 := ne_of h3 h1 (by intro z; cases z)
      have na := out a0 List.mem_cons_self
      obtain ⟨φ', g1, g2⟩ := fs_put (f := f) r h4 h2
      refine ⟨_, hv', a0, C, _, _, rfl, h1, cl, hn, by rw [List.length_zip]; omega, p _ I1 _ s1 (c I1 _ _ (a0 :: dx0 :: φ') (Same.refl I1) (same_upd2 e1.sub na) (fun b u hb hb' => ?_) (fun b u z => .inl z) (fun b hb => ?_) (.ins ?_ (len_put h2) ?_ (g1.mono (Same.refl I1) fun b hb u hu => ?_) (fun z => h5 (g2 _ z)) (fun z => h6 (g2 _ z))) fun b hb => ?_)⟩
      · rw [upd_ne fun z => hb' (by rw [z]; exact List.mem_cons_self)]
        exact hb
      · by_cases z : b = a0
        · rw [z]; exact ⟨_, upd_same⟩
        · rw [upd_ne z]
          exact (OwnAt.ins h1 h2 h3 h4 h5 h6).there b hb
      · rw [upd_same, zip_put h2]
      · rw [upd_ne nda]; exact h3
      · rw [upd_ne fun z => h5 (by rw [← z]; exact g2 b hb)]; exact hu
      · have hb' : b ∈ a0 :: dx0 :: φ0 := by
          rcases List.mem_cons.mp hb with z | z
          · rw [z]; exact List.mem_cons_self
          · rcases List.mem_cons.mp z with z | z
            · rw [z]; exact List.mem_cons_of_mem _ List.mem_cons_self
            · exact List.mem_cons_of_mem _ (List.mem_cons_of_mem _ (g2 b z))
        exact ⟨out b hb', .inl hb'⟩)
/-- .. e new and owned -/
theorem ds_fldN {o : O} (cl : Cls X.K C) (hn : NoAttr X.K C f) (h : DE X W e ρ (.own o ρ1)) (hq : ρ1[i]? = some (.own kk (.ins C ns fs))) (hz : ns.length < 1000) (hN : X.N[i]? = some x := by rfl) (hv : Vis X.env.scope x := by first | exact Or.inl rfl | exact Or.inr (Or.inl rfl) | exact Or.inr (Or.inr rfl)) (hs : swapsWith e (some (.Attribute (.Name x npos) f pos')) pos.line X.env = pure false := by rfl) (hd : (x == ("__debug__" : Str)) = false := by decide) (hcd : (x == ("__classdict__" : Str)) = false := by decide) :
    DS X W (.Assign [.Attribute (.Name x npos) f pos'] e pos) ρ (.next (ρ1.set i (.own kk (.ins C (putN f ns) (putX f (.o o) ns fs))))) :=
  fun w σ I H Dn ev p => wpS_of (ps_fld (pe_var hN hv hd hcd) pe_wp hs) (h w σ I H _ ev fun y I1 H1 s1 e1 => by
    obtain ⟨v, φ, ψ, hv', at_, at2, dj, out, c⟩ := e1.take hq
    cases at_ with
    | @ins a0 dx0 _ _ vs _ φ0 h1 h2 h3 h4 h5 h6 =>
      have nda : dx0 ≠ a0 := ne_of h3 h1 (by intro z; cases z)
      have na := out a0 List.mem_cons_self
      have njψ : a0 ∉ ψ := fun z => dj a0 z List.mem_cons_self
      have njx : dx0 ∉ ψ := fun z => dj dx0 z (List.mem_cons_of_mem _ List.mem_cons_self)
      obtain ⟨φ', g1, g2⟩ := fs_putO (f := f) at2 h4 h2 fun b hb z => dj b hb (List.mem_cons_of_mem _ (List.mem_cons_of_mem _ z))
      have nφ : a0 ∉ φ' := fun z => (g2 _ z).elim h5 njψ
      have nx : dx0 ∉ φ' := fun z => (g2 _ z).elim h6 njx
      refine ⟨_, hv', a0, C, _, _, rfl, h1, cl, hn, by rw [List.length_zip]; omega, p _ I1 _ s1 (c _ _ (a0 :: dx0 :: φ') (same_upd2 e1.sub na) (fun b u hb hb' _ => ?_) (fun b hb => ?_) (fun b hb => ?_) (.ins ?_ (len_put h2) ?_ (g1.mono (Same.refl I1) fun b hb u hu => ?_) nφ nx) fun b hb => ?_)⟩
      · rw [upd_ne fun z => hb' (by rw [z]; exact List.mem_cons_self)]
        exact hb
      · by_cases z : b = a0
        · rw [z]; exact ⟨_, upd_same⟩
        · rw [upd_ne z]
          exact (OwnAt.ins h1 h2 h3 h4 h5 h6).there b hb
      · rw [upd_ne fun z => njψ (by rw [← z]; exact hb)]
        exact at2.there b hb
      · rw [upd_same, zip_put h2]
      · rw [upd_ne nda]; exact h3
      · rw [upd_ne fun z => nφ (by rw [← z]; exact hb)]; exact hu
      · rcases List.mem_cons.mp hb with z | z
        · rw [z]; exact .inl List.mem_cons_self
        · rcases List.mem_cons.mp z with z | z
          · rw [z]; exact .inl (List.mem_cons_of_mem _ List.mem_cons_self)
          · exact (g2 b z).elim (fun y => .inl (List.mem_cons_of_mem _ (List.mem_cons_of_mem _ y))) .inr)
end
end Dt


set_option Elab.async false
set_option linter.all false
set_option maxRecDepth 100000
set_option maxHeartbeats 1000000
/-! Methods, making, defs that only look. -/
namespace Dt
open PySem PySem.Spec PyProof.Rows L2
section
variable {Pr : Program} {wo : World} {K : PySem.W.Frag} {mg : Str → Option Value} {base : Heap}
theorem fnO {x qual : Str} {st : Stmt} {f : Addr} {fd : FuncData} {N ns : List Str} {k n : Nat} {fc : Con} (F : Fun K x qual st f fd) (Sc : FnScope N ns (defScope st)) (hl : ∀ qs r os, fc qs r os → qs.length = ns.length) (hn : N.length - ns.length = n)
    (hb : ∀ f cdv A outer s H E, Cz (Xd Pr wo K mg base N qual st f cdv A outer s H E) (Wd0 E) k → ∀ qs r os, fc qs r os → ∃ o, DSs (Xd Pr wo K mg base N qual st f cdv A outer s H E) (Wd0 E) (defBody st) (toS 0 qs ++ List.replicate n .no) o ∧ Tells qs os o r) :
    FnOk Pr wo K mg base (L2.CX Pr wo) (k + 1) f fd ns (spC K fc) := by
  refine F.okX Sc (fun vs H Q E h => ?_) (fun cdv A outer s H vs Q E hr h => ?_)
  · obtain ⟨I, qs, A, B, M, r, os, h1, h2, h3, _⟩ := h
    rw [h2.length]
    exact hl _ _ _ h3
  · obtain ⟨I, qs, A', B, M, r, os, h1, h2, h3, h4⟩ := h
    have hlen : vs.length = ns.length := by rw [h2.length]; exact hl _ _ _ h3
    have ev := ev_start (N := N) (n := n) h1 h2 (by rw [hlen]; exact hn)
    refine ⟨_, pss_wp, ?_⟩
    have cz : Cz (Xd Pr wo K mg base N qual st f cdv A outer s H E) (Wd0 E) k := ⟨rfl, Sc.nd, takes_of rfl rfl rfl rfl, passes_of rfl, hr⟩
    obtain ⟨o, h5, h6⟩ := hb f cdv A outer s H E cz qs r os h3
    exact h5 _ _ I H _ ev (tells_done h2 h4 h6)
/-- what the head tells of a method -/
structure MetAt (K : PySem.W.Frag) (C : Addr) (m qual : Str) (st : Stmt) (ns : List Str) : Prop where
  ex : ∃ f fd, Fun K m qual st f fd ∧ Meth K C m f ∧ Binds K fd ns []
/-- .. of __init__ -/
structure IniAt (K : PySem.W.Frag) (C : Addr) (qual : Str) (st : Stmt) (ns : List Str) : Prop where
  ex : ∃ f fd, Fun K "__init__" qual st f fd ∧ Mk K C f ∧ Binds K fd ns []
/-- a method keeps a promise -/
def MtAt (Pr : Program) (wo : World) (K : PySem.W.Frag) (mg : Str → Option Value) (base : Heap) (C : Addr) (m : Str) (j : Nat) (ns : List Str) (fc : Con) : Prop :=
  ∃ f fd, FnOk Pr wo K mg base (L2.CX Pr wo) j f fd ns (spC K fc) ∧ Meth K C m f ∧ Binds K fd ns []
def InAt (Pr : Program) (wo : World) (K : PySem.W.Frag) (mg : Str → Option Value) (base : Heap) (C : Addr) (j : Nat) (ns : List Str) (fc : Con) : Prop :=
  ∃ f fd, FnOk Pr wo K mg base (L2.CX Pr wo) j f fd ns (spC K fc) ∧ Mk K C f ∧ Binds K fd ns []
theorem mtAt {C : Addr} {m qual : Str} {st : Stmt} {N ns : List Str} {k n : Nat} {fc : Con} (F : MetAt K C m qual st ns) (Sc : FnScope N ns (defScope st)) (hl : ∀ qs r os, fc qs r os → qs.length = ns.length) (hn : N.length - ns.length = n)
    (hb : ∀ f cdv A outer s H E, Cz (Xd Pr wo K mg base N qual st f cdv A outer s H E) (Wd0 E) k → ∀ qs r os, fc qs r os → ∃ o, DSs (Xd Pr wo K mg base N qual st f cdv A outer s H E) (Wd0 E) (defBody st) (toS 0 qs ++ List.replicate n .no) o ∧ Tells qs os o r) :
    MtAt Pr wo K mg base C m (k + 1) ns fc := by
  obtain ⟨f, fd, F, M, B⟩ := F.ex
  exact ⟨f, fd, fnO F Sc hl hn hb, M, B⟩
theorem inAt {C : Addr} {qual : Str} {st : Stmt} {N ns : List Str} {k n : Nat} {fc : Con} (F : IniAt K C qual st ns) (Sc : FnScope N ns (defScope st)) (hl : ∀ qs r os, fc qs r os → qs.length = ns.length) (hn : N.length - ns.length = n)
    (hb : ∀ f cdv A outer s H E, Cz (Xd Pr wo K mg base N qual st f cdv A outer s H E) (Wd0 E) k → ∀ qs r os, fc qs r os → ∃ o, DSs (Xd Pr wo K mg base N qual st f cdv A outer s H E) (Wd0 E) (defBody st) (toS 0 qs ++ List.replicate n .no) o ∧ Tells qs os o r) :
    InAt Pr wo K mg base C (k + 1) ns fc := by
  obtain ⟨f, fd, F, M, B⟩ := F.ex
  exact ⟨f, fd, fnO F Sc hl hn hb, M, B⟩
end
/-! ### calls of methods -/
section
variable {X : Cx} {CX : CXT} {k : Nat} {f C : Addr} {fd : FuncData} {ps : List Str} {sp : Sp} {E : L2.St → XK} {m : Str} {pos apos : Pos} {e o : Expr} {es : List Expr} {ta : TE} {t : TA}
def tMtX (C : Addr) (m : Str) (sp : Sp) (E : L2.St → XK) (ta : TE) (t : TA) : TE := fun σ H Q => ta σ H fun x H1 => ∃ a dx fs, x = .ref a ∧ H1 a = some (.ins C dx fs) ∧ fs.lookup m = none ∧ t σ H1 fun vs H2 => sp (x :: vs) H2 Q (E σ)
theorem pe_mtX {pl : Sem Bool} (he : PE X o ta) (c : Cls X.K C) (hm : Meth X.K C m f) (F : FnOk X.prog X.w X.K X.mg X.base CX k f fd ps sp) (hr : Room k X.A) (hb : Binds X.K fd ps []) (hx : ∀ σ, PassesAt CX X σ (E σ)) (ha : PA X (e :: es) t)
    (hst : starEach (e :: es) X.env = (false, eval e X.env) :: starEach es X.env) (hpl : (backTo pos (starEach es X.env)).any (·.1) = false)
    (ht : eval (.Call (.Attribute o m apos) (e :: es) [] pos) X.env = (do
      let ov ← eval o X.env
      standAt apos.atName
      let (f, first) ← holding [ov] (getMethod ov m pl)
      callWith pos f first (backTo pos (starEach (e :: es) X.env)) (backToKw pos (keywordEach [] X.env)))) :
    PE X (.Call (.Attribute o m apos) (e :: es) [] pos) (tMtX C m sp E ta t) := by
  refine ⟨fun pins s σ H Q I h => ?_⟩
  refine PySem.W.methodCall_KW (pl := pl) (thn (he.run pins s σ H _ I h) fun u s1 ⟨x, H1, I1, rx, a, dx, fs, ex, ea, l, q⟩ => ?_) ht
  subst ex
  obtain rfl : u = Value.ref a := rx
  refine getmeth_ok I1 ea c hm l ?_
  refine PySem.W.callWith_K (first := [.ref a]) (h₀ := X.base) I.ok.mod.kin hm.kp (thn (ha.run pos pins s1 σ H1 _ I1 q) fun us s2 ⟨vs, H2, I2, r, q2⟩ => ⟨I2.kIn, ?_⟩) hst hpl
  exact run_fnS (us := .ref a :: us) (vs := .ref a :: vs) F hr hb (hx σ) I2 (.cons rfl r) q2
theorem pe_mtX0 {pl : Sem Bool} (he : PE X o ta) (c : Cls X.K C) (hm : Meth X.K C m f) (F : FnOk X.prog X.w X.K X.mg X.base CX k f fd ps sp) (hr : Room k X.A) (hb : Binds X.K fd ps []) (hx : ∀ σ, PassesAt CX X σ (E σ))
    (ht : eval (.Call (.Attribute o m apos) [] [] pos) X.env = (do
      let ov ← eval o X.env
      standAt apos.atName
      let (f, first) ← holding [ov] (getMethod ov m pl)
      callWith pos f first (backTo pos (starEach [] X.env)) (backToKw pos (keywordEach [] X.env)))) :
    PE X (.Call (.Attribute o m apos) [] [] pos) (tMtX C m sp E ta tNil) := by
  refine ⟨fun pins s σ H Q I h => ?_⟩
  refine PySem.W.methodCall_KW (pl := pl) (thn (he.run pins s σ H _ I h) fun u s1 ⟨x, H1, I1, rx, a, dx, fs, ex, ea, l, q⟩ => ?_) ht
  subst ex
  obtain rfl : u = Value.ref a := rx
  refine getmeth_ok I1 ea c hm l ?_
  exact PySem.W.callWith_K0 (first := [.ref a]) I1.kIn hm.kp (run_fnS (us := [.ref a]) (vs := [.ref a]) F hr hb (hx σ) I1 (.cons rfl .nil) q)
end
theorem look_no {α : Type} {m : Str} : ∀ {ns : List Str} {l : List α}, m ∉ ns → (ns.zip l).lookup m = none
  | [], _, _ => by simp
  | _ :: _, [], _ => by simp
  | g :: r, y :: ys, h => by
    rw [List.zip_cons_cons, look_cons, if_neg fun z => h (by rw [z]; exact List.mem_cons_self)]
    exact look_no fun z => h (List.mem_cons_of_mem _ z)
section
variable {X : Cx} {W : WX} {ρ ρ1 ρ2 ρ3 : List S} {pos apos npos p : Pos} {e o : Expr} {es : List Expr} {d : D} {ds xs : List D} {C : Addr} {ns ps : List Str} {fs : List F} {m x : Str} {i j k : Nat} {kk : Option Nat} {fc : Con} {r : Res} {os : List O} {as : List Ag} {qs : List P} {pl : Sem Bool}
/-- d.m(..), d data -/
theorem de_mt (c : Cz X W k) (F : MtAt X.prog X.w X.K X.mg X.base C m j ps fc) (hj : j ≤ k) (cl : Cls X.K C) (ho : DE X W o ρ (.val (.ins C ns xs) ρ1)) (ha : DG X W (e :: es) ρ1 as ρ2) (hp : Pas ρ2 as qs) (hf : fc (.v (.ins C ns xs) :: qs) r os) (nd : (iosOf as).Nodup) (hno : m ∉ ns) (nd2 : (mvsOf as).Nodup := by exact .nil) (nd3 : ∀ i ∈ iosOf as, i ∉ mvsOf as := by intro _ _ z; cases z)
    (hst : starEach (e :: es) X.env = (false, eval e X.env) :: starEach es X.env := by exact Dt.star_cons rfl) (hpl : (backTo pos (starEach es X.env)).any (·.1) = false := by rfl)
    (ht : eval (.Call (.Attribute o m apos) (e :: es) [] pos) X.env = (do
      let ov ← eval o X.env
      standAt apos.atName
      let (f, first) ← holding [ov] (getMethod ov m pl)
      callWith pos f first (backTo pos (starEach (e :: es) X.env)) (backToKw pos (keywordEach [] X.env))) := by rfl) :
    DE X W (.Call (.Attribute o m apos) (e :: es) [] pos) ρ (r.ov (clr (mvsOf as) (putS (iosOf as) os ρ2))) := by
  obtain ⟨f, fd, F, M, B⟩ := F
  refine fun w σ I H Q ev q => wpE_of (pe_mtX pe_wp cl M F (c.rm.mono hj) B (fun σ => passAt c.tk σ) pa_wp hst hpl ht) (ho w σ I H _ ev fun v I1 H1 s1 e1 rv => ?_)
  have rv' := rv
  cases rv with
  | ins h1 h2 h3 => exact ⟨_, _, _, rfl, e1.sub _ _ h1, look_no hno, ha w σ I1 H1 _ e1 fun vs I2 H2 s2 e2 ag => call_end (as := .v (.ins C ns xs) :: as) e2 (.v (rv'.up s2) ag) (.v hp) hf nd nd2 nd3 (q.mono (s1.trans s2))⟩
theorem de_mt0 (c : Cz X W k) (F : MtAt X.prog X.w X.K X.mg X.base C m j ps fc) (hj : j ≤ k) (cl : Cls X.K C) (ho : DE X W o ρ (.val (.ins C ns xs) ρ1)) (hf : fc [.v (.ins C ns xs)] r os) (hno : m ∉ ns)
    (ht : eval (.Call (.Attribute o m apos) [] [] pos) X.env = (do
      let ov ← eval o X.env
      standAt apos.atName
      let (f, first) ← holding [ov] (getMethod ov m pl)
      callWith pos f first (backTo pos (starEach [] X.env)) (backToKw pos (keywordEach [] X.env))) := by rfl) :
    DE X W (.Call (.Attribute o m apos) [] [] pos) ρ (r.ov ρ1) := by
  obtain ⟨f, fd, F, M, B⟩ := F
  refine fun w σ I H Q ev q => wpE_of (pe_mtX0 pe_wp cl M F (c.rm.mono hj) B (fun σ => passAt c.tk σ) ht) (ho w σ I H _ ev fun v I1 H1 s1 e1 rv => ?_)
  have rv' := rv
  cases rv with
  | ins h1 h2 h3 => exact ⟨_, _, _, rfl, e1.sub _ _ h1, look_no hno, call_end (as := [.v (.ins C ns xs)]) e1 (.v rv' .nil) (.v .nil) hf .nil .nil (fun _ z => by cases z) (q.mono s1)⟩
/-- x.m(..), x owned -/
theorem de_mtO (c : Cz X W k) (F : MtAt X.prog X.w X.K X.mg X.base C m j ps fc) (hj : j ≤ k) (cl : Cls X.K C) (hq : ρ[i]? = some (.own kk (.ins C ns fs))) (ha : DG X W (e :: es) ρ as ρ2) (hq2 : ρ2[i]? = some (.own kk (.ins C ns fs))) (hp : Pas ρ2 as qs) (hf : fc (.io (.ins C ns fs) :: qs) r os) (nd : (i :: iosOf as).Nodup) (hno : m ∉ ns) (nd2 : (mvsOf as).Nodup := by exact .nil) (nd3 : ∀ j ∈ i :: iosOf as, j ∉ mvsOf as := by intro _ _ z; cases z)
    (hN : X.N[i]? = some x := by rfl) (hv : Vis X.env.scope x := by first | exact Or.inl rfl | exact Or.inr (Or.inl rfl) | exact Or.inr (Or.inr rfl))
    (hst : starEach (e :: es) X.env = (false, eval e X.env) :: starEach es X.env := by exact Dt.star_cons rfl) (hpl : (backTo pos (starEach es X.env)).any (·.1) = false := by rfl)
    (ht : eval (.Call (.Attribute (.Name x npos) m apos) (e :: es) [] pos) X.env = (do
      let ov ← eval (.Name x npos) X.env
      standAt apos.atName
      let (f, first) ← holding [ov] (getMethod ov m pl)
      callWith pos f first (backTo pos (starEach (e :: es) X.env)) (backToKw pos (keywordEach [] X.env))) := by rfl) (hd : (x == ("__debug__" : Str)) = false := by decide) (hcd : (x == ("__classdict__" : Str)) = false := by decide) :
    DE X W (.Call (.Attribute (.Name x npos) m apos) (e :: es) [] pos) ρ (r.ov (clr (mvsOf as) (putS (i :: iosOf as) os ρ2))) := by
  obtain ⟨f, fd, F, M, B⟩ := F
  refine fun w σ I H Q ev q => wpE_of (pe_mtX (pe_var hN hv hd hcd) cl M F (c.rm.mono hj) B (fun σ => passAt c.tk σ) pa_wp hst hpl ht) ?_
  obtain ⟨φ, h1, h2⟩ := ev.owns
  obtain ⟨v, hv', s⟩ := h1 i _ _ hq
  have at_ := s.at_
  generalize φ i = ψ at at_
  cases at_ with
  | ins g1 g2 g3 g4 g5 g6 => exact ⟨_, hv', _, _, _, rfl, g1, look_no hno, ha w σ I H _ ev fun vs I2 H2 s2 e2 ag => call_end (as := .io i :: as) e2 (.io hv' ag) (.io hq2 hp) hf nd nd2 nd3 (q.mono s2)⟩
theorem de_mtO0 (c : Cz X W k) (F : MtAt X.prog X.w X.K X.mg X.base C m j ps fc) (hj : j ≤ k) (cl : Cls X.K C) (hq : ρ[i]? = some (.own kk (.ins C ns fs))) (hf : fc [.io (.ins C ns fs)] r os) (hno : m ∉ ns)
    (hN : X.N[i]? = some x := by rfl) (hv : Vis X.env.scope x := by first | exact Or.inl rfl | exact Or.inr (Or.inl rfl) | exact Or.inr (Or.inr rfl))
    (ht : eval (.Call (.Attribute (.Name x npos) m apos) [] [] pos) X.env = (do
      let ov ← eval (.Name x npos) X.env
      standAt apos.atName
      let (f, first) ← holding [ov] (getMethod ov m pl)
      callWith pos f first (backTo pos (starEach [] X.env)) (backToKw pos (keywordEach [] X.env))) := by rfl) (hd : (x == ("__debug__" : Str)) = false := by decide) (hcd : (x == ("__classdict__" : Str)) = false := by decide) :
    DE X W (.Call (.Attribute (.Name x npos) m apos) [] [] pos) ρ (r.ov (putS [i] os ρ)) := by
  obtain ⟨f, fd, F, M, B⟩ := F
  refine fun w σ I H Q ev q => wpE_of (pe_mtX0 (pe_var hN hv hd hcd) cl M F (c.rm.mono hj) B (fun σ => passAt c.tk σ) ht) ?_
  obtain ⟨φ, h1, h2⟩ := ev.owns
  obtain ⟨v, hv', s⟩ := h1 i _ _ hq
  have at_ := s.at_
  generalize φ i = ψ at at_
  cases at_ with
  | ins g1 g2 g3 g4 g5 g6 => exact ⟨_, hv', _, _, _, rfl, g1, look_no hno, call_end (as := [.io i]) ev (.io hv' .nil) (.io hq .nil) hf (List.nodup_cons.mpr ⟨by simp [iosOf], .nil⟩) .nil (fun _ _ z => by cases z) q⟩
/-! ### making -/
theorem passF {P : Program} {w : World} : Passes (L2.CX P w) X (fun _ _ _ => False) := fun pins σ H s e s' I c => by
  obtain ⟨a, B, H', cls, d, _, _, _, _, _, _, _, z⟩ := c
  exact z.elim
theorem setO_last {o o' : O} {k : Option Nat} : ∀ {ρ : List S}, setO o' ρ.length (ρ ++ [.own k o]) = ρ ++ [.own k o']
  | [] => rfl
  | s :: r => by
    show s :: setO o' r.length (r ++ [.own k o]) = _
    rw [setO_last (ρ := r)]
    rfl
theorem de_make (c : Cz X W k) (F : InAt X.prog X.w X.K X.mg X.base C j ps fc) (hj : j + 1 ≤ k) (hm : X.mg x = some (.ref C)) (ha : DA X W (e :: es) ρ ds ρ1) (hf : fc (.io (.ins C [] []) :: ds.map P.v) (.ret .non) [.ins C ns fs]) (hg : Gl X x := by rfl)
    (hdb : (x == ("__debug__" : Str)) = false := by decide) (he : starEach (e :: es) X.env = (false, eval e X.env) :: starEach es X.env := by exact Dt.star_cons rfl) (hpl : (backTo pos (starEach es X.env)).any (·.1) = false := by rfl) :
    DE X W (.Call (.Name x p) (e :: es) [] pos) ρ (.own (.ins C ns fs) ρ1) := by
  obtain ⟨f, fd, F, M, B⟩ := F
  refine fun w σ I H Q ev q => wpE_of (pe_make M F (c.rm.mono hj) hg hm B .nil passF pa_wp hdb he hpl) (ha w σ I H _ ev fun vs I1 H1 s1 e1 r => fun y dx hy hdx hne => ?_)
  have sm : Same H1 (upd (upd H1 dx (.own y)) y (.ins C dx [])) := fun b u hb => by
    rw [upd_ne (ne_of_none hb hy), upd_ne (ne_of_none hb hdx)]
    exact hb
  have e2 := e1.born (v := .ref y) (o := .ins C [] []) (φ := [y, dx]) sm (.ins (vs := []) upd_same rfl (by rw [upd_ne hne, upd_same]) .nil (by simp) (by simp)) (fun b hb => by
    rcases List.mem_cons.mp hb with z | z
    · rw [z]; exact hy
    · rw [List.mem_singleton.mp z]; exact hdx)
  have el := e1.len
  rw [List.append_nil]
  refine call_end (W := fun _ _ _ _ => False) (as := .io ρ1.length :: ds.map Ag.v) (fc := fc) (r := .ret .non) e2 (.io (by rw [← el]; exact get_app_r) (agAt_of r)) (.io get_app_r (pas_v ds)) hf ?_ ?_ ?_ ?_
  · show (ρ1.length :: iosOf (ds.map Ag.v)).Nodup
    rw [ios_v]
    exact List.nodup_cons.mpr ⟨by simp, .nil⟩
  · show (mvsOf (ds.map Ag.v)).Nodup
    rw [mvs_v]
    exact .nil
  · intro n _ z
    have z : n ∈ mvsOf (ds.map Ag.v) := z
    rw [mvs_v] at z
    cases z
  · show PostE X.K w _ _ _ _ (.val .non (clr (mvsOf (ds.map Ag.v)) (putS (ρ1.length :: iosOf (ds.map Ag.v)) [.ins C ns fs] (ρ1 ++ [.own none (.ins C [] [])]))))
    rw [ios_v, mvs_v]
    show PostE X.K w _ _ _ _ (.val .non (setO (.ins C ns fs) ρ1.length (ρ1 ++ [.own none (.ins C [] [])])))
    rw [setO_last]
    intro v I3 H3 s3 e3 rv
    cases rv
    exact ⟨rfl, q _ I3 H3 (s1.trans s3) e3⟩
end
end Dt


set_option Elab.async false
set_option linter.all false
set_option maxRecDepth 100000
set_option maxHeartbeats 1000000
/-! Looking at what is owned, as if it stood still; dicts. -/
namespace Dt
open PySem PySem.Spec PyProof.Rows L2

/-- every slot as data -/
def frzS1 : S → S
  | .own _ o => .v o.era
  | s => s
def frzS (ρ : List S) : List S := ρ.map frzS1
def flat1 : D → Bool
  | .non => true
  | .bl _ => true
  | .int _ => true
  | .str _ => true
  | _ => false
theorem flat_any {K : PySem.W.Frag} {I I' : Hp} {v : V} {d : D} (h : flat1 d = true) (r : Rp K I v d) : Rp K I' v d := by
  cases r with
  | non => exact .non
  | bl b => exact .bl b
  | int i => exact .int i
  | str x => exact .str x
  | _ => exact absurd h Bool.false_ne_true
theorem flat_anys {K : PySem.W.Frag} {I I' : Hp} : ∀ {vs : List V} {ds : List D}, ds.all flat1 = true → RpAll K I vs ds → RpAll K I' vs ds
  | _, _, _, .nil => .nil
  | _, _, h, .cons a t => by
    rw [List.all_cons, Bool.and_eq_true] at h
    exact .cons (flat_any h.1 a) (flat_anys h.2 t)
mutual
def flatO : O → Bool
  | .lst ds => ds.all flat1
  | .dic _ ds => ds.all flat1
  | .rws _ => false
  | .ins _ _ fs => flatFs fs
  | .ols fs => flatFs fs
  | .tup fs => flatFs fs
def flatF : F → Bool
  | .d d => flat1 d
  | .o o => flatO o
def flatFs : List F → Bool
  | [] => true
  | f :: r => flatF f && flatFs r
end
section
variable {K : PySem.W.Frag} {I I' H : Hp}
mutual
theorem OwnAt.flat : ∀ {v : V} {o : O} {φ : List Addr}, OwnAt K I H v o φ → flatO o = true → OwnAt K I' H v o φ
  | _, _, _, .lst h1 h2, h => .lst h1 (flat_anys h h2)
  | _, _, _, .dic h1 h2 h3 h4, h => .dic h1 h2 h3 (flat_anys h h4)
  | _, _, _, .rws h1 h2 h3, h => absurd h Bool.false_ne_true
  | _, _, _, .ins h1 h2 h3 h4 h5 h6, h => .ins h1 h2 h3 (FsAt.flat h4 h) h5 h6
  | _, _, _, .ols h1 h2 h3, h => .ols h1 (FsAt.flat h2 h) h3
  | _, _, _, .tup h1 h2 h3, h => .tup h1 (FsAt.flat h2 h) h3
theorem FsAt.flat : ∀ {vs : List V} {fs : List F} {φ : List Addr}, FsAt K I H vs fs φ → flatFs fs = true → FsAt K I' H vs fs φ
  | _, _, _, .nil, _ => .nil
  | _, _, _, .d h1 h2, h => by
    have h := Bool.and_eq_true_iff.mp h
    exact .d (flat_any h.1 h1) (FsAt.flat h2 h.2)
  | _, _, _, .o h1 h2 h3, h => by
    have h := Bool.and_eq_true_iff.mp h
    exact .o (OwnAt.flat h1 h.1) (FsAt.flat h2 h.2) h3
end
end
section
variable {K : PySem.W.Frag} {w : Wd} {I H : Hp} {σ : L2.St} {ρ : List S}
/-- everything that is owned stands still for a while -/
theorem Ev.peek (e : Ev K w I H σ ρ) : ∃ I', Same I I' ∧ Ev K ⟨I', H, [], [], fun _ => none⟩ I' H σ (frzS ρ) := by
  obtain ⟨φ, h1, h2⟩ := e.owns
  let In : Addr → Prop := fun b => ∃ i k o, ρ[i]? = some (S.own k o) ∧ b ∈ φ i
  have dec : ∀ b, Decidable (In b) := fun b => Classical.propDecidable _
  let I' : Hp := fun b => @ite _ (In b) (dec b) (H b) (I b)
  have iin : ∀ b, In b → I' b = H b := fun b h => @if_pos _ (dec b) h _ _ _
  have iout : ∀ b, ¬ In b → I' b = I b := fun b h => @if_neg _ (dec b) h _ _ _
  have sI : Same I I' := fun b u hb => by
    by_cases z : In b
    · obtain ⟨i, k, o, q, z⟩ := z
      obtain ⟨v, _, s⟩ := h1 i k o q
      rw [s.out b z] at hb
      cases hb
    · rw [iout b z]; exact hb
  have sH : Same I' H := fun b u hb => by
    by_cases z : In b
    · rw [iin b z] at hb; exact hb
    · rw [iout b z] at hb; exact e.sub b u hb
  have look : ∀ (i : Nat) (s : S), (frzS ρ)[i]? = some s → ∃ s', ρ[i]? = some s' ∧ frzS1 s' = s := fun i s q => by
    unfold frzS at q
    rw [List.getElem?_map] at q
    cases h : ρ[i]? with
    | none => rw [h] at q; cases q
    | some s' => rw [h] at q; exact ⟨s', rfl, Option.some.inj q⟩
  refine ⟨I', sI, sH, Same.refl _, fun b o h _ => h, fun b o h => .inl h, fun b o h => ⟨o, h⟩, fun b o h => (by cases h), fun b o h => (by cases h), by unfold frzS; rw [List.length_map]; exact e.len, fun i d q => ?_, fun _ => [], fun i k o q => ?_, fun i j k k' o o' _ q => ?_⟩
  · obtain ⟨s, q1, q2⟩ := look i _ q
    cases s with
    | no => cases q2
    | v d' =>
      cases q2
      obtain ⟨v, g1, g2⟩ := e.vals i d q1
      exact ⟨v, g1, g2.up sI⟩
    | own k o =>
      cases q2
      obtain ⟨v, hv, s⟩ := h1 i k o q1
      exact ⟨v, hv, s.at_.frz sI fun a ha => iin a ⟨i, k, o, q1, ha⟩⟩
  · obtain ⟨s, q1, q2⟩ := look i _ q
    cases s <;> cases q2
  · obtain ⟨s, q1, q2⟩ := look i _ q
    cases s <;> cases q2
end
section
variable {X : Cx} {W : WX} {ρ ρ1 ρ2 ρ3 : List S} {pos : Pos} {a b c e : Expr} {es : List Expr} {d : D}
theorem Ev.look {K : PySem.W.Frag} {w : Wd} {I I' H H' : Hp} {σ σ' : L2.St} {ρ ρ' : List S} (e : Ev K w I H σ ρ) (g : Ev K ⟨I', H, [], [], fun _ => none⟩ I' H' σ' ρ') : Same H H' := fun b o hb => g.frm b o hb fun _ z => by cases z
/-- e only looks -/
theorem de_peek (h : DE X W e (frzS ρ) (.val d ρ1)) (hf : flat1 d = true) : DE X W e ρ (.val d ρ) := fun w σ I H Q ev p => by
  obtain ⟨I', sI, e'⟩ := ev.peek
  refine h _ σ I' H Q e' fun v I2 H2 s2 e2 r => p v I H2 (Same.refl I) ?_ (flat_any hf r)
  have sm : Same H H2 := fun b o hb => e2.frm b o hb fun _ z => (by cases z)
  exact ev.grow (Same.refl I) (ev.sub.trans sm) sm fun b o z => .inl z
theorem de_peekO {o : O} (h : DE X W e (frzS ρ) (.own o ρ1)) (hf : flatO o = true) : DE X W e ρ (.own o ρ) := fun w σ I H Q ev p => by
  obtain ⟨I', sI, e'⟩ := ev.peek
  refine h _ σ I' H Q e' fun v I2 H2 s2 e2 => ?_
  have sm : Same H H2 := fun b o hb => e2.frm b o hb fun _ z => by cases z
  obtain ⟨φ, g1, g2⟩ := e2.owns
  obtain ⟨u, hu, s⟩ := g1 _ _ _ get_app_r
  have el := e2.pop.len
  rw [← el, get_app_r] at hu
  cases hu
  exact p v I H2 (Same.refl I) (ev.born sm (s.at_.flat hf) fun a ha => s.io a ha)
theorem de_peekX {C : Addr} (h : DE X W e (frzS ρ) (.exc (.p C) ρ1)) : DE X W e ρ (.exc (.p C) ρ) := fun w σ I H Q ev p => by
  obtain ⟨I', sI, e'⟩ := ev.peek
  refine h _ σ I' H Q e' fun I2 H2 s2 e2 => p I H2 (Same.refl I) ?_
  have sm : Same H H2 := fun b o hb => e2.frm b o hb fun _ z => (by cases z)
  exact ev.grow (Same.refl I) (ev.sub.trans sm) sm fun b o z => .inl z
theorem dt_peek {k : Bool} (h : DT X W e (frzS ρ) k ρ1) : DT X W e ρ k ρ := fun w σ I H Q ev p => by
  obtain ⟨I', sI, e'⟩ := ev.peek
  refine h _ σ I' H Q e' fun I2 H2 s2 e2 => p I H2 (Same.refl I) ?_
  have sm : Same H H2 := fun b o hb => e2.frm b o hb fun _ z => (by cases z)
  exact ev.grow (Same.refl I) (ev.sub.trans sm) sm fun b o z => .inl z
end
/-! ### dicts -/
section
variable {K : PySem.W.Frag} {I : Hp} {a : Addr} {kv : List (Key × V)} {o : Obj}
mutual
theorem Rp.lock (h : I a = some (.dK kv)) : ∀ (d : D) (v : V), Rp K I v d → Rp K (upd I a (.frz o (.dK kv))) v d
  | .non, _, h1 => by cases h1; exact .non
  | .bl b, _, h1 => by cases h1; exact .bl b
  | .int i, _, h1 => by cases h1; exact .int i
  | .str x, _, h1 => by cases h1; exact .str x
  | .lst ds, _, h1 => by
    cases h1 with
    | lst h1 h2 => exact .lst (by rw [upd_ne (ne_of h1 h (by intro z; cases z))]; exact h1) (RpAll.lock h ds _ h2)
  | .tup ds, _, h1 => by
    cases h1 with
    | tup h1 h2 =>
      refine .tup ?_ (RpAll.lock h ds _ h2)
      rcases h1 with (h1 | ⟨o, h1⟩) | h1
      · exact .inl (.inl (by rw [upd_ne (ne_of h1 h (by intro z; cases z))]; exact h1))
      · exact .inl (.inr ⟨o, by rw [upd_ne (ne_of h1 h (by intro z; cases z))]; exact h1⟩)
      · exact .inr h1
  | .exc C, _, h1 => by
    cases h1 with
    | exc h1 => exact .exc (by rw [upd_ne (ne_of h1 h (by unfold ExH; intro z; cases z))]; exact h1)
  | .scr ns, _, h1 => by
    cases h1 with
    | scr h1 =>
      refine .scr ?_
      rcases h1 with (h1 | ⟨o, h1⟩) | h1
      · exact .inl (.inl (by rw [upd_ne (ne_of h1 h (by intro z; cases z))]; exact h1))
      · exact .inl (.inr ⟨o, by rw [upd_ne (ne_of h1 h (by intro z; cases z))]; exact h1⟩)
      · exact .inr h1
  | .ins C ns ds, _, h1 => by
    cases h1 with
    | ins h1 h2 h3 => exact .ins (by rw [upd_ne (ne_of h1 h (by intro z; cases z))]; exact h1) h2 (RpAll.lock h ds _ h3)
  | .dic ks ds, _, h1 => by
    cases h1 with
    | @dic b _ xs _ h1 h2 h3 h4 =>
      refine .dic ?_ h2 h3 (RpAll.lock h ds _ h4)
      by_cases z : b = a
      · subst z
        rcases h1 with h1 | ⟨o', h1⟩
        · rw [h] at h1
          cases h1
          exact .inr ⟨o, upd_same⟩
        · rw [h] at h1
          cases h1
      · rcases h1 with h1 | ⟨o', h1⟩
        · exact .inl (by rw [upd_ne z]; exact h1)
        · exact .inr ⟨o', by rw [upd_ne z]; exact h1⟩
  | .rws ds, _, h1 => by
    cases h1 with
    | rws h1 h2 h3 => exact .rws (by rw [upd_ne (ne_of h1 h (by intro z; cases z))]; exact h1) h2 (RpAll.lock h ds _ h3)
  | .xf C ns ds, _, h1 => by
    cases h1 with
    | xf h1 h2 h3 h4 => exact .xf (by rw [upd_ne (ne_of h1 h (by unfold ExF; intro z; cases z))]; exact h1) (by rw [upd_ne (ne_of h2 h (by intro z; cases z))]; exact h2) h3 (RpAll.lock h ds _ h4)
  | .exn a' d ns ds, _, h1 => by
    cases h1 with
    | exn h1 h2 h3 => exact .exn (by rw [upd_ne (ne_of h1 h (by intro z; cases z))]; exact h1) h2 (RpAll.lock h ds _ h3)
  | .raw v, _, h1 => by cases h1; exact .raw v
  | .dkl ks ds, _, h1 => by
    cases h1 with
    | dkl h1 h2 h3 h4 => exact .dkl (by rw [upd_ne (ne_of h1 h (by intro z; cases z))]; exact h1) h2 h3 (RpAll.lock h ds _ h4)
theorem RpAll.lock (h : I a = some (.dK kv)) : ∀ (ds : List D) (vs : List V), RpAll K I vs ds → RpAll K (upd I a (.frz o (.dK kv))) vs ds
  | [], _, h1 => by cases h1; exact .nil
  | d :: ds, _, h1 => by
    cases h1 with
    | cons h1 h2 => exact .cons (Rp.lock h d _ h1) (RpAll.lock h ds _ h2)
end
end
section
variable {X : Cx} {W : WX} {ρ ρ1 ρ2 ρ3 : List S} {pos pos' npos apos : Pos} {a b c e tg : Expr} {es : List Expr} {d : D} {ds : List D} {ks : List Str} {i : Nat} {x y : Str}
/-- e runs while the dict in a slot is locked -/
theorem de_lock (hq : ρ[i]? = some (.v (.dic ks ds))) (h : DE X W e (ρ.set i (.v (.dkl ks ds))) (.val d ρ1)) (hf : flat1 d = true) (hn : frzS ρ = ρ := by rfl) : DE X W e ρ (.val d ρ) := fun w σ I H Q ev p => by
  have noOwn : ∀ (i : Nat) (k : Option Nat) (o : O), ρ[i]? ≠ some (S.own k o) := fun i k o q => by
    rw [← hn] at q
    unfold frzS at q
    rw [List.getElem?_map] at q
    cases h : ρ[i]? with
    | none => rw [h] at q; cases q
    | some s => rw [h] at q; cases s <;> cases q
  obtain ⟨v, h1, h2⟩ := ev.vals i _ hq
  cases h2 with
  | @dic a0 _ xs _ g1 g2 g3 g4 =>
    have go : ∀ (I1 H1 : Hp), (∀ (d : D) (v : V), Rp X.K I v d → Rp X.K I1 v d) → Same I1 H1 → Rp X.K I1 (.ref a0) (.dkl ks ds) → Ev X.K ⟨I1, H1, [], [], fun _ => none⟩ I1 H1 σ (ρ.set i (.v (.dkl ks ds))) := fun I1 H1 up sub r => by
      refine ⟨sub, Same.refl _, fun b o h _ => h, fun b o h => .inl h, fun b o h => ⟨o, h⟩, fun b o h => (by cases h), fun b o h => (by cases h), by rw [List.length_set]; exact ev.len, fun j d' q => ?_, fun _ => [], fun j k o q => ?_, fun j j' k k' o o' _ q => ?_⟩
      · rcases get_set q with ⟨z, q, _⟩ | ⟨_, q, _⟩
        · cases q
          subst z
          exact ⟨_, h1, r⟩
        · obtain ⟨u, k1, k2⟩ := ev.vals j d' q
          exact ⟨u, k1, up _ _ k2⟩
      · rcases get_set q with ⟨_, q, _⟩ | ⟨_, q, _⟩
        · cases q
        · exact absurd q (noOwn j k o)
      · rcases get_set q with ⟨_, q, _⟩ | ⟨_, q, _⟩
        · cases q
        · exact absurd q (noOwn j k o)
    rcases g1 with g1 | ⟨o', g1⟩
    · refine wpE_of (pe_lock pe_wp) ⟨a0, .dK (kvOf ks xs), ev.sub _ _ g1, trivial, fun od => ?_⟩
      have sub2 : Same (upd I a0 (.frz od (.dK (kvOf ks xs)))) (upd H a0 (.frz od (.dK (kvOf ks xs)))) := fun b u hb => by
        by_cases z : b = a0
        · subst z; rw [upd_same] at hb ⊢; exact hb
        · rw [upd_ne z] at hb ⊢; exact ev.sub b u hb
      refine h _ σ _ _ _ (go _ _ (fun d v => Rp.lock g1 d v) sub2 (.dkl upd_same g2 g3 (RpAll.lock g1 _ _ g4))) fun v I2 H2 s2 e2 r => ?_
      have keep : ∀ b o, upd H a0 (.frz od (.dK (kvOf ks xs))) b = some o → H2 b = some o := fun b o hb => e2.frm b o hb fun _ z => by cases z
      refine ⟨keep _ _ upd_same, p v I _ (Same.refl I) ?_ (flat_any hf r)⟩
      have sm : Same H (upd H2 a0 (.dK (kvOf ks xs))) := fun b o hb => by
        by_cases z : b = a0
        · subst z
          rw [ev.sub _ _ g1] at hb
          cases hb
          exact upd_same
        · rw [upd_ne z]
          exact keep b o (by rw [upd_ne z]; exact hb)
      exact ev.grow (Same.refl I) (ev.sub.trans sm) sm fun b o z => .inl z
    · refine h _ σ _ _ _ (go _ _ (fun d v r => r) ev.sub (.dkl g1 g2 g3 g4)) fun v I2 H2 s2 e2 r => p v I H2 (Same.refl I) ?_ (flat_any hf r)
      have sm : Same H H2 := fun b o hb => e2.frm b o hb fun _ z => by cases z
      exact ev.grow (Same.refl I) (ev.sub.trans sm) sm fun b o z => .inl z
/-- .. for x in d -/
theorem di_dict (h : DE X W a ρ (.val (.dkl ks ds) ρ1)) : DI X W tg a ρ (ks.map D.str) ρ1 := fun w σ I H R ev p => wpI_of (pi_keys pe_wp) (h w σ I H _ ev fun v I1 H1 s1 e1 r => by
  cases r with
  | @dkl a0 o0 _ xs _ g1 g2 g3 g4 =>
    have hl : (kvOf ks xs).length = (ks.map D.str).length := by
      unfold kvOf
      rw [List.length_zip, List.length_map, List.length_map]
      omega
    refine ⟨a0, o0, rfl, .inl ⟨_, e1.sub _ _ g1, p (Itk a0 o0 (kvOf ks xs)) _ _ I1 H1 s1 e1 (by rw [← hl]; exact walk_keys) (fun I2 H2 s2 s3 => (s2.trans s3) _ _ g1) fun i Hc v H2 I2 hi s2 s3 y => ?_⟩⟩
    obtain ⟨rfl, k, u, y1, rfl⟩ := y
    unfold kvOf at y1
    rw [List.getElem?_zip_eq_some] at y1
    obtain ⟨y1, _⟩ := y1
    rw [List.getElem?_map] at y1
    cases q : ks[i]? with
    | none => rw [q] at y1; cases y1
    | some z =>
      rw [q] at y1
      cases y1
      exact ⟨I2, .str z, Same.refl _, s3, Same.refl _, fun b o z => .inl z, by rw [List.getElem?_map, q]; rfl, .str z⟩)
theorem valV_kv {z : Str} : ∀ {ks : List Str} {vs : List V}, ks.length = vs.length → valV (kvOf ks vs) (Sum.inr z) = (ks.zip vs).lookup z
  | [], [], _ => rfl
  | k :: ks, v :: vs, h => by
    have ih := valV_kv (z := z) (ks := ks) (vs := vs) (by simpa using h)
    rw [List.zip_cons_cons, look_cons, ← ih]
    unfold valV kvOf
    rw [List.map_cons, List.zip_cons_cons, List.find?_cons]
    by_cases e : z = k
    · subst e; simp
    · have e2 : decide ((Sum.inr k : Key) = Sum.inr z) = false := decide_eq_false fun q => e (Sum.inr.inj q).symm
      rw [if_neg e, e2]
theorem look_some {α : Type} {z : Str} : ∀ {ks : List Str} {vs : List α}, ks.length = vs.length → ((ks.zip vs).lookup z).isSome = decide (z ∈ ks)
  | [], [], _ => by simp
  | k :: ks, v :: vs, h => by
    have ih := look_some (z := z) (ks := ks) (vs := vs) (by simpa using h)
    rw [List.zip_cons_cons, look_cons]
    by_cases e : z = k
    · subst e; simp
    · rw [if_neg e, ih]
      simp [e]
theorem rp_dget {K : PySem.W.Frag} {I : Hp} {v : V} {z : Str} (h : Rp K I v (.dic ks ds)) : ∃ a o, v = .ref a ∧ DGet I a (.str z) o ∧ o.isSome = decide (z ∈ ks) ∧ ∀ d, (ks.zip ds).lookup z = some d → ∃ u, o = some u ∧ Rp K I u d := by
  cases h with
  | @dic a0 _ xs _ g1 g2 g3 g4 =>
    refine ⟨a0, _, rfl, .inl ⟨_, Sum.inr z, g1, rfl, rfl⟩, by rw [valV_kv g2, look_some g2], fun d hd => ?_⟩
    rw [valV_kv g2]
    exact rp_look g4 hd
theorem dg_up {I H : Hp} {a0 : Addr} {z : Str} {o : Option V} (s : Same I H) (h : DGet I a0 (.str z) o) : DGet H a0 (.str z) o := by
  rcases h with ⟨kvs, k, r, h1, h2⟩ | ⟨kvs, k, b, r, h1, _⟩
  · exact .inl ⟨kvs, k, same_rd s r, h1, h2⟩
  · cases h1
/-- z in d, z not in d -/
theorem de_inD {k : Nat} {z : Str} (cz : Cz X W k) (ha : DE X W a ρ (.val (.str z) ρ1)) (hb : DE X W b ρ1 (.val (.dic ks ds) ρ2)) (hm : behindInMarks .In b = false := by rfl) : DE X W (.Compare a [.In] [b] pos) ρ (.val (.bl (decide (z ∈ ks))) ρ2) :=
  fun w σ I H Q ev p => wpE_of (pe_cmp (pc_din (hu_of cz.rm) pe_wp pe_wp) hm) (ha w σ I H _ ev fun v1 I1 H1 s1 e1 r1 => hb w σ I1 H1 _ e1 fun v2 I2 H2 s2 e2 r2 => by
    cases r1
    obtain ⟨a0, o, rfl, h1, h2, _⟩ := rp_dget (z := z) r2
    exact ⟨a0, o, rfl, dg_up e2.sub h1, by rw [h2]; exact p _ I2 H2 (s1.trans s2) e2 (.bl _)⟩)
theorem dt_inD {k : Nat} {z : Str} (cz : Cz X W k) (ha : DE X W a ρ (.val (.str z) ρ1)) (hb : DE X W b ρ1 (.val (.dic ks ds) ρ2)) (hm : behindInMarks .In b = false := by rfl) : DT X W (.Compare a [.In] [b] pos) ρ (decide (z ∈ ks)) ρ2 :=
  fun w σ I H Q ev p => wpT_of (pt_cmp (pc_din (hu_of cz.rm) pe_wp pe_wp) hm) (ha w σ I H _ ev fun v1 I1 H1 s1 e1 r1 => hb w σ I1 H1 _ e1 fun v2 I2 H2 s2 e2 r2 => by
    cases r1
    obtain ⟨a0, o, rfl, h1, h2, _⟩ := rp_dget (z := z) r2
    exact ⟨a0, o, rfl, dg_up e2.sub h1, _, rfl, by rw [h2]; exact p I2 H2 (s1.trans s2) e2⟩)
theorem dt_notInD {k : Nat} {z : Str} (cz : Cz X W k) (ha : DE X W a ρ (.val (.str z) ρ1)) (hb : DE X W b ρ1 (.val (.dic ks ds) ρ2)) (hm : behindInMarks .NotIn b = false := by rfl) : DT X W (.Compare a [.NotIn] [b] pos) ρ (!decide (z ∈ ks)) ρ2 :=
  fun w σ I H Q ev p => wpT_of (pt_cmp (pc_dnotin (hu_of cz.rm) pe_wp pe_wp) hm) (ha w σ I H _ ev fun v1 I1 H1 s1 e1 r1 => hb w σ I1 H1 _ e1 fun v2 I2 H2 s2 e2 r2 => by
    cases r1
    obtain ⟨a0, o, rfl, h1, h2, _⟩ := rp_dget (z := z) r2
    exact ⟨a0, o, rfl, dg_up e2.sub h1, _, rfl, by rw [h2]; exact p I2 H2 (s1.trans s2) e2⟩)
/-- d[z] -/
theorem de_getD {k : Nat} {z : Str} (cz : Cz X W k) (hb : DE X W b ρ (.val (.dic ks ds) ρ1)) (ha : DE X W a ρ1 (.val (.str z) ρ2)) (hl : (ks.zip ds).lookup z = some d) (hs : NoSl a := by intro _ _ _ _ z; cases z) : DE X W (.Subscript b a pos) ρ (.val d ρ2) :=
  fun w σ I H Q ev p => wpE_of (pe_dget (hu_of cz.rm) pe_wp pe_wp hs) (hb w σ I H _ ev fun v1 I1 H1 s1 e1 r1 => ha w σ I1 H1 _ e1 fun v2 I2 H2 s2 e2 r2 => by
    cases r2
    obtain ⟨a0, o, rfl, h1, h2, h3⟩ := rp_dget (z := z) (r1.up s2)
    obtain ⟨u, rfl, ru⟩ := h3 d hl
    exact ⟨a0, u, rfl, dg_up e2.sub h1, p u I2 H2 (s1.trans s2) e2 ru⟩)
/-- {} -/
theorem de_dict0 : DE X W (.Dict [] [] pos) ρ (.own (.dic [] []) ρ) := fun w σ I H Q ev p => wpE_of pe_dnewK fun q hq =>
  p _ I _ (Same.refl I) (ev.born (v := .ref q) (φ := [q]) (same_upd hq) (.dic (vs := []) upd_same rfl .nil .nil) fun a ha => by rw [List.mem_singleton.mp ha]; exact hq)
theorem putK_kv {z : Str} {v : V} : ∀ {ks : List Str} {vs : List V}, ks.length = vs.length → ks.Nodup → putK (kvOf ks vs) (Sum.inr z) v = kvOf (putN z ks) (putX z v ks vs) := by
  have map_no : ∀ {ks : List Str} {vs : List V}, z ∉ ks → (kvOf ks vs).map (fun kv => if kv.1 = Sum.inr z then (kv.1, v) else kv) = kvOf ks vs := by
    intro ks
    induction ks with
    | nil => intro vs _; rfl
    | cons k ks ih =>
      intro vs hn
      cases vs with
      | nil => rfl
      | cons u vs =>
        unfold kvOf at ih ⊢
        rw [List.map_cons, List.zip_cons_cons, List.map_cons, ih fun q => hn (List.mem_cons_of_mem _ q), if_neg fun q => hn (by rw [← Sum.inr.inj q]; exact List.mem_cons_self)]
  have any_iff : ∀ {ks : List Str} {vs : List V}, ks.length = vs.length → ((kvOf ks vs).any fun kv => decide (kv.1 = Sum.inr z)) = decide (z ∈ ks) := by
    intro ks
    induction ks with
    | nil => intro vs _; simp [kvOf]
    | cons k ks ih =>
      intro vs h
      cases vs with
      | nil => simp at h
      | cons u vs =>
        have ih := ih (vs := vs) (by simpa using h)
        unfold kvOf at ih ⊢
        rw [List.map_cons, List.zip_cons_cons, List.any_cons, ih]
        by_cases e : z = k
        · subst e; simp
        · have e2 : decide ((Sum.inr k : Key) = Sum.inr z) = false := decide_eq_false fun q => e (Sum.inr.inj q).symm
          rw [e2]
          simp [e]
  have put_no : ∀ {ks : List Str} {vs : List V}, ks.length = vs.length → z ∉ ks → putN z ks = ks ++ [z] ∧ putX z v ks vs = vs ++ [v] := by
    intro ks
    induction ks with
    | nil => intro vs h _; cases vs with | nil => exact ⟨rfl, rfl⟩ | cons => simp at h
    | cons k ks ih =>
      intro vs h hn
      cases vs with
      | nil => simp at h
      | cons u vs =>
        obtain ⟨h1, h2⟩ := ih (vs := vs) (by simpa using h) fun q => hn (List.mem_cons_of_mem _ q)
        have ne : ¬ k = z := fun q => hn (by rw [q]; exact List.mem_cons_self)
        unfold putN putX
        rw [if_neg ne, if_neg ne, h1, h2]
        exact ⟨rfl, rfl⟩
  have put_yes : ∀ {ks : List Str} {vs : List V}, ks.length = vs.length → ks.Nodup → z ∈ ks → (kvOf ks vs).map (fun kv => if kv.1 = Sum.inr z then (kv.1, v) else kv) = kvOf (putN z ks) (putX z v ks vs) := by
    intro ks
    induction ks with
    | nil => intro vs _ _ hm; cases hm
    | cons k ks ih =>
      intro vs h nd hm
      cases vs with
      | nil => simp at h
      | cons u vs =>
        rw [List.nodup_cons] at nd
        unfold putN putX
        by_cases e : k = z
        · subst e
          rw [if_pos rfl, if_pos rfl]
          have m := map_no (vs := vs) nd.1
          unfold kvOf at m ⊢
          rw [List.map_cons, List.zip_cons_cons, List.map_cons, m, if_pos rfl]
          rfl
        · rw [if_neg e, if_neg e]
          have ih := ih (vs := vs) (by simpa using h) nd.2 ((List.mem_cons.mp hm).resolve_left fun q => e q.symm)
          unfold kvOf at ih ⊢
          rw [List.map_cons, List.zip_cons_cons, List.map_cons, ih, if_neg fun q => e (Sum.inr.inj q)]
          rfl
  intro ks vs h nd
  unfold putK
  rw [any_iff h]
  by_cases hm : z ∈ ks
  · rw [if_pos (decide_eq_true hm)]
    exact put_yes h nd hm
  · rw [if_neg (by rw [decide_eq_false hm]; exact Bool.false_ne_true)]
    obtain ⟨h1, h2⟩ := put_no h hm
    rw [h1, h2]
    unfold kvOf
    rw [List.map_append, List.zip_append (by rw [List.length_map]; exact h)]
    rfl
theorem nodup_putN {z : Str} : ∀ {ks : List Str}, ks.Nodup → (putN z ks).Nodup ∧ ∀ y ∈ putN z ks, y = z ∨ y ∈ ks
  | [], _ => ⟨by simp [putN], fun y hy => .inl (by simpa [putN] using hy)⟩
  | k :: ks, nd => by
    rw [List.nodup_cons] at nd
    obtain ⟨h1, h2⟩ := nodup_putN (z := z) nd.2
    unfold putN
    by_cases e : k = z
    · rw [if_pos e]
      exact ⟨List.nodup_cons.mpr nd, fun y hy => .inr hy⟩
    · rw [if_neg e]
      refine ⟨List.nodup_cons.mpr ⟨fun q => (h2 k q).elim e nd.1, h1⟩, fun y hy => ?_⟩
      rcases List.mem_cons.mp hy with q | q
      · exact .inr (by rw [q]; exact List.mem_cons_self)
      · exact (h2 y q).elim .inl fun q => .inr (List.mem_cons_of_mem _ q)
theorem rp_putX {K : PySem.W.Frag} {I : Hp} {z : Str} {v : V} {d : D} (rv : Rp K I v d) : ∀ {ks : List Str} {vs : List V} {ds : List D}, RpAll K I vs ds → ks.length = vs.length → RpAll K I (putX z v ks vs) (putX z d ks ds)
  | [], _, _, .nil, _ => .one rv
  | k :: ks, _, _, .cons a t, h => by
    unfold putX
    by_cases e : k = z
    · rw [if_pos e, if_pos e]
      exact .cons rv t
    · rw [if_neg e, if_neg e]
      exact .cons a (rp_putX rv t (by simpa using h))
/-- x[z] = e, x an owned dict -/
theorem ds_dput {k : Nat} {z : Str} {kk : Option Nat} (cz : Cz X W k) (h : DE X W e ρ (.val d ρ1)) (ha : DE X W a ρ1 (.val (.str z) ρ2)) (hq1 : ρ1[i]? = some (.own kk (.dic ks ds))) (hq : ρ2[i]? = some (.own kk (.dic ks ds))) (hz : ks.length < sizeLine) (hN : X.N[i]? = some x := by rfl) (hv : Vis X.env.scope x := by first | exact Or.inl rfl | exact Or.inr (Or.inl rfl) | exact Or.inr (Or.inr rfl))
    (hs : swapsWith e (some (.Subscript (.Name x npos) a pos')) pos.line X.env = pure false := by rfl) (hd : (x == ("__debug__" : Str)) = false := by decide) (hcd : (x == ("__classdict__" : Str)) = false := by decide) :
    DS X W (.Assign [.Subscript (.Name x npos) a pos'] e pos) ρ (.next (ρ2.set i (.own kk (.dic (putN z ks) (putX z d ks ds))))) :=
  fun w σ I H Dn ev p => wpS_of (ps_dput (hu_of cz.rm) (pe_var hN hv hd hcd) pe_wp pe_wp hs) (h w σ I H _ ev fun y I1 H1 s1 e1 r => by
    obtain ⟨v0, φ0, hv0, at0, _⟩ := e1.chg hq1
    refine ⟨v0, hv0, ha w σ I1 H1 _ e1 fun v2 I2 H2 s2 e2 r2 => ?_⟩
    cases r2
    obtain ⟨v, φ, hv', at_, out, _, c⟩ := e2.chg hq
    rw [hv0] at hv'
    cases hv'
    cases at_ with
    | @dic a0 _ vs _ h1 h2 h3 h4 =>
      have na := out a0 List.mem_cons_self
      refine ⟨a0, _, rfl, DPut.k (k := Sum.inr z) h1 (by unfold kvOf; rw [List.length_zip, List.length_map]; omega), p _ I2 _ (s1.trans s2) (c I2 _ _ [a0] (Same.refl I2) (same_upd2 e2.sub na) (fun b u hb hb' => ?_) (fun b u z => .inl z) (fun b hb => ?_) (.dic ?_ (len_put h2) (nodup_putN h3).1 (rp_putX (r.up s2) h4 h2)) fun b hb => ?_)⟩
      · rw [upd_ne fun z => hb' (by rw [z]; exact List.mem_cons_self)]
        exact hb
      · rw [List.mem_singleton.mp hb]; exact ⟨_, upd_same⟩
      · rw [upd_same, putK_kv h2 h3]
      · rw [List.mem_singleton.mp hb]; exact ⟨na, .inl List.mem_cons_self⟩)
end
end Dt


set_option Elab.async false
set_option linter.all false
set_option maxRecDepth 100000
set_option maxHeartbeats 1000000
/-! Errors with attributes. -/
namespace Dt
open PySem PySem.Spec PyProof.Rows L2
section
variable {X : Cx} {e : Expr} {es : List Expr} {ta : TA} {p1 p2 pos : Pos}
/-- S.__init__(self, ..), S an own class without an own __init__ -/
theorem pe_seinit {x : Str} {S0 : Addr} {mc : Value} {pl : Sem Bool} (hg : Gl X x) (hm : X.mg x = some (.ref S0)) (r : ClX.CRead X.K S0 mc) (vV : PySem.W.findCls X.K (.ref S0) mc "__init__" = some (.val (.builtin "ValueError.__init__"))) (ha : PA X (e :: es) ta)
    (hc : eval (.Call (.Attribute (.Name x p1) "__init__" p2) (e :: es) [] pos) X.env = (do
      let ov ← eval (.Name x p1) X.env
      standAt p2.atName
      let (f, first) ← holding [ov] (getMethod ov "__init__" pl)
      callWith pos f first (backTo pos (starEach (e :: es) X.env)) (backToKw pos (keywordEach [] X.env))) := by rfl)
    (he : starEach (e :: es) X.env = (false, eval e X.env) :: starEach es X.env := by exact Dt.star_cons rfl) (hpl : (backTo pos (starEach es X.env)).any (·.1) = false := by rfl) (hdb : (x == ("__debug__" : Str)) = false := by decide) :
    PE X (.Call (.Attribute (.Name x p1) "__init__" p2) (e :: es) [] pos) (tVeI X.K ta) := by
  refine ⟨fun pins s σ H Q I h => ?_⟩
  refine PySem.W.methodCall_KW (ld_glob I hg hm ?_ hdb) hc
  refine PySem.W.method_cls I.kIn r.ga (PySem.W.cls_value I.kIn r.rd vV rfl ?_)
  show wpAny _ _ (callWith pos (Value.builtin "ValueError.__init__") [] (backTo pos (starEach (e :: es) X.env)) []) _ _ _
  refine PyProof.Rows.callWith_method1 (thn (ha.run pos pins _ σ H _ (I.tok _) h) fun us s1 ⟨vs, H1, I1, r1, a, C, ws, ev, hl, T, ea, q⟩ => ?_) he hpl
  subst ev
  cases r1 with
  | @cons _ u0 _ ur ra rw' =>
    obtain rfl : u0 = Value.ref a := ra
    have hlen : ur.length ≤ sizeLine := by
      rw [← Paired.length rw', sizeLine_eq]
      omega
    exact oinit_ok T I1 ea hlen fun s' J => ⟨.non, H1, J, rfl, q⟩
end
/-- the promise of an __init__ with two attributes -/
def spF (C : Addr) : Sp := fun vs H Q _ => ∃ (a : Addr) (r u : V), vs = [.ref a, r, u] ∧ H a = some (exo a C none) ∧ ∀ dx, H dx = none → dx ≠ a → Q .non (upd (upd (upd H dx (exd dx [("row", r)])) a (exo a C (some dx))) dx (exd dx [("word", u), ("row", r)]))
structure FltAt (Pr : Program) (wo : World) (K : PySem.W.Frag) (mg : Str → Option Value) (base : Heap) (x : Str) (C : Addr) : Prop where
  oex : OexC K C
  ex : ∃ fI fd, PySem.W.findIn K (.ref C) "__init__" = some (some (.ref fI)) ∧ PySem.W.typeIn K (.ref fI) = some (.type "function") ∧ FnOk Pr wo K mg base (L2.CX Pr wo) 1 fI fd ["self", "row", "word"] (spF C) ∧ Binds K fd ["self", "row", "word"] []
  mgC : mg x = some (.ref C)
section
variable {X : Cx} {W : WX} {ρ ρ1 ρ2 ρ3 : List S} {pos p pos' : Pos} {a b e : Expr} {d d1 d2 : D} {ds : List D} {C : Addr} {ns : List Str} {f x n : Str} {i k : Nat}
/-- raise x(a, b) -/
theorem ds_raiseF (c : Cz X W k) (F : FltAt X.prog X.w X.K X.mg X.base x C) (hk : 2 ≤ k) (ha : DE X W a ρ (.val d1 ρ1)) (hb : DE X W b ρ1 (.val d2 ρ2)) (hg : Gl X x := by rfl) (hdb : (x == ("__debug__" : Str)) = false := by decide)
    (he : starEach [a, b] X.env = (false, eval a X.env) :: starEach [b] X.env := by exact Dt.star_cons rfl) (he2 : starEach [b] X.env = (false, eval b X.env) :: starEach [] X.env := by exact Dt.star_cons rfl) (hpl : (backTo pos' (starEach [b] X.env)).any (·.1) = false := by rfl) :
    DS X W (.Raise (some (.Call (.Name x p) [a, b] [] pos')) none pos) ρ (.exc (.f C ["word", "row"] [d2, d1]) ρ2) := by
  obtain ⟨fI, fd, iC, tI, F1, B⟩ := F.ex
  refine fun w σ I H Dn ev pp => wpS_of (ps_raise c.calm c.tk (pmk_oex F.oex iC tI F1 (c.rm.mono hk) B .nil passF hg F.mgC (pa_cons pe_wp (pa_cons pe_wp pa_nil he2) he) hdb he hpl)) ?_
  refine ha w σ I H _ ev fun v1 I1 H1 s1 e1 r1 => hb w σ I1 H1 _ e1 fun v2 I2 H2 s2 e2 r2 => ⟨by show 2 ≤ 1000; decide, fun a0 ha0 => ?_⟩
  refine ⟨a0, v1, v2, rfl, upd_same, fun dx hdx hne => ⟨rfl, dx, [("word", v2), ("row", v1)], ?_, upd_same, ?_, ?_⟩⟩
  · rw [upd_ne (Ne.symm hne), upd_same]
  · rw [upd_ne hne] at hdx
    exact hdx
  · rw [upd_ne hne] at hdx
    have eH : upd (del (upd (upd (upd (upd H2 a0 (exo a0 C none)) dx (exd dx [("row", v1)])) a0 (exo a0 C (some dx))) dx (exd dx [("word", v2), ("row", v1)])) a0) dx (.xd [("word", v2), ("row", v1)]) = upd H2 dx (.xd [("word", v2), ("row", v1)]) := by
      funext y
      by_cases hy : y = dx
      · rw [hy, upd_same, upd_same]
      · rw [upd_ne hy, upd_ne hy]
        by_cases hz : y = a0
        · rw [hz, del_same, ha0]
        · rw [del_ne hz, upd_ne hy, upd_ne hz, upd_ne hy, upd_ne hz]
    rw [eH]
    have sm : Same I2 (upd I2 dx (.xd [("word", v2), ("row", v1)])) := same_upd (e2.fresh hdx).2
    exact pp σ (upd I2 dx (.xd [("word", v2), ("row", v1)])) _ ((s1.trans s2).trans sm) (e2.still hdx) dx [v2, v1] upd_same rfl (.cons (r2.up sm) (.cons ((r1.up s2).up sm) .nil))
/-- the caught error's attribute, in the suite -/
theorem de_xf {a0 dd : Addr} {oe : Obj} {pn : List (Addr × Obj)} (T : XfC X.K C) (hno : PySem.W.findIn X.K (.ref C) f = some none) (hz : Zc (.ref C) (some dd) oe) (hf : ∃ vs, oe.data = .fields vs) (h : DE (X.suite a0 ((a0, oe) :: pn)) W e ρ (.val (.exn a0 dd ns ds) ρ1)) (hl : (ns.zip ds).lookup f = some d)
    (hb : attributeBase e f X.env (eval e X.env) = eval e X.env := by rfl) : DE (X.suite a0 ((a0, oe) :: pn)) W (.Attribute e f pos) ρ (.val d ρ1) :=
  fun w σ I H Q ev p => wpE_of (pe_xf T hno hz hf pe_wp hb) (h w σ I H _ ev fun v I1 H1 s1 e1 r => by
    cases r with
    | exn h1 h2 h3 =>
      obtain ⟨u, g1, g2⟩ := rp_look h3 hl
      exact ⟨rfl, rfl, dd, _, u, rfl, e1.sub _ _ h1, g1, p u I1 H1 s1 e1 g2⟩)
/-- .. behind it -/
theorem pe_xfk {te : TE} (T : XfC X.K C) (hno : PySem.W.findIn X.K (.ref C) f = some none) (he : PE X e te) (hb : attributeBase e f X.env (eval e X.env) = eval e X.env) :
    PE X (.Attribute e f pos) (fun σ H Q => te σ H fun x H1 => ∃ (a0 dd : Addr) (fs : List (Str × V)) (v : V), x = .ref a0 ∧ H1 a0 = some (ExF C dd a0) ∧ H1 dd = some (.xd fs) ∧ fs.lookup f = some v ∧ Q v H1) := by
  refine ⟨fun pins s σ H Q I h => ?_⟩
  refine attr_of hb (thn (he.run pins s σ H _ I h) fun u s1 hh => ?_)
  obtain ⟨x, H1, I1, rx, a0, dd, fs, v, ex, ea, ed, l, q⟩ := hh
  subst ex
  obtain rfl : u = Value.ref a0 := rx
  obtain ⟨⟨oe, vs, ha, hz, hd⟩, _, _⟩ := (I1.hok a0 _ ea : ObjOk X.prog X.w H1 s1.heap a0 (ExF C dd a0))
  have hx : ObjOk X.prog X.w H1 s1.heap dd (.xd fs) := I1.hok dd _ ed
  obtain ⟨mA, hns, hr⟩ := hx
  obtain ⟨od, ho, hl⟩ := lookIn_ns hns
  obtain ⟨u, hu, ru⟩ := RelO.some_of (v := v) (o := mA f) (by rw [← l]; exact hr f)
  have J : PySem.W.InstAt s1.heap a0 oe C (some od) := ⟨ha, hz.1, by unfold PySem.W.notCls; rw [hd] <;> rfl, by rw [hz.2]; exact ho⟩
  exact HandSPX.exc_get I1.kIn J T.ga T.gg T.exC (PySem.W.findObj_own T.hdC hno rfl (by rw [hl, hu])) (handed_of ru) ⟨v, H1, I1.tok _, ru, q⟩
theorem de_xfk (T : XfC X.K C) (hno : PySem.W.findIn X.K (.ref C) f = some none) (h : DE X W e ρ (.val (.xf C ns ds) ρ1)) (hl : (ns.zip ds).lookup f = some d) (hb : attributeBase e f X.env (eval e X.env) = eval e X.env := by rfl) : DE X W (.Attribute e f pos) ρ (.val d ρ1) :=
  fun w σ I H Q ev p => wpE_of (pe_xfk T hno pe_wp hb) (h w σ I H _ ev fun v I1 H1 s1 e1 r => by
    cases r with
    | xf h1 h2 h3 h4 =>
      obtain ⟨u, g1, g2⟩ := rp_look h4 hl
      exact ⟨_, _, _, u, rfl, e1.sub _ _ h1, e1.sub _ _ h2, g1, p u I1 H1 s1 e1 g2⟩)
/-- isinstance of a caught error with attributes -/
theorem call_isF {D0 : Addr} (C : ExcC X.K D0) : CallR X (.builtin "isinstance") (fun xs H Q => ∃ (a dd : Addr) (fs : List (Str × V)) (c : V) (cv : Value) (b : Bool), xs = [.ref a, c] ∧ H a = some (ExF D0 dd a) ∧ H dd = some (.xd fs) ∧ (∀ u, RelV c u → u = cv) ∧ PySem.W.kitOne X.K (.ref D0) cv = some b ∧ Q (.bl b) H) := by
  intro pins s σ H xs us Q I r h
  obtain ⟨a, dd, fs, c, cv, b, rfl, ha, hdd, hcv, e, q⟩ := h
  obtain ⟨u1, u2, rfl, r1, r2⟩ := r.two
  cases r1
  have ec := hcv _ r2
  subst ec
  obtain ⟨⟨oe, vs, hget, hz, hv⟩, _, _⟩ := (I.hok a _ ha : ObjOk X.prog X.w H s.heap a (ExF D0 dd a))
  have hx : ObjOk X.prog X.w H s.heap dd (.xd fs) := I.hok dd _ hdd
  obtain ⟨mA, hns, _⟩ := hx
  obtain ⟨od, ho, _⟩ := lookIn_ns hns
  have J : PySem.W.InstAt s.heap a oe D0 (some od) := ⟨hget, hz.1, by unfold PySem.W.notCls; rw [hv] <;> rfl, by rw [hz.2]; exact ho⟩
  have hcl : (PySem.W.clsIn X.K D0).isSome = true := by
    obtain ⟨cd, hc, _⟩ := PySem.W.any_some C.hd
    rw [hc]
    rfl
  exact PySem.W.kia_one (PySem.W.kitx_exc hcl C.hg C.hk C.hs C.ha C.hn C.ht C.hm) I.kIn J e (fun z => nomatch z) fun tk => ⟨.bl b, H, I.kept (t' := tk) fun _ _ z => z, rfl, q⟩
theorem de_isF {D0 E0 : Addr} {p2 : Pos} {k' : Bool} (C : ExcC X.K D0) (hk : PySem.W.kitOne X.K (.ref D0) (.ref E0) = some k') (hx : Blt X "isinstance" (.builtin "isinstance")) (hg : Gl X x) (hm : X.mg x = some (.ref E0)) (ha : DE X W a ρ (.val (.xf D0 ns ds) ρ1))
    (he : starEach [a, .Name x p2] X.env = (false, eval a X.env) :: starEach [.Name x p2] X.env := by exact Dt.star_cons rfl) (hd : (x == ("__debug__" : Str)) = false := by decide) :
    DE X W (.Call (.Name "isinstance" p) [a, .Name x p2] [] pos) ρ (.val (.bl k') ρ1) :=
  fun w σ I H Q ev q => wpE_of (pe_callB (call_isF C) hx.g hx.m hx.v (pa_cons pe_wp (pa_cons (pe_glob (v := .ref E0) hg hm rfl hd) pa_nil) he) hx.n hx.d he)
    (ha w σ I H _ ev fun v I1 H1 s1 e1 r1 => by
      cases r1 with
      | xf h1 h2 h3 h4 => exact ⟨_, _, _, .ref E0, .ref E0, k', rfl, e1.sub _ _ h1, e1.sub _ _ h2, fun u z => z, hk, q _ I1 H1 s1 e1 (.bl k')⟩)
/-- try: body / except x as n: suite, the suite runs to its end -/
theorem ds_tryF {cv : Value} {body suite : List Stmt} {b0 : Stmt} {np pos' : Pos} {C : Addr} {ρ2 : List S} (c : Cz X W k) (hs : X.stack = X.env :: X.outer) (hf : X.env.frame = some X.env.locals)
    (hi : X.N[i]? = some n) (hln : X.env.kindOf n = some .local) (hc : Names X x cv)
    (hb : ∀ (W' : WX) (pn : List (Addr × Obj)) (xe : Value → Shared → Prop), Takes (X.tr pn xe) W' → PassesOwn (model X.prog X.w) X.A X.env xe → DSs (X.tr pn xe) W' body ρ (.exc (.f C ns ds) ρ1))
    (hm : PySem.W.exmOne X.K (.ref C) cv = some true)
    (hsu : ∀ (a0 dd : Addr) (oe : Obj) (pn : List (Addr × Obj)), Zc (.ref C) (some dd) oe → (∃ vs, oe.data = .fields vs) → ∃ ρ3, DSs (X.suite a0 ((a0, oe) :: pn)) W0 (b0 :: suite) (ρ1.set i (.v (.exn a0 dd ns ds))) (.next ρ3) ∧ ρ3.set i .no = ρ2) :
    DS X W (.Try body [.ExceptHandler (some (.Name x np)) (some n) (b0 :: suite) pos'] [] [] pos) ρ (.next ρ2) := fun w σ I H Dn ev p => by
  refine wpS_of (ps_try_as (tb := fun W' => fun Dn σ H => ∀ pn xe, Takes (X.tr pn xe) W' → PassesOwn (model X.prog X.w) X.A X.env xe → wpSs (X.tr pn xe) body Dn σ H) (ts := fun a0 cls d => fun Dn σ H => ∀ oe pn, Zc cls d oe → (∃ vs, oe.data = .fields vs) → wpSs (X.suite a0 ((a0, oe) :: pn)) (b0 :: suite) Dn σ H)
    hs hf c.nd hi hln hc c.tk (fun W' pn xe tk po => ⟨fun pins s σ H Dn I h => (h pn xe tk po).run pins s I⟩) (fun a0 oe cls d pn hz hd => ⟨fun pins s σ H Dn I h => (h oe pn hz hd).run pins s I⟩)) ?_
  intro pn xe tk po
  refine hb _ pn xe tk po w σ I H Dn ev fun σ' I' H' s' e' => ?_
  intro dd vs g1 g2 g3
  refine ⟨true, hm, fun _ a0 ha0 => fun oe pn hz hd => ?_, fun z => nomatch z⟩
  obtain ⟨ρ3, h3, h4⟩ := hsu a0 dd oe pn hz hd
  refine h3 w _ I' H' _ (e'.setV (.exn g1 g2 g3)) fun σ2 I2 H2 s2 e2 => ?_
  have e3 := e2.wipe1 (i := i)
  rw [h4] at e3
  exact p _ I2 H2 (s'.trans s2) e3
/-- .. the body runs to its end -/
theorem ds_tryN {cv : Value} {body suite : List Stmt} {b0 : Stmt} {np pos' : Pos} {o : Oc} (c : Cz X W k) (hs : X.stack = X.env :: X.outer) (hf : X.env.frame = some X.env.locals)
    (hi : X.N[i]? = some n) (hln : X.env.kindOf n = some .local) (hc : Names X x cv)
    (hb : ∀ (W' : WX) (pn : List (Addr × Obj)) (xe : Value → Shared → Prop), Takes (X.tr pn xe) W' → PassesOwn (model X.prog X.w) X.A X.env xe → DSs (X.tr pn xe) W' body ρ o) (hx : ∀ x ρ, o ≠ .exc x ρ)
    (hsu : ∀ (a0 : Addr) (oe : Obj) (pn : List (Addr × Obj)), ∃ ts, PSs (X.suite a0 ((a0, oe) :: pn)) (b0 :: suite) ts := by exact fun _ _ _ => ⟨_, pss_wp⟩) :
    DS X W (.Try body [.ExceptHandler (some (.Name x np)) (some n) (b0 :: suite) pos'] [] [] pos) ρ o := fun w σ I H Dn ev p => by
  refine wpS_of (ps_try_as (tb := fun W' => fun Dn σ H => ∀ pn xe, Takes (X.tr pn xe) W' → PassesOwn (model X.prog X.w) X.A X.env xe → wpSs (X.tr pn xe) body Dn σ H) (ts := fun a0 cls d => fun Dn σ H => ∀ oe pn, Zc cls d oe → (∃ vs, oe.data = .fields vs) → wpSs (X.suite a0 ((a0, oe) :: pn)) (b0 :: suite) Dn σ H)
    hs hf c.nd hi hln hc c.tk (fun W' pn xe tk po => ⟨fun pins s σ H Dn I h => (h pn xe tk po).run pins s I⟩) (fun a0 oe cls d pn hz hd => ⟨fun pins s σ H Dn I h => (h oe pn hz hd).run pins s I⟩)) ?_
  intro pn xe tk po
  refine hb _ pn xe tk po w σ I H Dn ev ?_
  cases o with
  | exc x' ρ' => exact absurd rfl (hx x' ρ')
  | next ρ' => exact p
  | brk ρ' => exact p
  | cont ρ' => exact p
  | ret d ρ' => exact p
  | rown d ρ' => exact p
end
end Dt


set_option Elab.async false
set_option linter.all false
set_option maxRecDepth 100000
set_option maxHeartbeats 4000000
namespace K01
open PySem PySem.Spec PyProof.Rows L2 Dt
def topS (i : Nat) : Stmt := PySem.Challenge.pw_settingbook_k11_whole_each_fault.main.body.getD i (.Pass ⟨0, 0, 0, 0⟩)
/-! ### the mirrors: values.py -/
def isSign (c : Nat) : Bool := decide (32 ≤ c) && decide (c < 127) && !decide (c = 37)
def isTextL (l : List Nat) : Bool := decide (l.length ≤ 200) && l.all fun c => decide (c = 10) || isSign c
def isTextD : D → Bool
  | .str z => isTextL z.cps.toList
  | _ => false
def isSingleD : D → Bool
  | .bl _ => true
  | .str z => isTextL z.cps.toList
  | .int i => decide (i.natAbs < 1000000000)
  | _ => false
def isValueD : D → Bool
  | .lst xs => decide (xs.length ≤ 20) && xs.all isSingleD
  | d => isSingleD d
def kindD : D → Str
  | .bl _ => "truth"
  | .int _ => "number"
  | .str _ => "text"
  | _ => "list"
/-- data that may be handed in -/
def dat1 : D → Bool
  | .str z => decide (z.length ≤ 100000)
  | .non => true
  | .bl _ => true
  | .int _ => true
  | .lst _ => true
  | .tup _ => true
  | _ => false
def dat : D → Bool
  | .lst xs => decide (xs.length ≤ 100000) && xs.all dat1
  | d => dat1 d
theorem dat_ty {d : D} (h : dat1 d = true) : ∃ t, tyD d = some t := by cases d <;> first | exact ⟨_, rfl⟩ | exact absurd h Bool.false_ne_true
theorem dat_1 {d : D} (h : dat d = true) : dat1 d = true := by cases d <;> first | exact h | rfl
theorem sz {n : Nat} (h : n ≤ 100000) : n ≤ sizeLine := Nat.le_trans h (by decide)
/-! ### what the head tells -/
structure Blts (mg : Str → Option Value) : Prop where
  len : mg "len" = none
  ord : mg "ord" = none
  abs : mg "abs" = none
  all : mg "all" = none
  isi : mg "isinstance" = none
  str : mg "str" = none
  int : mg "int" = none
  bool : mg "bool" = none
  list : mg "list" = none
  range : mg "range" = none
  verr : mg "ValueError" = none
structure Cons (mg : Str → Option Value) : Prop where
  figs : ∃ t, mg "FIGURES" = some (.str "0123456789" t)
  mfig : ∃ t, mg "MOST_FIGURES" = some (.int 9 t)
  mit : ∃ t, mg "MOST_ITEMS" = some (.int 20 t)
  mtx : ∃ t, mg "MOST_TEXT" = some (.int 200 t)
section
variable {Pr : Program} {wo : World} {K : PySem.W.Frag} {mg : Str → Option Value} {base : Heap}
/-! ### is_sign -/
abbrev sIsSign : Stmt := topS 33
theorem sc_is_sign : FnScope ["sign"] ["sign"] (defScope sIsSign) := ⟨rfl, rfl, rfl, by decide +kernel, rfl, by decide +kernel, by decide +kernel⟩
def c_is_sign : Con := fun ps r os => ∃ c : Nat, ps = [.v (.str (mk [c]))] ∧ r = .ret (.bl (isSign c)) ∧ os = []
theorem ok_is_sign (F : DefAt K mg "is_sign" sIsSign ["sign"]) (B : Blts mg) : FnAt Pr wo K mg base "is_sign" 1 ["sign"] c_is_sign := by
  refine fnAt (n := 0) F sc_is_sign (fun qs r os h => by obtain ⟨c, rfl, _⟩ := h; rfl) rfl fun f cdv A outer s H E cz qs r os h => ?_
  obtain ⟨c, rfl, rfl, rfl⟩ := h
  refine ⟨_, ret (de_and (de_chainI rfl rfl de_int (de_ord (b_ord B.ord) (va 0 rfl)) de_int) fun _ => de_one (de_cmpI rfl (de_ord (b_ord B.ord) (va 0 rfl)) de_int)), ?_⟩
  have e : ((decide ((32 : Int) ≤ (c : Int)) && decide ((c : Int) < 127)) && !decide ((c : Int) = 37)) = isSign c := by
    unfold isSign
    congr 1
    · congr 1 <;> exact decide_eq_decide.mpr (by omega)
    · congr 1; exact decide_eq_decide.mpr (by omega)
  rw [e]
  exact .ret rfl
end
end K01


set_option Elab.async false
set_option linter.all false
set_option maxRecDepth 100000
set_option maxHeartbeats 4000000
namespace K01
open PySem PySem.Spec PyProof.Rows L2 Dt
theorem tf : ¬ (true = false) := fun z => Bool.noConfusion z
/-- an own error class without fields -/
structure ExcAt (K : PySem.W.Frag) (mg : Str → Option Value) (x : Str) (C : Addr) : Prop where
  q : PySem.W.excIn K C [.type "ValueError", .type "Exception", .type "BaseException", .type "object"] "ValueError.__new__" = true
  g : mg x = some (.ref C)
  k : PySem.W.keepIn K (.ref C) = true
  b : PySem.W.subIn K (.ref C) (.type "BaseException") = some true
  t : PySem.W.typeIn K (.ref C) = some (.type "type")
section
variable {Pr : Program} {wo : World} {K : PySem.W.Frag} {mg : Str → Option Value} {base : Heap} {CB : Addr}
end
end K01


set_option Elab.async false
set_option linter.all false
set_option maxRecDepth 100000
set_option maxHeartbeats 4000000
namespace K01
open PySem PySem.Spec PyProof.Rows L2 Dt
/-! ### mirrors: writing -/
def esc (c : Nat) : List Nat := if c = 10 then [92, 110] else if c = 34 ∨ c = 92 then [92, c] else [c]
def quoteL (l : List Nat) : List Nat := [34] ++ (l.map esc).flatten ++ [34]
def intL (i : Int) : List Nat := (toString i : Str).cps.toList
def textS : D → List Nat
  | .bl b => if b then [121, 101, 115] else [110, 111]
  | .int i => intL i
  | .str z => quoteL z.cps.toList
  | _ => []
def textD : D → List Nat
  | .lst xs => [91] ++ TL.joinL [44, 32] (xs.map textS) ++ [93]
  | d => textS d
/-! ### mirrors: reading, by suffixes -/
def skipB : List Nat → List Nat
  | [] => []
  | c :: r => if c = 32 then skipB r else c :: r
theorem skipB_suf : ∀ s : List Nat, skipB s <:+ s
  | [] => List.suffix_refl _
  | c :: r => by
    unfold skipB
    split
    · exact (skipB_suf r).trans (List.suffix_cons _ _)
    · exact List.suffix_refl _
theorem take1 {l s : List Nat} {a : Nat} (h : l.drop a = s) : (l.drop a).take 1 = s.take 1 := by rw [h]
theorem drop_succ {l r : List Nat} {a c : Nat} (h : l.drop a = c :: r) : l.drop (a + 1) = r := by
  rw [← List.tail_drop, h]
  rfl
theorem drop_lt {l r : List Nat} {a c : Nat} (h : l.drop a = c :: r) : a < l.length := by
  have := congrArg List.length h
  rw [List.length_drop, List.length_cons] at this
  omega
theorem drop_get {l r : List Nat} {a c : Nat} (h : l.drop a = c :: r) : l[a]? = some c := by
  have : (l.drop a)[0]? = some c := by rw [h]; rfl
  rw [List.getElem?_drop, Nat.add_zero] at this
  exact this
theorem drop_nil {l : List Nat} {a : Nat} (h : l.drop a = []) (ha : a ≤ l.length) : a = l.length := by
  have := congrArg List.length h
  rw [List.length_drop, List.length_nil] at this
  omega
theorem pos_of {l s : List Nat} {a : Nat} (h : l.drop a = s) (ha : a ≤ l.length) : posOf l s = a := by rw [← h, pos_drop ha]
section
variable {Pr : Program} {wo : World} {K : PySem.W.Frag} {mg : Str → Option Value} {base : Heap} {CB : Addr}
/-! ### blanks_from -/
abbrev sBl : Stmt := topS 39
theorem sc_bl : FnScope ["text", "at"] ["text", "at"] (defScope sBl) := ⟨rfl, rfl, rfl, by decide +kernel, rfl, by decide +kernel, by decide +kernel⟩
def c_bl : Con := fun ps r os => ∃ (l : List Nat) (a : Nat), l.length ≤ 50000 ∧ a ≤ l.length ∧ ps = [.v (.str (mk l)), .v (.int (a : Int))] ∧ r = .ret (.int (posOf l (skipB (l.drop a)) : Nat)) ∧ os = []
theorem ok_bl (F : DefAt K mg "blanks_from" sBl ["text", "at"]) : FnAt Pr wo K mg base "blanks_from" 1 ["text", "at"] c_bl := by
  refine fnAt (n := 0) F sc_bl (fun qs r os h => by obtain ⟨l, a, _, _, rfl, _⟩ := h; rfl) rfl fun f cdv A outer s H E cz qs r os h => ?_
  obtain ⟨l, a, hl, ha, rfl, rfl, rfl⟩ := h
  have hz : l.length ≤ 100000 := by omega
  have key : ∀ (s' : List Nat) (a : Nat), l.drop a = s' → a ≤ l.length → ∃ n, WhR (Xd Pr wo K mg base ["text", "at"] "blanks_from" sBl f cdv A outer s H E) (Wd0 E) (wT (bodyAt sBl 0)) (wB (bodyAt sBl 0)) n
      [.v (.str (mk l)), .v (.int (a : Int))] (.next [.v (.str (mk l)), .v (.int (posOf l (skipB s') : Nat))]) := by
    intro s'
    induction s' with
    | nil =>
      intro a h ha
      have ea := drop_nil h ha
      have e : posOf l (skipB []) = a := by rw [ea]; rfl
      rw [e]
      refine ⟨0, .done ?_⟩
      exact to (eqs rfl (sl1 hz (va 0 rfl) (va 1 rfl) (de_add (va 1 rfl) de_int)) de_str) (by rw [h]; rfl)
    | cons c r ih =>
      intro a h ha
      by_cases hc : c = 32
      · have hlt := drop_lt h
        obtain ⟨n, hn⟩ := ih (a + 1) (drop_succ h) hlt
        have e : skipB (c :: r) = skipB r := if_pos hc
        rw [e]
        refine ⟨n + 1, .turn (ρ1 := [.v (.str (mk l)), .v (.int (a : Int))]) (ρ2 := [.v (.str (mk l)), .v (.int ((a + 1 : Nat) : Int))]) ?_ ?_ hn⟩
        · exact to (eqs rfl (sl1 hz (va 0 rfl) (va 1 rfl) (de_add (va 1 rfl) de_int)) de_str) (by rw [h, hc]; rfl)
        · exact dss1 (st 1 cz (DE.cast (de_add (va 1 rfl) de_int) (by rw [show ((a + 1 : Nat) : Int) = (a : Int) + 1 by omega])))
      · have e : skipB (c :: r) = c :: r := if_neg hc
        rw [e, pos_of h ha]
        refine ⟨0, .done ?_⟩
        exact to (eqs rfl (sl1 hz (va 0 rfl) (va 1 rfl) (de_add (va 1 rfl) de_int)) de_str) (by rw [h]; exact decide_eq_false (by intro z; exact hc (List.cons.inj z).1))
  obtain ⟨n, hn⟩ := key _ a rfl ha
  exact ⟨_, seq (ds_while cz.po hn) (ret (va 1 rfl)), .ret rfl⟩
end
end K01


set_option Elab.async false
set_option linter.all false
set_option maxRecDepth 100000
set_option maxHeartbeats 4000000
namespace K01
open PySem PySem.Spec PyProof.Rows L2 Dt
theorem esc_len (c : Nat) : (esc c).length ≤ 2 := by
  unfold esc
  split
  · decide
  · split <;> simp
theorem flat_len : ∀ l : List Nat, (l.map esc).flatten.length ≤ 2 * l.length
  | [] => Nat.zero_le _
  | c :: r => by
    have h := flat_len r
    have h2 := esc_len c
    rw [List.map_cons, List.flatten_cons, List.length_append, List.length_cons]
    omega
theorem quoteL_len (l : List Nat) : (quoteL l).length ≤ 2 * l.length + 2 := by
  have h := flat_len l
  unfold quoteL
  rw [List.length_append, List.length_append, List.length_singleton]
  omega
theorem intL_nat (n : Nat) : intL (n : Int) = TL.numL n := TL.tl_num n
theorem intL_neg (n : Nat) : intL (Int.negSucc n) = 45 :: TL.numL (n + 1) := by
  have h : (toString (Int.negSucc n) : Str).cps.toList = (toString (Int.negSucc n)).toList.map Char.toNat := PyProof.Rows.signs_ofString _
  show (toString (Int.negSucc n) : Str).cps.toList = _
  rw [h]
  show (("-" ++ toString (n + 1)).toList).map Char.toNat = _
  rw [String.toList_append, List.map_append]
  show 45 :: ((toString (n + 1)).toList).map Char.toNat = _
  congr 1
  have q := TL.tl_num (n + 1)
  have h2 : (toString (((n + 1 : Nat)) : Int) : Str).cps.toList = (toString ((n + 1 : Nat) : Int)).toList.map Char.toNat := PyProof.Rows.signs_ofString _
  rw [← q]
  exact h2.symm
theorem intL_len {i : Int} (h : i.natAbs < 1000000000) : (intL i).length ≤ 10 := by
  cases i with
  | ofNat n =>
    have h1 : (TL.numL n).length ≤ 9 := TL.numL_len (by decide) (by simpa using h)
    have e : intL (Int.ofNat n) = TL.numL n := intL_nat n
    rw [e]
    omega
  | negSucc n =>
    have h1 : (TL.numL (n + 1)).length ≤ 9 := TL.numL_len (by decide) (by simpa using h)
    rw [intL_neg, List.length_cons]
    omega
theorem isTextL_len {l : List Nat} (h : isTextL l = true) : l.length ≤ 200 := by
  unfold isTextL at h
  rw [Bool.and_eq_true] at h
  exact of_decide_eq_true h.1
theorem textS_len {d : D} (h : isSingleD d = true) : (textS d).length ≤ 402 := by
  cases d with
  | bl b => cases b <;> decide
  | int i =>
    have := intL_len (i := i) (of_decide_eq_true h)
    show (intL i).length ≤ 402
    omega
  | str z =>
    have h1 := isTextL_len (l := z.cps.toList) h
    have h2 := quoteL_len z.cps.toList
    show (quoteL z.cps.toList).length ≤ 402
    omega
  | _ => exact absurd h Bool.false_ne_true
theorem single_dat {d : D} (h : isSingleD d = true) : dat1 d = true := by
  cases d with
  | str z =>
    have h1 := isTextL_len (l := z.cps.toList) h
    exact decide_eq_true (show z.cps.toList.length ≤ 100000 by omega)
  | _ => first | rfl | exact absurd h Bool.false_ne_true
theorem sum_le {α : Type} (f : α → Nat) (m : Nat) : ∀ l : List α, (∀ x ∈ l, f x ≤ m) → (l.map f).sum ≤ l.length * m
  | [], _ => Nat.zero_le _
  | x :: l, h => by
    have h1 := sum_le f m l fun y hy => h y (List.mem_cons_of_mem _ hy)
    have h2 := h x List.mem_cons_self
    rw [List.map_cons, List.sum_cons, List.length_cons, Nat.add_mul]
    omega
theorem items_len {xs : List D} (h1 : xs.length ≤ 20) (h2 : xs.all isSingleD = true) : ((xs.map textS).map List.length).sum + (xs.map textS).length * 2 ≤ 8200 := by
  rw [List.all_eq_true] at h2
  rw [List.map_map, List.length_map]
  have h3 := sum_le (List.length ∘ textS) 402 xs fun x hx => textS_len (h2 x hx)
  have h4 : xs.length * 402 ≤ 20 * 402 := Nat.mul_le_mul_right _ h1
  omega
theorem val_lst {xs : List D} (h : isValueD (.lst xs) = true) : xs.length ≤ 20 ∧ xs.all isSingleD = true := by
  have h : (decide (xs.length ≤ 20) && xs.all isSingleD) = true := h
  rw [Bool.and_eq_true] at h
  exact ⟨of_decide_eq_true h.1, h.2⟩
section
variable {Pr : Program} {wo : World} {K : PySem.W.Frag} {mg : Str → Option Value} {base : Heap} {CB : Addr}
/-! ### quoted -/
abbrev sQ : Stmt := topS 34
theorem sc_q : FnScope ["text", "found", "sign"] ["text"] (defScope sQ) := ⟨rfl, rfl, rfl, by decide +kernel, rfl, by decide +kernel, by decide +kernel⟩
def c_q : Con := fun ps r os => ∃ l : List Nat, l.length ≤ 20000 ∧ ps = [.v (.str (mk l))] ∧ r = .ret (.str (mk (quoteL l))) ∧ os = []
theorem ok_q (F : DefAt K mg "quoted" sQ ["text"]) : FnAt Pr wo K mg base "quoted" 1 ["text"] c_q := by
  refine fnAt (n := 2) F sc_q (fun qs r os h => by obtain ⟨l, _, rfl, _⟩ := h; rfl) rfl fun f cdv A outer s H E cz qs r os h => ?_
  obtain ⟨l, hl, rfl, rfl, rfl⟩ := h
  have key : ∀ (l' : List Nat) (acc : List D) (s2 : S), acc.length + l'.length ≤ 20000 → ∃ s3, FoR (Xd Pr wo K mg base ["text", "found", "sign"] "quoted" sQ f cdv A outer s H E) (Wd0 E) (fT (bodyAt sQ 1)) (fB (bodyAt sQ 1)) (l'.map fun c => .str (mk [c]))
      [.v (.str (mk l)), .own none (.lst acc), s2] (.next [.v (.str (mk l)), .own none (.lst (acc ++ l'.map fun c => D.str (mk (esc c)))), s3]) := by
    intro l'
    induction l' with
    | nil =>
      intro acc s2 _
      have e : acc ++ ([] : List Nat).map (fun c => D.str (mk (esc c))) = acc := List.append_nil acc
      rw [e]
      exact ⟨s2, .nil⟩
    | cons c r ih =>
      intro acc s2 hn
      rw [List.length_cons] at hn
      have hsz : acc.length < sizeLine := Nat.lt_of_lt_of_le (show acc.length < 100000 by omega) (by decide)
      obtain ⟨s3, h3⟩ := ih (acc ++ [.str (mk (esc c))]) (.v (.str (mk [c]))) (by simp only [List.length_append, List.length_cons, List.length_nil]; omega)
      refine ⟨s3, ?_⟩
      have e : acc ++ (c :: r).map (fun c => D.str (mk (esc c))) = (acc ++ [.str (mk (esc c))]) ++ r.map fun c => D.str (mk (esc c)) := by simp
      rw [e]
      refine .turn (bd_name (i := 2) cz.nd rfl (.inl rfl)) ?_ h3
      by_cases h1 : c = 10
      · refine if_t (eqs rfl (va 2 rfl) de_str) (by rw [h1]; rfl) (dss1 (ds_append (i := 1) rfl (.inl rfl) (cs (y := esc c) (by rw [h1]; rfl)) rfl ⟨_, _, rfl⟩ hsz)) dss_nil
      · by_cases h2 : c = 34 ∨ c = 92
        · have e2 : esc c = [92, c] := by unfold esc; rw [if_neg h1, if_pos h2]
          rw [e2]
          exact if_f (eqs rfl (va 2 rfl) de_str) (decide_eq_false fun z => h1 (List.cons.inj z).1) (dss1 (ds_append (i := 1) rfl (.inl rfl) (ife_t (dt_inS (va 2 rfl) de_str) (decide_eq_true (by rcases h2 with z | z <;> (rw [z]; decide))) (cats (x := [92]) (y := [c]) (by show 1 + 1 ≤ 100000; decide) (cs rfl) (va 2 rfl))) rfl ⟨_, _, rfl⟩ hsz)) dss_nil
        · have e2 : esc c = [c] := by unfold esc; rw [if_neg h1, if_neg h2]
          rw [e2]
          exact if_f (eqs rfl (va 2 rfl) de_str) (decide_eq_false fun z => h1 (List.cons.inj z).1) (dss1 (ds_append (i := 1) rfl (.inl rfl) (ife_f (dt_inS (va 2 rfl) de_str) (decide_eq_false (by
            intro z
            have z : c ∈ [34, 92] := z
            simp only [List.mem_cons, List.not_mem_nil, or_false] at z
            exact h2 z)) (va 2 rfl)) rfl ⟨_, _, rfl⟩ hsz)) dss_nil
  obtain ⟨s3, h3⟩ := key l [] .no (by simpa using hl)
  have fl := flat_len l
  have hj : TL.joinL [] (l.map esc) = (l.map esc).flatten := by
    generalize l.map esc = ls
    induction ls with
    | nil => rfl
    | cons p r ih =>
      cases r with
      | nil => simp [TL.joinL]
      | cons q r =>
        show p ++ ([] ++ TL.joinL [] (q :: r)) = p ++ (q :: r).flatten
        rw [ih, List.nil_append]
  have hsum : ((l.map esc).map List.length).sum + (l.map esc).length * ([] : List Nat).length ≤ 1000000 := by
    have := sum_le (List.length ∘ esc) 2 l fun x _ => esc_len x
    rw [List.map_map, List.length_nil, Nat.mul_zero]
    omega
  unfold quoteL
  refine ⟨_, seq (sto 1 cz (de_lst da_nil (Nat.zero_le _))) (seq (ds_for cz.po cz.calm (di_strL (va 0 rfl)) h3) (ret (cats (x := [34] ++ (l.map esc).flatten) (y := [34]) ?_ (cats (x := [34]) ?_ (cs rfl) (hj ▸ joins (s := []) (ls := l.map esc) hsum (cs rfl) (vb 1 (by rw [List.map_map]; rfl)))) (cs rfl)))), .ret rfl⟩
  · simp only [List.length_append, List.length_cons, List.length_nil]; omega
  · rw [List.length_singleton]; omega
/-! ### text_of -/
abbrev sTO : Stmt := topS 35
theorem sc_to : FnScope ["value", "one"] ["value"] (defScope sTO) := ⟨rfl, rfl, rfl, by decide +kernel, rfl, by decide +kernel, by decide +kernel⟩
def c_text1 : Con := fun ps r os => ∃ d, isSingleD d = true ∧ ps = [.v d] ∧ r = .ret (.str (mk (textS d))) ∧ os = []
def c_text : Con := fun ps r os => ∃ d, isValueD d = true ∧ ps = [.v d] ∧ r = .ret (.str (mk (textD d))) ∧ os = []
theorem log_small {i : Int} (h : i.natAbs < 1000000000) : i.natAbs.log2 < 1920 := by
  by_cases h0 : i.natAbs = 0
  · rw [h0]; decide
  · have : i.natAbs.log2 < 31 := (Nat.log2_lt h0).mpr (by omega)
    omega
theorem ok_text1 (F : DefAt K mg "text_of" sTO ["value"]) (B : Blts mg) (G : FnAt Pr wo K mg base "quoted" 1 ["text"] c_q) : FnAt Pr wo K mg base "text_of" 2 ["value"] c_text1 := by
  refine fnAt (n := 1) F sc_to (fun qs r os h => by obtain ⟨l, _, rfl, _⟩ := h; rfl) rfl fun f cdv A outer s H E cz qs r os h => ?_
  obtain ⟨d, hd, rfl, rfl, rfl⟩ := h
  cases d with
  | bl b =>
    cases b with
    | true => exact ⟨_, if_r (tb (is_bool rfl B.isi B.bool (db_of (va 0 rfl)))) rfl (ife_t (tb (va 0 rfl)) rfl (cs rfl)), .ret rfl⟩
    | false => exact ⟨_, if_r (tb (is_bool rfl B.isi B.bool (db_of (va 0 rfl)))) rfl (ife_f (tb (va 0 rfl)) rfl (cs rfl)), .ret rfl⟩
  | int i => exact ⟨_, if_n (tb (is_bool rfl B.isi B.bool (db_of (va 0 rfl)))) rfl (if_r (tb (is_int rfl B.isi B.int (db_of (va 0 rfl)))) rfl (de_strI (log_small (of_decide_eq_true hd)) (b_str B.str) (va 0 rfl))), .ret rfl⟩
  | str z =>
    have hl : z.cps.toList.length ≤ 20000 := Nat.le_trans (isTextL_len hd) (by decide)
    exact ⟨_, if_n (tb (is_bool rfl B.isi B.bool (db_of (va 0 rfl)))) rfl (if_n (tb (is_int rfl B.isi B.int (db_of (va 0 rfl)))) rfl (if_r (tb (is_str rfl B.isi B.str (db_of (va 0 rfl)))) rfl (de_callV cz G (by decide) (da_cons (va 0 rfl) da_nil) ⟨z.cps.toList, hl, rfl, rfl, rfl⟩))), .ret rfl⟩
  | _ => exact absurd hd Bool.false_ne_true
theorem ok_text (F : DefAt K mg "text_of" sTO ["value"]) (B : Blts mg) (Gq : FnAt Pr wo K mg base "quoted" 1 ["text"] c_q) (G : FnAt Pr wo K mg base "text_of" 2 ["value"] c_text1) : FnAt Pr wo K mg base "text_of" 3 ["value"] c_text := by
  refine fnAt (n := 1) F sc_to (fun qs r os h => by obtain ⟨l, _, rfl, _⟩ := h; rfl) rfl fun f cdv A outer s H E cz qs r os h => ?_
  obtain ⟨d, hd, rfl, rfl, rfl⟩ := h
  cases d with
  | lst xs =>
    obtain ⟨h1, h2⟩ := val_lst hd
    have hs := items_len h1 h2
    have jl := joinL_len [44, 32] (xs.map textS)
    rw [List.all_eq_true] at h2
    have hs' : ((xs.map textS).map List.length).sum + (xs.map textS).length * ([44, 32] : List Nat).length ≤ 8200 := hs
    refine ⟨_, if_n (tb (is_bool rfl B.isi B.bool (db_of (va 0 rfl)))) rfl (if_n (tb (is_int rfl B.isi B.int (db_of (va 0 rfl)))) rfl (if_n (tb (is_str rfl B.isi B.str (db_of (va 0 rfl)))) rfl (ret (cats (x := [91] ++ TL.joinL [44, 32] (xs.map textS)) (y := [93]) ?_ (cats (x := [91]) ?_ (cs rfl) (joins (s := [44, 32]) (ls := xs.map textS) (by omega) (cs rfl) (db_new (by
      rw [List.map_map]
      exact lcm (g := id) 1 cz (by rw [List.map_id]; exact di_list (va 0 rfl)) (by omega) fun y hy s0 H0 C0 cl fp => de_callV (cz.blk s0 H0 C0 cl fp) G (by decide) (da_cons (va 1 rfl) da_nil) ⟨y, h2 y hy, rfl, rfl, rfl⟩)))) (cs rfl))))), .ret rfl⟩
    · simp only [List.length_append, List.length_cons, List.length_nil]; omega
    · rw [List.length_singleton]; omega
  | bl b =>
    cases b with
    | true => exact ⟨_, if_r (tb (is_bool rfl B.isi B.bool (db_of (va 0 rfl)))) rfl (ife_t (tb (va 0 rfl)) rfl (cs rfl)), .ret rfl⟩
    | false => exact ⟨_, if_r (tb (is_bool rfl B.isi B.bool (db_of (va 0 rfl)))) rfl (ife_f (tb (va 0 rfl)) rfl (cs rfl)), .ret rfl⟩
  | int i => exact ⟨_, if_n (tb (is_bool rfl B.isi B.bool (db_of (va 0 rfl)))) rfl (if_r (tb (is_int rfl B.isi B.int (db_of (va 0 rfl)))) rfl (de_strI (log_small (of_decide_eq_true hd)) (b_str B.str) (va 0 rfl))), .ret rfl⟩
  | str z =>
    have hl : z.cps.toList.length ≤ 20000 := Nat.le_trans (isTextL_len hd) (by decide)
    exact ⟨_, if_n (tb (is_bool rfl B.isi B.bool (db_of (va 0 rfl)))) rfl (if_n (tb (is_int rfl B.isi B.int (db_of (va 0 rfl)))) rfl (if_r (tb (is_str rfl B.isi B.str (db_of (va 0 rfl)))) rfl (de_callV cz Gq (by decide) (da_cons (va 0 rfl) da_nil) ⟨z.cps.toList, hl, rfl, rfl, rfl⟩))), .ret rfl⟩
  | _ => exact absurd hd Bool.false_ne_true
end
end K01


set_option Elab.async false
set_option linter.all false
set_option maxRecDepth 100000
set_option maxHeartbeats 4000000
namespace K01
open PySem PySem.Spec PyProof.Rows L2 Dt
def unesc (c : Nat) : Option Nat := if c = 92 then some 92 else if c = 34 then some 34 else if c = 110 then some 10 else none
def loopT : List Nat → List Nat → Option (List Nat × List Nat)
  | [], acc => some (acc, [])
  | c :: r, acc => if c = 34 then some (acc, c :: r) else if c = 92 then
      (match r with
      | [] => none
      | e :: r' => match unesc e with
        | none => none
        | some u => loopT r' (acc ++ [u]))
    else loopT r (acc ++ [c])
theorem loopT_nil (acc : List Nat) : loopT [] acc = some (acc, []) := rfl
theorem loopT_cons (c : Nat) (r acc : List Nat) : loopT (c :: r) acc = if c = 34 then some (acc, c :: r) else if c = 92 then
      (match r with
      | [] => none
      | e :: r' => match unesc e with
        | none => none
        | some u => loopT r' (acc ++ [u]))
    else loopT r (acc ++ [c]) := by
  rw [loopT.eq_def]
def scanT (s : List Nat) : Option (List Nat × List Nat) := match loopT s [] with
  | none => none
  | some (acc, rest) => match rest with
    | [] => none
    | _ :: q => if acc.length ≤ 200 then some (acc, q) else none
theorem loopT_suf : ∀ (n : Nat) (s acc acc2 rest : List Nat), s.length ≤ n → loopT s acc = some (acc2, rest) → rest <:+ s ∧ acc2.length + rest.length ≤ acc.length + s.length ∧ (rest = [] ∨ ∃ q, rest = 34 :: q)
  | n, [], acc, acc2, rest, _, h => by
    rw [loopT] at h
    cases h
    exact ⟨List.suffix_refl _, Nat.le_refl _, .inl rfl⟩
  | 0, c :: r, acc, acc2, rest, hn, h => by
    rw [List.length_cons] at hn
    omega
  | n + 1, c :: r, acc, acc2, rest, hn, h => by
    rw [List.length_cons] at hn
    rw [loopT_cons] at h
    by_cases h1 : c = 34
    · rw [if_pos h1] at h
      cases h
      exact ⟨List.suffix_refl _, Nat.le_refl _, .inr ⟨r, by rw [h1]⟩⟩
    · rw [if_neg h1] at h
      by_cases h2 : c = 92
      · rw [if_pos h2] at h
        cases r with
        | nil => cases h
        | cons e r' =>
          rw [List.length_cons] at hn
          dsimp only at h
          cases h3 : unesc e with
          | none => rw [h3] at h; cases h
          | some u =>
            rw [h3] at h
            obtain ⟨g1, g2, g3⟩ := loopT_suf n r' _ acc2 rest (by omega) h
            refine ⟨(g1.trans (List.suffix_cons _ _)).trans (List.suffix_cons _ _), ?_, g3⟩
            rw [List.length_append, List.length_singleton] at g2
            rw [List.length_cons, List.length_cons]
            omega
      · rw [if_neg h2] at h
        obtain ⟨g1, g2, g3⟩ := loopT_suf n r _ acc2 rest (by omega) h
        refine ⟨g1.trans (List.suffix_cons _ _), ?_, g3⟩
        rw [List.length_append, List.length_singleton] at g2
        rw [List.length_cons]
        omega
theorem scanT_suf {s acc q : List Nat} (h : scanT s = some (acc, q)) : q <:+ s ∧ q.length < s.length ∧ acc.length ≤ 200 := by
  unfold scanT at h
  split at h
  · cases h
  · rename_i acc2 rest h1
    obtain ⟨g1, g2, g3⟩ := loopT_suf s.length s [] acc2 rest (Nat.le_refl _) h1
    split at h
    · cases h
    · rename_i c q'
      split at h
      · cases h
        rename_i h2
        have := g1.length_le
        rw [List.length_cons] at this
        exact ⟨(List.suffix_cons _ _).trans g1, by omega, h2⟩
      · cases h
/-- the dict of escapes -/
structure EscAt (K : PySem.W.Frag) (wo : World) (mg : Str → Option Value) : Prop where
  ex : ∃ dk ens n t1 t2 t3, KDict K wo dk ens n ∧ mg "ESCAPES" = some (.ref dk) ∧ PySem.W.nsIn K dk (mk [92]) = some (some (.str (mk [92]) t1)) ∧ PySem.W.nsIn K dk (mk [34]) = some (some (.str (mk [34]) t2)) ∧
    PySem.W.nsIn K dk (mk [110]) = some (some (.str (mk [10]) t3)) ∧ ∀ z : Str, z ≠ mk [92] → z ≠ mk [34] → z ≠ mk [110] → PySem.W.nsIn K dk z = some none
theorem nd1 {c x : Nat} (h : c ≠ x) : (!decide ([c] = [x])) = true := by
  rw [decide_eq_false fun z => h (List.cons.inj z).1]
  rfl
def outT (l : List Nat) : Option (List Nat × List Nat) → D
  | none => .non
  | some (acc, q) => .tup [.str (mk acc), .int (posOf l q : Nat)]
abbrev sgn (c : Nat) : D := .str (mk [c])
theorem joinL_sing : ∀ l : List Nat, TL.joinL [] (l.map fun c => [c]) = l
  | [] => rfl
  | [c] => rfl
  | c :: d :: r => by
    have h := joinL_sing (d :: r)
    show [c] ++ ([] ++ TL.joinL [] ((d :: r).map fun c => [c])) = _
    rw [h]
    rfl
theorem sum_sing : ∀ l : List Nat, ((l.map fun c => [c]).map List.length).sum = l.length
  | [] => rfl
  | c :: r => by
    rw [List.map_cons, List.map_cons, List.sum_cons, sum_sing r, List.length_cons]
    show 1 + r.length = r.length + 1
    omega
section
variable {Pr : Program} {wo : World} {K : PySem.W.Frag} {mg : Str → Option Value} {base : Heap} {CB : Addr}
abbrev sTA : Stmt := topS 37
theorem sc_ta : FnScope ["text", "at", "found", "k"] ["text", "at"] (defScope sTA) := ⟨rfl, rfl, rfl, by decide +kernel, rfl, by decide +kernel, by decide +kernel⟩
def c_ta : Con := fun ps r os => ∃ (l : List Nat) (a : Nat), l.length ≤ 50000 ∧ a < l.length ∧ ps = [.v (.str (mk l)), .v (.int (a : Int))] ∧ r = .ret (outT l (scanT (l.drop (a + 1)))) ∧ os = []
theorem ok_ta (F : DefAt K mg "text_at" sTA ["text", "at"]) (B : Blts mg) (C : Cons mg) (T : EscAt K wo mg) : FnAt Pr wo K mg base "text_at" 1 ["text", "at"] c_ta := by
  refine fnAt (n := 2) F sc_ta (fun qs r os h => by obtain ⟨l, a, _, _, rfl, _⟩ := h; rfl) rfl fun f cdv A outer s H E cz qs r os h => ?_
  obtain ⟨l, a, hl, ha, rfl, rfl, rfl⟩ := h
  obtain ⟨dk, ens, ne, t1, t2, t3, T, tm, e1, e2, e3, e4⟩ := T.ex
  obtain ⟨tx, hmx⟩ := C.mtx
  have hz : l.length ≤ 100000 := by omega
  have key : ∀ (n : Nat) (s' acc : List Nat) (k : Nat), s'.length ≤ n → l.drop k = s' → k ≤ l.length → acc.length + s'.length ≤ l.length →
      match loopT s' acc with
      | none => ∃ n ρ', WhR (Xd Pr wo K mg base ["text", "at", "found", "k"] "text_at" sTA f cdv A outer s H E) (Wd0 E) (wT (bodyAt sTA 2)) (wB (bodyAt sTA 2)) n [.v (.str (mk l)), .v (.int (a : Int)), .own none (.lst (acc.map sgn)), .v (.int (k : Int))] (.ret .non ρ')
      | some (acc2, rest) => ∃ n, WhR (Xd Pr wo K mg base ["text", "at", "found", "k"] "text_at" sTA f cdv A outer s H E) (Wd0 E) (wT (bodyAt sTA 2)) (wB (bodyAt sTA 2)) n [.v (.str (mk l)), .v (.int (a : Int)), .own none (.lst (acc.map sgn)), .v (.int (k : Int))]
          (.next [.v (.str (mk l)), .v (.int (a : Int)), .own none (.lst (acc2.map sgn)), .v (.int (posOf l rest : Nat))]) := by
    intro n
    induction n with
    | zero =>
      intro s' acc k hn h hk hs
      have : s' = [] := List.length_eq_zero_iff.mp (by omega)
      subst this
      have ek := drop_nil h hk
      rw [loopT]
      refine ⟨0, ?_⟩
      have e : posOf l [] = k := by rw [ek]; rfl
      rw [e]
      exact .done (dt_w (and_f (dt_cmpI rfl (va 3 rfl) (de_len (b_len B.len) (db_of (va 0 rfl)) (len_str hz))) (decide_eq_false (by show ¬ ((k : Int) < ((l.length : Nat) : Int)); omega))))
    | succ n ih =>
      intro s' acc k hn h hk hs
      cases s' with
      | nil => exact (by
          have ek := drop_nil h hk
          rw [loopT]
          refine ⟨0, ?_⟩
          have e : posOf l [] = k := by rw [ek]; rfl
          rw [e]
          exact .done (dt_w (and_f (dt_cmpI rfl (va 3 rfl) (de_len (b_len B.len) (db_of (va 0 rfl)) (len_str hz))) (decide_eq_false (by show ¬ ((k : Int) < ((l.length : Nat) : Int)); omega)))))
      | cons c r =>
        rw [List.length_cons] at hn hs
        have hlt := drop_lt h
        have hg := drop_get h
        have tlt : decide ((k : Int) < (((mk l).length : Nat) : Int)) = true := decide_eq_true (by show (k : Int) < ((l.length : Nat) : Int); omega)
        rw [loopT_cons]
        by_cases h1 : c = 34
        · rw [if_pos h1]
          refine ⟨0, ?_⟩
          rw [pos_of h hk]
          exact .done (dt_w (and_t (dt_cmpI rfl (va 3 rfl) (de_len (b_len B.len) (db_of (va 0 rfl)) (len_str hz))) tlt (dw_and1 (to (nes rfl (ixs hz hg (va 0 rfl) (va 3 rfl)) de_str) (by rw [h1]; rfl)))))
        · rw [if_neg h1]
          have hsz : (acc.map sgn).length < sizeLine := Nat.lt_of_lt_of_le (show (acc.map sgn).length < 100000 by rw [List.length_map]; omega) (by decide)
          have test : ∀ {o : Oc} {ρ2 : List S} {m : Nat}, DSs (Xd Pr wo K mg base ["text", "at", "found", "k"] "text_at" sTA f cdv A outer s H E) (Wd0 E) (wB (bodyAt sTA 2)) [.v (.str (mk l)), .v (.int (a : Int)), .own none (.lst (acc.map sgn)), .v (.int (k : Int))] (.next ρ2) → WhR (Xd Pr wo K mg base ["text", "at", "found", "k"] "text_at" sTA f cdv A outer s H E) (Wd0 E) (wT (bodyAt sTA 2)) (wB (bodyAt sTA 2)) m ρ2 o → WhR (Xd Pr wo K mg base ["text", "at", "found", "k"] "text_at" sTA f cdv A outer s H E) (Wd0 E) (wT (bodyAt sTA 2)) (wB (bodyAt sTA 2)) (m + 1) [.v (.str (mk l)), .v (.int (a : Int)), .own none (.lst (acc.map sgn)), .v (.int (k : Int))] o := fun hb hr =>
            .turn (dt_w (and_t (dt_cmpI rfl (va 3 rfl) (de_len (b_len B.len) (db_of (va 0 rfl)) (len_str hz))) tlt (dw_and1 (to (nes (y := [34]) rfl (ixs hz hg (va 0 rfl) (va 3 rfl)) de_str) (nd1 h1))))) hb hr
          by_cases h2 : c = 92
          · rw [if_pos h2]
            have tb2 : decide ([c] = [92]) = true := by rw [h2]; rfl
            have d1 := drop_succ h
            have k1 : ((k : Int) + 1) = ((k + 1 : Nat) : Int) := by omega
            have k2 : ((k : Int) + 2) = ((k + 2 : Nat) : Int) := by omega
            have e21 : k + 2 - (k + 1) = 1 := by omega
            have retn : ∀ z : Nat → Prop, PySem.W.nsIn K dk (mk ((l.drop (k + 1)).take (k + 2 - (k + 1)))) = some none → ∃ n ρ', WhR (Xd Pr wo K mg base ["text", "at", "found", "k"] "text_at" sTA f cdv A outer s H E) (Wd0 E) (wT (bodyAt sTA 2)) (wB (bodyAt sTA 2)) n [.v (.str (mk l)), .v (.int (a : Int)), .own none (.lst (acc.map sgn)), .v (.int (k : Int))] (.ret .non ρ') := fun _ hns =>
              ⟨0, _, .ret (dt_w (and_t (dt_cmpI rfl (va 3 rfl) (de_len (b_len B.len) (db_of (va 0 rfl)) (len_str hz))) tlt (dw_and1 (to (nes (y := [34]) rfl (ixs hz hg (va 0 rfl) (va 3 rfl)) de_str) (nd1 h1)))))
                (if_t (eqs rfl (ixs hz hg (va 0 rfl) (va 3 rfl)) de_str) tb2 (if_r (dt_notInK T rfl tm hns (sl2 (i := k + 1) (j := k + 2) hz (va 0 rfl) (DE.cast (de_add (va 3 rfl) de_int) (congrArg D.int k1)) (DE.cast (de_add (va 3 rfl) de_int) (congrArg D.int k2)))) rfl de_non) rfl)⟩
            cases r with
            | nil =>
              refine retn (fun _ => True) ?_
              have tk0 : (l.drop (k + 1)).take (k + 2 - (k + 1)) = [] := by rw [d1, e21]; rfl
              rw [tk0]
              exact e4 _ (by intro z; cases mk_inj.mp z) (by intro z; cases mk_inj.mp z) (by intro z; cases mk_inj.mp z)
            | cons e r' =>
              rw [List.length_cons] at hn hs
              have hlt2 := drop_lt d1
              have hg2 := drop_get d1
              have d2 := drop_succ d1
              dsimp only
              have tk1 : (l.drop (k + 1)).take (k + 2 - (k + 1)) = [e] := by rw [d1, e21]; rfl
              have go : ∀ (u : Nat) (tu : Tok), PySem.W.nsIn K dk (mk [e]) = some (some (.str (mk [u]) tu)) → DSs (Xd Pr wo K mg base ["text", "at", "found", "k"] "text_at" sTA f cdv A outer s H E) (Wd0 E) (wB (bodyAt sTA 2)) [.v (.str (mk l)), .v (.int (a : Int)), .own none (.lst (acc.map sgn)), .v (.int (k : Int))] (.next [.v (.str (mk l)), .v (.int (a : Int)), .own none (.lst ((acc ++ [u]).map sgn)), .v (.int ((k + 1 + 1 : Nat) : Int))]) := fun u tu hu => by
                have ec : (acc ++ [u]).map sgn = acc.map sgn ++ [sgn u] := by rw [List.map_append]; rfl
                rw [ec]
                exact if_t (eqs rfl (ixs hz hg (va 0 rfl) (va 3 rfl)) de_str) tb2 (if_n (dt_notInK T rfl tm (by rw [tk1]; exact hu) (sl2 (i := k + 1) (j := k + 2) hz (va 0 rfl) (DE.cast (de_add (va 3 rfl) de_int) (congrArg D.int k1)) (DE.cast (de_add (va 3 rfl) de_int) (congrArg D.int k2)))) rfl (seq (ds_append (i := 2) rfl (.inl rfl) (de_itemK T rfl tm hu (v0 := .str (mk [u])) ⟨tu, rfl⟩ (fun _ => .str _) (ixs (i := k + 1) hz hg2 (va 0 rfl) (DE.cast (de_add (va 3 rfl) de_int) (congrArg D.int k1)))) rfl ⟨_, _, rfl⟩ hsz) (dss1 (st 3 cz (DE.cast (de_add (va 3 rfl) de_int) (congrArg D.int k2)))))) dss_nil
              have fin : ∀ (u : Nat) (tu : Tok), unesc e = some u → PySem.W.nsIn K dk (mk [e]) = some (some (.str (mk [u]) tu)) → (match loopT r' (acc ++ [u]) with
                  | none => ∃ n ρ', WhR (Xd Pr wo K mg base ["text", "at", "found", "k"] "text_at" sTA f cdv A outer s H E) (Wd0 E) (wT (bodyAt sTA 2)) (wB (bodyAt sTA 2)) n [.v (.str (mk l)), .v (.int (a : Int)), .own none (.lst (acc.map sgn)), .v (.int (k : Int))] (.ret .non ρ')
                  | some (acc2, rest) => ∃ n, WhR (Xd Pr wo K mg base ["text", "at", "found", "k"] "text_at" sTA f cdv A outer s H E) (Wd0 E) (wT (bodyAt sTA 2)) (wB (bodyAt sTA 2)) n [.v (.str (mk l)), .v (.int (a : Int)), .own none (.lst (acc.map sgn)), .v (.int (k : Int))]
                      (.next [.v (.str (mk l)), .v (.int (a : Int)), .own none (.lst (acc2.map sgn)), .v (.int (posOf l rest : Nat))])) := fun u tu _ hu => by
                have ihr := ih r' (acc ++ [u]) (k + 1 + 1) (by omega) d2 (by omega) (by rw [List.length_append, List.length_singleton]; omega)
                revert ihr
                split
                · rintro ⟨m, ρ', hm⟩
                  exact ⟨m + 1, ρ', test (go u tu hu) hm⟩
                · rintro ⟨m, hm⟩
                  exact ⟨m + 1, test (go u tu hu) hm⟩
              by_cases u1 : e = 92
              · have hu : unesc e = some 92 := by unfold unesc; rw [if_pos u1]
                rw [hu]
                exact fin 92 t1 hu (by rw [u1]; exact e1)
              · by_cases u2 : e = 34
                · have hu : unesc e = some 34 := by unfold unesc; rw [if_neg u1, if_pos u2]
                  rw [hu]
                  exact fin 34 t2 hu (by rw [u2]; exact e2)
                · by_cases u3 : e = 110
                  · have hu : unesc e = some 10 := by unfold unesc; rw [if_neg u1, if_neg u2, if_pos u3]
                    rw [hu]
                    exact fin 10 t3 hu (by rw [u3]; exact e3)
                  · have hu : unesc e = none := by unfold unesc; rw [if_neg u1, if_neg u2, if_neg u3]
                    rw [hu]
                    refine retn (fun _ => True) ?_
                    rw [tk1]
                    exact e4 _ (fun z => u1 (List.cons.inj (mk_inj.mp z)).1) (fun z => u2 (List.cons.inj (mk_inj.mp z)).1) (fun z => u3 (List.cons.inj (mk_inj.mp z)).1)
          · rw [if_neg h2]
            have ihr := ih r (acc ++ [c]) (k + 1) (by omega) (drop_succ h) hlt (by rw [List.length_append, List.length_singleton]; omega)
            have ec : (acc ++ [c]).map sgn = acc.map sgn ++ [sgn c] := by rw [List.map_append]; rfl
            have body : DSs (Xd Pr wo K mg base ["text", "at", "found", "k"] "text_at" sTA f cdv A outer s H E) (Wd0 E) (wB (bodyAt sTA 2)) [.v (.str (mk l)), .v (.int (a : Int)), .own none (.lst (acc.map sgn)), .v (.int (k : Int))] (.next [.v (.str (mk l)), .v (.int (a : Int)), .own none (.lst ((acc ++ [c]).map sgn)), .v (.int ((k + 1 : Nat) : Int))]) := by
              rw [ec]
              exact if_f (eqs rfl (ixs hz hg (va 0 rfl) (va 3 rfl)) de_str) (decide_eq_false (fun z => h2 (List.cons.inj z).1)) (seq (ds_append (i := 2) rfl (.inl rfl) (ixs hz hg (va 0 rfl) (va 3 rfl)) rfl ⟨_, _, rfl⟩ hsz) (dss1 (st 3 cz (DE.cast (de_add (va 3 rfl) de_int) (by rw [show ((k + 1 : Nat) : Int) = (k : Int) + 1 by omega]))))) dss_nil
            revert ihr
            split
            · rintro ⟨m, ρ', hm⟩
              exact ⟨m + 1, ρ', test body hm⟩
            · rintro ⟨m, hm⟩
              exact ⟨m + 1, test body hm⟩
  have hk := key (l.drop (a + 1)).length (l.drop (a + 1)) [] (a + 1) (Nat.le_refl _) rfl ha (by rw [List.length_drop]; simp)
  unfold scanT
  revert hk
  cases hlo : loopT (l.drop (a + 1)) [] with
  | none =>
    rintro ⟨n, ρ', hn⟩
    exact ⟨_, seq (sto 2 cz (de_lst da_nil (Nat.zero_le _))) (seq (st 3 cz (DE.cast (de_add (va 1 rfl) de_int) (congrArg D.int (show (a : Int) + 1 = ((a + 1 : Nat) : Int) by omega)))) (dss (ds_while cz.po hn) rfl)), .ret rfl⟩
  | some p =>
    obtain ⟨acc2, rest⟩ := p
    rintro ⟨n, hn⟩
    obtain ⟨g1, g2, g3⟩ := loopT_suf _ _ [] acc2 rest (Nat.le_refl _) hlo
    have suf : rest <:+ l := g1.trans (List.drop_suffix _ _)
    have la : acc2.length ≤ 50000 := by
      rw [List.length_drop, List.length_nil] at g2
      omega
    have hlen : lenD (.lst (acc2.map sgn)) = some acc2.length := by
      show some (acc2.map sgn).length = _
      rw [List.length_map]
    dsimp only
    rcases g3 with rfl | ⟨q, rfl⟩
    · dsimp only
      exact ⟨_, seq (sto 2 cz (de_lst da_nil (Nat.zero_le _))) (seq (st 3 cz (DE.cast (de_add (va 1 rfl) de_int) (congrArg D.int (show (a : Int) + 1 = ((a + 1 : Nat) : Int) by omega)))) (seq (ds_while cz.po hn) (if_r (dt_w (or_t (dt_cmpI rfl (va 3 rfl) (de_len (b_len B.len) (db_of (va 0 rfl)) (len_str hz))) (decide_eq_true (Int.le_refl _)))) rfl de_non))), .ret rfl⟩
    · have plt : posOf l (34 :: q) < l.length := by
        have := suf.length_le
        rw [List.length_cons] at this
        unfold posOf
        rw [List.length_cons]
        omega
      have nge : decide ((((mk l).length : Nat) : Int) ≤ ((posOf l (34 :: q) : Nat) : Int)) = false := decide_eq_false (by show ¬ (((l.length : Nat) : Int) ≤ _); omega)
      dsimp only
      by_cases h2 : acc2.length ≤ 200
      · rw [if_pos h2]
        have ps : ((posOf l (34 :: q) : Nat) : Int) + 1 = ((posOf l q : Nat) : Int) := by
          rw [pos_cast suf, pos_cast ((List.suffix_cons _ _).trans suf), List.length_cons]
          omega
        show ∃ o, _ ∧ Tells _ _ o (.ret (.tup [.str (mk acc2), .int ((posOf l q : Nat) : Int)]))
        refine ⟨_, seq (sto 2 cz (de_lst da_nil (Nat.zero_le _))) (seq (st 3 cz (DE.cast (de_add (va 1 rfl) de_int) (congrArg D.int (show (a : Int) + 1 = ((a + 1 : Nat) : Int) by omega)))) (seq (ds_while cz.po hn) (if_n (dt_w (or_f (dt_cmpI rfl (va 3 rfl) (de_len (b_len B.len) (db_of (va 0 rfl)) (len_str hz))) nge (dw_or1 (dt_cmpI rfl (de_len (b_len B.len) (vb 2 rfl) hlen) (gi hmx))))) (decide_eq_false (by omega))
          (ret (de_tup (da_cons (joinL_sing acc2 ▸ joins (s := []) (ls := acc2.map fun c => [c]) (by rw [sum_sing, List.length_nil]; omega) (cs rfl) (vb 2 (by rw [List.map_map]; rfl))) (da_cons (DE.cast (de_add (va 3 rfl) de_int) (congrArg D.int ps)) da_nil)) (by show 2 ≤ sizeLine; decide)))))), .ret rfl⟩
      · rw [if_neg h2]
        exact ⟨_, seq (sto 2 cz (de_lst da_nil (Nat.zero_le _))) (seq (st 3 cz (DE.cast (de_add (va 1 rfl) de_int) (congrArg D.int (show (a : Int) + 1 = ((a + 1 : Nat) : Int) by omega)))) (seq (ds_while cz.po hn) (if_r (dt_w (or_f (dt_cmpI rfl (va 3 rfl) (de_len (b_len B.len) (db_of (va 0 rfl)) (len_str hz))) nge (dw_or1 (dt_cmpI rfl (de_len (b_len B.len) (vb 2 rfl) hlen) (gi hmx))))) (decide_eq_true (by omega)) de_non))), .ret rfl⟩
end
end K01


set_option Elab.async false
set_option linter.all false
set_option maxRecDepth 100000
set_option maxHeartbeats 4000000
namespace K01
open PySem PySem.Spec PyProof.Rows L2 Dt
def isDig (c : Nat) : Bool := decide (48 ≤ c) && decide (c ≤ 57)
def digsOf : List Nat → List Nat
  | [] => []
  | c :: r => if isDig c = true then c :: digsOf r else []
def restOf : List Nat → List Nat
  | [] => []
  | c :: r => if isDig c = true then restOf r else c :: r
theorem digs_rest : ∀ s : List Nat, digsOf s ++ restOf s = s
  | [] => rfl
  | c :: r => by
    unfold digsOf restOf
    split
    · rw [List.cons_append, digs_rest r]
    · rfl
theorem digs_all : ∀ s : List Nat, ∀ c ∈ digsOf s, 48 ≤ c ∧ c ≤ 57
  | [], c, h => by cases h
  | x :: r, c, h => by
    unfold digsOf at h
    split at h
    · rename_i hx
      rcases List.mem_cons.mp h with rfl | h
      · unfold isDig at hx
        rw [Bool.and_eq_true] at hx
        exact ⟨of_decide_eq_true hx.1, of_decide_eq_true hx.2⟩
      · exact digs_all r c h
    · cases h
theorem rest_suf (s : List Nat) : restOf s <:+ s := ⟨digsOf s, digs_rest s⟩
def isNeg (s : List Nat) : Bool := decide (s.take 1 = [45])
def numBody (s : List Nat) : List Nat := if isNeg s = true then s.drop 1 else s
def numBad (neg : Bool) (ds : List Nat) : Bool := decide (ds.length = 0) || decide (9 < ds.length) || (decide (ds.take 1 = [48]) && (decide (1 < ds.length) || neg))
def numVal (neg : Bool) (ds : List Nat) : Int := if neg = true then -((NumText.digitsVal ds : Nat) : Int) else ((NumText.digitsVal ds : Nat) : Int)
def numS (s : List Nat) : Option (Int × List Nat) :=
  if numBad (isNeg s) (digsOf (numBody s)) = true then none else some (numVal (isNeg s) (digsOf (numBody s)), restOf (numBody s))
theorem numBody_suf (s : List Nat) : numBody s <:+ s := by
  unfold numBody
  split
  · exact List.drop_suffix _ _
  · exact List.suffix_refl _
theorem numS_suf {s r : List Nat} {i : Int} (h : numS s = some (i, r)) : r <:+ s ∧ r.length < s.length := by
  unfold numS at h
  split at h
  · cases h
  · rename_i hb
    cases h
    refine ⟨(rest_suf _).trans (numBody_suf s), ?_⟩
    have h1 := congrArg List.length (digs_rest (numBody s))
    rw [List.length_append] at h1
    have h2 := (numBody_suf s).length_le
    have h3 : (digsOf (numBody s)).length ≠ 0 := fun z => hb (by unfold numBad; rw [decide_eq_true z]; rfl)
    omega
def outN (l : List Nat) : Option (Int × List Nat) → D
  | none => .non
  | some (i, q) => .tup [.int i, .int (posOf l q : Nat)]
theorem neg_cons {s : List Nat} (h : isNeg s = true) : s = 45 :: s.drop 1 := by
  unfold isNeg at h
  have h := of_decide_eq_true h
  cases s with
  | nil => cases h
  | cons c r =>
    have : c = 45 := (List.cons.inj h).1
    rw [this]
    rfl
theorem num_text (s : List Nat) (hb : ¬ numBad (isNeg s) (digsOf (numBody s)) = true) : PySem.intText? (mk ((if isNeg s = true then [45] else []) ++ digsOf (numBody s))) = some (numVal (isNeg s) (digsOf (numBody s))) := by
  have hne : digsOf (numBody s) ≠ [] := fun z => hb (by unfold numBad; rw [z]; rfl)
  have h9 : (digsOf (numBody s)).length ≤ 9 := by
    refine Nat.le_of_not_lt fun z => hb ?_
    unfold numBad
    rw [decide_eq_true z, Bool.or_true]
    rfl
  have hd : NumText.AllDigits (digsOf (numBody s)) := digs_all _
  unfold numVal
  by_cases h : isNeg s = true
  · rw [if_pos h, if_pos h]
    exact intText_neg rfl hd hne (by show (45 :: digsOf (numBody s)).length ≤ 4300; rw [List.length_cons]; omega)
  · rw [if_neg h, if_neg h]
    exact intText_digits hd hne (by show (digsOf (numBody s)).length ≤ 4300; omega)
theorem mem_figs (c : Nat) : decide (c ∈ ("0123456789" : Str).cps.toList) = isDig c := by
  have e : ("0123456789" : Str).cps.toList = [48, 49, 50, 51, 52, 53, 54, 55, 56, 57] := rfl
  rw [e]
  unfold isDig
  by_cases h : 48 ≤ c ∧ c ≤ 57
  · rw [decide_eq_true h.1, decide_eq_true h.2]
    refine decide_eq_true ?_
    simp only [List.mem_cons, List.not_mem_nil, or_false]
    omega
  · have : (decide (48 ≤ c) && decide (c ≤ 57)) = false := by
      rw [Bool.and_eq_false_iff]
      by_cases h1 : 48 ≤ c
      · exact .inr (decide_eq_false fun z => h ⟨h1, z⟩)
      · exact .inl (decide_eq_false h1)
    rw [this]
    refine decide_eq_false ?_
    simp only [List.mem_cons, List.not_mem_nil, or_false]
    omega
section
variable {Pr : Program} {wo : World} {K : PySem.W.Frag} {mg : Str → Option Value} {base : Heap} {CB : Addr}
abbrev sNA : Stmt := topS 36
theorem sc_na : FnScope ["text", "at", "end", "first", "figures"] ["text", "at"] (defScope sNA) := ⟨rfl, rfl, rfl, by decide +kernel, rfl, by decide +kernel, by decide +kernel⟩
def c_na : Con := fun ps r os => ∃ (l : List Nat) (a : Nat), l.length ≤ 50000 ∧ a ≤ l.length ∧ ps = [.v (.str (mk l)), .v (.int (a : Int))] ∧ r = .ret (outN l (numS (l.drop a))) ∧ os = []
theorem ok_na (F : DefAt K mg "number_at" sNA ["text", "at"]) (B : Blts mg) (C : Cons mg) : FnAt Pr wo K mg base "number_at" 1 ["text", "at"] c_na := by
  refine fnAt (n := 3) F sc_na (fun qs r os h => by obtain ⟨l, a, _, _, rfl, _⟩ := h; rfl) rfl fun f cdv A outer s H E cz qs r os h => ?_
  obtain ⟨l, a, hl, ha, rfl, rfl, rfl⟩ := h
  obtain ⟨tf, hmf⟩ := C.figs
  obtain ⟨tm, hmm⟩ := C.mfig
  have hz : l.length ≤ 100000 := by omega
  have key : ∀ (s' : List Nat) (b e : Nat), l.drop e = s' → e ≤ l.length → ∃ n, WhR (Xd Pr wo K mg base ["text", "at", "end", "first", "figures"] "number_at" sNA f cdv A outer s H E) (Wd0 E) (wT (bodyAt sNA 2)) (wB (bodyAt sNA 2)) n
      [.v (.str (mk l)), .v (.int (a : Int)), .v (.int (e : Int)), .v (.int (b : Int)), .no] (.next [.v (.str (mk l)), .v (.int (a : Int)), .v (.int (posOf l (restOf s') : Nat)), .v (.int (b : Int)), .no]) := by
    intro s'
    induction s' with
    | nil =>
      intro b e h he
      have ee := drop_nil h he
      have e0 : posOf l (restOf []) = e := by rw [ee]; rfl
      rw [e0]
      exact ⟨0, .done (dt_w (and_f (nes (y := []) rfl (sl1 hz (va 0 rfl) (va 2 rfl) (de_add (va 2 rfl) de_int)) de_str) (by rw [h]; rfl)))⟩
    | cons c r ih =>
      intro b e h he
      have hg := drop_get h
      have ne : (!decide ((l.drop e).take 1 = [])) = true := by rw [h]; rfl
      by_cases hd : isDig c = true
      · have hlt := drop_lt h
        obtain ⟨n, hn⟩ := ih b (e + 1) (drop_succ h) hlt
        have e0 : restOf (c :: r) = restOf r := if_pos hd
        rw [e0]
        refine ⟨n + 1, .turn (ρ2 := [.v (.str (mk l)), .v (.int (a : Int)), .v (.int ((e + 1 : Nat) : Int)), .v (.int (b : Int)), .no]) (dt_w (and_t (nes (y := []) rfl (sl1 hz (va 0 rfl) (va 2 rfl) (de_add (va 2 rfl) de_int)) de_str) ne (dw_and1 (to (dt_inS (ixs hz hg (va 0 rfl) (va 2 rfl)) (gs hmf)) (by rw [mem_figs]; exact hd))))) ?_ hn⟩
        exact dss1 (st 2 cz (DE.cast (de_add (va 2 rfl) de_int) (congrArg D.int (show (e : Int) + 1 = ((e + 1 : Nat) : Int) by omega))))
      · have e0 : restOf (c :: r) = c :: r := if_neg hd
        rw [e0, pos_of h he]
        exact ⟨0, .done (dt_w (and_t (nes (y := []) rfl (sl1 hz (va 0 rfl) (va 2 rfl) (de_add (va 2 rfl) de_int)) de_str) ne (dw_and1 (to (dt_inS (ixs hz hg (va 0 rfl) (va 2 rfl)) (gs hmf)) (by rw [mem_figs]; simpa using hd)))))⟩
  -- the place behind the sign
  have hb : ∃ b : Nat, b ≤ l.length ∧ l.drop b = numBody (l.drop a) ∧ a ≤ b ∧ (isNeg (l.drop a) = true → b = a + 1) ∧ (isNeg (l.drop a) = false → b = a) := by
    unfold numBody
    by_cases hn : isNeg (l.drop a) = true
    · have hc := neg_cons hn
      have hlt := drop_lt hc
      refine ⟨a + 1, hlt, ?_, by omega, fun _ => rfl, fun z => by rw [hn] at z; cases z⟩
      rw [if_pos hn, List.drop_drop]
    · refine ⟨a, ha, ?_, Nat.le_refl _, fun z => absurd z hn, fun _ => rfl⟩
      rw [if_neg hn]
  obtain ⟨b, hbl, hbd, hab, hb1, hb2⟩ := hb
  obtain ⟨n, hn⟩ := key (numBody (l.drop a)) b b hbd hbl
  have suf : restOf (numBody (l.drop a)) <:+ l := ((rest_suf _).trans (numBody_suf _)).trans (List.drop_suffix _ _)
  have hsplit : l.drop b = digsOf (numBody (l.drop a)) ++ restOf (numBody (l.drop a)) := by rw [hbd, digs_rest]
  generalize eds : digsOf (numBody (l.drop a)) = ds at *
  generalize ers : restOf (numBody (l.drop a)) = rs at *
  have elen : l.length - b = ds.length + rs.length := by
    have := congrArg List.length hsplit
    rw [List.length_drop, List.length_append] at this
    exact this
  have hpos : posOf l rs = b + ds.length := by
    unfold posOf
    omega
  have hfig : (l.drop b).take (posOf l rs - b) = ds := by
    rw [hsplit, hpos, Nat.add_sub_cancel_left, List.take_left]
  have fl : ds.length ≤ 100000 := by omega
  -- first three statements
  have head : ∀ {o : Oc}, DSs (Xd Pr wo K mg base ["text", "at", "end", "first", "figures"] "number_at" sNA f cdv A outer s H E) (Wd0 E) ((defBody sNA).drop 4) [.v (.str (mk l)), .v (.int (a : Int)), .v (.int (posOf l rs : Nat)), .v (.int (b : Int)), .v (.str (mk ds))] o →
      DSs (Xd Pr wo K mg base ["text", "at", "end", "first", "figures"] "number_at" sNA f cdv A outer s H E) (Wd0 E) (defBody sNA) (toS 0 [P.v (.str (mk l)), P.v (.int (a : Int))] ++ List.replicate 3 S.no) o := fun {o} hk => by
    have tail : DSs (Xd Pr wo K mg base ["text", "at", "end", "first", "figures"] "number_at" sNA f cdv A outer s H E) (Wd0 E) ((defBody sNA).drop 1) [.v (.str (mk l)), .v (.int (a : Int)), .v (.int (b : Int)), .no, .no] o :=
      seq (st 3 cz (va 2 rfl)) (seq (ds_while cz.po hn) (seq (st 4 cz (DE.cast (sl2 (i := b) (j := posOf l rs) hz (va 0 rfl) (va 3 rfl) (va 2 rfl)) (by rw [hfig]))) hk))
    by_cases hng : isNeg (l.drop a) = true
    · have e := hb1 hng
      subst e
      exact seq (st 2 cz (ife_t (eqs (y := [45]) rfl (sl1 hz (va 0 rfl) (va 1 rfl) (de_add (va 1 rfl) de_int)) de_str) hng (DE.cast (de_add (va 1 rfl) de_int) (congrArg D.int (show (a : Int) + 1 = ((a + 1 : Nat) : Int) by omega))))) tail
    · have hng : isNeg (l.drop a) = false := by simpa using hng
      have e := hb2 hng
      subst e
      exact seq (st 2 cz (ife_f (eqs (y := [45]) rfl (sl1 hz (va 0 rfl) (va 1 rfl) (de_add (va 1 rfl) de_int)) de_str) hng (va 1 rfl))) tail
  have hneg : isNeg (l.drop a) = decide ((a : Int) < (b : Int)) := by
    by_cases hng : isNeg (l.drop a) = true
    · rw [hng, hb1 hng]
      exact (decide_eq_true (by omega)).symm
    · have hng : isNeg (l.drop a) = false := by simpa using hng
      rw [hng, hb2 hng]
      exact (decide_eq_false (by omega)).symm
  have lenf : lenD (.str (mk ds)) = some ds.length := len_str fl
  unfold numS
  rw [eds, ers]
  by_cases h0 : ds.length = 0
  · have bad : numBad (isNeg (l.drop a)) ds = true := by unfold numBad; rw [decide_eq_true h0]; rfl
    rw [if_pos bad]
    exact ⟨_, head (if_r (dt_w (or_t (dt_not (dt_chainI rfl rfl de_int (de_len (b_len B.len) (db_of (va 4 rfl)) lenf) (gi hmm))) (by rw [h0]; rfl))) rfl de_non), .ret rfl⟩
  · by_cases h9 : 9 < ds.length
    · have bad : numBad (isNeg (l.drop a)) ds = true := by unfold numBad; rw [decide_eq_true h9, Bool.or_true]; rfl
      rw [if_pos bad]
      exact ⟨_, head (if_r (dt_w (or_t (dt_not (dt_chainI rfl rfl de_int (de_len (b_len B.len) (db_of (va 4 rfl)) lenf) (gi hmm))) (by
        have q : decide (((ds.length : Nat) : Int) ≤ 9) = false := decide_eq_false (by omega)
        show (!(decide ((1 : Int) ≤ ((ds.length : Nat) : Int)) && decide (((ds.length : Nat) : Int) ≤ 9))) = true
        rw [q, Bool.and_false]
        rfl))) rfl de_non), .ret rfl⟩
    · have c1 : (!(decide ((1 : Int) ≤ ((ds.length : Nat) : Int)) && decide (((ds.length : Nat) : Int) ≤ 9))) = false := by
        rw [decide_eq_true (show (1 : Int) ≤ ((ds.length : Nat) : Int) by omega), decide_eq_true (show ((ds.length : Nat) : Int) ≤ 9 by omega)]
        rfl
      obtain ⟨c, dr, hds⟩ : ∃ c dr, ds = c :: dr := by
        cases ds with
        | nil => exact absurd rfl h0
        | cons c dr => exact ⟨c, dr, rfl⟩
      have hg : ds[0]? = some c := by rw [hds]; rfl
      have e0 : numBad (isNeg (l.drop a)) ds = (decide ([c] = [48]) && (decide ((1 : Int) < ((ds.length : Nat) : Int)) || decide ((a : Int) < (b : Int)))) := by
        unfold numBad
        rw [decide_eq_false h0, decide_eq_false h9, Bool.false_or, Bool.false_or, hneg]
        have t1 : ds.take 1 = [c] := by rw [hds]; rfl
        rw [t1]
        congr 2
        exact decide_eq_decide.mpr (by omega)
      have e00 : ((0 : Nat) : Int) = 0 := rfl
      by_cases bad : numBad (isNeg (l.drop a)) ds = true
      · rw [if_pos bad]
        rw [e0, Bool.and_eq_true] at bad
        exact ⟨_, head (if_r (dt_w (or_f (dt_not (dt_chainI rfl rfl de_int (de_len (b_len B.len) (db_of (va 4 rfl)) lenf) (gi hmm))) c1 (dw_or1 (dt_w (and_t (eqs (y := [48]) rfl (ixs (i := 0) fl hg (va 4 rfl) de_int) de_str) bad.1 (dw_and1 (dt_w (dw_or (dt_cmpI rfl (de_len (b_len B.len) (db_of (va 4 rfl)) lenf) de_int) fun _ => dw_or1 (dt_cmpI rfl (va 3 rfl) (va 1 rfl)))))))))) bad.2 de_non), .ret rfl⟩
      · have nb := bad
        rw [if_neg bad]
        have bad : numBad (isNeg (l.drop a)) ds = false := by simpa using bad
        rw [e0] at bad
        have cut : (l.drop a).take (posOf l rs - a) = (if isNeg (l.drop a) = true then [45] else []) ++ ds := by
          by_cases hng : isNeg (l.drop a) = true
          · rw [if_pos hng]
            have e := hb1 hng
            have hc := neg_cons hng
            rw [List.drop_drop] at hc
            rw [hc, ← e, hsplit, hpos, e, show a + 1 + ds.length - a = ds.length + 1 by omega, List.take_succ_cons, List.take_left]
            rfl
          · rw [if_neg hng]
            have e := hb2 (by simpa using hng)
            rw [← e, hsplit, hpos, Nat.add_sub_cancel_left, List.take_left]
            rfl
        have it : PySem.intText? (mk ((l.drop a).take (posOf l rs - a))) = some (numVal (isNeg (l.drop a)) ds) := by
          rw [cut, ← eds]
          exact num_text _ (by rw [eds]; exact nb)
        have il : (mk ((l.drop a).take (posOf l rs - a))).length ≤ 640 := by
          rw [cut]
          show ((if isNeg (l.drop a) = true then [45] else []) ++ ds).length ≤ 640
          rw [List.length_append]
          split
          · rw [List.length_singleton]; omega
          · rw [List.length_nil]; omega
        have fin : ∀ {k0 : Bool}, DSs (Xd Pr wo K mg base ["text", "at", "end", "first", "figures"] "number_at" sNA f cdv A outer s H E) (Wd0 E) ((defBody sNA).drop 5) [.v (.str (mk l)), .v (.int (a : Int)), .v (.int (posOf l rs : Nat)), .v (.int (b : Int)), .v (.str (mk ds))] (.ret (.tup [.int (numVal (isNeg (l.drop a)) ds), .int (posOf l rs : Nat)]) [.v (.str (mk l)), .v (.int (a : Int)), .v (.int (posOf l rs : Nat)), .v (.int (b : Int)), .v (.str (mk ds))]) := fun {_} =>
          ret (de_tup (da_cons (de_intS it il (b_int B.int) (sl2 (i := a) (j := posOf l rs) hz (va 0 rfl) (va 1 rfl) (va 2 rfl))) (da_cons (va 2 rfl) da_nil)) (by show 2 ≤ sizeLine; decide))
        by_cases b1 : decide ([c] = [48]) = true
        · have b2 : (decide ((1 : Int) < ((ds.length : Nat) : Int)) || decide ((a : Int) < (b : Int))) = false := by rw [b1, Bool.true_and] at bad; exact bad
          exact ⟨_, head (if_n (dt_w (or_f (dt_not (dt_chainI rfl rfl de_int (de_len (b_len B.len) (db_of (va 4 rfl)) lenf) (gi hmm))) c1 (dw_or1 (dt_w (and_t (eqs (y := [48]) rfl (ixs (i := 0) fl hg (va 4 rfl) de_int) de_str) b1 (dw_and1 (dt_w (dw_or (dt_cmpI rfl (de_len (b_len B.len) (db_of (va 4 rfl)) lenf) de_int) fun _ => dw_or1 (dt_cmpI rfl (va 3 rfl) (va 1 rfl)))))))))) b2 (fin (k0 := true))), .ret rfl⟩
        · have b1 : decide ([c] = [48]) = false := by simpa using b1
          exact ⟨_, head (if_n (dt_w (or_f (dt_not (dt_chainI rfl rfl de_int (de_len (b_len B.len) (db_of (va 4 rfl)) lenf) (gi hmm))) c1 (dw_or1 (dt_w (and_f (eqs (y := [48]) rfl (ixs (i := 0) fl hg (va 4 rfl) de_int) de_str) b1))))) rfl (fin (k0 := true))), .ret rfl⟩
end
end K01


set_option Elab.async false
set_option linter.all false
set_option maxRecDepth 100000
set_option maxHeartbeats 4000000
namespace K01
open PySem PySem.Spec PyProof.Rows L2 Dt
theorem sw_mk {l w : List Nat} {a : Nat} (ha : a ≤ l.length) : Txt.startswith3 (mk l) (mk w) (a : Int) = decide ((l.drop a).take w.length = w) := by
  have hf : fromIndex (mk l).length (a : Int) = a := by
    unfold fromIndex
    rw [if_neg (by omega)]
    omega
  unfold Txt.startswith3
  rw [hf, StrLaws.subAt_eq]
  show (decide (a + w.length ≤ l.length) && ((l.drop a).take w.length == w)) = _
  by_cases h : (l.drop a).take w.length = w
  · have h2 := congrArg List.length h
    rw [List.length_take, List.length_drop] at h2
    rw [decide_eq_true (show a + w.length ≤ l.length by omega), h, decide_eq_true rfl, Bool.true_and]
    exact beq_self_eq_true w
  · rw [decide_eq_false h, beq_eq_false_iff_ne.mpr h, Bool.and_false]
theorem tw_skip : ∀ l : List Nat, l.drop (l.takeWhile (mk [32]).cps.contains).length = skipB l
  | [] => rfl
  | c :: r => by
    have hc : (mk [32]).cps.contains c = decide (c = 32) := by
      show Array.contains #[32] c = _
      simp [Array.contains, eq_comm]
      rfl
    unfold skipB
    rw [List.takeWhile_cons, hc]
    by_cases h : c = 32
    · rw [decide_eq_true h, if_pos rfl, if_pos h, List.length_cons, List.drop_succ_cons, tw_skip r]
    · rw [decide_eq_false h, if_neg Bool.false_ne_true, if_neg h]
      rfl
theorem lstrip_mk (l : List Nat) : Txt.lstripChars (mk l) (mk [32]) = mk (skipB l) := by
  unfold Txt.lstripChars Txt.stripBy
  split
  · rename_i h
    unfold stripSame at h
    rw [Bool.and_eq_true] at h
    have h1 : (l.takeWhile (mk [32]).cps.contains).length = 0 := by
      have := h.1
      unfold stripLo at this
      rw [if_pos rfl] at this
      exact eq_of_beq this
    have h2 := tw_skip l
    rw [h1, List.drop_zero] at h2
    rw [← h2]
  · unfold stripped Builtin.Str.strSub stripHi stripLo
    rw [if_pos rfl, if_neg Bool.false_ne_true]
    refine str_ext ?_
    show ((l.toArray).extract _ _).toList = _
    rw [Array.toList_extract]
    show (l.drop _).take _ = _
    rw [List.take_of_length_le (by rw [List.length_drop]; exact Nat.le_refl _)]
    exact tw_skip l
/-! ### single_at -/
def tagI : Option (Int × List Nat) → Option (D × List Nat)
  | none => none
  | some (i, q) => some (.int i, q)
def tagT : Option (List Nat × List Nat) → Option (D × List Nat)
  | none => none
  | some (t, q) => some (.str (mk t), q)
def outS (l : List Nat) : Option (D × List Nat) → D
  | none => .non
  | some (d, q) => .tup [d, .int (posOf l q : Nat)]
theorem outS_I (l : List Nat) (o : Option (Int × List Nat)) : outS l (tagI o) = outN l o := by rcases o with _ | ⟨_, _⟩ <;> rfl
theorem outS_T (l : List Nat) (o : Option (List Nat × List Nat)) : outS l (tagT o) = outT l o := by rcases o with _ | ⟨_, _⟩ <;> rfl
def singleS (s : List Nat) : Option (D × List Nat) :=
  if s.take 1 = [34] then tagT (scanT (s.drop 1)) else if s.take 3 = [121, 101, 115] then some (.bl true, s.drop 3) else if s.take 2 = [110, 111] then some (.bl false, s.drop 2) else tagI (numS s)
theorem take_len {s w : List Nat} {n : Nat} (h : s.take n = w) (hw : w.length = n) : n ≤ s.length := by
  have := congrArg List.length h
  rw [List.length_take, hw] at this
  omega
theorem singleS_suf {s q : List Nat} {d : D} (h : singleS s = some (d, q)) : q <:+ s ∧ q.length < s.length := by
  unfold singleS at h
  split at h
  · rename_i h1
    have h1 := take_len h1 rfl
    cases h2 : scanT (s.drop 1) with
    | none => rw [h2] at h; cases h
    | some p =>
      obtain ⟨t, q'⟩ := p
      rw [h2] at h
      cases h
      obtain ⟨g1, g2, _⟩ := scanT_suf h2
      rw [List.length_drop] at g2
      exact ⟨g1.trans (List.drop_suffix _ _), by omega⟩
  · split at h
    · rename_i h1
      have h1 := take_len h1 rfl
      cases h
      exact ⟨List.drop_suffix _ _, by rw [List.length_drop]; omega⟩
    · split at h
      · rename_i h1
        have h1 := take_len h1 rfl
        cases h
        exact ⟨List.drop_suffix _ _, by rw [List.length_drop]; omega⟩
      · cases h2 : numS s with
        | none => rw [h2] at h; cases h
        | some p =>
          obtain ⟨i, q'⟩ := p
          rw [h2] at h
          cases h
          exact numS_suf h2
section
variable {Pr : Program} {wo : World} {K : PySem.W.Frag} {mg : Str → Option Value} {base : Heap} {CB : Addr}
abbrev sSA : Stmt := topS 38
theorem sc_sa : FnScope ["text", "at", "word", "truth"] ["text", "at"] (defScope sSA) := ⟨rfl, rfl, rfl, by decide +kernel, rfl, by decide +kernel, by decide +kernel⟩
def c_sa : Con := fun ps r os => ∃ (l : List Nat) (a : Nat), l.length ≤ 50000 ∧ a ≤ l.length ∧ ps = [.v (.str (mk l)), .v (.int (a : Int))] ∧ r = .ret (outS l (singleS (l.drop a))) ∧ os = []
theorem ok_sa (F : DefAt K mg "single_at" sSA ["text", "at"]) (B : Blts mg) (GT : FnAt Pr wo K mg base "text_at" 1 ["text", "at"] c_ta) (GN : FnAt Pr wo K mg base "number_at" 1 ["text", "at"] c_na) : FnAt Pr wo K mg base "single_at" 2 ["text", "at"] c_sa := by
  refine fnAt (n := 2) F sc_sa (fun qs r os h => by obtain ⟨l, a, _, _, rfl, _⟩ := h; rfl) rfl fun f cdv A outer s H E cz qs r os h => ?_
  obtain ⟨l, a, hl, ha, rfl, rfl, rfl⟩ := h
  have hz : l.length ≤ 100000 := by omega
  unfold singleS
  by_cases h1 : (l.drop a).take 1 = [34]
  · have hlt : a < l.length := by
      have := take_len h1 rfl
      rw [List.length_drop] at this
      omega
    rw [if_pos h1, outS_T, List.drop_drop]
    exact ⟨_, if_r (eqs (y := [34]) rfl (sl1 hz (va 0 rfl) (va 1 rfl) (de_add (va 1 rfl) de_int)) de_str) (decide_eq_true h1) (de_callV cz GT (by decide) (da_cons (va 0 rfl) (da_cons (va 1 rfl) da_nil)) ⟨l, a, hl, hlt, rfl, rfl, rfl⟩), .ret rfl⟩
  · rw [if_neg h1]
    have tup : ∀ {o : Oc}, FoR (Xd Pr wo K mg base ["text", "at", "word", "truth"] "single_at" sSA f cdv A outer s H E) (Wd0 E) (fT (bodyAt sSA 1)) (fB (bodyAt sSA 1)) [.tup [.str (mk [121, 101, 115]), .bl true], .tup [.str (mk [110, 111]), .bl false]]
        [.v (.str (mk l)), .v (.int (a : Int)), .no, .no] o → DS (Xd Pr wo K mg base ["text", "at", "word", "truth"] "single_at" sSA f cdv A outer s H E) (Wd0 E) (bodyAt sSA 1) [.v (.str (mk l)), .v (.int (a : Int)), .no, .no] o := fun {o} h =>
      ds_for cz.po cz.calm (di_tup (de_tup (da_cons (de_tup (da_cons (cs rfl) (da_cons de_bl da_nil)) (by show 2 ≤ sizeLine; decide)) (da_cons (de_tup (da_cons (cs rfl) (da_cons de_bl da_nil)) (by show 2 ≤ sizeLine; decide)) da_nil)) (by show 2 ≤ sizeLine; decide))) h
    have bnd : ∀ {r1 r2 : S} {z : Str} {b : Bool}, Bd (Xd Pr wo K mg base ["text", "at", "word", "truth"] "single_at" sSA f cdv A outer s H E) (Wd0 E) (fT (bodyAt sSA 1)) (.tup [.str z, .bl b]) [.v (.str (mk l)), .v (.int (a : Int)), r1, r2] [.v (.str (mk l)), .v (.int (a : Int)), .v (.str z), .v (.bl b)] := fun {r1 r2 z b} =>
      bd_tup2 (i := 2) (j := 3) cz.calm cz.nd rfl (Or.inl rfl) rfl (Or.inl rfl)
    have yes : ∀ {w : List Nat} {b : Bool} , w.length ≤ 100000 → (l.drop a).take w.length = w → DSs (Xd Pr wo K mg base ["text", "at", "word", "truth"] "single_at" sSA f cdv A outer s H E) (Wd0 E) (fB (bodyAt sSA 1)) [.v (.str (mk l)), .v (.int (a : Int)), .v (.str (mk w)), .v (.bl b)]
        (.ret (outS l (some (.bl b, (l.drop a).drop w.length))) [.v (.str (mk l)), .v (.int (a : Int)), .v (.str (mk w)), .v (.bl b)]) := fun {w b} hw h => by
      have e : ((posOf l ((l.drop a).drop w.length) : Nat) : Int) = (a : Int) + ((w.length : Nat) : Int) := by
        have := take_len h rfl
        rw [List.length_drop] at this
        rw [List.drop_drop, pos_drop (by omega)]
        omega
      have e2 : outS l (some (.bl b, (l.drop a).drop w.length)) = .tup [.bl b, .int ((a : Int) + ((w.length : Nat) : Int))] := by
        rw [← e]
        rfl
      rw [e2]
      exact if_r (tb (de_sw3 (va 0 rfl) (va 2 rfl) (va 1 rfl))) (by rw [sw_mk ha]; exact decide_eq_true h) (de_tup (da_cons (va 3 rfl) (da_cons (de_add (va 1 rfl) (de_len (b_len B.len) (db_of (va 2 rfl)) (len_str hw))) da_nil)) (by show 2 ≤ sizeLine; decide))
    have no : ∀ {w : List Nat} {b : Bool}, ¬ (l.drop a).take w.length = w → DSs (Xd Pr wo K mg base ["text", "at", "word", "truth"] "single_at" sSA f cdv A outer s H E) (Wd0 E) (fB (bodyAt sSA 1)) [.v (.str (mk l)), .v (.int (a : Int)), .v (.str (mk w)), .v (.bl b)]
        (.next [.v (.str (mk l)), .v (.int (a : Int)), .v (.str (mk w)), .v (.bl b)]) := fun {w b} h =>
      if_n (tb (de_sw3 (va 0 rfl) (va 2 rfl) (va 1 rfl))) (by rw [sw_mk ha]; exact decide_eq_false h) dss_nil
    have top : ∀ {o : Oc}, DSs (Xd Pr wo K mg base ["text", "at", "word", "truth"] "single_at" sSA f cdv A outer s H E) (Wd0 E) ((defBody sSA).drop 1) [.v (.str (mk l)), .v (.int (a : Int)), .no, .no] o → DSs (Xd Pr wo K mg base ["text", "at", "word", "truth"] "single_at" sSA f cdv A outer s H E) (Wd0 E) (defBody sSA) (toS 0 [P.v (.str (mk l)), P.v (.int (a : Int))] ++ List.replicate 2 S.no) o := fun {o} h =>
      if_n (eqs (y := [34]) rfl (sl1 hz (va 0 rfl) (va 1 rfl) (de_add (va 1 rfl) de_int)) de_str) (decide_eq_false h1) h
    by_cases h2 : (l.drop a).take 3 = [121, 101, 115]
    · rw [if_pos h2]
      exact ⟨_, top (dss (tup (.ret bnd (yes (w := [121, 101, 115]) (by decide) h2))) rfl), .ret rfl⟩
    · rw [if_neg h2]
      by_cases h3 : (l.drop a).take 2 = [110, 111]
      · rw [if_pos h3]
        exact ⟨_, top (dss (tup (.turn bnd (no (w := [121, 101, 115]) h2) (.ret bnd (yes (w := [110, 111]) (by decide) h3)))) rfl), .ret rfl⟩
      · rw [if_neg h3, outS_I]
        exact ⟨_, top (seq (tup (.turn bnd (no (w := [121, 101, 115]) h2) (.turn bnd (no (w := [110, 111]) h3) .nil))) (ret (de_callV cz GN (by decide) (da_cons (va 0 rfl) (da_cons (va 1 rfl) da_nil)) ⟨l, a, hl, ha, rfl, rfl, rfl⟩))), .ret rfl⟩
end
end K01


set_option Elab.async false
set_option linter.all false
set_option maxRecDepth 100000
set_option maxHeartbeats 4000000
namespace K01
open PySem PySem.Spec PyProof.Rows L2 Dt
/-- the items of a list, n more may come -/
def itemsS : Nat → List Nat → List D → Option (List D × List Nat)
  | 0, _, _ => none
  | n + 1, s, acc => match singleS s with
    | none => none
    | some (d, q) => if (skipB q).take 1 = [93] then some (acc ++ [d], (skipB q).drop 1) else if (skipB q).take 1 = [44] then itemsS n (skipB ((skipB q).drop 1)) (acc ++ [d]) else none
def tagL : Option (List D × List Nat) → Option (D × List Nat)
  | none => none
  | some (xs, q) => some (.lst xs, q)
def listS (s : List Nat) : Option (D × List Nat) := if s.take 1 = [93] then some (.lst [], s.drop 1) else tagL (itemsS 20 s [])
def valueS (s : List Nat) : Option (D × List Nat) := if s.take 1 = [91] then listS (skipB (s.drop 1)) else singleS s
theorem itemsS_suf : ∀ (n : Nat) {s q : List Nat} {acc xs : List D}, itemsS n s acc = some (xs, q) → q <:+ s
  | 0, _, _, _, _, h => by cases h
  | n + 1, s, q, acc, xs, h => by
    unfold itemsS at h
    cases h1 : singleS s with
    | none => rw [h1] at h; cases h
    | some p =>
      obtain ⟨d, q1⟩ := p
      rw [h1] at h
      have g := (singleS_suf h1).1
      dsimp only at h
      split at h
      · cases h
        exact ((List.drop_suffix _ _).trans (skipB_suf _)).trans g
      · split at h
        · exact (((itemsS_suf n h).trans (skipB_suf _)).trans (List.drop_suffix _ _)).trans ((skipB_suf _).trans g)
        · cases h
theorem listS_suf {s q : List Nat} {d : D} (h : listS s = some (d, q)) : q <:+ s := by
  unfold listS at h
  split at h
  · cases h
    exact List.drop_suffix _ _
  · cases h1 : itemsS 20 s [] with
    | none => rw [h1] at h; cases h
    | some p =>
      obtain ⟨xs, q1⟩ := p
      rw [h1] at h
      cases h
      exact itemsS_suf _ h1
theorem valueS_suf {s q : List Nat} {d : D} (h : valueS s = some (d, q)) : q <:+ s := by
  unfold valueS at h
  split at h
  · exact ((listS_suf h).trans (skipB_suf _)).trans (List.drop_suffix _ _)
  · exact (singleS_suf h).1
theorem drop_pos1 {l q : List Nat} (h : q <:+ l) (h0 : 1 ≤ q.length) : posOf l (q.drop 1) = posOf l q + 1 := by
  have := h.length_le
  unfold posOf
  rw [List.length_drop]
  omega
section
variable {Pr : Program} {wo : World} {K : PySem.W.Frag} {mg : Str → Option Value} {base : Heap} {CB : Addr}
abbrev sVA : Stmt := topS 40
theorem sc_va : FnScope ["text", "at", "items", "one"] ["text", "at"] (defScope sVA) := ⟨rfl, rfl, rfl, by decide +kernel, rfl, by decide +kernel, by decide +kernel⟩
def c_va : Con := fun ps r os => ∃ (l : List Nat) (a : Nat), l.length ≤ 50000 ∧ a ≤ l.length ∧ ps = [.v (.str (mk l)), .v (.int (a : Int))] ∧ r = .ret (outS l (valueS (l.drop a))) ∧ os = []
theorem ok_va (F : DefAt K mg "value_at" sVA ["text", "at"]) (B : Blts mg) (C : Cons mg) (GS : FnAt Pr wo K mg base "single_at" 2 ["text", "at"] c_sa) (GB : FnAt Pr wo K mg base "blanks_from" 1 ["text", "at"] c_bl) : FnAt Pr wo K mg base "value_at" 3 ["text", "at"] c_va := by
  refine fnAt (n := 2) F sc_va (fun qs r os h => by obtain ⟨l, a, _, _, rfl, _⟩ := h; rfl) rfl fun f cdv A outer s H E cz qs r os h => ?_
  obtain ⟨l, a, hl, ha, rfl, rfl, rfl⟩ := h
  obtain ⟨tm, hmi⟩ := C.mit
  have hz : l.length ≤ 100000 := by omega
  have p1 : ∀ i : Nat, (i : Int) + 1 = ((i + 1 : Nat) : Int) := fun i => by omega
  have key : ∀ (n : Nat) (acc : List D) (s' : List Nat) (a : Nat) (r1 : S), acc.length + n = 20 → l.drop a = s' → a ≤ l.length →
      ∃ m ρ', WhR (Xd Pr wo K mg base ["text", "at", "items", "one"] "value_at" sVA f cdv A outer s H E) (Wd0 E) (wT (bodyAt sVA 4)) (wB (bodyAt sVA 4)) m [.v (.str (mk l)), .v (.int (a : Int)), .own none (.lst acc), r1] (.ret (outS l (tagL (itemsS n s' acc))) ρ') := by
    intro n
    induction n with
    | zero =>
      intro acc s' a r1 hn h ha
      refine ⟨0, _, .ret (tb de_bl) (seq (st 3 cz (de_callV cz GS (by decide) (da_cons (va 0 rfl) (da_cons (va 1 rfl) da_nil)) ⟨l, a, hl, ha, rfl, rfl, rfl⟩)) (if_r (dt_w (dw_or (dt_isN (va 3 rfl)) fun _ => dw_or1 (dt_cmpI rfl (de_len (b_len B.len) (vb 2 rfl) rfl) (gi hmi)))) ?_ de_non))⟩
      have : decide (((acc.length : Nat) : Int) = 20) = true := decide_eq_true (by omega)
      rw [this, Bool.or_true]
    | succ n ih =>
      intro acc s' a r1 hn h ha
      have st1 : ∀ {o : Oc}, DSs (Xd Pr wo K mg base ["text", "at", "items", "one"] "value_at" sVA f cdv A outer s H E) (Wd0 E) ((wB (bodyAt sVA 4)).drop 1) [.v (.str (mk l)), .v (.int (a : Int)), .own none (.lst acc), .v (outS l (singleS s'))] o →
          DSs (Xd Pr wo K mg base ["text", "at", "items", "one"] "value_at" sVA f cdv A outer s H E) (Wd0 E) (wB (bodyAt sVA 4)) [.v (.str (mk l)), .v (.int (a : Int)), .own none (.lst acc), r1] o := fun {o} h1 =>
        seq (st 3 cz (de_callV (r := .ret (outS l (singleS s'))) cz GS (by decide) (da_cons (va 0 rfl) (da_cons (va 1 rfl) da_nil)) ⟨l, a, hl, ha, rfl, by rw [h], rfl⟩)) h1
      unfold itemsS
      cases h1 : singleS s' with
      | none =>
        rw [h1] at st1
        exact ⟨0, _, .ret (tb de_bl) (st1 (if_r (dt_w (or_t (dt_isN (va 3 rfl)) rfl)) rfl de_non))⟩
      | some p =>
        obtain ⟨d, q⟩ := p
        rw [h1] at st1
        have sq : q <:+ l := (singleS_suf h1).1.trans (h ▸ List.drop_suffix _ _)
        have sk : skipB q <:+ l := (skipB_suf q).trans sq
        have dk := drop_pos sk
        have nf : decide (((acc.length : Nat) : Int) = 20) = false := decide_eq_false (by omega)
        dsimp only
        have st2 : ∀ {o : Oc}, DSs (Xd Pr wo K mg base ["text", "at", "items", "one"] "value_at" sVA f cdv A outer s H E) (Wd0 E) ((wB (bodyAt sVA 4)).drop 4) [.v (.str (mk l)), .v (.int (posOf l (skipB q) : Nat)), .own none (.lst (acc ++ [d])), .v (outS l (some (d, q)))] o →
            DSs (Xd Pr wo K mg base ["text", "at", "items", "one"] "value_at" sVA f cdv A outer s H E) (Wd0 E) (wB (bodyAt sVA 4)) [.v (.str (mk l)), .v (.int (a : Int)), .own none (.lst acc), r1] o := fun {o} h2 =>
          st1 (if_n (dt_w (or_f (dt_isN (va 3 rfl)) rfl (dw_or1 (dt_cmpI rfl (de_len (b_len B.len) (vb 2 rfl) rfl) (gi hmi))))) nf (seq (ds_append (i := 2) rfl (.inl rfl) (de_ix (va 3 rfl) de_int rfl) rfl ⟨_, _, rfl⟩ (Nat.lt_of_le_of_lt (show acc.length ≤ 20 by omega) (by decide)))
            (seq (st 1 cz (de_callV (r := .ret (.int (posOf l (skipB q) : Nat))) cz GB (by decide) (da_cons (va 0 rfl) (da_cons (de_ix (va 3 rfl) de_int rfl) da_nil)) ⟨l, posOf l q, hl, pos_le, rfl, by rw [drop_pos sq], rfl⟩)) h2)))
        by_cases h2 : (skipB q).take 1 = [93]
        · rw [if_pos h2]
          have e : outS l (tagL (some (acc ++ [d], (skipB q).drop 1))) = .tup [.lst (acc ++ [d]), .int ((posOf l (skipB q) : Nat) + 1)] := by
            show D.tup [_, .int ((posOf l ((skipB q).drop 1) : Nat) : Int)] = _
            rw [drop_pos1 sk (take_len h2 rfl), p1]
          rw [e]
          exact ⟨0, _, .ret (tb de_bl) (st2 (if_r (eqs (y := [93]) rfl (sl1 hz (va 0 rfl) (va 1 rfl) (de_add (va 1 rfl) de_int)) de_str) (by rw [dk]; exact decide_eq_true h2) (de_tup (da_cons (vf 2 rfl) (da_cons (de_add (va 1 rfl) de_int) da_nil)) (by show 2 ≤ sizeLine; decide))))⟩
        · rw [if_neg h2]
          have n2 : decide ((l.drop (posOf l (skipB q))).take 1 = [93]) = false := by rw [dk]; exact decide_eq_false h2
          by_cases h3 : (skipB q).take 1 = [44]
          · rw [if_pos h3]
            have sd : (skipB q).drop 1 <:+ l := (List.drop_suffix _ _).trans sk
            have ss : skipB ((skipB q).drop 1) <:+ l := (skipB_suf _).trans sd
            obtain ⟨m, ρ', hm⟩ := ih (acc ++ [d]) (skipB ((skipB q).drop 1)) (posOf l (skipB ((skipB q).drop 1))) (.v (outS l (some (d, q)))) (by rw [List.length_append, List.length_singleton]; omega) (drop_pos ss) pos_le
            refine ⟨m + 1, ρ', .turn (tb de_bl) (st2 (if_n (eqs (y := [93]) rfl (sl1 hz (va 0 rfl) (va 1 rfl) (de_add (va 1 rfl) de_int)) de_str) n2 (if_n (nes (y := [44]) rfl (sl1 hz (va 0 rfl) (va 1 rfl) (de_add (va 1 rfl) de_int)) de_str) (by rw [dk, h3]; rfl) (dss1 (st 1 cz (de_callV cz GB (by decide) (da_cons (va 0 rfl) (da_cons (DE.cast (de_add (va 1 rfl) de_int) (congrArg D.int (p1 _))) da_nil)) ⟨l, posOf l (skipB q) + 1, hl, ?_, rfl, rfl, rfl⟩)))))) ?_⟩
            · have := take_len h3 rfl
              have := sk.length_le
              unfold posOf
              omega
            · have e : l.drop (posOf l (skipB q) + 1) = (skipB q).drop 1 := by rw [← List.drop_drop, dk]
              rw [e]
              exact hm
          · rw [if_neg h3]
            exact ⟨0, _, .ret (tb de_bl) (st2 (if_n (eqs (y := [93]) rfl (sl1 hz (va 0 rfl) (va 1 rfl) (de_add (va 1 rfl) de_int)) de_str) n2 (if_r (nes (y := [44]) rfl (sl1 hz (va 0 rfl) (va 1 rfl) (de_add (va 1 rfl) de_int)) de_str) (by rw [dk, decide_eq_false h3]; rfl) de_non)))⟩
  unfold valueS
  by_cases h1 : (l.drop a).take 1 = [91]
  · rw [if_pos h1]
    have hlt : a + 1 ≤ l.length := by
      have := take_len h1 rfl
      rw [List.length_drop] at this
      omega
    have sk : skipB ((l.drop a).drop 1) <:+ l := ((skipB_suf _).trans (List.drop_suffix _ _)).trans (List.drop_suffix _ _)
    have dk := drop_pos sk
    have st1 : ∀ {o : Oc}, DSs (Xd Pr wo K mg base ["text", "at", "items", "one"] "value_at" sVA f cdv A outer s H E) (Wd0 E) ((defBody sVA).drop 3) [.v (.str (mk l)), .v (.int (posOf l (skipB ((l.drop a).drop 1)) : Nat)), .own none (.lst []), .no] o →
        DSs (Xd Pr wo K mg base ["text", "at", "items", "one"] "value_at" sVA f cdv A outer s H E) (Wd0 E) (defBody sVA) (toS 0 [P.v (.str (mk l)), P.v (.int (a : Int))] ++ List.replicate 2 S.no) o := fun {o} h2 =>
      if_n (nes (y := [91]) rfl (sl1 hz (va 0 rfl) (va 1 rfl) (de_add (va 1 rfl) de_int)) de_str) (by rw [h1]; rfl) (seq (sto 2 cz (de_lst da_nil (by show 0 ≤ sizeLine; decide))) (seq (st 1 cz (de_callV (r := .ret (.int (posOf l (skipB ((l.drop a).drop 1)) : Nat))) cz GB (by decide) (da_cons (va 0 rfl) (da_cons (DE.cast (de_add (va 1 rfl) de_int) (congrArg D.int (p1 _))) da_nil)) ⟨l, a + 1, hl, hlt, rfl, by rw [List.drop_drop], rfl⟩)) h2))
    unfold listS
    by_cases h2 : (skipB ((l.drop a).drop 1)).take 1 = [93]
    · rw [if_pos h2]
      have e : outS l (some (.lst [], (skipB ((l.drop a).drop 1)).drop 1)) = .tup [.lst [], .int ((posOf l (skipB ((l.drop a).drop 1)) : Nat) + 1)] := by
        show D.tup [_, .int ((posOf l ((skipB ((l.drop a).drop 1)).drop 1) : Nat) : Int)] = _
        rw [drop_pos1 sk (take_len h2 rfl), p1]
      rw [e]
      exact ⟨_, st1 (if_r (eqs (y := [93]) rfl (sl1 hz (va 0 rfl) (va 1 rfl) (de_add (va 1 rfl) de_int)) de_str) (by rw [dk]; exact decide_eq_true h2) (de_tup (da_cons (vf 2 rfl) (da_cons (de_add (va 1 rfl) de_int) da_nil)) (by show 2 ≤ sizeLine; decide))), .ret rfl⟩
    · rw [if_neg h2]
      obtain ⟨m, ρ', hm⟩ := key 20 [] _ _ .no rfl dk pos_le
      exact ⟨_, st1 (if_n (eqs (y := [93]) rfl (sl1 hz (va 0 rfl) (va 1 rfl) (de_add (va 1 rfl) de_int)) de_str) (by rw [dk]; exact decide_eq_false h2) (dss1 (ds_while cz.po hm))), .ret rfl⟩
  · rw [if_neg h1]
    exact ⟨_, if_r (nes (y := [91]) rfl (sl1 hz (va 0 rfl) (va 1 rfl) (de_add (va 1 rfl) de_int)) de_str) (by rw [decide_eq_false h1]; rfl) (de_callV cz GS (by decide) (da_cons (va 0 rfl) (da_cons (va 1 rfl) da_nil)) ⟨l, a, hl, ha, rfl, rfl, rfl⟩), .ret rfl⟩
end
end K01


set_option Elab.async false
set_option linter.all false
set_option maxRecDepth 100000
set_option maxHeartbeats 4000000
namespace K01
open PySem PySem.Spec PyProof.Rows L2 Dt
/-! ### the draws -/
def tw (n : Nat) : O := .lst (List.replicate n (.int 0))
def cellI (ns : List Int) (k : Nat) : Int := (ns[k % ns.length]?).getD 0
def mixI (ns : List Int) (k : Nat) : Int :=
  (((cellI ns k + 104729 * ((k : Int) + 1)) % 4294967291) ^ 5 % 4294967279 / 64 * 69621 + ((cellI ns k + 104729 * ((k : Int) + 1)) % 4294967291) ^ 5 % 4294967279) % 4294967231
def drawN (ns : List Int) (n m : Nat) : Nat := (mixI ns (n + 1) / 8 % (m : Int)).toNat
theorem draw_lt {ns : List Int} {n m : Nat} (h : 0 < m) : drawN ns n m < m := by
  unfold drawN
  have h1 := Int.emod_lt_of_pos (mixI ns (n + 1) / 8) (show (0 : Int) < (m : Int) by omega)
  have h2 := Int.emod_nonneg (mixI ns (n + 1) / 8) (show (m : Int) ≠ 0 by omega)
  omega
theorem _root_.Dt.DS.cast {X : Cx} {W : WX} {st : Stmt} {ρ : List S} {o o' : Oc} (h : DS X W st ρ o) (e : o = o') : DS X W st ρ o' := e ▸ h
theorem setO_own {o o0 : O} {kk : Option Nat} : ∀ {i : Nat} {ρ : List S}, ρ[i]? = some (.own kk o0) → setO o i ρ = ρ.set i (.own kk o)
  | 0, [], h => by cases h
  | 0, s :: r, h => by
    have : s = .own kk o0 := Option.some.inj h
    subst this
    rfl
  | n + 1, [], h => by cases h
  | n + 1, s :: r, h => by
    show s :: setO o n r = s :: r.set n _
    rw [setO_own (i := n) (ρ := r) h]
section
variable {Pr : Program} {wo : World} {K : PySem.W.Frag} {mg : Str → Option Value} {base : Heap} {CB : Addr}
abbrev sCell : Stmt := topS 58
theorem sc_cell : FnScope ["script", "k"] ["script", "k"] (defScope sCell) := ⟨rfl, rfl, rfl, by decide +kernel, rfl, by decide +kernel, by decide +kernel⟩
def c_cell : Con := fun ps r os => ∃ (ns : List Int) (k : Nat), ps = [.v (.scr ns), .v (.int (k : Int))] ∧ r = .ret (.int (cellI ns k)) ∧ os = []
theorem ok_cell (F : DefAt K mg "_law_cell" sCell ["script", "k"]) (B : Blts mg) : FnAt Pr wo K mg base "_law_cell" 1 ["script", "k"] c_cell := by
  refine fnAt (n := 0) F sc_cell (fun qs r os h => by obtain ⟨l, a, rfl, _⟩ := h; rfl) rfl fun f cdv A outer s H E cz qs r os h => ?_
  obtain ⟨ns, k, rfl, rfl, rfl⟩ := h
  cases hn : ns with
  | nil => exact ⟨_, if_n (dt_tru rfl (va 0 rfl)) rfl (ret de_int), .ret rfl⟩
  | cons c r =>
    have hl : k % (c :: r).length < (c :: r).length := Nat.mod_lt _ (by rw [List.length_cons]; omega)
    have e1 : ((k : Int) % (((c :: r).length : Nat) : Int)) = ((k % (c :: r).length : Nat) : Int) := (Int.natCast_emod _ _).symm
    have e2 : cellI (c :: r) k = (c :: r)[k % (c :: r).length] := by
      unfold cellI
      rw [List.getElem?_eq_getElem hl]
      rfl
    rw [e2]
    refine ⟨_, if_r (dt_tru rfl (va 0 rfl)) rfl (de_ix (va 0 rfl) (de_mod (by rw [List.length_cons]; omega) (va 1 rfl) (de_len (b_len B.len) (db_of (va 0 rfl)) rfl)) ?_), .ret rfl⟩
    show (atI (c :: r) ((k : Int) % (((c :: r).length : Nat) : Int))).map D.int = _
    rw [e1, atI_nat (List.getElem?_eq_getElem hl)]
    rfl
abbrev sMix : Stmt := topS 59
theorem sc_mix : FnScope ["script", "k", "number"] ["script", "k"] (defScope sMix) := ⟨rfl, rfl, rfl, by decide +kernel, rfl, by decide +kernel, by decide +kernel⟩
def c_mix : Con := fun ps r os => ∃ (ns : List Int) (k : Nat), k < 1000000 ∧ ps = [.v (.scr ns), .v (.int (k : Int))] ∧ r = .ret (.int (mixI ns k)) ∧ os = []
theorem ok_mix (F : DefAt K mg "_law_mix" sMix ["script", "k"]) (G : FnAt Pr wo K mg base "_law_cell" 1 ["script", "k"] c_cell) : FnAt Pr wo K mg base "_law_mix" 2 ["script", "k"] c_mix := by
  refine fnAt (n := 1) F sc_mix (fun qs r os h => by obtain ⟨l, a, _, rfl, _⟩ := h; rfl) rfl fun f cdv A outer s H E cz qs r os h => ?_
  obtain ⟨ns, k, hk, rfl, rfl, rfl⟩ := h
  have b1 := Int.emod_lt_of_pos (cellI ns k + 104729 * ((k : Int) + 1)) (show (0 : Int) < 4294967291 by decide)
  have b2 := Int.emod_nonneg (cellI ns k + 104729 * ((k : Int) + 1)) (show (4294967291 : Int) ≠ 0 by decide)
  have e5 : mixI ns k = (((cellI ns k + 104729 * ((k : Int) + 1)) % 4294967291) ^ (5 : Int).toNat % 4294967279 / 64 * 69621 + ((cellI ns k + 104729 * ((k : Int) + 1)) % 4294967291) ^ (5 : Int).toNat % 4294967279) % 4294967231 := rfl
  rw [e5]
  refine ⟨_, seq (st 2 cz (de_mod (by decide) (de_add (de_callV cz G (by decide) (da_cons (va 0 rfl) (da_cons (va 1 rfl) da_nil)) ⟨ns, k, rfl, rfl, rfl⟩) (de_mul (.inl (by decide)) de_int (de_add (va 1 rfl) de_int))) de_int))
    (seq (st 2 cz (de_mod (by decide) (de_pow ⟨by decide, by decide, by omega⟩ (va 2 rfl) de_int) de_int)) (ret (de_mod (by decide) (de_add (de_mul (.inr (by decide)) (de_fdiv ⟨by decide, by decide⟩ (va 2 rfl) de_int) de_int) (va 2 rfl)) de_int))), .ret rfl⟩
abbrev sDraw : Stmt := topS 60
theorem sc_draw : FnScope ["script", "town", "many"] ["script", "town", "many"] (defScope sDraw) := ⟨rfl, rfl, rfl, by decide +kernel, rfl, by decide +kernel, by decide +kernel⟩
def c_draw : Con := fun ps r os => ∃ (ns : List Int) (n m : Nat), n < 100000 ∧ 0 < m ∧ ps = [.v (.scr ns), .io (tw n), .v (.int (m : Int))] ∧ r = .ret (.int (drawN ns n m : Nat)) ∧ os = [tw (n + 1)]
theorem ok_draw (F : DefAt K mg "_law_draw" sDraw ["script", "town", "many"]) (B : Blts mg) (G : FnAt Pr wo K mg base "_law_mix" 2 ["script", "k"] c_mix) : FnAt Pr wo K mg base "_law_draw" 3 ["script", "town", "many"] c_draw := by
  refine fnAt (n := 0) F sc_draw (fun qs r os h => by obtain ⟨_, _, _, _, _, rfl, _⟩ := h; rfl) rfl fun f cdv A outer s H E cz qs r os h => ?_
  obtain ⟨ns, n, m, hn, hm, rfl, rfl, rfl⟩ := h
  have e1 : List.replicate n (D.int 0) ++ [.int 0] = List.replicate (n + 1) (.int 0) := List.replicate_succ'.symm
  have e2 : mixI ns (n + 1) / 8 % (m : Int) = ((drawN ns n m : Nat) : Int) := by
    have h2 := Int.emod_nonneg (mixI ns (n + 1) / 8) (show (m : Int) ≠ 0 by omega)
    unfold drawN
    omega
  have a1 : DS (Xd Pr wo K mg base ["script", "town", "many"] "_law_draw" sDraw f cdv A outer s H E) (Wd0 E) (bodyAt sDraw 0) [.v (.scr ns), .own (some 0) (tw n), .v (.int (m : Int))] (.next [.v (.scr ns), .own (some 0) (tw (n + 1)), .v (.int (m : Int))]) :=
    DS.cast (ds_append (ds := List.replicate n (D.int 0)) (i := 1) rfl (.inl rfl) de_int rfl ⟨_, _, rfl⟩ (by rw [List.length_replicate]; exact Nat.lt_of_lt_of_le hn (by decide))) (by
      show Oc.next [_, S.own _ (.lst (List.replicate n (D.int 0) ++ [.int 0])), _] = _
      rw [e1]
      rfl)
  exact ⟨_, seq a1 (ret (DE.cast (de_mod (by omega) (de_fdiv ⟨by decide, by decide⟩ (de_callV cz G (by decide) (da_cons (va 0 rfl) (da_cons (de_len (b_len B.len) (vb 1 rfl) rfl) da_nil)) ⟨ns, n + 1, by omega, by rw [List.length_replicate]; rfl, rfl, rfl⟩) de_int) (va 2 rfl)) (congrArg D.int e2))), .ret ⟨_, _, rfl, rfl, rfl⟩⟩
/-- some[draw] -/
def pickD (ns : List Int) (n : Nat) (ds : List D) : D := (ds[drawN ns n ds.length]?).getD .non
theorem pick_get {ns : List Int} {n : Nat} {ds : List D} (h : 0 < ds.length) : ds[drawN ns n ds.length]? = some (pickD ns n ds) := by
  unfold pickD
  rw [List.getElem?_eq_getElem (draw_lt h)]
  rfl
theorem pick_mem {ns : List Int} {n : Nat} {ds : List D} (h : 0 < ds.length) : pickD ns n ds ∈ ds := List.mem_of_getElem? (pick_get h)
abbrev sPick : Stmt := topS 61
theorem sc_pick : FnScope ["script", "town", "some"] ["script", "town", "some"] (defScope sPick) := ⟨rfl, rfl, rfl, by decide +kernel, rfl, by decide +kernel, by decide +kernel⟩
def c_pick : Con := fun ps r os => ∃ (ns : List Int) (n : Nat) (ds : List D), n < 100000 ∧ 0 < ds.length ∧ ps = [.v (.scr ns), .io (tw n), .v (.lst ds)] ∧ r = .ret (pickD ns n ds) ∧ os = [tw (n + 1)]
section
variable {X : Cx} {W : WX} {ρ ρ1 : List S} {es et e : Expr} {p pos pt : Pos} {k j it n n' : Nat} {m : Nat} {ns : List Int} {ds : List D} {kk k0 : Option Nat} {o0 : O} {xt f : Str} {d : D}
/-- a draw -/
theorem de_draw (cz : Cz X W k) (G : FnAt X.prog X.w X.K X.mg X.base "_law_draw" j ["script", "town", "many"] c_draw) (hj : j ≤ k) (hs : DE X W es ρ (.val (.scr ns) ρ)) (hN : X.N[it]? = some xt) (h0 : ρ[it]? = some (.own k0 o0)) (he : DE X W e ρ (.val (.int (m : Int)) ρ1)) (h1 : ρ1[it]? = some (.own kk (tw n))) (hm : 0 < m) (hn : n < 100000)
    (hg : Gl X "_law_draw" := by rfl) (st1 : starEach [es, .Name xt pt, e] X.env = (false, eval es X.env) :: starEach [.Name xt pt, e] X.env := by exact Dt.star_cons rfl) (st2 : starEach [.Name xt pt, e] X.env = (false, eval (.Name xt pt) X.env) :: starEach [e] X.env := by exact Dt.star_cons rfl) (st3 : starEach [e] X.env = (false, eval e X.env) :: starEach [] X.env := by exact Dt.star_cons rfl) (hpl : (backTo pos (starEach [.Name xt pt, e] X.env)).any (·.1) = false := by rfl)
    (hv : Vis X.env.scope xt := by first | exact Or.inl rfl | exact Or.inr (Or.inl rfl) | exact Or.inr (Or.inr rfl)) (hd : (xt == ("__debug__" : Str)) = false := by decide) (hcd : (xt == ("__classdict__" : Str)) = false := by decide) :
    DE X W (.Call (.Name "_law_draw" p) [es, .Name xt pt, e] [] pos) ρ (.val (.int (drawN ns n m : Nat)) (ρ1.set it (.own kk (tw (n + 1))))) := by
  have z := de_callF (p := p) (pos := pos) cz G hj (dg_v hs (dg_io hN hv h0 (dg_v he dg_nil st3) st2 hd hcd) st1) (.v (.io h1 (.v .nil))) ⟨ns, n, m, hn, hm, rfl, rfl, rfl⟩ (by show ([it] : List Nat).Nodup; exact List.nodup_cons.mpr ⟨List.not_mem_nil, List.nodup_nil⟩) hg (by decide) st1 hpl
  rw [← setO_own h1]
  exact z
theorem de_pick (cz : Cz X W k) (G : FnAt X.prog X.w X.K X.mg X.base "_law_pick" j ["script", "town", "some"] c_pick) (hj : j ≤ k) (hs : DE X W es ρ (.val (.scr ns) ρ)) (hN : X.N[it]? = some xt) (h0 : ρ[it]? = some (.own k0 o0)) (he : DE X W e ρ (.val (.lst ds) ρ1)) (h1 : ρ1[it]? = some (.own kk (tw n))) (hm : 0 < ds.length) (hn : n < 100000)
    (hg : Gl X "_law_pick" := by rfl) (st1 : starEach [es, .Name xt pt, e] X.env = (false, eval es X.env) :: starEach [.Name xt pt, e] X.env := by exact Dt.star_cons rfl) (st2 : starEach [.Name xt pt, e] X.env = (false, eval (.Name xt pt) X.env) :: starEach [e] X.env := by exact Dt.star_cons rfl) (st3 : starEach [e] X.env = (false, eval e X.env) :: starEach [] X.env := by exact Dt.star_cons rfl) (hpl : (backTo pos (starEach [.Name xt pt, e] X.env)).any (·.1) = false := by rfl)
    (hv : Vis X.env.scope xt := by first | exact Or.inl rfl | exact Or.inr (Or.inl rfl) | exact Or.inr (Or.inr rfl)) (hd : (xt == ("__debug__" : Str)) = false := by decide) (hcd : (xt == ("__classdict__" : Str)) = false := by decide) :
    DE X W (.Call (.Name "_law_pick" p) [es, .Name xt pt, e] [] pos) ρ (.val (pickD ns n ds) (ρ1.set it (.own kk (tw (n + 1))))) := by
  have z := de_callF (p := p) (pos := pos) cz G hj (dg_v hs (dg_io hN hv h0 (dg_v he dg_nil st3) st2 hd hcd) st1) (.v (.io h1 (.v .nil))) ⟨ns, n, ds, hn, hm, rfl, rfl, rfl⟩ (by show ([it] : List Nat).Nodup; exact List.nodup_cons.mpr ⟨List.not_mem_nil, List.nodup_nil⟩) hg (by decide) st1 hpl
  rw [← setO_own h1]
  exact z
/-- a def of the script and the town alone -/
def c_st (g : List Int → Nat → D × Nat) (mx : Nat) : Con := fun ps r os => ∃ (ns : List Int) (n : Nat), n < mx ∧ ps = [.v (.scr ns), .io (tw n)] ∧ r = .ret (g ns n).1 ∧ os = [tw (g ns n).2]
theorem de_st {g : List Int → Nat → D × Nat} {mx : Nat} (cz : Cz X W k) (G : FnAt X.prog X.w X.K X.mg X.base f j ["script", "town"] (c_st g mx)) (hj : j ≤ k) (hs : DE X W es ρ (.val (.scr ns) ρ)) (hN : X.N[it]? = some xt) (h1 : ρ[it]? = some (.own kk (tw n))) (hn : n < mx)
    (hg : Gl X f := by rfl) (st1 : starEach [es, .Name xt pt] X.env = (false, eval es X.env) :: starEach [.Name xt pt] X.env := by exact Dt.star_cons rfl) (st2 : starEach [.Name xt pt] X.env = (false, eval (.Name xt pt) X.env) :: starEach [] X.env := by exact Dt.star_cons rfl) (hpl : (backTo pos (starEach [.Name xt pt] X.env)).any (·.1) = false := by rfl)
    (hv : Vis X.env.scope xt := by first | exact Or.inl rfl | exact Or.inr (Or.inl rfl) | exact Or.inr (Or.inr rfl)) (hd : (xt == ("__debug__" : Str)) = false := by decide) (hcd : (xt == ("__classdict__" : Str)) = false := by decide) (hfd : (f == ("__debug__" : Str)) = false := by decide) :
    DE X W (.Call (.Name f p) [es, .Name xt pt] [] pos) ρ (.val (g ns n).1 (ρ.set it (.own kk (tw (g ns n).2)))) := by
  have z := de_callF (p := p) (pos := pos) cz G hj (dg_v hs (dg_io hN hv h1 dg_nil st2 hd hcd) st1) (.v (.io h1 .nil)) ⟨ns, n, hn, rfl, rfl, rfl⟩ (by show ([it] : List Nat).Nodup; exact List.nodup_cons.mpr ⟨List.not_mem_nil, List.nodup_nil⟩) hg hfd st1 hpl
  rw [← setO_own h1]
  exact z
end
theorem ok_pick (F : DefAt K mg "_law_pick" sPick ["script", "town", "some"]) (B : Blts mg) (G : FnAt Pr wo K mg base "_law_draw" 3 ["script", "town", "many"] c_draw) : FnAt Pr wo K mg base "_law_pick" 4 ["script", "town", "some"] c_pick := by
  refine fnAt (n := 0) F sc_pick (fun qs r os h => by obtain ⟨_, _, _, _, _, rfl, _⟩ := h; rfl) rfl fun f cdv A outer s H E cz qs r os h => ?_
  obtain ⟨ns, n, ds, hn, hm, rfl, rfl, rfl⟩ := h
  refine ⟨_, ret (de_ix (va 2 rfl) (de_draw (it := 1) cz G (by decide) (va 0 rfl) rfl rfl (de_len (b_len B.len) (db_of (va 2 rfl)) rfl) rfl hm hn) ?_), .ret ⟨_, _, rfl, rfl, rfl⟩⟩
  exact atI_nat (pick_get hm)
end
end K01


set_option Elab.async false
set_option linter.all false
set_option maxRecDepth 100000
set_option maxHeartbeats 1000000
/-! Texts: split, find, count, strip, startswith by signs. -/
namespace Dt
open PySem PySem.Spec PyProof.Rows L2
/-! ### split -/
def splitC (c : Nat) : List Nat → List (List Nat)
  | [] => [[]]
  | a :: r => if a = c then [] :: splitC c r else match splitC c r with
    | [] => [[a]]
    | p :: ps => (a :: p) :: ps
theorem splitC_ne (c : Nat) : ∀ l, splitC c l ≠ []
  | [], h => nomatch h
  | a :: r, h => by
    unfold splitC at h
    split at h
    · cases h
    · split at h <;> cases h
theorem spl_splitC (c : Nat) : ∀ (l acc : List Nat), ∃ p ps, splitC c l = p :: ps ∧ TL.spl [c] 0 acc l = (acc ++ p) :: ps
  | [], acc => ⟨[], [], rfl, by rw [TL.spl_nil, List.append_nil]⟩
  | a :: r, acc => by
    unfold splitC
    by_cases h : a = c
    · subst h
      obtain ⟨p, ps, h1, h2⟩ := spl_splitC a r []
      rw [if_pos rfl]
      refine ⟨[], splitC a r, rfl, ?_⟩
      rw [TL.spl_hit (by unfold TL.pre; simp), h1]
      show acc :: TL.spl [a] 0 [] r = _
      rw [h2, List.append_nil, List.nil_append]
    · obtain ⟨p, ps, h1, h2⟩ := spl_splitC c r (acc ++ [a])
      rw [if_neg h, h1]
      refine ⟨a :: p, ps, rfl, ?_⟩
      rw [TL.spl_miss (TL.pre_of_head _ _ fun e => h e), h2, List.append_assoc]
      rfl
theorem split_mk {c : Nat} (hc : c < 256) (l : List Nat) : Txt.split (mk l) (mk [c]) = (splitC c l).map mk := by
  have e := SX.split_S (a := l) (b := [c]) (by simp) (by simp [hc])
  obtain ⟨p, ps, h1, h2⟩ := spl_splitC c l []
  rw [h2, List.nil_append, ← h1] at e
  exact e
theorem splitC_len (c : Nat) : ∀ l : List Nat, (splitC c l).length ≤ l.length + 1
  | [] => Nat.le_refl _
  | a :: r => by
    have ih := splitC_len c r
    unfold splitC
    split
    · rw [List.length_cons, List.length_cons]; omega
    · split
      · simp
      · rename_i h
        rw [h] at ih
        rw [List.length_cons] at ih ⊢
        rw [List.length_cons]
        omega
theorem splitC_mem (c : Nat) : ∀ (l : List Nat), ∀ p ∈ splitC c l, p.length ≤ l.length ∧ c ∉ p ∧ ∀ x ∈ p, x ∈ l
  | [], p, hp => by
    rw [show splitC c [] = [[]] from rfl, List.mem_singleton] at hp
    subst hp
    simp
  | a :: r, p, hp => by
    have ih := splitC_mem c r
    unfold splitC at hp
    by_cases h : a = c
    · rw [if_pos h] at hp
      rcases List.mem_cons.mp hp with rfl | hp
      · simp
      · obtain ⟨h1, h2, h3⟩ := ih p hp
        exact ⟨by rw [List.length_cons]; omega, h2, fun x hx => List.mem_cons_of_mem _ (h3 x hx)⟩
    · rw [if_neg h] at hp
      cases e : splitC c r with
      | nil => exact absurd e (splitC_ne c r)
      | cons q qs =>
        rw [e] at hp ih
        rcases List.mem_cons.mp hp with rfl | hp
        · obtain ⟨h1, h2, h3⟩ := ih q List.mem_cons_self
          refine ⟨by rw [List.length_cons, List.length_cons]; omega, fun z => ?_, fun x hx => ?_⟩
          · rcases List.mem_cons.mp z with z | z
            · exact h z.symm
            · exact h2 z
          · rcases List.mem_cons.mp hx with z | z
            · rw [z]; exact List.mem_cons_self
            · exact List.mem_cons_of_mem _ (h3 x z)
        · obtain ⟨h1, h2, h3⟩ := ih p (List.mem_cons_of_mem _ hp)
          exact ⟨by rw [List.length_cons]; omega, h2, fun x hx => List.mem_cons_of_mem _ (h3 x hx)⟩
theorem split_join {c : Nat} {ps : List (List Nat)} (hne : ps ≠ []) (h : ∀ p ∈ ps, c ∉ p) : splitC c (TL.joinL [c] ps) = ps := by
  have e := TL.spl_join (s := c) (S := []) hne h
  obtain ⟨p, qs, h1, h2⟩ := spl_splitC c (TL.joinL [c] ps) []
  rw [h2, List.nil_append] at e
  rw [h1, e]
theorem join_split (c : Nat) : ∀ l : List Nat, TL.joinL [c] (splitC c l) = l
  | [] => rfl
  | a :: r => by
    have ih := join_split c r
    unfold splitC
    by_cases h : a = c
    · rw [if_pos h]
      cases e : splitC c r with
      | nil => exact absurd e (splitC_ne c r)
      | cons q qs =>
        rw [e] at ih
        show [] ++ ([c] ++ TL.joinL [c] (q :: qs)) = _
        rw [ih, h]
        rfl
    · rw [if_neg h]
      cases e : splitC c r with
      | nil => exact absurd e (splitC_ne c r)
      | cons q qs =>
        rw [e] at ih
        cases qs with
        | nil =>
          show a :: q = a :: r
          rw [← ih]
          rfl
        | cons q2 qs =>
          show (a :: q) ++ ([c] ++ TL.joinL [c] (q2 :: qs)) = a :: r
          rw [← ih]
          rfl
/-! ### find, count -/
def findC (c : Nat) (l : List Nat) : Int := if c ∈ l then ((l.takeWhile fun a => !decide (a = c)).length : Int) else -1
theorem tw_find {c : Nat} : ∀ {l : List Nat} {k : Nat}, l[k]? = some c → (∀ v, v < k → ∀ x, l[v]? = some x → x ≠ c) → (l.takeWhile fun a => !decide (a = c)).length = k
  | [], k, h, _ => by simp at h
  | a :: r, 0, h, _ => by
    simp at h
    subst h
    simp
  | a :: r, k + 1, h, h2 => by
    have ha : a ≠ c := h2 0 (by omega) a rfl
    have ih := tw_find (l := r) (k := k) (by simpa using h) fun v hv x hx => h2 (v + 1) (by omega) x (by simpa using hx)
    rw [List.takeWhile_cons, decide_eq_false ha]
    simp [ih]
theorem find_mk (c : Nat) (l : List Nat) : Txt.find (mk l) (mk [c]) = findC c l := by
  rw [PyProof.Rows.find_is_find3]
  have gd : ∀ v, v < l.length → ∃ x, l[v]? = some x ∧ (mk l).cps.getD v 0 = x := fun v hv => ⟨l[v], List.getElem?_eq_getElem hv, by simp [Array.getD, hv]⟩
  have f0 : fromIndex (mk l).length 0 = 0 := by
    unfold fromIndex
    rw [if_neg (by omega)]
    simp
  unfold findC
  rcases StrLaws.find3_spec (mk l) c 0 with ⟨h1, h2⟩ | ⟨k, h1, h2, h3, h4, h5⟩
  · rw [f0] at h2
    rw [if_neg fun hm => ?_]
    · exact h1
    · obtain ⟨v, hv⟩ := List.mem_iff_getElem?.mp hm
      have hlt := (List.getElem?_eq_some_iff.mp hv).1
      obtain ⟨x, hx, hg⟩ := gd v hlt
      rw [hv] at hx
      cases hx
      exact h2 v (Nat.zero_le _) hlt hg
  · rw [f0] at h5
    obtain ⟨x, hx, hg⟩ := gd k h3
    rw [h4] at hg
    subst hg
    rw [if_pos (List.mem_of_getElem? hx), tw_find hx fun v hv y hy => ?_]
    · exact h1
    · have hlt := (List.getElem?_eq_some_iff.mp hy).1
      obtain ⟨z, hz, hg⟩ := gd v hlt
      rw [hy] at hz
      cases hz
      intro e
      exact h5 v (Nat.zero_le _) hv (by rw [hg, e])
theorem cnt_eq (c : Nat) : ∀ l : List Nat, cnt c l = ((l.countP fun a => decide (a = c) : Nat) : Int)
  | [] => rfl
  | a :: r => by
    rw [cnt_cons, cnt_eq c r, List.countP_cons]
    by_cases hac : a = c
    · simp [hac]; omega
    · simp [hac]
theorem count_mk (c : Nat) (l : List Nat) : Txt.count (mk l) (mk [c]) = ((l.countP fun a => decide (a = c) : Nat) : Int) := by
  rw [← cnt_eq]
  exact count_cnt (mk l) c
/-! ### startswith, strip -/
theorem sw1_mk (l w : List Nat) : Txt.startswith (mk l) (mk w) = decide (l.take w.length = w) := by
  unfold Txt.startswith
  rw [StrLaws.subAt_eq]
  show (decide (0 + w.length ≤ l.length) && ((l.drop 0).take w.length == w)) = _
  rw [List.drop_zero]
  by_cases h : l.take w.length = w
  · have h2 := congrArg List.length h
    rw [List.length_take] at h2
    rw [decide_eq_true (show 0 + w.length ≤ l.length by omega), h, decide_eq_true rfl, Bool.true_and]
    exact beq_self_eq_true w
  · rw [decide_eq_false h, beq_eq_false_iff_ne.mpr h, Bool.and_false]
def dropB : List Nat → List Nat
  | [] => []
  | c :: r => if c = 32 then dropB r else c :: r
theorem tw_dropB : ∀ l : List Nat, l.drop (l.takeWhile (mk [32]).cps.contains).length = dropB l
  | [] => rfl
  | c :: r => by
    have hc : (mk [32]).cps.contains c = decide (c = 32) := by
      show Array.contains #[32] c = _
      simp [Array.contains, eq_comm]
      rfl
    unfold dropB
    rw [List.takeWhile_cons, hc]
    by_cases h : c = 32
    · rw [decide_eq_true h, if_pos rfl, if_pos h, List.length_cons, List.drop_succ_cons, tw_dropB r]
    · rw [decide_eq_false h, if_neg Bool.false_ne_true, if_neg h]
      rfl
def stripB (l : List Nat) : List Nat := (dropB (dropB l).reverse).reverse
theorem strip_mk (l : List Nat) : Txt.stripChars (mk l) (mk [32]) = mk (stripB l) := by
  unfold Txt.stripChars
  rw [stripBy_eq, strSub_mk]
  refine str_ext ?_
  show ((l.drop (stripLo _ true (mk l))).take _) = stripB l
  have e1 : l.drop (stripLo (mk [32]).cps.contains true (mk l)) = dropB l := by
    unfold stripLo
    rw [if_pos rfl]
    exact tw_dropB l
  rw [e1]
  unfold stripHi
  rw [if_pos rfl]
  show (dropB l).take (l.length - ((l.drop (stripLo (mk [32]).cps.contains true (mk l))).reverse.takeWhile (mk [32]).cps.contains).length - stripLo (mk [32]).cps.contains true (mk l)) = stripB l
  rw [e1]
  have e2 := tw_dropB (dropB l).reverse
  unfold stripB
  rw [← e2, List.reverse_drop, List.reverse_reverse, List.length_reverse]
  have e3 : stripLo (mk [32]).cps.contains true (mk l) + (dropB l).length = l.length := by
    rw [← e1, List.length_drop]
    have : stripLo (mk [32]).cps.contains true (mk l) ≤ l.length := by
      unfold stripLo
      rw [if_pos rfl]
      exact (List.takeWhile_sublist _).length_le
    omega
  congr 1
  omega
theorem strip_len (l : List Nat) : (stripB l).length ≤ l.length := by
  have h : ∀ s : List Nat, (dropB s).length ≤ s.length := fun s => by rw [← tw_dropB s, List.length_drop]; omega
  unfold stripB
  rw [List.length_reverse]
  have h1 := h (dropB l).reverse
  rw [List.length_reverse] at h1
  exact Nat.le_trans h1 (h l)
/-- the first sign that is no blank -/
theorem strip_head : ∀ l : List Nat, (stripB l).take 1 = (dropB l).take 1 := by
  have hd : ∀ s : List Nat, ∀ c r, dropB s = c :: r → c ≠ 32 := by
    intro s
    induction s with
    | nil => intro c r h; cases h
    | cons a s ih =>
      intro c r h
      unfold dropB at h
      by_cases ha : a = 32
      · rw [if_pos ha] at h; exact ih c r h
      · rw [if_neg ha] at h; cases h; exact ha
  have key : ∀ (r : List Nat) (c : Nat), c ≠ 32 → ∃ q, dropB (r ++ [c]) = q ++ [c] := by
    intro r
    induction r with
    | nil =>
      intro c hc
      exact ⟨[], by show (if c = 32 then dropB [] else [c]) = _; rw [if_neg hc]; rfl⟩
    | cons a r ih =>
      intro c hc
      obtain ⟨q, h⟩ := ih c hc
      show ∃ q, (if a = 32 then dropB (r ++ [c]) else a :: (r ++ [c])) = q ++ [c]
      by_cases ha : a = 32
      · rw [if_pos ha]; exact ⟨q, h⟩
      · rw [if_neg ha]; exact ⟨a :: r, rfl⟩
  intro l
  unfold stripB
  cases e : dropB l with
  | nil => rfl
  | cons c r =>
    obtain ⟨q, h⟩ := key r.reverse c (hd l c r e)
    rw [List.reverse_cons, h, List.reverse_append]
    rfl
section
variable {X : Cx} {W : WX} {ρ ρ1 ρ2 : List S} {o a : Expr} {apos cpos p : Pos} {l : List Nat} {c j : Nat} {z : Str}
theorem de_splitC (hz : z = mk [c]) (hc : c < 256) (hl : l.length ≤ 100000) (ho : DE X W o ρ (.val (.str (mk l)) ρ1)) (hs : starEach [.Constant (.str z) j p] X.env = (false, eval (.Constant (.str z) j p) X.env) :: starEach [] X.env := by exact Dt.star_cons rfl) (hbase : attributeBase o "split" X.env (eval o X.env) = eval o X.env := by rfl) (hline : (apos.endLine == cpos.line) = true := by rfl)
    (hfew : ((backTo cpos (starEach [.Constant (.str z) j p] X.env)).all (fun x => !x.1) && (backToKw cpos (keywordEach [] X.env)).all (fun x => x.1.isSome)
      && decide (([.Constant (.str z) j p] : List Expr).length + ([] : List Keyword).length + (if ([] : List Keyword).isEmpty then 0 else 1) < 30)) = true := by rfl) :
    DE X W (.Call (.Attribute o "split" apos) [.Constant (.str z) j p] [] cpos) ρ (.own (.lst ((splitC c l).map fun q => D.str (mk q))) ρ1) := by
  subst hz
  refine fun w σ I H Q ev q => wpE_of (pe_bm PySem.F.plainAttrs_str PySem.F.slot_str_split PySem.F.type_str_split mt_split pe_wp (pa_cons pe_str pa_nil hs) hbase hfew hline hs rfl) (ho w σ I H _ ev fun v I1 H1 s1 e1 r1 => ?_)
  cases r1
  refine ⟨rfl, _, _, rfl, rfl, rfl, by show l.length + 2 ≤ sizeLine; exact Nat.le_trans (Nat.add_le_add_right hl 2) (by decide), fun q' hq' => q _ I1 _ s1 (e1.alloc hq' ?_)⟩
  rw [split_mk hc]
  have : ∀ ps : List (List Nat), RpAll X.K I1 ((ps.map mk).map V.str) (ps.map fun q => D.str (mk q)) := by
    intro ps
    induction ps with
    | nil => exact .nil
    | cons x ps ih => exact .cons (.str _) ih
  exact this _
theorem de_findC (hz : z = mk [c]) (ho : DE X W o ρ (.val (.str (mk l)) ρ1)) (hs : starEach [.Constant (.str z) j p] X.env = (false, eval (.Constant (.str z) j p) X.env) :: starEach [] X.env := by exact Dt.star_cons rfl) (hbase : attributeBase o "find" X.env (eval o X.env) = eval o X.env := by rfl) (hline : (apos.endLine == cpos.line) = true := by rfl)
    (hfew : ((backTo cpos (starEach [.Constant (.str z) j p] X.env)).all (fun x => !x.1) && (backToKw cpos (keywordEach [] X.env)).all (fun x => x.1.isSome)
      && decide (([.Constant (.str z) j p] : List Expr).length + ([] : List Keyword).length + (if ([] : List Keyword).isEmpty then 0 else 1) < 30)) = true := by rfl) :
    DE X W (.Call (.Attribute o "find" apos) [.Constant (.str z) j p] [] cpos) ρ (.val (.int (findC c l)) ρ1) := by
  subst hz
  exact de_bm PySem.F.slot_str_find PySem.F.type_str_find mt_find ho (dab_of (da_cons de_str da_nil hs)) (fun H v vs Q r1 r2 q => by
    cases r1
    obtain ⟨v1, rfl, g1⟩ := all1 r2
    cases g1
    exact ⟨_, _, rfl, rfl, by rw [find_mk]; exact q _ fun I => .int _⟩) hbase hfew hline hs rfl
theorem de_countC (hz : z = mk [c]) (ho : DE X W o ρ (.val (.str (mk l)) ρ1)) (hs : starEach [.Constant (.str z) j p] X.env = (false, eval (.Constant (.str z) j p) X.env) :: starEach [] X.env := by exact Dt.star_cons rfl) (hbase : attributeBase o "count" X.env (eval o X.env) = eval o X.env := by rfl) (hline : (apos.endLine == cpos.line) = true := by rfl)
    (hfew : ((backTo cpos (starEach [.Constant (.str z) j p] X.env)).all (fun x => !x.1) && (backToKw cpos (keywordEach [] X.env)).all (fun x => x.1.isSome)
      && decide (([.Constant (.str z) j p] : List Expr).length + ([] : List Keyword).length + (if ([] : List Keyword).isEmpty then 0 else 1) < 30)) = true := by rfl) :
    DE X W (.Call (.Attribute o "count" apos) [.Constant (.str z) j p] [] cpos) ρ (.val (.int ((l.countP fun a => decide (a = c) : Nat) : Int)) ρ1) := by
  subst hz
  exact de_bm PySem.F.slot_str_count PySem.F.type_str_count mt_count ho (dab_of (da_cons de_str da_nil hs)) (fun H v vs Q r1 r2 q => by
    cases r1
    obtain ⟨v1, rfl, g1⟩ := all1 r2
    cases g1
    exact ⟨_, _, rfl, rfl, by rw [count_mk]; exact q _ fun I => .int _⟩) hbase hfew hline hs rfl
theorem de_stripC (hz : z = mk [32]) (hl : l.length ≤ 100000) (ho : DE X W o ρ (.val (.str (mk l)) ρ1)) (hs : starEach [.Constant (.str z) j p] X.env = (false, eval (.Constant (.str z) j p) X.env) :: starEach [] X.env := by exact Dt.star_cons rfl) (hbase : attributeBase o "strip" X.env (eval o X.env) = eval o X.env := by rfl) (hline : (apos.endLine == cpos.line) = true := by rfl)
    (hfew : ((backTo cpos (starEach [.Constant (.str z) j p] X.env)).all (fun x => !x.1) && (backToKw cpos (keywordEach [] X.env)).all (fun x => x.1.isSome)
      && decide (([.Constant (.str z) j p] : List Expr).length + ([] : List Keyword).length + (if ([] : List Keyword).isEmpty then 0 else 1) < 30)) = true := by rfl) :
    DE X W (.Call (.Attribute o "strip" apos) [.Constant (.str z) j p] [] cpos) ρ (.val (.str (mk (stripB l))) ρ1) := by
  subst hz
  exact de_bm PySem.F.slot_str_strip PySem.F.type_str_strip mt_stripChars ho (dab_of (da_cons de_str da_nil hs)) (fun H v vs Q r1 r2 q => by
    cases r1
    obtain ⟨v1, rfl, g1⟩ := all1 r2
    cases g1
    exact ⟨_, _, rfl, rfl, szL hl, by rw [strip_mk]; exact q _ fun I => .str _⟩) hbase hfew hline hs rfl
theorem de_sw1 {y : List Nat} (ho : DE X W o ρ (.val (.str (mk l)) ρ1)) (ha : DE X W a ρ1 (.val (.str (mk y)) ρ2)) (hs : starEach [a] X.env = (false, eval a X.env) :: starEach [] X.env := by exact Dt.star_cons rfl) (hbase : attributeBase o "startswith" X.env (eval o X.env) = eval o X.env := by rfl) (hline : (apos.endLine == cpos.line) = true := by rfl)
    (hfew : ((backTo cpos (starEach [a] X.env)).all (fun x => !x.1) && (backToKw cpos (keywordEach [] X.env)).all (fun x => x.1.isSome)
      && decide (([a] : List Expr).length + ([] : List Keyword).length + (if ([] : List Keyword).isEmpty then 0 else 1) < 30)) = true := by rfl) :
    DE X W (.Call (.Attribute o "startswith" apos) [a] [] cpos) ρ (.val (.bl (decide (l.take y.length = y))) ρ2) :=
  de_bm PySem.F.slot_str_startswith PySem.F.type_str_startswith mt_startswith ho (dab_of (da_cons ha da_nil hs)) (fun H v vs Q r1 r2 q => by
    cases r1
    obtain ⟨v1, rfl, g1⟩ := all1 r2
    cases g1
    exact ⟨_, _, rfl, rfl, by rw [sw1_mk]; exact q _ fun I => .bl _⟩) hbase hfew hline hs rfl
end
end Dt


set_option Elab.async false
set_option linter.all false
set_option maxRecDepth 100000
set_option maxHeartbeats 4000000
namespace K01
open PySem PySem.Spec PyProof.Rows L2 Dt
/-! ### mirrors: paths.py -/
def signsL : List Nat := [97, 98, 99, 100, 101, 102, 103, 104, 105, 106, 107, 108, 109, 110, 111, 112, 113, 114, 115, 116, 117, 118, 119, 120, 121, 122, 48, 49, 50, 51, 52, 53, 54, 55, 56, 57, 95]
def isNm (c : Nat) : Bool := decide (c ∈ signsL)
def isNameL (l : List Nat) : Bool := (decide (1 ≤ l.length) && decide (l.length ≤ 12)) && l.all isNm
def isPathL (l : List Nat) : Bool := decide ((splitC 46 l).length ≤ 5) && (splitC 46 l).all isNameL
def underL (sec nm : List Nat) : List Nat := if sec = [] then nm else sec ++ [46] ++ nm
def aboveL (l : List Nat) : List (List Nat) := (List.range (splitC 46 l).length).map fun k => TL.joinL [46] ((splitC 46 l).take (k + 1))
abbrev sD (l : List Nat) : D := .str (mk l)
structure Cons2 (mg : Str → Option Value) : Prop where
  signs : ∃ t, mg "SIGNS" = some (.str "abcdefghijklmnopqrstuvwxyz0123456789_" t)
  mname : ∃ t, mg "MOST_NAME" = some (.int 12 t)
  mnames : ∃ t, mg "MOST_NAMES" = some (.int 5 t)
  long : ∃ t, mg "LONG" = some (.str "\"\"\"" t)
theorem signs_eq : ("abcdefghijklmnopqrstuvwxyz0123456789_" : Str).cps.toList = signsL := by decide +kernel
theorem split_small {l : List Nat} (hl : l.length ≤ 50000) : (splitC 46 l).length ≤ 100000 := by
  have := splitC_len 46 l
  omega
section
variable {Pr : Program} {wo : World} {K : PySem.W.Frag} {mg : Str → Option Value} {base : Heap}
abbrev sIsName : Stmt := topS 18
theorem sc_is_name : FnScope ["text", "sign"] ["text"] (defScope sIsName) := ⟨rfl, rfl, rfl, by decide +kernel, rfl, by decide +kernel, by decide +kernel⟩
def c_is_name : Con := fun ps r os => ∃ l : List Nat, l.length ≤ 50000 ∧ ps = [.v (sD l)] ∧ r = .ret (.bl (isNameL l)) ∧ os = []
theorem ok_is_name (F : DefAt K mg "is_name" sIsName ["text"]) (B : Blts mg) (C : Cons2 mg) : FnAt Pr wo K mg base "is_name" 1 ["text"] c_is_name := by
  refine fnAt (n := 1) F sc_is_name (fun qs r os h => by obtain ⟨l, _, rfl, _⟩ := h; rfl) rfl fun f cdv A outer s H E cz qs r os h => ?_
  obtain ⟨l, hl, rfl, rfl, rfl⟩ := h
  obtain ⟨t1, h1⟩ := C.signs
  obtain ⟨t2, h2⟩ := C.mname
  have hz : l.length ≤ 100000 := by omega
  refine ⟨_, ret (de_and (de_chainI rfl rfl de_int (de_len (b_len B.len) (db_of (va 0 rfl)) (Dt.len_str hz)) (gi h2)) fun _ => de_one (all_c (q := isNm) 1 cz B.all (di_strL (l := l) (va 0 rfl)) hz fun c hc s0 H0 C0 cl fp => ?_)), ?_⟩
  · unfold isNm
    rw [← signs_eq]
    exact de_inS (va 1 rfl) (gs h1)
  · have e : ((decide ((1 : Int) ≤ ((mk l).length : Int)) && decide (((mk l).length : Int) ≤ 12)) && l.all isNm) = isNameL l := by
      show ((decide ((1 : Int) ≤ (l.length : Int)) && decide ((l.length : Int) ≤ 12)) && l.all isNm) = isNameL l
      unfold isNameL
      congr 1
      congr 1 <;> exact decide_eq_decide.mpr (by omega)
    rw [e]
    exact .ret rfl
abbrev sIsPath : Stmt := topS 19
theorem sc_is_path : FnScope ["text", "names", "name"] ["text"] (defScope sIsPath) := ⟨rfl, rfl, rfl, by decide +kernel, rfl, by decide +kernel, by decide +kernel⟩
def c_is_path : Con := fun ps r os => ∃ l : List Nat, l.length ≤ 50000 ∧ ps = [.v (sD l)] ∧ r = .ret (.bl (isPathL l)) ∧ os = []
theorem ok_is_path (F : DefAt K mg "is_path" sIsPath ["text"]) (B : Blts mg) (C : Cons2 mg) (G : FnAt Pr wo K mg base "is_name" 1 ["text"] c_is_name) : FnAt Pr wo K mg base "is_path" 2 ["text"] c_is_path := by
  refine fnAt (n := 2) F sc_is_path (fun qs r os h => by obtain ⟨l, _, rfl, _⟩ := h; rfl) rfl fun f cdv A outer s H E cz qs r os h => ?_
  obtain ⟨l, hl, rfl, rfl, rfl⟩ := h
  obtain ⟨t2, h2⟩ := C.mnames
  refine ⟨_, seq (st 1 cz (de_still (de_splitC (c := 46) rfl (by decide) (by omega) (va 0 rfl))))
    (ret (de_and (de_cmpI rfl (de_len (b_len B.len) (db_of (va 1 rfl)) rfl) (gi h2)) fun _ => de_one (all_c (q := isNameL) 2 cz B.all (di_list (va 1 rfl)) (split_small hl) fun c hc s0 H0 C0 cl fp =>
      de_callV (r := .ret (.bl (isNameL c))) (cz.blk s0 H0 C0 cl fp) G (by decide) (da_cons (va 2 rfl) da_nil) ⟨c, by have := (splitC_mem 46 l c hc).1; omega, rfl, rfl, rfl⟩))), ?_⟩
  have e : (decide ((((splitC 46 l).map fun q => D.str (mk q)).length : Int) ≤ 5) && (splitC 46 l).all isNameL) = isPathL l := by
    unfold isPathL
    rw [List.length_map]
    congr 1
    exact decide_eq_decide.mpr (by omega)
  rw [e]
  exact .ret rfl
abbrev sUnder : Stmt := topS 24
theorem sc_under : FnScope ["section", "name"] ["section", "name"] (defScope sUnder) := ⟨rfl, rfl, rfl, by decide +kernel, rfl, by decide +kernel, by decide +kernel⟩
def c_under : Con := fun ps r os => ∃ a b : List Nat, a.length + b.length ≤ 50000 ∧ ps = [.v (sD a), .v (sD b)] ∧ r = .ret (sD (underL a b)) ∧ os = []
theorem ok_under (F : DefAt K mg "under" sUnder ["section", "name"]) : FnAt Pr wo K mg base "under" 1 ["section", "name"] c_under := by
  refine fnAt (n := 0) F sc_under (fun qs r os h => by obtain ⟨a, b, _, rfl, _⟩ := h; rfl) rfl fun f cdv A outer s H E cz qs r os h => ?_
  obtain ⟨a, b, hl, rfl, rfl, rfl⟩ := h
  by_cases h : a = []
  · have e : underL a b = b := if_pos h
    rw [e]
    exact ⟨_, ret (ife_t (eqs (y := []) rfl (va 0 rfl) de_str) (decide_eq_true h) (va 1 rfl)), .ret rfl⟩
  · have e : underL a b = a ++ [46] ++ b := if_neg h
    rw [e]
    exact ⟨_, ret (ife_f (eqs (y := []) rfl (va 0 rfl) de_str) (decide_eq_false h) (cats (by rw [List.length_append, List.length_singleton]; omega) (cats (by rw [List.length_singleton]; omega) (va 0 rfl) (cs (y := [46]) rfl)) (va 1 rfl))), .ret rfl⟩
end
end K01


set_option Elab.async false
set_option linter.all false
set_option maxRecDepth 100000
set_option maxHeartbeats 4000000
namespace K01
open PySem PySem.Spec PyProof.Rows L2 Dt
/-! ### attributes by their places -/
theorem putN_app {f : Str} : ∀ {ns : List Str}, f ∉ ns → putN f ns = ns ++ [f]
  | [], _ => rfl
  | g :: r, h => by
    unfold putN
    rw [if_neg fun z => h (by rw [z]; exact List.mem_cons_self), putN_app fun z => h (List.mem_cons_of_mem _ z)]
    rfl
theorem putX_app {α : Type} {f : Str} {x : α} : ∀ {ns : List Str} {xs : List α}, f ∉ ns → ns.length = xs.length → putX f x ns xs = xs ++ [x]
  | [], [], _, _ => rfl
  | g :: r, y :: ys, h, hl => by
    unfold putX
    rw [if_neg fun z => h (by rw [z]; exact List.mem_cons_self), putX_app (fun z => h (List.mem_cons_of_mem _ z)) (by simpa using hl)]
    rfl
theorem put_at {α : Type} {f : Str} {x : α} : ∀ {ns : List Str} {xs : List α} (j : Nat), ns[j]? = some f → f ∉ ns.take j → ns.length = xs.length → putN f ns = ns ∧ putX f x ns xs = xs.set j x
  | [], _, j, h, _, _ => by simp at h
  | g :: r, y :: ys, 0, h, _, _ => by
    simp at h
    unfold putN putX
    rw [if_pos h, if_pos h]
    exact ⟨rfl, rfl⟩
  | g :: r, y :: ys, j + 1, h, hn, hl => by
    have ne : ¬ g = f := fun z => hn (by rw [z]; simp)
    obtain ⟨h1, h2⟩ := put_at (x := x) (ns := r) (xs := ys) j (by simpa using h) (fun z => hn (by simp [z])) (by simpa using hl)
    unfold putN putX
    rw [if_neg ne, if_neg ne, h1, h2]
    exact ⟨rfl, rfl⟩
section
variable {X : Cx} {W : WX} {ρ ρ1 ρ2 : List S} {pos pos' npos : Pos} {e a b : Expr} {d : D} {ds : List D} {C : Addr} {ns : List Str} {fs : List F} {f x : Str} {i : Nat} {kk : Option Nat}
/-- x.f = e, a new attribute -/
theorem fldA (i : Nat) (cl : Cls X.K C) (hn : NoAttr X.K C f) (h : DE X W e ρ (.val d ρ1)) (hq : ρ1[i]? = some (.own kk (.ins C ns fs))) (hf : f ∉ ns) (hz : ns.length < 1000) (hl : ns.length = fs.length) (hN : X.N[i]? = some x := by rfl) (hv : Vis X.env.scope x := by first | exact Or.inl rfl | exact Or.inr (Or.inl rfl) | exact Or.inr (Or.inr rfl)) (hs : swapsWith e (some (.Attribute (.Name x npos) f pos')) pos.line X.env = pure false := by rfl) (hd : (x == ("__debug__" : Str)) = false := by decide) (hcd : (x == ("__classdict__" : Str)) = false := by decide) :
    DS X W (.Assign [.Attribute (.Name x npos) f pos'] e pos) ρ (.next (ρ1.set i (.own kk (.ins C (ns ++ [f]) (fs ++ [.d d]))))) := by
  rw [← putN_app hf, ← putX_app (x := F.d d) hf hl]
  exact ds_fld cl hn h hq hz hN hv hs hd hcd
/-- .. the j-th one -/
theorem fldR (i j : Nat) (cl : Cls X.K C) (hn : NoAttr X.K C f) (h : DE X W e ρ (.val d ρ1)) (hq : ρ1[i]? = some (.own kk (.ins C ns fs))) (hj : ns[j]? = some f) (hf : f ∉ ns.take j) (hz : ns.length < 1000) (hl : ns.length = fs.length) (hN : X.N[i]? = some x := by rfl) (hv : Vis X.env.scope x := by first | exact Or.inl rfl | exact Or.inr (Or.inl rfl) | exact Or.inr (Or.inr rfl)) (hs : swapsWith e (some (.Attribute (.Name x npos) f pos')) pos.line X.env = pure false := by rfl) (hd : (x == ("__debug__" : Str)) = false := by decide) (hcd : (x == ("__classdict__" : Str)) = false := by decide) :
    DS X W (.Assign [.Attribute (.Name x npos) f pos'] e pos) ρ (.next (ρ1.set i (.own kk (.ins C ns (fs.set j (.d d)))))) := by
  obtain ⟨h1, h2⟩ := put_at (x := F.d d) j hj hf hl
  have z := ds_fld (pos := pos) (pos' := pos') (npos := npos) cl hn h hq hz hN hv hs hd hcd
  rw [h1, h2] at z
  exact z
theorem vfo (i : Nat) {o : O} (h : ρ[i]? = some (.own none o)) (hN : X.N[i]? = some x := by rfl) (hv : Vis X.env.scope x := by first | exact Or.inl rfl | exact Or.inr (Or.inl rfl) | exact Or.inr (Or.inr rfl)) (hd : (x == ("__debug__" : Str)) = false := by decide) (hcd : (x == ("__classdict__" : Str)) = false := by decide) : DE X W (.Name x pos) ρ (.val o.era (ρ.set i (.v o.era))) := de_frz hN hv h hd hcd
theorem de_inT (h1 : flatD d = true) (h2 : ds.all flatD = true) (ha : DE X W a ρ (.val d ρ1)) (hb : DE X W b ρ1 (.val (.tup ds) ρ2)) (hm : behindInMarks .In b = false := by rfl) : DE X W (.Compare a [.In] [b] pos) ρ (.val (.bl (inF d ds)) ρ2) :=
  de2 (pe_cmpR op_in_seq pe_wp pe_wp hm) ha hb fun I H v1 v2 Q s r1 r2 q => by
    obtain ⟨x, xs, rfl, g1, g2⟩ := rpt_of r2
    refine ⟨x, xs, rfl, .inr (same_t s g1), rp_flat r1 h1, rp_flats g2 h2, ?_⟩
    rw [if_neg Bool.false_ne_true, rp_inV r1 h1 g2 h2]
    exact q _ (.bl _)
end
theorem eqF_str (a b : Str) : eqF (.str a) (.str b) = decide (a = b) := by
  by_cases h : a = b
  · rw [decide_eq_true h, h]
    simp [eqF, toPy, PyData.eqv]
  · rw [decide_eq_false h]
    simp [eqF, toPy, PyData.eqv, h]
theorem inF_str (x : List Nat) : ∀ ys : List (List Nat), inF (.str (mk x)) (ys.map fun y => D.str (mk y)) = decide (x ∈ ys)
  | [] => rfl
  | y :: ys => by
    have ih := inF_str x ys
    unfold inF at ih ⊢
    rw [List.map_cons, List.any_cons, ih, eqF_str, dec_mk]
    by_cases h : y = x
    · subst h
      rw [decide_eq_true rfl, decide_eq_true List.mem_cons_self]
      rfl
    · rw [decide_eq_false h, Bool.false_or]
      exact decide_eq_decide.mpr (by rw [List.mem_cons]; exact ⟨.inr, fun z => z.resolve_left (fun w => h w.symm)⟩)
theorem cutD_to {xs : List D} {k : Nat} : Dt.cutD xs none (some (k : Int)) = xs.take k := by
  unfold Dt.cutD
  rw [HT.sIx_none, HT.sIx_nat, List.drop_zero, Nat.sub_zero]
  by_cases h : k ≤ xs.length
  · rw [Nat.min_eq_left h]
  · rw [Nat.min_eq_right (Nat.le_of_not_le h), List.take_of_length_le (Nat.le_refl _), List.take_of_length_le (Nat.le_of_not_le h)]
theorem cutD_nat {xs : List D} {a b : Nat} : Dt.cutD xs (some (a : Int)) (some (b : Int)) = (xs.drop a).take (b - a) := by
  unfold Dt.cutD
  rw [HT.sIx_nat, HT.sIx_nat]
  by_cases h1 : a ≤ xs.length
  · rw [Nat.min_eq_left h1]
    by_cases h2 : b ≤ xs.length
    · rw [Nat.min_eq_left h2]
    · rw [Nat.min_eq_right (Nat.le_of_not_le h2), List.take_of_length_le (by rw [List.length_drop]; exact Nat.le_refl _), List.take_of_length_le (by rw [List.length_drop]; omega)]
  · rw [Nat.min_eq_right (Nat.le_of_not_le h1), List.drop_of_length_le (Nat.le_refl _), List.drop_of_length_le (Nat.le_of_not_le h1), List.take_nil, List.take_nil]
section
variable {X : Cx} {W : WX} {ρ ρ1 ρ2 ρ3 : List S} {pos p2 : Pos} {a e1 e2 : Expr} {ds : List D} {i j : Nat}
/-- a + 1 -/
theorem ad1 {j' : Nat} {p3 : Pos} (ha : DE X W a ρ (.val (.int (i : Int)) ρ1)) : DE X W (.BinOp a .Add (.Constant (.int 1) j' p3) pos) ρ (.val (.int ((i + 1 : Nat) : Int)) ρ1) := DE.cast (de_add ha de_int) (congrArg D.int (by omega))
/-- x[:j], x[i:j] of a list -/
theorem lslt (ha : DE X W a ρ (.val (.lst ds) ρ1)) (h2 : DE X W e2 ρ1 (.val (.int (j : Int)) ρ2)) : DE X W (.Subscript a (.Slice none (some e2) none p2) pos) ρ (.own (.lst (ds.take j)) ρ2) := by
  rw [← cutD_to]
  exact de_slL ha do_none (do_some h2)
theorem lsl2 (ha : DE X W a ρ (.val (.lst ds) ρ1)) (h1 : DE X W e1 ρ1 (.val (.int (i : Int)) ρ2)) (h2 : DE X W e2 ρ2 (.val (.int (j : Int)) ρ3)) : DE X W (.Subscript a (.Slice (some e1) (some e2) none p2) pos) ρ (.own (.lst ((ds.drop i).take (j - i))) ρ3) := by
  rw [← cutD_nat]
  exact de_slL ha (do_some h1) (do_some h2)
end
/-- the parts are no longer than the whole -/
theorem split_sum (c : Nat) : ∀ l : List Nat, ((splitC c l).map List.length).sum + (splitC c l).length = l.length + 1
  | [] => rfl
  | a :: r => by
    have ih := split_sum c r
    unfold splitC
    by_cases h : a = c
    · rw [if_pos h, List.map_cons, List.sum_cons, List.length_cons, List.length_cons, List.length_nil]
      omega
    · rw [if_neg h]
      cases e : splitC c r with
      | nil => exact absurd e (splitC_ne c r)
      | cons p ps =>
        rw [e] at ih
        rw [List.map_cons, List.sum_cons, List.length_cons] at ih
        show (((a :: p) :: ps).map List.length).sum + ((a :: p) :: ps).length = _
        rw [List.map_cons, List.sum_cons, List.length_cons, List.length_cons, List.length_cons]
        omega
theorem take_sum : ∀ (ls : List (List Nat)) (k : Nat), ((ls.take k).map List.length).sum ≤ (ls.map List.length).sum
  | [], k => by simp
  | p :: ls, 0 => by simp
  | p :: ls, k + 1 => by
    have := take_sum ls k
    rw [List.take_succ_cons, List.map_cons, List.map_cons, List.sum_cons, List.sum_cons]
    omega
def ifT : Stmt → Expr
  | .If c _ _ _ => c
  | _ => .Constant .none 0 ⟨0, 0, 0, 0⟩
def ifB : Stmt → List Stmt
  | .If _ b _ _ => b
  | _ => []
/-! ### mirrors: rows.py -/
def isRestL (l : List Nat) : Bool := decide ((skipB l).take 1 ∈ ([[], [35]] : List (List Nat)))
def wSign : List Nat := [115, 105, 103, 110]
def wHead : List Nat := [104, 101, 97, 100]
def wBehind : List Nat := [98, 101, 104, 105, 110, 100]
def wName : List Nat := [110, 97, 109, 101]
def wValue : List Nat := [118, 97, 108, 117, 101]
def wOpen : List Nat := [111, 112, 101, 110]
def wLong : List Nat := [108, 111, 110, 103]
def wTwice : List Nat := [116, 119, 105, 99, 101]
def wBoth : List Nat := [98, 111, 116, 104]
def wEntry : List Nat := [101, 110, 116, 114, 121]
def wBlank : List Nat := [98, 108, 97, 110, 107]
def wRemark : List Nat := [114, 101, 109, 97, 114, 107]
/-- a row: its word, its lines, name, value, front, rest -/
structure RowM where
  word : List Nat
  lines : List (List Nat)
  name : List Nat
  value : D
  front : List Nat
  rest : List Nat
def rowNs : List Str := ["word", "lines", "name", "value", "front", "rest"]
abbrev lsD (ls : List (List Nat)) : D := .lst (ls.map fun q => D.str (mk q))
def RowM.d (C : Addr) (r : RowM) : D := .ins C rowNs [sD r.word, lsD r.lines, sD r.name, r.value, sD r.front, sD r.rest]
def RowM.o (C : Addr) (r : RowM) : O := .ins C rowNs [.d (sD r.word), .d (lsD r.lines), .d (sD r.name), .d r.value, .d (sD r.front), .d (sD r.rest)]
theorem RowM.era (C : Addr) (r : RowM) : (r.o C).era = r.d C := rfl
/-- a fault -/
abbrev fltX (C : Addr) (n : Nat) (w : List Nat) : Ex := .f C ["word", "row"] [sD w, .int (n : Int)]
section
variable {Pr : Program} {wo : World} {K : PySem.W.Frag} {mg : Str → Option Value} {base : Heap} {CR CF : Addr}
abbrev sAbove : Stmt := topS 25
theorem sc_above : FnScope ["path", "names", "k"] ["path"] (defScope sAbove) := ⟨rfl, rfl, rfl, by decide +kernel, rfl, by decide +kernel, by decide +kernel⟩
def c_above : Con := fun ps r os => ∃ l : List Nat, l.length ≤ 50000 ∧ ps = [.v (sD l)] ∧ r = .own (.lst ((aboveL l).map fun q => D.str (mk q))) ∧ os = []
theorem ok_above (F : DefAt K mg "above" sAbove ["path"]) (B : Blts mg) : FnAt Pr wo K mg base "above" 1 ["path"] c_above := by
  refine fnAt (n := 2) F sc_above (fun qs r os h => by obtain ⟨l, _, rfl, _⟩ := h; rfl) rfl fun f cdv A outer s H E cz qs r os h => ?_
  obtain ⟨l, hl, rfl, rfl, rfl⟩ := h
  have hn := splitC_len 46 l
  have e : (aboveL l).map (fun q => D.str (mk q)) = (List.range (splitC 46 l).length).map fun k => D.str (mk (TL.joinL [46] ((splitC 46 l).take (k + 1)))) := by
    unfold aboveL
    rw [List.map_map]
    rfl
  rw [e]
  refine ⟨_, seq (st 1 cz (de_still (de_splitC (c := 46) rfl (by decide) (by omega) (va 0 rfl)))) (dss1 (ds_retO (lcm (l := List.range (splitC 46 l).length) (g := fun i => D.int (0 + (i : Nat))) 2 cz (di_range1 (j := ((splitC 46 l).length : Int)) (b_range B.range) (de_len (n := (splitC 46 l).length) (b_len B.len) (db_of (va 1 rfl)) (by show some ((splitC 46 l).map _).length = _; rw [List.length_map])) (by omega) (by omega)) (by rw [List.length_range]; omega) fun k hk s0 H0 C0 cl fp => ?_))), .own rfl⟩
  refine joins (ls := (splitC 46 l).take (k + 1)) ?_ (cs (y := [46]) rfl) (db_new ?_)
  · have h1 := split_sum 46 l
    have h2 := take_sum (splitC 46 l) (k + 1)
    have h3 : ((splitC 46 l).take (k + 1)).length ≤ (splitC 46 l).length := by rw [List.length_take]; omega
    show _ + _ * 1 ≤ _
    omega
  · rw [List.map_take]
    exact lslt (va 1 rfl) (DE.cast (de_add (va 2 rfl) de_int) (congrArg D.int (by omega)))
end
end K01


set_option Elab.async false
set_option linter.all false
set_option maxRecDepth 100000
set_option maxHeartbeats 4000000
namespace K01
open PySem PySem.Spec PyProof.Rows L2 Dt
/-! ### rows.py: Row, is_rest, head_at -/
abbrev sRowI : Stmt := inClass (topS 42) 0
structure RowAt (K : PySem.W.Frag) (mg : Str → Option Value) (CR : Addr) : Prop where
  cl : Cls K CR
  nw : NoAttr K CR "word"
  nl : NoAttr K CR "lines"
  nn : NoAttr K CR "name"
  nv : NoAttr K CR "value"
  nf : NoAttr K CR "front"
  nr : NoAttr K CR "rest"
  mg : mg "Row" = some (.ref CR)
  ini : IniAt K CR "Row.__init__" sRowI ["self", "word", "lines"]
/-- what came of a row -/
inductive RR where
  | row (r : RowM) | flt (n : Nat) (w : List Nat)
def RR.res (CR CF : Addr) : RR → Res
  | .row r => .ret (r.d CR)
  | .flt n w => .exc (fltX CF n w)
def endOf (l : List Nat) : Nat := (l.takeWhile fun a => !decide (a = 93)).length
def headPath (l : List Nat) : List Nat := if 93 ∈ l then (l.drop (posOf l (skipB l) + 1)).take (endOf l - (posOf l (skipB l) + 1)) else []
def headBad (p : List Nat) : Bool := !isPathL p || decide (3 < p.countP fun a => decide (a = 46))
def headR (l : List Nat) (n : Nat) : RR := if headBad (headPath l) = true then .flt n wHead else if isRestL (l.drop (endOf l + 1)) = true then .row ⟨wHead, [l], headPath l, .non, [], l.drop (endOf l + 1)⟩ else .flt n wBehind
section
variable {Pr : Program} {wo : World} {K : PySem.W.Frag} {mg : Str → Option Value} {base : Heap} {CR CF : Addr}
theorem sc_rowI : FnScope ["self", "word", "lines"] ["self", "word", "lines"] (defScope sRowI) := ⟨rfl, rfl, rfl, by decide +kernel, rfl, by decide +kernel, by decide +kernel⟩
def c_rowI (CR : Addr) : Con := fun ps r os => ∃ (w : List Nat) (ls : List (List Nat)), ps = [.io (.ins CR [] []), .v (sD w), .v (lsD ls)] ∧ r = .ret .non ∧ os = [RowM.o CR ⟨w, ls, [], .non, [], []⟩]
theorem ok_rowI (R : RowAt K mg CR) : InAt Pr wo K mg base CR 1 ["self", "word", "lines"] (c_rowI CR) := by
  refine inAt (n := 0) R.ini sc_rowI (fun qs r os h => by obtain ⟨w, ls, rfl, _⟩ := h; rfl) rfl fun f cdv A outer s H E cz qs r os h => ?_
  obtain ⟨w, ls, rfl, rfl, rfl⟩ := h
  exact ⟨_, seq (fldA 0 R.cl R.nw (va 1 rfl) rfl (by decide +kernel) (by decide) rfl) (seq (fldA 0 R.cl R.nl (va 2 rfl) rfl (by decide +kernel) (by show 1 < 1000; decide) rfl) (seq (fldA 0 R.cl R.nn (cs (y := []) rfl) rfl (by decide +kernel) (by show 2 < 1000; decide) rfl)
    (seq (fldA 0 R.cl R.nv de_non rfl (by decide +kernel) (by show 3 < 1000; decide) rfl) (seq (fldA 0 R.cl R.nf (cs (y := []) rfl) rfl (by decide +kernel) (by show 4 < 1000; decide) rfl) (dss1 (fldA 0 R.cl R.nr (cs (y := []) rfl) rfl (by decide +kernel) (by show 5 < 1000; decide) rfl)))))), .non ⟨_, _, rfl, rfl, rfl⟩⟩
abbrev sIsRest : Stmt := topS 43
theorem sc_is_rest : FnScope ["text", "at"] ["text"] (defScope sIsRest) := ⟨rfl, rfl, rfl, by decide +kernel, rfl, by decide +kernel, by decide +kernel⟩
def c_is_rest : Con := fun ps r os => ∃ l : List Nat, l.length ≤ 50000 ∧ ps = [.v (sD l)] ∧ r = .ret (.bl (isRestL l)) ∧ os = []
theorem ok_is_rest (F : DefAt K mg "is_rest" sIsRest ["text"]) (GB : FnAt Pr wo K mg base "blanks_from" 1 ["text", "at"] c_bl) : FnAt Pr wo K mg base "is_rest" 2 ["text"] c_is_rest := by
  refine fnAt (n := 1) F sc_is_rest (fun qs r os h => by obtain ⟨l, _, rfl, _⟩ := h; rfl) rfl fun f cdv A outer s H E cz qs r os h => ?_
  obtain ⟨l, hl, rfl, rfl, rfl⟩ := h
  have hz : l.length ≤ 100000 := by omega
  refine ⟨_, seq (st 1 cz (de_callV (r := .ret (.int ((posOf l (skipB l) : Nat) : Int))) cz GB (by decide) (da_cons (va 0 rfl) (da_cons de_int da_nil)) ⟨l, 0, hl, Nat.zero_le _, rfl, rfl, rfl⟩))
    (ret (de_inT (d := sD ((l.drop (posOf l (skipB l))).take 1)) (ds := ([[], [35]] : List (List Nat)).map fun y => D.str (mk y)) rfl rfl (sl1 hz (va 0 rfl) (va 1 rfl) (de_add (va 1 rfl) de_int)) (de_tup (da_cons (cs (y := []) rfl) (da_cons (cs (y := [35]) rfl) da_nil)) (by show 2 ≤ sizeLine; decide)))), ?_⟩
  rw [inF_str, drop_pos (skipB_suf l)]
  exact .ret rfl
abbrev sHead : Stmt := topS 44
theorem sc_head : FnScope ["line", "number", "first", "end", "path", "found"] ["line", "number"] (defScope sHead) := ⟨rfl, rfl, rfl, by decide +kernel, rfl, by decide +kernel, by decide +kernel⟩
def c_head (CR CF : Addr) : Con := fun ps r os => ∃ (l : List Nat) (n : Nat), l.length ≤ 50000 ∧ ps = [.v (sD l), .v (.int (n : Int))] ∧ r = (headR l n).res CR CF ∧ os = []
theorem ok_head (F : DefAt K mg "head_at" sHead ["line", "number"]) (C : Cons2 mg) (R : RowAt K mg CR) (GF : FltAt Pr wo K mg base "Fault" CF) (GB : FnAt Pr wo K mg base "blanks_from" 1 ["text", "at"] c_bl) (GP : FnAt Pr wo K mg base "is_path" 2 ["text"] c_is_path) (GR : FnAt Pr wo K mg base "is_rest" 2 ["text"] c_is_rest)
    (GI : InAt Pr wo K mg base CR 1 ["self", "word", "lines"] (c_rowI CR)) : FnAt Pr wo K mg base "head_at" 3 ["line", "number"] (c_head CR CF) := by
  refine fnAt (n := 4) F sc_head (fun qs r os h => by obtain ⟨l, n, _, rfl, _⟩ := h; rfl) rfl fun f cdv A outer s H E cz qs r os h => ?_
  obtain ⟨l, n, hl, rfl, rfl, rfl⟩ := h
  obtain ⟨tn, hn⟩ := C.mnames
  have hz : l.length ≤ 100000 := by omega
  have hbp : ∀ p : List Nat, (!isPathL p || decide ((5 : Int) - 2 < ((p.countP fun a => decide (a = 46) : Nat) : Int))) = headBad p := fun p => by
    unfold headBad
    congr 1
    exact decide_eq_decide.mpr (by omega)
  by_cases hm : 93 ∈ l
  · have hf : findC 93 l = ((endOf l : Nat) : Int) := if_pos hm
    have hp : headPath l = (l.drop (posOf l (skipB l) + 1)).take (endOf l - (posOf l (skipB l) + 1)) := if_pos hm
    have hpl : (headPath l).length ≤ 50000 := by
      rw [hp, List.length_take, List.length_drop]
      omega
    have st1 : ∀ {o : Oc}, DSs (Xd Pr wo K mg base ["line", "number", "first", "end", "path", "found"] "head_at" sHead f cdv A outer s H E) (Wd0 E) ((defBody sHead).drop 3) [.v (sD l), .v (.int (n : Int)), .v (.int ((posOf l (skipB l) : Nat) : Int)), .v (.int ((endOf l : Nat) : Int)), .v (sD (headPath l)), .no] o →
        DSs (Xd Pr wo K mg base ["line", "number", "first", "end", "path", "found"] "head_at" sHead f cdv A outer s H E) (Wd0 E) (defBody sHead) (toS 0 [P.v (sD l), .v (.int (n : Int))] ++ List.replicate 4 .no) o := fun h => by
      refine seq (st 2 cz (de_callV (r := .ret (.int ((posOf l (skipB l) : Nat) : Int))) cz GB (by decide) (da_cons (va 0 rfl) (da_cons de_int da_nil)) ⟨l, 0, hl, Nat.zero_le _, rfl, rfl, rfl⟩))
        (seq (st 3 cz (DE.cast (de_findC (c := 93) rfl (va 0 rfl)) (congrArg D.int hf))) (seq (st (d := sD (headPath l)) (ρ1 := [.v (sD l), .v (.int (n : Int)), .v (.int ((posOf l (skipB l) : Nat) : Int)), .v (.int ((endOf l : Nat) : Int)), .no, .no]) 4 cz (ife_t (dt_cmpI rfl (va 3 rfl) de_int) (decide_eq_true (by omega)) (by
          rw [hp]
          exact sl2 (i := posOf l (skipB l) + 1) (j := endOf l) hz (va 0 rfl) (ad1 (va 2 rfl)) (va 3 rfl)))) h))
    have t3 : ∀ {ρ5 : S}, DT (Xd Pr wo K mg base ["line", "number", "first", "end", "path", "found"] "head_at" sHead f cdv A outer s H E) (Wd0 E) (ifT (bodyAt sHead 3)) [.v (sD l), .v (.int (n : Int)), .v (.int ((posOf l (skipB l) : Nat) : Int)), .v (.int ((endOf l : Nat) : Int)), .v (sD (headPath l)), ρ5] (headBad (headPath l)) [.v (sD l), .v (.int (n : Int)), .v (.int ((posOf l (skipB l) : Nat) : Int)), .v (.int ((endOf l : Nat) : Int)), .v (sD (headPath l)), ρ5] := fun {ρ5} =>
      to (dt_w (dw_or (dt_not (tb (de_callV (r := .ret (.bl (isPathL (headPath l)))) cz GP (by decide) (da_cons (va 4 rfl) da_nil) ⟨headPath l, hpl, rfl, rfl, rfl⟩))) fun _ => dw_or1 (dt_cmpI rfl (de_countC (c := 46) rfl (va 4 rfl)) (de_sub (gi hn) de_int)))) (hbp _)
    by_cases hb : headBad (headPath l) = true
    · have e : headR l n = .flt n wHead := if_pos hb
      rw [e]
      exact ⟨_, st1 (if_t t3 hb (dss1 (ds_raiseF cz GF (by decide) (va 1 rfl) (cs (y := wHead) rfl))) rfl), .exc rfl⟩
    · have hb : headBad (headPath l) = false := by simpa using hb
      have hr : (l.drop (endOf l + 1)).length ≤ 50000 := by rw [List.length_drop]; omega
      have t4 : DT (Xd Pr wo K mg base ["line", "number", "first", "end", "path", "found"] "head_at" sHead f cdv A outer s H E) (Wd0 E) (ifT (bodyAt sHead 4)) [.v (sD l), .v (.int (n : Int)), .v (.int ((posOf l (skipB l) : Nat) : Int)), .v (.int ((endOf l : Nat) : Int)), .v (sD (headPath l)), .no] (!isRestL (l.drop (endOf l + 1))) [.v (sD l), .v (.int (n : Int)), .v (.int ((posOf l (skipB l) : Nat) : Int)), .v (.int ((endOf l : Nat) : Int)), .v (sD (headPath l)), .no] :=
        dt_not (tb (de_callV (r := .ret (.bl (isRestL (l.drop (endOf l + 1))))) cz GR (by decide) (da_cons (slf (i := endOf l + 1) hz (va 0 rfl) (ad1 (va 3 rfl))) da_nil) ⟨_, hr, rfl, rfl, rfl⟩))
      by_cases h4 : isRestL (l.drop (endOf l + 1)) = true
      · have e : headR l n = .row ⟨wHead, [l], headPath l, .non, [], l.drop (endOf l + 1)⟩ := by
          unfold headR
          rw [if_neg (by rw [hb]; exact Bool.false_ne_true), if_pos h4]
        rw [e]
        exact ⟨_, st1 (if_n t3 hb (if_n t4 (by rw [h4]; rfl) (seq (sto 5 cz (de_make (ns := rowNs) (fs := [.d (sD wHead), .d (lsD [l]), .d (sD []), .d .non, .d (sD []), .d (sD [])]) cz GI (by decide) R.mg (da_cons (cs (y := wHead) rfl) (da_cons (de_still (de_lst (da_cons (va 0 rfl) da_nil) (by show 1 ≤ sizeLine; decide))) da_nil)) ⟨wHead, [l], rfl, rfl, rfl⟩))
          (seq (fldR 5 2 R.cl R.nn (va 4 rfl) rfl rfl (by decide +kernel) (by show 6 < 1000; decide) rfl) (seq (fldR 5 5 R.cl R.nr (slf (i := endOf l + 1) hz (va 0 rfl) (ad1 (va 3 rfl))) rfl rfl (by decide +kernel) (by show 6 < 1000; decide) rfl) (ret (vfo 5 rfl))))))), .ret rfl⟩
      · have h4 : isRestL (l.drop (endOf l + 1)) = false := by simpa using h4
        have e : headR l n = .flt n wBehind := by
          unfold headR
          rw [if_neg (by rw [hb]; exact Bool.false_ne_true), if_neg (by rw [h4]; exact Bool.false_ne_true)]
        rw [e]
        exact ⟨_, st1 (if_n t3 hb (if_t t4 (by rw [h4]; rfl) (dss1 (ds_raiseF cz GF (by decide) (va 1 rfl) (cs (y := wBehind) rfl))) rfl)), .exc rfl⟩
  · have hf : findC 93 l = -1 := if_neg hm
    have hp : headPath l = [] := if_neg hm
    have hb : headBad (headPath l) = true := by rw [hp]; decide
    have e : headR l n = .flt n wHead := if_pos hb
    rw [e]
    refine ⟨_, seq (st 2 cz (de_callV (r := .ret (.int ((posOf l (skipB l) : Nat) : Int))) cz GB (by decide) (da_cons (va 0 rfl) (da_cons de_int da_nil)) ⟨l, 0, hl, Nat.zero_le _, rfl, rfl, rfl⟩))
        (seq (st 3 cz (DE.cast (de_findC (c := 93) rfl (va 0 rfl)) (congrArg D.int hf))) (seq (st 4 cz (ife_f (dt_cmpI rfl (va 3 rfl) de_int) (decide_eq_false (by decide)) (cs (y := []) rfl)))
        (if_t (to (dt_w (dw_or (dt_not (tb (de_callV (r := .ret (.bl (isPathL []))) cz GP (by decide) (da_cons (va 4 rfl) da_nil) ⟨[], by decide, rfl, rfl, rfl⟩))) fun _ => dw_or1 (dt_cmpI rfl (de_countC (c := 46) (l := []) rfl (va 4 rfl)) (de_sub (gi hn) de_int)))) (hbp [])) (by decide) (dss1 (ds_raiseF cz GF (by decide) (va 1 rfl) (cs (y := wHead) rfl))) rfl))), .exc rfl⟩
end
end K01


set_option Elab.async false
set_option linter.all false
set_option maxRecDepth 100000
set_option maxHeartbeats 4000000
namespace K01
open PySem PySem.Spec PyProof.Rows L2 Dt
/-! ### rows.py: long_at -/
def lng : List Nat := [34, 34, 34]
/-- a text over rows: where it ends -/
inductive LR where
  | opn | sgn (k : Nat) | cls (k : Nat)
def longScan : List (List Nat) → Nat → LR
  | [], _ => .opn
  | x :: r, k => if x = lng then .cls k else if x.all isSign = true then longScan r (k + 1) else .sgn k
def longEnd (r0 : RowM) (ls : List (List Nat)) (n : Nat) : LR → RR
  | .opn => .flt n wOpen
  | .sgn k => .flt k wSign
  | .cls k => if 200 < (TL.joinL [10] ((ls.drop (n + 1)).take (k - (n + 1)))).length then .flt n wLong else .row { r0 with lines := (ls.drop n).take (k + 1 - n), value := sD (TL.joinL [10] ((ls.drop (n + 1)).take (k - (n + 1)))) }
def longR (r0 : RowM) (ls : List (List Nat)) (l : List Nat) (n a : Nat) : RR := if l.drop a = lng then longEnd r0 ls n (longScan (ls.drop (n + 1)) (n + 1)) else .flt n wBehind
/-- the lines of a text that is not too long -/
def small (ls : List (List Nat)) : Prop := (ls.map List.length).sum + ls.length ≤ 50000
theorem small_at {ls : List (List Nat)} (h : small ls) {n : Nat} {l : List Nat} (hn : ls[n]? = some l) : l.length + ls.length ≤ 50000 := by
  unfold small at h
  have : l.length ≤ (ls.map List.length).sum := by
    induction ls generalizing n with
    | nil => simp at hn
    | cons p ls ih =>
      cases n with
      | zero =>
        simp at hn
        subst hn
        rw [List.map_cons, List.sum_cons]
        omega
      | succ n =>
        rw [List.map_cons, List.sum_cons, List.length_cons] at h
        have := ih (by omega) (by simpa using hn)
        rw [List.map_cons, List.sum_cons]
        omega
  omega
theorem small_drop : ∀ (ls : List (List Nat)) (k : Nat), ((ls.drop k).map List.length).sum ≤ (ls.map List.length).sum
  | [], k => by simp
  | p :: ls, 0 => by simp
  | p :: ls, k + 1 => by
    have := small_drop ls k
    rw [List.drop_succ_cons, List.map_cons, List.sum_cons]
    omega
theorem lng_eq : ("\"\"\"" : Str) = mk lng := rfl
theorem jlen (s : List Nat) : ∀ ls : List (List Nat), (TL.joinL s ls).length ≤ (ls.map List.length).sum + ls.length * s.length
  | [] => by simp [TL.joinL]
  | [p] => by simp [TL.joinL]
  | p :: q :: r => by
    have ih := jlen s (q :: r)
    show (p ++ (s ++ TL.joinL s (q :: r))).length ≤ _
    rw [List.length_append, List.length_append, List.map_cons, List.sum_cons, List.length_cons, Nat.add_mul, Nat.one_mul]
    omega
section
variable {X : Cx} {W : WX} {ρ ρ1 ρ2 : List S} {pos : Pos} {a b : Expr} {ls : List (List Nat)} {i : Nat} {q : List Nat}
theorem lix (hq : ls[i]? = some q) (ha : DE X W a ρ (.val (lsD ls) ρ1)) (hb : DE X W b ρ1 (.val (.int (i : Int)) ρ2)) (hs : PlainIx b := by exact fun _ _ => rfl) : DE X W (.Subscript a b pos) ρ (.val (sD q) ρ2) :=
  de_ix ha hb (by
    show atI (ls.map fun q => D.str (mk q)) (i : Int) = _
    exact atI_nat (by rw [List.getElem?_map, hq]; rfl)) hs
end
section
variable {Pr : Program} {wo : World} {K : PySem.W.Frag} {mg : Str → Option Value} {base : Heap} {CR CF : Addr}
abbrev sLong : Stmt := topS 46
abbrev nLong : List Str := ["found", "lines", "number", "at", "k", "sign"]
theorem sc_long : FnScope nLong ["found", "lines", "number", "at"] (defScope sLong) := ⟨rfl, rfl, rfl, by decide +kernel, rfl, by decide +kernel, by decide +kernel⟩
def c_long (CR CF : Addr) : Con := fun ps r os => ∃ (r0 : RowM) (ls : List (List Nat)) (l : List Nat) (n a : Nat), small ls ∧ ls[n]? = some l ∧ ps = [.mv (r0.o CR), .v (lsD ls), .v (.int (n : Int)), .v (.int (a : Int))] ∧ r = (longR r0 ls l n a).res CR CF ∧ os = []
theorem ok_long (F : DefAt K mg "long_at" sLong ["found", "lines", "number", "at"]) (B : Blts mg) (C : Cons mg) (C2 : Cons2 mg) (R : RowAt K mg CR) (GF : FltAt Pr wo K mg base "Fault" CF) (GS : FnAt Pr wo K mg base "is_sign" 1 ["sign"] c_is_sign) : FnAt Pr wo K mg base "long_at" 3 ["found", "lines", "number", "at"] (c_long CR CF) := by
  refine fnAt (n := 2) F sc_long (fun qs r os h => by obtain ⟨r0, ls, l, n, a, _, _, rfl, _⟩ := h; rfl) rfl fun f cdv A outer s H E cz qs r os h => ?_
  obtain ⟨r0, ls, l, n, a, hs, hn, rfl, rfl, rfl⟩ := h
  obtain ⟨tl, hlg⟩ := C2.long
  obtain ⟨tm, hmt⟩ := C.mtx
  have hl := small_at hs hn
  have hz : l.length ≤ 100000 := by omega
  have hlt : n < ls.length := (List.getElem?_eq_some_iff.mp hn).1
  have lenD : ∀ {k : Nat}, lenD (lsD ls) = some ls.length := fun {_} => by show some (ls.map _).length = _; rw [List.length_map]
  by_cases h0 : l.drop a = lng
  · have e : longR r0 ls l n a = longEnd r0 ls n (longScan (ls.drop (n + 1)) (n + 1)) := if_pos h0
    rw [e]
    have st1 : ∀ {o : Oc}, DSs (Xd Pr wo K mg base nLong "long_at" sLong f cdv A outer s H E) (Wd0 E) ((defBody sLong).drop 2) [.own none (r0.o CR), .v (lsD ls), .v (.int (n : Int)), .v (.int (a : Int)), .v (.int ((n + 1 : Nat) : Int)), .no] o →
        DSs (Xd Pr wo K mg base nLong "long_at" sLong f cdv A outer s H E) (Wd0 E) (defBody sLong) (toS 0 [P.mv (r0.o CR), .v (lsD ls), .v (.int (n : Int)), .v (.int (a : Int))] ++ List.replicate 2 .no) o := fun h =>
      if_n (nes (y := lng) rfl (slf (i := a) hz (lix hn (va 1 rfl) (va 2 rfl)) (va 3 rfl)) (gs hlg)) (by rw [decide_eq_true h0]; rfl) (seq (st 4 cz (ad1 (va 2 rfl))) h)
    have key : ∀ (rs : List (List Nat)) (k : Nat), ls.drop k = rs → k ≤ ls.length → ∃ m o, WhR (Xd Pr wo K mg base nLong "long_at" sLong f cdv A outer s H E) (Wd0 E) (wT (bodyAt sLong 2)) (wB (bodyAt sLong 2)) m
        [.own none (r0.o CR), .v (lsD ls), .v (.int (n : Int)), .v (.int (a : Int)), .v (.int (k : Int)), .no] o ∧
        (match longScan rs k with
          | .opn => o = .next [.own none (r0.o CR), .v (lsD ls), .v (.int (n : Int)), .v (.int (a : Int)), .v (.int (ls.length : Int)), .no]
          | .cls j => j < ls.length ∧ k ≤ j ∧ o = .next [.own none (r0.o CR), .v (lsD ls), .v (.int (n : Int)), .v (.int (a : Int)), .v (.int (j : Int)), .no]
          | .sgn j => o = .exc (fltX CF j wSign) [.own none (r0.o CR), .v (lsD ls), .v (.int (n : Int)), .v (.int (a : Int)), .v (.int (j : Int)), .no]) := by
      intro rs
      induction rs with
      | nil =>
        intro k h hk
        have ek : k = ls.length := by
          have := congrArg List.length h
          rw [List.length_drop, List.length_nil] at this
          omega
        subst ek
        exact ⟨0, _, .done (dt_w (and_f (dt_cmpI rfl (va 4 rfl) (de_len (b_len B.len) (db_of (va 1 rfl)) (lenD (k := 0)))) (decide_eq_false (by omega)))), rfl⟩
      | cons x r ih =>
        intro k h hk
        have hg : ls[k]? = some x := by
          have : (ls.drop k)[0]? = some x := by rw [h]; rfl
          rw [List.getElem?_drop, Nat.add_zero] at this
          exact this
        have hkl : k < ls.length := (List.getElem?_eq_some_iff.mp hg).1
        have hx := small_at hs hg
        have tk : decide ((k : Int) < (ls.length : Int)) = true := decide_eq_true (by omega)
        by_cases h1 : x = lng
        · have e1 : longScan (x :: r) k = .cls k := if_pos h1
          rw [e1]
          exact ⟨0, _, .done (dt_w (and_t (dt_cmpI rfl (va 4 rfl) (de_len (b_len B.len) (db_of (va 1 rfl)) (lenD (k := 0)))) tk (dw_and1 (to (nes (y := lng) rfl (lix hg (va 1 rfl) (va 4 rfl)) (gs hlg)) (by rw [decide_eq_true h1]; rfl))))), hkl, Nat.le_refl k, rfl⟩
        · have tst : DT (Xd Pr wo K mg base nLong "long_at" sLong f cdv A outer s H E) (Wd0 E) (wT (bodyAt sLong 2)) [.own none (r0.o CR), .v (lsD ls), .v (.int (n : Int)), .v (.int (a : Int)), .v (.int (k : Int)), .no] true [.own none (r0.o CR), .v (lsD ls), .v (.int (n : Int)), .v (.int (a : Int)), .v (.int (k : Int)), .no] :=
            dt_w (and_t (dt_cmpI rfl (va 4 rfl) (de_len (b_len B.len) (db_of (va 1 rfl)) (lenD (k := 0)))) tk (dw_and1 (to (nes (y := lng) rfl (lix hg (va 1 rfl) (va 4 rfl)) (gs hlg)) (by rw [decide_eq_false h1]; rfl))))
          have tall : DT (Xd Pr wo K mg base nLong "long_at" sLong f cdv A outer s H E) (Wd0 E) (ifT ((wB (bodyAt sLong 2)).getD 0 (.Pass ⟨0, 0, 0, 0⟩))) [.own none (r0.o CR), .v (lsD ls), .v (.int (n : Int)), .v (.int (a : Int)), .v (.int (k : Int)), .no] (!x.all isSign) [.own none (r0.o CR), .v (lsD ls), .v (.int (n : Int)), .v (.int (a : Int)), .v (.int (k : Int)), .no] :=
            dt_not (tb (all_c (q := isSign) 5 cz B.all (di_strL (l := x) (lix hg (va 1 rfl) (va 4 rfl))) (by omega) fun c hc s0 H0 C0 cl fp => de_callV (r := .ret (.bl (isSign c))) (cz.blk s0 H0 C0 cl fp) GS (by decide) (da_cons (va 5 rfl) da_nil) ⟨c, rfl, rfl, rfl⟩))
          by_cases h2 : x.all isSign = true
          · obtain ⟨m, o, h3, h4⟩ := ih (k + 1) (by rw [← List.tail_drop, h]; rfl) hkl
            have e1 : longScan (x :: r) k = longScan r (k + 1) := by
              show (if x = lng then _ else if x.all isSign = true then _ else _) = _
              rw [if_neg h1, if_pos h2]
            rw [e1]
            refine ⟨m + 1, o, .turn tst (if_n tall (by rw [h2]; rfl) (dss1 (st 4 cz (ad1 (va 4 rfl))))) h3, ?_⟩
            cases q : longScan r (k + 1) with
            | opn => rw [q] at h4; exact h4
            | sgn j => rw [q] at h4; exact h4
            | cls j => rw [q] at h4; exact ⟨h4.1, by omega, h4.2.2⟩
          · have h2 : x.all isSign = false := by simpa using h2
            have e1 : longScan (x :: r) k = .sgn k := by
              show (if x = lng then _ else if x.all isSign = true then _ else _) = _
              rw [if_neg h1, if_neg (by rw [h2]; exact Bool.false_ne_true)]
            rw [e1]
            exact ⟨0, _, .exc tst (if_t tall (by rw [h2]; rfl) (dss1 (ds_raiseF cz GF (by decide) (va 4 rfl) (cs (y := wSign) rfl))) rfl), rfl⟩
    obtain ⟨m, o, h1, h2⟩ := key (ls.drop (n + 1)) (n + 1) rfl hlt
    cases q : longScan (ls.drop (n + 1)) (n + 1) with
    | opn =>
      rw [q] at h2
      subst h2
      exact ⟨_, st1 (seq (ds_while cz.po h1) (if_t (dt_cmpI rfl (va 4 rfl) (de_len (b_len B.len) (db_of (va 1 rfl)) (lenD (k := 0)))) (decide_eq_true rfl) (dss1 (ds_raiseF cz GF (by decide) (va 2 rfl) (cs (y := wOpen) rfl))) rfl)), .exc rfl⟩
    | sgn j =>
      rw [q] at h2
      subst h2
      exact ⟨_, st1 (dss (ds_while cz.po h1) rfl), .exc rfl⟩
    | cls j =>
      rw [q] at h2
      obtain ⟨hj1, hj2, h2⟩ := h2
      subst h2
      let v := TL.joinL [10] ((ls.drop (n + 1)).take (j - (n + 1)))
      have hd := small_drop ls (n + 1)
      have ht := take_sum (ls.drop (n + 1)) (j - (n + 1))
      have hsz : (((ls.drop (n + 1)).take (j - (n + 1))).map List.length).sum + ((ls.drop (n + 1)).take (j - (n + 1))).length * 1 ≤ 50000 := by
        have : ((ls.drop (n + 1)).take (j - (n + 1))).length ≤ ls.length := by rw [List.length_take, List.length_drop]; omega
        unfold small at hs
        omega
      have hv : v.length ≤ 100000 := by
        have := jlen [10] ((ls.drop (n + 1)).take (j - (n + 1)))
        show (TL.joinL [10] ((ls.drop (n + 1)).take (j - (n + 1)))).length ≤ 100000
        have e1 : ([10] : List Nat).length = 1 := rfl
        rw [e1] at this
        omega
      have st2 : ∀ {o : Oc}, DSs (Xd Pr wo K mg base nLong "long_at" sLong f cdv A outer s H E) (Wd0 E) ((defBody sLong).drop 6) [.own none (RowM.o CR { r0 with lines := (ls.drop n).take (j + 1 - n), value := sD v }), .v (lsD ls), .v (.int (n : Int)), .v (.int (a : Int)), .v (.int (j : Int)), .no] o →
          DSs (Xd Pr wo K mg base nLong "long_at" sLong f cdv A outer s H E) (Wd0 E) (defBody sLong) (toS 0 [P.mv (r0.o CR), .v (lsD ls), .v (.int (n : Int)), .v (.int (a : Int))] ++ List.replicate 2 .no) o := fun h => by
        exact st1 (seq (ds_while cz.po h1) (if_n (dt_cmpI rfl (va 4 rfl) (de_len (b_len B.len) (db_of (va 1 rfl)) (lenD (k := 0)))) (decide_eq_false (by omega))
          (seq (fldR (d := lsD ((ls.drop n).take (j + 1 - n))) (ρ1 := [.own none (r0.o CR), .v (lsD ls), .v (.int (n : Int)), .v (.int (a : Int)), .v (.int (j : Int)), .no]) 0 1 R.cl R.nl (by
              show DE _ _ _ _ (.val (.lst (((ls.drop n).take (j + 1 - n)).map fun q => D.str (mk q))) _)
              rw [List.map_take, List.map_drop]
              exact de_still (lsl2 (i := n) (j := j + 1) (va 1 rfl) (va 2 rfl) (ad1 (va 4 rfl)))) rfl rfl (by decide +kernel) (by show 6 < 1000; decide) rfl)
          (seq (fldR (d := sD v) (ρ1 := [.own none (RowM.o CR { r0 with lines := (ls.drop n).take (j + 1 - n) }), .v (lsD ls), .v (.int (n : Int)), .v (.int (a : Int)), .v (.int (j : Int)), .no]) 0 3 R.cl R.nv (joins (ls := (ls.drop (n + 1)).take (j - (n + 1))) (by show _ + _ * 1 ≤ _; omega) (cs (y := [10]) rfl) (db_new (by
              rw [List.map_take, List.map_drop]
              exact lsl2 (i := n + 1) (j := j) (va 1 rfl) (ad1 (va 2 rfl)) (va 4 rfl)))) rfl rfl (by decide +kernel) (by show 6 < 1000; decide) rfl) h))))
      have t6 : DT (Xd Pr wo K mg base nLong "long_at" sLong f cdv A outer s H E) (Wd0 E) (ifT (bodyAt sLong 6)) [.own none (RowM.o CR { r0 with lines := (ls.drop n).take (j + 1 - n), value := sD v }), .v (lsD ls), .v (.int (n : Int)), .v (.int (a : Int)), .v (.int (j : Int)), .no] (decide ((200 : Int) < (v.length : Int)))
          [.own none (RowM.o CR { r0 with lines := (ls.drop n).take (j + 1 - n), value := sD v }), .v (lsD ls), .v (.int (n : Int)), .v (.int (a : Int)), .v (.int (j : Int)), .no] :=
        dt_cmpI rfl (de_len (b_len B.len) (db_of (de_fldO (d := sD v) (i := 0) R.cl R.nv rfl (by rfl))) (Dt.len_str hv)) (gi hmt)
      by_cases h6 : 200 < v.length
      · have e6 : longEnd r0 ls n (.cls j) = .flt n wLong := if_pos h6
        rw [e6]
        exact ⟨_, st2 (if_t t6 (decide_eq_true (by omega)) (dss1 (ds_raiseF cz GF (by decide) (va 2 rfl) (cs (y := wLong) rfl))) rfl), .exc rfl⟩
      · have e6 : longEnd r0 ls n (.cls j) = .row { r0 with lines := (ls.drop n).take (j + 1 - n), value := sD v } := if_neg h6
        rw [e6]
        exact ⟨_, st2 (if_n t6 (decide_eq_false (by omega)) (ret (vfo 0 rfl))), .ret rfl⟩
  · have e : longR r0 ls l n a = .flt n wBehind := if_neg h0
    rw [e]
    exact ⟨_, if_t (nes (y := lng) rfl (slf (i := a) hz (lix hn (va 1 rfl) (va 2 rfl)) (va 3 rfl)) (gs hlg)) (by rw [decide_eq_false h0]; rfl) (dss1 (ds_raiseF cz GF (by decide) (va 2 rfl) (cs (y := wBehind) rfl))) rfl, .exc rfl⟩
end
end K01


set_option Elab.async false
set_option linter.all false
set_option maxRecDepth 100000
set_option maxHeartbeats 4000000
namespace K01
open PySem PySem.Spec PyProof.Rows L2 Dt
/-! ### rows.py: entry_at, row_at -/
def nmOf : List Nat → List Nat
  | [] => []
  | c :: r => if isNm c = true then c :: nmOf r else []
def nmRest : List Nat → List Nat
  | [] => []
  | c :: r => if isNm c = true then nmRest r else c :: r
theorem nm_app : ∀ s : List Nat, nmOf s ++ nmRest s = s
  | [] => rfl
  | c :: r => by
    unfold nmOf nmRest
    split
    · rw [List.cons_append, nm_app r]
    · rfl
theorem nmRest_suf (s : List Nat) : nmRest s <:+ s := ⟨nmOf s, nm_app s⟩
/-- what is behind the name, behind the sign of equality -/
def eqRest (l : List Nat) : List Nat := skipB (nmRest (skipB l))
def valRest (l : List Nat) : List Nat := skipB ((eqRest l).drop 1)
def entBad (l : List Nat) : Bool := !isNameL (nmOf (skipB l)) || !decide ((eqRest l).take 1 = [61])
def entBase (l : List Nat) : RowM := ⟨wEntry, [l], nmOf (skipB l), .non, l.take (posOf l (valRest l)), []⟩
def entVal (l : List Nat) (n : Nat) : Option (D × List Nat) → RR
  | none => .flt n wValue
  | some (d, q) => if isRestL q = true then .row { entBase l with value := d, rest := q } else .flt n wBehind
def entR (ls : List (List Nat)) (l : List Nat) (n : Nat) : RR :=
  if entBad l = true then .flt n wName else if (valRest l).take 3 = lng then longR (entBase l) ls l n (posOf l (valRest l)) else entVal l n (valueS (valRest l))
def rowR (ls : List (List Nat)) (l : List Nat) (n : Nat) : RR :=
  if l.all isSign = true then
    if (skipB l).take 1 ∈ ([[], [35]] : List (List Nat)) then .row ⟨if skipB l = [] then wBlank else wRemark, [l], [], .non, [], []⟩
    else if (skipB l).take 1 = [91] then headR l n else entR ls l n
  else .flt n wSign
section
variable {Pr : Program} {wo : World} {K : PySem.W.Frag} {mg : Str → Option Value} {base : Heap} {CR CF : Addr}
abbrev sEnt : Stmt := topS 45
abbrev nEnt : List Str := ["lines", "number", "line", "first", "end", "equals", "at", "found", "both"]
theorem sc_ent : FnScope nEnt ["lines", "number"] (defScope sEnt) := ⟨rfl, rfl, rfl, by decide +kernel, rfl, by decide +kernel, by decide +kernel⟩
def c_ent (CR CF : Addr) : Con := fun ps r os => ∃ (ls : List (List Nat)) (l : List Nat) (n : Nat), small ls ∧ ls[n]? = some l ∧ ps = [.v (lsD ls), .v (.int (n : Int))] ∧ r = (entR ls l n).res CR CF ∧ os = []
theorem mem_signs {c : Nat} : decide (c ∈ ("abcdefghijklmnopqrstuvwxyz0123456789_" : Str).cps.toList) = isNm c := by
  unfold isNm
  rw [signs_eq]
theorem ok_ent (F : DefAt K mg "entry_at" sEnt ["lines", "number"]) (C2 : Cons2 mg) (R : RowAt K mg CR) (GF : FltAt Pr wo K mg base "Fault" CF) (GB : FnAt Pr wo K mg base "blanks_from" 1 ["text", "at"] c_bl) (GN : FnAt Pr wo K mg base "is_name" 1 ["text"] c_is_name) (GR : FnAt Pr wo K mg base "is_rest" 2 ["text"] c_is_rest)
    (GI : InAt Pr wo K mg base CR 1 ["self", "word", "lines"] (c_rowI CR)) (GV : FnAt Pr wo K mg base "value_at" 3 ["text", "at"] c_va) (GL : FnAt Pr wo K mg base "long_at" 3 ["found", "lines", "number", "at"] (c_long CR CF)) : FnAt Pr wo K mg base "entry_at" 4 ["lines", "number"] (c_ent CR CF) := by
  refine fnAt (n := 7) F sc_ent (fun qs r os h => by obtain ⟨ls, l, n, _, _, rfl, _⟩ := h; rfl) rfl fun f cdv A outer s H E cz qs r os h => ?_
  obtain ⟨ls, l, n, hs, hn, rfl, rfl, rfl⟩ := h
  obtain ⟨tl, hlg⟩ := C2.long
  obtain ⟨ts, hsg⟩ := C2.signs
  have hl0 := small_at hs hn
  have hl : l.length ≤ 50000 := by omega
  have hz : l.length ≤ 100000 := by omega
  have suf0 : skipB l <:+ l := skipB_suf l
  have suf1 : nmRest (skipB l) <:+ l := (nmRest_suf _).trans suf0
  have suf2 : eqRest l <:+ l := (skipB_suf _).trans suf1
  have suf3 : valRest l <:+ l := ((skipB_suf _).trans (List.drop_suffix _ _)).trans suf2
  have p0 := drop_pos suf0
  have p1 := drop_pos suf1
  have p2 := drop_pos suf2
  have p3 := drop_pos suf3
  have pl : ∀ r : List Nat, posOf l r ≤ l.length := fun r => by unfold posOf; omega
  -- the run of the name's signs
  have key : ∀ (s' : List Nat) (e : Nat), l.drop e = s' → e ≤ l.length → ∃ m, WhR (Xd Pr wo K mg base nEnt "entry_at" sEnt f cdv A outer s H E) (Wd0 E) (wT (bodyAt sEnt 3)) (wB (bodyAt sEnt 3)) m
      [.v (lsD ls), .v (.int (n : Int)), .v (sD l), .v (.int (posOf l (skipB l) : Nat)), .v (.int (e : Int)), .no, .no, .no, .no] (.next [.v (lsD ls), .v (.int (n : Int)), .v (sD l), .v (.int (posOf l (skipB l) : Nat)), .v (.int (posOf l (nmRest s') : Nat)), .no, .no, .no, .no]) := by
    intro s'
    induction s' with
    | nil =>
      intro e h he
      have ee := drop_nil h he
      have e0 : posOf l (nmRest []) = e := by rw [ee]; rfl
      rw [e0]
      exact ⟨0, .done (dt_w (and_f (nes (y := []) rfl (sl1 hz (va 2 rfl) (va 4 rfl) (de_add (va 4 rfl) de_int)) de_str) (by rw [h]; rfl)))⟩
    | cons c r ih =>
      intro e h he
      have hg := drop_get h
      have ne : (!decide ((l.drop e).take 1 = [])) = true := by rw [h]; rfl
      by_cases hd : isNm c = true
      · have hlt := drop_lt h
        obtain ⟨m, hm⟩ := ih (e + 1) (drop_succ h) hlt
        have e0 : nmRest (c :: r) = nmRest r := if_pos hd
        rw [e0]
        exact ⟨m + 1, .turn (dt_w (and_t (nes (y := []) rfl (sl1 hz (va 2 rfl) (va 4 rfl) (de_add (va 4 rfl) de_int)) de_str) ne (dw_and1 (to (dt_inS (ixs hz hg (va 2 rfl) (va 4 rfl)) (gs hsg)) (by rw [mem_signs]; exact hd))))) (dss1 (st 4 cz (ad1 (va 4 rfl)))) hm⟩
      · have e0 : nmRest (c :: r) = c :: r := if_neg hd
        rw [e0, pos_of h he]
        exact ⟨0, .done (dt_w (and_t (nes (y := []) rfl (sl1 hz (va 2 rfl) (va 4 rfl) (de_add (va 4 rfl) de_int)) de_str) ne (dw_and1 (to (dt_inS (ixs hz hg (va 2 rfl) (va 4 rfl)) (gs hsg)) (by rw [mem_signs]; simpa using hd)))))⟩
  obtain ⟨m, hm⟩ := key (skipB l) (posOf l (skipB l)) p0 (pl _)
  have hname : (l.drop (posOf l (skipB l))).take (posOf l (nmRest (skipB l)) - posOf l (skipB l)) = nmOf (skipB l) := by
    have e1 := nm_app (skipB l)
    have e2 := congrArg List.length e1
    rw [List.length_append] at e2
    have e3 := suf0.length_le
    have e4 : posOf l (nmRest (skipB l)) - posOf l (skipB l) = (nmOf (skipB l)).length := by unfold posOf; omega
    rw [p0, e4]
    have e5 := List.take_left (l₁ := nmOf (skipB l)) (l₂ := nmRest (skipB l))
    rw [e1] at e5
    exact e5
  have hnl : (nmOf (skipB l)).length ≤ 50000 := by
    rw [← hname, List.length_take, List.length_drop]
    omega
  let ρ5 : List S := [.v (lsD ls), .v (.int (n : Int)), .v (sD l), .v (.int (posOf l (skipB l) : Nat)), .v (.int (posOf l (nmRest (skipB l)) : Nat)), .v (.int (posOf l (eqRest l) : Nat)), .no, .no, .no]
  have st1 : ∀ {o : Oc}, DSs (Xd Pr wo K mg base nEnt "entry_at" sEnt f cdv A outer s H E) (Wd0 E) ((defBody sEnt).drop 5) ρ5 o →
      DSs (Xd Pr wo K mg base nEnt "entry_at" sEnt f cdv A outer s H E) (Wd0 E) (defBody sEnt) (toS 0 [P.v (lsD ls), .v (.int (n : Int))] ++ List.replicate 7 .no) o := fun h =>
    seq (st 2 cz (lix hn (va 0 rfl) (va 1 rfl))) (seq (st 3 cz (de_callV (r := .ret (.int ((posOf l (skipB l) : Nat) : Int))) cz GB (by decide) (da_cons (va 2 rfl) (da_cons de_int da_nil)) ⟨l, 0, hl, Nat.zero_le _, rfl, rfl, rfl⟩))
      (seq (st 4 cz (va 3 rfl)) (seq (ds_while cz.po hm) (seq (st 5 cz (de_callV (r := .ret (.int ((posOf l (eqRest l) : Nat) : Int))) cz GB (by decide) (da_cons (va 2 rfl) (da_cons (va 4 rfl) da_nil)) ⟨l, posOf l (nmRest (skipB l)), hl, pl _, rfl, by rw [p1]; rfl, rfl⟩)) h))))
  have t5 : DT (Xd Pr wo K mg base nEnt "entry_at" sEnt f cdv A outer s H E) (Wd0 E) (ifT (bodyAt sEnt 5)) ρ5 (entBad l) ρ5 := by
    have e : entBad l = (!isNameL (nmOf (skipB l)) || !decide ((l.drop (posOf l (eqRest l))).take 1 = [61])) := by rw [p2]; rfl
    rw [e]
    exact dt_w (dw_or (dt_not (tb (de_callV (r := .ret (.bl (isNameL (nmOf (skipB l))))) cz GN (by decide) (da_cons (DE.cast (sl2 (i := posOf l (skipB l)) (j := posOf l (nmRest (skipB l))) hz (va 2 rfl) (va 3 rfl) (va 4 rfl)) (congrArg sD hname)) da_nil) ⟨_, hnl, rfl, rfl, rfl⟩))) fun _ => dw_or1 (nes (y := [61]) rfl (sl1 hz (va 2 rfl) (va 5 rfl) (de_add (va 5 rfl) de_int)) de_str))
  by_cases hb : entBad l = true
  · have e : entR ls l n = .flt n wName := if_pos hb
    rw [e]
    exact ⟨_, st1 (if_t t5 hb (dss1 (ds_raiseF cz GF (by decide) (va 1 rfl) (cs (y := wName) rfl))) rfl), .exc rfl⟩
  · have hb : entBad l = false := by simpa using hb
    have h61 : (eqRest l).take 1 = [61] := by
      unfold entBad at hb
      rw [Bool.or_eq_false_iff] at hb
      simpa using hb.2
    have hlt : posOf l (eqRest l) + 1 ≤ l.length := by
      cases q : eqRest l with
      | nil => rw [q] at h61; cases h61
      | cons c r =>
        rw [q] at p2
        exact drop_lt p2
    have hd1 : l.drop (posOf l (eqRest l) + 1) = (eqRest l).drop 1 := by rw [← List.drop_drop, p2]
    let ρ9 : List S := [.v (lsD ls), .v (.int (n : Int)), .v (sD l), .v (.int (posOf l (skipB l) : Nat)), .v (.int (posOf l (nmRest (skipB l)) : Nat)), .v (.int (posOf l (eqRest l) : Nat)), .v (.int (posOf l (valRest l) : Nat)), .own none ((entBase l).o CR), .no]
    have st2 : ∀ {o : Oc}, DSs (Xd Pr wo K mg base nEnt "entry_at" sEnt f cdv A outer s H E) (Wd0 E) ((defBody sEnt).drop 10) ρ9 o →
        DSs (Xd Pr wo K mg base nEnt "entry_at" sEnt f cdv A outer s H E) (Wd0 E) (defBody sEnt) (toS 0 [P.v (lsD ls), .v (.int (n : Int))] ++ List.replicate 7 .no) o := fun h =>
      st1 (if_n t5 hb (seq (st 6 cz (de_callV (r := .ret (.int ((posOf l (valRest l) : Nat) : Int))) cz GB (by decide) (da_cons (va 2 rfl) (da_cons (ad1 (va 5 rfl)) da_nil)) ⟨l, posOf l (eqRest l) + 1, hl, hlt, rfl, by rw [hd1]; rfl, rfl⟩))
        (seq (sto 7 cz (de_make (ns := rowNs) (fs := [.d (sD wEntry), .d (lsD [l]), .d (sD []), .d .non, .d (sD []), .d (sD [])]) cz GI (by decide) R.mg (da_cons (cs (y := wEntry) rfl) (da_cons (de_still (de_lst (da_cons (va 2 rfl) da_nil) (by show 1 ≤ sizeLine; decide))) da_nil)) ⟨wEntry, [l], rfl, rfl, rfl⟩))
        (seq (fldR 7 2 R.cl R.nn (DE.cast (sl2 (i := posOf l (skipB l)) (j := posOf l (nmRest (skipB l))) hz (va 2 rfl) (va 3 rfl) (va 4 rfl)) (congrArg sD hname)) rfl rfl (by decide +kernel) (by show 6 < 1000; decide) rfl)
        (seq (fldR 7 4 R.cl R.nf (slt (j := posOf l (valRest l)) hz (va 2 rfl) (va 6 rfl)) rfl rfl (by decide +kernel) (by show 6 < 1000; decide) rfl) h)))))
    have t10 : DT (Xd Pr wo K mg base nEnt "entry_at" sEnt f cdv A outer s H E) (Wd0 E) (ifT (bodyAt sEnt 10)) ρ9 (decide ((valRest l).take 3 = lng)) ρ9 := by
      have e : decide ((valRest l).take 3 = lng) = Txt.startswith3 (mk l) (mk lng) ((posOf l (valRest l) : Nat) : Int) := by
        rw [sw_mk (pl _), p3]
        rfl
      rw [e]
      exact tb (de_sw3 (va 2 rfl) (gs hlg) (va 6 rfl))
    by_cases h10 : (valRest l).take 3 = lng
    · have e : entR ls l n = longR (entBase l) ls l n (posOf l (valRest l)) := by
        unfold entR
        rw [if_neg (by rw [hb]; exact Bool.false_ne_true), if_pos h10]
      rw [e]
      cases q : longR (entBase l) ls l n (posOf l (valRest l)) with
      | row r' =>
        exact ⟨_, st2 (if_t t10 (decide_eq_true h10) (dss1 (ds_ret (de_callF (r := .ret (r'.d CR)) (os := []) cz GL (by decide) (dg_mv (i := 7) rfl (.inl rfl) rfl (dg_v (va 0 rfl) (dg_v (va 1 rfl) (dg_v (va 6 rfl) dg_nil)))) (.mv rfl (.v (.v (.v .nil)))) ⟨entBase l, ls, l, n, posOf l (valRest l), hs, hn, rfl, by rw [q]; rfl, rfl⟩ .nil rfl rfl rfl rfl (List.nodup_cons.mpr ⟨by simp [mvsOf], .nil⟩) (fun _ z => by cases z)))) rfl), .ret rfl⟩
      | flt k w =>
        exact ⟨_, st2 (if_t t10 (decide_eq_true h10) (dss1 (ds_retX (de_callF (r := .exc (fltX CF k w)) (os := []) cz GL (by decide) (dg_mv (i := 7) rfl (.inl rfl) rfl (dg_v (va 0 rfl) (dg_v (va 1 rfl) (dg_v (va 6 rfl) dg_nil)))) (.mv rfl (.v (.v (.v .nil)))) ⟨entBase l, ls, l, n, posOf l (valRest l), hs, hn, rfl, by rw [q]; rfl, rfl⟩ .nil rfl rfl rfl rfl (List.nodup_cons.mpr ⟨by simp [mvsOf], .nil⟩) (fun _ z => by cases z)))) rfl), .exc rfl⟩
    · have e : entR ls l n = entVal l n (valueS (valRest l)) := by
        unfold entR
        rw [if_neg (by rw [hb]; exact Bool.false_ne_true), if_neg h10]
      rw [e]
      cases q : valueS (valRest l) with
      | none =>
        exact ⟨_, st2 (if_n t10 (decide_eq_false h10) (seq (st 8 cz (de_callV (r := .ret .non) cz GV (by decide) (da_cons (va 2 rfl) (da_cons (va 6 rfl) da_nil)) ⟨l, posOf l (valRest l), hl, pl _, rfl, by rw [p3, q]; rfl, rfl⟩))
          (if_t (dt_isN (va 8 rfl)) rfl (dss1 (ds_raiseF cz GF (by decide) (va 1 rfl) (cs (y := wValue) rfl))) rfl))), .exc rfl⟩
      | some p =>
        obtain ⟨d, r⟩ := p
        have sr := (valueS_suf q).trans suf3
        have pr := drop_pos sr
        have hr : r.length ≤ 50000 := Nat.le_trans sr.length_le hl
        have st3 : ∀ {o : Oc}, DSs (Xd Pr wo K mg base nEnt "entry_at" sEnt f cdv A outer s H E) (Wd0 E) ((defBody sEnt).drop 13) [.v (lsD ls), .v (.int (n : Int)), .v (sD l), .v (.int (posOf l (skipB l) : Nat)), .v (.int (posOf l (nmRest (skipB l)) : Nat)), .v (.int (posOf l (eqRest l) : Nat)), .v (.int (posOf l (valRest l) : Nat)), .own none ((entBase l).o CR), .v (.tup [d, .int (posOf l r : Nat)])] o →
            DSs (Xd Pr wo K mg base nEnt "entry_at" sEnt f cdv A outer s H E) (Wd0 E) ((defBody sEnt).drop 10) ρ9 o := fun h =>
          if_n t10 (decide_eq_false h10) (seq (st 8 cz (de_callV (r := .ret (.tup [d, .int (posOf l r : Nat)])) cz GV (by decide) (da_cons (va 2 rfl) (da_cons (va 6 rfl) da_nil)) ⟨l, posOf l (valRest l), hl, pl _, rfl, by rw [p3, q]; rfl, rfl⟩))
            (if_n (dt_isN (va 8 rfl)) rfl h))
        have t13 : DT (Xd Pr wo K mg base nEnt "entry_at" sEnt f cdv A outer s H E) (Wd0 E) (ifT (bodyAt sEnt 13)) [.v (lsD ls), .v (.int (n : Int)), .v (sD l), .v (.int (posOf l (skipB l) : Nat)), .v (.int (posOf l (nmRest (skipB l)) : Nat)), .v (.int (posOf l (eqRest l) : Nat)), .v (.int (posOf l (valRest l) : Nat)), .own none ((entBase l).o CR), .v (.tup [d, .int (posOf l r : Nat)])] (!isRestL r)
            [.v (lsD ls), .v (.int (n : Int)), .v (sD l), .v (.int (posOf l (skipB l) : Nat)), .v (.int (posOf l (nmRest (skipB l)) : Nat)), .v (.int (posOf l (eqRest l) : Nat)), .v (.int (posOf l (valRest l) : Nat)), .own none ((entBase l).o CR), .v (.tup [d, .int (posOf l r : Nat)])] :=
          dt_not (tb (de_callV (r := .ret (.bl (isRestL r))) cz GR (by decide) (da_cons (DE.cast (slf (i := posOf l r) hz (va 2 rfl) (de_ix (va 8 rfl) de_int rfl)) (congrArg sD pr)) da_nil) ⟨r, hr, rfl, rfl, rfl⟩))
        by_cases h13 : isRestL r = true
        · have e2 : entVal l n (some (d, r)) = .row { entBase l with value := d, rest := r } := if_pos h13
          rw [e2]
          exact ⟨_, st2 (st3 (if_n t13 (by rw [h13]; rfl) (seq (fldR 7 3 R.cl R.nv (de_ix (va 8 rfl) de_int rfl) rfl rfl (by decide +kernel) (by show 6 < 1000; decide) rfl)
            (seq (fldR 7 5 R.cl R.nr (DE.cast (slf (i := posOf l r) hz (va 2 rfl) (de_ix (va 8 rfl) de_int rfl)) (congrArg sD pr)) rfl rfl (by decide +kernel) (by show 6 < 1000; decide) rfl) (ret (vfo 7 rfl)))))), .ret rfl⟩
        · have h13 : isRestL r = false := by simpa using h13
          have e2 : entVal l n (some (d, r)) = .flt n wBehind := if_neg (by rw [h13]; exact Bool.false_ne_true)
          rw [e2]
          exact ⟨_, st2 (st3 (if_t t13 (by rw [h13]; rfl) (dss1 (ds_raiseF cz GF (by decide) (va 1 rfl) (cs (y := wBehind) rfl))) rfl)), .exc rfl⟩
end
end K01


set_option Elab.async false
set_option linter.all false
set_option maxRecDepth 100000
set_option maxHeartbeats 4000000
namespace K01
open PySem PySem.Spec PyProof.Rows L2 Dt
/-! ### rows.py: row_at; books.py: clashes, look_twice -/
def dotted (p o : List Nat) : Bool := decide (o = p) || decide (o.take (p.length + 1) = p ++ [46])
abbrev trues (S : List (List Nat)) : List D := S.map fun _ => .bl true
abbrev dicB (S : List (List Nat)) : O := .dic (S.map mk) (trues S)
/-- what a row tells: the section behind it, the sections, the entries; or a fault -/
inductive LT where
  | ok (sec : Option (List Nat)) (S E : List (List Nat)) | bad (w : List Nat)
def lookT (r : RowM) (sec : Option (List Nat)) (S E : List (List Nat)) : LT :=
  if r.word = wHead then
    if r.name ∈ S then .bad wTwice else if ((aboveL r.name).any fun q => decide (q ∈ E)) = true then .bad wBoth else .ok (some r.name) (S ++ [r.name]) E
  else if r.word = wEntry then
    match sec with
    | none => .ok none S E
    | some s => if underL s r.name ∈ E then .bad wTwice else if (S.any (dotted (underL s r.name))) = true then .bad wBoth else .ok (some s) S (E ++ [underL s r.name])
  else .ok sec S E
def secD : Option (List Nat) → D
  | none => .non
  | some s => sD s
theorem mem_mk {q : List Nat} {S : List (List Nat)} : decide (mk q ∈ S.map mk) = decide (q ∈ S) := by
  refine decide_eq_decide.mpr ⟨fun h => ?_, fun h => List.mem_map.mpr ⟨q, h, rfl⟩⟩
  obtain ⟨a, h1, h2⟩ := List.mem_map.mp h
  rw [← mk_inj.mp h2]
  exact h1
theorem dic_put {q : List Nat} {S : List (List Nat)} (h : q ∉ S) : putN (mk q) (S.map mk) = (S ++ [q]).map mk ∧ putX (mk q) (D.bl true) (S.map mk) (trues S) = trues (S ++ [q]) := by
  have hn : mk q ∉ S.map mk := fun z => by
    have e := mem_mk (q := q) (S := S)
    rw [decide_eq_true z] at e
    exact h (of_decide_eq_true e.symm)
  rw [putN_app hn, putX_app hn (by rw [List.length_map, List.length_map])]
  unfold trues
  rw [List.map_append, List.map_append]
  exact ⟨rfl, rfl⟩
section
variable {X : Cx} {W : WX} {ρ ρ1 : List S} {tg a : Expr}
theorem di_cast {xs ys : List D} (h : DI X W tg a ρ xs ρ1) (e : xs = ys) : DI X W tg a ρ ys ρ1 := e ▸ h
end
section
variable {Pr : Program} {wo : World} {K : PySem.W.Frag} {mg : Str → Option Value} {base : Heap} {CR CF : Addr}
abbrev sRow : Stmt := topS 47
abbrev nRow : List Str := ["lines", "number", "line", "at", "sign"]
theorem sc_row : FnScope nRow ["lines", "number"] (defScope sRow) := ⟨rfl, rfl, rfl, by decide +kernel, rfl, by decide +kernel, by decide +kernel⟩
def c_row (CR CF : Addr) : Con := fun ps r os => ∃ (ls : List (List Nat)) (l : List Nat) (n : Nat), small ls ∧ ls[n]? = some l ∧ ps = [.v (lsD ls), .v (.int (n : Int))] ∧ r = (rowR ls l n).res CR CF ∧ os = []
theorem ok_row (F : DefAt K mg "row_at" sRow ["lines", "number"]) (B : Blts mg) (R : RowAt K mg CR) (GF : FltAt Pr wo K mg base "Fault" CF) (GS : FnAt Pr wo K mg base "is_sign" 1 ["sign"] c_is_sign) (GB : FnAt Pr wo K mg base "blanks_from" 1 ["text", "at"] c_bl)
    (GI : InAt Pr wo K mg base CR 1 ["self", "word", "lines"] (c_rowI CR)) (GH : FnAt Pr wo K mg base "head_at" 3 ["line", "number"] (c_head CR CF)) (GE : FnAt Pr wo K mg base "entry_at" 4 ["lines", "number"] (c_ent CR CF)) : FnAt Pr wo K mg base "row_at" 5 ["lines", "number"] (c_row CR CF) := by
  refine fnAt (n := 3) F sc_row (fun qs r os h => by obtain ⟨ls, l, n, _, _, rfl, _⟩ := h; rfl) rfl fun f cdv A outer s H E cz qs r os h => ?_
  obtain ⟨ls, l, n, hs, hn, rfl, rfl, rfl⟩ := h
  have hl0 := small_at hs hn
  have hl : l.length ≤ 50000 := by omega
  have hz : l.length ≤ 100000 := by omega
  have p0 := drop_pos (skipB_suf l)
  have t1 : DT (Xd Pr wo K mg base nRow "row_at" sRow f cdv A outer s H E) (Wd0 E) (ifT (bodyAt sRow 1)) [.v (lsD ls), .v (.int (n : Int)), .v (sD l), .no, .no] (!l.all isSign) [.v (lsD ls), .v (.int (n : Int)), .v (sD l), .no, .no] :=
    dt_not (tb (all_c (q := isSign) 4 cz B.all (di_strL (l := l) (va 2 rfl)) hz fun c hc s0 H0 C0 cl fp => de_callV (r := .ret (.bl (isSign c))) (cz.blk s0 H0 C0 cl fp) GS (by decide) (da_cons (va 4 rfl) da_nil) ⟨c, rfl, rfl, rfl⟩))
  by_cases h1 : l.all isSign = true
  · let ρ3 : List S := [.v (lsD ls), .v (.int (n : Int)), .v (sD l), .v (.int ((posOf l (skipB l) : Nat) : Int)), .no]
    have st1 : ∀ {o : Oc}, DSs (Xd Pr wo K mg base nRow "row_at" sRow f cdv A outer s H E) (Wd0 E) ((defBody sRow).drop 3) ρ3 o →
        DSs (Xd Pr wo K mg base nRow "row_at" sRow f cdv A outer s H E) (Wd0 E) (defBody sRow) (toS 0 [P.v (lsD ls), .v (.int (n : Int))] ++ List.replicate 3 .no) o := fun h =>
      seq (st 2 cz (lix hn (va 0 rfl) (va 1 rfl))) (if_n t1 (by rw [h1]; rfl) (seq (st 3 cz (de_callV (r := .ret (.int ((posOf l (skipB l) : Nat) : Int))) cz GB (by decide) (da_cons (va 2 rfl) (da_cons de_int da_nil)) ⟨l, 0, hl, Nat.zero_le _, rfl, rfl, rfl⟩)) h))
    have t3 : DT (Xd Pr wo K mg base nRow "row_at" sRow f cdv A outer s H E) (Wd0 E) (ifT (bodyAt sRow 3)) ρ3 (decide ((skipB l).take 1 ∈ ([[], [35]] : List (List Nat)))) ρ3 := by
      have e : decide ((skipB l).take 1 ∈ ([[], [35]] : List (List Nat))) = inF (sD ((l.drop (posOf l (skipB l))).take 1)) (([[], [35]] : List (List Nat)).map fun y => D.str (mk y)) := by rw [inF_str, p0]
      rw [e]
      exact dt_inT rfl rfl (sl1 hz (va 2 rfl) (va 3 rfl) (de_add (va 3 rfl) de_int)) (de_tup (da_cons (cs (y := []) rfl) (da_cons (cs (y := [35]) rfl) da_nil)) (by show 2 ≤ sizeLine; decide))
    by_cases h3 : (skipB l).take 1 ∈ ([[], [35]] : List (List Nat))
    · have e : rowR ls l n = .row ⟨if skipB l = [] then wBlank else wRemark, [l], [], .non, [], []⟩ := by
        unfold rowR
        rw [if_pos h1, if_pos h3]
      rw [e]
      have tl : ∀ {ρ : List S}, decide (((posOf l (skipB l) : Nat) : Int) = ((mk l).length : Int)) = decide (skipB l = []) := fun {_} => decide_eq_decide.mpr (by
        have e1 := (skipB_suf l).length_le
        show ((posOf l (skipB l) : Nat) : Int) = (l.length : Int) ↔ _
        unfold posOf
        constructor
        · intro h
          by_cases h0 : (skipB l).length = 0
          · exact List.eq_nil_of_length_eq_zero h0
          · omega
        · intro h
          rw [h]
          simp)
      by_cases h4 : skipB l = []
      · rw [if_pos h4]
        exact ⟨_, st1 (if_t t3 (decide_eq_true h3) (dss1 (ds_ret (de_still (de_make (ns := rowNs) (fs := [.d (sD wBlank), .d (lsD [l]), .d (sD []), .d .non, .d (sD []), .d (sD [])]) cz GI (by decide) R.mg (da_cons (ife_t (dt_cmpI rfl (va 3 rfl) (de_len (b_len B.len) (db_of (va 2 rfl)) (Dt.len_str hz))) (by rw [tl (ρ := [])]; exact decide_eq_true h4) (cs (y := wBlank) rfl)) (da_cons (de_still (de_lst (da_cons (va 2 rfl) da_nil) (by show 1 ≤ sizeLine; decide))) da_nil)) ⟨wBlank, [l], rfl, rfl, rfl⟩)))) rfl), .ret rfl⟩
      · rw [if_neg h4]
        exact ⟨_, st1 (if_t t3 (decide_eq_true h3) (dss1 (ds_ret (de_still (de_make (ns := rowNs) (fs := [.d (sD wRemark), .d (lsD [l]), .d (sD []), .d .non, .d (sD []), .d (sD [])]) cz GI (by decide) R.mg (da_cons (ife_f (dt_cmpI rfl (va 3 rfl) (de_len (b_len B.len) (db_of (va 2 rfl)) (Dt.len_str hz))) (by rw [tl (ρ := [])]; exact decide_eq_false h4) (cs (y := wRemark) rfl)) (da_cons (de_still (de_lst (da_cons (va 2 rfl) da_nil) (by show 1 ≤ sizeLine; decide))) da_nil)) ⟨wRemark, [l], rfl, rfl, rfl⟩)))) rfl), .ret rfl⟩
    · obtain ⟨c, r, hc⟩ : ∃ c r, skipB l = c :: r := by
        cases q : skipB l with
        | nil => rw [q] at h3; exact absurd (by decide) h3
        | cons c r => exact ⟨c, r, rfl⟩
      have hg : l[posOf l (skipB l)]? = some c := drop_get (p0.trans hc)
      by_cases h4 : c = 91
      · have e : rowR ls l n = headR l n := by
          unfold rowR
          rw [if_pos h1, if_neg h3, hc, if_pos (by rw [h4]; rfl)]
        rw [e]
        have k4 : decide ([c] = [91]) = true := decide_eq_true (by rw [h4])
        cases q : headR l n with
        | row r' => exact ⟨_, st1 (if_n t3 (decide_eq_false h3) (dss1 (ds_ret (ife_t (eqs (y := [91]) rfl (ixs hz hg (va 2 rfl) (va 3 rfl)) de_str) k4 (de_callV (r := .ret (r'.d CR)) cz GH (by decide) (da_cons (va 2 rfl) (da_cons (va 1 rfl) da_nil)) ⟨l, n, hl, rfl, by rw [q]; rfl, rfl⟩))))), .ret rfl⟩
        | flt k w => exact ⟨_, st1 (if_n t3 (decide_eq_false h3) (dss1 (ds_retX (de_if (eqs (y := [91]) rfl (ixs hz hg (va 2 rfl) (va 3 rfl)) de_str) (fun _ => de_callV (r := .exc (fltX CF k w)) cz GH (by decide) (da_cons (va 2 rfl) (da_cons (va 1 rfl) da_nil)) ⟨l, n, hl, rfl, by rw [q]; rfl, rfl⟩) (fun z => by rw [k4] at z; cases z))))), .exc rfl⟩
      · have e : rowR ls l n = entR ls l n := by
          unfold rowR
          rw [if_pos h1, if_neg h3, hc, if_neg (by intro z; exact h4 (List.cons.inj z).1)]
        rw [e]
        have k4 : decide ([c] = [91]) = false := decide_eq_false fun z => h4 (List.cons.inj z).1
        cases q : entR ls l n with
        | row r' => exact ⟨_, st1 (if_n t3 (decide_eq_false h3) (dss1 (ds_ret (ife_f (eqs (y := [91]) rfl (ixs hz hg (va 2 rfl) (va 3 rfl)) de_str) k4 (de_callV (r := .ret (r'.d CR)) cz GE (by decide) (da_cons (va 0 rfl) (da_cons (va 1 rfl) da_nil)) ⟨ls, l, n, hs, hn, rfl, by rw [q]; rfl, rfl⟩))))), .ret rfl⟩
        | flt k w => exact ⟨_, st1 (if_n t3 (decide_eq_false h3) (dss1 (ds_retX (de_if (eqs (y := [91]) rfl (ixs hz hg (va 2 rfl) (va 3 rfl)) de_str) (fun z => by rw [k4] at z; cases z) (fun _ => de_callV (r := .exc (fltX CF k w)) cz GE (by decide) (da_cons (va 0 rfl) (da_cons (va 1 rfl) da_nil)) ⟨ls, l, n, hs, hn, rfl, by rw [q]; rfl, rfl⟩))))), .exc rfl⟩
  · have h1 : l.all isSign = false := by simpa using h1
    have e : rowR ls l n = .flt n wSign := by
      unfold rowR
      rw [if_neg (by rw [h1]; exact Bool.false_ne_true)]
    rw [e]
    exact ⟨_, seq (st 2 cz (lix hn (va 0 rfl) (va 1 rfl))) (if_t t1 (by rw [h1]; rfl) (dss1 (ds_raiseF cz GF (by decide) (va 1 rfl) (cs (y := wSign) rfl))) rfl), .exc rfl⟩
end
end K01


set_option Elab.async false
set_option linter.all false
set_option maxRecDepth 100000
set_option maxHeartbeats 4000000
namespace K01
open PySem PySem.Spec PyProof.Rows L2 Dt
section
variable {Pr : Program} {wo : World} {K : PySem.W.Frag} {mg : Str → Option Value} {base : Heap} {CR CF : Addr}
structure Blts2 (mg : Str → Option Value) : Prop where
  any : mg "any" = none
abbrev sCl : Stmt := topS 50
abbrev nCl : List Str := ["sections", "entries", "section", "path", "one"]
theorem sc_cl : FnScope nCl ["sections", "entries", "section", "path"] (defScope sCl) := ⟨rfl, rfl, rfl, by decide +kernel, rfl, by decide +kernel, by decide +kernel⟩
def c_clA : Con := fun ps r os => ∃ (k1 : List Str) (d1 d2 : List D) (es : List (List Nat)) (s : List Nat), s.length ≤ 50000 ∧ ps = [.v (.dic k1 d1), .v (.dic (es.map mk) d2), .v (sD s), .v .non] ∧ r = .ret (.bl ((aboveL s).any fun q => decide (q ∈ es))) ∧ os = []
def c_clB : Con := fun ps r os => ∃ (k2 : List Str) (d1 d2 : List D) (ss : List (List Nat)) (s p : List Nat), ss.length ≤ 100000 ∧ p.length ≤ 50000 ∧ ps = [.v (.dic (ss.map mk) d1), .v (.dic k2 d2), .v (sD s), .v (sD p)] ∧ r = .ret (.bl (ss.any (dotted p))) ∧ os = []
theorem above_len {l : List Nat} (hl : l.length ≤ 50000) : (aboveL l).length ≤ 100000 := by
  unfold aboveL
  rw [List.length_map, List.length_range]
  have := splitC_len 46 l
  omega
theorem ok_clA (F : DefAt K mg "clashes" sCl ["sections", "entries", "section", "path"]) (B : Blts2 mg) (GA : FnAt Pr wo K mg base "above" 1 ["path"] c_above) : FnAt Pr wo K mg base "clashes" 2 ["sections", "entries", "section", "path"] c_clA := by
  refine fnAt (n := 1) F sc_cl (fun qs r os h => by obtain ⟨_, _, _, _, _, _, rfl, _⟩ := h; rfl) rfl fun f cdv A outer s H E cz qs r os h => ?_
  obtain ⟨k1, d1, d2, es, sec, hl, rfl, rfl, rfl⟩ := h
  refine ⟨_, if_r (dt_isN (va 3 rfl)) rfl (any_c (l := aboveL sec) (g := fun q => D.str (mk q)) (q := fun q => decide (q ∈ es)) 4 cz B.any (di_list (de_still (de_callV (r := .own (.lst ((aboveL sec).map fun q => D.str (mk q)))) cz GA (by decide) (da_cons (va 2 rfl) da_nil) ⟨sec, hl, rfl, rfl, rfl⟩))) (above_len hl) fun q hq s0 H0 C0 cl fp => ?_), .ret rfl⟩
  rw [← mem_mk]
  exact de_inD (cz.blk s0 H0 C0 cl fp) (va 4 rfl) (va 1 rfl)
theorem ok_clB (F : DefAt K mg "clashes" sCl ["sections", "entries", "section", "path"]) (B : Blts2 mg) : FnAt Pr wo K mg base "clashes" 2 ["sections", "entries", "section", "path"] c_clB := by
  refine fnAt (n := 1) F sc_cl (fun qs r os h => by obtain ⟨_, _, _, _, _, _, _, _, rfl, _⟩ := h; rfl) rfl fun f cdv A outer s H E cz qs r os h => ?_
  obtain ⟨k2, d1, d2, ss, sec, p, hss, hp, rfl, rfl, rfl⟩ := h
  refine ⟨_, if_n (dt_isN (va 3 rfl)) rfl (ret (de_lock (i := 0) rfl (any_c (l := ss) (g := fun q => D.str (mk q)) (q := dotted p) 4 cz B.any (di_cast (di_dict (va 0 rfl)) (by rw [List.map_map]; rfl)) hss fun q hq s0 H0 C0 cl fp => ?_) rfl)), .ret rfl⟩
  have e : (p ++ [46]).length = p.length + 1 := by rw [List.length_append]; rfl
  have e2 : dotted p q = (decide (q = p) || decide (q.take (p ++ [46]).length = p ++ [46])) := by
    unfold dotted
    rw [e]
  rw [e2]
  exact de_or (veqs rfl (va 4 rfl) (va 3 rfl)) fun _ => de_one (de_sw1 (va 4 rfl) (cats (by rw [List.length_singleton]; omega) (va 3 rfl) (cs (y := [46]) rfl)))
end
section
variable {X : Cx} {W : WX} {ρ ρ1 ρ2 : List S} {pos pos' npos : Pos} {e a : Expr} {x : Str} {kk : Option Nat} {k : Nat} {q : List Nat} {S0 : List (List Nat)}
theorem dputB (i : Nat) (cz : Cz X W k) (h : DE X W e ρ (.val (.bl true) ρ1)) (ha : DE X W a ρ1 (.val (sD q) ρ2)) (hq1 : ρ1[i]? = some (.own kk (dicB S0))) (hq : ρ2[i]? = some (.own kk (dicB S0))) (hn : q ∉ S0) (hz : S0.length ≤ 100000) (hN : X.N[i]? = some x := by rfl) (hv : Vis X.env.scope x := by first | exact Or.inl rfl | exact Or.inr (Or.inl rfl) | exact Or.inr (Or.inr rfl))
    (hs : swapsWith e (some (.Subscript (.Name x npos) a pos')) pos.line X.env = pure false := by rfl) (hd : (x == ("__debug__" : Str)) = false := by decide) (hcd : (x == ("__classdict__" : Str)) = false := by decide) :
    DS X W (.Assign [.Subscript (.Name x npos) a pos'] e pos) ρ (.next (ρ2.set i (.own kk (dicB (S0 ++ [q]))))) := by
  have z := ds_dput (pos := pos) (pos' := pos') (npos := npos) cz h ha hq1 hq (by rw [List.length_map]; exact Nat.lt_of_le_of_lt hz (by decide)) hN hv hs hd hcd
  rw [(dic_put hn).1, (dic_put hn).2] at z
  exact z
end
section
variable {Pr : Program} {wo : World} {K : PySem.W.Frag} {mg : Str → Option Value} {base : Heap} {CR CF : Addr}
abbrev sLt : Stmt := topS 53
abbrev nLt : List Str := ["row", "number", "section", "sections", "entries", "path"]
theorem sc_lt : FnScope nLt ["row", "number", "section", "sections", "entries"] (defScope sLt) := ⟨rfl, rfl, rfl, by decide +kernel, rfl, by decide +kernel, by decide +kernel⟩
def LT.out (CF : Addr) (n : Nat) (S E : List (List Nat)) : LT → Res × List O
  | .ok sec S' E' => (.ret (secD sec), [dicB S', dicB E'])
  | .bad w => (.exc (fltX CF n w), [dicB S, dicB E])
def c_lt (CR CF : Addr) : Con := fun ps r os => ∃ (rw : RowM) (n : Nat) (sec : Option (List Nat)) (S E : List (List Nat)), rw.name.length ≤ 1000 ∧ (∀ s, sec = some s → s.length ≤ 1000) ∧ S.length ≤ 50000 ∧ E.length ≤ 50000 ∧
  ps = [.v (rw.d CR), .v (.int (n : Int)), .v (secD sec), .io (dicB S), .io (dicB E)] ∧ r = ((lookT rw sec S E).out CF n S E).1 ∧ os = ((lookT rw sec S E).out CF n S E).2
theorem under_len (s n : List Nat) : (underL s n).length ≤ s.length + n.length + 1 := by
  unfold underL
  split
  · omega
  · rw [List.length_append, List.length_append, List.length_singleton]
    omega
theorem ok_lt (F : DefAt K mg "look_twice" sLt ["row", "number", "section", "sections", "entries"]) (R : RowAt K mg CR) (GF : FltAt Pr wo K mg base "Fault" CF) (GU : FnAt Pr wo K mg base "under" 1 ["section", "name"] c_under) (GA : FnAt Pr wo K mg base "clashes" 2 ["sections", "entries", "section", "path"] c_clA) (GB : FnAt Pr wo K mg base "clashes" 2 ["sections", "entries", "section", "path"] c_clB) :
    FnAt Pr wo K mg base "look_twice" 3 ["row", "number", "section", "sections", "entries"] (c_lt CR CF) := by
  refine fnAt (n := 1) F sc_lt (fun qs r os h => by obtain ⟨_, _, _, _, _, _, _, _, _, rfl, _⟩ := h; rfl) rfl fun f cdv A outer s H E cz qs r os h => ?_
  obtain ⟨rw', n, sec, S0, E0, h1, h2, h3, h4, rfl, rfl, rfl⟩ := h
  by_cases hw : rw'.word = wHead
  · have t0 : decide (rw'.word = wHead) = true := decide_eq_true hw
    by_cases hm : rw'.name ∈ S0
    · have e : lookT rw' sec S0 E0 = .bad wTwice := by
        unfold lookT
        rw [if_pos hw, if_pos hm]
      rw [e]
      exact ⟨_, if_t (eqs (y := wHead) rfl (de_fld R.cl R.nw (va 0 rfl) (by rfl)) de_str) t0 (if_t (dt_peek (dt_inD cz (de_fld R.cl R.nn (va 0 rfl) (by rfl)) (va 3 rfl))) (by rw [mem_mk]; exact decide_eq_true hm) (dss1 (ds_raiseF cz GF (by decide) (va 1 rfl) (cs (y := wTwice) rfl))) rfl) rfl, .exc ⟨_, _, rfl, rfl, _, _, rfl, rfl, rfl⟩⟩
    · have tm : decide (mk rw'.name ∈ S0.map mk) = false := by rw [mem_mk]; exact decide_eq_false hm
      by_cases hc : ((aboveL rw'.name).any fun q => decide (q ∈ E0)) = true
      · have e : lookT rw' sec S0 E0 = .bad wBoth := by
          unfold lookT
          rw [if_pos hw, if_neg hm, if_pos hc]
        rw [e]
        exact ⟨_, if_t (eqs (y := wHead) rfl (de_fld R.cl R.nw (va 0 rfl) (by rfl)) de_str) t0 (if_n (dt_peek (dt_inD cz (de_fld R.cl R.nn (va 0 rfl) (by rfl)) (va 3 rfl))) tm
          (if_t (tb (de_peek (de_callV (r := .ret (.bl ((aboveL rw'.name).any fun q => decide (q ∈ E0)))) cz GA (by decide) (da_cons (va 3 rfl) (da_cons (va 4 rfl) (da_cons (de_fld R.cl R.nn (va 0 rfl) (by rfl)) (da_cons de_non da_nil)))) ⟨_, _, _, E0, rw'.name, by omega, rfl, rfl, rfl⟩) rfl)) hc (dss1 (ds_raiseF cz GF (by decide) (va 1 rfl) (cs (y := wBoth) rfl))) rfl)) rfl, .exc ⟨_, _, rfl, rfl, _, _, rfl, rfl, rfl⟩⟩
      · have hc' : ((aboveL rw'.name).any fun q => decide (q ∈ E0)) = false := by simpa using hc
        have e : lookT rw' sec S0 E0 = .ok (some rw'.name) (S0 ++ [rw'.name]) E0 := by
          unfold lookT
          rw [if_pos hw, if_neg hm, if_neg hc]
        rw [e]
        exact ⟨_, if_t (eqs (y := wHead) rfl (de_fld R.cl R.nw (va 0 rfl) (by rfl)) de_str) t0 (if_n (dt_peek (dt_inD cz (de_fld R.cl R.nn (va 0 rfl) (by rfl)) (va 3 rfl))) tm
          (if_n (tb (de_peek (de_callV (r := .ret (.bl ((aboveL rw'.name).any fun q => decide (q ∈ E0)))) cz GA (by decide) (da_cons (va 3 rfl) (da_cons (va 4 rfl) (da_cons (de_fld R.cl R.nn (va 0 rfl) (by rfl)) (da_cons de_non da_nil)))) ⟨_, _, _, E0, rw'.name, by omega, rfl, rfl, rfl⟩) rfl)) hc'
          (seq (dputB 3 cz de_bl (de_fld R.cl R.nn (va 0 rfl) (by rfl)) rfl rfl hm (by omega)) (ret (de_fld R.cl R.nn (va 0 rfl) (by rfl)))))) rfl, .ret ⟨_, _, rfl, rfl, _, _, rfl, rfl, rfl⟩⟩
  · have t0 : decide (rw'.word = wHead) = false := decide_eq_false hw
    have t0d : DT (Xd Pr wo K mg base nLt "look_twice" sLt f cdv A outer s H E) (Wd0 E) (ifT (bodyAt sLt 0)) [.v (rw'.d CR), .v (.int (n : Int)), .v (secD sec), .own (some 0) (dicB S0), .own (some 1) (dicB E0), .no] (decide (rw'.word = wHead)) [.v (rw'.d CR), .v (.int (n : Int)), .v (secD sec), .own (some 0) (dicB S0), .own (some 1) (dicB E0), .no] :=
      eqs (y := wHead) rfl (de_fld R.cl R.nw (va 0 rfl) (by rfl)) de_str
    by_cases hE : rw'.word = wEntry
    · cases sec with
      | none =>
        have e : lookT rw' none S0 E0 = .ok none S0 E0 := by
          unfold lookT
          rw [if_neg hw, if_pos hE]
        rw [e]
        exact ⟨_, if_n t0d t0 (if_n (dt_w (and_t (eqs (y := wEntry) rfl (de_fld R.cl R.nw (va 0 rfl) (by rfl)) de_str) (decide_eq_true hE) (dw_and1 (dt_notN (va 2 rfl))))) rfl (ret (va 2 rfl))), .ret ⟨_, _, rfl, rfl, _, _, rfl, rfl, rfl⟩⟩
      | some s' =>
        have hs' := h2 s' rfl
        have hu := under_len s' rw'.name
        let p := underL s' rw'.name
        have hp : p.length ≤ 50000 := by show (underL s' rw'.name).length ≤ _; omega
        have tE : DT (Xd Pr wo K mg base nLt "look_twice" sLt f cdv A outer s H E) (Wd0 E) (ifT (bodyAt sLt 1)) [.v (rw'.d CR), .v (.int (n : Int)), .v (sD s'), .own (some 0) (dicB S0), .own (some 1) (dicB E0), .no] true [.v (rw'.d CR), .v (.int (n : Int)), .v (sD s'), .own (some 0) (dicB S0), .own (some 1) (dicB E0), .no] :=
          dt_w (and_t (eqs (y := wEntry) rfl (de_fld R.cl R.nw (va 0 rfl) (by rfl)) de_str) (decide_eq_true hE) (dw_and1 (to (dt_notN (d1 := sD s') (va 2 rfl)) rfl)))
        have st1 : ∀ {o : Oc}, DSs (Xd Pr wo K mg base nLt "look_twice" sLt f cdv A outer s H E) (Wd0 E) ((ifB (bodyAt sLt 1)).drop 1) [.v (rw'.d CR), .v (.int (n : Int)), .v (sD s'), .own (some 0) (dicB S0), .own (some 1) (dicB E0), .v (sD p)] o →
            DSs (Xd Pr wo K mg base nLt "look_twice" sLt f cdv A outer s H E) (Wd0 E) (ifB (bodyAt sLt 1)) [.v (rw'.d CR), .v (.int (n : Int)), .v (sD s'), .own (some 0) (dicB S0), .own (some 1) (dicB E0), .no] o := fun h =>
          seq (st 5 cz (de_callV (r := .ret (sD p)) cz GU (by decide) (da_cons (va 2 rfl) (da_cons (de_fld R.cl R.nn (va 0 rfl) (by rfl)) da_nil)) ⟨s', rw'.name, by omega, rfl, rfl, rfl⟩)) h
        by_cases hm : p ∈ E0
        · have e : lookT rw' (some s') S0 E0 = .bad wTwice := by
            unfold lookT
            rw [if_neg hw, if_pos hE]
            exact if_pos hm
          rw [e]
          exact ⟨_, if_n t0d t0 (if_t tE rfl (st1 (if_t (dt_peek (dt_inD cz (va 5 rfl) (va 4 rfl))) (by rw [mem_mk]; exact decide_eq_true hm) (dss1 (ds_raiseF cz GF (by decide) (va 1 rfl) (cs (y := wTwice) rfl))) rfl)) rfl), .exc ⟨_, _, rfl, rfl, _, _, rfl, rfl, rfl⟩⟩
        · have tm : decide (mk p ∈ E0.map mk) = false := by rw [mem_mk]; exact decide_eq_false hm
          by_cases hc : S0.any (dotted p) = true
          · have e : lookT rw' (some s') S0 E0 = .bad wBoth := by
              unfold lookT
              rw [if_neg hw, if_pos hE]
              show (if p ∈ E0 then _ else if S0.any (dotted p) = true then _ else _) = _
              rw [if_neg hm, if_pos hc]
            rw [e]
            exact ⟨_, if_n t0d t0 (if_t tE rfl (st1 (if_n (dt_peek (dt_inD cz (va 5 rfl) (va 4 rfl))) tm (if_t (tb (de_peek (de_callV (r := .ret (.bl (S0.any (dotted p)))) cz GB (by decide) (da_cons (va 3 rfl) (da_cons (va 4 rfl) (da_cons (va 2 rfl) (da_cons (va 5 rfl) da_nil)))) ⟨_, _, _, S0, s', p, by omega, hp, rfl, rfl, rfl⟩) rfl)) hc (dss1 (ds_raiseF cz GF (by decide) (va 1 rfl) (cs (y := wBoth) rfl))) rfl))) rfl), .exc ⟨_, _, rfl, rfl, _, _, rfl, rfl, rfl⟩⟩
          · have hc' : S0.any (dotted p) = false := by simpa using hc
            have e : lookT rw' (some s') S0 E0 = .ok (some s') S0 (E0 ++ [p]) := by
              unfold lookT
              rw [if_neg hw, if_pos hE]
              show (if p ∈ E0 then _ else if S0.any (dotted p) = true then _ else _) = _
              rw [if_neg hm, if_neg hc]
            rw [e]
            exact ⟨_, if_n t0d t0 (if_t tE rfl (st1 (if_n (dt_peek (dt_inD cz (va 5 rfl) (va 4 rfl))) tm (if_n (tb (de_peek (de_callV (r := .ret (.bl (S0.any (dotted p)))) cz GB (by decide) (da_cons (va 3 rfl) (da_cons (va 4 rfl) (da_cons (va 2 rfl) (da_cons (va 5 rfl) da_nil)))) ⟨_, _, _, S0, s', p, by omega, hp, rfl, rfl, rfl⟩) rfl)) hc'
              (dss1 (dputB 4 cz de_bl (va 5 rfl) rfl rfl hm (by omega)))))) (ret (va 2 rfl))), .ret ⟨_, _, rfl, rfl, _, _, rfl, rfl, rfl⟩⟩
    · have e : lookT rw' sec S0 E0 = .ok sec S0 E0 := by
        unfold lookT
        rw [if_neg hw, if_neg hE]
      rw [e]
      exact ⟨_, if_n t0d t0 (if_n (dt_w (and_f (eqs (y := wEntry) rfl (de_fld R.cl R.nw (va 0 rfl) (by rfl)) de_str) (decide_eq_false hE))) rfl (ret (va 2 rfl))), .ret ⟨_, _, rfl, rfl, _, _, rfl, rfl, rfl⟩⟩
end
end K01


set_option Elab.async false
set_option linter.all false
set_option maxRecDepth 100000
set_option maxHeartbeats 4000000
namespace K01
open PySem PySem.Spec PyProof.Rows L2 Dt
/-! ### books.py: walk -/
structure WS where
  rows : List RowM
  wrong : List (Nat × List Nat)
  S : List (List Nat)
  E : List (List Nat)
  sec : Option (List Nat)
  k : Nat
def isHd (l : List Nat) : Bool := decide ((stripB l).take 1 = [91])
def manyF (ls : List (List Nat)) (k j : Nat) (w : List Nat) : Nat := if w = wSign ∧ k < j then 1 + j - k else if w = wOpen then ls.length - k else 1
def badW (l : List Nat) (st : WS) (j : Nat) (w : List Nat) (m : Nat) : WS := { st with wrong := st.wrong ++ [(j, w)], sec := if isHd l = true then none else st.sec, k := st.k + m }
def stepW (ls : List (List Nat)) (l : List Nat) (st : WS) : WS :=
  match rowR ls l st.k with
  | .flt j w => badW l st j w (manyF ls st.k j w)
  | .row r => match lookT r st.sec st.S st.E with
    | .ok sec S E => ⟨st.rows ++ [r], st.wrong, S, E, sec, st.k + r.lines.length⟩
    | .bad w => badW l st st.k w r.lines.length
def runW (ls : List (List Nat)) : Nat → WS → WS
  | 0, u => u
  | f + 1, u => match ls[u.k]? with
    | none => u
    | some l => runW ls f (stepW ls l u)
def ws0 : WS := ⟨[], [], [], [], some [], 0⟩
def walkM (l : List Nat) : WS := runW (splitC 10 l) (splitC 10 l).length ws0
def fltD (p : Nat × List Nat) : D := .tup [.int (p.1 : Int), sD p.2]
/-- no text over rows is too long -/
def noLong (ls : List (List Nat)) : Prop := ∀ (n : Nat) (l : List Nat) (j : Nat), ls[n]? = some l → rowR ls l n ≠ .flt j wLong
/-! #### facts of the mirror -/
theorem path_len {p : List Nat} (h : isPathL p = true) : p.length ≤ 64 := by
  unfold isPathL at h
  rw [Bool.and_eq_true] at h
  have h1 := of_decide_eq_true h.1
  have h2 : ∀ q ∈ splitC 46 p, q.length ≤ 12 := fun q hq => by
    have := List.all_eq_true.mp h.2 q hq
    unfold isNameL at this
    rw [Bool.and_eq_true, Bool.and_eq_true] at this
    exact of_decide_eq_true this.1.2
  have h3 := split_sum 46 p
  have h4 : ∀ qs : List (List Nat), (∀ q ∈ qs, q.length ≤ 12) → (qs.map List.length).sum ≤ qs.length * 12 := by
    intro qs
    induction qs with
    | nil => intro _; simp
    | cons q qs ih =>
      intro h2
      have := h2 q List.mem_cons_self
      have := ih fun x hx => h2 x (List.mem_cons_of_mem _ hx)
      rw [List.map_cons, List.sum_cons, List.length_cons]
      omega
  have := h4 _ h2
  omega
theorem name_len {p : List Nat} (h : isNameL p = true) : p.length ≤ 12 := by
  unfold isNameL at h
  rw [Bool.and_eq_true, Bool.and_eq_true] at h
  exact of_decide_eq_true h.1.2
theorem scan_ge : ∀ (rs : List (List Nat)) (k j : Nat), longScan rs k = .cls j ∨ longScan rs k = .sgn j → k ≤ j ∧ j < k + rs.length
  | [], k, j, h => by rcases h with h | h <;> cases h
  | x :: r, k, j, h => by
    unfold longScan at h
    rw [List.length_cons]
    split at h
    · rcases h with h | h
      · cases h; omega
      · cases h
    · split at h
      · have := scan_ge r (k + 1) j h
        omega
      · rcases h with h | h
        · cases h
        · cases h; omega
structure RowOk (ls : List (List Nat)) (n : Nat) (r : RowM) : Prop where
  lines : 1 ≤ r.lines.length
  name : r.name.length ≤ 64
theorem ent_name {l : List Nat} (h : entBad l = false) : (nmOf (skipB l)).length ≤ 12 := by
  unfold entBad at h
  rw [Bool.or_eq_false_iff] at h
  exact name_len (by simpa using h.1)
theorem long_ok {r0 r : RowM} {ls : List (List Nat)} {l : List Nat} {n a : Nat} (hn : n < ls.length) (h : longR r0 ls l n a = .row r) : 1 ≤ r.lines.length ∧ r.name = r0.name := by
  unfold longR at h
  split at h
  · cases q : longScan (ls.drop (n + 1)) (n + 1) with
    | opn => rw [q] at h; cases h
    | sgn j => rw [q] at h; cases h
    | cls j =>
      rw [q] at h
      have hj := scan_ge _ _ _ (.inl q)
      have h : (if 200 < (TL.joinL [10] ((ls.drop (n + 1)).take (j - (n + 1)))).length then RR.flt n wLong else .row { r0 with lines := (ls.drop n).take (j + 1 - n), value := sD (TL.joinL [10] ((ls.drop (n + 1)).take (j - (n + 1)))) }) = .row r := h
      split at h
      · cases h
      · cases h
        refine ⟨?_, rfl⟩
        show 1 ≤ ((ls.drop n).take (j + 1 - n)).length
        rw [List.length_take, List.length_drop]
        omega
  · cases h
theorem row_ok {ls : List (List Nat)} {l : List Nat} {n : Nat} {r : RowM} (hn : ls[n]? = some l) (h : rowR ls l n = .row r) : RowOk ls n r := by
  have hlt := (List.getElem?_eq_some_iff.mp hn).1
  unfold rowR at h
  split at h
  · split at h
    · cases h
      exact ⟨Nat.le_refl 1, Nat.zero_le _⟩
    · split at h
      · unfold headR at h
        split at h
        · cases h
        · rename_i hb
          split at h
          · cases h
            refine ⟨Nat.le_refl 1, path_len ?_⟩
            unfold headBad at hb
            simp only [Bool.or_eq_true, not_or] at hb
            simpa using hb.1
          · cases h
      · unfold entR at h
        split at h
        · cases h
        · rename_i hb
          have hb : entBad l = false := by simpa using hb
          have hm := ent_name hb
          split at h
          · obtain ⟨h1, h2⟩ := long_ok hlt h
            exact ⟨h1, by rw [h2]; show (nmOf (skipB l)).length ≤ 64; omega⟩
          · cases q : valueS (valRest l) with
            | none => rw [q] at h; cases h
            | some p =>
              obtain ⟨d, t⟩ := p
              rw [q] at h
              unfold entVal at h
              dsimp only at h
              split at h
              · cases h
                exact ⟨Nat.le_refl 1, by show (nmOf (skipB l)).length ≤ 64; omega⟩
              · cases h
  · cases h
structure WOk (st : WS) : Prop where
  r : st.rows.length ≤ st.k
  w : st.wrong.length ≤ st.k
  s : st.S.length ≤ st.k
  e : st.E.length ≤ st.k
  sec : ∀ s, st.sec = some s → s.length ≤ 64
theorem many_pos {ls : List (List Nat)} {k j : Nat} {w : List Nat} (hk : k < ls.length) : 1 ≤ manyF ls k j w := by
  unfold manyF
  split
  · omega
  · split
    · omega
    · exact Nat.le_refl 1
theorem bad_ok {l : List Nat} {st : WS} {j m : Nat} {w : List Nat} (h : WOk st) (hm : 1 ≤ m) : WOk (badW l st j w m) := by
  refine ⟨Nat.le_trans h.r (Nat.le_add_right _ _), ?_, Nat.le_trans h.s (Nat.le_add_right _ _), Nat.le_trans h.e (Nat.le_add_right _ _), fun s hs => ?_⟩
  · show (st.wrong ++ [(j, w)]).length ≤ st.k + m
    rw [List.length_append, List.length_singleton]
    have := h.w
    omega
  · have hs : (if isHd l = true then none else st.sec) = some s := hs
    split at hs
    · cases hs
    · exact h.sec s hs
theorem look_ok {r : RowM} {sec sec' : Option (List Nat)} {S E S' E' : List (List Nat)} (h : lookT r sec S E = .ok sec' S' E') : S'.length ≤ S.length + 1 ∧ E'.length ≤ E.length + 1 ∧ (sec' = sec ∨ sec' = some r.name) := by
  unfold lookT at h
  split at h
  · split at h
    · cases h
    · split at h
      · cases h
      · cases h
        exact ⟨by rw [List.length_append]; exact Nat.le_refl _, Nat.le_add_right _ _, .inr rfl⟩
  · split at h
    · cases sec with
      | none => cases h; exact ⟨Nat.le_add_right _ _, Nat.le_add_right _ _, .inl rfl⟩
      | some s =>
        dsimp only at h
        split at h
        · cases h
        · split at h
          · cases h
          · cases h
            exact ⟨Nat.le_add_right _ _, by rw [List.length_append]; exact Nat.le_refl _, .inl rfl⟩
    · cases h
      exact ⟨Nat.le_add_right _ _, Nat.le_add_right _ _, .inl rfl⟩
theorem step_ok {ls : List (List Nat)} {l : List Nat} {st : WS} (hn : ls[st.k]? = some l) (h : WOk st) : WOk (stepW ls l st) ∧ st.k < (stepW ls l st).k := by
  have hlt := (List.getElem?_eq_some_iff.mp hn).1
  unfold stepW
  cases q : rowR ls l st.k with
  | flt j w =>
    have hm := many_pos (ls := ls) (j := j) (w := w) hlt
    refine ⟨bad_ok h hm, ?_⟩
    show st.k < st.k + manyF ls st.k j w
    omega
  | row r =>
    have hr := row_ok hn q
    dsimp only
    cases q2 : lookT r st.sec st.S st.E with
    | bad w =>
      refine ⟨bad_ok h hr.lines, ?_⟩
      show st.k < st.k + r.lines.length
      have := hr.lines
      omega
    | ok sec S E =>
      obtain ⟨h1, h2, h3⟩ := look_ok q2
      have hl := hr.lines
      have k1 := h.r
      have k2 := h.w
      have k3 := h.s
      have k4 := h.e
      refine ⟨⟨?_, ?_, ?_, ?_, fun s hs => ?_⟩, by show st.k < st.k + r.lines.length; omega⟩
      · show (st.rows ++ [r]).length ≤ st.k + r.lines.length
        rw [List.length_append, List.length_singleton]
        omega
      · show st.wrong.length ≤ st.k + r.lines.length
        omega
      · show S.length ≤ st.k + r.lines.length
        omega
      · show E.length ≤ st.k + r.lines.length
        omega
      · have hs : sec = some s := hs
        rcases h3 with h3 | h3
        · exact h.sec s (h3.symm.trans hs)
        · rw [h3] at hs
          cases hs
          exact hr.name
end K01


set_option Elab.async false
set_option linter.all false
set_option maxRecDepth 100000
set_option maxHeartbeats 4000000
namespace K01
open PySem PySem.Spec PyProof.Rows L2 Dt
structure FltX (K : PySem.W.Frag) (CF : Addr) : Prop where
  xfc : XfC K CF
  nrow : PySem.W.findIn K (.ref CF) "row" = some none
  nword : PySem.W.findIn K (.ref CF) "word" = some none
  exm : PySem.W.exmOne K (.ref CF) (.ref CF) = some true
section
variable {X : Cx} {W : WX} {ρ ρ1 ρ2 : List S} {pos : Pos} {a b : Expr} {i j : Nat}
theorem adN (ha : DE X W a ρ (.val (.int (i : Int)) ρ1)) (hb : DE X W b ρ1 (.val (.int (j : Int)) ρ2)) : DE X W (.BinOp a .Add b pos) ρ (.val (.int ((i + j : Nat) : Int)) ρ2) := DE.cast (de_add ha hb) (congrArg D.int (by omega))
end
section
variable {Pr : Program} {wo : World} {K : PySem.W.Frag} {mg : Str → Option Value} {base : Heap} {CR CF : Addr}
abbrev sWk : Stmt := topS 51
abbrev nWk : List Str := ["text", "lines", "rows", "wrong", "sections", "entries", "section", "k", "many", "row", "e"]
theorem sc_wk : FnScope nWk ["text"] (defScope sWk) := ⟨rfl, rfl, rfl, by decide +kernel, rfl, by decide +kernel, by decide +kernel⟩
def tryT (st : Stmt) : List Stmt := match st with
  | .Try b _ _ _ _ => b
  | _ => []
def tryS (st : Stmt) : List Stmt := match st with
  | .Try _ [.ExceptHandler _ _ b _] _ _ _ => b
  | _ => []
abbrev sTry : Stmt := (wB (bodyAt sWk 7)).getD 1 (.Pass ⟨0, 0, 0, 0⟩)
/-- the slots of walk's frame -/
abbrev wkS (CR : Addr) (l : List Nat) (ls : List (List Nat)) (rows : List RowM) (wrong : List (Nat × List Nat)) (S0 E0 : List (List Nat)) (sec : D) (k : Nat) (m r e : Dt.S) : List Dt.S :=
  [.v (sD l), .v (lsD ls), .own none (.lst (rows.map (RowM.d CR))), .own none (.lst (wrong.map fltD)), .own none (dicB S0), .own none (dicB E0), .v sec, .v (.int (k : Int)), m, r, e]
def manyG (ls : List (List Nat)) (k j : Nat) (w : List Nat) (m0 : Nat) : Nat := if w = wSign ∧ k < j then 1 + j - k else if w = wOpen then ls.length - k else m0
theorem suite_ok {f : Addr} {cdv : Value} {A : Around} {outer : List Env} {s : Shared} {H : Hp} {E : XK} {kk : Nat} (cz : Cz (Xd Pr wo K mg base nWk "walk" sWk f cdv A outer s H E) (Wd0 E) kk) (B : Blts mg) (XF : FltX K CF) {a0 dd : Addr} {oe : Obj} {pn : List (Addr × Obj)} (hz : Zc (.ref CF) (some dd) oe) (hd : ∃ vs, oe.data = .fields vs)
    {l ll : List Nat} {ls : List (List Nat)} {rows : List RowM} {wrong : List (Nat × List Nat)} {S0 E0 : List (List Nat)} {sec : Option (List Nat)} {k j m0 : Nat} {w : List Nat} {rr : Dt.S} (hs : small ls) (hn : ls[k]? = some ll) (hw : wrong.length ≤ 50000) (hl : w ≠ wLong) :
    ∃ ρ3, DSs ((Xd Pr wo K mg base nWk "walk" sWk f cdv A outer s H E).suite a0 ((a0, oe) :: pn)) W0 (tryS sTry) (wkS CR l ls rows wrong S0 E0 (secD sec) k (.v (.int (m0 : Int))) rr (.v (.exn a0 dd ["word", "row"] [sD w, .int (j : Int)]))) (.next ρ3) ∧
      ρ3.set 10 .no = wkS CR l ls rows (wrong ++ [(j, w)]) S0 E0 (secD (if isHd ll = true then none else sec)) k (.v (.int (manyG ls k j w m0 : Int))) rr .no := by
  have hlt := (List.getElem?_eq_some_iff.mp hn).1
  have hl0 := small_at hs hn
  have hzl : ll.length ≤ 100000 := by omega
  have hsl := strip_len ll
  have lenD : lenD (lsD ls) = some ls.length := by show some (ls.map _).length = _; rw [List.length_map]
  have ea : (wrong.map fltD) ++ [fltD (j, w)] = (wrong ++ [(j, w)]).map fltD := by rw [List.map_append]; rfl
  let e9 : Dt.S := .v (.exn a0 dd ["word", "row"] [sD w, .int (j : Int)])
  let X' : Cx := (Xd Pr wo K mg base nWk "walk" sWk f cdv A outer s H E).suite a0 ((a0, oe) :: pn)
  have hN : X'.N.Nodup := cz.nd
  -- the last statement
  have s2 : ∀ sd : D, DSs X' W0 ((tryS sTry).drop 2) (wkS CR l ls rows (wrong ++ [(j, w)]) S0 E0 sd k (.v (.int (m0 : Int))) rr e9) (.next (wkS CR l ls rows (wrong ++ [(j, w)]) S0 E0 sd k (.v (.int (manyG ls k j w m0 : Int))) rr e9)) := fun sd => by
    by_cases h1 : w = wSign ∧ k < j
    · have e : manyG ls k j w m0 = 1 + j - k := if_pos h1
      rw [e]
      exact if_t (dt_w (and_t (eqs (y := wSign) rfl (de_xf XF.xfc XF.nword hz hd (va 10 rfl) (by rfl)) de_str) (decide_eq_true h1.1) (dw_and1 (dt_cmpI rfl (de_xf XF.xfc XF.nrow hz hd (va 10 rfl) (by rfl)) (va 7 rfl))))) (decide_eq_true (by have := h1.2; omega))
        (dss1 (ds_set (i := 8) (d := .int ((1 + j - k : Nat) : Int)) hN rfl (.inl rfl) (DE.cast (de_sub (de_add de_int (de_xf XF.xfc XF.nrow hz hd (va 10 rfl) (by rfl))) (va 7 rfl)) (congrArg D.int (by have := h1.2; omega))))) dss_nil
    · have t1 : DT X' W0 (ifT ((tryS sTry).getD 2 (.Pass ⟨0, 0, 0, 0⟩))) (wkS CR l ls rows (wrong ++ [(j, w)]) S0 E0 sd k (.v (.int (m0 : Int))) rr e9) false (wkS CR l ls rows (wrong ++ [(j, w)]) S0 E0 sd k (.v (.int (m0 : Int))) rr e9) := by
        by_cases h2 : w = wSign
        · have h3 : ¬ k < j := fun z => h1 ⟨h2, z⟩
          exact dt_w (and_t (eqs (y := wSign) rfl (de_xf XF.xfc XF.nword hz hd (va 10 rfl) (by rfl)) de_str) (decide_eq_true h2) (dw_and1 (to (dt_cmpI (op := .Gt) (i := (j : Int)) (j := (k : Int)) rfl (de_xf XF.xfc XF.nrow hz hd (va 10 rfl) (by rfl)) (va 7 rfl)) (decide_eq_false (by omega)))))
        · exact dt_w (and_f (eqs (y := wSign) rfl (de_xf XF.xfc XF.nword hz hd (va 10 rfl) (by rfl)) de_str) (decide_eq_false h2))
      by_cases h2 : w = wOpen
      · have e : manyG ls k j w m0 = ls.length - k := by
          unfold manyG
          rw [if_neg h1, if_pos h2]
        rw [e]
        exact if_f t1 rfl (if_t (eqs (y := wOpen) rfl (de_xf XF.xfc XF.nword hz hd (va 10 rfl) (by rfl)) de_str) (decide_eq_true h2)
          (dss1 (ds_set (i := 8) (d := .int ((ls.length - k : Nat) : Int)) hN rfl (.inl rfl) (DE.cast (de_sub (de_len (b_len B.len) (db_of (va 1 rfl)) lenD) (va 7 rfl)) (congrArg D.int (by omega))))) dss_nil) dss_nil
      · have e : manyG ls k j w m0 = m0 := by
          unfold manyG
          rw [if_neg h1, if_neg h2]
        rw [e]
        exact if_f t1 rfl (if_f (eqs (y := wOpen) rfl (de_xf XF.xfc XF.nword hz hd (va 10 rfl) (by rfl)) de_str) (decide_eq_false h2)
          (if_n (eqs (y := wLong) rfl (de_xf XF.xfc XF.nword hz hd (va 10 rfl) (by rfl)) de_str) (decide_eq_false hl) dss_nil) dss_nil) dss_nil
  have s0 : ∀ {o : Oc}, DSs X' W0 ((tryS sTry).drop 1) (wkS CR l ls rows (wrong ++ [(j, w)]) S0 E0 (secD sec) k (.v (.int (m0 : Int))) rr e9) o → DSs X' W0 (tryS sTry) (wkS CR l ls rows wrong S0 E0 (secD sec) k (.v (.int (m0 : Int))) rr e9) o := fun {o} h => by
    have h' : DSs X' W0 ((tryS sTry).drop 1) [.v (sD l), .v (lsD ls), .own none (.lst (rows.map (RowM.d CR))), .own none (.lst ((wrong.map fltD) ++ [fltD (j, w)])), .own none (dicB S0), .own none (dicB E0), .v (secD sec), .v (.int (k : Int)), .v (.int (m0 : Int)), rr, e9] o := by
      rw [ea]
      exact h
    exact seq (ds_append (d := fltD (j, w)) (i := 3) rfl (.inl rfl) (de_tup (da_cons (de_xf XF.xfc XF.nrow hz hd (va 10 rfl) (by rfl)) (da_cons (de_xf XF.xfc XF.nword hz hd (va 10 rfl) (by rfl)) da_nil)) (by show 2 ≤ sizeLine; decide)) rfl ⟨_, _, rfl⟩ (by rw [List.length_map]; exact Nat.lt_of_le_of_lt hw (by decide))) h'
  have t1 : DT X' W0 (ifT ((tryS sTry).getD 1 (.Pass ⟨0, 0, 0, 0⟩))) (wkS CR l ls rows (wrong ++ [(j, w)]) S0 E0 (secD sec) k (.v (.int (m0 : Int))) rr e9) (isHd ll) (wkS CR l ls rows (wrong ++ [(j, w)]) S0 E0 (secD sec) k (.v (.int (m0 : Int))) rr e9) :=
    eqs (y := [91]) rfl (slt (j := 1) (by omega) (de_stripC rfl hzl (lix hn (va 1 rfl) (va 7 rfl))) de_int) de_str
  by_cases hh : isHd ll = true
  · rw [if_pos hh]
    exact ⟨_, s0 (if_t t1 hh (dss1 (ds_set (i := 6) hN rfl (.inl rfl) de_non)) (s2 .non)), rfl⟩
  · have hh' : isHd ll = false := by simpa using hh
    rw [if_neg hh]
    exact ⟨_, s0 (if_n t1 hh' (s2 (secD sec))), rfl⟩
end
end K01


set_option Elab.async false
set_option linter.all false
set_option maxRecDepth 100000
set_option maxHeartbeats 4000000
namespace K01
open PySem PySem.Spec PyProof.Rows L2 Dt
section
variable {Pr : Program} {wo : World} {K : PySem.W.Frag} {mg : Str → Option Value} {base : Heap} {CR CF : Addr}
def c_wk (CR : Addr) : Con := fun ps r os => ∃ l : List Nat, l.length ≤ 40000 ∧ noLong (splitC 10 l) ∧ ps = [.v (sD l)] ∧ r = .ret (.tup [.lst ((walkM l).rows.map (RowM.d CR)), .lst ((walkM l).wrong.map fltD)]) ∧ os = []
theorem lookT_bad {r : RowM} {sec : Option (List Nat)} {S0 E0 : List (List Nat)} {w : List Nat} (h : lookT r sec S0 E0 = .bad w) : w = wTwice ∨ w = wBoth := by
  unfold lookT at h
  split at h
  · split at h
    · cases h; exact .inl rfl
    · split at h
      · cases h; exact .inr rfl
      · cases h
  · split at h
    · cases sec with
      | none => cases h
      | some s =>
        dsimp only at h
        split at h
        · cases h; exact .inl rfl
        · split at h
          · cases h; exact .inr rfl
          · cases h
    · cases h
theorem ok_wk (F : DefAt K mg "walk" sWk ["text"]) (B : Blts mg) (R : RowAt K mg CR) (GF : FltAt Pr wo K mg base "Fault" CF) (XF : FltX K CF) (GRow : FnAt Pr wo K mg base "row_at" 5 ["lines", "number"] (c_row CR CF))
    (GLt : FnAt Pr wo K mg base "look_twice" 3 ["row", "number", "section", "sections", "entries"] (c_lt CR CF)) : FnAt Pr wo K mg base "walk" 6 ["text"] (c_wk CR) := by
  refine fnAt (n := 10) F sc_wk (fun qs r os h => by obtain ⟨l, _, _, rfl, _⟩ := h; rfl) rfl fun f cdv A outer s H E cz qs r os h => ?_
  obtain ⟨l, hl, hnl, rfl, rfl, rfl⟩ := h
  generalize els : splitC 10 l = ls at hnl
  have hs : small ls := by
    unfold small
    rw [← els, split_sum]
    omega
  have hslen : ls.length ≤ 50000 := by
    unfold small at hs
    omega
  have lenD : lenD (lsD ls) = some ls.length := by show some (ls.map _).length = _; rw [List.length_map]
  let X : Cx := Xd Pr wo K mg base nWk "walk" sWk f cdv A outer s H E
  have key : ∀ (fu : Nat) (u : WS) (m0 r0 : Dt.S), WOk u → ls.length ≤ u.k + fu → ∃ n m1 r1, WhR X (Wd0 E) (wT (bodyAt sWk 7)) (wB (bodyAt sWk 7)) n
      (wkS CR l ls u.rows u.wrong u.S u.E (secD u.sec) u.k m0 r0 .no) (.next (wkS CR l ls (runW ls fu u).rows (runW ls fu u).wrong (runW ls fu u).S (runW ls fu u).E (secD (runW ls fu u).sec) (runW ls fu u).k m1 r1 .no)) := by
    intro fu
    induction fu with
    | zero =>
      intro u m0 r0 hu hk
      exact ⟨0, m0, r0, .done (to (dt_cmpI (op := .Lt) (i := (u.k : Int)) (j := (ls.length : Int)) rfl (va 7 rfl) (de_len (b_len B.len) (db_of (va 1 rfl)) lenD)) (decide_eq_false (by omega)))⟩
    | succ fu ih =>
      intro u m0 r0 hu hk
      unfold runW
      cases hn : ls[u.k]? with
      | none =>
        have hge := List.getElem?_eq_none_iff.mp hn
        exact ⟨0, m0, r0, .done (to (dt_cmpI (op := .Lt) (i := (u.k : Int)) (j := (ls.length : Int)) rfl (va 7 rfl) (de_len (b_len B.len) (db_of (va 1 rfl)) lenD)) (decide_eq_false (by omega)))⟩
      | some ll =>
        have hlt := (List.getElem?_eq_some_iff.mp hn).1
        obtain ⟨hok, hgt⟩ := step_ok hn hu
        have tst : DT X (Wd0 E) (wT (bodyAt sWk 7)) (wkS CR l ls u.rows u.wrong u.S u.E (secD u.sec) u.k m0 r0 .no) true (wkS CR l ls u.rows u.wrong u.S u.E (secD u.sec) u.k m0 r0 .no) :=
          to (dt_cmpI (op := .Lt) (i := (u.k : Int)) (j := (ls.length : Int)) rfl (va 7 rfl) (de_len (b_len B.len) (db_of (va 1 rfl)) lenD)) (decide_eq_true (by omega))
        have k1 := hu.r
        have k2 := hu.w
        have k3 := hu.s
        have k4 := hu.e
        have hnx : Names X "Fault" (.ref CF) := ⟨rfl, by decide, .inl GF.mgC⟩
        -- the try
        have tr : ∃ m1 r1, DS X (Wd0 E) sTry (wkS CR l ls u.rows u.wrong u.S u.E (secD u.sec) u.k (.v (.int (1 : Nat))) r0 .no) (.next (wkS CR l ls (stepW ls ll u).rows (stepW ls ll u).wrong (stepW ls ll u).S (stepW ls ll u).E (secD (stepW ls ll u).sec) u.k (.v (.int (m1 : Nat))) r1 .no)) ∧ (stepW ls ll u).k = u.k + m1 := by
          unfold stepW
          cases q : rowR ls ll u.k with
          | flt j w =>
            refine ⟨manyF ls u.k j w, r0, ?_, rfl⟩
            refine ds_tryF (i := 10) (ρ1 := wkS CR l ls u.rows u.wrong u.S u.E (secD u.sec) u.k (.v (.int (1 : Nat))) r0 .no) (ns := ["word", "row"]) (ds := [sD w, .int (j : Int)]) cz rfl rfl rfl rfl hnx (fun W' pn xe tk po => ?_) XF.exm (fun a0 dd oe pn hz hd => ?_)
            · exact dss (ds_setX (Cz.try_ cz tk po).nd (i := 9) rfl (.inl rfl) (de_callV (r := .exc (fltX CF j w)) (Cz.try_ cz tk po) GRow (by decide) (da_cons (va 1 rfl) (da_cons (va 7 rfl) da_nil)) ⟨ls, ll, u.k, hs, hn, rfl, by rw [q]; rfl, rfl⟩)) rfl
            · exact suite_ok (m0 := 1) cz B XF hz hd hs hn (by omega) fun z => hnl u.k ll j hn (by rw [q, z])
          | row rw' =>
            have hr := row_ok hn q
            have lenR : ∀ {ρ : List Dt.S}, Dt.lenD (lsD rw'.lines) = some rw'.lines.length := fun {_} => by show some (rw'.lines.map _).length = _; rw [List.length_map]
            dsimp only
            cases q2 : lookT rw' u.sec u.S u.E with
            | ok sec' S' E' =>
              refine ⟨rw'.lines.length, .v (rw'.d CR), ?_, rfl⟩
              have ea : u.rows.map (RowM.d CR) ++ [rw'.d CR] = (u.rows ++ [rw']).map (RowM.d CR) := by rw [List.map_append]; rfl
              show DS X (Wd0 E) sTry _ (.next [.v (sD l), .v (lsD ls), .own none (.lst ((u.rows ++ [rw']).map (RowM.d CR))), .own none (.lst (u.wrong.map fltD)), .own none (dicB S'), .own none (dicB E'), .v (secD sec'), .v (.int (u.k : Int)), .v (.int (rw'.lines.length : Nat)), .v (rw'.d CR), .no])
              rw [← ea]
              refine ds_tryN (i := 10) cz rfl rfl rfl rfl hnx (fun W' pn xe tk po => ?_) (fun _ _ z => by cases z)
              exact seq (st 9 (Cz.try_ cz tk po) (de_callV (r := .ret (rw'.d CR)) (Cz.try_ cz tk po) GRow (by decide) (da_cons (va 1 rfl) (da_cons (va 7 rfl) da_nil)) ⟨ls, ll, u.k, hs, hn, rfl, by rw [q]; rfl, rfl⟩))
                (seq (st 8 (Cz.try_ cz tk po) (de_len (b_len B.len) (db_of (de_fld R.cl R.nl (va 9 rfl) (by rfl))) (lenR (ρ := []))))
                (seq (st 6 (Cz.try_ cz tk po) (de_callF (r := .ret (secD sec')) (os := [dicB S', dicB E']) (Cz.try_ cz tk po) GLt (by decide) (dg_v (va 9 rfl) (dg_v (va 7 rfl) (dg_v (va 6 rfl) (dg_io (i := 4) rfl (.inl rfl) rfl (dg_io (i := 5) rfl (.inl rfl) rfl dg_nil))))) (.v (.v (.v (.io rfl (.io rfl .nil)))))
                  ⟨rw', u.k, u.sec, u.S, u.E, by have := hr.name; omega, fun s hs' => by have := hu.sec s hs'; omega, by omega, by omega, rfl, by rw [q2]; rfl, by rw [q2]; rfl⟩ (show ([4, 5] : List Nat).Nodup by decide)))
                (dss1 (ds_append (i := 2) rfl (.inl rfl) (va 9 rfl) rfl ⟨_, _, rfl⟩ (by rw [List.length_map]; exact Nat.lt_of_le_of_lt (show u.rows.length ≤ 50000 by omega) (by decide))))))
            | bad w =>
              have hw2 := lookT_bad q2
              have hng : manyG ls u.k u.k w rw'.lines.length = rw'.lines.length := by
                unfold manyG
                rw [if_neg fun z => Nat.lt_irrefl _ z.2, if_neg (by rcases hw2 with z | z <;> rw [z] <;> decide)]
              refine ⟨rw'.lines.length, .v (rw'.d CR), ?_, rfl⟩
              refine ds_tryF (i := 10) (ρ1 := wkS CR l ls u.rows u.wrong u.S u.E (secD u.sec) u.k (.v (.int (rw'.lines.length : Nat))) (.v (rw'.d CR)) .no) (ns := ["word", "row"]) (ds := [sD w, .int (u.k : Int)]) cz rfl rfl rfl rfl hnx (fun W' pn xe tk po => ?_) XF.exm (fun a0 dd oe pn hz hd => ?_)
              · exact seq (st 9 (Cz.try_ cz tk po) (de_callV (r := .ret (rw'.d CR)) (Cz.try_ cz tk po) GRow (by decide) (da_cons (va 1 rfl) (da_cons (va 7 rfl) da_nil)) ⟨ls, ll, u.k, hs, hn, rfl, by rw [q]; rfl, rfl⟩))
                  (seq (st 8 (Cz.try_ cz tk po) (de_len (b_len B.len) (db_of (de_fld R.cl R.nl (va 9 rfl) (by rfl))) (lenR (ρ := []))))
                  (dss (ds_setX (Cz.try_ cz tk po).nd (i := 6) rfl (.inl rfl) (de_callF (r := .exc (fltX CF u.k w)) (os := [dicB u.S, dicB u.E]) (Cz.try_ cz tk po) GLt (by decide) (dg_v (va 9 rfl) (dg_v (va 7 rfl) (dg_v (va 6 rfl) (dg_io (i := 4) rfl (.inl rfl) rfl (dg_io (i := 5) rfl (.inl rfl) rfl dg_nil))))) (.v (.v (.v (.io rfl (.io rfl .nil)))))
                    ⟨rw', u.k, u.sec, u.S, u.E, by have := hr.name; omega, fun s hs' => by have := hu.sec s hs'; omega, by omega, by omega, rfl, by rw [q2]; rfl, by rw [q2]; rfl⟩ (show ([4, 5] : List Nat).Nodup by decide))) rfl))
              · have z := suite_ok (a0 := a0) (pn := pn) (CR := CR) (CF := CF) (l := l) (rows := u.rows) (S0 := u.S) (E0 := u.E) (sec := u.sec) (j := u.k) (rr := .v (rw'.d CR)) (w := w) (m0 := rw'.lines.length) cz B XF hz hd hs hn (wrong := u.wrong) (by omega) (by rcases hw2 with z | z <;> rw [z] <;> decide)
                rw [hng] at z
                exact z
        obtain ⟨m1, r1, h1, h2⟩ := tr
        obtain ⟨n, m2, r2, h3⟩ := ih (stepW ls ll u) (.v (.int (m1 : Nat))) r1 hok (by omega)
        refine ⟨n + 1, m2, r2, .turn tst (seq (st 8 cz (d := .int ((1 : Nat) : Int)) de_int) (seq h1 (dss1 (st 7 cz (d := .int (((stepW ls ll u).k : Nat) : Int)) (DE.cast (adN (va 7 rfl) (va 8 rfl)) (by rw [h2])))))) h3⟩
  obtain ⟨n, m1, r1, h⟩ := key ls.length ws0 .no .no ⟨Nat.le_refl _, Nat.le_refl _, Nat.le_refl _, Nat.le_refl _, fun s hs => by cases hs; exact Nat.zero_le _⟩ (by show ls.length ≤ 0 + ls.length; omega)
  have ew : walkM l = runW ls ls.length ws0 := by
    unfold walkM
    rw [els]
  rw [ew]
  refine ⟨_, seq (st (d := lsD ls) (ρ1 := [.v (sD l), .no, .no, .no, .no, .no, .no, .no, .no, .no, .no]) 1 cz (by rw [← els]; exact de_still (de_splitC (c := 10) rfl (by decide) (by omega) (va 0 rfl)))) (seq (sto 2 cz (de_lst da_nil (by decide))) (seq (sto 3 cz (de_lst da_nil (by decide))) (seq (sto 4 cz de_dict0) (seq (sto 5 cz de_dict0) (seq (st 6 cz (cs (y := []) rfl)) (seq (st 7 cz (d := .int ((0 : Nat) : Int)) de_int)
    (seq (ds_while cz.po h) (ret (de_tup (da_cons (vfo 2 rfl) (da_cons (vfo 3 rfl) da_nil)) (by show 2 ≤ sizeLine; decide)))))))))), .ret rfl⟩
end
end K01


set_option Elab.async false
set_option linter.all false
set_option maxRecDepth 100000
set_option maxHeartbeats 1000000
/-! d.keys(), list(d.keys()); a, b = e. -/
namespace Dt
open PySem PySem.Spec PyProof.Rows L2
/-- at r: the view of the dict d by its keys -/
def keysO (r d : Addr) : HO := .ext fun h => PySem.W.KdlKeysView h r d
section
variable {X : Cx} {e : Expr} {td : TE} {apos cpos : Pos}
theorem pe_keys (he : PE X e td) (hbase : attributeBase e "keys" X.env (eval e X.env) = eval e X.env := by rfl) (hline : (apos.endLine == cpos.line) = true := by rfl) :
    PE X (.Call (.Attribute e "keys" apos) [] [] cpos) (fun σ H Q => td σ H fun x H1 => ∃ d kvs, x = .ref d ∧ Rd H1 d (.dK kvs) ∧ ∀ r, H1 r = none → Q (.ref r) (upd H1 r (keysO r d))) := by
  refine ⟨fun pins s σ H Q I h => ?_⟩
  refine wpAny_Call_method (T := "dict") (id := "dict.keys") hbase rfl hline F.plainAttrs_dict F.slot_dict_keys F.type_dict_keys (thn (he.run pins s σ H _ I h) fun u s1 ⟨x, H1, I1, rx, d, kvs, ex, hd, q⟩ => ?_)
  subst ex
  obtain rfl : u = Value.ref d := rx
  obtain ⟨z, hs, vs, kv, hm⟩ := (hd.ok I1.hok : ObjOk X.prog X.w H1 s1.heap d (.dK kvs))
  refine ⟨hm.typeIs, hm.mapOf.noDict, ?_⟩
  have hget : (s1.heap.push { cls := .type "dict_keys", data := .fields #[.ref d] }).get? s1.heap.objs.size = some { cls := .type "dict_keys", data := .fields #[.ref d] } := Heap.get?_push_size _ rfl
  have fin : EP X pins σ Q (.ref s1.heap.objs.size) { s1 with heap := s1.heap.push { cls := .type "dict_keys", data := .fields #[.ref d] } } := by
    refine ⟨.ref s1.heap.objs.size, _, I1.laid (t' := s1.toks) (a := s1.heap.objs.size) (o := keysO s1.heap.objs.size d) (fun b ob q => Heap.get?_push_of_some _ q) (Nat.le_refl _) ?_, rfl, q _ (I1.hok.fresh (Nat.le_refl _))⟩
    exact ⟨⟨_, hget, rfl, rfl⟩, ⟨_, hget⟩, fun h1 h2 ⟨o, ho, hc, hd⟩ k => ⟨o, k o ho, hc, hd⟩⟩
  show wpAny _ _ (callWith cpos (.builtin "dict.keys") [.ref d] [] []) _ X.xe s1
  exact method_meetsIn F.slot_dict_keys F.entry_dict_keys rfl (PySem.evalArgs_none ⟨rfl, hm.typeIs, F.args_dict_keys_1 _, _, PySem.W.kdl_meets_keys (mixKind X.prog X.w) d hs, ⟨vs, hm⟩, fin⟩)
theorem key_rel {P : Program} {w : World} {k : Key} {v : Value} (h : (mixKind P w).is k v = true) : RelV (kV k) v := by
  cases k with
  | inl i =>
    cases v <;> first | exact absurd h Bool.false_ne_true | skip
    rename_i j t
    have e : j = i := by
      have h : Value.isInt i (.int j t) = true := h
      simpa [Value.isInt] using h
    subst e
    exact ⟨t, rfl⟩
  | inr x =>
    cases v <;> first | exact absurd h Bool.false_ne_true | skip
    rename_i y t
    have e : y = x := by
      have h : Value.isStrOf x (.str y t) = true := h
      simpa [Value.isStrOf] using h
    subst e
    exact ⟨t, rfl⟩
theorem kv_look : ∀ {kvs : List (Key × V)} {vs : List (Key × Value)}, KV kvs vs → ∀ (i : Nat) (k : Key) (x : V), kvs[i]? = some (k, x) → ∃ y, vs[i]? = some (k, y)
  | _, _, .nil, i, k, x, h => by simp at h
  | _, _, .cons (b := b) hp _, 0, k, x, h => by
    simp at h
    subst h
    obtain ⟨k', y⟩ := b
    have e : k = k' := hp.1
    subst e
    exact ⟨y, rfl⟩
  | _, _, .cons _ t, i + 1, k, x, h => by
    obtain ⟨y, hy⟩ := kv_look t i k x (by simpa using h)
    exact ⟨y, by simpa using hy⟩
theorem call_list_keys (hc : X.calm = true) : CallR X (.type "list") (fun xs H Q => ∃ r d kvs, xs = [.ref r] ∧ H r = some (keysO r d) ∧ Rd H d (.dK kvs) ∧ ∀ l, H l = none → Q (.ref l) (upd H l (.lst (kvs.map fun p => kV p.1)))) := by
  intro pins s σ H xs us Q I r h
  obtain ⟨v, d, kvs, rfl, hv, hd, q⟩ := h
  obtain ⟨u, rfl, rx⟩ := vals1 r
  cases rx
  obtain ⟨z, hs, vs, kv, hm⟩ := (hd.ok I.hok : ObjOk X.prog X.w H s.heap d (.dK kvs))
  obtain ⟨ep, hat⟩ := hm.dictAt
  obtain ⟨hview, _, _⟩ := (I.hok v _ hv : ObjOk X.prog X.w H s.heap v (keysO v d))
  have hl : kvs.length = vs.length := Paired.length kv
  refine PySem.W.kdl_call (PySem.W.kdl_keys (knd := mixKind X.prog X.w) (r := v) (d := d) (kvs := vs) (ep := ep)) (I.ok.hd hc) ⟨hview, hat⟩ (by omega) fun h' tk acc' c' kp e2 it => ?_
  refine ⟨.ref s.heap.objs.size, _, I.laid (t' := tk) kp (Nat.le_refl _) (o := .lst (kvs.map fun p => kV p.1)) ⟨by rw [List.length_map]; exact z, acc'.toList, c', ?_, by rw [Array.toArray_toList]; exact e2⟩, rfl, q _ (I.hok.fresh (Nat.le_refl _))⟩
  have look : ∀ (i : Nat) (k : Key) (x : V), kvs[i]? = some (k, x) → ∃ y, vs[i]? = some (k, y) := kv_look kv
  have size : acc'.size = vs.length := it.1
  have items := it.2
  have vals : ∀ (l : List V) (ws : List Value), l.length = ws.length → (∀ (i : Nat) (v : V) (u : Value), l[i]? = some v → ws[i]? = some u → RelV v u) → Vals l ws := by
    intro l
    induction l with
    | nil => intro ws hl _; cases ws with | nil => exact .nil | cons => simp at hl
    | cons v l ih =>
      intro ws hl hi
      cases ws with
      | nil => simp at hl
      | cons u ws => exact .cons (hi 0 v u rfl rfl) (ih ws (by simpa using hl) fun i v' u' h1 h2 => hi (i + 1) v' u' (by simpa using h1) (by simpa using h2))
  refine vals _ _ (by rw [List.length_map, hl, ← size]; rfl) fun i v' u' h1 h2 => ?_
  rw [List.getElem?_map] at h1
  cases hk : kvs[i]? with
  | none => rw [hk] at h1; cases h1
  | some p =>
    rw [hk] at h1
    cases h1
    obtain ⟨k, x⟩ := p
    obtain ⟨y, hy⟩ := look i k x hk
    rw [Array.getElem?_toList] at h2
    obtain ⟨k', x', hk', his⟩ := items i u' h2
    rw [hy] at hk'
    cases hk'
    exact key_rel his
end
section
variable {X : Cx} {W : WX} {ρ ρ1 : List S} {pos p apos cpos : Pos} {e : Expr} {ks : List Str} {ds : List D}
/-- list(e.keys()) -/
theorem de_keys (hc : X.calm = true) (hx : Blt X "list" (.type "list")) (h : DE X W e ρ (.val (.dic ks ds) ρ1)) (hbase : attributeBase e "keys" X.env (eval e X.env) = eval e X.env := by rfl) (hline : (apos.endLine == cpos.line) = true := by rfl)
    (he : starEach [.Call (.Attribute e "keys" apos) [] [] cpos] X.env = (false, eval (.Call (.Attribute e "keys" apos) [] [] cpos) X.env) :: starEach [] X.env := by exact Dt.star_cons rfl) :
    DE X W (.Call (.Name "list" p) [.Call (.Attribute e "keys" apos) [] [] cpos] [] pos) ρ (.own (.lst (ks.map D.str)) ρ1) := by
  refine fun w σ I H Q ev q => wpE_of (pe_callTy (call_list_keys hc) hx.g hx.m hx.v (pa_cons (pe_keys pe_wp hbase hline) pa_nil he) hx.n hx.d he) (h w σ I H _ ev fun v I1 H1 s1 e1 r => ?_)
  cases r with
  | @dic d _ xs _ g1 g2 g3 g4 =>
    refine ⟨d, _, rfl, same_rd e1.sub g1, fun r hr => ⟨r, d, kvOf ks xs, rfl, upd_same, ?_, fun l hl => ?_⟩⟩
    · have hd : d ≠ r := fun z => by
        subst z
        rcases same_rd e1.sub g1 with g | ⟨_, g⟩ <;> rw [hr] at g <;> cases g
      rcases same_rd e1.sub g1 with g | ⟨o, g⟩
      · exact .inl (by rw [upd_ne hd]; exact g)
      · exact .inr ⟨o, by rw [upd_ne hd]; exact g⟩
    · have e2 := e1.other (o := keysO r d) hr
      refine q _ I1 _ s1 (e2.alloc hl ?_)
      have : ∀ (ks : List Str) (xs : List V), ks.length = xs.length → RpAll X.K I1 ((kvOf ks xs).map fun p => kV p.1) (ks.map D.str) := by
        intro ks
        induction ks with
        | nil => intro xs _; exact .nil
        | cons k ks ih =>
          intro xs hl
          cases xs with
          | nil => simp at hl
          | cons x xs => exact .cons (.str k) (ih xs (by simpa using hl))
      exact this ks xs g2
/-- x, y = e -/
theorem ds_two {tg : Expr} {d : D} {ρ2 : List S} (h : DE X W e ρ (.val d ρ1)) (hb : Bd X W tg d ρ1 ρ2) (hs : swapsWithSole [tg] e pos.line X.env = pure false := by rfl) (hw : swappedStores [tg] e X.env = pure none := by rfl) (h1 : (assignEach [tg] X.env).map (·.2) = [assign tg X.env] := by rfl) : DS X W (.Assign [tg] e pos) ρ (.next ρ2) :=
  fun w σ I H Dn ev p => wpS_of (ps_asg pe_wp pg_wp hs hw h1) (h w σ I H _ ev fun v I1 H1 s1 e1 r => hb w σ I1 H1 v _ e1 r fun σ' e2 => p σ' I1 H1 s1 e2)
end
end Dt


set_option Elab.async false
set_option linter.all false
set_option maxRecDepth 100000
set_option maxHeartbeats 4000000
/-! sorted of pairs of an int and a text, the ints unlike. -/
namespace K01
open PySem PyProof.Rows Srt SrtO
section
variable {prog : Program} {w : World} {A : Around} {E : Value → Shared → Prop} {s : Shared}
def IsPairS (h : Heap) (v : Value) (x : Int) (z : Str) : Prop := ∃ a o t u n, v = .ref a ∧ h.get? a = some o ∧ o.cls = .type "tuple" ∧ o.data = .seq #[.int x t, .str z u] n
theorem IsPairS.keeps {h h' : Heap} {v : Value} {x : Int} {z : Str} (p : IsPairS h v x z) (k : ∀ b o, h.get? b = some o → o.cls = .type "tuple" → h'.get? b = some o) : IsPairS h' v x z := by
  obtain ⟨a, o, t, u, n, e, ho, hc, hd⟩ := p
  exact ⟨a, o, t, u, n, e, k _ _ ho hc, hc, hd⟩
theorem swo_key (k : Value → Int) : Swo fun v u => decide (k v < k u) := by
  refine ⟨fun x y h => ?_, fun x y z h1 h2 => ?_⟩
  · have := of_decide_eq_true h
    exact decide_eq_false (by omega)
  · have h1 := of_decide_eq_false h1
    have h2 := of_decide_eq_false h2
    exact decide_eq_false (by omega)
theorem pairS_cmp {vs : List Value} {k : Value → Int} {z : Value → Str} (hp : ∀ v ∈ vs, IsPairS s.heap v (k v) (z v)) (hu : ∀ v ∈ vs, ∀ u ∈ vs, k v = k u → z v = z u) : Cmp prog w A s (tuples' true) (fun p => p.1 ∈ vs) (lt2 fun v u => decide (k v < k u)) := by
  intro p q hm hm'
  have h1 := hp _ hm
  have h2 := hp _ hm'
  have h3 := hu _ hm _ hm'
  show wpAny (model prog w) A (keyLt' (tuples' true) p.1 q.1) (fun r s' => s' = s ∧ r = decide (k p.1 < k q.1)) (fun _ _ => False) s
  generalize k p.1 = x at h1 h3 ⊢
  generalize z p.1 = y at h1 h3 ⊢
  generalize k q.1 = x' at h2 h3 ⊢
  generalize z q.1 = y' at h2 h3 ⊢
  obtain ⟨a, o, t, u, n, e, ho, hc, hd⟩ := h1
  obtain ⟨a', o', t', u', n', e', ho', hc', hd'⟩ := h2
  rw [e, e']
  refine PySem.W.kat_lt ho hd ho' hd' ?_
  show PySem.W.KatLex prog w A true (decide (2 < 2)) _ [(.int x t, .int x' t'), (.str y u, .str y' u')] 0 s
  refine PySem.W.kat_cons (SeqAt.EqAt.int_int x t x' t' prog w _ _ ?_)
  refine PySem.W.kat_go (fun e1 => ?_) (fun e1 => ?_)
  · have ex : x = x' := by simpa using e1
    have ey := h3 ex
    refine PySem.W.kat_yes (PySem.W.kat_cons (SeqAt.EqAt.str_str y u y' u' prog w _ _ ?_))
    refine PySem.W.kat_go (fun e2 => ?_) (fun e2 => ?_)
    · exact PySem.W.kat_yes (PySem.W.kat_nil ⟨rfl, (decide_eq_false (by omega)).symm⟩)
    · rw [ey] at e2
      simp at e2
  · exact PySem.W.kat_no (oneLt_int ⟨rfl, rfl⟩)
theorem firstsS {h : Heap} {k : Value → Int} {z : Value → Str} : ∀ {vs : List Value}, (∀ v ∈ vs, IsPairS h v (k v) (z v)) → ∃ fs : List Value, PySem.W.KatTups h vs fs ∧ fs.length = vs.length ∧ ∀ f ∈ fs, ∃ x t, f = Value.int x t
  | [], _ => ⟨[], PySem.W.KatTups.nil, rfl, fun _ hm => by simp at hm⟩
  | v :: vs, hp => by
    obtain ⟨fs, h1, h2, h3⟩ := firstsS (vs := vs) fun v' hm => hp v' (List.mem_cons_of_mem _ hm)
    obtain ⟨a, o, t, u, n, e, ho, hc, hd⟩ := hp v List.mem_cons_self
    generalize k v = x at hd
    generalize z v = y at hd
    subst e
    refine ⟨.int x t :: fs, PySem.W.KatTups.cons ho hc hd rfl h1, by rw [List.length_cons, List.length_cons, h2], fun f hm => ?_⟩
    rcases List.mem_cons.mp hm with rfl | hm
    · exact ⟨x, t, rfl⟩
    · exact h3 f hm
theorem sorted_pairS {l : Addr} {vs : List Value} {k : Value → Int} {z : Value → Str} {Q : Value → Shared → Prop} (hl : s.heap.IsList l vs.toArray) (hz : vs.length ≤ sizeLine) (hp : ∀ v ∈ vs, IsPairS s.heap v (k v) (z v)) (hu : ∀ v ∈ vs, ∀ u ∈ vs, k v = k u → z v = z u)
    (h : ∀ (h' : Heap) (d : Addr) (out : List Value), Srtd (fun v u => decide (k v < k u)) out → out.Perm vs → (∀ b o, s.heap.get? b = some o → h'.get? b = some o) → s.heap.objs.size ≤ d → (∃ n, h'.get? d = some (seqObj "list" out.toArray n)) → Q (.ref d) { s with heap := h' }) :
    wpAny (model prog w) A (call (.builtin "sorted") [.ref l]) Q E s := by
  refine sorted_ord (swo_key k) hl hz (fun h2 h₁ a ha kk => ?_) fun out hs hb => ?_
  · have hp1 : ∀ v ∈ vs, IsPairS h₁ v (k v) (z v) := fun v hm => (hp v hm).keeps fun b o e _ => (kk b o e).2
    have hna : ∀ o, h₁.get? a = some o → o.cls ≠ .type "tuple" := fun o e => by
      have e' : some o = some (seqObj "list" vs.toArray 0) := e.symm.trans ha
      cases e'
      intro c
      exact absurd (Value.type.inj c) (by decide)
    intro h' keep
    have hp' : ∀ v ∈ vs, IsPairS h' v (k v) (z v) := fun v hm => (hp1 v hm).keeps fun b o e c => keep b o (fun z => by subst z; exact hna o e c) e
    obtain ⟨fs, g1, g2, g3⟩ := firstsS hp'
    refine ⟨tuples' true, fun Q E hq => ?_, pairS_cmp hp' hu⟩
    refine PySem.W.kat_kind (T := .type "int") g1 (by omega) (fun f hm => ?_) (by rfl) ?_
    · obtain ⟨x, t, rfl⟩ := g3 f hm
      exact PySem.W.Looks.now
    · have e : (Value.type "int" != Value.type "tuple") = true := by first | decide +kernel | rfl | decide
      rw [e]
      exact hq
  · exact h _ _ out hs hb.perm (fun b o e => sortedAll_old e) (Nat.le_succ _) (sortedAll_at s.heap vs out.toArray)
end
theorem perm_map {α β : Type} {f : α → β} : ∀ {a b : List β}, a.Perm b → ∀ l : List α, b = l.map f → ∃ l' : List α, l'.Perm l ∧ a = l'.map f := by
  intro a b h
  induction h with
  | nil => intro l hl; exact ⟨[], by cases l with | nil => exact .refl _ | cons => simp at hl, rfl⟩
  | cons x _ ih =>
    intro l hl
    cases l with
    | nil => simp at hl
    | cons y l =>
      rw [List.map_cons] at hl
      injection hl with h1 h2
      obtain ⟨l', h3, h4⟩ := ih l h2
      exact ⟨y :: l', h3.cons y, by rw [List.map_cons, ← h4, h1]⟩
  | swap x y l0 =>
    intro l hl
    cases l with
    | nil => simp at hl
    | cons p l =>
      cases l with
      | nil => simp at hl
      | cons q l =>
        rw [List.map_cons, List.map_cons] at hl
        injection hl with h1 h2
        injection h2 with h2 h3
        exact ⟨q :: p :: l, .swap .., by rw [List.map_cons, List.map_cons, ← h1, ← h2, ← h3]⟩
  | trans _ _ ih1 ih2 =>
    intro l hl
    obtain ⟨l1, h1, h2⟩ := ih2 l hl
    obtain ⟨l2, h3, h4⟩ := ih1 l1 h2
    exact ⟨l2, h3.trans h1, h4⟩
theorem srt_uniq {β : Type} : ∀ {a b : List (Nat × β)}, a.Perm b → a.Pairwise (fun p q => p.1 < q.1) → b.Pairwise (fun p q => p.1 < q.1) → a = b
  | [], b, h, _, _ => (List.Perm.eq_nil h.symm).symm
  | x :: a, [], h, _, _ => by
    have := h.length_eq
    simp at this
  | x :: a, y :: b, h, ha, hb => by
    obtain ⟨ha1, ha2⟩ := List.pairwise_cons.mp ha
    obtain ⟨hb1, hb2⟩ := List.pairwise_cons.mp hb
    have e : x = y := by
      rcases List.mem_cons.mp (h.mem_iff.mp (List.mem_cons_self (a := x) (l := a))) with e | hx
      · exact e
      · rcases List.mem_cons.mp (h.mem_iff.mpr (List.mem_cons_self (a := y) (l := b))) with e | hy
        · exact e.symm
        · have h1 := hb1 x hx
          have h2 := ha1 y hy
          omega
    subst e
    rw [srt_uniq h.cons_inv ha2 hb2]
end K01
namespace K01
open PySem PySem.Spec PyProof.Rows L2 Dt
section
variable {X : Cx} {W : WX} {ρ ρ1 : List S} {a : Expr} {p pos : Pos}
theorem call_sortF : CallR X (.builtin "sorted") (fun vs H Q => ∃ (l : Addr) (T : List (V × Nat × List Nat)), vs = [.ref l] ∧ SqL X.K H l (T.map (·.1)) ∧ (∀ t ∈ T, ∃ b, t.1 = .ref b ∧ SqT X.K H b [.int (t.2.1 : Int), .str (mk t.2.2)]) ∧ (T.map fun t => t.2.1).Nodup ∧
    ∀ (T' : List (V × Nat × List Nat)) (q : Addr), T'.Perm T → T'.Pairwise (fun x y => x.2.1 < y.2.1) → H q = none → Q (.ref q) (upd H q (.lst (T'.map (·.1))))) := by
  intro pins s σ H vs us Q I r h
  obtain ⟨l, T, rfl, hs, hx, nd, q⟩ := h
  obtain ⟨its, rv, hl, hz⟩ := I.list hs
  obtain ⟨u, rfl, ru⟩ := vals1 r
  obtain rfl : u = Value.ref l := ru
  -- each item's value
  have key : ∀ (T : List (V × Nat × List Nat)) (its : List Value), (∀ t ∈ T, ∃ b, t.1 = .ref b ∧ SqT X.K H b [.int (t.2.1 : Int), .str (mk t.2.2)]) → Vals (T.map (·.1)) its → its = T.map fun t => match t.1 with | .ref b => Value.ref b | _ => .none := by
    intro T
    induction T with
    | nil => intro its _ rv; cases rv; rfl
    | cons t T ih =>
      intro its hx rv
      rw [List.map_cons] at rv
      cases rv with
      | cons h1 h2 =>
        obtain ⟨b, hb, _⟩ := hx t List.mem_cons_self
        rw [hb] at h1
        cases h1
        rw [List.map_cons, hb, ih _ (fun t' ht' => hx t' (List.mem_cons_of_mem _ ht')) h2]
  have eits := key T its hx rv
  have pr : ∀ t ∈ T, ∃ b, t.1 = .ref b ∧ IsPairS s.heap (.ref b) (t.2.1 : Int) (mk t.2.2) := fun t ht => by
    obtain ⟨b, hb, hq⟩ := hx t ht
    obtain ⟨its2, r2, pl, _⟩ := I.tuple hq
    obtain ⟨o, ho, hc, n, hd⟩ := pl
    obtain ⟨u1, u2, rfl, ri, rj⟩ := vals2 r2
    obtain ⟨t1, rfl⟩ := ri
    obtain ⟨t2, rfl⟩ := rj
    exact ⟨b, hb, b, o, t1, t2, n, rfl, ho, hc, hd⟩
  let kz : Value → Int × Str := fun v => @dite _ (∃ p : Int × Str, IsPairS s.heap v p.1 p.2) (Classical.propDecidable _) (fun h => Classical.choose h) (fun _ => (0, mk []))
  have kze : ∀ {v : Value} {x : Int} {z : Str}, IsPairS s.heap v x z → kz v = (x, z) := fun {v x z} hp => by
    have hex : ∃ p : Int × Str, IsPairS s.heap v p.1 p.2 := ⟨(x, z), hp⟩
    have e : kz v = Classical.choose hex := dif_pos hex
    have hc := Classical.choose_spec hex
    rw [← e] at hc
    obtain ⟨a1, o1, t1, u1, n1, e1, ho1, _, hd1⟩ := hc
    obtain ⟨a2, o2, t2, u2, n2, e2, ho2, _, hd2⟩ := hp
    rw [e1] at e2
    cases e2
    rw [ho1] at ho2
    cases ho2
    rw [hd1] at hd2
    simp at hd2
    obtain ⟨⟨⟨h1, _⟩, h2, _⟩, _⟩ := hd2
    exact Prod.ext h1 h2
  let g : V × Nat × List Nat → Value := fun t => match t.1 with | .ref b => Value.ref b | _ => .none
  have kg : ∀ t ∈ T, IsPairS s.heap (g t) (kz (g t)).1 (kz (g t)).2 ∧ kz (g t) = ((t.2.1 : Int), mk t.2.2) := fun t ht => by
    obtain ⟨b, hb, hp⟩ := pr t ht
    have eg : g t = .ref b := by show (match t.1 with | .ref b => Value.ref b | _ => .none) = _; rw [hb]
    rw [eg, kze hp]
    exact ⟨hp, rfl⟩
  have inj : ∀ t ∈ T, ∀ t' ∈ T, t.2.1 = t'.2.1 → t = t' := fun t ht t' ht' e => by
    obtain ⟨i, hi⟩ := List.mem_iff_getElem?.mp ht
    obtain ⟨j, hj⟩ := List.mem_iff_getElem?.mp ht'
    have hij : i = j := by
      have h1 : (T.map fun t => t.2.1)[i]? = some t.2.1 := by rw [List.getElem?_map, hi]; rfl
      have h2 : (T.map fun t => t.2.1)[j]? = some t.2.1 := by rw [List.getElem?_map, hj, e]; rfl
      exact nd_ix nd h1 h2
    subst hij
    rw [hi] at hj
    exact Option.some.inj hj
  refine sorted_pairS (k := fun v => (kz v).1) (z := fun v => (kz v).2) hl.isList (by rw [← rv.length]; exact hz) (fun v hv => ?_) (fun v hv u hu e => ?_) fun h' d out h1 h2 kp hd hn => ?_
  · rw [eits] at hv
    obtain ⟨t, ht, rfl⟩ := List.mem_map.mp hv
    exact (kg t ht).1
  · rw [eits] at hv hu
    obtain ⟨t, ht, rfl⟩ := List.mem_map.mp hv
    obtain ⟨t', ht', rfl⟩ := List.mem_map.mp hu
    have e1 := (kg t ht).2
    have e2 := (kg t' ht').2
    have e : (kz (g t)).1 = (kz (g t')).1 := e
    rw [e1, e2] at e
    have e : (t.2.1 : Int) = (t'.2.1 : Int) := e
    have := inj t ht t' ht' (by omega)
    subst this
    rfl
  · rw [eits] at h2
    obtain ⟨T', p1, p2⟩ := perm_map h2 T rfl
    obtain ⟨n, hn⟩ := hn
    have srt : T'.Pairwise (fun x y => x.2.1 < y.2.1) := by
      rw [p2] at h1
      have h3 : T'.Pairwise fun x y => decide ((kz (g y)).1 < (kz (g x)).1) = false := List.pairwise_map.mp h1
      have nd' : T'.Pairwise fun x y => x.2.1 ≠ y.2.1 := List.pairwise_map.mp (show List.Pairwise (· ≠ ·) (T'.map fun t => t.2.1) from (p1.map fun t : V × Nat × List Nat => t.2.1).nodup_iff.mpr nd)
      refine (List.Pairwise.and h3 nd').imp_of_mem fun {x y} hx hy hxy => ?_
      have ex := (kg x (p1.mem_iff.mp hx)).2
      have ey := (kg y (p1.mem_iff.mp hy)).2
      have := of_decide_eq_false hxy.1
      rw [ex, ey] at this
      have this : ¬ (y.2.1 : Int) < (x.2.1 : Int) := this
      have := hxy.2
      omega
    refine ⟨.ref d, upd H d (.lst (T'.map (·.1))), I.laid (t' := s.toks) kp hd ⟨?_, out, n, ?_, hn⟩, rfl, q T' d p1 srt (I.hok.fresh hd)⟩
    · rw [List.length_map, p1.length_eq, ← List.length_map (f := fun t : V × Nat × List Nat => t.1)]
      exact hz
    · rw [p2]
      have : ∀ L : List (V × Nat × List Nat), (∀ t ∈ L, t ∈ T) → Vals (L.map (·.1)) (L.map fun t => match t.1 with | .ref b => Value.ref b | _ => .none) := by
        intro L
        induction L with
        | nil => intro _; exact .nil
        | cons t L ih =>
          intro hL
          obtain ⟨b, hb, _⟩ := hx t (hL t List.mem_cons_self)
          rw [List.map_cons, List.map_cons, hb]
          exact .cons rfl (ih fun t' ht' => hL t' (List.mem_cons_of_mem _ ht'))
      exact this T' fun t ht => p1.mem_iff.mp ht
theorem zip_of {K : PySem.W.Frag} {I : Hp} : ∀ {vs : List V} {ps : List (Nat × List Nat)}, RpAll K I vs (ps.map fltD) → ∃ T : List (V × Nat × List Nat), T.map (·.1) = vs ∧ T.map (·.2) = ps ∧ ∀ t ∈ T, Rp K I t.1 (fltD t.2)
  | _, [], .nil => ⟨[], rfl, rfl, fun _ h => by cases h⟩
  | _, p :: ps, .cons (v := v) r t => by
    obtain ⟨T, h1, h2, h3⟩ := zip_of t
    refine ⟨(v, p) :: T, by rw [List.map_cons, h1], by rw [List.map_cons, h2], fun x hx => ?_⟩
    rcases List.mem_cons.mp hx with rfl | hx
    · exact r
    · exact h3 x hx
theorem de_sortF {ps qs : List (Nat × List Nat)} (hx : Blt X "sorted" (.builtin "sorted")) (hq : qs.Perm ps) (hs : qs.Pairwise (fun x y => x.1 < y.1)) (h : DE X W a ρ (.val (.lst (ps.map fltD)) ρ1)) (he : starEach [a] X.env = (false, eval a X.env) :: starEach [] X.env := by exact Dt.star_cons rfl) :
    DE X W (.Call (.Name "sorted" p) [a] [] pos) ρ (.own (.lst (qs.map fltD)) ρ1) := by
  refine fun w σ I H Q ev q => wpE_of (pe_callB call_sortF hx.g hx.m hx.v (pa_cons pe_wp pa_nil he) hx.n hx.d he) (h w σ I H _ ev fun v I1 H1 s1 e1 r => ?_)
  obtain ⟨l, vs, rfl, g1, g2⟩ := rpl_of r
  obtain ⟨T, t1, t2, t3⟩ := zip_of g2
  have nd : (T.map fun t => t.2.1).Nodup := by
    have e : (T.map fun t => t.2.1) = ps.map (·.1) := by rw [← t2, List.map_map]; rfl
    rw [e]
    refine (hq.map (·.1)).nodup_iff.mp ?_
    show List.Pairwise (· ≠ ·) (qs.map (·.1))
    exact List.pairwise_map.mpr (hs.imp fun h => Nat.ne_of_lt h)
  refine ⟨l, T, rfl, by rw [t1]; exact e1.sub.seq g1, fun t ht => ?_, nd, fun T' q' p1 p2 hq' => ?_⟩
  · have rt := t3 t ht
    obtain ⟨b, us, hb, k1, k2⟩ := rpt_of rt
    obtain ⟨v1, v2, rfl, r1, r2⟩ := all2 k2
    cases r1
    cases r2
    exact ⟨b, hb, same_t e1.sub k1⟩
  · have eq : T'.map (·.2) = qs := by
      refine srt_uniq ?_ (List.pairwise_map.mpr p2) hs
      have h1 : (T'.map (·.2)).Perm (T.map (·.2)) := p1.map _
      rw [t2] at h1
      exact h1.trans hq.symm
    refine q _ I1 _ s1 (e1.alloc hq' ?_)
    rw [← eq]
    have : ∀ L : List (V × Nat × List Nat), (∀ t ∈ L, t ∈ T) → RpAll X.K I1 (L.map (·.1)) ((L.map (·.2)).map fltD) := by
      intro L
      induction L with
      | nil => intro _; exact .nil
      | cons t L ih => intro hL; exact .cons (t3 t (hL t List.mem_cons_self)) (ih fun t' ht' => hL t' (List.mem_cons_of_mem _ ht'))
    exact this T' fun t ht => p1.mem_iff.mp ht
end
end K01


set_option Elab.async false
set_option linter.all false
set_option maxRecDepth 100000
set_option maxHeartbeats 4000000
namespace K01
open PySem PySem.Spec PyProof.Rows L2 Dt
/-! ### books.py: faults, read, Book, spots, paths -/
abbrev sBookI : Stmt := inClass (topS 56) 0
abbrev sSpots : Stmt := inClass (topS 56) 2
abbrev sPaths : Stmt := inClass (topS 56) 3
structure BookAt (K : PySem.W.Frag) (mg : Str → Option Value) (CB : Addr) : Prop where
  cl : Cls K CB
  nrows : NoAttr K CB "rows"
  npast : NoAttr K CB "past"
  mg : mg "Book" = some (.ref CB)
  ini : IniAt K CB "Book.__init__" sBookI ["self", "rows"]
def bkNs : List Str := ["rows", "past"]
def bkO (CB CR : Addr) (rows : List RowM) : O := .ins CB bkNs [.d (.lst (rows.map (RowM.d CR))), .o (.lst [])]
def bkD (CB CR : Addr) (rows : List RowM) (past : D) : D := .ins CB bkNs [.lst (rows.map (RowM.d CR)), past]
theorem bk_era (CB CR : Addr) (rows : List RowM) : (bkO CB CR rows).era = bkD CB CR rows (.lst []) := rfl
def readR (CB CR CF : Addr) (u : WS) : Res := match u.wrong with
  | [] => .own (bkO CB CR u.rows)
  | (j, w) :: _ => .exc (fltX CF j w)
/-- the places of entries and heads -/
structure SP where
  sec : List Nat
  eK : List Str
  eV : List D
  hK : List Str
  hV : List D
def spotStep (k : Nat) (r : RowM) (u : SP) : SP :=
  if r.word = wHead then ⟨r.name, u.eK, u.eV, putN (mk r.name) u.hK, putX (mk r.name) (.int (k : Int)) u.hK u.hV⟩
  else if r.word = wEntry then ⟨u.sec, putN (mk (underL u.sec r.name)) u.eK, putX (mk (underL u.sec r.name)) (.int (k : Int)) u.eK u.eV, u.hK, u.hV⟩
  else u
def spotRun : Nat → List RowM → SP → SP
  | _, [], u => u
  | k, r :: rs, u => spotRun (k + 1) rs (spotStep k r u)
def spotsM (rows : List RowM) : SP := spotRun 0 rows ⟨[], [], [], [], []⟩
theorem ix0 {d : D} {ds : List D} : ixD (.lst (d :: ds)) 0 = some d := atI_nat (xs := d :: ds) (j := 0) rfl
theorem putN_len {f : Str} : ∀ ns : List Str, (putN f ns).length ≤ ns.length + 1
  | [] => Nat.le_refl _
  | g :: r => by
    have := putN_len (f := f) r
    unfold putN
    split
    · omega
    · rw [List.length_cons, List.length_cons]; omega
theorem rng_eq (n : Nat) : rngD 0 n = (List.range n).map fun i => D.int ((0 + i : Nat) : Int) := by
  unfold rngD
  refine List.map_congr_left fun i _ => congrArg D.int ?_
  omega
theorem rng_cons (k n : Nat) : ((List.range (n + 1)).map fun i => D.int ((k + i : Nat) : Int)) = .int (k : Int) :: ((List.range n).map fun i => D.int ((k + 1 + i : Nat) : Int)) := by
  rw [List.range_succ_eq_map, List.map_cons, List.map_map]
  congr 1
  refine List.map_congr_left fun i _ => congrArg D.int ?_
  show ((k + (i + 1) : Nat) : Int) = _
  congr 1
  omega
section
variable {Pr : Program} {wo : World} {K : PySem.W.Frag} {mg : Str → Option Value} {base : Heap} {CR CF CB : Addr}
theorem sc_bookI : FnScope ["self", "rows"] ["self", "rows"] (defScope sBookI) := ⟨rfl, rfl, rfl, by decide +kernel, rfl, by decide +kernel, by decide +kernel⟩
def c_bookI (CB : Addr) : Con := fun ps r os => ∃ (ds : List D), ps = [.io (.ins CB [] []), .v (.lst ds)] ∧ r = .ret .non ∧ os = [.ins CB bkNs [.d (.lst ds), .o (.lst [])]]
theorem ok_bookI (R : BookAt K mg CB) : InAt Pr wo K mg base CB 1 ["self", "rows"] (c_bookI CB) := by
  refine inAt (n := 0) R.ini sc_bookI (fun qs r os h => by obtain ⟨_, rfl, _⟩ := h; rfl) rfl fun f cdv A outer s H E cz qs r os h => ?_
  obtain ⟨ds, rfl, rfl, rfl⟩ := h
  have e1 : putN "past" (["rows"] : List Str) = bkNs := putN_app (by decide +kernel)
  have e2 : putX "past" (F.o (.lst [])) (["rows"] : List Str) [F.d (.lst ds)] = [.d (.lst ds), .o (.lst [])] := putX_app (by decide +kernel) rfl
  refine ⟨_, seq (fldA 0 R.cl R.nrows (va 1 rfl) rfl (by decide +kernel) (by decide) rfl) (dss1 (ds_fldN (i := 0) R.cl R.npast (de_lst da_nil (by decide)) rfl (by show 1 < 1000; decide))), .non ⟨_, _, ?_, rfl, rfl⟩⟩
  show [O.ins CB bkNs [.d (.lst ds), .o (.lst [])]] = [O.ins CB (putN "past" (["rows"] : List Str)) (putX "past" (F.o (.lst [])) (["rows"] : List Str) [F.d (.lst ds)])]
  rw [e1, e2]
abbrev sFaults : Stmt := topS 54
theorem sc_faults : FnScope ["text"] ["text"] (defScope sFaults) := ⟨rfl, rfl, rfl, by decide +kernel, rfl, by decide +kernel, by decide +kernel⟩
def c_faults : Con := fun ps r os => ∃ l : List Nat, l.length ≤ 40000 ∧ noLong (splitC 10 l) ∧ ps = [.v (sD l)] ∧ r = .ret (.lst ((walkM l).wrong.map fltD)) ∧ os = []
theorem ok_faults (F : DefAt K mg "faults" sFaults ["text"]) (G : FnAt Pr wo K mg base "walk" 6 ["text"] (c_wk CR)) : FnAt Pr wo K mg base "faults" 7 ["text"] c_faults := by
  refine fnAt (n := 0) F sc_faults (fun qs r os h => by obtain ⟨_, _, _, rfl, _⟩ := h; rfl) rfl fun f cdv A outer s H E cz qs r os h => ?_
  obtain ⟨l, hl, hn, rfl, rfl, rfl⟩ := h
  exact ⟨_, ret (de_ix (de_callV (r := .ret (.tup [.lst ((walkM l).rows.map (RowM.d CR)), .lst ((walkM l).wrong.map fltD)])) cz G (by decide) (da_cons (va 0 rfl) da_nil) ⟨l, hl, hn, rfl, rfl, rfl⟩) de_int rfl), .ret rfl⟩
abbrev sRead : Stmt := topS 55
theorem sc_read : FnScope ["text", "rows", "wrong"] ["text"] (defScope sRead) := ⟨rfl, rfl, rfl, by decide +kernel, rfl, by decide +kernel, by decide +kernel⟩
def c_read (CB CR CF : Addr) : Con := fun ps r os => ∃ l : List Nat, l.length ≤ 40000 ∧ noLong (splitC 10 l) ∧ ps = [.v (sD l)] ∧ r = readR CB CR CF (walkM l) ∧ os = []
theorem ok_read (F : DefAt K mg "read" sRead ["text"]) (BK : BookAt K mg CB) (GF : FltAt Pr wo K mg base "Fault" CF) (G : FnAt Pr wo K mg base "walk" 6 ["text"] (c_wk CR)) (GI : InAt Pr wo K mg base CB 1 ["self", "rows"] (c_bookI CB)) : FnAt Pr wo K mg base "read" 7 ["text"] (c_read CB CR CF) := by
  refine fnAt (n := 2) F sc_read (fun qs r os h => by obtain ⟨_, _, _, rfl, _⟩ := h; rfl) rfl fun f cdv A outer s H E cz qs r os h => ?_
  obtain ⟨l, hl, hn, rfl, rfl, rfl⟩ := h
  have st1 : ∀ {o : Oc}, DSs (Xd Pr wo K mg base ["text", "rows", "wrong"] "read" sRead f cdv A outer s H E) (Wd0 E) ((defBody sRead).drop 1) [.v (sD l), .v (.lst ((walkM l).rows.map (RowM.d CR))), .v (.lst ((walkM l).wrong.map fltD))] o →
      DSs (Xd Pr wo K mg base ["text", "rows", "wrong"] "read" sRead f cdv A outer s H E) (Wd0 E) (defBody sRead) (toS 0 [P.v (sD l)] ++ List.replicate 2 .no) o := fun h =>
    seq (ds_two (de_callV (r := .ret (.tup [.lst ((walkM l).rows.map (RowM.d CR)), .lst ((walkM l).wrong.map fltD)])) cz G (by decide) (da_cons (va 0 rfl) da_nil) ⟨l, hl, hn, rfl, rfl, rfl⟩) (bd_tup2 (i := 1) (j := 2) cz.calm cz.nd rfl (.inl rfl) rfl (.inl rfl))) h
  generalize walkM l = u at st1
  obtain ⟨rows, wrong, S0, E0, sec, k⟩ := u
  cases wrong with
  | nil =>
    show ∃ o, _ ∧ Tells _ _ o (.own (bkO CB CR rows))
    exact ⟨_, st1 (if_n (dt_tru (k := false) rfl (va 2 rfl)) rfl (dss1 (ds_retO (de_make (ns := bkNs) (fs := [.d (.lst (rows.map (RowM.d CR))), .o (.lst [])]) cz GI (by decide) BK.mg (da_cons (va 1 rfl) da_nil) ⟨_, rfl, rfl, rfl⟩)))), .own rfl⟩
  | cons p wr =>
    obtain ⟨j, w⟩ := p
    show ∃ o, _ ∧ Tells _ _ o (.exc (fltX CF j w))
    exact ⟨_, st1 (if_t (dt_tru (k := true) rfl (va 2 rfl)) rfl (dss1 (ds_raiseF cz GF (by decide) (de_ix (d1 := fltD (j, w)) (de_ix (d1 := .lst (((j, w) :: wr).map fltD)) (va 2 rfl) de_int ix0) de_int rfl) (de_ix (d1 := fltD (j, w)) (de_ix (d1 := .lst (((j, w) :: wr).map fltD)) (va 2 rfl) de_int ix0) de_int rfl))) rfl), .exc rfl⟩
end
end K01


set_option Elab.async false
set_option linter.all false
set_option maxRecDepth 100000
set_option maxHeartbeats 4000000
namespace K01
open PySem PySem.Spec PyProof.Rows L2 Dt
/-! ### books.py: Book.spots, Book.paths -/
abbrev nSpots : List Str := ["self", "entries", "heads", "section", "k", "row"]
theorem putN_len2 {α : Type} {f : Str} {x : α} : ∀ {ns : List Str} {xs : List α}, ns.length = xs.length → (putN f ns).length = (putX f x ns xs).length := fun h => len_put h
/-- names are short -/
def shortR (rows : List RowM) : Prop := ∀ r ∈ rows, r.name.length ≤ 1000
theorem ix_nat {ds : List D} {i : Nat} {d : D} (h : ds[i]? = some d) : ixD (.lst ds) (i : Int) = some d := atI_nat h
def SP.len (u : SP) : Nat := u.eK.length + u.hK.length
theorem spot_len (k : Nat) (r : RowM) (u : SP) : (spotStep k r u).eK.length ≤ u.eK.length + 1 ∧ (spotStep k r u).hK.length ≤ u.hK.length + 1 := by
  unfold spotStep
  have e := @putN_len
  split
  · exact ⟨Nat.le_succ _, e _⟩
  · split
    · exact ⟨e _, Nat.le_succ _⟩
    · exact ⟨Nat.le_succ _, Nat.le_succ _⟩
theorem spot_sec (k : Nat) (r : RowM) (u : SP) (h1 : r.name.length ≤ 1000) (h2 : u.sec.length ≤ 1000) : (spotStep k r u).sec.length ≤ 1000 := by
  unfold spotStep
  split
  · exact h1
  · split <;> exact h2
section
variable {Pr : Program} {wo : World} {K : PySem.W.Frag} {mg : Str → Option Value} {base : Heap} {CR CF CB : Addr}
structure SpAt (K : PySem.W.Frag) (CB : Addr) : Prop where
  spots : MetAt K CB "spots" "Book.spots" sSpots ["self"]
  paths : MetAt K CB "paths" "Book.paths" sPaths ["self"]
theorem sc_spots : FnScope nSpots ["self"] (defScope sSpots) := ⟨rfl, rfl, rfl, by decide +kernel, rfl, by decide +kernel, by decide +kernel⟩
def SP.d (u : SP) : D := .tup [.dic u.eK u.eV, .dic u.hK u.hV]
def c_spots (CB CR : Addr) : Con := fun ps r os => ∃ (rows : List RowM) (past : D), rows.length ≤ 50000 ∧ shortR rows ∧ ps = [.v (bkD CB CR rows past)] ∧ r = .ret (spotsM rows).d ∧ os = []
theorem ok_spots (M : SpAt K CB) (BK : BookAt K mg CB) (R : RowAt K mg CR) (B : Blts mg) (GU : FnAt Pr wo K mg base "under" 1 ["section", "name"] c_under) : MtAt Pr wo K mg base CB "spots" 2 ["self"] (c_spots CB CR) := by
  refine mtAt (n := 5) M.spots sc_spots (fun qs r os h => by obtain ⟨_, _, _, _, rfl, _⟩ := h; rfl) rfl fun f cdv A outer s H E cz qs r os h => ?_
  obtain ⟨rows, past, hl, hs, rfl, rfl, rfl⟩ := h
  have key : ∀ (rs : List RowM) (k : Nat) (u : SP) (x4 x5 : S), rows.drop k = rs → k + rs.length = rows.length → u.sec.length ≤ 1000 → u.eK.length ≤ k → u.hK.length ≤ k →
      ∃ y4 y5, FoR (Xd Pr wo K mg base nSpots "Book.spots" sSpots f cdv A outer s H E) (Wd0 E) (fT (bodyAt sSpots 3)) (fB (bodyAt sSpots 3)) ((List.range rs.length).map fun i => D.int ((k + i : Nat) : Int))
        [.v (bkD CB CR rows past), .own none (.dic u.eK u.eV), .own none (.dic u.hK u.hV), .v (sD u.sec), x4, x5]
        (.next [.v (bkD CB CR rows past), .own none (.dic (spotRun k rs u).eK (spotRun k rs u).eV), .own none (.dic (spotRun k rs u).hK (spotRun k rs u).hV), .v (sD (spotRun k rs u).sec), y4, y5]) := by
    intro rs
    induction rs with
    | nil => exact fun k u x4 x5 _ _ _ _ _ => ⟨x4, x5, .nil⟩
    | cons q rs ih =>
      intro k u x4 x5 hd hk h1 h2 h3
      rw [List.length_cons] at hk ⊢
      have hg : rows[k]? = some q := by
        have z : (rows.drop k)[0]? = some q := by rw [hd]; rfl
        rw [List.getElem?_drop] at z
        simpa using z
      have hq : q.name.length ≤ 1000 := hs q (List.mem_of_getElem? hg)
      have hsp := spot_len k q u
      obtain ⟨y4, y5, h⟩ := ih (k + 1) (spotStep k q u) (.v (.int (k : Int))) (.v (q.d CR)) (by rw [← List.tail_drop, hd]; rfl) (by omega) (spot_sec k q u hq h1) (by omega) (by omega)
      refine ⟨y4, y5, ?_⟩
      rw [rng_cons]
      refine .turn (bd_name (i := 4) cz.nd rfl (.inl rfl)) (ρ2 := [.v (bkD CB CR rows past), .own none (.dic (spotStep k q u).eK (spotStep k q u).eV), .own none (.dic (spotStep k q u).hK (spotStep k q u).hV), .v (sD (spotStep k q u).sec), .v (.int (k : Int)), .v (q.d CR)]) ?_ h
      refine seq (st (d := q.d CR) 5 cz (de_ix (d1 := .lst (rows.map (RowM.d CR))) (de_fld BK.cl BK.nrows (va 0 rfl) (by rfl)) (va 4 rfl) (ix_nat (by rw [List.getElem?_map, hg]; rfl)))) ?_
      by_cases hw : q.word = wHead
      · have e : spotStep k q u = ⟨q.name, u.eK, u.eV, putN (mk q.name) u.hK, putX (mk q.name) (.int (k : Int)) u.hK u.hV⟩ := if_pos hw
        rw [e]
        exact if_t (eqs (y := wHead) rfl (de_fld R.cl R.nw (va 5 rfl) (by rfl)) de_str) (decide_eq_true hw) (seq (st 3 cz (de_fld R.cl R.nn (va 5 rfl) (by rfl))) (dss1 (ds_dput (i := 2) cz (va 4 rfl) (va 3 rfl) rfl rfl (Nat.lt_of_le_of_lt (show u.hK.length ≤ 100000 by omega) (by decide))))) dss_nil
      · by_cases hw2 : q.word = wEntry
        · have e : spotStep k q u = ⟨u.sec, putN (mk (underL u.sec q.name)) u.eK, putX (mk (underL u.sec q.name)) (.int (k : Int)) u.eK u.eV, u.hK, u.hV⟩ := by
            unfold spotStep
            rw [if_neg hw, if_pos hw2]
          rw [e]
          exact if_f (eqs (y := wHead) rfl (de_fld R.cl R.nw (va 5 rfl) (by rfl)) de_str) (decide_eq_false hw) (if_t (eqs (y := wEntry) rfl (de_fld R.cl R.nw (va 5 rfl) (by rfl)) de_str) (decide_eq_true hw2)
            (dss1 (ds_dput (i := 1) cz (va 4 rfl) (de_callV (r := .ret (sD (underL u.sec q.name))) cz GU (by decide) (da_cons (va 3 rfl) (da_cons (de_fld R.cl R.nn (va 5 rfl) (by rfl)) da_nil)) ⟨_, _, by omega, rfl, rfl, rfl⟩) rfl rfl (Nat.lt_of_le_of_lt (show u.eK.length ≤ 100000 by omega) (by decide)))) dss_nil) dss_nil
        · have e : spotStep k q u = u := by
            unfold spotStep
            rw [if_neg hw, if_neg hw2]
          rw [e]
          exact if_f (eqs (y := wHead) rfl (de_fld R.cl R.nw (va 5 rfl) (by rfl)) de_str) (decide_eq_false hw) (if_n (eqs (y := wEntry) rfl (de_fld R.cl R.nw (va 5 rfl) (by rfl)) de_str) (decide_eq_false hw2) dss_nil) dss_nil
  obtain ⟨y4, y5, h⟩ := key rows 0 ⟨[], [], [], [], []⟩ .no .no rfl (by omega) (by decide) (by decide) (by decide)
  have hr : rngD 0 ((rows.length : Int)).toNat = (List.range rows.length).map fun i => D.int ((0 + i : Nat) : Int) := by rw [Int.toNat_natCast]; exact rng_eq _
  rw [← hr] at h
  refine ⟨_, seq (sto 1 cz de_dict0) (seq (sto 2 cz de_dict0) (seq (st 3 cz (cs (y := []) rfl)) (seq (ds_for cz.po cz.calm (di_range1 (b_range B.range) (de_len (b_len B.len) (db_of (de_fld (d := .lst (rows.map (RowM.d CR))) BK.cl BK.nrows (va 0 rfl) (by rfl))) (by rw [lenD, List.length_map])) (by omega) (by omega)) h) (ret (de_tup (da_cons (vfo 1 rfl) (da_cons (vfo 2 rfl) da_nil)) (show 2 ≤ sizeLine by decide)))))), .ret rfl⟩
theorem sc_paths : FnScope ["self"] ["self"] (defScope sPaths) := ⟨rfl, rfl, rfl, by decide +kernel, rfl, by decide +kernel, by decide +kernel⟩
def c_paths (CB CR : Addr) : Con := fun ps r os => ∃ (rows : List RowM) (past : D), rows.length ≤ 50000 ∧ shortR rows ∧ ps = [.v (bkD CB CR rows past)] ∧ r = .own (.lst ((spotsM rows).eK.map D.str)) ∧ os = []
theorem ok_paths (M : SpAt K CB) (BK : BookAt K mg CB) (B : Blts mg) (GS : MtAt Pr wo K mg base CB "spots" 2 ["self"] (c_spots CB CR)) : MtAt Pr wo K mg base CB "paths" 3 ["self"] (c_paths CB CR) := by
  refine mtAt (n := 0) M.paths sc_paths (fun qs r os h => by obtain ⟨_, _, _, _, rfl, _⟩ := h; rfl) rfl fun f cdv A outer s H E cz qs r os h => ?_
  obtain ⟨rows, past, hl, hs, rfl, rfl, rfl⟩ := h
  refine ⟨_, dss1 (ds_retO (de_keys (ks := (spotsM rows).eK) (ds := (spotsM rows).eV) cz.calm (b_list B.list) (de_ix (d1 := (spotsM rows).d) (de_mt0 (r := .ret (spotsM rows).d) cz GS (by decide) BK.cl (va 0 rfl) ⟨rows, past, hl, hs, rfl, rfl, rfl⟩ (by decide +kernel)) de_int rfl))), .own rfl⟩
end
end K01


set_option Elab.async false
set_option linter.all false
set_option maxRecDepth 100000
set_option maxHeartbeats 4000000
namespace Dt
open PySem PySem.Spec PyProof.Rows L2
/-! ### list comprehensions over pairs -/
inductive LcP (X : Cx) (scope : Scope) (ifs : List Expr) (elt : Expr) (j j' : Nat) : List (D × D) → List S → List D → List S → Prop
  | nil {ρ : List S} : LcP X scope ifs elt j j' [] ρ [] ρ
  | keep {d d' v : D} {ds : List (D × D)} {es : List D} {ρ ρ1 ρ2 ρ3 : List S} : Tst X scope ifs ((ρ.set j (.v d)).set j' (.v d')) true ρ1 → (∀ s H0 C cl fp, DE (Bk X scope s H0 C cl fp) W0 elt ρ1 (.val v ρ2)) → LcP X scope ifs elt j j' ds ((ρ2.set j .no).set j' .no) es ρ3 → LcP X scope ifs elt j j' ((d, d') :: ds) ρ (v :: es) ρ3
  | skip {d d' : D} {ds : List (D × D)} {es : List D} {ρ ρ1 ρ3 : List S} : Tst X scope ifs ((ρ.set j (.v d)).set j' (.v d')) false ρ1 → LcP X scope ifs elt j j' ds ((ρ1.set j .no).set j' .no) es ρ3 → LcP X scope ifs elt j j' ((d, d') :: ds) ρ es ρ3
def pairD (p : D × D) : D := .tup [p.1, p.2]
section
variable {X : Cx} {W : WX} {ρ ρ1 ρ2 : List S} {pos : Pos} {scope : Scope} {ifs : List Expr} {elt iter : Expr} {x x' : Str} {tp tp' tt : Pos} {kk : Nat} {j j' : Nat} {items : List (D × D)} {es : List D}
theorem set_back2 {σ : L2.St} {a b : Option V} (hne : j ≠ j') : (((((σ.set j' none).set j none).set j a).set j' b).set j none).set j' none = (σ.set j' none).set j none := by
  refine List.ext_getElem? fun i => ?_
  simp only [List.getElem?_set, List.length_set]
  by_cases h1 : j' = i <;> by_cases h2 : j = i <;> simp [h1, h2] <;> (try omega)
theorem set_back2' {σ : L2.St} {a b : Option V} (hne : j ≠ j') : (((((σ.set j' none).set j none).set j a).set j' b).set j' none).set j none = (σ.set j' none).set j none := by
  refine List.ext_getElem? fun i => ?_
  simp only [List.getElem?_set, List.length_set]
  by_cases h1 : j' = i <;> by_cases h2 : j = i <;> simp [h1, h2] <;> (try omega)
theorem set_home {σ : L2.St} (hne : j ≠ j') (jl : j < σ.length) (jl' : j' < σ.length) : (((σ.set j' none).set j none).set j σ[j]).set j' σ[j'] = σ := by
  refine List.ext_getElem? fun i => ?_
  simp only [List.getElem?_set, List.length_set]
  by_cases h1 : j' = i
  · subst h1
    simp [jl']
  · by_cases h2 : j = i
    · subst h2
      simp [jl, h1]
    · simp [h1, h2]
theorem lcp_run (hc : X.calm = true) (hN : X.N.Nodup) (hne : j ≠ j') (hno : ρ1[j]? = some .no) (hno' : ρ1[j']? = some .no) (hi : DI X W (.Tuple [.Name x tp, .Name x' tp'] kk tt) iter ρ (items.map pairD) ρ1) (h : LcP X scope ifs elt j j' items ρ1 es ρ2) (hl : es.length ≤ sizeLine)
    {w : Wd} {σ : L2.St} {I H : Hp} {Q : VK} (ev : Ev X.K w I H σ ρ) (p : ∀ v I' H', Same I I' → Ev X.K w I' H' (σ ++ [some v]) (ρ2 ++ [.own none (.lst es)]) → Q v H') :
    tLc (wpI X (.Tuple [.Name x tp, .Name x' tp'] kk tt) iter) (gTup X.K 2 (gCons (gName j) (gCons (gName j') gNil))) (wpTb X scope ifs) (wpEb X scope elt) [j, j'] σ H Q := by
  refine hi w σ I H _ ev fun J G Y I1 H1 s1 e1 wk hG hY => fun Dl hD => ?_
  have hw : w.Pt Dl = none := e1.freshP hD
  have h0 : w.H0 Dl = none := (e1.fresh hD).1
  have jl : j < σ.length := by rw [e1.len]; exact (List.getElem?_eq_some_iff.mp hno).1
  have jl' : j' < σ.length := by rw [e1.len]; exact (List.getElem?_eq_some_iff.mp hno').1
  have il : (items.map pairD).length = items.length := List.length_map ..
  have nos : ∀ {ρ : List S}, ρ.length = σ.length → ((ρ.set j .no).set j' .no)[j]? = some S.no ∧ ((ρ.set j .no).set j' .no)[j']? = some S.no := fun {ρ} e => by
    refine ⟨?_, List.getElem?_set_self (by rw [List.length_set, e]; exact jl')⟩
    rw [List.getElem?_set_ne (fun z => hne z.symm)]
    exact List.getElem?_set_self (by rw [e]; exact jl)
  refine ⟨fun i m H' => m = items.length - i ∧ i ≤ items.length ∧ ∃ I' ρ' vs as rest, Same I1 I' ∧ Ev X.K (w.guard Dl (.lst vs)) I' H' ((σ.set j' none).set j none) ρ' ∧ (ρ'[j]? = some S.no ∧ ρ'[j']? = some S.no) ∧ RpAll X.K I' vs as ∧ as ++ rest = es ∧ LcP X scope ifs elt j j' (items.drop i) ρ' rest ρ2,
    ⟨items.length, by omega, Nat.zero_le _, I1, ρ1, [], [], es, Same.refl _, ((e1.guard hD).other_slot hno').other_slot hno, ⟨hno, hno'⟩, .nil, rfl, h⟩, ?_⟩
  rintro i m H2 ⟨rfl, hile, I2, ρ', vs, as, rest, s2, e2, hno2, rv, has, r2⟩
  by_cases hlt : i < items.length
  · rw [List.drop_eq_getElem_cons hlt] at r2
    have it : (items.map pairD)[i]? = some (pairD items[i]) := by rw [List.getElem?_map, List.getElem?_eq_getElem hlt]; rfl
    refine .inr ⟨wk.goes i H2 (by rw [il]; exact hlt) (hG I2 H2 s2 e2.sub), ?_⟩
    have bind : ∀ {y : V} {H3 : Hp}, J.yld i H2 y H3 → ∃ I3 a v1 v2, Same I2 I3 ∧ y = .ref a ∧ SqT X.K H3 a [v1, v2] ∧ Ev X.K (w.guard Dl (.lst vs)) I3 H3 ((((σ.set j' none).set j none).set j (some v1)).set j' (some v2)) ((ρ'.set j (.v items[i].1)).set j' (.v items[i].2)) := fun {y H3} hy => by
      obtain ⟨I3, d, q1, q2, q3, q4, q5, q6⟩ := hY i H2 y H3 I2 (by rw [il]; exact hlt) s2 e2.sub (wk.yields i H2 y H3 (by rw [il]; exact hlt) (hG I2 H2 s2 e2.sub) hy)
      rw [it] at q5
      cases q5
      obtain ⟨a, us, rfl, g1, g2⟩ := rpt_of q6
      obtain ⟨v1, v2, rfl, r1, r2⟩ := all2 g2
      have e3 := e2.grow q1 q2 q3 q4
      exact ⟨I3, a, v1, v2, q1, rfl, same_t e3.sub g1, (e3.setV r1).setV r2⟩
    have rl : as.length < sizeLine ∨ rest = [] := by
      cases rest with
      | nil => exact .inr rfl
      | cons z zs =>
        left
        rw [← has, List.length_append, List.length_cons] at hl
        omega
    generalize items[i] = it0 at r2 bind
    cases r2 with
    | @keep d1 d2 v _ es' _ ρa ρb _ ht he hr =>
      refine ⟨fun H' => ∃ I' vs', Same I1 I' ∧ Ev X.K (w.guard Dl (.lst vs')) I' H' ((σ.set j' none).set j none) ((ρb.set j .no).set j' .no) ∧ (((ρb.set j .no).set j' .no)[j]? = some S.no ∧ ((ρb.set j .no).set j' .no)[j']? = some S.no) ∧ RpAll X.K I' vs' (as ++ [v]), fun H' z => ?_, fun y H3 hy => ?_⟩
      · obtain ⟨I', vs', z1, z2, z3, z4⟩ := z
        exact ⟨items.length - (i + 1), by omega, rfl, by omega, I', _, vs', as ++ [v], es', z1, z2, z3, z4, by rw [List.append_assoc]; exact has, hr⟩
      · obtain ⟨I3, a, v1, v2, s3, rfl, sq, e3⟩ := bind hy
        refine ⟨a, [v1, v2], rfl, sq, rfl, v1, [v2], rfl, v2, [], rfl, rfl, set_back2' hne, tst_run ht e3 fun I4 H4 s4 e4 => ?_⟩
        rw [if_pos rfl]
        intro s0 H0 C cl fp
        refine he s0 H0 C cl fp _ _ I4 H4 _ e4 fun u I5 H5 s5 e5 ru => ?_
        refine ⟨vs, e5.prt Dl _ upd_same, ?_, I5, vs ++ [u], ((s2.trans s3).trans s4).trans s5, ?_, ?_, ?_⟩
        · rw [rv.length]
          rcases rl with rl | rl
          · exact rl
          · cases rl
        · have g := ((e5.wipe1 (i := j)).wipe1 (i := j')).reguard (u' := .lst (vs ++ [u])) h0
          have z := set_back2 (σ := σ) (a := some v1) (b := some v2) hne
          rw [← z]
          exact g
        · have this := e5.len
          rw [List.length_set, List.length_set, wipe_length] at this
          exact nos this.symm
        · exact (rv.up ((s3.trans s4).trans s5)).append (.one ru)
    | @skip d1 d2 _ _ _ ρa _ ht hr =>
      refine ⟨fun H' => ∃ I' vs', Same I1 I' ∧ Ev X.K (w.guard Dl (.lst vs')) I' H' ((σ.set j' none).set j none) ((ρa.set j .no).set j' .no) ∧ (((ρa.set j .no).set j' .no)[j]? = some S.no ∧ ((ρa.set j .no).set j' .no)[j']? = some S.no) ∧ RpAll X.K I' vs' as, fun H' z => ?_, fun y H3 hy => ?_⟩
      · obtain ⟨I', vs', z1, z2, z3, z4⟩ := z
        exact ⟨items.length - (i + 1), by omega, rfl, by omega, I', _, vs', as, rest, z1, z2, z3, z4, has, hr⟩
      · obtain ⟨I3, a, v1, v2, s3, rfl, sq, e3⟩ := bind hy
        refine ⟨a, [v1, v2], rfl, sq, rfl, v1, [v2], rfl, v2, [], rfl, rfl, set_back2' hne, tst_run ht e3 fun I4 H4 s4 e4 => ?_⟩
        rw [if_neg Bool.false_ne_true]
        refine ⟨I4, vs, (s2.trans s3).trans s4, ?_, ?_, rv.up (s3.trans s4)⟩
        · have g := (e4.wipe1 (i := j)).wipe1 (i := j')
          have z := set_back2 (σ := σ) (a := some v1) (b := some v2) hne
          rw [← z]
          exact g
        · have this := e4.len
          rw [List.length_set, List.length_set, wipe_length] at this
          exact nos this.symm
  · have ei : i = items.length := by omega
    subst ei
    rw [List.drop_length] at r2
    cases r2
    have stp := wk.stops H2 (hG I2 H2 s2 e2.sub)
    rw [il] at stp
    refine .inl ⟨stp, ?_⟩
    rw [List.append_nil] at has
    subst has
    have g := (e2.other_slot (j := j) (x := σ[j]) hno2.1).other_slot (j := j') (x := σ[j']) hno2.2
    rw [set_home hne jl jl'] at g
    exact p _ I2 H2 (s1.trans s2) (g.unguard h0 hw rv)
theorem de_lcp (hc : X.calm = true) (hN : X.N.Nodup) (hj : X.N[j]? = some x) (hj' : X.N[j']? = some x') (hne : j ≠ j') (hx : (relabel scope X.env).names.lookup x = some .local) (hx' : (relabel scope X.env).names.lookup x' = some .local) (ok : BlkOk X.N X.env.scope scope [(x, j), (x', j')]) (hifs : ifs.length ≤ 1) (hno : ρ1[j]? = some .no) (hno' : ρ1[j']? = some .no)
    (hi : DI X W (.Tuple [.Name x tp, .Name x' tp'] kk tt) iter ρ (items.map pairD) ρ1) (h : LcP X scope ifs elt j j' items ρ1 es ρ2) (hl : es.length ≤ sizeLine)
    (hs : ∀ x, foldedSetIterable iter X.env x = pure x := by intro _; rfl) : DE X W (.ListComp elt [⟨.Tuple [.Name x tp, .Name x' tp'] kk tt, iter, ifs, 0⟩] scope pos) ρ (.own (.lst es) ρ2) :=
  fun w σ I H Q ev p => wpE_of (pe_lc (own := [(x, j), (x', j')]) (g := gTup X.K 2 (gCons (gName j) (gCons (gName j') gNil))) hc hN pi_wp ok (fun _ _ _ _ _ => pg_tup hc (pgs_cons (pg_name hN hj (.inl hx) (.inr hx)) (pgs_cons (pg_name hN hj' (.inl hx') (.inr hx')) pgs_nil))) (fun s H0 C cl fp => tst_ok hifs s H0 C cl fp) (fun s H0 C cl fp => ⟨fun pins s' σ H Q I h => (h s H0 C cl fp).run pins s' I⟩) hs)
    (lcp_run hc hN hne hno hno' hi h hl ev p)
theorem lcp_map {α : Type} {g : α → D × D} {f : α → D} (hne : j ≠ j') (hno : ρ[j]? = some .no) (hno' : ρ[j']? = some .no) : ∀ {l : List α}, (∀ y ∈ l, ∀ s H0 C cl fp, DE (Bk X scope s H0 C cl fp) W0 elt ((ρ.set j (.v (g y).1)).set j' (.v (g y).2)) (.val (f y) ((ρ.set j (.v (g y).1)).set j' (.v (g y).2)))) → LcP X scope [] elt j j' (l.map g) ρ (l.map f) ρ
  | [], _ => .nil
  | y :: l, h => by
    have ih := lcp_map (l := l) hne hno hno' fun z hz => h z (List.mem_cons_of_mem _ hz)
    have e : ((((ρ.set j (.v (g y).1)).set j' (.v (g y).2)).set j .no).set j' .no) = ρ := by
      refine List.ext_getElem? fun i => ?_
      simp only [List.getElem?_set, List.length_set]
      by_cases h1 : j' = i
      · subst h1
        obtain ⟨this, that⟩ := List.getElem?_eq_some_iff.mp hno'
        simp [this, that]
      · by_cases h2 : j = i
        · subst h2
          obtain ⟨this, that⟩ := List.getElem?_eq_some_iff.mp hno
          simp [this, that, h1]
        · simp [h1, h2]
    refine .keep .nil (h y List.mem_cons_self) ?_
    rw [e]
    exact ih
/-- [elt for x, x' in iter] -/
theorem lcp {α : Type} {g : α → D × D} {f : α → D} {l : List α} {k : Nat} (j j' : Nat) (cz : Cz X W k) (hi : DI X W (.Tuple [.Name x tp, .Name x' tp'] kk tt) iter ρ (l.map fun y => pairD (g y)) ρ1) (hl : l.length ≤ 100000) (h : ∀ y ∈ l, ∀ s H0 C cl fp, DE (Bk X scope s H0 C cl fp) W0 elt ((ρ1.set j (.v (g y).1)).set j' (.v (g y).2)) (.val (f y) ((ρ1.set j (.v (g y).1)).set j' (.v (g y).2)))) (hne : j ≠ j' := by decide) (ok : blkC X.N X.env.scope scope [(x, j), (x', j')] = true := by rfl)
    (hno : ρ1[j]? = some .no := by rfl) (hno' : ρ1[j']? = some .no := by rfl) (hj : X.N[j]? = some x := by rfl) (hj' : X.N[j']? = some x' := by rfl) (hx : (relabel scope X.env).names.lookup x = some .local := by rfl) (hx' : (relabel scope X.env).names.lookup x' = some .local := by rfl) (hs : ∀ x, foldedSetIterable iter X.env x = pure x := by intro _; rfl) :
    DE X W (.ListComp elt [⟨.Tuple [.Name x tp, .Name x' tp'] kk tt, iter, [], 0⟩] scope pos) ρ (.own (.lst (l.map f)) ρ1) :=
  de_lcp cz.calm cz.nd hj hj' hne hx hx' (blkOk_by ok) (by decide) hno hno' (items := l.map g) (by rw [List.map_map]; exact hi) (lcp_map hne hno hno' h) (by rw [List.length_map]; exact Nat.le_trans hl (by decide)) hs
end
section
variable {X : Cx} {W : WX} {ρ ρ1 : List S} {pos apos : Pos} {o : Expr} {C : Addr} {m : Str} {j k : Nat} {ps : List Str} {fc : Con} {x : Ex} {pl : Sem Bool}
/-- e.m(), where e raises -/
theorem de_mt0X (c : Cz X W k) (F : MtAt X.prog X.w X.K X.mg X.base C m j ps fc) (hj : j ≤ k) (cl : Cls X.K C) (ho : DE X W o ρ (.exc x ρ1))
    (ht : eval (.Call (.Attribute o m apos) [] [] pos) X.env = (do
      let ov ← eval o X.env
      standAt apos.atName
      let (f, first) ← holding [ov] (getMethod ov m pl)
      callWith pos f first (backTo pos (starEach [] X.env)) (backToKw pos (keywordEach [] X.env))) := by rfl) :
    DE X W (.Call (.Attribute o m apos) [] [] pos) ρ (.exc x ρ1) := by
  obtain ⟨f, fd, F, M, B⟩ := F
  exact fun w σ I H Q ev q => wpE_of (pe_mtX0 pe_wp cl M F (c.rm.mono hj) B (fun σ => passAt c.tk σ) ht) (ho w σ I H _ ev q)
end
end Dt


set_option Elab.async false
set_option linter.all false
set_option maxRecDepth 100000
set_option maxHeartbeats 4000000
namespace K01
open PySem PySem.Spec PyProof.Rows L2 Dt
/-! ### the law's word for a fault -/
/-- is an error of the class C one of the class that the module calls x? -/
def Isn (K : PySem.W.Frag) (mg : Str → Option Value) (C : Addr) (x : Str) (b : Bool) : Prop := ∃ E, mg x = some (.ref E) ∧ PySem.W.kitOne K (.ref C) (.ref E) = some b
structure FltI (K : PySem.W.Frag) (mg : Str → Option Value) (CF : Addr) : Prop where
  exc : ExcC K CF
  fault : Isn K mg CF "Fault" true
  sett : Isn K mg CF "SettingError" true
  caught : ∃ E, mg "SettingError" = some (.ref E) ∧ PySem.W.exmOne K (.ref CF) (.ref E) = some true
section
variable {X : Cx} {W : WX} {ρ ρ1 : List S} {a : Expr} {p p2 pos : Pos} {x : Str} {b : Bool} {C : Addr} {ns : List Str} {ds : List D}
theorem isf (h0 : ExcC X.K C) (h : Isn X.K X.mg C x b) (m : X.mg "isinstance" = none) (ha : DE X W a ρ (.val (.xf C ns ds) ρ1)) (g : Gl X "isinstance" := by rfl) (hg : Gl X x := by rfl)
    (he : starEach [a, .Name x p2] X.env = (false, eval a X.env) :: starEach [.Name x p2] X.env := by exact Dt.star_cons rfl) (hd : (x == ("__debug__" : Str)) = false := by decide) :
    DE X W (.Call (.Name "isinstance" p) [a, .Name x p2] [] pos) ρ (.val (.bl b) ρ1) := by
  obtain ⟨E, h1, h2⟩ := h
  exact de_isF h0 h2 (b_isi m g) hg h1 ha he hd
theorem stx (i : Nat) {e : Expr} {pos' : Pos} {C : Ex} {k : Nat} (cz : Cz X W k) (h : DE X W e ρ (.exc C ρ1)) (hi : X.N[i]? = some x := by rfl) (hx : Loc X.env.scope x := by first | exact Or.inl rfl | exact Or.inr rfl) (hs : swapsWith e (some (.Name x pos')) pos.line X.env = pure false := by rfl) (hf : X.fn x = true ∨ X.env.scope.names.lookup x = some .local := by first | exact .inl rfl | exact .inr rfl) :
    DS X W (.Assign [.Name x pos'] e pos) ρ (.exc C ρ1) := ds_setX cz.nd hi hx h hs hf
end
theorem step_rows {ls : List (List Nat)} {l : List Nat} {u : WS} (hn : ls[u.k]? = some l) (h : shortR u.rows) : shortR (stepW ls l u).rows ∧ (stepW ls l u).rows.length ≤ u.rows.length + 1 := by
  unfold stepW
  cases q : rowR ls l u.k with
  | flt j w => exact ⟨h, Nat.le_succ _⟩
  | row r =>
    have hr := row_ok hn q
    dsimp only
    cases q2 : lookT r u.sec u.S u.E with
    | bad w => exact ⟨h, Nat.le_succ _⟩
    | ok sec S E =>
      refine ⟨fun x hx => ?_, by rw [List.length_append]; exact Nat.le_refl _⟩
      rcases List.mem_append.mp hx with hx | hx
      · exact h x hx
      · rw [List.mem_singleton.mp hx]
        exact Nat.le_trans hr.name (by decide)
theorem run_rows (ls : List (List Nat)) : ∀ (f : Nat) (u : WS), shortR u.rows → shortR (runW ls f u).rows ∧ (runW ls f u).rows.length ≤ u.rows.length + f
  | 0, u, h => ⟨h, Nat.le_refl _⟩
  | f + 1, u, h => by
    unfold runW
    cases q : ls[u.k]? with
    | none => exact ⟨h, Nat.le_add_right _ _⟩
    | some l =>
      obtain ⟨h1, h2⟩ := step_rows q h
      obtain ⟨h3, h4⟩ := run_rows ls f _ h1
      exact ⟨h3, by dsimp only; omega⟩
theorem walk_rows {l : List Nat} (hl : l.length ≤ 40000) : shortR (walkM l).rows ∧ (walkM l).rows.length ≤ 50000 := by
  obtain ⟨h1, h2⟩ := run_rows (splitC 10 l) (splitC 10 l).length ws0 fun r hr => nomatch hr
  have := splitC_len 10 l
  refine ⟨h1, ?_⟩
  have h2 : (walkM l).rows.length ≤ 0 + (splitC 10 l).length := h2
  omega
def tryB : Stmt → List Stmt
  | .Try b _ _ _ _ => b
  | _ => []
section
variable {Pr : Program} {wo : World} {K : PySem.W.Frag} {mg : Str → Option Value} {base : Heap} {CF : Addr}
abbrev sRef : Stmt := topS 62
theorem sc_ref : FnScope ["caught", "kinds", "words"] ["caught"] (defScope sRef) := ⟨rfl, rfl, rfl, by decide +kernel, rfl, by decide +kernel, by decide +kernel⟩
def wFault : List Nat := [102, 97, 117, 108, 116]
def fltT (n : Nat) (w : List Nat) : D := .tup [sD wFault, .int (n : Int), sD w]
def c_refF (CF : Addr) : Con := fun ps r os => ∃ (n : Nat) (w : List Nat), ps = [.v (.xf CF ["word", "row"] [sD w, .int (n : Int)])] ∧ r = .ret (fltT n w) ∧ os = []
theorem ok_refF (F : DefAt K mg "_law_refusal" sRef ["caught"]) (B : Blts mg) (R : FltI K mg CF) (FX : FltX K CF) : FnAt Pr wo K mg base "_law_refusal" 1 ["caught"] (c_refF CF) := by
  refine fnAt (n := 2) F sc_ref (fun qs r os h => by obtain ⟨_, _, rfl, _⟩ := h; rfl) rfl fun f cdv A outer s H E cz qs r os h => ?_
  obtain ⟨n, w, rfl, rfl, rfl⟩ := h
  refine ⟨_, if_n (dt_isN (va 0 rfl)) rfl (if_r (tb (isf R.exc R.fault B.isi (va 0 rfl))) rfl (ife_t (tb (isf R.exc R.sett B.isi (va 0 rfl))) rfl (de_tup (da_cons (cs (y := wFault) rfl) (da_cons (de_xfk FX.xfc FX.nrow (va 0 rfl) (by rfl)) (da_cons (de_xfk FX.xfc FX.nword (va 0 rfl) (by rfl)) da_nil))) (show 3 ≤ sizeLine by decide)))), .ret rfl⟩
end
end K01


set_option Elab.async false
set_option linter.all false
set_option maxRecDepth 100000
set_option maxHeartbeats 4000000
namespace K01
open PySem PySem.Spec PyProof.Rows L2 Dt
/-! ### errors.py: Fault -/
section
variable {X : Cx} {e : Expr} {es : List Expr} {ta : TA} {x : Str} {CE : Addr} {p1 p2 pos : Pos}
/-- C.__init__(self, ..), C an own class over ValueError without an __init__ of its own -/
theorem pe_seinit {pl : Sem Bool} (hg : Gl X x) (hm : X.mg x = some (.ref CE)) (hs : PySem.W.specialIn X.K (.ref CE) "__getattribute__" = some (some (.builtin "type.__getattribute__"))) (hr : PySem.W.readsIn X.K CE (.type "type") = true)
    (vV : PySem.W.findCls X.K (.ref CE) (.type "type") "__init__" = some (.val (.builtin "ValueError.__init__"))) (ha : PA X (e :: es) ta) (hd : (x == ("__debug__" : Str)) = false := by decide)
    (hc : eval (.Call (.Attribute (.Name x p1) "__init__" p2) (e :: es) [] pos) X.env = (do
      let ov ← eval (.Name x p1) X.env
      standAt p2.atName
      let (f, first) ← holding [ov] (getMethod ov "__init__" pl)
      callWith pos f first (backTo pos (starEach (e :: es) X.env)) (backToKw pos (keywordEach [] X.env))) := by rfl)
    (he : starEach (e :: es) X.env = (false, eval e X.env) :: starEach es X.env := by exact Dt.star_cons rfl) (hpl : (backTo pos (starEach es X.env)).any (·.1) = false := by rfl) :
    PE X (.Call (.Attribute (.Name x p1) "__init__" p2) (e :: es) [] pos) (tVeI X.K ta) := by
  refine ⟨fun pins s σ H Q I h => ?_⟩
  refine PySem.W.methodCall_KW (ld_glob I hg hm ?_ hd) hc
  refine PySem.W.method_cls I.kIn hs (PySem.W.cls_value I.kIn hr vV (by decide +kernel) ?_)
  show wpAny _ _ (callWith pos (Value.builtin "ValueError.__init__") [] (backTo pos (starEach (e :: es) X.env)) []) _ _ _
  refine PyProof.Rows.callWith_method1 (thn (ha.run pos pins _ σ H _ (I.tok _) h) fun us s1 ⟨vs, H1, I1, r1, a, C, ws, ev, hl, T, ea, q⟩ => ?_) he hpl
  subst ev
  cases r1 with
  | @cons _ u0 _ ur ra rw' =>
    obtain rfl : u0 = Value.ref a := ra
    have hlen : ur.length ≤ sizeLine := by
      rw [← Paired.length rw', sizeLine_eq]
      omega
    exact oinit_ok T I1 ea hlen fun s' J => ⟨.non, H1, J, rfl, q⟩
end
abbrev sFltI : Stmt := inClass (topS 3) 0
structure FltC (K : PySem.W.Frag) (mg : Str → Option Value) (CF : Addr) : Prop where
  oex : OexC K CF
  nrow : PySem.W.findIn K (.ref CF) "row" = some none
  nword : PySem.W.findIn K (.ref CF) "word" = some none
  mgC : mg "Fault" = some (.ref CF)
  sup : ∃ CE, mg "SettingError" = some (.ref CE) ∧ PySem.W.specialIn K (.ref CE) "__getattribute__" = some (some (.builtin "type.__getattribute__")) ∧ PySem.W.readsIn K CE (.type "type") = true ∧ PySem.W.findCls K (.ref CE) (.type "type") "__init__" = some (.val (.builtin "ValueError.__init__"))
  ini : ∃ fI fd, PySem.W.findIn K (.ref CF) "__init__" = some (some (.ref fI)) ∧ PySem.W.typeIn K (.ref fI) = some (.type "function") ∧ Fun K "__init__" "Fault.__init__" sFltI fI fd ∧ Binds K fd ["self", "row", "word"] []
section
variable {Pr : Program} {wo : World} {K : PySem.W.Frag} {mg : Str → Option Value} {base : Heap} {CF : Addr}
theorem sc_fltI : FnScope ["self", "row", "word"] ["self", "row", "word"] (defScope sFltI) := ⟨rfl, rfl, rfl, by decide +kernel, rfl, by decide +kernel, by decide +kernel⟩
theorem flt_at (C : FltC K mg CF) : FltAt Pr wo K mg base "Fault" CF := by
  obtain ⟨CE, m1, m2, m3, m4⟩ := C.sup
  obtain ⟨fI, fd, i1, i2, i3, i4⟩ := C.ini
  refine ⟨C.oex, ⟨fI, fd, i1, i2, ?_, i4⟩, C.mgC⟩
  refine i3.okX (k := 0) sc_fltI (fun vs H Q E h => ?_) (fun cdv A outer s H vs Q E hr h => ?_)
  · obtain ⟨a, r, u, rfl, _⟩ := h
    rfl
  · obtain ⟨a, r, u, rfl, ha, hq⟩ := h
    refine ⟨_, pss_cons (ps_expr (pe_seinit (pl := _) rfl m1 m2 m3 m4 (pa_cons (pe_var (i := 0) rfl (.inl rfl)) (pa_cons (pe_var (i := 2) rfl (.inl rfl)) pa_nil)))) (pss_cons (ps_ost (pe_var (i := 0) rfl (.inl rfl)) (pe_var (i := 1) rfl (.inl rfl))) (pss_one (ps_ost (pe_var (i := 0) rfl (.inl rfl)) (pe_var (i := 2) rfl (.inl rfl))))), ?_⟩
    refine ⟨.ref a, rfl, u, rfl, a, CF, [u], rfl, by show 1 ≤ 1000; decide, C.oex, ha, ?_⟩
    refine ⟨r, rfl, .ref a, rfl, a, CF, rfl, C.oex, C.nrow, .inl ⟨ha, fun dx hd hne => ?_⟩⟩
    refine ⟨u, rfl, .ref a, rfl, a, CF, rfl, C.oex, C.nword, .inr ⟨dx, [("row", r)], upd_same, by rw [upd_ne hne, upd_same], by show 1 ≤ 900; decide, ?_⟩⟩
    exact hq dx hd hne
end
end K01


set_option Elab.async false
set_option linter.all false
set_option maxRecDepth 100000
set_option maxHeartbeats 4000000
namespace Dt
open PySem PySem.Spec PyProof.Rows L2
/-! ### which data can be compared -/
structure OkN (n : Nat) (d : D) : Prop where
  p : plain d = true
  l : (toPy d).canLay0 = true
  d : (toPy d).depth ≤ n
theorem OkN.ok {n : Nat} {d : D} (h : OkN n d) (hn : n ≤ 64 := by decide) : okD d = true := by
  unfold okD SeqAt.shaped
  rw [h.p, h.l, decide_eq_true (Nat.le_trans h.d hn)]
  rfl
theorem OkN.le {n m : Nat} {d : D} (h : OkN n d) (hn : n ≤ m) : OkN m d := ⟨h.p, h.l, Nat.le_trans h.d hn⟩
theorem okN_int {n : Nat} (i : Int) : OkN n (.int i) := ⟨rfl, rfl, Nat.zero_le _⟩
theorem okN_bl {n : Nat} (i : Bool) : OkN n (.bl i) := ⟨rfl, rfl, Nat.zero_le _⟩
theorem okN_non {n : Nat} : OkN n .non := ⟨rfl, rfl, Nat.zero_le _⟩
theorem okN_str {n : Nat} {l : List Nat} (h : ∀ c ∈ l, c < 1000) : OkN n (.str (mk l)) := by
  refine ⟨rfl, ?_, Nat.zero_le _⟩
  show (l.toArray).all (· < 0x110000) = true
  rw [List.all_toArray, List.all_eq_true]
  intro c hc
  have := h c hc
  exact decide_eq_true (by omega)
theorem okN_all {n : Nat} : ∀ {ds : List D}, (∀ d ∈ ds, OkN n d) → plainL ds = true ∧ PyData.canLayAll0 (toPyL ds) = true ∧ PyData.depthAll (toPyL ds) ≤ n
  | [], _ => ⟨rfl, rfl, Nat.zero_le _⟩
  | d :: ds, h => by
    have h0 := h d List.mem_cons_self
    obtain ⟨h1, h2, h3⟩ := okN_all fun x hx => h x (List.mem_cons_of_mem _ hx)
    refine ⟨?_, ?_, ?_⟩
    · show (plain d && plainL ds) = true
      rw [h0.p, h1]
      rfl
    · show (PyData.canLay0 (toPy d) && PyData.canLayAll0 (toPyL ds)) = true
      rw [h0.l, h2]
      rfl
    · show max (toPy d).depth (PyData.depthAll (toPyL ds)) ≤ n
      have := h0.d
      omega
theorem okN_lst {n : Nat} {ds : List D} (h : ∀ d ∈ ds, OkN n d) : OkN (n + 1) (.lst ds) := by
  obtain ⟨h1, h2, h3⟩ := okN_all h
  exact ⟨h1, h2, Nat.succ_le_succ h3⟩
theorem okN_tup {n : Nat} {ds : List D} (h : ∀ d ∈ ds, OkN n d) : OkN (n + 1) (.tup ds) := by
  obtain ⟨h1, h2, h3⟩ := okN_all h
  exact ⟨h1, h2, Nat.succ_le_succ h3⟩
theorem okN_tup2 {n : Nat} {a b : D} (ha : OkN n a) (hb : OkN n b) : OkN (n + 1) (.tup [a, b]) := okN_tup fun d hd => by
  rcases List.mem_cons.mp hd with rfl | hd
  · exact ha
  · rw [List.mem_singleton.mp hd]; exact hb
theorem okN_tup3 {n : Nat} {a b c : D} (ha : OkN n a) (hb : OkN n b) (hc : OkN n c) : OkN (n + 1) (.tup [a, b, c]) := okN_tup fun d hd => by
  rcases List.mem_cons.mp hd with rfl | hd
  · exact ha
  · rcases List.mem_cons.mp hd with rfl | hd
    · exact hb
    · rw [List.mem_singleton.mp hd]; exact hc
theorem okN_nil {n : Nat} : OkN (n + 1) (.lst []) := okN_lst fun d hd => nomatch hd
theorem OkN.refl {n : Nat} {d : D} (h : OkN n d) : eqD d d = true := SeqAt.eqv_refl _ h.l
end Dt


set_option Elab.async false
set_option linter.all false
set_option maxRecDepth 100000
set_option maxHeartbeats 1000000
namespace Dt
open PySem PySem.Spec PyProof.Rows L2
def fI : Stmt → Expr
  | .For _ i _ _ _ => i
  | _ => .Constant .none 0 ⟨0, 0, 0, 0⟩
theorem drop_body {st : Stmt} {i : Nat} (h : i < (defBody st).length) : (defBody st).drop i = bodyAt st i :: (defBody st).drop (i + 1) := by
  rw [List.drop_eq_getElem_cons h]
  unfold bodyAt
  rw [List.getD_eq_getElem?_getD, List.getElem?_eq_getElem h]
  rfl
section
variable {X : Cx} {W : WX} {ρ ρ1 ρ2 : List S} {o : Oc} {sd : Stmt} {i k : Nat} {c : Expr} {sts : List Stmt} {pos : Pos} {a tg : Expr}
/-- the i-th statement of a def, and what follows -/
theorem seqd (i : Nat) (hi : decide (i < (defBody sd).length) = true) (h : DS X W (bodyAt sd i) ρ (.next ρ1)) (hk : DSs X W ((defBody sd).drop (i + 1)) ρ1 o) : DSs X W ((defBody sd).drop i) ρ o := by
  rw [drop_body (of_decide_eq_true hi)]
  exact seq h hk
theorem endd (i : Nat) (hi : decide (i < (defBody sd).length) = true) (h : DS X W (bodyAt sd i) ρ o) (hn : ∀ ρ', o ≠ .next ρ') : DSs X W ((defBody sd).drop i) ρ o := by
  rw [drop_body (of_decide_eq_true hi)]
  refine dss h ?_
  cases o with
  | next r => exact absurd rfl (hn r)
  | _ => rfl
theorem fromd (h : DSs X W ((defBody sd).drop 0) ρ o) : DSs X W (defBody sd) ρ o := h
theorem ifn {k0 : Bool} (h : DT X W c ρ k0 ρ1) (hk : k0 = false) : DS X W (.If c sts [] pos) ρ (.next ρ1) := ds_if h (fun z => by rw [hk] at z; cases z) fun _ => dss_nil
theorem ift {k0 : Bool} {sts' : List Stmt} (h : DT X W c ρ k0 ρ1) (hk : k0 = true) (h1 : DSs X W sts ρ1 o) : DS X W (.If c sts sts' pos) ρ o := ds_if h (fun _ => h1) fun z => by rw [hk] at z; cases z
theorem iff {k0 : Bool} {sts' : List Stmt} (h : DT X W c ρ k0 ρ1) (hk : k0 = false) (h1 : DSs X W sts' ρ1 o) : DS X W (.If c sts sts' pos) ρ o := ds_if h (fun z => by rw [hk] at z; cases z) fun _ => h1
theorem b_sorted (m : X.mg "sorted" = none) (g : Gl X "sorted" := by rfl) : Blt X "sorted" (.builtin "sorted") := ⟨g, m, by decide +kernel, by decide, by decide⟩
theorem rt {e : Expr} {d : D} (h : DE X W e ρ (.val d ρ1)) : DS X W (.Return (some e) pos) ρ (.ret d ρ1) := ds_ret h
theorem di_rg {n : Nat} {p1 : Pos} (m : X.mg "range" = none) (h : DE X W a ρ (.val (.int (n : Int)) ρ1)) (hn : n < 1000000) (g : Gl X "range" := by rfl) (hs : starEach [a] X.env = [(false, eval a X.env)] := by rfl) : DI X W tg (.Call (.Name "range" p1) [a] [] pos) ρ (rngD 0 n) ρ1 := by
  have z := di_range1 (tg := tg) (p1 := p1) (pos := pos) (b_range m g) h (by omega) (by omega) hs
  rw [Int.toNat_natCast] at z
  exact z
end
/-- the law's promise -/
def c_law : Con := fun ps r os => ∃ ns : List Int, ns.length ≤ 63 ∧ ps = [.v (.scr ns)] ∧ r = .ret (.bl true) ∧ os = []
end Dt


set_option Elab.async false
set_option linter.all false
set_option maxRecDepth 100000
set_option maxHeartbeats 1000000
namespace K01
open PySem PySem.Spec PyProof.Rows L2 Dt
/-- the text's def x stands in the module -/
def DefIn (K : PySem.W.Frag) (x : Str) (st : Stmt) (f : Addr) (fd : FuncData) : Prop := PySem.W.nsIn K mainGlobals x = some (some (.ref f)) ∧ Fun K x x st f fd
theorem defIn_mk {K : PySem.W.Frag} {x : Str} {st : Stmt} {f : Addr} {oc : Value} {od an : Option Addr} {osl : Array (Option Value)} {kV doc pm cdv ct : Value} (a : PySem.W.nsIn K mainGlobals x = some (some (.ref f)))
    (l : K.lookup f = some ⟨oc, od, .func (PySem.W.fnOf x x (defArgs st) (defBody st) (defScope st) .none kV doc pm an cdv ct), osl⟩) (c : PySem.W.codeIn K cdv x = true) (k : PySem.W.keepIn K (.ref f) = true) : ∃ f fd, DefIn K x st f fd := ⟨f, _, a, fun_mk l c k⟩
/-- .. in a class -/
def MetIn (K : PySem.W.Frag) (C : Addr) (m qual : Str) (st : Stmt) (f : Addr) (fd : FuncData) : Prop := Fun K m qual st f fd ∧ PySem.W.findIn K (.ref C) m = some (some (.ref f)) ∧ PySem.W.isFn K (.ref f) = true ∧ PySem.W.keepIn K (.ref f) = true
theorem metIn_mk {K : PySem.W.Frag} {C : Addr} {m qual : Str} {st : Stmt} {f : Addr} {oc : Value} {od an : Option Addr} {osl : Array (Option Value)} {kV doc pm cdv ct : Value} (a : PySem.W.findIn K (.ref C) m = some (some (.ref f)))
    (l : K.lookup f = some ⟨oc, od, .func (PySem.W.fnOf m qual (defArgs st) (defBody st) (defScope st) .none kV doc pm an cdv ct), osl⟩) (c : PySem.W.codeIn K cdv qual = true) (k : PySem.W.keepIn K (.ref f) = true) (fn : PySem.W.isFn K (.ref f) = true) : ∃ f fd, MetIn K C m qual st f fd := ⟨f, _, fun_mk l c k, a, fn, k⟩
section
variable {K : PySem.W.Frag} {h : Heap} {mg : Str → Option Value}
theorem defAt {x : Str} {st : Stmt} {ps : List Str} (X : K.In h) (G : h.Ns mainGlobals mg) (D : ∃ f fd, DefIn K x st f fd)
    (hb : ∀ (kV doc pm : Value) (an : Option Addr) (cdv ct : Value) (us : List Value), us.length = ps.length → bindArgs (PySem.W.fnOf x x (defArgs st) (defBody st) (defScope st) .none kV doc pm an cdv ct) ⟨us, []⟩ = pure (ps.zip us)) : DefAt K mg x st ps := by
  obtain ⟨f, fd, a, F⟩ := D
  exact ⟨f, fd, F, PySem.W.mg_of X G a, F.binds hb⟩
theorem metAt {C : Addr} {m qual : Str} {st : Stmt} {ps : List Str} (D : ∃ f fd, MetIn K C m qual st f fd)
    (hb : ∀ (kV doc pm : Value) (an : Option Addr) (cdv ct : Value) (us : List Value), us.length = ps.length → bindArgs (PySem.W.fnOf m qual (defArgs st) (defBody st) (defScope st) .none kV doc pm an cdv ct) ⟨us, []⟩ = pure (ps.zip us)) : MetAt K C m qual st ps := by
  obtain ⟨f, fd, F, a, fn, k⟩ := D
  exact ⟨f, fd, F, ⟨a, fn, k⟩, F.binds hb⟩
theorem iniAt {C : Addr} {qual : Str} {st : Stmt} {ps : List Str} (D : ∃ f fd, MetIn K C "__init__" qual st f fd) (mk : PySem.W.makesIn K C = true) (kc : PySem.W.keepIn K (.ref C) = true)
    (hb : ∀ (kV doc pm : Value) (an : Option Addr) (cdv ct : Value) (us : List Value), us.length = ps.length → bindArgs (PySem.W.fnOf "__init__" qual (defArgs st) (defBody st) (defScope st) .none kV doc pm an cdv ct) ⟨us, []⟩ = pure (ps.zip us)) : IniAt K C qual st ps := by
  obtain ⟨f, fd, F, a, fn, k⟩ := D
  exact ⟨f, fd, F, ⟨mk, a, fn, kc⟩, F.binds hb⟩
/-- classes -/
theorem kit_ref {t : Value} {C : Addr} {v : Bool} (n : (t == Value.ref C) = false) (c : (PySem.W.clsIn K C).isSome = true) (ty : PySem.W.typeIn K (.ref C) = some (.type "type")) (s : PySem.W.subIn K t (.ref C) = some v) : PySem.W.kitOne K t (.ref C) = some v := by
  unfold PySem.W.kitOne
  rw [n, if_neg Bool.false_ne_true]
  show (if ((PySem.W.clsIn K C).isSome && PySem.W.typeIn K (.ref C) == some (.type "type")) = true then PySem.W.subIn K t (.ref C) else none) = _
  rw [c, ty, if_pos (by rfl)]
  exact s
theorem kit_self {C : Addr} : PySem.W.kitOne K (.ref C) (.ref C) = some true := by
  unfold PySem.W.kitOne
  rw [if_pos (beq_self_eq_true _)]
theorem kit_verr {C : Addr} (s : PySem.W.subIn K (.ref C) (.type "ValueError") = some true) : PySem.W.kitOne K (.ref C) (.type "ValueError") = some true := by
  unfold PySem.W.kitOne
  rw [if_neg (by exact Bool.false_ne_true)]
  show (if PySem.W.kitMeta "ValueError" = true then PySem.W.subIn K (.ref C) (.type "ValueError") else none) = _
  rw [if_pos (by decide +kernel)]
  exact s
theorem isn_mk {CB E : Addr} {x : Str} {b : Bool} (X : K.In h) (G : h.Ns mainGlobals mg) (a : PySem.W.nsIn K mainGlobals x = some (some (.ref E))) (n : (Value.ref CB == Value.ref E) = false) (c : (PySem.W.clsIn K E).isSome = true) (ty : PySem.W.typeIn K (.ref E) = some (.type "type")) (s : PySem.W.subIn K (.ref CB) (.ref E) = some b) : Isn K mg CB x b :=
  ⟨E, PySem.W.mg_of X G a, kit_ref n c ty s⟩
theorem isn_self {CB : Addr} {x : Str} (X : K.In h) (G : h.Ns mainGlobals mg) (a : PySem.W.nsIn K mainGlobals x = some (some (.ref CB))) : Isn K mg CB x true := ⟨CB, PySem.W.mg_of X G a, kit_self⟩
theorem at_mk {C : Addr} {x : Str} (X : K.In h) (G : h.Ns mainGlobals mg) (a : PySem.W.nsIn K mainGlobals x = some (some (.ref C))) : mg x = some (.ref C) := PySem.W.mg_of X G a
theorem int_mk {x : Str} {i : Int} {t : Tok} (X : K.In h) (G : h.Ns mainGlobals mg) (a : PySem.W.nsIn K mainGlobals x = some (some (.int i t))) : ∃ t, mg x = some (.int i t) := ⟨_, PySem.W.mg_of X G a⟩
theorem str_mk {x : Str} {i : Str} {t : Tok} (X : K.In h) (G : h.Ns mainGlobals mg) (a : PySem.W.nsIn K mainGlobals x = some (some (.str i t))) : ∃ t, mg x = some (.str i t) := ⟨_, PySem.W.mg_of X G a⟩
theorem bn (X : K.In h) (G : h.Ns mainGlobals mg) {x : Str} (a : PySem.W.nsIn K mainGlobals x = some none) : mg x = none := PySem.W.mg_none_of X G a
theorem sett_mk {CB E : Addr} (X : K.In h) (G : h.Ns mainGlobals mg) (a : PySem.W.nsIn K mainGlobals "SettingError" = some (some (.ref E))) (x : PySem.W.exmOne K (.ref CB) (.ref E) = some true) : ∃ E, mg "SettingError" = some (.ref E) ∧ PySem.W.exmOne K (.ref CB) (.ref E) = some true := ⟨E, PySem.W.mg_of X G a, x⟩
theorem exc_mk {CB : Addr} {x : Str} (X : K.In h) (G : h.Ns mainGlobals mg) (a : PySem.W.nsIn K mainGlobals x = some (some (.ref CB))) (q : PySem.W.excIn K CB [.type "ValueError", .type "Exception", .type "BaseException", .type "object"] "ValueError.__new__" = true) (k : PySem.W.keepIn K (.ref CB) = true)
    (b : PySem.W.subIn K (.ref CB) (.type "BaseException") = some true) (t : PySem.W.typeIn K (.ref CB) = some (.type "type")) : ExcAt K mg x CB := ⟨q, PySem.W.mg_of X G a, k, b, t⟩
/-- a dict of the top -/
theorem ns_other {P : Params} {dk : Addr} {es : Array DictEntry} {n : Nat} {ks : List Str} {z : Str} (l : K.lookup dk = some ⟨.type "dict", none, .dict es n, #[]⟩) (hk : es.toList.map He.keyOf = He.keysIn P ks) (hz : ∀ k ∈ ks, k ≠ z) : PySem.W.nsIn K dk z = some none := by
  unfold PySem.W.nsIn
  rw [l]
  dsimp only
  have key : ∀ (l : List DictEntry) (ks : List Str), l.map He.keyOf = He.keysIn P ks → (∀ k ∈ ks, k ≠ z) → l.find? (·.key.isStr z) = none ∧ l.any (·.refKey) = false := by
    intro l
    induction l with
    | nil => exact fun _ _ _ => ⟨rfl, rfl⟩
    | cons e r ih =>
      intro ks h hz
      cases ks with
      | nil => cases h
      | cons k ks =>
        have h1 : He.keyOf e :: r.map He.keyOf = some (k, PyData.keyHash P k) :: He.keysIn P ks := h
        injection h1 with h2 h3
        obtain ⟨g1, g2⟩ := ih ks h3 fun x hx => hz x (List.mem_cons_of_mem _ hx)
        unfold He.keyOf at h2
        split at h2
        · rename_i x t q
          have h4 := Option.some.inj h2
          obtain ⟨h5, h6⟩ := Prod.mk.inj h4
          have hx := hz k List.mem_cons_self
          have e1 : e.key.isStr z = false := by
            rw [q]
            show (x == z) = false
            rw [h5]
            exact beq_eq_false_iff_ne.mpr hx
          have e2 : e.refKey = false := by
            unfold DictEntry.refKey
            rw [q]
          exact ⟨by rw [List.find?_cons, e1]; exact g1, by rw [List.any_cons, e2, g2]; rfl⟩
        · cases h2
  obtain ⟨g1, g2⟩ := key es.toList ks hk hz
  rw [g1, g2]
  rfl
theorem esc_mk {wo : World} {dk : Addr} {es : Array DictEntry} {n : Nat} {t1 t2 t3 : Tok} (X : K.In h) (G : h.Ns mainGlobals mg) (a : PySem.W.nsIn K mainGlobals "ESCAPES" = some (some (.ref dk))) (l : K.lookup dk = some ⟨.type "dict", none, .dict es n, #[]⟩) (hk : es.toList.map He.keyOf = He.keysIn wo.params ["\\", "\"", "n"]) (low : (dk == sysModules) = false)
    (e1 : PySem.W.nsIn K dk "\\" = some (some (.str "\\" t1))) (e2 : PySem.W.nsIn K dk "\"" = some (some (.str "\"" t2))) (e3 : PySem.W.nsIn K dk "n" = some (some (.str "\n" t3))) : EscAt K wo mg :=
  ⟨dk, es, n, t1, t2, t3, ⟨l, He.keysLit_of hk, low⟩, PySem.W.mg_of X G a, e1, e2, e3, fun z z1 z2 z3 => ns_other l hk (by
    intro k hk
    simp only [List.mem_cons, List.not_mem_nil, or_false] at hk
    rcases hk with rfl | rfl | rfl
    · exact fun q => z1 q.symm
    · exact fun q => z2 q.symm
    · exact fun q => z3 q.symm)⟩
/-- the class Fault -/
theorem oex_mk {C : Addr} {nm q : Str} {N : Addr} {bs bm : List Value} {sn sub ab col dd k0 k1 k2 k3 k5} (l : K.lookup C = some (excClassObj nm q C N bs bm true sn sub ab col dd k0 k1 k2 k3 k5 "ValueError.__new__")) (r : PySem.HandSPX.refsVE bm = true)
    (sa : PySem.W.findIn K (.ref C) "__setattr__" = some (some (.builtin "object.__setattr__"))) (ex : PySem.W.subIn K (.ref C) (.type "BaseException") = some true) (ty : PySem.W.typeIn K (.ref C) = some (.type "type")) (kc : PySem.W.keepIn K (.ref C) = true) : OexC K C :=
  ⟨⟨nm, q, N, bs, bm, sn, sub, ab, col, dd, k0, k1, k2, k3, k5, l, r⟩, sa, ex, ty, kc⟩
theorem sup_mk {CE : Addr} (X : K.In h) (G : h.Ns mainGlobals mg) (a : PySem.W.nsIn K mainGlobals "SettingError" = some (some (.ref CE))) (s : PySem.W.specialIn K (.ref CE) "__getattribute__" = some (some (.builtin "type.__getattribute__"))) (r : PySem.W.readsIn K CE (.type "type") = true) (v : PySem.W.findCls K (.ref CE) (.type "type") "__init__" = some (.val (.builtin "ValueError.__init__"))) :
    ∃ CE, mg "SettingError" = some (.ref CE) ∧ PySem.W.specialIn K (.ref CE) "__getattribute__" = some (some (.builtin "type.__getattribute__")) ∧ PySem.W.readsIn K CE (.type "type") = true ∧ PySem.W.findCls K (.ref CE) (.type "type") "__init__" = some (.val (.builtin "ValueError.__init__")) := ⟨CE, PySem.W.mg_of X G a, s, r, v⟩
theorem fini_mk {CF : Addr} (D : ∃ f fd, MetIn K CF "__init__" "Fault.__init__" sFltI f fd) : ∃ fI fd, PySem.W.findIn K (.ref CF) "__init__" = some (some (.ref fI)) ∧ PySem.W.typeIn K (.ref fI) = some (.type "function") ∧ Fun K "__init__" "Fault.__init__" sFltI fI fd ∧ Binds K fd ["self", "row", "word"] [] := by
  obtain ⟨f, fd, F, a, fn, k⟩ := D
  refine ⟨f, fd, a, ?_, F, F.binds fun _ _ _ _ _ _ us hl => match us, hl with | [_, _, _], _ => rfl⟩
  unfold PySem.W.isFn at fn
  exact eq_of_beq fn
end
theorem sp_law {K : PySem.W.Frag} {H : Hp} {a : Addr} {ns : List Int} (hl : ns.length ≤ 63) (hS : SqL K H a (ns.map V.int)) : spC K c_law [.ref a] H (fun v _ => v = .bl true) fun _ _ _ => False :=
  ⟨H, [.v (.scr ns)], [], [], [], .ret (.bl true), [], Same.refl H, .v (.scr hS) .nil, ⟨ns, hl, rfl, rfl, rfl⟩, fun I' H' _ _ _ v r => by cases r; rfl⟩
theorem no_exc {P : Program} {w : World} {H : Hp} {s : Shared} {e : Value} {s' : Shared} (h : L2.CX P w [] H s (fun _ _ _ => False) e s') : False := by
  obtain ⟨_, _, _, _, _, _, _, _, _, _, _, _, z⟩ := h
  exact z
theorem walk_law {l : PySem.W.OpenLaw} {q : Program} {loose : List Str} {XP : (Str → Option Value) → Heap → Prop} {YP : World → Heap → Prop} {d : DefRec} {K : Params → PySem.W.Frag} {k : Nat} (hr : Room k callerA) (hn : l.most = some 63) (hdf : d.params.defaults = [])
    (hY : ∀ (w : World) (h : Heap), YP w h → (K w.params).In h)
    (F : ∀ (w : World) (mg : Str → Option Value) (fa : Addr) (h : Heap), (K w.params).In h → h.Ns mainGlobals mg → mg d.name = some (.ref fa) →
      ∃ fd : FuncData, (∀ (s : Shared) (u : Value), BindsTo s fd ⟨[u], []⟩ [("script", u)]) ∧ ∀ base : Heap, (K w.params).In base → base.Ns mainGlobals mg → FnOk l.prog w (K w.params) mg base (L2.CX l.prog w) k fa fd ["script"] (spC (K w.params) c_law)) :
    PySem.W.WalkO q loose XP YP l.row.toRowW d [] (fun f vs => PySem.call f vs) :=
  L2.walk_of (n := 63) (k := k) (x := "script") (CX := fun w => L2.CX l.prog w) (sp := fun w => spC (K w.params) c_law) hn (by decide) hdf hr hY F (fun w H a ns hl _ hS => sp_law hl hS) fun w H s e s' z => no_exc z
end K01


set_option Elab.async false
set_option linter.all false
set_option maxRecDepth 100000
set_option maxHeartbeats 4000000
namespace K01
open PySem PySem.Spec PyProof.Rows L2 Dt
/-! ### the law's own: told -/
def tRd : Stmt → Expr
  | .Try (.Assign _ (.Call (.Attribute o _ _) _ _ _) _ :: _) _ _ _ _ => o
  | _ => .Constant .none 0 ⟨0, 0, 0, 0⟩
section
variable {Pr : Program} {wo : World} {K : PySem.W.Frag} {mg : Str → Option Value} {base : Heap} {CR CF CB : Addr}
abbrev sTold : Stmt := topS 63
abbrev nTold : List Str := ["text", "caught", "found", "e"]
theorem sc_told : FnScope nTold ["text"] (defScope sTold) := ⟨rfl, rfl, rfl, by decide +kernel, rfl, by decide +kernel, by decide +kernel⟩
def toldD (u : WS) : D := match u.wrong with
  | [] => .lst ((spotsM u.rows).eK.map D.str)
  | (j, w) :: _ => fltT j w
def c_told : Con := fun ps r os => ∃ l : List Nat, l.length ≤ 40000 ∧ noLong (splitC 10 l) ∧ ps = [.v (sD l)] ∧ r = .ret (toldD (walkM l)) ∧ os = []
theorem ok_told (F : DefAt K mg "_law_told" sTold ["text"]) (R : FltI K mg CF) (BK : BookAt K mg CB) (GR : FnAt Pr wo K mg base "read" 7 ["text"] (c_read CB CR CF)) (GP : MtAt Pr wo K mg base CB "paths" 3 ["self"] (c_paths CB CR)) (GE : FnAt Pr wo K mg base "_law_refusal" 1 ["caught"] (c_refF CF)) :
    FnAt Pr wo K mg base "_law_told" 8 ["text"] c_told := by
  refine fnAt (n := 3) F sc_told (fun qs r os h => by obtain ⟨_, _, _, rfl, _⟩ := h; rfl) rfl fun f cdv A outer s H E cz qs r os h => ?_
  obtain ⟨l, hl, hn, rfl, rfl, rfl⟩ := h
  obtain ⟨CE, hm, hx⟩ := R.caught
  obtain ⟨hs, hr⟩ := walk_rows hl
  unfold toldD
  cases q : (walkM l).wrong with
  | nil =>
    have e : readR CB CR CF (walkM l) = .own (bkO CB CR (walkM l).rows) := by unfold readR; rw [q]
    have body : ∀ (W' : WX) (pn : List (Addr × Obj)) (xe : Value → Shared → Prop), Takes ((Xd Pr wo K mg base nTold "_law_told" sTold f cdv A outer s H E).tr pn xe) W' → PassesOwn (model Pr wo) (Xd Pr wo K mg base nTold "_law_told" sTold f cdv A outer s H E).A (Xd Pr wo K mg base nTold "_law_told" sTold f cdv A outer s H E).env xe →
        DSs ((Xd Pr wo K mg base nTold "_law_told" sTold f cdv A outer s H E).tr pn xe) W' (tryB (bodyAt sTold 2)) [.v (sD l), .v .non, .v .non, .no] (.next [.v (sD l), .v .non, .v (.lst ((spotsM (walkM l).rows).eK.map D.str)), .no]) := fun W' pn xe tk po => by
      have cz' := cz.try_ tk po
      have dr : DE ((Xd Pr wo K mg base nTold "_law_told" sTold f cdv A outer s H E).tr pn xe) W' (tRd (bodyAt sTold 2)) [.v (sD l), .v .non, .v .non, .no] (.val (bkD CB CR (walkM l).rows (.lst [])) [.v (sD l), .v .non, .v .non, .no]) :=
        de_still (o := bkO CB CR (walkM l).rows) (de_callV (r := .own (bkO CB CR (walkM l).rows)) cz' GR (by decide) (da_cons (va 0 rfl) da_nil) ⟨l, hl, hn, rfl, e.symm, rfl⟩)
      exact dss1 (st 2 cz' (de_still (de_mt0 (r := .own (.lst ((spotsM (walkM l).rows).eK.map D.str))) cz' GP (by decide) BK.cl dr ⟨_, _, hr, hs, rfl, rfl, rfl⟩ (by decide +kernel))))
    exact ⟨_, seq (st 1 cz de_non) (seq (st 2 cz de_non) (seq (ds_try (i := 3) (iy := 1) cz rfl rfl rfl rfl rfl rfl rfl (by decide) ⟨rfl, by decide, .inl hm⟩ body rfl) (ret (ife_t (dt_isN (va 1 rfl)) rfl (va 2 rfl))))), .ret rfl⟩
  | cons p wr =>
    obtain ⟨j, w⟩ := p
    have e : readR CB CR CF (walkM l) = .exc (fltX CF j w) := by unfold readR; rw [q]
    have body : ∀ (W' : WX) (pn : List (Addr × Obj)) (xe : Value → Shared → Prop), Takes ((Xd Pr wo K mg base nTold "_law_told" sTold f cdv A outer s H E).tr pn xe) W' → PassesOwn (model Pr wo) (Xd Pr wo K mg base nTold "_law_told" sTold f cdv A outer s H E).A (Xd Pr wo K mg base nTold "_law_told" sTold f cdv A outer s H E).env xe →
        DSs ((Xd Pr wo K mg base nTold "_law_told" sTold f cdv A outer s H E).tr pn xe) W' (tryB (bodyAt sTold 2)) [.v (sD l), .v .non, .v .non, .no] (.exc (fltX CF j w) [.v (sD l), .v .non, .v .non, .no]) := fun W' pn xe tk po => by
      have cz' := cz.try_ tk po
      have dr : DE ((Xd Pr wo K mg base nTold "_law_told" sTold f cdv A outer s H E).tr pn xe) W' (tRd (bodyAt sTold 2)) [.v (sD l), .v .non, .v .non, .no] (.exc (fltX CF j w) [.v (sD l), .v .non, .v .non, .no]) :=
        de_callV (r := .exc (fltX CF j w)) cz' GR (by decide) (da_cons (va 0 rfl) da_nil) ⟨l, hl, hn, rfl, e.symm, rfl⟩
      exact dss1 (stx 2 cz' (de_mt0X cz' GP (by decide) BK.cl dr))
    exact ⟨_, seq (st 1 cz de_non) (seq (st 2 cz de_non) (seq (ds_try (i := 3) (iy := 1) cz rfl rfl rfl rfl rfl rfl rfl (by decide) ⟨rfl, by decide, .inl hm⟩ body (.inl ⟨hx, rfl⟩)) (ret (ife_f (dt_isN (va 1 rfl)) rfl (de_callV (r := .ret (fltT j w)) cz GE (by decide) (da_cons (va 1 rfl) da_nil) ⟨j, w, rfl, rfl, rfl⟩))))), .ret rfl⟩
end
end K01


set_option Elab.async false
set_option linter.all false
set_option maxRecDepth 100000
set_option maxHeartbeats 4000000
namespace K01
open PySem PySem.Spec PyProof.Rows L2 Dt
/-! ### the law's own: a faulty row (printed by gen11.py) -/
def signsF : List Nat := [65, 66, 67, 88, 89, 90, 33, 36, 38, 39, 40, 41, 42, 43, 44, 45, 46, 47, 58, 59, 60, 62, 63, 64, 94, 123, 124, 125, 126]
theorem ixs2 {X : Cx} {W : WX} {ρ ρ1 ρ2 : List S} {a b : Expr} {pos : Pos} {l : List Nat} {i ch : Nat} (hz : l.length ≤ 100000) (hc : l[i]? = some ch) (h : DE X W a ρ (.val (.str (mk l)) ρ1)) (h1 : DE X W b ρ1 (.val (.int (i : Int)) ρ2)) (hs : PlainIx b := by exact fun _ _ => rfl) : DE X W (.Subscript a b pos) ρ (.val (.str (mk [ch])) ρ2) :=
  de_ix h h1 (by
    show (if (mk l).length ≤ sizeLine then (atI l (i : Int)).map fun c => D.str ⟨#[c]⟩ else none) = _
    rw [if_pos (show (mk l).length ≤ sizeLine from szL hz), atI_nat hc]
    rfl) hs
def ieT : Stmt → Expr
  | .Return (some (.IfExp c _ _ _)) _ => c
  | _ => .Constant .none 0 ⟨0, 0, 0, 0⟩
def fpD (p : List Nat × List Nat) : D := .tup [sD p.1, sD p.2]
def fG1 (c : Nat) : List (List Nat × List Nat) := [([113, 32, 61, 32, 9, 53], wSign), ([35, 32, 9], wSign), ([9], wSign), ([91, 113, 9, 93], wSign)]
def fG2 (c : Nat) : List (List Nat × List Nat) := [((([91, 113] ++ [c]) ++ [93]), wHead), ([91, 93], wHead), ([91, 113], wHead), ([91, 32, 113, 93], wHead)]
def fG3 (c : Nat) : List (List Nat × List Nat) := [([91, 97, 46, 98, 46, 99, 46, 100, 46, 101, 93], wHead)]
def fG4 (c : Nat) : List (List Nat × List Nat) := [([91, 113, 46, 46, 114, 93], wHead), ([91, 97, 98, 99, 100, 101, 102, 103, 104, 105, 106, 107, 108, 109, 93], wHead), ([91, 113, 93, 32, 120], wBehind), ([91, 113, 93, 93], wBehind)]
def fG5 (c : Nat) : List (List Nat × List Nat) := [([113], wName), ((([113] ++ [c]) ++ [32, 61, 32, 49]), wName), ([61, 32, 49], wName), ([113, 32, 49], wName), ([113, 46, 114, 32, 61, 32, 49], wName)]
def fG6 (c : Nat) : List (List Nat × List Nat) := [([97, 98, 99, 100, 101, 102, 103, 104, 105, 106, 107, 108, 109, 32, 61, 32, 49], wName), ([113, 32, 61], wValue), (([113, 32, 61, 32] ++ [c]), wValue), ([113, 32, 61, 32, 48, 49], wValue)]
def fG7 (c : Nat) : List (List Nat × List Nat) := [([113, 32, 61, 32, 45, 48], wValue), ([113, 32, 61, 32, 49, 48, 48, 48, 48, 48, 48, 48, 48, 48], wValue), ([113, 32, 61, 32, 34, 120], wValue)]
def fG8 (c : Nat) : List (List Nat × List Nat) := [([113, 32, 61, 32, 34, 92, 120, 34], wValue), ([113, 32, 61, 32, 91, 49], wValue), ([113, 32, 61, 32, 91, 49, 44, 93], wValue), ([113, 32, 61, 32, 91, 44, 93], wValue)]
def fG9 (c : Nat) : List (List Nat × List Nat) := [([113, 32, 61, 32, 91, 91, 49, 93, 93], wValue), ([113, 32, 61, 32, 89, 101, 115], wValue), ([113, 32, 61, 32, 53, 120], wBehind), (([113, 32, 61, 32, 121, 101, 115] ++ [c]), wBehind)]
def fG10 (c : Nat) : List (List Nat × List Nat) := [([113, 32, 61, 32, 34, 120, 34, 32, 121], wBehind), ([113, 32, 61, 32, 91, 49, 93, 32, 50], wBehind)]
def fG11 (c : Nat) : List (List Nat × List Nat) := [([113, 32, 61, 32, 34, 34, 34, 32], wBehind), ([113, 32, 61, 32, 34, 34, 34, 120], wBehind), ((([113, 32, 61, 32, 34] ++ List.replicate 201 120) ++ [34]), wValue)]
def someL (c : Nat) : List (List Nat × List Nat) := fG1 c ++ fG2 c ++ fG3 c ++ fG4 c ++ fG5 c ++ fG6 c ++ fG7 c ++ fG8 c ++ fG9 c ++ fG10 c ++ fG11 c
def fP1 (c : Nat) : List (List Nat × List Nat) := fG1 c
def fP2 (c : Nat) : List (List Nat × List Nat) := fP1 c ++ fG2 c
def fP3 (c : Nat) : List (List Nat × List Nat) := fP2 c ++ fG3 c
def fP4 (c : Nat) : List (List Nat × List Nat) := fP3 c ++ fG4 c
def fP5 (c : Nat) : List (List Nat × List Nat) := fP4 c ++ fG5 c
def fP6 (c : Nat) : List (List Nat × List Nat) := fP5 c ++ fG6 c
def fP7 (c : Nat) : List (List Nat × List Nat) := fP6 c ++ fG7 c
def fP8 (c : Nat) : List (List Nat × List Nat) := fP7 c ++ fG8 c
def fP9 (c : Nat) : List (List Nat × List Nat) := fP8 c ++ fG9 c
def fP10 (c : Nat) : List (List Nat × List Nat) := fP9 c ++ fG10 c
def fP11 (c : Nat) : List (List Nat × List Nat) := fP10 c ++ fG11 c
theorem some_len (c : Nat) : (someL c).length = 38 := rfl
def pickX {α : Type} (d0 : α) (ns : List Int) (n : Nat) (l : List α) : α := (l[drawN ns n l.length]?).getD d0
theorem pickX_mem {α : Type} {d0 : α} {ns : List Int} {n : Nat} {l : List α} (h : 0 < l.length) : pickX d0 ns n l ∈ l := by
  unfold pickX
  rw [List.getElem?_eq_getElem (draw_lt h)]
  exact List.getElem_mem _
theorem pickD_map {α : Type} {d0 : α} {ns : List Int} {n : Nat} {l : List α} (g : α → D) (h : 0 < l.length) : pickD ns n (l.map g) = g (pickX d0 ns n l) := by
  unfold pickX pickD
  rw [List.length_map, List.getElem?_map, List.getElem?_eq_getElem (draw_lt h)]
  rfl
def eqP (p q : List Nat × List Nat) : Bool := decide (p.1 = q.1) && decide (p.2 = q.2)
theorem eqD_fp (p q : List Nat × List Nat) : eqD (fpD p) (fpD q) = eqP p q := by
  have h1 := eqF_str (mk p.1) (mk q.1)
  have h2 := eqF_str (mk p.2) (mk q.2)
  rw [dec_mk] at h1 h2
  unfold eqP
  rw [← h1, ← h2]
  simp [eqD, eqF, fpD, toPy, toPyL, PyData.eqv, PyData.eqvAll]
def lowP (p : List Nat × List Nat) : Bool := p.1.all (fun c => decide (c < 1000)) && p.2.all (fun c => decide (c < 1000))
theorem okN_fp {p : List Nat × List Nat} (h : lowP p = true) : OkN 1 (fpD p) := by
  unfold lowP at h
  rw [Bool.and_eq_true, List.all_eq_true, List.all_eq_true] at h
  exact okN_tup2 (n := 0) (okN_str fun c hc => of_decide_eq_true (h.1 c hc)) (okN_str fun c hc => of_decide_eq_true (h.2 c hc))
theorem low_some : (signsF.all fun c => (someL c).all lowP) = true := by decide +kernel
theorem sgn_mem {ns : List Int} {n : Nat} : pickX 0 ns n signsF ∈ signsF := pickX_mem (by decide)
def sgnF (ns : List Int) (n : Nat) : Nat := pickX 0 ns n signsF
/-- a faulty row, its word -/
def faultyP (ns : List Int) (n : Nat) : List Nat × List Nat := if eqP (pickX ([], []) ns (n + 1) (someL (sgnF ns n))) ([113, 32, 61, 32, 45], wValue) = true then ([113, 32, 61, 32, 91], wValue) else pickX ([], []) ns (n + 1) (someL (sgnF ns n))
def gFy (ns : List Int) (n : Nat) : D × Nat := (fpD (faultyP ns n), n + 2)
end K01


set_option Elab.async false
set_option linter.all false
set_option maxRecDepth 100000
set_option maxHeartbeats 4000000
namespace K01
open PySem PySem.Spec PyProof.Rows L2 Dt
section
variable {Pr : Program} {wo : World} {K : PySem.W.Frag} {mg : Str → Option Value} {base : Heap} {CR CF CB : Addr}
abbrev sFy : Stmt := topS 64
abbrev nFy : List Str := ["script", "town", "signs", "sign", "some", "found"]
theorem sc_fy : FnScope nFy ["script", "town"] (defScope sFy) := ⟨rfl, rfl, rfl, by decide +kernel, rfl, by decide +kernel, by decide +kernel⟩
abbrev XF (Pr : Program) (wo : World) (K : PySem.W.Frag) (mg : Str → Option Value) (base : Heap) (f : Addr) (cdv : Value) (A : Around) (outer : List PySem.Env) (s : Shared) (H : Hp) (E : XK) : Cx := Xd Pr wo K mg base nFy "_law_faulty" sFy f cdv A outer s H E
variable {f : Addr} {cdv : Value} {A : Around} {outer : List PySem.Env} {s : Shared} {H : Hp} {E : XK} {ns : List Int} {n c : Nat}
theorem mul201 {ρ : List S} {a1 : Nat} {a2 : Nat} {p1 p2 p3 : Pos} : DE (XF Pr wo K mg base f cdv A outer s H E) (Wd0 E) (.BinOp (.Constant (.str "x") a1 p1) .Mult (.Constant (.int 201) a2 p2) p3) ρ (.val (sD (List.replicate 201 120)) ρ) :=
  DE.cast (de_mulS (z := "x") (n := 201) (by decide) (by decide) de_str de_int) (congrArg D.str (str_ext (by decide +kernel)))
theorem hsg (ns : List Int) (n : Nat) : signsF[drawN ns n signsF.length]? = some (sgnF ns n) := by
  unfold sgnF pickX
  rw [List.getElem?_eq_getElem (draw_lt (by decide))]
  rfl
theorem fy_a (cz : Cz (XF Pr wo K mg base f cdv A outer s H E) (Wd0 E) 4) : DS (XF Pr wo K mg base f cdv A outer s H E) (Wd0 E) (bodyAt sFy 0) [.v (.scr ns), .own (some 0) (tw n), .no, .no, .no, .no] (.next [.v (.scr ns), .own (some 0) (tw n), .v (sD signsF), .no, .no, .no]) :=
  st (d := sD signsF) 2 cz (cs (y := signsF) (by decide +kernel))
theorem fy_b (cz : Cz (XF Pr wo K mg base f cdv A outer s H E) (Wd0 E) 4) (B : Blts mg) (GD : FnAt Pr wo K mg base "_law_draw" 3 ["script", "town", "many"] c_draw) (hn : n < 1000) (hc : sgnF ns n = c) : DS (XF Pr wo K mg base f cdv A outer s H E) (Wd0 E) (bodyAt sFy 1) [.v (.scr ns), .own (some 0) (tw n), .v (sD signsF), .no, .no, .no] (.next [.v (.scr ns), .own (some 0) (tw (n + 1)), .v (sD signsF), .v (sD [c]), .no, .no]) :=
  DS.cast (st (d := sD [c]) 3 cz (ixs2 (i := drawN ns n signsF.length) (show signsF.length ≤ 100000 by decide) (by rw [hsg, hc]) (va 2 rfl) (de_draw (it := 1) (m := signsF.length) cz GD (by decide) (va 0 rfl) rfl rfl (de_len (b_len B.len) (db_of (va 2 rfl)) (Dt.len_str (show signsF.length ≤ 100000 by decide))) rfl (by decide) (by omega)))) rfl
theorem fy_s1 (cz : Cz (XF Pr wo K mg base f cdv A outer s H E) (Wd0 E) 4) (B : Blts mg) (GD : FnAt Pr wo K mg base "_law_draw" 3 ["script", "town", "many"] c_draw) (hn : n < 1000) (hc : sgnF ns n = c) {o : Oc} (h : DSs (XF Pr wo K mg base f cdv A outer s H E) (Wd0 E) ((defBody sFy).drop 2) [.v (.scr ns), .own (some 0) (tw (n + 1)), .v (sD signsF), .v (sD [c]), .no, .no] o) :
      DSs (XF Pr wo K mg base f cdv A outer s H E) (Wd0 E) (defBody sFy) (toS 0 [P.v (.scr ns), P.io (tw n)] ++ List.replicate 4 .no) o :=
  fromd (seqd 0 (by decide +kernel) (fy_a cz) (seqd 1 (by decide +kernel) (fy_b cz B GD hn hc) h))
theorem fy_t1 (cz : Cz (XF Pr wo K mg base f cdv A outer s H E) (Wd0 E) 4) : DS (XF Pr wo K mg base f cdv A outer s H E) (Wd0 E) (bodyAt sFy 2) [.v (.scr ns), .own (some 0) (tw (n + 1)), .v (sD signsF), .v (sD [c]), .no, .no] (.next [.v (.scr ns), .own (some 0) (tw (n + 1)), .v (sD signsF), .v (sD [c]), .own none (.lst ((fP1 c).map fpD)), .no]) :=
    DS.cast (sto 4 cz (de_lst (da_cons (de_tup (da_cons (cs (y := [113, 32, 61, 32, 9, 53]) (by decide +kernel)) (da_cons (cs (y := wSign) (by decide +kernel)) da_nil)) (show 2 ≤ sizeLine by decide)) (da_cons (de_tup (da_cons (cs (y := [35, 32, 9]) (by decide +kernel)) (da_cons (cs (y := wSign) (by decide +kernel)) da_nil)) (show 2 ≤ sizeLine by decide)) (da_cons (de_tup (da_cons (cs (y := [9]) (by decide +kernel)) (da_cons (cs (y := wSign) (by decide +kernel)) da_nil)) (show 2 ≤ sizeLine by decide)) (da_cons (de_tup (da_cons (cs (y := [91, 113, 9, 93]) (by decide +kernel)) (da_cons (cs (y := wSign) (by decide +kernel)) da_nil)) (show 2 ≤ sizeLine by decide)) da_nil)))) (by show 4 ≤ sizeLine; decide))) rfl
theorem fy_t2 (cz : Cz (XF Pr wo K mg base f cdv A outer s H E) (Wd0 E) 4) : DS (XF Pr wo K mg base f cdv A outer s H E) (Wd0 E) (bodyAt sFy 3) [.v (.scr ns), .own (some 0) (tw (n + 1)), .v (sD signsF), .v (sD [c]), .own none (.lst ((fP1 c).map fpD)), .no] (.next [.v (.scr ns), .own (some 0) (tw (n + 1)), .v (sD signsF), .v (sD [c]), .own none (.lst ((fP2 c).map fpD)), .no]) :=
    DS.cast (sto 4 cz (de_cat (ds := (fP1 c).map fpD) (by show 4 + 4 ≤ sizeLine; decide) (vf 4 rfl) (de_still (de_lst (da_cons (de_tup (da_cons (cats (by simp) (cats (by simp) (cs (y := [91, 113]) (by decide +kernel)) (va 3 rfl)) (cs (y := [93]) (by decide +kernel))) (da_cons (cs (y := wHead) (by decide +kernel)) da_nil)) (show 2 ≤ sizeLine by decide)) (da_cons (de_tup (da_cons (cs (y := [91, 93]) (by decide +kernel)) (da_cons (cs (y := wHead) (by decide +kernel)) da_nil)) (show 2 ≤ sizeLine by decide)) (da_cons (de_tup (da_cons (cs (y := [91, 113]) (by decide +kernel)) (da_cons (cs (y := wHead) (by decide +kernel)) da_nil)) (show 2 ≤ sizeLine by decide)) (da_cons (de_tup (da_cons (cs (y := [91, 32, 113, 93]) (by decide +kernel)) (da_cons (cs (y := wHead) (by decide +kernel)) da_nil)) (show 2 ≤ sizeLine by decide)) da_nil)))) (by show 4 ≤ sizeLine; decide))))) (by rw [fP2, List.map_append]; rfl)
theorem fy_t3 (cz : Cz (XF Pr wo K mg base f cdv A outer s H E) (Wd0 E) 4) : DS (XF Pr wo K mg base f cdv A outer s H E) (Wd0 E) (bodyAt sFy 4) [.v (.scr ns), .own (some 0) (tw (n + 1)), .v (sD signsF), .v (sD [c]), .own none (.lst ((fP2 c).map fpD)), .no] (.next [.v (.scr ns), .own (some 0) (tw (n + 1)), .v (sD signsF), .v (sD [c]), .own none (.lst ((fP3 c).map fpD)), .no]) :=
    DS.cast (ds_append (ds := (fP2 c).map fpD) (i := 4) rfl (.inl rfl) (de_tup (da_cons (cs (y := [91, 97, 46, 98, 46, 99, 46, 100, 46, 101, 93]) (by decide +kernel)) (da_cons (cs (y := wHead) (by decide +kernel)) da_nil)) (show 2 ≤ sizeLine by decide)) rfl ⟨_, _, rfl⟩ (show 8 < sizeLine by decide)) (by rw [fP3, List.map_append]; rfl)
theorem fy_t4 (cz : Cz (XF Pr wo K mg base f cdv A outer s H E) (Wd0 E) 4) : DS (XF Pr wo K mg base f cdv A outer s H E) (Wd0 E) (bodyAt sFy 5) [.v (.scr ns), .own (some 0) (tw (n + 1)), .v (sD signsF), .v (sD [c]), .own none (.lst ((fP3 c).map fpD)), .no] (.next [.v (.scr ns), .own (some 0) (tw (n + 1)), .v (sD signsF), .v (sD [c]), .own none (.lst ((fP4 c).map fpD)), .no]) :=
    DS.cast (sto 4 cz (de_cat (ds := (fP3 c).map fpD) (by show 9 + 4 ≤ sizeLine; decide) (vf 4 rfl) (de_still (de_lst (da_cons (de_tup (da_cons (cs (y := [91, 113, 46, 46, 114, 93]) (by decide +kernel)) (da_cons (cs (y := wHead) (by decide +kernel)) da_nil)) (show 2 ≤ sizeLine by decide)) (da_cons (de_tup (da_cons (cs (y := [91, 97, 98, 99, 100, 101, 102, 103, 104, 105, 106, 107, 108, 109, 93]) (by decide +kernel)) (da_cons (cs (y := wHead) (by decide +kernel)) da_nil)) (show 2 ≤ sizeLine by decide)) (da_cons (de_tup (da_cons (cs (y := [91, 113, 93, 32, 120]) (by decide +kernel)) (da_cons (cs (y := wBehind) (by decide +kernel)) da_nil)) (show 2 ≤ sizeLine by decide)) (da_cons (de_tup (da_cons (cs (y := [91, 113, 93, 93]) (by decide +kernel)) (da_cons (cs (y := wBehind) (by decide +kernel)) da_nil)) (show 2 ≤ sizeLine by decide)) da_nil)))) (by show 4 ≤ sizeLine; decide))))) (by rw [fP4, List.map_append]; rfl)
theorem fy_t5 (cz : Cz (XF Pr wo K mg base f cdv A outer s H E) (Wd0 E) 4) : DS (XF Pr wo K mg base f cdv A outer s H E) (Wd0 E) (bodyAt sFy 6) [.v (.scr ns), .own (some 0) (tw (n + 1)), .v (sD signsF), .v (sD [c]), .own none (.lst ((fP4 c).map fpD)), .no] (.next [.v (.scr ns), .own (some 0) (tw (n + 1)), .v (sD signsF), .v (sD [c]), .own none (.lst ((fP5 c).map fpD)), .no]) :=
    DS.cast (sto 4 cz (de_cat (ds := (fP4 c).map fpD) (by show 13 + 5 ≤ sizeLine; decide) (vf 4 rfl) (de_still (de_lst (da_cons (de_tup (da_cons (cs (y := [113]) (by decide +kernel)) (da_cons (cs (y := wName) (by decide +kernel)) da_nil)) (show 2 ≤ sizeLine by decide)) (da_cons (de_tup (da_cons (cats (by simp) (cats (by simp) (cs (y := [113]) (by decide +kernel)) (va 3 rfl)) (cs (y := [32, 61, 32, 49]) (by decide +kernel))) (da_cons (cs (y := wName) (by decide +kernel)) da_nil)) (show 2 ≤ sizeLine by decide)) (da_cons (de_tup (da_cons (cs (y := [61, 32, 49]) (by decide +kernel)) (da_cons (cs (y := wName) (by decide +kernel)) da_nil)) (show 2 ≤ sizeLine by decide)) (da_cons (de_tup (da_cons (cs (y := [113, 32, 49]) (by decide +kernel)) (da_cons (cs (y := wName) (by decide +kernel)) da_nil)) (show 2 ≤ sizeLine by decide)) (da_cons (de_tup (da_cons (cs (y := [113, 46, 114, 32, 61, 32, 49]) (by decide +kernel)) (da_cons (cs (y := wName) (by decide +kernel)) da_nil)) (show 2 ≤ sizeLine by decide)) da_nil))))) (by show 5 ≤ sizeLine; decide))))) (by rw [fP5, List.map_append]; rfl)
theorem fy_t6 (cz : Cz (XF Pr wo K mg base f cdv A outer s H E) (Wd0 E) 4) : DS (XF Pr wo K mg base f cdv A outer s H E) (Wd0 E) (bodyAt sFy 7) [.v (.scr ns), .own (some 0) (tw (n + 1)), .v (sD signsF), .v (sD [c]), .own none (.lst ((fP5 c).map fpD)), .no] (.next [.v (.scr ns), .own (some 0) (tw (n + 1)), .v (sD signsF), .v (sD [c]), .own none (.lst ((fP6 c).map fpD)), .no]) :=
    DS.cast (sto 4 cz (de_cat (ds := (fP5 c).map fpD) (by show 18 + 4 ≤ sizeLine; decide) (vf 4 rfl) (de_still (de_lst (da_cons (de_tup (da_cons (cs (y := [97, 98, 99, 100, 101, 102, 103, 104, 105, 106, 107, 108, 109, 32, 61, 32, 49]) (by decide +kernel)) (da_cons (cs (y := wName) (by decide +kernel)) da_nil)) (show 2 ≤ sizeLine by decide)) (da_cons (de_tup (da_cons (cs (y := [113, 32, 61]) (by decide +kernel)) (da_cons (cs (y := wValue) (by decide +kernel)) da_nil)) (show 2 ≤ sizeLine by decide)) (da_cons (de_tup (da_cons (cats (by simp) (cs (y := [113, 32, 61, 32]) (by decide +kernel)) (va 3 rfl)) (da_cons (cs (y := wValue) (by decide +kernel)) da_nil)) (show 2 ≤ sizeLine by decide)) (da_cons (de_tup (da_cons (cs (y := [113, 32, 61, 32, 48, 49]) (by decide +kernel)) (da_cons (cs (y := wValue) (by decide +kernel)) da_nil)) (show 2 ≤ sizeLine by decide)) da_nil)))) (by show 4 ≤ sizeLine; decide))))) (by rw [fP6, List.map_append]; rfl)
theorem fy_t7 (cz : Cz (XF Pr wo K mg base f cdv A outer s H E) (Wd0 E) 4) : DS (XF Pr wo K mg base f cdv A outer s H E) (Wd0 E) (bodyAt sFy 8) [.v (.scr ns), .own (some 0) (tw (n + 1)), .v (sD signsF), .v (sD [c]), .own none (.lst ((fP6 c).map fpD)), .no] (.next [.v (.scr ns), .own (some 0) (tw (n + 1)), .v (sD signsF), .v (sD [c]), .own none (.lst ((fP7 c).map fpD)), .no]) :=
    DS.cast (sto 4 cz (de_cat (ds := (fP6 c).map fpD) (by show 22 + 3 ≤ sizeLine; decide) (vf 4 rfl) (de_still (de_lst (da_cons (de_tup (da_cons (cs (y := [113, 32, 61, 32, 45, 48]) (by decide +kernel)) (da_cons (cs (y := wValue) (by decide +kernel)) da_nil)) (show 2 ≤ sizeLine by decide)) (da_cons (de_tup (da_cons (cs (y := [113, 32, 61, 32, 49, 48, 48, 48, 48, 48, 48, 48, 48, 48]) (by decide +kernel)) (da_cons (cs (y := wValue) (by decide +kernel)) da_nil)) (show 2 ≤ sizeLine by decide)) (da_cons (de_tup (da_cons (cs (y := [113, 32, 61, 32, 34, 120]) (by decide +kernel)) (da_cons (cs (y := wValue) (by decide +kernel)) da_nil)) (show 2 ≤ sizeLine by decide)) da_nil))) (by show 3 ≤ sizeLine; decide))))) (by rw [fP7, List.map_append]; rfl)
theorem fy_t8 (cz : Cz (XF Pr wo K mg base f cdv A outer s H E) (Wd0 E) 4) : DS (XF Pr wo K mg base f cdv A outer s H E) (Wd0 E) (bodyAt sFy 9) [.v (.scr ns), .own (some 0) (tw (n + 1)), .v (sD signsF), .v (sD [c]), .own none (.lst ((fP7 c).map fpD)), .no] (.next [.v (.scr ns), .own (some 0) (tw (n + 1)), .v (sD signsF), .v (sD [c]), .own none (.lst ((fP8 c).map fpD)), .no]) :=
    DS.cast (sto 4 cz (de_cat (ds := (fP7 c).map fpD) (by show 25 + 4 ≤ sizeLine; decide) (vf 4 rfl) (de_still (de_lst (da_cons (de_tup (da_cons (cs (y := [113, 32, 61, 32, 34, 92, 120, 34]) (by decide +kernel)) (da_cons (cs (y := wValue) (by decide +kernel)) da_nil)) (show 2 ≤ sizeLine by decide)) (da_cons (de_tup (da_cons (cs (y := [113, 32, 61, 32, 91, 49]) (by decide +kernel)) (da_cons (cs (y := wValue) (by decide +kernel)) da_nil)) (show 2 ≤ sizeLine by decide)) (da_cons (de_tup (da_cons (cs (y := [113, 32, 61, 32, 91, 49, 44, 93]) (by decide +kernel)) (da_cons (cs (y := wValue) (by decide +kernel)) da_nil)) (show 2 ≤ sizeLine by decide)) (da_cons (de_tup (da_cons (cs (y := [113, 32, 61, 32, 91, 44, 93]) (by decide +kernel)) (da_cons (cs (y := wValue) (by decide +kernel)) da_nil)) (show 2 ≤ sizeLine by decide)) da_nil)))) (by show 4 ≤ sizeLine; decide))))) (by rw [fP8, List.map_append]; rfl)
theorem fy_t9 (cz : Cz (XF Pr wo K mg base f cdv A outer s H E) (Wd0 E) 4) : DS (XF Pr wo K mg base f cdv A outer s H E) (Wd0 E) (bodyAt sFy 10) [.v (.scr ns), .own (some 0) (tw (n + 1)), .v (sD signsF), .v (sD [c]), .own none (.lst ((fP8 c).map fpD)), .no] (.next [.v (.scr ns), .own (some 0) (tw (n + 1)), .v (sD signsF), .v (sD [c]), .own none (.lst ((fP9 c).map fpD)), .no]) :=
    DS.cast (sto 4 cz (de_cat (ds := (fP8 c).map fpD) (by show 29 + 4 ≤ sizeLine; decide) (vf 4 rfl) (de_still (de_lst (da_cons (de_tup (da_cons (cs (y := [113, 32, 61, 32, 91, 91, 49, 93, 93]) (by decide +kernel)) (da_cons (cs (y := wValue) (by decide +kernel)) da_nil)) (show 2 ≤ sizeLine by decide)) (da_cons (de_tup (da_cons (cs (y := [113, 32, 61, 32, 89, 101, 115]) (by decide +kernel)) (da_cons (cs (y := wValue) (by decide +kernel)) da_nil)) (show 2 ≤ sizeLine by decide)) (da_cons (de_tup (da_cons (cs (y := [113, 32, 61, 32, 53, 120]) (by decide +kernel)) (da_cons (cs (y := wBehind) (by decide +kernel)) da_nil)) (show 2 ≤ sizeLine by decide)) (da_cons (de_tup (da_cons (cats (by simp) (cs (y := [113, 32, 61, 32, 121, 101, 115]) (by decide +kernel)) (va 3 rfl)) (da_cons (cs (y := wBehind) (by decide +kernel)) da_nil)) (show 2 ≤ sizeLine by decide)) da_nil)))) (by show 4 ≤ sizeLine; decide))))) (by rw [fP9, List.map_append]; rfl)
theorem fy_t10 (cz : Cz (XF Pr wo K mg base f cdv A outer s H E) (Wd0 E) 4) : DS (XF Pr wo K mg base f cdv A outer s H E) (Wd0 E) (bodyAt sFy 11) [.v (.scr ns), .own (some 0) (tw (n + 1)), .v (sD signsF), .v (sD [c]), .own none (.lst ((fP9 c).map fpD)), .no] (.next [.v (.scr ns), .own (some 0) (tw (n + 1)), .v (sD signsF), .v (sD [c]), .own none (.lst ((fP10 c).map fpD)), .no]) :=
    DS.cast (sto 4 cz (de_cat (ds := (fP9 c).map fpD) (by show 33 + 2 ≤ sizeLine; decide) (vf 4 rfl) (de_still (de_lst (da_cons (de_tup (da_cons (cs (y := [113, 32, 61, 32, 34, 120, 34, 32, 121]) (by decide +kernel)) (da_cons (cs (y := wBehind) (by decide +kernel)) da_nil)) (show 2 ≤ sizeLine by decide)) (da_cons (de_tup (da_cons (cs (y := [113, 32, 61, 32, 91, 49, 93, 32, 50]) (by decide +kernel)) (da_cons (cs (y := wBehind) (by decide +kernel)) da_nil)) (show 2 ≤ sizeLine by decide)) da_nil)) (by show 2 ≤ sizeLine; decide))))) (by rw [fP10, List.map_append]; rfl)
theorem fy_t11 (cz : Cz (XF Pr wo K mg base f cdv A outer s H E) (Wd0 E) 4) : DS (XF Pr wo K mg base f cdv A outer s H E) (Wd0 E) (bodyAt sFy 12) [.v (.scr ns), .own (some 0) (tw (n + 1)), .v (sD signsF), .v (sD [c]), .own none (.lst ((fP10 c).map fpD)), .no] (.next [.v (.scr ns), .own (some 0) (tw (n + 1)), .v (sD signsF), .v (sD [c]), .own none (.lst ((fP11 c).map fpD)), .no]) :=
    DS.cast (sto 4 cz (de_cat (ds := (fP10 c).map fpD) (by show 35 + 3 ≤ sizeLine; decide) (vf 4 rfl) (de_still (de_lst (da_cons (de_tup (da_cons (cs (y := [113, 32, 61, 32, 34, 34, 34, 32]) (by decide +kernel)) (da_cons (cs (y := wBehind) (by decide +kernel)) da_nil)) (show 2 ≤ sizeLine by decide)) (da_cons (de_tup (da_cons (cs (y := [113, 32, 61, 32, 34, 34, 34, 120]) (by decide +kernel)) (da_cons (cs (y := wBehind) (by decide +kernel)) da_nil)) (show 2 ≤ sizeLine by decide)) (da_cons (de_tup (da_cons (cats (by simp) (cats (by simp) (cs (y := [113, 32, 61, 32, 34]) (by decide +kernel)) mul201) (cs (y := [34]) (by decide +kernel))) (da_cons (cs (y := wValue) (by decide +kernel)) da_nil)) (show 2 ≤ sizeLine by decide)) da_nil))) (by show 3 ≤ sizeLine; decide))))) (by rw [fP11, List.map_append]; rfl)
theorem ok_fy (F : DefAt K mg "_law_faulty" sFy ["script", "town"]) (B : Blts mg) (GD : FnAt Pr wo K mg base "_law_draw" 3 ["script", "town", "many"] c_draw) (GP : FnAt Pr wo K mg base "_law_pick" 4 ["script", "town", "some"] c_pick) : FnAt Pr wo K mg base "_law_faulty" 5 ["script", "town"] (c_st gFy 1000) := by
  refine fnAt (n := 4) F sc_fy (fun qs r os h => by obtain ⟨_, _, _, rfl, _⟩ := h; rfl) rfl fun f cdv A outer s H E cz qs r os h => ?_
  obtain ⟨ns, n, hn, rfl, rfl, rfl⟩ := h
  obtain ⟨c, hc⟩ : ∃ c, sgnF ns n = c := ⟨_, rfl⟩
  have hlow : lowP (pickX ([], []) ns (n + 1) (someL c)) = true := by
    have h1 := List.all_eq_true.mp low_some c (by rw [← hc]; exact sgn_mem)
    exact List.all_eq_true.mp h1 _ (pickX_mem (by rw [some_len]; decide))
  have es : someL c = fP11 c := rfl
  have ep : pickD ns (n + 1) ((someL c).map fpD) = fpD (pickX ([], []) ns (n + 1) (someL c)) := pickD_map fpD (by rw [some_len]; decide)
  have tp : DS (XF Pr wo K mg base f cdv A outer s H E) (Wd0 E) (bodyAt sFy 13) [.v (.scr ns), .own (some 0) (tw (n + 1)), .v (sD signsF), .v (sD [c]), .own none (.lst ((fP11 c).map fpD)), .no] (.next [.v (.scr ns), .own (some 0) (tw (n + 2)), .v (sD signsF), .v (sD [c]), .v (.lst ((fP11 c).map fpD)), .v (fpD (pickX ([], []) ns (n + 1) (someL c)))]) :=
    st (d := fpD (pickX ([], []) ns (n + 1) (someL c))) 5 cz (DE.cast (de_pick (it := 1) (ds := (fP11 c).map fpD) cz GP (by decide) (va 0 rfl) rfl rfl (vf 4 rfl) rfl (by show 0 < 38; decide) (by omega)) ep)
  have eg : gFy ns n = (fpD (faultyP ns n), n + 2) := rfl
  have ef : faultyP ns n = if eqP (pickX ([], []) ns (n + 1) (someL c)) ([113, 32, 61, 32, 45], wValue) = true then ([113, 32, 61, 32, 91], wValue) else pickX ([], []) ns (n + 1) (someL c) := by
    unfold faultyP
    rw [hc]
  rw [eg, ef]
  have hnn : OkN 1 (fpD ([113, 32, 61, 32, 45], wValue)) := okN_fp (by decide)
  generalize pickX ([], []) ns (n + 1) (someL c) = pk at hlow tp ep
  have tst : DT (XF Pr wo K mg base f cdv A outer s H E) (Wd0 E) (ieT (bodyAt sFy 14)) [.v (.scr ns), .own (some 0) (tw (n + 2)), .v (sD signsF), .v (sD [c]), .v (.lst ((fP11 c).map fpD)), .v (fpD pk)] (eqP pk ([113, 32, 61, 32, 45], wValue)) [.v (.scr ns), .own (some 0) (tw (n + 2)), .v (sD signsF), .v (sD [c]), .v (.lst ((fP11 c).map fpD)), .v (fpD pk)] :=
    to (dt_eqD cz (okN_fp hlow).ok hnn.ok (va 5 rfl) (de_tup (da_cons (cs (y := [113, 32, 61, 32, 45]) (by decide +kernel)) (da_cons (cs (y := wValue) (by decide +kernel)) da_nil)) (show 2 ≤ sizeLine by decide))) (eqD_fp _ _)
  by_cases hk : eqP pk ([113, 32, 61, 32, 45], wValue) = true
  · rw [if_pos hk]
    have tR : DS (XF Pr wo K mg base f cdv A outer s H E) (Wd0 E) (bodyAt sFy 14) [.v (.scr ns), .own (some 0) (tw (n + 2)), .v (sD signsF), .v (sD [c]), .v (.lst ((fP11 c).map fpD)), .v (fpD pk)] (.ret (fpD ([113, 32, 61, 32, 91], wValue)) [.v (.scr ns), .own (some 0) (tw (n + 2)), .v (sD signsF), .v (sD [c]), .v (.lst ((fP11 c).map fpD)), .v (fpD pk)]) :=
      rt (ife_t tst hk (de_tup (da_cons (cs (y := [113, 32, 61, 32, 91]) (by decide +kernel)) (da_cons (cs (y := wValue) (by decide +kernel)) da_nil)) (show 2 ≤ sizeLine by decide)))
    exact ⟨_, fy_s1 cz B GD hn hc (seqd 2 (by decide +kernel) (fy_t1 cz) (seqd 3 (by decide +kernel) (fy_t2 cz) (seqd 4 (by decide +kernel) (fy_t3 cz) (seqd 5 (by decide +kernel) (fy_t4 cz) (seqd 6 (by decide +kernel) (fy_t5 cz) (seqd 7 (by decide +kernel) (fy_t6 cz) (seqd 8 (by decide +kernel) (fy_t7 cz) (seqd 9 (by decide +kernel) (fy_t8 cz) (seqd 10 (by decide +kernel) (fy_t9 cz) (seqd 11 (by decide +kernel) (fy_t10 cz) (seqd 12 (by decide +kernel) (fy_t11 cz) (seqd 13 (by decide +kernel) tp (endd 14 (by decide +kernel) tR (fun _ z => nomatch z)))))))))))))), .ret ⟨_, _, rfl, rfl, rfl⟩⟩
  · rw [if_neg hk]
    have tR : DS (XF Pr wo K mg base f cdv A outer s H E) (Wd0 E) (bodyAt sFy 14) [.v (.scr ns), .own (some 0) (tw (n + 2)), .v (sD signsF), .v (sD [c]), .v (.lst ((fP11 c).map fpD)), .v (fpD pk)] (.ret (fpD pk) [.v (.scr ns), .own (some 0) (tw (n + 2)), .v (sD signsF), .v (sD [c]), .v (.lst ((fP11 c).map fpD)), .v (fpD pk)]) :=
      rt (ife_f tst (by simpa using hk) (va 5 rfl))
    exact ⟨_, fy_s1 cz B GD hn hc (seqd 2 (by decide +kernel) (fy_t1 cz) (seqd 3 (by decide +kernel) (fy_t2 cz) (seqd 4 (by decide +kernel) (fy_t3 cz) (seqd 5 (by decide +kernel) (fy_t4 cz) (seqd 6 (by decide +kernel) (fy_t5 cz) (seqd 7 (by decide +kernel) (fy_t6 cz) (seqd 8 (by decide +kernel) (fy_t7 cz) (seqd 9 (by decide +kernel) (fy_t8 cz) (seqd 10 (by decide +kernel) (fy_t9 cz) (seqd 11 (by decide +kernel) (fy_t10 cz) (seqd 12 (by decide +kernel) (fy_t11 cz) (seqd 13 (by decide +kernel) tp (endd 14 (by decide +kernel) tR (fun _ z => nomatch z)))))))))))))), .ret ⟨_, _, rfl, rfl, rfl⟩⟩
end
end K01


set_option Elab.async false
set_option linter.all false
set_option maxRecDepth 100000
set_option maxHeartbeats 4000000
namespace K01
open PySem PySem.Spec PyProof.Rows L2 Dt
/-! ### k11: the plain law -/
def goodL : List (List Nat) := [[97, 32, 61, 32, 49], [35, 32, 111, 110, 101], [], [98, 32, 61, 32, 34, 120, 34, 32, 35, 32, 116, 119, 111], [99, 32, 61, 32, 91, 121, 101, 115, 44, 32, 50, 93], [91, 115, 93], [100, 32, 61, 32, 110, 111], [32, 32, 91, 115, 46, 116, 93, 32, 32, 35, 32, 116, 104, 114, 101, 101], [101, 61, 53], [102, 32, 61, 32, 34, 34]]
/-- a row begins a text over rows -/
def isLong (l : List Nat) : Bool := decide ((valRest l).take 3 = lng) && decide (l.drop (posOf l (valRest l)) = lng)
def setNo (n : Nat) : RR → RR
  | .row r => .row r
  | .flt _ w => .flt n w
theorem row_free {l : List Nat} (h : isLong l = false) (ls : List (List Nat)) (n : Nat) : rowR ls l n = setNo n (rowR [] l 0) := by
  unfold rowR
  split
  · split
    · rfl
    · split
      · unfold headR
        split
        · rfl
        · split <;> rfl
      · unfold entR
        split
        · rfl
        · split
          · rename_i h3
            have h4 : ¬ l.drop (posOf l (valRest l)) = lng := fun h4 => by
              unfold isLong at h
              rw [decide_eq_true h3, decide_eq_true h4] at h
              cases h
            unfold longR
            rw [if_neg h4, if_neg h4]
            rfl
          · cases valueS (valRest l) with
            | none => rfl
            | some p =>
              obtain ⟨d, q⟩ := p
              unfold entVal
              dsimp only
              split <;> rfl
  · rfl
def kindR : RR → List Nat × List Nat × Nat
  | .row r => (r.word, r.name, r.lines.length)
  | .flt _ w => ([], w, 0)
/-- the states of the walk behind the j-th good row -/
abbrev Tr := Option (List Nat) × List (List Nat) × List (List Nat)
def noIt (t : Tr) : Tr := (none, t.2)
def clo (ts : List Tr) : List Tr := ts ++ (ts.filter fun t => t.1.isSome).map noIt
theorem clo_in {ts : List Tr} {t : Tr} (h : t ∈ ts) : t ∈ clo ts := List.mem_append_left _ h
theorem clo_no {ts : List Tr} {t : Tr} (h : t ∈ clo ts) : noIt t ∈ clo ts := by
  rcases List.mem_append.mp h with h | h
  · obtain ⟨s, q⟩ := t
    cases s with
    | none => exact List.mem_append_left _ h
    | some s => exact List.mem_append_right _ (List.mem_map.mpr ⟨_, List.mem_filter.mpr ⟨h, rfl⟩, rfl⟩)
  · obtain ⟨u, h1, rfl⟩ := List.mem_map.mp h
    exact List.mem_append_right _ (List.mem_map.mpr ⟨u, h1, rfl⟩)
def rowK (w n : List Nat) : RowM := ⟨w, [], n, .non, [], []⟩
theorem look_kind (r : RowM) (sec : Option (List Nat)) (S0 E0 : List (List Nat)) : lookT r sec S0 E0 = lookT (rowK r.word r.name) sec S0 E0 := rfl
def adv (w n : List Nat) (t : Tr) : Option Tr := match lookT (rowK w n) t.1 t.2.1 t.2.2 with
  | .ok a b c => some (a, b, c)
  | .bad _ => none
def goodK (j : Nat) : List Nat × List Nat × Nat := kindR (rowR [] (goodL.getD j []) 0)
def stG : Nat → List Tr
  | 0 => clo [(some [], [], [])]
  | j + 1 => clo ((stG j).filterMap (adv (goodK j).1 (goodK j).2.1))
def goodOk (j : Nat) : Bool := (!isLong (goodL.getD j []) && decide ((goodK j).2.2 = 1)) && (stG j).all fun t => (adv (goodK j).1 (goodK j).2.1 t).isSome
theorem good_ok : (List.range 10).all goodOk = true := by decide +kernel
theorem good_mem : goodL.all (fun l => !decide (10 ∈ l) && decide (l.length ≤ 300)) = true := by decide +kernel
def allF : List (List Nat × List Nat) := ([113, 32, 61, 32, 91], wValue) :: signsF.flatMap someL
def badOk (p : List Nat × List Nat) : Bool := (!isLong p.1 && decide (kindR (rowR [] p.1 0) = ([], p.2, 0))) && (!decide (p.2 = wOpen) && (!decide (p.2 = wLong) && (!decide (10 ∈ p.1) && (decide (p.1.length ≤ 300) && lowP p))))
theorem all_ok : allF.all badOk = true := by decide +kernel
theorem faulty_mem (ns : List Int) (n : Nat) : faultyP ns n ∈ allF := by
  unfold faultyP
  split
  · exact List.mem_cons_self
  · exact List.mem_cons_of_mem _ (List.mem_flatMap.mpr ⟨_, sgn_mem, pickX_mem (by rw [some_len]; decide)⟩)
abbrev Tg := List Nat × Option (List Nat)
inductive Fit : Nat → List Tg → Prop
  | nil (j : Nat) : Fit j []
  | good {j : Nat} {l : List Nat} {T : List Tg} : goodL[j]? = some l → Fit (j + 1) T → Fit j ((l, none) :: T)
  | bad {j : Nat} {l w : List Nat} {T : List Tg} : (l, w) ∈ allF → Fit j T → Fit j ((l, some w) :: T)
def fromT : Nat → List Tg → List (Nat × List Nat)
  | _, [] => []
  | k, (_, none) :: T => fromT (k + 1) T
  | k, (_, some w) :: T => (k, w) :: fromT (k + 1) T
structure BadF (l w : List Nat) : Prop where
  lg : isLong l = false
  kd : kindR (rowR [] l 0) = ([], w, 0)
  op : w ≠ wOpen
  ln : w ≠ wLong
  nl : 10 ∉ l
  sz : l.length ≤ 300
  lw : ∀ c ∈ w, c < 1000
theorem bad_f {l w : List Nat} (h : (l, w) ∈ allF) : BadF l w := by
  have h := List.all_eq_true.mp all_ok _ h
  unfold badOk at h
  simp only [Bool.and_eq_true, Bool.not_eq_true', decide_eq_true_eq, decide_eq_false_iff_not] at h
  refine ⟨h.1.1, h.1.2, h.2.1, h.2.2.1, h.2.2.2.1, h.2.2.2.2.1, fun c hc => ?_⟩
  have g := h.2.2.2.2.2
  unfold lowP at g
  rw [Bool.and_eq_true, List.all_eq_true, List.all_eq_true] at g
  exact of_decide_eq_true (g.2 c hc)
theorem kind_flt {r : RR} {w : List Nat} (h : kindR r = ([], w, 0)) (hr : ∀ x, r = .row x → 1 ≤ x.lines.length) : ∃ m, r = .flt m w := by
  cases r with
  | row x =>
    have h1 := hr x rfl
    unfold kindR at h
    have h2 : x.lines.length = 0 := by injection h with _ h; injection h
    omega
  | flt m w' =>
    unfold kindR at h
    injection h with _ h
    injection h with h _
    exact ⟨m, by rw [h]⟩
theorem bad_row {l w : List Nat} (h : (l, w) ∈ allF) (ls : List (List Nat)) (n : Nat) : rowR ls l n = .flt n w := by
  have b := bad_f h
  rw [row_free b.lg]
  obtain ⟨m, e⟩ := kind_flt b.kd fun x hx => (row_ok (ls := [l]) (l := l) (n := 0) rfl (by rw [row_free b.lg, hx]; rfl)).lines
  rw [e]
  rfl
theorem good_row {l : List Nat} {j : Nat} (h : goodL[j]? = some l) (ls : List (List Nat)) (n : Nat) : ∃ r, rowR ls l n = .row r ∧ r.word = (goodK j).1 ∧ r.name = (goodK j).2.1 ∧ r.lines.length = 1 ∧ ∀ t ∈ stG j, ∃ t', adv (goodK j).1 (goodK j).2.1 t = some t' ∧ t' ∈ stG (j + 1) := by
  have hj : j < 10 := (List.getElem?_eq_some_iff.mp h).1
  have e : goodL.getD j [] = l := by rw [List.getD_eq_getElem?_getD, h]; rfl
  have g := List.all_eq_true.mp good_ok j (List.mem_range.mpr hj)
  unfold goodOk at g
  rw [Bool.and_eq_true, Bool.and_eq_true, e] at g
  obtain ⟨⟨g1, g2⟩, g3⟩ := g
  have g2 := of_decide_eq_true g2
  have gk : goodK j = kindR (rowR [] l 0) := by unfold goodK; rw [e]
  rw [row_free (by simpa using g1)]
  rw [gk] at g2 g3 ⊢
  cases q : rowR [] l 0 with
  | flt m w =>
    rw [q] at g2
    cases g2
  | row r =>
    rw [q] at g2 g3
    refine ⟨r, rfl, rfl, rfl, g2, fun t ht => ?_⟩
    obtain ⟨t', h'⟩ := Option.isSome_iff_exists.mp (List.all_eq_true.mp g3 t ht)
    refine ⟨t', h', ?_⟩
    show t' ∈ clo ((stG j).filterMap (adv (goodK j).1 (goodK j).2.1))
    rw [gk, q]
    exact clo_in (List.mem_filterMap.mpr ⟨t, ht, h'⟩)
theorem st_no {j : Nat} {t : Tr} (h : t ∈ stG j) : noIt t ∈ stG j := by
  cases j with
  | zero => exact clo_no h
  | succ j => exact clo_no h
theorem run_fit : ∀ (T : List Tg) (j : Nat) (u : WS) (pre : List (List Nat)) (f : Nat), Fit j T → (u.sec, u.S, u.E) ∈ stG j → u.k = pre.length → T.length ≤ f → (runW (pre ++ T.map Prod.fst) f u).wrong = u.wrong ++ fromT pre.length T
  | [], j, u, pre, f, _, _, hk, _ => by
    have e : (pre ++ ([] : List Tg).map Prod.fst)[u.k]? = none := by
      rw [hk]
      exact List.getElem?_eq_none (by simp)
    cases f with
    | zero => exact (List.append_nil _).symm
    | succ f =>
      unfold runW
      rw [e]
      exact (List.append_nil _).symm
  | (l, w) :: T, j, u, pre, 0, _, _, _, hf => absurd hf (by simp)
  | (l, w) :: T, j, u, pre, f + 1, h, hs, hk, hf => by
    have e : (pre ++ ((l, w) :: T).map Prod.fst)[u.k]? = some l := by
      rw [hk, List.getElem?_append_right (Nat.le_refl _), Nat.sub_self]
      rfl
    have e2 : pre ++ ((l, w) :: T).map Prod.fst = (pre ++ [l]) ++ T.map Prod.fst := by simp
    have hg' : T.length ≤ f := by simpa using hf
    have hp : (pre ++ [l]).length = pre.length + 1 := by simp
    unfold runW
    rw [e]
    dsimp only
    cases h with
    | good hg ht =>
      obtain ⟨r, r1, r2, r3, r4, r5⟩ := good_row hg (pre ++ ((l, none) :: T).map Prod.fst) u.k
      obtain ⟨t', a1, a2⟩ := r5 _ hs
      unfold stepW
      rw [r1]
      dsimp only
      rw [look_kind, r2, r3]
      unfold adv at a1
      dsimp only at a1
      cases q : lookT (rowK (goodK j).1 (goodK j).2.1) u.sec u.S u.E with
      | bad w => rw [q] at a1; cases a1
      | ok a b c =>
        rw [q] at a1
        cases a1
        dsimp only
        rw [e2, run_fit T (j + 1) ⟨u.rows ++ [r], u.wrong, b, c, a, u.k + r.lines.length⟩ (pre ++ [l]) f ht a2 (by show u.k + r.lines.length = _; rw [r4, hk, hp]) hg', hp]
        rfl
    | bad hb ht =>
      rename_i w
      have b := bad_f hb
      unfold stepW
      rw [bad_row hb]
      dsimp only
      have m1 : manyF (pre ++ ((l, some w) :: T).map Prod.fst) u.k u.k w = 1 := by
        unfold manyF
        rw [if_neg (fun z => Nat.lt_irrefl _ z.2), if_neg b.op]
      have hin : ((badW l u u.k w (manyF (pre ++ ((l, some w) :: T).map Prod.fst) u.k u.k w)).sec, u.S, u.E) ∈ stG j := by
        show ((if isHd l = true then none else u.sec), u.S, u.E) ∈ stG j
        split
        · exact st_no hs
        · exact hs
      rw [m1] at hin
      rw [m1, e2, run_fit T j (badW l u u.k w 1) (pre ++ [l]) f ht hin (by show u.k + 1 = _; rw [hk, hp]) hg', hp]
      show (u.wrong ++ [(u.k, w)]) ++ _ = _
      rw [hk, List.append_assoc]
      rfl
theorem fit_mem : ∀ {T : List Tg} {j : Nat}, Fit j T → ∀ t ∈ T, 10 ∉ t.1 ∧ t.1.length ≤ 300 ∧ ∀ (ls : List (List Nat)) (n m : Nat), rowR ls t.1 n ≠ .flt m wLong
  | _, _, .nil _, t, h => by cases h
  | _, _, .good hg ht, t, h => by
    rcases List.mem_cons.mp h with rfl | h
    · have g := List.all_eq_true.mp good_mem _ (List.mem_of_getElem? hg)
      simp only [Bool.and_eq_true, Bool.not_eq_true', decide_eq_true_eq, decide_eq_false_iff_not] at g
      refine ⟨g.1, g.2, fun ls n m z => ?_⟩
      obtain ⟨r, r1, _⟩ := good_row hg ls n
      rw [r1] at z
      cases z
    · exact fit_mem ht t h
  | _, _, .bad hb ht, t, h => by
    rcases List.mem_cons.mp h with rfl | h
    · have b := bad_f hb
      refine ⟨b.nl, b.sz, fun ls n m z => ?_⟩
      rw [bad_row hb] at z
      injection z with _ z
      exact b.ln z
    · exact fit_mem ht t h
/-- the text of rows -/
def txt (T : List Tg) : List Nat := TL.joinL [10] (T.map Prod.fst)
theorem txt_split {T : List Tg} {j : Nat} (h : Fit j T) (hn : T ≠ []) : splitC 10 (txt T) = T.map Prod.fst :=
  split_join (by simpa using hn) fun p hp => by
    obtain ⟨t, ht, rfl⟩ := List.mem_map.mp hp
    exact (fit_mem h t ht).1
theorem walk_nil : (walkM []).wrong = [] := by decide +kernel
theorem nolong_nil : noLong (splitC 10 []) := fun n l j h z => by
  have h : ([[]] : List (List Nat))[n]? = some l := h
  cases n with
  | zero =>
    cases h
    cases z
  | succ n => cases h
theorem walk_fit {T : List Tg} (h : Fit 0 T) : (walkM (txt T)).wrong = fromT 0 T ∧ noLong (splitC 10 (txt T)) := by
  cases T with
  | nil => exact ⟨walk_nil, nolong_nil⟩
  | cons t T =>
    have e := txt_split h (by simp)
    unfold walkM
    rw [e]
    refine ⟨?_, fun n l j hn => ?_⟩
    · have g := run_fit (t :: T) 0 ws0 [] ((t :: T).map Prod.fst).length h (by decide) rfl (by simp)
      exact g
    · obtain ⟨x, hx, rfl⟩ := List.mem_map.mp (List.mem_of_getElem? hn)
      exact (fit_mem h x hx).2.2 _ _ _
theorem txt_len {T : List Tg} (h : Fit 0 T) (hl : T.length ≤ 20) : (txt T).length ≤ 40000 ∧ ((T.map Prod.fst).map List.length).sum ≤ 6000 := by
  have g : ∀ (ls : List (List Nat)), (∀ l ∈ ls, l.length ≤ 300) → (ls.map List.length).sum ≤ ls.length * 300 := by
    intro ls
    induction ls with
    | nil => intro _; simp
    | cons q qs ih =>
      intro h2
      have := h2 q List.mem_cons_self
      have := ih fun x hx => h2 x (List.mem_cons_of_mem _ hx)
      rw [List.map_cons, List.sum_cons, List.length_cons]
      omega
  have a := g (T.map Prod.fst) fun l hl => by
    obtain ⟨t, ht, rfl⟩ := List.mem_map.mp hl
    exact (fit_mem h t ht).2.1
  have b := joinL_len [10] (T.map Prod.fst)
  rw [List.length_map] at a
  rw [List.length_map, List.length_singleton] at b
  unfold txt
  omega
/-! #### a row more -/
def shf (a : Nat) (p : Nat × List Nat) : Nat × List Nat := (p.1 + (if a ≤ p.1 then 1 else 0), p.2)
def insT (T : List Tg) (a : Nat) (x : Tg) : List Tg := T.take a ++ [x] ++ T.drop a
theorem from_app : ∀ (A B : List Tg) (k : Nat), fromT k (A ++ B) = fromT k A ++ fromT (k + A.length) B
  | [], B, k => rfl
  | (l, none) :: A, B, k => by
    show fromT (k + 1) (A ++ B) = fromT (k + 1) A ++ _
    rw [from_app A B (k + 1), List.length_cons]
    congr 2
    omega
  | (l, some w) :: A, B, k => by
    show (k, w) :: fromT (k + 1) (A ++ B) = (k, w) :: fromT (k + 1) A ++ _
    rw [from_app A B (k + 1), List.length_cons, List.cons_append]
    congr 3
    omega
theorem from_lt : ∀ (A : List Tg) (k : Nat), ∀ p ∈ fromT k A, k ≤ p.1 ∧ p.1 < k + A.length
  | [], k, p, h => by cases h
  | (l, none) :: A, k, p, h => by
    have := from_lt A (k + 1) p h
    rw [List.length_cons]
    omega
  | (l, some w) :: A, k, p, h => by
    rw [List.length_cons]
    rcases List.mem_cons.mp h with rfl | h
    · show k ≤ k ∧ k < _
      omega
    · have := from_lt A (k + 1) p h
      omega
theorem from_sh : ∀ (A : List Tg) (k a : Nat), a ≤ k → (fromT k A).map (shf a) = fromT (k + 1) A
  | [], _, _, _ => rfl
  | (l, none) :: A, k, a, h => from_sh A (k + 1) a (by omega)
  | (l, some w) :: A, k, a, h => by
    show shf a (k, w) :: (fromT (k + 1) A).map (shf a) = (k + 1, w) :: fromT (k + 1 + 1) A
    rw [from_sh A (k + 1) a (by omega)]
    unfold shf
    rw [if_pos h]
theorem from_stay : ∀ {l : List (Nat × List Nat)} {a : Nat}, (∀ p ∈ l, p.1 < a) → l.map (shf a) = l
  | [], _, _ => rfl
  | p :: l, a, h => by
    rw [List.map_cons, from_stay fun q hq => h q (List.mem_cons_of_mem _ hq)]
    have := h p List.mem_cons_self
    unfold shf
    rw [if_neg (by omega)]
    rfl
theorem from_srt : ∀ (A : List Tg) (k : Nat), (fromT k A).Pairwise fun x y => x.1 < y.1
  | [], _ => .nil
  | (l, none) :: A, k => from_srt A (k + 1)
  | (l, some w) :: A, k => .cons (fun p hp => by
      have := from_lt A (k + 1) p hp
      show k < p.1
      omega) (from_srt A (k + 1))
theorem from_ins {T : List Tg} {a : Nat} {l w : List Nat} {due : List (Nat × List Nat)} (ha : a ≤ T.length) (h : (fromT 0 T).Perm due) : (fromT 0 (insT T a (l, some w))).Perm (due.map (shf a) ++ [(a, w)]) := by
  have hA : (T.take a).length = a := by rw [List.length_take]; omega
  have e0 : fromT 0 T = fromT 0 (T.take a) ++ fromT a (T.drop a) := by
    have := from_app (T.take a) (T.drop a) 0
    rw [List.take_append_drop, hA, Nat.zero_add] at this
    exact this
  have e1 : fromT 0 (insT T a (l, some w)) = fromT 0 (T.take a) ++ ((a, w) :: fromT (a + 1) (T.drop a)) := by
    unfold insT
    rw [List.append_assoc, from_app, hA, Nat.zero_add]
    rfl
  have e2 : (fromT 0 T).map (shf a) = fromT 0 (T.take a) ++ fromT (a + 1) (T.drop a) := by
    rw [e0, List.map_append, from_sh _ a a (Nat.le_refl _), from_stay fun p hp => ?_]
    have := from_lt (T.take a) 0 p hp
    omega
  rw [e1]
  have p1 : (fromT 0 (T.take a) ++ ((a, w) :: fromT (a + 1) (T.drop a))).Perm ((fromT 0 (T.take a) ++ fromT (a + 1) (T.drop a)) ++ [(a, w)]) :=
    List.perm_middle.trans (List.perm_append_singleton _ _).symm
  rw [← e2] at p1
  exact p1.trans (List.Perm.append_right _ (h.map _))
theorem fit_app : ∀ {A B : List Tg} {j : Nat} {x : Tg}, (∃ l w, x = (l, some w) ∧ (l, w) ∈ allF) → Fit j (A ++ B) → Fit j (A ++ [x] ++ B)
  | [], B, j, x, ⟨l, w, hx, hm⟩, h => by subst hx; exact .bad hm h
  | a :: A, B, j, x, hx, h => by
    cases h with
    | good hg ht => exact .good hg (fit_app hx ht)
    | bad hb ht => exact .bad hb (fit_app hx ht)
theorem fit_ins {T : List Tg} {j a : Nat} {l w : List Nat} (hm : (l, w) ∈ allF) (h : Fit j T) : Fit j (insT T a (l, some w)) :=
  fit_app ⟨l, w, rfl, hm⟩ (by rw [List.take_append_drop]; exact h)
/-- the good rows alone -/
def topT (n : Nat) : List Tg := (goodL.take n).map fun l => (l, none)
theorem fit_good : ∀ (m j : Nat), Fit j (((goodL.drop j).take m).map fun l => (l, none))
  | 0, j => .nil j
  | m + 1, j => by
    cases q : goodL[j]? with
    | none =>
      have := List.getElem?_eq_none_iff.mp q
      rw [List.drop_of_length_le this]
      exact .nil j
    | some l =>
      have := List.drop_eq_getElem_cons (List.getElem?_eq_some_iff.mp q).1
      rw [(List.getElem?_eq_some_iff.mp q).2] at this
      rw [this]
      exact .good q (fit_good m (j + 1))
theorem fit_top (n : Nat) : Fit 0 (topT n) := fit_good n 0
theorem from_good : ∀ (l : List (List Nat)) (k : Nat), fromT k (l.map fun l => (l, none)) = []
  | [], _ => rfl
  | _ :: l, k => from_good l (k + 1)
theorem from_top (n : Nat) : fromT 0 (topT n) = [] := from_good _ 0
theorem top_fst (n : Nat) : (topT n).map Prod.fst = goodL.take n := by
  unfold topT
  rw [List.map_map]
  exact List.map_id _
theorem from_low : ∀ {T : List Tg} {j : Nat} (k : Nat), Fit j T → ∀ p ∈ fromT k T, ∀ c ∈ p.2, c < 1000
  | _, _, _, .nil _, p, h => by cases h
  | _, _, k, .good _ ht, p, h => from_low (k + 1) ht p h
  | _, _, k, .bad hb ht, p, h => by
    rcases List.mem_cons.mp h with rfl | h
    · exact (bad_f hb).lw
    · exact from_low (k + 1) ht p h
theorem okN_flt {l : List (Nat × List Nat)} (h : ∀ p ∈ l, ∀ c ∈ p.2, c < 1000) : OkN 2 (.lst (l.map fltD)) := okN_lst fun d hd => by
  obtain ⟨p, hp, rfl⟩ := List.mem_map.mp hd
  exact okN_tup2 (n := 0) (okN_int _) (okN_str (h p hp))
end K01


set_option Elab.async false
set_option linter.all false
set_option maxRecDepth 100000
set_option maxHeartbeats 4000000
namespace K01
open PySem PySem.Spec PyProof.Rows L2 Dt
/-! ### k11: the law's own walk -/
abbrev sLaw : Stmt := topS 65
abbrev nLaw : List Str := ["script", "town", "good", "rows", "due", "k", "row", "word", "at", "text", "found", "place", "other"]
theorem sc_law : FnScope nLaw ["script"] (defScope sLaw) := ⟨rfl, rfl, rfl, by decide +kernel, rfl, by decide +kernel, by decide +kernel⟩
abbrev XL (Pr : Program) (wo : World) (K : PySem.W.Frag) (mg : Str → Option Value) (base : Heap) (f : Addr) (cdv : Value) (A : Around) (outer : List PySem.Env) (s : Shared) (H : Hp) (E : XK) : Cx := Xd Pr wo K mg base nLaw "law" sLaw f cdv A outer s H E
structure Lw (Pr : Program) (wo : World) (K : PySem.W.Frag) (mg : Str → Option Value) (base : Heap) : Prop where
  b : Blts mg
  srt : mg "sorted" = none
  draw : FnAt Pr wo K mg base "_law_draw" 3 ["script", "town", "many"] c_draw
  faulty : FnAt Pr wo K mg base "_law_faulty" 5 ["script", "town"] (c_st gFy 1000)
  faults : FnAt Pr wo K mg base "faults" 7 ["text"] c_faults
  told : FnAt Pr wo K mg base "_law_told" 8 ["text"] c_told
theorem de_stE {X : Cx} {W : WX} {ρ : List S} {es : Expr} {p pos pt : Pos} {k j it n n' mx : Nat} {ns : List Int} {kk : Option Nat} {xt f : Str} {d : D} {g : List Int → Nat → D × Nat} (e : g ns n = (d, n')) (cz : Cz X W k) (G : FnAt X.prog X.w X.K X.mg X.base f j ["script", "town"] (c_st g mx)) (hj : j ≤ k) (hs : DE X W es ρ (.val (.scr ns) ρ)) (hN : X.N[it]? = some xt) (h1 : ρ[it]? = some (.own kk (tw n))) (hn : n < mx)
    (hg : Gl X f := by rfl) (st1 : starEach [es, .Name xt pt] X.env = (false, eval es X.env) :: starEach [.Name xt pt] X.env := by exact Dt.star_cons rfl) (st2 : starEach [.Name xt pt] X.env = (false, eval (.Name xt pt) X.env) :: starEach [] X.env := by exact Dt.star_cons rfl) (hpl : (backTo pos (starEach [.Name xt pt] X.env)).any (·.1) = false := by rfl)
    (hv : Vis X.env.scope xt := by first | exact Or.inl rfl | exact Or.inr (Or.inl rfl) | exact Or.inr (Or.inr rfl)) (hd : (xt == ("__debug__" : Str)) = false := by decide) (hcd : (xt == ("__classdict__" : Str)) = false := by decide) (hfd : (f == ("__debug__" : Str)) = false := by decide) :
    DE X W (.Call (.Name f p) [es, .Name xt pt] [] pos) ρ (.val d (ρ.set it (.own kk (tw n')))) := by
  have z := de_st (p := p) (pos := pos) (g := g) cz G hj hs hN h1 hn hg st1 st2 hpl hv hd hcd hfd
  rw [e] at z
  exact z
def rowsO (T : List Tg) : O := .lst ((T.map Prod.fst).map fun q => D.str (mk q))
abbrev dueD (l : List (Nat × List Nat)) : D := .lst (l.map fltD)
theorem rows_ins (T : List Tg) (a : Nat) (l : List Nat) (w : Option (List Nat)) : ((T.map Prod.fst).map fun q => D.str (mk q)).take a ++ [sD l] ++ ((T.map Prod.fst).map fun q => D.str (mk q)).drop a = ((insT T a (l, w)).map Prod.fst).map fun q => D.str (mk q) := by
  unfold insT
  simp only [List.map_append, List.map_take, List.map_drop, List.map_cons, List.map_nil]
theorem ins_len {T : List Tg} {a : Nat} {x : Tg} : (insT T a x).length = T.length + 1 := by
  unfold insT
  simp only [List.length_append, List.length_take, List.length_drop, List.length_singleton]
  omega
section
variable {Pr : Program} {wo : World} {K : PySem.W.Frag} {mg : Str → Option Value} {base : Heap} {f : Addr} {cdv : Value} {A : Around} {outer : List PySem.Env} {s : Shared} {H : Hp} {E : XK} {ns : List Int} {k : Nat}
variable {x2 x5 x6 x7 x8 : S} {n : Nat}
theorem turn (L : Lw Pr wo K mg base) (cz : Cz (XL Pr wo K mg base f cdv A outer s H E) (Wd0 E) 8) {T : List Tg} {due : List (Nat × List Nat)} (hl : T.length ≤ 20) (hd : due.length ≤ 20) (hn : n < 900) (a : Nat) (ha : a = drawN ns (n + 2) (T.length + 1)) :
    DSs (XL Pr wo K mg base f cdv A outer s H E) (Wd0 E) (fB (bodyAt sLaw 6)) [.v (.scr ns), .own none (tw n), x2, .own none (rowsO T), .v (dueD due), x5, x6, x7, x8, .no, .no, .no, .no]
      (.next [.v (.scr ns), .own none (tw (n + 3)), x2, .own none (rowsO (insT T a ((faultyP ns n).1, some (faultyP ns n).2))), .v (dueD (due.map (shf a) ++ [(a, (faultyP ns n).2)])), x5, .v (sD (faultyP ns n).1), .v (sD (faultyP ns n).2), .v (.int (a : Int)), .no, .no, .no, .no]) := by
  have e1 : gFy ns n = (fpD (faultyP ns n), n + 2) := rfl
  generalize faultyP ns n = fp at e1 ⊢
  obtain ⟨l, w⟩ := fp
  have lenE : lenD (.lst ((T.map Prod.fst).map fun q => D.str (mk q))) = some T.length := by
    show some _ = _
    rw [List.length_map, List.length_map]
  have t1 : DS (XL Pr wo K mg base f cdv A outer s H E) (Wd0 E) ((fB (bodyAt sLaw 6)).getD 0 (.Pass ⟨0, 0, 0, 0⟩)) [.v (.scr ns), .own none (tw n), x2, .own none (rowsO T), .v (dueD due), x5, x6, x7, x8, .no, .no, .no, .no]
      (.next [.v (.scr ns), .own none (tw (n + 2)), x2, .own none (rowsO T), .v (dueD due), x5, .v (sD l), .v (sD w), x8, .no, .no, .no, .no]) :=
    ds_two (d := .tup [sD l, sD w]) (ρ1 := [.v (.scr ns), .own none (tw (n + 2)), x2, .own none (rowsO T), .v (dueD due), x5, x6, x7, x8, .no, .no, .no, .no]) (de_stE (g := gFy) (it := 1) e1 cz L.faulty (by decide) (va 0 rfl) rfl rfl (show n < 1000 by omega)) (bd_tup2 (i := 6) (j := 7) cz.calm cz.nd rfl (by first | exact Or.inl rfl | exact Or.inr rfl) rfl (by first | exact Or.inl rfl | exact Or.inr rfl))
  have t3 : DS (XL Pr wo K mg base f cdv A outer s H E) (Wd0 E) ((fB (bodyAt sLaw 6)).getD 2 (.Pass ⟨0, 0, 0, 0⟩)) [.v (.scr ns), .own none (tw (n + 3)), x2, .own none (rowsO T), .v (dueD due), x5, .v (sD l), .v (sD w), .v (.int (a : Int)), .no, .no, .no, .no]
      (.next [.v (.scr ns), .own none (tw (n + 3)), x2, .own none (rowsO (insT T a (l, some w))), .v (dueD due), x5, .v (sD l), .v (sD w), .v (.int (a : Int)), .no, .no, .no, .no]) :=
    DS.cast (ds_insert (ds := (T.map Prod.fst).map fun q => D.str (mk q)) (i := 3) rfl (by first | exact Or.inl rfl | exact Or.inr (Or.inl rfl) | exact Or.inr (Or.inr rfl)) (va 8 rfl) (va 6 rfl) rfl ⟨_, _, rfl⟩ (by rw [List.length_map, List.length_map]; exact Nat.lt_of_le_of_lt hl (by decide)) (by
      have := draw_lt (ns := ns) (n := n + 2) (m := T.length + 1) (by omega)
      rw [ha]
      omega)) (by
      rw [rows_ins T a l (some w)]
      rfl)
  have t4 : DS (XL Pr wo K mg base f cdv A outer s H E) (Wd0 E) ((fB (bodyAt sLaw 6)).getD 3 (.Pass ⟨0, 0, 0, 0⟩)) [.v (.scr ns), .own none (tw (n + 3)), x2, .own none (rowsO (insT T a (l, some w))), .v (dueD due), x5, .v (sD l), .v (sD w), .v (.int (a : Int)), .no, .no, .no, .no]
      (.next [.v (.scr ns), .own none (tw (n + 3)), x2, .own none (rowsO (insT T a (l, some w))), .v (dueD (due.map (shf a) ++ [(a, w)])), x5, .v (sD l), .v (sD w), .v (.int (a : Int)), .no, .no, .no, .no]) :=
    st (d := dueD (due.map (shf a) ++ [(a, w)])) 4 cz (DE.cast (de_still (de_cat (ds := due.map fun p => fltD (shf a p)) (es := [fltD (a, w)]) (by rw [List.length_map, List.length_singleton]; exact Nat.le_trans (Nat.succ_le_succ hd) (by decide))
      (de_still (lcp (l := due) (g := fun p => (.int (p.1 : Int), sD p.2)) (f := fun p => fltD (shf a p)) 11 12 cz (di_list (va 4 rfl)) (by omega) fun p hp s0 H0 C0 cl fp =>
        de_tup (da_cons (DE.cast (de_add (va 11 rfl) (de_intB (b_int L.b.int) (de_cmpI rfl (va 11 rfl) (va 8 rfl)))) (by
          show D.int ((p.1 : Int) + if decide ((p.1 : Int) ≥ (a : Int)) = true then 1 else 0) = D.int (((p.1 + if a ≤ p.1 then 1 else 0 : Nat)) : Int)
          congr 1
          by_cases h : a ≤ p.1
          · rw [if_pos h, if_pos (decide_eq_true (by omega))]
            omega
          · rw [if_neg h, if_neg (by rw [decide_eq_true_eq]; omega)]
            omega)) (da_cons (va 12 rfl) da_nil)) (show 2 ≤ sizeLine by decide)))
      (de_still (de_lst (da_cons (de_tup (da_cons (va 8 rfl) (da_cons (va 7 rfl) da_nil)) (show 2 ≤ sizeLine by decide)) da_nil) (show 1 ≤ sizeLine by decide))))) (by
        show D.lst _ = D.lst _
        rw [List.map_append, List.map_map]
        rfl))
  exact seq t1 (seq (Dt.st (d := .int (a : Int)) 8 cz (DE.cast (de_draw (m := T.length + 1) (n := n + 2) (it := 1) cz L.draw (by decide) (va 0 rfl) rfl rfl (de_add (de_len (b_len L.b.len) (vb 3 rfl) lenE) de_int) rfl (by omega) (by omega)) (by rw [ha]))) (seq t3 (dss1 t4)))
/-- the loop -/
theorem loop (L : Lw Pr wo K mg base) (cz : Cz (XL Pr wo K mg base f cdv A outer s H E) (Wd0 E) 8) : ∀ (ds : List D) (T : List Tg) (due : List (Nat × List Nat)) (n : Nat) (x5 x6 x7 x8 : S), Fit 0 T → (fromT 0 T).Perm due → T.length + ds.length ≤ 20 → due.length + ds.length ≤ 20 → n + 3 * ds.length ≤ 900 →
    ∃ T' due' n' x5' x6' x7' x8', Fit 0 T' ∧ (fromT 0 T').Perm due' ∧ T'.length ≤ 20 ∧ due'.length ≤ 20 ∧ FoR (XL Pr wo K mg base f cdv A outer s H E) (Wd0 E) (fT (bodyAt sLaw 6)) (fB (bodyAt sLaw 6)) ds
      [.v (.scr ns), .own none (tw n), x2, .own none (rowsO T), .v (dueD due), x5, x6, x7, x8, .no, .no, .no, .no] (.next [.v (.scr ns), .own none (tw n'), x2, .own none (rowsO T'), .v (dueD due'), x5', x6', x7', x8', .no, .no, .no, .no])
  | [], T, due, n, x5, x6, x7, x8, h1, h2, h3, h4, h5 => ⟨T, due, n, x5, x6, x7, x8, h1, h2, by simpa using h3, by simpa using h4, .nil⟩
  | d :: ds, T, due, n, x5, x6, x7, x8, h1, h2, h3, h4, h5 => by
    rw [List.length_cons] at h3 h4 h5
    have dl := draw_lt (ns := ns) (n := n + 2) (m := T.length + 1) (by omega)
    obtain ⟨a, ea⟩ : ∃ a, a = drawN ns (n + 2) (T.length + 1) := ⟨_, rfl⟩
    rw [← ea] at dl
    have t := turn (x2 := x2) (x5 := .v d) (x6 := x6) (x7 := x7) (x8 := x8) (T := T) (due := due) (n := n) (ns := ns) L cz (by omega) (by omega) (by omega) a ea
    have hm := faulty_mem ns n
    generalize faultyP ns n = fp at t hm
    obtain ⟨l, w⟩ := fp
    obtain ⟨T', due', n', x5', x6', x7', x8', g1, g2, g3, g4, g5⟩ := loop L cz ds (insT T a (l, some w)) (due.map (shf a) ++ [(a, w)]) (n + 3) (.v d) (.v (sD l)) (.v (sD w)) (.v (.int (a : Int))) (fit_ins hm h1) (from_ins (by omega) h2) (by rw [ins_len]; omega) (by rw [List.length_append, List.length_map, List.length_singleton]; omega) (by omega)
    exact ⟨T', due', n', x5', x6', x7', x8', g1, g2, g3, g4, .turn (bd_name (i := 5) cz.nd rfl (by first | exact Or.inl rfl | exact Or.inr rfl)) t g5⟩
end
end K01


set_option Elab.async false
set_option linter.all false
set_option maxRecDepth 100000
set_option maxHeartbeats 4000000
namespace K01
open PySem PySem.Spec PyProof.Rows L2 Dt
section
variable {Pr : Program} {wo : World} {K : PySem.W.Frag} {mg : Str → Option Value} {base : Heap} {f : Addr} {cdv : Value} {A : Around} {outer : List PySem.Env} {s : Shared} {H : Hp} {E : XK} {ns : List Int} {k : Nat}
variable {x1 x2 x5 x6 x7 x8 : S} {n : Nat}
/-- from the sorting on -/
theorem g7 (L : Lw Pr wo K mg base) (cz : Cz (XL Pr wo K mg base f cdv A outer s H E) (Wd0 E) 8) {T : List Tg} {due : List (Nat × List Nat)} (hT : Fit 0 T) (hp : (fromT 0 T).Perm due) (hl : T.length ≤ 20) :
    ∃ ρ', DSs (XL Pr wo K mg base f cdv A outer s H E) (Wd0 E) ((defBody sLaw).drop 7) [.v (.scr ns), x1, x2, .own none (rowsO T), .v (dueD due), x5, x6, x7, x8, .no, .no, .no, .no] (.ret (.bl true) ρ') := by
  obtain ⟨w1, w2⟩ := walk_fit hT
  obtain ⟨z1, z2⟩ := txt_len hT hl
  have low := from_low 0 hT
  have ok2 := okN_flt low
  have srt := from_srt T 0
  have told : ∀ (j : Nat) (w : List Nat) (r : List (Nat × List Nat)), fromT 0 T = (j, w) :: r → toldD (walkM (txt T)) = fltT j w := fun j w r h => by
    unfold toldD
    rw [w1, h]
  generalize fromT 0 T = F at w1 low ok2 srt hp told
  have t7 : DS (XL Pr wo K mg base f cdv A outer s H E) (Wd0 E) (bodyAt sLaw 7) [.v (.scr ns), x1, x2, .own none (rowsO T), .v (dueD due), x5, x6, x7, x8, .no, .no, .no, .no] (.next [.v (.scr ns), x1, x2, .own none (rowsO T), .v (dueD F), x5, x6, x7, x8, .no, .no, .no, .no]) :=
    st 4 cz (de_still (o := .lst (F.map fltD)) (de_sortF (b_sorted L.srt) hp srt (va 4 rfl)))
  have t8 : DS (XL Pr wo K mg base f cdv A outer s H E) (Wd0 E) (bodyAt sLaw 8) [.v (.scr ns), x1, x2, .own none (rowsO T), .v (dueD F), x5, x6, x7, x8, .no, .no, .no, .no] (.next [.v (.scr ns), x1, x2, .own none (rowsO T), .v (dueD F), x5, x6, x7, x8, .v (sD (txt T)), .no, .no, .no]) :=
    st (d := sD (txt T)) 9 cz (joins (s := [10]) (ls := T.map Prod.fst) (by rw [List.length_map, List.length_singleton]; omega) (cs (y := [10]) rfl) (vb 3 rfl))
  have t9 : DS (XL Pr wo K mg base f cdv A outer s H E) (Wd0 E) (bodyAt sLaw 9) [.v (.scr ns), x1, x2, .own none (rowsO T), .v (dueD F), x5, x6, x7, x8, .v (sD (txt T)), .no, .no, .no] (.next [.v (.scr ns), x1, x2, .own none (rowsO T), .v (dueD F), x5, x6, x7, x8, .v (sD (txt T)), .no, .no, .no]) :=
    ifn (dt_neD cz (d1 := dueD F) (d2 := dueD F) ok2.ok ok2.ok (de_callV (r := .ret (dueD F)) cz L.faults (by decide) (da_cons (va 9 rfl) da_nil) ⟨txt T, z1, w2, rfl, by rw [w1], rfl⟩) (va 4 rfl)) (by rw [ok2.refl]; rfl)
  have t10 : DS (XL Pr wo K mg base f cdv A outer s H E) (Wd0 E) (bodyAt sLaw 10) [.v (.scr ns), x1, x2, .own none (rowsO T), .v (dueD F), x5, x6, x7, x8, .v (sD (txt T)), .no, .no, .no] (.next [.v (.scr ns), x1, x2, .own none (rowsO T), .v (dueD F), x5, x6, x7, x8, .v (sD (txt T)), .v (toldD (walkM (txt T))), .no, .no]) :=
    st 10 cz (de_callV (r := .ret (toldD (walkM (txt T)))) cz L.told (by decide) (da_cons (va 9 rfl) da_nil) ⟨txt T, z1, w2, rfl, rfl, rfl⟩)
  have t11 : ∃ ρ', DS (XL Pr wo K mg base f cdv A outer s H E) (Wd0 E) (bodyAt sLaw 11) [.v (.scr ns), x1, x2, .own none (rowsO T), .v (dueD F), x5, x6, x7, x8, .v (sD (txt T)), .v (toldD (walkM (txt T))), .no, .no] (.ret (.bl true) ρ') := by
    cases F with
    | nil => exact ⟨_, rt (vor_t (de_eqD cz (d1 := dueD []) (d2 := .lst []) ok2.ok ok2.ok (va 4 rfl) (de_still (de_lst da_nil (by decide)))) rfl)⟩
    | cons p F =>
      obtain ⟨j, w⟩ := p
      have told : toldD (walkM (txt T)) = fltT j w := told j w F rfl
      rw [told]
      have okf : OkN 1 (fltT j w) := okN_tup3 (n := 0) (okN_str (by decide)) (okN_int _) (okN_str (low (j, w) List.mem_cons_self))
      refine ⟨_, rt (vor_f (de_eqD cz (d1 := dueD ((j, w) :: F)) (d2 := .lst []) ok2.ok (okN_nil (n := 0)).ok (va 4 rfl) (de_still (de_lst da_nil (by decide)))) rfl
        (de_one (DE.cast (de_eqD cz (d1 := fltT j w) (d2 := fltT j w) okf.ok okf.ok (va 10 rfl) (de_tup (da_cons (cs (y := wFault) rfl) (da_cons (de_ix (d1 := fltD (j, w)) (de_ix (d1 := dueD ((j, w) :: F)) (va 4 rfl) de_int ix0) de_int rfl) (da_cons (de_ix (d1 := fltD (j, w)) (de_ix (d1 := dueD ((j, w) :: F)) (va 4 rfl) de_int ix0) de_int rfl) da_nil))) (show 3 ≤ sizeLine by decide))) (by rw [okf.refl]))))⟩
  obtain ⟨ρ', t11⟩ := t11
  exact ⟨ρ', seqd 7 (by decide +kernel) t7 (seqd 8 (by decide +kernel) t8 (seqd 9 (by decide +kernel) t9 (seqd 10 (by decide +kernel) t10 (endd 11 (by decide +kernel) t11 (fun _ z => nomatch z)))))⟩
theorem ok_law {fa : Addr} {fd : FuncData} (F : Fun K "law" "law" sLaw fa fd) (L : Lw Pr wo K mg base) : FnOk Pr wo K mg base (L2.CX Pr wo) 9 fa fd ["script"] (spC K c_law) := by
  refine fnO (n := 12) F sc_law (fun qs r os h => by obtain ⟨_, _, rfl, _⟩ := h; rfl) rfl fun f cdv A outer s H E cz qs r os h => ?_
  obtain ⟨ns, hns, rfl, rfl, rfl⟩ := h
  have dl := draw_lt (ns := ns) (n := 0) (m := 11) (by decide)
  obtain ⟨m, em⟩ : ∃ m, m = drawN ns 0 11 := ⟨_, rfl⟩
  have hT := fit_top m
  have hF := from_top m
  have hm := top_fst m
  have hl : (topT m).length ≤ 10 := by
    unfold topT
    rw [List.length_map, List.length_take]
    exact Nat.min_le_right _ _
  obtain ⟨w1, w2⟩ := walk_fit hT
  obtain ⟨z1, z2⟩ := txt_len hT (by omega)
  rw [hF] at w1
  have t0 : DS (XL Pr wo K mg base f cdv A outer s H E) (Wd0 E) (bodyAt sLaw 0) [.v (.scr ns), .no, .no, .no, .no, .no, .no, .no, .no, .no, .no, .no, .no] (.next [.v (.scr ns), .own none (tw 0), .no, .no, .no, .no, .no, .no, .no, .no, .no, .no, .no]) :=
    sto (q := tw 0) 1 cz (de_lst da_nil (by decide))
  have t1 : DS (XL Pr wo K mg base f cdv A outer s H E) (Wd0 E) (bodyAt sLaw 1) [.v (.scr ns), .own none (tw 0), .no, .no, .no, .no, .no, .no, .no, .no, .no, .no, .no] (.next [.v (.scr ns), .own none (tw 0), .own none (.lst ((goodL.take 9).map fun q => D.str (mk q))), .no, .no, .no, .no, .no, .no, .no, .no, .no, .no]) :=
    sto (q := .lst ((goodL.take 9).map fun q => D.str (mk q))) 2 cz (de_lst (da_cons (cs (by decide +kernel)) (da_cons (cs (by decide +kernel)) (da_cons (cs (by decide +kernel)) (da_cons (cs (by decide +kernel)) (da_cons (cs (by decide +kernel)) (da_cons (cs (by decide +kernel)) (da_cons (cs (by decide +kernel)) (da_cons (cs (by decide +kernel)) (da_cons (cs (by decide +kernel)) da_nil))))))))) (show 9 ≤ sizeLine by decide))
  have t2 : DS (XL Pr wo K mg base f cdv A outer s H E) (Wd0 E) (bodyAt sLaw 2) [.v (.scr ns), .own none (tw 0), .own none (.lst ((goodL.take 9).map fun q => D.str (mk q))), .no, .no, .no, .no, .no, .no, .no, .no, .no, .no] (.next [.v (.scr ns), .own none (tw 0), .own none (.lst (goodL.map fun q => D.str (mk q))), .no, .no, .no, .no, .no, .no, .no, .no, .no, .no]) :=
    ds_append (ds := (goodL.take 9).map fun q => D.str (mk q)) (i := 2) rfl (by first | exact Or.inl rfl | exact Or.inr (Or.inl rfl) | exact Or.inr (Or.inr rfl)) (cs (y := [102, 32, 61, 32, 34, 34]) (by decide +kernel)) rfl ⟨_, _, rfl⟩ (show 9 < sizeLine by decide)
  have t3 : DS (XL Pr wo K mg base f cdv A outer s H E) (Wd0 E) (bodyAt sLaw 3) [.v (.scr ns), .own none (tw 0), .own none (.lst (goodL.map fun q => D.str (mk q))), .no, .no, .no, .no, .no, .no, .no, .no, .no, .no] (.next [.v (.scr ns), .own none (tw 1), .v (.lst (goodL.map fun q => D.str (mk q))), .own none (rowsO (topT m)), .no, .no, .no, .no, .no, .no, .no, .no, .no]) :=
    DS.cast (sto (q := .lst ((goodL.map fun q => D.str (mk q)).take (drawN ns 0 11))) 3 cz (lslt (ds := goodL.map fun q => D.str (mk q)) (j := drawN ns 0 11) (vf 2 rfl) (de_draw (m := 11) (n := 0) (it := 1) cz L.draw (by decide) (va 0 rfl) rfl rfl (de_int (i := 11)) rfl (by decide) (by decide)))) (by
      unfold rowsO
      rw [hm, ← em, List.map_take]
      rfl)
  have t4 : DS (XL Pr wo K mg base f cdv A outer s H E) (Wd0 E) (bodyAt sLaw 4) [.v (.scr ns), .own none (tw 1), .v (.lst (goodL.map fun q => D.str (mk q))), .own none (rowsO (topT m)), .no, .no, .no, .no, .no, .no, .no, .no, .no] (.next [.v (.scr ns), .own none (tw 1), .v (.lst (goodL.map fun q => D.str (mk q))), .own none (rowsO (topT m)), .no, .no, .no, .no, .no, .no, .no, .no, .no]) :=
    ifn (dt_neD cz (d1 := .lst []) (d2 := .lst []) (okN_nil (n := 0)).ok (okN_nil (n := 0)).ok (de_callV (r := .ret (.lst [])) cz L.faults (by decide) (da_cons (joins (s := [10]) (ls := (topT m).map Prod.fst) (by rw [List.length_map, List.length_singleton]; omega) (cs (y := [10]) rfl) (vb 3 rfl)) da_nil) ⟨txt (topT m), z1, w2, rfl, by rw [w1]; rfl, rfl⟩) (de_still (de_lst da_nil (by decide)))) rfl
  have t5 : DS (XL Pr wo K mg base f cdv A outer s H E) (Wd0 E) (bodyAt sLaw 5) [.v (.scr ns), .own none (tw 1), .v (.lst (goodL.map fun q => D.str (mk q))), .own none (rowsO (topT m)), .no, .no, .no, .no, .no, .no, .no, .no, .no] (.next [.v (.scr ns), .own none (tw 1), .v (.lst (goodL.map fun q => D.str (mk q))), .own none (rowsO (topT m)), .v (dueD []), .no, .no, .no, .no, .no, .no, .no, .no]) :=
    st (d := dueD []) 4 cz (de_still (de_lst da_nil (by decide)))
  have dl2 := draw_lt (ns := ns) (n := 1) (m := 5) (by decide)
  obtain ⟨T', due', n', x5', x6', x7', x8', g1, g2, g3, g4, hr⟩ := loop (x2 := .v (.lst (goodL.map fun q => D.str (mk q)))) (ns := ns) L cz (rngD 0 (drawN ns 1 5)) (topT m) [] 2 .no .no .no .no hT (by rw [hF]) (by rw [rngD_len]; omega) (by rw [rngD_len]; simp; omega) (by rw [rngD_len]; omega)
  have t6 : DS (XL Pr wo K mg base f cdv A outer s H E) (Wd0 E) (bodyAt sLaw 6) [.v (.scr ns), .own none (tw 1), .v (.lst (goodL.map fun q => D.str (mk q))), .own none (rowsO (topT m)), .v (dueD []), .no, .no, .no, .no, .no, .no, .no, .no] (.next [.v (.scr ns), .own none (tw n'), .v (.lst (goodL.map fun q => D.str (mk q))), .own none (rowsO T'), .v (dueD due'), x5', x6', x7', x8', .no, .no, .no, .no]) :=
    ds_for cz.po cz.calm (di_rg (n := drawN ns 1 5) L.b.range (de_draw (m := 5) (n := 1) (it := 1) cz L.draw (by decide) (va 0 rfl) rfl rfl (de_int (i := 5)) rfl (by decide) (by decide)) (by omega)) hr
  obtain ⟨ρ', h7⟩ := g7 (x1 := .own none (tw n')) (x2 := .v (.lst (goodL.map fun q => D.str (mk q)))) (x5 := x5') (x6 := x6') (x7 := x7') (x8 := x8') (ns := ns) L cz g1 g2 g3
  have h := seqd 0 (by decide +kernel) t0 (seqd 1 (by decide +kernel) t1 (seqd 2 (by decide +kernel) t2 (seqd 3 (by decide +kernel) t3 (seqd 4 (by decide +kernel) t4 (seqd 5 (by decide +kernel) t5 (seqd 6 (by decide +kernel) t6 h7))))))
  exact ⟨_, fromd h, .ret rfl⟩
end
end K01


set_option Elab.async false
set_option linter.all false
set_option maxRecDepth 100000
set_option maxHeartbeats 1000000
namespace K01
open PySem PySem.Spec PyProof.Rows L2 Dt
/-- what the head tells of the defs -/
structure Defs (K : PySem.W.Frag) : Prop where
  d__law_cell : ∃ f fd, DefIn K "_law_cell" sCell f fd
  d__law_draw : ∃ f fd, DefIn K "_law_draw" sDraw f fd
  d__law_faulty : ∃ f fd, DefIn K "_law_faulty" sFy f fd
  d__law_mix : ∃ f fd, DefIn K "_law_mix" sMix f fd
  d__law_pick : ∃ f fd, DefIn K "_law_pick" sPick f fd
  d__law_refusal : ∃ f fd, DefIn K "_law_refusal" sRef f fd
  d__law_told : ∃ f fd, DefIn K "_law_told" sTold f fd
  d_above : ∃ f fd, DefIn K "above" sAbove f fd
  d_blanks_from : ∃ f fd, DefIn K "blanks_from" sBl f fd
  d_clashes : ∃ f fd, DefIn K "clashes" sCl f fd
  d_entry_at : ∃ f fd, DefIn K "entry_at" sEnt f fd
  d_faults : ∃ f fd, DefIn K "faults" sFaults f fd
  d_head_at : ∃ f fd, DefIn K "head_at" sHead f fd
  d_is_name : ∃ f fd, DefIn K "is_name" sIsName f fd
  d_is_path : ∃ f fd, DefIn K "is_path" sIsPath f fd
  d_is_rest : ∃ f fd, DefIn K "is_rest" sIsRest f fd
  d_is_sign : ∃ f fd, DefIn K "is_sign" sIsSign f fd
  d_long_at : ∃ f fd, DefIn K "long_at" sLong f fd
  d_look_twice : ∃ f fd, DefIn K "look_twice" sLt f fd
  d_number_at : ∃ f fd, DefIn K "number_at" sNA f fd
  d_quoted : ∃ f fd, DefIn K "quoted" sQ f fd
  d_read : ∃ f fd, DefIn K "read" sRead f fd
  d_row_at : ∃ f fd, DefIn K "row_at" sRow f fd
  d_single_at : ∃ f fd, DefIn K "single_at" sSA f fd
  d_text_at : ∃ f fd, DefIn K "text_at" sTA f fd
  d_text_of : ∃ f fd, DefIn K "text_of" sTO f fd
  d_under : ∃ f fd, DefIn K "under" sUnder f fd
  d_value_at : ∃ f fd, DefIn K "value_at" sVA f fd
  d_walk : ∃ f fd, DefIn K "walk" sWk f fd
structure Mets (K : PySem.W.Frag) (CBook CFault CRow : Addr) : Prop where
  m_Book___init__ : ∃ f fd, MetIn K CBook "__init__" "Book.__init__" sBookI f fd
  m_Book_paths : ∃ f fd, MetIn K CBook "paths" "Book.paths" sPaths f fd
  m_Book_spots : ∃ f fd, MetIn K CBook "spots" "Book.spots" sSpots f fd
  m_Fault___init__ : ∃ f fd, MetIn K CFault "__init__" "Fault.__init__" sFltI f fd
  m_Row___init__ : ∃ f fd, MetIn K CRow "__init__" "Row.__init__" sRowI f fd
section
variable {K : PySem.W.Frag} {h : Heap} {mg : Str → Option Value} {CBook CFault CRow : Addr}
theorem at__law_cell (X : K.In h) (G : h.Ns mainGlobals mg) (D : Defs K) : DefAt K mg "_law_cell" sCell ["script", "k"] := defAt X G D.d__law_cell fun _ _ _ _ _ _ us hl => match us, hl with | [_, _], _ => rfl
theorem at__law_draw (X : K.In h) (G : h.Ns mainGlobals mg) (D : Defs K) : DefAt K mg "_law_draw" sDraw ["script", "town", "many"] := defAt X G D.d__law_draw fun _ _ _ _ _ _ us hl => match us, hl with | [_, _, _], _ => rfl
theorem at__law_faulty (X : K.In h) (G : h.Ns mainGlobals mg) (D : Defs K) : DefAt K mg "_law_faulty" sFy ["script", "town"] := defAt X G D.d__law_faulty fun _ _ _ _ _ _ us hl => match us, hl with | [_, _], _ => rfl
theorem at__law_mix (X : K.In h) (G : h.Ns mainGlobals mg) (D : Defs K) : DefAt K mg "_law_mix" sMix ["script", "k"] := defAt X G D.d__law_mix fun _ _ _ _ _ _ us hl => match us, hl with | [_, _], _ => rfl
theorem at__law_pick (X : K.In h) (G : h.Ns mainGlobals mg) (D : Defs K) : DefAt K mg "_law_pick" sPick ["script", "town", "some"] := defAt X G D.d__law_pick fun _ _ _ _ _ _ us hl => match us, hl with | [_, _, _], _ => rfl
theorem at__law_refusal (X : K.In h) (G : h.Ns mainGlobals mg) (D : Defs K) : DefAt K mg "_law_refusal" sRef ["caught"] := defAt X G D.d__law_refusal fun _ _ _ _ _ _ us hl => match us, hl with | [_], _ => rfl
theorem at__law_told (X : K.In h) (G : h.Ns mainGlobals mg) (D : Defs K) : DefAt K mg "_law_told" sTold ["text"] := defAt X G D.d__law_told fun _ _ _ _ _ _ us hl => match us, hl with | [_], _ => rfl
theorem at_above (X : K.In h) (G : h.Ns mainGlobals mg) (D : Defs K) : DefAt K mg "above" sAbove ["path"] := defAt X G D.d_above fun _ _ _ _ _ _ us hl => match us, hl with | [_], _ => rfl
theorem at_blanks_from (X : K.In h) (G : h.Ns mainGlobals mg) (D : Defs K) : DefAt K mg "blanks_from" sBl ["text", "at"] := defAt X G D.d_blanks_from fun _ _ _ _ _ _ us hl => match us, hl with | [_, _], _ => rfl
theorem at_clashes (X : K.In h) (G : h.Ns mainGlobals mg) (D : Defs K) : DefAt K mg "clashes" sCl ["sections", "entries", "section", "path"] := defAt X G D.d_clashes fun _ _ _ _ _ _ us hl => match us, hl with | [_, _, _, _], _ => rfl
theorem at_entry_at (X : K.In h) (G : h.Ns mainGlobals mg) (D : Defs K) : DefAt K mg "entry_at" sEnt ["lines", "number"] := defAt X G D.d_entry_at fun _ _ _ _ _ _ us hl => match us, hl with | [_, _], _ => rfl
theorem at_faults (X : K.In h) (G : h.Ns mainGlobals mg) (D : Defs K) : DefAt K mg "faults" sFaults ["text"] := defAt X G D.d_faults fun _ _ _ _ _ _ us hl => match us, hl with | [_], _ => rfl
theorem at_head_at (X : K.In h) (G : h.Ns mainGlobals mg) (D : Defs K) : DefAt K mg "head_at" sHead ["line", "number"] := defAt X G D.d_head_at fun _ _ _ _ _ _ us hl => match us, hl with | [_, _], _ => rfl
theorem at_is_name (X : K.In h) (G : h.Ns mainGlobals mg) (D : Defs K) : DefAt K mg "is_name" sIsName ["text"] := defAt X G D.d_is_name fun _ _ _ _ _ _ us hl => match us, hl with | [_], _ => rfl
theorem at_is_path (X : K.In h) (G : h.Ns mainGlobals mg) (D : Defs K) : DefAt K mg "is_path" sIsPath ["text"] := defAt X G D.d_is_path fun _ _ _ _ _ _ us hl => match us, hl with | [_], _ => rfl
theorem at_is_rest (X : K.In h) (G : h.Ns mainGlobals mg) (D : Defs K) : DefAt K mg "is_rest" sIsRest ["text"] := defAt X G D.d_is_rest fun _ _ _ _ _ _ us hl => match us, hl with | [_], _ => rfl
theorem at_is_sign (X : K.In h) (G : h.Ns mainGlobals mg) (D : Defs K) : DefAt K mg "is_sign" sIsSign ["sign"] := defAt X G D.d_is_sign fun _ _ _ _ _ _ us hl => match us, hl with | [_], _ => rfl
theorem at_long_at (X : K.In h) (G : h.Ns mainGlobals mg) (D : Defs K) : DefAt K mg "long_at" sLong ["found", "lines", "number", "at"] := defAt X G D.d_long_at fun _ _ _ _ _ _ us hl => match us, hl with | [_, _, _, _], _ => rfl
theorem at_look_twice (X : K.In h) (G : h.Ns mainGlobals mg) (D : Defs K) : DefAt K mg "look_twice" sLt ["row", "number", "section", "sections", "entries"] := defAt X G D.d_look_twice fun _ _ _ _ _ _ us hl => match us, hl with | [_, _, _, _, _], _ => rfl
theorem at_number_at (X : K.In h) (G : h.Ns mainGlobals mg) (D : Defs K) : DefAt K mg "number_at" sNA ["text", "at"] := defAt X G D.d_number_at fun _ _ _ _ _ _ us hl => match us, hl with | [_, _], _ => rfl
theorem at_quoted (X : K.In h) (G : h.Ns mainGlobals mg) (D : Defs K) : DefAt K mg "quoted" sQ ["text"] := defAt X G D.d_quoted fun _ _ _ _ _ _ us hl => match us, hl with | [_], _ => rfl
theorem at_read (X : K.In h) (G : h.Ns mainGlobals mg) (D : Defs K) : DefAt K mg "read" sRead ["text"] := defAt X G D.d_read fun _ _ _ _ _ _ us hl => match us, hl with | [_], _ => rfl
theorem at_row_at (X : K.In h) (G : h.Ns mainGlobals mg) (D : Defs K) : DefAt K mg "row_at" sRow ["lines", "number"] := defAt X G D.d_row_at fun _ _ _ _ _ _ us hl => match us, hl with | [_, _], _ => rfl
theorem at_single_at (X : K.In h) (G : h.Ns mainGlobals mg) (D : Defs K) : DefAt K mg "single_at" sSA ["text", "at"] := defAt X G D.d_single_at fun _ _ _ _ _ _ us hl => match us, hl with | [_, _], _ => rfl
theorem at_text_at (X : K.In h) (G : h.Ns mainGlobals mg) (D : Defs K) : DefAt K mg "text_at" sTA ["text", "at"] := defAt X G D.d_text_at fun _ _ _ _ _ _ us hl => match us, hl with | [_, _], _ => rfl
theorem at_text_of (X : K.In h) (G : h.Ns mainGlobals mg) (D : Defs K) : DefAt K mg "text_of" sTO ["value"] := defAt X G D.d_text_of fun _ _ _ _ _ _ us hl => match us, hl with | [_], _ => rfl
theorem at_under (X : K.In h) (G : h.Ns mainGlobals mg) (D : Defs K) : DefAt K mg "under" sUnder ["section", "name"] := defAt X G D.d_under fun _ _ _ _ _ _ us hl => match us, hl with | [_, _], _ => rfl
theorem at_value_at (X : K.In h) (G : h.Ns mainGlobals mg) (D : Defs K) : DefAt K mg "value_at" sVA ["text", "at"] := defAt X G D.d_value_at fun _ _ _ _ _ _ us hl => match us, hl with | [_, _], _ => rfl
theorem at_walk (X : K.In h) (G : h.Ns mainGlobals mg) (D : Defs K) : DefAt K mg "walk" sWk ["text"] := defAt X G D.d_walk fun _ _ _ _ _ _ us hl => match us, hl with | [_], _ => rfl
theorem ini_Book (M : Mets K CBook CFault CRow) (mk : PySem.W.makesIn K CBook = true) (kc : PySem.W.keepIn K (.ref CBook) = true) : IniAt K CBook "Book.__init__" sBookI ["self", "rows"] := iniAt M.m_Book___init__ mk kc fun _ _ _ _ _ _ us hl => match us, hl with | [_, _], _ => rfl
theorem met_Book_paths (M : Mets K CBook CFault CRow) : MetAt K CBook "paths" "Book.paths" sPaths ["self"] := metAt M.m_Book_paths fun _ _ _ _ _ _ us hl => match us, hl with | [_], _ => rfl
theorem met_Book_spots (M : Mets K CBook CFault CRow) : MetAt K CBook "spots" "Book.spots" sSpots ["self"] := metAt M.m_Book_spots fun _ _ _ _ _ _ us hl => match us, hl with | [_], _ => rfl
theorem ini_Row (M : Mets K CBook CFault CRow) (mk : PySem.W.makesIn K CRow = true) (kc : PySem.W.keepIn K (.ref CRow) = true) : IniAt K CRow "Row.__init__" sRowI ["self", "word", "lines"] := iniAt M.m_Row___init__ mk kc fun _ _ _ _ _ _ us hl => match us, hl with | [_, _, _], _ => rfl
end
end K01


set_option Elab.async false
set_option linter.all false
set_option maxRecDepth 100000
set_option maxHeartbeats 1000000
namespace K01
open PySem PySem.Spec PyProof.Rows L2 Dt
abbrev lawLv : Nat := 9
/-- what the head tells besides -/
structure Hd (K : PySem.W.Frag) (wo : World) (mg : Str → Option Value) (CB CF CR : Addr) : Prop where
  b : Blts mg
  b2 : Blts2 mg
  srt : mg "sorted" = none
  con : Cons mg
  con2 : Cons2 mg
  esc : EscAt K wo mg
  clB : Cls K CB
  nrows : NoAttr K CB "rows"
  npast : NoAttr K CB "past"
  mkB : PySem.W.makesIn K CB = true
  kB : PySem.W.keepIn K (.ref CB) = true
  clR : Cls K CR
  nw : NoAttr K CR "word"
  nl : NoAttr K CR "lines"
  nn : NoAttr K CR "name"
  nv : NoAttr K CR "value"
  nf : NoAttr K CR "front"
  nr : NoAttr K CR "rest"
  mkR : PySem.W.makesIn K CR = true
  kR : PySem.W.keepIn K (.ref CR) = true
  oex : OexC K CF
  nrow : PySem.W.findIn K (.ref CF) "row" = some none
  nword : PySem.W.findIn K (.ref CF) "word" = some none
  sup : ∃ CE, mg "SettingError" = some (.ref CE) ∧ PySem.W.specialIn K (.ref CE) "__getattribute__" = some (some (.builtin "type.__getattribute__")) ∧ PySem.W.readsIn K CE (.type "type") = true ∧ PySem.W.findCls K (.ref CE) (.type "type") "__init__" = some (.val (.builtin "ValueError.__init__"))
  xfc : XfC K CF
  exm : PySem.W.exmOne K (.ref CF) (.ref CF) = some true
  exc : ExcC K CF
  sett : Isn K mg CF "SettingError" true
  caught : ∃ E, mg "SettingError" = some (.ref E) ∧ PySem.W.exmOne K (.ref CF) (.ref E) = some true
section
variable {K : PySem.W.Frag} {h : Heap} {mg : Str → Option Value} {Pr : Program} {wo : World} {base : Heap} {CB CF CR : Addr}
theorem lw_mk (X : K.In h) (G : h.Ns mainGlobals mg) (D : Defs K) (M : Mets K CB CF CR) (Hh : Hd K wo mg CB CF CR) (nB : PySem.W.nsIn K mainGlobals "Book" = some (some (.ref CB))) (nF : PySem.W.nsIn K mainGlobals "Fault" = some (some (.ref CF))) (nR : PySem.W.nsIn K mainGlobals "Row" = some (some (.ref CR))) : Lw Pr wo K mg base := by
  have hB := Hh.b
  have hB2 := Hh.b2
  have hC := Hh.con
  have hC2 := Hh.con2
  have hE := Hh.esc
  have hBk : BookAt K mg CB := ⟨Hh.clB, Hh.nrows, Hh.npast, at_mk X G nB, ini_Book M Hh.mkB Hh.kB⟩
  have hRw : RowAt K mg CR := ⟨Hh.clR, Hh.nw, Hh.nl, Hh.nn, Hh.nv, Hh.nf, Hh.nr, at_mk X G nR, ini_Row M Hh.mkR Hh.kR⟩
  have hFC : FltC K mg CF := ⟨Hh.oex, Hh.nrow, Hh.nword, at_mk X G nF, Hh.sup, fini_mk M.m_Fault___init__⟩
  have hFA : FltAt Pr wo K mg base "Fault" CF := flt_at hFC
  have hFX : FltX K CF := ⟨Hh.xfc, Hh.nrow, Hh.nword, Hh.exm⟩
  have hFI : FltI K mg CF := ⟨Hh.exc, isn_self X G nF, Hh.sett, Hh.caught⟩
  have hSp : SpAt K CB := ⟨met_Book_spots M, met_Book_paths M⟩
  have ha__law_cell := at__law_cell (mg := mg) X G D
  have ha__law_draw := at__law_draw (mg := mg) X G D
  have ha__law_faulty := at__law_faulty (mg := mg) X G D
  have ha__law_mix := at__law_mix (mg := mg) X G D
  have ha__law_pick := at__law_pick (mg := mg) X G D
  have ha__law_refusal := at__law_refusal (mg := mg) X G D
  have ha__law_told := at__law_told (mg := mg) X G D
  have ha_above := at_above (mg := mg) X G D
  have ha_blanks_from := at_blanks_from (mg := mg) X G D
  have ha_clashes := at_clashes (mg := mg) X G D
  have ha_entry_at := at_entry_at (mg := mg) X G D
  have ha_faults := at_faults (mg := mg) X G D
  have ha_head_at := at_head_at (mg := mg) X G D
  have ha_is_name := at_is_name (mg := mg) X G D
  have ha_is_path := at_is_path (mg := mg) X G D
  have ha_is_rest := at_is_rest (mg := mg) X G D
  have ha_is_sign := at_is_sign (mg := mg) X G D
  have ha_long_at := at_long_at (mg := mg) X G D
  have ha_look_twice := at_look_twice (mg := mg) X G D
  have ha_number_at := at_number_at (mg := mg) X G D
  have ha_quoted := at_quoted (mg := mg) X G D
  have ha_read := at_read (mg := mg) X G D
  have ha_row_at := at_row_at (mg := mg) X G D
  have ha_single_at := at_single_at (mg := mg) X G D
  have ha_text_at := at_text_at (mg := mg) X G D
  have ha_text_of := at_text_of (mg := mg) X G D
  have ha_under := at_under (mg := mg) X G D
  have ha_value_at := at_value_at (mg := mg) X G D
  have ha_walk := at_walk (mg := mg) X G D
  have hok_is_sign : FnAt Pr wo K mg base "is_sign" 1 ["sign"] c_is_sign := ok_is_sign ‹_› ‹_›
  have hok_bl : FnAt Pr wo K mg base "blanks_from" 1 ["text", "at"] c_bl := ok_bl ‹_›
  have hok_q : FnAt Pr wo K mg base "quoted" 1 ["text"] c_q := ok_q ‹_›
  have hok_text1 : FnAt Pr wo K mg base "text_of" 2 ["value"] c_text1 := ok_text1 ‹_› ‹_› ‹_›
  have hok_text : FnAt Pr wo K mg base "text_of" 3 ["value"] c_text := ok_text ‹_› ‹_› ‹_› ‹_›
  have hok_ta : FnAt Pr wo K mg base "text_at" 1 ["text", "at"] c_ta := ok_ta ‹_› ‹_› ‹_› ‹_›
  have hok_na : FnAt Pr wo K mg base "number_at" 1 ["text", "at"] c_na := ok_na ‹_› ‹_› ‹_›
  have hok_sa : FnAt Pr wo K mg base "single_at" 2 ["text", "at"] c_sa := ok_sa ‹_› ‹_› ‹_› ‹_›
  have hok_va : FnAt Pr wo K mg base "value_at" 3 ["text", "at"] c_va := ok_va ‹_› ‹_› ‹_› ‹_› ‹_›
  have hok_cell : FnAt Pr wo K mg base "_law_cell" 1 ["script", "k"] c_cell := ok_cell ‹_› ‹_›
  have hok_mix : FnAt Pr wo K mg base "_law_mix" 2 ["script", "k"] c_mix := ok_mix ‹_› ‹_›
  have hok_draw : FnAt Pr wo K mg base "_law_draw" 3 ["script", "town", "many"] c_draw := ok_draw ‹_› ‹_› ‹_›
  have hok_pick : FnAt Pr wo K mg base "_law_pick" 4 ["script", "town", "some"] c_pick := ok_pick ‹_› ‹_› ‹_›
  have hok_is_name : FnAt Pr wo K mg base "is_name" 1 ["text"] c_is_name := ok_is_name ‹_› ‹_› ‹_›
  have hok_is_path : FnAt Pr wo K mg base "is_path" 2 ["text"] c_is_path := ok_is_path ‹_› ‹_› ‹_› ‹_›
  have hok_under : FnAt Pr wo K mg base "under" 1 ["section", "name"] c_under := ok_under ‹_›
  have hok_above : FnAt Pr wo K mg base "above" 1 ["path"] c_above := ok_above ‹_› ‹_›
  have hok_rowI : InAt Pr wo K mg base CR 1 ["self", "word", "lines"] (c_rowI CR) := ok_rowI ‹_›
  have hok_is_rest : FnAt Pr wo K mg base "is_rest" 2 ["text"] c_is_rest := ok_is_rest ‹_› ‹_›
  have hok_head : FnAt Pr wo K mg base "head_at" 3 ["line", "number"] (c_head CR CF) := ok_head ‹_› ‹_› ‹_› ‹_› ‹_› ‹_› ‹_› ‹_›
  have hok_long : FnAt Pr wo K mg base "long_at" 3 ["found", "lines", "number", "at"] (c_long CR CF) := ok_long ‹_› ‹_› ‹_› ‹_› ‹_› ‹_› ‹_›
  have hok_ent : FnAt Pr wo K mg base "entry_at" 4 ["lines", "number"] (c_ent CR CF) := ok_ent ‹_› ‹_› ‹_› ‹_› ‹_› ‹_› ‹_› ‹_› ‹_› ‹_›
  have hok_row : FnAt Pr wo K mg base "row_at" 5 ["lines", "number"] (c_row CR CF) := ok_row ‹_› ‹_› ‹_› ‹_› ‹_› ‹_› ‹_› ‹_› ‹_›
  have hok_clA : FnAt Pr wo K mg base "clashes" 2 ["sections", "entries", "section", "path"] c_clA := ok_clA ‹_› ‹_› ‹_›
  have hok_clB : FnAt Pr wo K mg base "clashes" 2 ["sections", "entries", "section", "path"] c_clB := ok_clB ‹_› ‹_›
  have hok_lt : FnAt Pr wo K mg base "look_twice" 3 ["row", "number", "section", "sections", "entries"] (c_lt CR CF) := ok_lt ‹_› ‹_› ‹_› ‹_› ‹_› ‹_›
  have hok_wk : FnAt Pr wo K mg base "walk" 6 ["text"] (c_wk CR) := ok_wk ‹_› ‹_› ‹_› ‹_› ‹_› ‹_› ‹_›
  have hok_bookI : InAt Pr wo K mg base CB 1 ["self", "rows"] (c_bookI CB) := ok_bookI ‹_›
  have hok_faults : FnAt Pr wo K mg base "faults" 7 ["text"] c_faults := ok_faults ‹_› ‹_›
  have hok_read : FnAt Pr wo K mg base "read" 7 ["text"] (c_read CB CR CF) := ok_read ‹_› ‹_› ‹_› ‹_› ‹_›
  have hok_spots : MtAt Pr wo K mg base CB "spots" 2 ["self"] (c_spots CB CR) := ok_spots ‹_› ‹_› ‹_› ‹_› ‹_›
  have hok_paths : MtAt Pr wo K mg base CB "paths" 3 ["self"] (c_paths CB CR) := ok_paths ‹_› ‹_› ‹_› ‹_›
  have hok_refF : FnAt Pr wo K mg base "_law_refusal" 1 ["caught"] (c_refF CF) := ok_refF ‹_› ‹_› ‹_› ‹_›
  have hok_told : FnAt Pr wo K mg base "_law_told" 8 ["text"] c_told := ok_told ‹_› ‹_› ‹_› ‹_› ‹_› ‹_›
  have hok_fy : FnAt Pr wo K mg base "_law_faulty" 5 ["script", "town"] (c_st gFy 1000) := ok_fy ‹_› ‹_› ‹_› ‹_›
  exact ⟨Hh.b, Hh.srt, hok_draw, hok_fy, hok_faults, hok_told⟩
theorem all_law {l : PySem.W.OpenLaw} {w : World} {K : PySem.W.Frag} {h : Heap} {mg : Str → Option Value} {fa f3 CB CF CR : Addr} (X : K.In h) (G : h.Ns mainGlobals mg) (hfa : mg "law" = some (.ref fa))
    {od3 an3 : Option Addr} {sl3 : Array (Option Value)} {oc3 kV3 dc3 pm3 cd3 ct3 : Value}
    (a3 : PySem.W.nsIn K mainGlobals "law" = some (some (.ref f3))) (l3 : K.lookup f3 = some ⟨oc3, od3, .func (PySem.W.fnOf "law" "law" (defArgs sLaw) (defBody sLaw) (defScope sLaw) .none kV3 dc3 pm3 an3 cd3 ct3), sl3⟩) (c3 : PySem.W.codeIn K cd3 "law" = true) (k3 : PySem.W.keepIn K (.ref f3) = true)
    (nB : PySem.W.nsIn K mainGlobals "Book" = some (some (.ref CB))) (nF : PySem.W.nsIn K mainGlobals "Fault" = some (some (.ref CF))) (nR : PySem.W.nsIn K mainGlobals "Row" = some (some (.ref CR)))
    (D : Defs K) (M : Mets K CB CF CR) (Hh : Hd K w mg CB CF CR) :
    ∃ fd : FuncData, (∀ (s : Shared) (v : Value), BindsTo s fd ⟨[v], []⟩ [("script", v)]) ∧ ∀ base : Heap, K.In base → base.Ns mainGlobals mg → FnOk l.prog w K mg base (L2.CX l.prog w) lawLv fa fd ["script"] (spC K c_law) := by
  have e := hfa.symm.trans (PySem.W.mg_of X G a3)
  cases e
  have F3 := fun_mk (st := sLaw) l3 c3 k3
  refine ⟨PySem.W.fnOf "law" "law" (defArgs sLaw) (defBody sLaw) (defScope sLaw) .none kV3 dc3 pm3 an3 cd3 ct3, fun s v => .of_eq rfl, fun base _ _ => ?_⟩
  exact ok_law F3 (lw_mk X G D M Hh nB nF nR)
end
end K01


set_option Elab.async false
set_option linter.all false
set_option maxRecDepth 100000
open PySem PySem.W PyProof.Rows
set_option maxHeartbeats 0 in
theorem PySem.Challenge.cw_settingbook_k11_whole_each_fault_holds : PySem.Challenge.rw_settingbook_k11_whole_each_fault.Holds := by
  w_on; o_law; k_head; (case hw => w_witness2)
  k_fill
  refine K01.walk_law (l := PySem.Challenge.rw_settingbook_k11_whole_each_fault) (k := K01.lawLv) ⟨rfl, by decide, by decide⟩ rfl rfl (fun w h Y => PySem.W.kIn_of Y) ?F
  case F =>
    intro w mg fa h KX G hmg
    refine' K01.all_law KX G hmg ?a3 ?l3 ?c3 ?k3 ?knBook ?knFault ?knRow ?kDefs ?kMets ?kHd
    (case a3 => k_is); (case l3 => k_is); (case c3 => k_is); (case k3 => k_is)
    (case knBook => k_is)
    (case knFault => k_is)
    (case knRow => k_is)
    case kDefs =>
      refine' ⟨?d__law_cell, ?d__law_draw, ?d__law_faulty, ?d__law_mix, ?d__law_pick, ?d__law_refusal, ?d__law_told, ?d_above, ?d_blanks_from, ?d_clashes, ?d_entry_at, ?d_faults, ?d_head_at, ?d_is_name, ?d_is_path, ?d_is_rest, ?d_is_sign, ?d_long_at, ?d_look_twice, ?d_number_at, ?d_quoted, ?d_read, ?d_row_at, ?d_single_at, ?d_text_at, ?d_text_of, ?d_under, ?d_value_at, ?d_walk⟩
      (case d__law_cell => refine' K01.defIn_mk ?a ?l ?c ?k; (case a => k_is); (case l => k_is); (case c => k_is); (case k => k_is))
      (case d__law_draw => refine' K01.defIn_mk ?a ?l ?c ?k; (case a => k_is); (case l => k_is); (case c => k_is); (case k => k_is))
      (case d__law_faulty => refine' K01.defIn_mk ?a ?l ?c ?k; (case a => k_is); (case l => k_is); (case c => k_is); (case k => k_is))
      (case d__law_mix => refine' K01.defIn_mk ?a ?l ?c ?k; (case a => k_is); (case l => k_is); (case c => k_is); (case k => k_is))
      (case d__law_pick => refine' K01.defIn_mk ?a ?l ?c ?k; (case a => k_is); (case l => k_is); (case c => k_is); (case k => k_is))
      (case d__law_refusal => refine' K01.defIn_mk ?a ?l ?c ?k; (case a => k_is); (case l => k_is); (case c => k_is); (case k => k_is))
      (case d__law_told => refine' K01.defIn_mk ?a ?l ?c ?k; (case a => k_is); (case l => k_is); (case c => k_is); (case k => k_is))
      (case d_above => refine' K01.defIn_mk ?a ?l ?c ?k; (case a => k_is); (case l => k_is); (case c => k_is); (case k => k_is))
      (case d_blanks_from => refine' K01.defIn_mk ?a ?l ?c ?k; (case a => k_is); (case l => k_is); (case c => k_is); (case k => k_is))
      (case d_clashes => refine' K01.defIn_mk ?a ?l ?c ?k; (case a => k_is); (case l => k_is); (case c => k_is); (case k => k_is))
      (case d_entry_at => refine' K01.defIn_mk ?a ?l ?c ?k; (case a => k_is); (case l => k_is); (case c => k_is); (case k => k_is))
      (case d_faults => refine' K01.defIn_mk ?a ?l ?c ?k; (case a => k_is); (case l => k_is); (case c => k_is); (case k => k_is))
      (case d_head_at => refine' K01.defIn_mk ?a ?l ?c ?k; (case a => k_is); (case l => k_is); (case c => k_is); (case k => k_is))
      (case d_is_name => refine' K01.defIn_mk ?a ?l ?c ?k; (case a => k_is); (case l => k_is); (case c => k_is); (case k => k_is))
      (case d_is_path => refine' K01.defIn_mk ?a ?l ?c ?k; (case a => k_is); (case l => k_is); (case c => k_is); (case k => k_is))
      (case d_is_rest => refine' K01.defIn_mk ?a ?l ?c ?k; (case a => k_is); (case l => k_is); (case c => k_is); (case k => k_is))
      (case d_is_sign => refine' K01.defIn_mk ?a ?l ?c ?k; (case a => k_is); (case l => k_is); (case c => k_is); (case k => k_is))
      (case d_long_at => refine' K01.defIn_mk ?a ?l ?c ?k; (case a => k_is); (case l => k_is); (case c => k_is); (case k => k_is))
      (case d_look_twice => refine' K01.defIn_mk ?a ?l ?c ?k; (case a => k_is); (case l => k_is); (case c => k_is); (case k => k_is))
      (case d_number_at => refine' K01.defIn_mk ?a ?l ?c ?k; (case a => k_is); (case l => k_is); (case c => k_is); (case k => k_is))
      (case d_quoted => refine' K01.defIn_mk ?a ?l ?c ?k; (case a => k_is); (case l => k_is); (case c => k_is); (case k => k_is))
      (case d_read => refine' K01.defIn_mk ?a ?l ?c ?k; (case a => k_is); (case l => k_is); (case c => k_is); (case k => k_is))
      (case d_row_at => refine' K01.defIn_mk ?a ?l ?c ?k; (case a => k_is); (case l => k_is); (case c => k_is); (case k => k_is))
      (case d_single_at => refine' K01.defIn_mk ?a ?l ?c ?k; (case a => k_is); (case l => k_is); (case c => k_is); (case k => k_is))
      (case d_text_at => refine' K01.defIn_mk ?a ?l ?c ?k; (case a => k_is); (case l => k_is); (case c => k_is); (case k => k_is))
      (case d_text_of => refine' K01.defIn_mk ?a ?l ?c ?k; (case a => k_is); (case l => k_is); (case c => k_is); (case k => k_is))
      (case d_under => refine' K01.defIn_mk ?a ?l ?c ?k; (case a => k_is); (case l => k_is); (case c => k_is); (case k => k_is))
      (case d_value_at => refine' K01.defIn_mk ?a ?l ?c ?k; (case a => k_is); (case l => k_is); (case c => k_is); (case k => k_is))
      (case d_walk => refine' K01.defIn_mk ?a ?l ?c ?k; (case a => k_is); (case l => k_is); (case c => k_is); (case k => k_is))
    case kMets =>
      refine' ⟨?m_Book___init__, ?m_Book_paths, ?m_Book_spots, ?m_Fault___init__, ?m_Row___init__⟩
      (case m_Book___init__ => refine' K01.metIn_mk ?a ?l ?c ?k ?fn; (case a => k_is); (case l => k_is); (case c => k_is); (case k => k_is); (case fn => k_is))
      (case m_Book_paths => refine' K01.metIn_mk ?a ?l ?c ?k ?fn; (case a => k_is); (case l => k_is); (case c => k_is); (case k => k_is); (case fn => k_is))
      (case m_Book_spots => refine' K01.metIn_mk ?a ?l ?c ?k ?fn; (case a => k_is); (case l => k_is); (case c => k_is); (case k => k_is); (case fn => k_is))
      (case m_Fault___init__ => refine' K01.metIn_mk ?a ?l ?c ?k ?fn; (case a => k_is); (case l => k_is); (case c => k_is); (case k => k_is); (case fn => k_is))
      (case m_Row___init__ => refine' K01.metIn_mk ?a ?l ?c ?k ?fn; (case a => k_is); (case l => k_is); (case c => k_is); (case k => k_is); (case fn => k_is))
    case kHd =>
      refine' ⟨?q_b, ?q_b2, ?q_srt, ?q_con, ?q_con2, ?q_esc, ?q_clB, ?q_nrows, ?q_npast, ?q_mkB, ?q_kB, ?q_clR, ?q_nw, ?q_nl, ?q_nn, ?q_nv, ?q_nf, ?q_nr, ?q_mkR, ?q_kR, ?q_oex, ?q_nrow, ?q_nword, ?q_sup, ?q_xfc, ?q_exm, ?q_exc, ?q_sett, ?q_caught⟩
      case q_b =>
        refine' ⟨K01.bn KX G ?b0, K01.bn KX G ?b1, K01.bn KX G ?b2, K01.bn KX G ?b3, K01.bn KX G ?b4, K01.bn KX G ?b5, K01.bn KX G ?b6, K01.bn KX G ?b7, K01.bn KX G ?b8, K01.bn KX G ?b9, K01.bn KX G ?b10⟩
        (case b0 => k_is); (case b1 => k_is); (case b2 => k_is); (case b3 => k_is); (case b4 => k_is); (case b5 => k_is); (case b6 => k_is); (case b7 => k_is); (case b8 => k_is); (case b9 => k_is); (case b10 => k_is)
      case q_b2 =>
        refine' ⟨K01.bn KX G ?b0⟩
        (case b0 => k_is)
      (case q_srt => refine' K01.bn KX G ?b0; (case b0 => k_is))
      case q_con =>
        refine' ⟨K01.str_mk KX G ?a, K01.int_mk KX G ?b, K01.int_mk KX G ?c, K01.int_mk KX G ?d⟩
        (case a => k_is); (case b => k_is); (case c => k_is); (case d => k_is)
      case q_con2 =>
        refine' ⟨K01.str_mk KX G ?a, K01.int_mk KX G ?b, K01.int_mk KX G ?c, K01.str_mk KX G ?d⟩
        (case a => k_is); (case b => k_is); (case c => k_is); (case d => k_is)
      case q_esc =>
        refine' K01.esc_mk KX G ?a ?l ?hk ?low ?e1 ?e2 ?e3
        (case a => k_is); (case l => k_is); (case hk => rfl); (case low => rfl); (case e1 => k_is); (case e2 => k_is); (case e3 => k_is)
      (case q_clB => refine' ⟨?a, ?b, ?c, ?d⟩; (case a => k_is); (case b => k_is); (case c => k_is); (case d => k_is))
      (case q_nrows => show PySem.W.findIn _ _ _ = _; k_is); (case q_npast => show PySem.W.findIn _ _ _ = _; k_is); (case q_mkB => k_is); (case q_kB => k_is)
      (case q_clR => refine' ⟨?a, ?b, ?c, ?d⟩; (case a => k_is); (case b => k_is); (case c => k_is); (case d => k_is))
      (case q_nw => show PySem.W.findIn _ _ _ = _; k_is); (case q_nl => show PySem.W.findIn _ _ _ = _; k_is); (case q_nn => show PySem.W.findIn _ _ _ = _; k_is); (case q_nv => show PySem.W.findIn _ _ _ = _; k_is); (case q_nf => show PySem.W.findIn _ _ _ = _; k_is); (case q_nr => show PySem.W.findIn _ _ _ = _; k_is); (case q_mkR => k_is); (case q_kR => k_is)
      case q_oex =>
        refine' K01.oex_mk ?l ?r ?sa ?ex ?ty ?kc
        (case l => k_is); (case r => rfl); (case sa => k_is); (case ex => k_is); (case ty => k_is); (case kc => k_is)
      (case q_nrow => k_is); (case q_nword => k_is)
      case q_sup =>
        refine' K01.sup_mk KX G ?a ?s ?r ?v
        (case a => k_is); (case s => k_is); (case r => k_is); (case v => k_is)
      (case q_xfc => refine' ⟨?a, ?b, ?c, ?d⟩; (case a => k_is); (case b => k_is); (case c => k_is); (case d => k_is))
      (case q_exm => first | rfl | k_is)
      case q_exc =>
        refine' ⟨?hg, ?hk, ?hs, ?hd, ?ha, ?hn, ?ht, ?hm⟩
        (case hg => k_is); (case hk => k_is); (case hs => k_is); (case hd => k_is); (case ha => k_is); (case hn => k_is); (case ht => k_is); (case hm => k_is)
      case q_sett =>
        refine' K01.isn_mk KX G ?a ?n ?c ?ty ?s
        (case a => k_is); (case n => rfl); (case c => rfl); (case ty => k_is); (case s => k_is)
      case q_caught =>
        refine' K01.sett_mk KX G ?a ?x
        (case a => k_is); (case x => first | rfl | k_is)
#print axioms PySem.Challenge.cw_settingbook_k11_whole_each_fault_holds

