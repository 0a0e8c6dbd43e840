import PyProof.Rows.All
import Wide.All
import OpenK.AllK
import Wide.FinOn
import HandS.ForMost
import HandS.ForExc
import HandS.Wide
import HandS.IsInst
import HandS.TupAny
import HandS.Style
import HandS.Defaults
import KE.KStateDown
import HandS.More
import HandS.Head0
import HandS.Head1
import HandS.Head2
import HandS.HeadEnd
import HandS.HeadHook1
import HandS.HeadHook2
import HandS.HeadHook3
import HandS.HeadHook4
import PySem.Challenge.RW_netsieve_k13_packets_taken
set_option Elab.async false
set_option linter.all false
set_option maxRecDepth 100000
set_option maxHeartbeats 4000000
/-! A functional reading of the programs: data D, environments, and what relates them to the layer's heap. -/
namespace NS
open PySem PySem.Spec L2
open PyProof.Rows hiding St

def st (l : List Nat) : Str := ⟨l.toArray⟩
abbrev Ky := Sum Int (List Nat)
def ky : Ky → Key
  | .inl i => .inl i
  | .inr l => .inr (st l)

inductive D where
  | non | bl (b : Bool) | int (i : Int) | str (s : List Nat)
  | tup (l : List D) | lst (l : List D) | dct (ks : List Ky) (vs : List D)
  | exc (c : Nat) (ks : List (List Nat)) (vs : List D)
  /-- the script -/
  | scr (ns : List Int)

/-- an exception on its way: its class, its fields -/
structure Ex where
  c : Nat
  ks : List (List Nat)
  vs : List D

inductive Out (α : Type) where
  | ok (a : α) | er (e : Ex) | st

@[simp] def Out.bind {α β : Type} (m : Out α) (f : α → Out β) : Out β := match m with
  | .ok a => f a
  | .er e => .er e
  | .st => .st

/-- what may be changed: a list, a dict -/
inductive Mu where
  | lst (l : List D) | dct (ks : List Ky) (vs : List D)
@[simp] def Mu.toD : Mu → D
  | .lst l => .lst l
  | .dct ks vs => .dct ks vs
inductive FV where
  | d (x : D) | m (x : Mu)
inductive Ob where
  | m (x : Mu) | ins (c : Nat) (fs : List (Str × FV))
/-- a local's slot -/
inductive Ce where
  | un | d (x : D) | own (p : Bool) (o : Ob)
abbrev Ev := List Ce

/-- the written part, where its classes stand -/
structure Wd where
  K : PySem.W.Frag
  cl : Nat → Addr

/-- an exception's object, told by its class and its own dict -/
def ExtX (cls : Value) (d : Option Addr) (a : Addr) : HO := .ext fun h => ∃ (oe : Obj) (vs : Array Value), h.get? a = some oe ∧ Zc cls d oe ∧ oe.data = .fields vs

mutual
inductive Rep (G : Wd) (I : Hp) : V → D → Prop
  | non : Rep G I .non .non
  | bl (b : Bool) : Rep G I (.bl b) (.bl b)
  | int (i : Int) : Rep G I (.int i) (.int i)
  | str (l : List Nat) : Rep G I (.str (st l)) (.str l)
  | tup {a : Addr} {xs : List V} {ds : List D} : SqT G.K I a xs → RepA G I xs ds → Rep G I (.ref a) (.tup ds)
  | lst {a : Addr} {xs : List V} {ds : List D} : I a = some (.lst xs) → RepA G I xs ds → Rep G I (.ref a) (.lst ds)
  | scr {a : Addr} {ns : List Int} : SqL G.K I a (ns.map V.int) → Rep G I (.ref a) (.scr ns)
  | dct {a : Addr} {ks : List Ky} {xs : List V} {ds : List D} : I a = some (.dK ((ks.map ky).zip xs)) → xs.length = ks.length → RepA G I xs ds → Rep G I (.ref a) (.dct ks ds)
  | exc {a dx : Addr} {c : Nat} {ks : List (List Nat)} {xs : List V} {ds : List D} : I a = some (ExtX (.ref (G.cl c)) (some dx) a) → I dx = some (.xd ((ks.map st).zip xs)) → xs.length = ks.length → RepA G I xs ds → Rep G I (.ref a) (.exc c ks ds)
  | exc0 {a : Addr} {c : Nat} : I a = some (ExtX (.ref (G.cl c)) none a) → Rep G I (.ref a) (.exc c [] [])
inductive RepA (G : Wd) (I : Hp) : List V → List D → Prop
  | nil : RepA G I [] []
  | cons {v : V} {vs : List V} {d : D} {ds : List D} : Rep G I v d → RepA G I vs ds → RepA G I (v :: vs) (d :: ds)
end

theorem same_sqT {K : PySem.W.Frag} {H H' : Hp} {a : Addr} {xs : List V} (e : Same H H') (h : SqT K H a xs) : SqT K H' a xs := by
  rcases h with (h | ⟨o, h⟩) | h
  · exact .inl (.inl (e _ _ h))
  · exact .inl (.inr ⟨o, e _ _ h⟩)
  · exact .inr h

mutual
theorem Rep.mono {G : Wd} {I I' : Hp} (s : Same I I') : ∀ {v : V} {d : D}, Rep G I v d → Rep G I' v d
  | _, _, .non => .non
  | _, _, .bl b => .bl b
  | _, _, .int i => .int i
  | _, _, .str l => .str l
  | _, _, .tup h r => .tup (same_sqT s h) (RepA.mono s r)
  | _, _, .lst h r => .lst (s _ _ h) (RepA.mono s r)
  | _, _, .scr h => .scr (s.seq h)
  | _, _, .dct h e r => .dct (s _ _ h) e (RepA.mono s r)
  | _, _, .exc h g e r => .exc (s _ _ h) (s _ _ g) e (RepA.mono s r)
  | _, _, .exc0 h => .exc0 (s _ _ h)
theorem RepA.mono {G : Wd} {I I' : Hp} (s : Same I I') : ∀ {v : List V} {d : List D}, RepA G I v d → RepA G I' v d
  | _, _, .nil => .nil
  | _, _, .cons a b => .cons (Rep.mono s a) (RepA.mono s b)
end
theorem RepA.length {G : Wd} {I : Hp} : ∀ {v : List V} {d : List D}, RepA G I v d → v.length = d.length
  | _, _, .nil => rfl
  | _, _, .cons _ b => by simp [RepA.length b]
theorem RepA.get {G : Wd} {I : Hp} : ∀ {xs : List V} {ds : List D} {i : Nat} {d : D}, RepA G I xs ds → ds[i]? = some d → ∃ v, xs[i]? = some v ∧ Rep G I v d
  | _, _, _, _, .nil, e => by simp at e
  | _, _, 0, _, .cons r _, e => by simp at e; subst e; exact ⟨_, rfl, r⟩
  | _, _, i + 1, x, .cons _ t, e => by
    obtain ⟨u, h1, h2⟩ := RepA.get (i := i) (d := x) t (by simpa using e)
    exact ⟨u, by simpa using h1, h2⟩
theorem RepA.getV {G : Wd} {I : Hp} : ∀ {xs : List V} {ds : List D} {i : Nat} {v : V}, RepA G I xs ds → xs[i]? = some v → ∃ d, ds[i]? = some d ∧ Rep G I v d
  | _, _, _, _, .nil, e => by simp at e
  | _, _, 0, _, .cons r _, e => by simp at e; subst e; exact ⟨_, rfl, r⟩
  | _, _, i + 1, x, .cons _ t, e => by
    obtain ⟨u, h1, h2⟩ := RepA.getV (i := i) (v := x) t (by simpa using e)
    exact ⟨u, by simpa using h1, h2⟩
theorem RepA.append {G : Wd} {I : Hp} : ∀ {xs ys : List V} {ds es : List D}, RepA G I xs ds → RepA G I ys es → RepA G I (xs ++ ys) (ds ++ es)
  | _, _, _, _, .nil, s => s
  | _, _, _, _, .cons r t, s => .cons r (RepA.append t s)
theorem RepA.take {G : Wd} {I : Hp} : ∀ {xs : List V} {ds : List D} (n : Nat), RepA G I xs ds → RepA G I (xs.take n) (ds.take n)
  | _, _, 0, _ => .nil
  | _, _, _ + 1, .nil => .nil
  | _, _, n + 1, .cons r t => .cons r (RepA.take n t)
theorem RepA.drop {G : Wd} {I : Hp} : ∀ {xs : List V} {ds : List D} (n : Nat), RepA G I xs ds → RepA G I (xs.drop n) (ds.drop n)
  | _, _, 0, r => r
  | _, _, _ + 1, .nil => .nil
  | _, _, n + 1, .cons _ t => RepA.drop n t
theorem RepA.set {G : Wd} {I : Hp} {x : V} {d : D} (r : Rep G I x d) : ∀ {xs : List V} {ds : List D} (i : Nat), RepA G I xs ds → RepA G I (xs.set i x) (ds.set i d)
  | _, _, _, .nil => .nil
  | _, _, 0, .cons _ t => .cons r t
  | _, _, i + 1, .cons q t => .cons q (RepA.set r i t)

/-! ### what may be changed, and where it stands -/
def MR (G : Wd) (I H : Hp) (a : Addr) : Mu → Prop
  | .lst l => ∃ xs, H a = some (.lst xs) ∧ RepA G I xs l
  | .dct ks vs => ∃ xs, H a = some (.dK ((ks.map ky).zip xs)) ∧ xs.length = ks.length ∧ RepA G I xs vs
def FVR (G : Wd) (I H : Hp) (v : V) : FV → List Addr → Prop
  | .d x, fp => Rep G I v x ∧ fp = []
  | .m x, fp => ∃ a, v = .ref a ∧ MR G I H a x ∧ fp = [a]
inductive FldsR (G : Wd) (I H : Hp) : List (Str × V) → List (Str × FV) → List (List Addr) → Prop
  | nil : FldsR G I H [] [] []
  | cons {n : Str} {v : V} {vs : List (Str × V)} {f : FV} {fs : List (Str × FV)} {fp : List Addr} {fps : List (List Addr)} : FVR G I H v f fp → FldsR G I H vs fs fps → FldsR G I H ((n, v) :: vs) ((n, f) :: fs) (fp :: fps)
def OR (G : Wd) (I H : Hp) (v : V) : Ob → List Addr → Prop
  | .m x, fp => ∃ a, v = .ref a ∧ fp = [a] ∧ MR G I H a x
  | .ins c fs, fp => ∃ a dx vs fps, v = .ref a ∧ H a = some (.ins (G.cl c) dx vs) ∧ H dx = some (.own a) ∧ FldsR G I H vs fs fps ∧ fp = a :: dx :: fps.flatten

/-- a body's entry: the heap, what was held for good, what it was handed to change, the slots of that -/
structure Fr0 where
  H0 : Hp
  I0 : Hp
  S0 : List Addr
  P : List (Nat × V)

def CellR (G : Wd) (F : Fr0) (I H : Hp) : Ce → Option V → List Addr → Prop
  | .un, _, fp => fp = []
  | .d x, ov, fp => ∃ v, ov = some v ∧ Rep G I v x ∧ fp = []
  | .own p o, ov, fp => ∃ v, ov = some v ∧ OR G I H v o fp ∧ ∀ a ∈ fp, F.H0 a = none ∨ (p = true ∧ a ∈ F.S0)
inductive CellsR (G : Wd) (F : Fr0) (I H : Hp) : Ev → St → List (List Addr) → Prop
  | nil : CellsR G F I H [] [] []
  | cons {c : Ce} {cs : Ev} {v : Option V} {vs : St} {fp : List Addr} {fps : List (List Addr)} : CellR G F I H c v fp → CellsR G F I H cs vs fps → CellsR G F I H (c :: cs) (v :: vs) (fp :: fps)

structure Rel (G : Wd) (F : Fr0) (X : List Addr) (I : Hp) (ρ : Ev) (σ : St) (H : Hp) : Prop where
  sub : Same I H
  keep : ∀ a o, F.H0 a = some o → a ∉ F.S0 → H a = some o
  dom : ∀ a, H a = none → F.H0 a = none
  inew : ∀ a o, I a = some o → F.I0 a = some o ∨ F.H0 a = none
  i0 : Same F.I0 I
  xnew : ∀ a ∈ X, F.H0 a = none ∧ H a ≠ none
  pins : ∀ p ∈ F.P, σ[p.1]? = some (some p.2) ∧ ∃ o, ρ[p.1]? = some (.own true o)
  cells : ∃ fps, CellsR G F I H ρ σ fps ∧ (X ++ fps.flatten).Nodup ∧ ∀ a ∈ X ++ fps.flatten, I a = none

section
variable {G : Wd} {F : Fr0} {X : List Addr} {I I' H H' : Hp} {ρ : Ev} {σ : St}
theorem MR.frame {a : Addr} {m : Mu} (s : Same I I') (h : H' a = H a) (r : MR G I H a m) : MR G I' H' a m := by
  cases m with
  | lst l => obtain ⟨xs, e, q⟩ := r; exact ⟨xs, h.trans e, q.mono s⟩
  | dct ks vs => obtain ⟨xs, e, l, q⟩ := r; exact ⟨xs, h.trans e, l, q.mono s⟩
theorem FVR.frame {v : V} {f : FV} {fp : List Addr} (s : Same I I') (h : ∀ a ∈ fp, H' a = H a) (r : FVR G I H v f fp) : FVR G I' H' v f fp := by
  cases f with
  | d x => exact ⟨r.1.mono s, r.2⟩
  | m x =>
    obtain ⟨a, e, q, ef⟩ := r
    subst ef
    exact ⟨a, e, q.frame s (h a (by simp)), rfl⟩
theorem FldsR.frame (s : Same I I') : ∀ {vs : List (Str × V)} {fs : List (Str × FV)} {fps : List (List Addr)}, (∀ a ∈ fps.flatten, H' a = H a) → FldsR G I H vs fs fps → FldsR G I' H' vs fs fps
  | _, _, _, _, .nil => .nil
  | _, _, _, h, .cons r t => .cons (r.frame s fun a ha => h a (by simp [ha])) (FldsR.frame s (fun a ha => h a (by simp only [List.flatten_cons, List.mem_append]; exact .inr ha)) t)
theorem OR.frame {v : V} {o : Ob} {fp : List Addr} (s : Same I I') (h : ∀ a ∈ fp, H' a = H a) (r : OR G I H v o fp) : OR G I' H' v o fp := by
  cases o with
  | m x =>
    obtain ⟨a, e, ef, q⟩ := r
    subst ef
    exact ⟨a, e, rfl, q.frame s (h a (by simp))⟩
  | ins c fs =>
    obtain ⟨a, dx, vs, fps, e, h1, h2, h3, ef⟩ := r
    subst ef
    exact ⟨a, dx, vs, fps, e, (h a (by simp)).trans h1, (h dx (by simp)).trans h2, h3.frame s (fun b hb => h b (by simp only [List.mem_cons]; exact .inr (.inr hb))), rfl⟩
theorem CellR.frame {c : Ce} {v : Option V} {fp : List Addr} (s : Same I I') (h : ∀ a ∈ fp, H' a = H a) (r : CellR G F I H c v fp) : CellR G F I' H' c v fp := by
  cases c with
  | un => exact r
  | d x => obtain ⟨u, e, q, f⟩ := r; exact ⟨u, e, q.mono s, f⟩
  | own p o => obtain ⟨u, e, q, f⟩ := r; exact ⟨u, e, q.frame s h, f⟩
theorem CellsR.frame (s : Same I I') : ∀ {ρ : Ev} {σ : St} {fps : List (List Addr)}, (∀ a ∈ fps.flatten, H' a = H a) → CellsR G F I H ρ σ fps → CellsR G F I' H' ρ σ fps
  | _, _, _, _, .nil => .nil
  | _, _, _, h, .cons r t => .cons (r.frame s fun a ha => h a (by simp [ha])) (CellsR.frame s (fun a ha => h a (by simp only [List.flatten_cons, List.mem_append]; exact .inr ha)) t)
theorem MR.there {a : Addr} {m : Mu} (r : MR G I H a m) : H a ≠ none := by
  cases m with
  | lst l => obtain ⟨xs, e, q⟩ := r; rw [e]; simp
  | dct ks vs => obtain ⟨xs, e, l, q⟩ := r; rw [e]; simp
theorem FldsR.there : ∀ {vs : List (Str × V)} {fs : List (Str × FV)} {fps : List (List Addr)}, FldsR G I H vs fs fps → ∀ a ∈ fps.flatten, H a ≠ none
  | _, _, _, .nil, a, ha => by simp at ha
  | _, _, _, .cons (f := f) r t, a, ha => by
    simp only [List.flatten_cons, List.mem_append] at ha
    rcases ha with ha | ha
    · cases f with
      | d x => rw [r.2] at ha; simp at ha
      | m x =>
        obtain ⟨b, e, q, ef⟩ := r
        rw [ef] at ha
        simp at ha
        subst ha
        exact q.there
    · exact FldsR.there t a ha
theorem OR.there {v : V} {o : Ob} {fp : List Addr} (r : OR G I H v o fp) : ∀ a ∈ fp, H a ≠ none := by
  intro a ha
  cases o with
  | m x =>
    obtain ⟨b, e, ef, q⟩ := r
    subst ef
    simp at ha
    subst ha
    exact q.there
  | ins c fs =>
    obtain ⟨b, dx, vs, fps, e, h1, h2, h3, ef⟩ := r
    subst ef
    simp only [List.mem_cons] at ha
    rcases ha with rfl | rfl | ha
    · rw [h1]; simp
    · rw [h2]; simp
    · exact h3.there a ha
theorem CellsR.there : ∀ {ρ : Ev} {σ : St} {fps : List (List Addr)}, CellsR G F I H ρ σ fps → ∀ a ∈ fps.flatten, H a ≠ none
  | _, _, _, .nil, a, ha => by simp at ha
  | _, _, _, .cons (c := c) r t, a, ha => by
    simp only [List.flatten_cons, List.mem_append] at ha
    rcases ha with ha | ha
    · cases c with
      | un => rw [show _ = [] from r] at ha; simp at ha
      | d x => obtain ⟨u, e, q, f⟩ := r; rw [f] at ha; simp at ha
      | own p o => obtain ⟨u, e, q, f⟩ := r; exact q.there a ha
    · exact CellsR.there t a ha
theorem CellsR.length : ∀ {ρ : Ev} {σ : St} {fps : List (List Addr)}, CellsR G F I H ρ σ fps → ρ.length = σ.length ∧ ρ.length = fps.length
  | _, _, _, .nil => ⟨rfl, rfl⟩
  | _, _, _, .cons _ t => by
    obtain ⟨h1, h2⟩ := CellsR.length t
    exact ⟨by simp [h1], by simp [h2]⟩
theorem CellsR.get : ∀ {ρ : Ev} {σ : St} {fps : List (List Addr)} {i : Nat} {c : Ce}, CellsR G F I H ρ σ fps → ρ[i]? = some c → ∃ v fp, σ[i]? = some v ∧ fps[i]? = some fp ∧ CellR G F I H c v fp
  | _, _, _, _, _, .nil, e => by simp at e
  | _, _, _, 0, _, .cons r _, e => by simp at e; subst e; exact ⟨_, _, rfl, rfl, r⟩
  | _, _, _, i + 1, x, .cons _ t, e => by
    obtain ⟨u, fp, h1, h2, h3⟩ := CellsR.get (i := i) (c := x) t (by simpa using e)
    exact ⟨u, fp, by simpa using h1, by simpa using h2, h3⟩
theorem CellsR.set {c : Ce} {v : Option V} {fp : List Addr} (r : CellR G F I H c v fp) : ∀ {ρ : Ev} {σ : St} {fps : List (List Addr)} (i : Nat), CellsR G F I H ρ σ fps → CellsR G F I H (ρ.set i c) (σ.set i v) (fps.set i fp)
  | _, _, _, _, .nil => .nil
  | _, _, _, 0, .cons _ t => .cons r t
  | _, _, _, i + 1, .cons q t => .cons q (CellsR.set r i t)

theorem same_upd {H : Hp} {p : Addr} {o : HO} (h : H p = none) : Same H (upd H p o) := fun b u e => by
  rw [upd_ne (ne_of_none e h)]; exact e

/-- a new thing is laid; it is ours -/
theorem Rel.alloc {p : Addr} {o : HO} (R : Rel G F X I ρ σ H) (h : H p = none) : Rel G F (p :: X) I ρ σ (upd H p o) := by
  obtain ⟨fps, c1, c2, c3⟩ := R.cells
  have hp : ∀ a, H a ≠ none → a ≠ p := fun a ha e => by subst e; exact ha h
  have hin : p ∉ X ++ fps.flatten := fun hm => by
    rcases List.mem_append.mp hm with hm | hm
    · exact (R.xnew p hm).2 h
    · exact c1.there p hm h
  refine ⟨fun a u e => same_upd h _ _ (R.sub a u e), fun a u e ha => same_upd h _ _ (R.keep a u e ha), fun a e => ?_, R.inew, R.i0, fun a ha => ?_, R.pins, fps, ?_, ?_, ?_⟩
  · by_cases q : a = p
    · subst q; exact R.dom a h
    · rw [upd_ne q] at e; exact R.dom a e
  · rcases List.mem_cons.mp ha with rfl | ha
    · exact ⟨R.dom _ h, by rw [upd_same]; simp⟩
    · obtain ⟨h1, h2⟩ := R.xnew a ha
      exact ⟨h1, by rw [upd_ne (hp a h2)]; exact h2⟩
  · exact c1.frame (Same.refl I) fun a ha => upd_ne (hp a (c1.there a ha))
  · exact List.nodup_cons.mpr ⟨hin, c2⟩
  · intro a ha
    rcases List.mem_cons.mp ha with rfl | ha
    · cases q : I a with
      | none => rfl
      | some u =>
        have z := R.sub a u q
        rw [h] at z; cases z
    · exact c3 a ha
/-- ours no more: it stays as it is for good -/
theorem Rel.freeze {p : Addr} {o : HO} (R : Rel G F (p :: X) I ρ σ H) (h : H p = some o) : Rel G F X (upd I p o) ρ σ H := by
  obtain ⟨fps, c1, c2, c3⟩ := R.cells
  obtain ⟨n1, n2⟩ := List.nodup_cons.mp c2
  have hI : I p = none := c3 p (by simp)
  have s : Same I (upd I p o) := same_upd hI
  refine ⟨fun a u e => ?_, R.keep, R.dom, fun a u e => ?_, fun a u e => s _ _ (R.i0 a u e), fun a ha => R.xnew a (List.mem_cons_of_mem _ ha), R.pins, fps, c1.frame s fun _ _ => rfl, n2, fun a ha => ?_⟩
  · by_cases q : a = p
    · subst q; rw [upd_same] at e; cases e; exact h
    · rw [upd_ne q] at e; exact R.sub a u e
  · by_cases q : a = p
    · subst q; exact .inr (R.xnew a (by simp)).1
    · rw [upd_ne q] at e; exact R.inew a u e
  · rw [upd_ne (fun e => by subst e; exact n1 ha)]
    exact c3 a (List.mem_cons_of_mem _ ha)
theorem Rel.allocI {p : Addr} {o : HO} (R : Rel G F X I ρ σ H) (h : H p = none) : Rel G F X (upd I p o) ρ σ (upd H p o) := (R.alloc h).freeze upd_same
theorem Rel.inone {p : Addr} (R : Rel G F X I ρ σ H) (h : H p = none) : I p = none := by
  cases q : I p with
  | none => rfl
  | some u => have z := R.sub p u q; rw [h] at z; cases z
/-- ours may be dropped -/
theorem Rel.drop {p : Addr} (R : Rel G F (p :: X) I ρ σ H) : Rel G F X I ρ σ H := by
  obtain ⟨fps, c1, c2, c3⟩ := R.cells
  exact ⟨R.sub, R.keep, R.dom, R.inew, R.i0, fun a ha => R.xnew a (List.mem_cons_of_mem _ ha), R.pins, fps, c1, (List.nodup_cons.mp c2).2, fun a ha => c3 a (List.mem_cons_of_mem _ ha)⟩
end
end NS

set_option Elab.async false
set_option linter.all false
set_option maxRecDepth 100000
set_option maxHeartbeats 4000000
namespace NS
open PySem PySem.Spec L2
open PyProof.Rows hiding St

/-! ### what an expression's reading asks -/
structure Lt (G : Wd) (F : Fr0) (X : List Addr) (ρ : Ev) (σ : St) (I H I' H' : Hp) : Prop where
  i : Same I I'
  h : Same H H'
  new : ∀ a o, I' a = some o → I a = some o ∨ H a = none
  r : Rel G F X I' ρ σ H'
/-- .. and a is new, and ours -/
structure LtF (G : Wd) (F : Fr0) (X : List Addr) (ρ : Ev) (σ : St) (I H I' H' : Hp) (a : Addr) : Prop where
  i : Same I I'
  h : Same H H'
  new : ∀ a o, I' a = some o → I a = some o ∨ H a = none
  hn : H a = none
  r : Rel G F (a :: X) I' ρ σ H'
/-- a value seen as data: for good, or a list or dict as it stands now -/
def VB (G : Wd) (I H : Hp) (v : V) (d : D) : Prop := Rep G I v d ∨ ∃ a m, v = .ref a ∧ MR G I H a m ∧ d = m.toD
def ExR (G : Wd) (I H : Hp) (e : Ex) (cls : Value) (d : Option Addr) : Prop :=
  cls = .ref (G.cl e.c) ∧ ((d = none ∧ e.ks = [] ∧ e.vs = []) ∨ ∃ dx xs, d = some dx ∧ I dx = some (.xd ((e.ks.map st).zip xs)) ∧ xs.length = e.ks.length ∧ RepA G I xs e.vs)
abbrev EM := Ev → Out D
/-- an exception on the way out of an expression -/
def ErP (G : Wd) (W : WX) (F : Fr0) (X : List Addr) (I : Hp) (ρ : Ev) (σ : St) (H : Hp) (e : Ex) : Prop :=
  ∀ I' H' cls dx, Lt G F X ρ σ I H I' H' → ExR G I' H' e cls dx → W cls dx σ H'
def OkB (G : Wd) (W : WX) (F : Fr0) (X : List Addr) (I : Hp) (ρ : Ev) (σ : St) (H : Hp) (Q : VK) : Out D → Prop
  | .ok d => ∀ I' H' v, Lt G F X ρ σ I H I' H' → VB G I' H' v d → Q v H'
  | .er e => ErP G W F X I ρ σ H e
  | .st => False
def OkD (G : Wd) (W : WX) (F : Fr0) (X : List Addr) (I : Hp) (ρ : Ev) (σ : St) (H : Hp) (Q : VK) : Out D → Prop
  | .ok d => ∀ I' H' v, Lt G F X ρ σ I H I' H' → Rep G I' v d → Q v H'
  | .er e => ErP G W F X I ρ σ H e
  | .st => False
def OkF (G : Wd) (W : WX) (F : Fr0) (X : List Addr) (I : Hp) (ρ : Ev) (σ : St) (H : Hp) (Q : VK) : Out Mu → Prop
  | .ok m => ∀ I' H' a, LtF G F X ρ σ I H I' H' a → MR G I' H' a m → Q (.ref a) H'
  | .er e => ErP G W F X I ρ σ H e
  | .st => False
def OkA (G : Wd) (W : WX) (F : Fr0) (X : List Addr) (I : Hp) (ρ : Ev) (σ : St) (H : Hp) (Q : List V → Hp → Prop) : Out (List D) → Prop
  | .ok ds => ∀ I' H' vs, Lt G F X ρ σ I H I' H' → RepA G I' vs ds → Q vs H'
  | .er e => ErP G W F X I ρ σ H e
  | .st => False
def OkT (G : Wd) (W : WX) (F : Fr0) (X : List Addr) (I : Hp) (ρ : Ev) (σ : St) (H : Hp) (Q : Bool → Hp → Prop) : Out Bool → Prop
  | .ok b => ∀ I' H', Lt G F X ρ σ I H I' H' → Q b H'
  | .er e => ErP G W F X I ρ σ H e
  | .st => False
def tB (G : Wd) (W : WX) (m : EM) : TE := fun σ H Q => ∃ F X I ρ, Rel G F X I ρ σ H ∧ OkB G W F X I ρ σ H Q (m ρ)
def tD (G : Wd) (W : WX) (m : EM) : TE := fun σ H Q => ∃ F X I ρ, Rel G F X I ρ σ H ∧ OkD G W F X I ρ σ H Q (m ρ)
def tF (G : Wd) (W : WX) (m : Ev → Out Mu) : TE := fun σ H Q => ∃ F X I ρ, Rel G F X I ρ σ H ∧ OkF G W F X I ρ σ H Q (m ρ)
def tA (G : Wd) (W : WX) (m : Ev → Out (List D)) : TA := fun σ H Q => ∃ F X I ρ, Rel G F X I ρ σ H ∧ OkA G W F X I ρ σ H Q (m ρ)
def tT (G : Wd) (W : WX) (m : Ev → Out Bool) : TT := fun σ H Q => ∃ F X I ρ, Rel G F X I ρ σ H ∧ OkT G W F X I ρ σ H Q (m ρ)

section
variable {G : Wd} {W : WX} {F : Fr0} {X : List Addr} {I I1 I2 H H1 H2 : Hp} {ρ : Ev} {σ : St}
theorem Lt.refl (R : Rel G F X I ρ σ H) : Lt G F X ρ σ I H I H := ⟨Same.refl _, Same.refl _, fun _ _ e => .inl e, R⟩
theorem Lt.trans (a : Lt G F X ρ σ I H I1 H1) (b : Lt G F X ρ σ I1 H1 I2 H2) : Lt G F X ρ σ I H I2 H2 := ⟨a.i.trans b.i, a.h.trans b.h, fun c o e => (b.new c o e).elim (a.new c o) fun z => .inr (a.h.free z), b.r⟩
theorem Lt.transF {a : Addr} (l : Lt G F X ρ σ I H I1 H1) (b : LtF G F X ρ σ I1 H1 I2 H2 a) : LtF G F X ρ σ I H I2 H2 a := ⟨l.i.trans b.i, l.h.trans b.h, fun c o e => (b.new c o e).elim (l.new c o) fun z => .inr (l.h.free z), l.h.free b.hn, b.r⟩
theorem Rel.ltAlloc {p : Addr} {o : HO} (R : Rel G F X I ρ σ H) (h : H p = none) : Lt G F X ρ σ I H (upd I p o) (upd H p o) :=
  ⟨same_upd (R.inone h), same_upd h, fun c u e => (by
    by_cases q : c = p
    · subst q; exact .inr h
    · rw [upd_ne q] at e; exact .inl e), R.allocI h⟩
theorem Rel.ltFresh {p : Addr} {o : HO} (R : Rel G F X I ρ σ H) (h : H p = none) : LtF G F X ρ σ I H I (upd H p o) p :=
  ⟨Same.refl _, same_upd h, fun _ _ e => .inl e, h, R.alloc h⟩
theorem ErP.later {e : Ex} (l : Lt G F X ρ σ I H I1 H1) (h : ErP G W F X I ρ σ H e) : ErP G W F X I1 ρ σ H1 e :=
  fun I' H' cls dx l2 x => h I' H' cls dx (l.trans l2) x
theorem MR.later {a : Addr} {m : Mu} (i : Same I I1) (h : Same H H1) (r : MR G I H a m) : MR G I1 H1 a m := by
  cases m with
  | lst l => obtain ⟨xs, e, q⟩ := r; exact ⟨xs, h _ _ e, q.mono i⟩
  | dct ks vs => obtain ⟨xs, e, l, q⟩ := r; exact ⟨xs, h _ _ e, l, q.mono i⟩
theorem VB.later {v : V} {d : D} (i : Same I I1) (h : Same H H1) (r : VB G I H v d) : VB G I1 H1 v d := by
  rcases r with r | ⟨a, m, e, r, ed⟩
  · exact .inl (r.mono i)
  · exact .inr ⟨a, m, e, r.later i h, ed⟩
/-! what a value is, by its data -/
theorem VB.non {v : V} (r : VB G I H v .non) : v = .non := by
  rcases r with r | ⟨a, m, e, r, ed⟩
  · cases r; rfl
  · cases m <;> cases ed
theorem VB.bl {v : V} {b : Bool} (r : VB G I H v (.bl b)) : v = .bl b := by
  rcases r with r | ⟨a, m, e, r, ed⟩
  · cases r; rfl
  · cases m <;> cases ed
theorem VB.int {v : V} {b : Int} (r : VB G I H v (.int b)) : v = .int b := by
  rcases r with r | ⟨a, m, e, r, ed⟩
  · cases r; rfl
  · cases m <;> cases ed
theorem VB.str {v : V} {b : List Nat} (r : VB G I H v (.str b)) : v = .str (st b) := by
  rcases r with r | ⟨a, m, e, r, ed⟩
  · cases r; rfl
  · cases m <;> cases ed
theorem VB.tup {v : V} {l : List D} (s : Same I H) (r : VB G I H v (.tup l)) : ∃ a xs, v = .ref a ∧ SqT G.K H a xs ∧ RepA G I xs l := by
  rcases r with r | ⟨a, m, e, r, ed⟩
  · cases r with
    | tup h q => exact ⟨_, _, rfl, same_sqT s h, q⟩
  · cases m <;> cases ed
theorem VB.lst {v : V} {l : List D} (s : Same I H) (r : VB G I H v (.lst l)) : ∃ a xs, v = .ref a ∧ H a = some (.lst xs) ∧ RepA G I xs l := by
  rcases r with r | ⟨a, m, e, r, ed⟩
  · cases r with
    | lst h q => exact ⟨_, _, rfl, s _ _ h, q⟩
  · cases m with
    | lst l' =>
      cases ed
      obtain ⟨xs, h, q⟩ := r
      exact ⟨a, xs, e, h, q⟩
    | dct ks vs => cases ed
theorem VB.dct {v : V} {ks : List Ky} {l : List D} (s : Same I H) (r : VB G I H v (.dct ks l)) : ∃ a xs, v = .ref a ∧ H a = some (.dK ((ks.map ky).zip xs)) ∧ xs.length = ks.length ∧ RepA G I xs l := by
  rcases r with r | ⟨a, m, e, r, ed⟩
  · cases r with
    | dct h e q => exact ⟨_, _, rfl, s _ _ h, e, q⟩
  · cases m with
    | lst l' => cases ed
    | dct ks' vs =>
      cases ed
      obtain ⟨xs, h, e2, q⟩ := r
      exact ⟨a, xs, e, h, e2, q⟩
theorem VB.scr {v : V} {ns : List Int} (s : Same I H) (r : VB G I H v (.scr ns)) : ∃ a, v = .ref a ∧ SqL G.K H a (ns.map V.int) := by
  rcases r with r | ⟨a, m, e, r, ed⟩
  · cases r with
    | scr h => exact ⟨_, rfl, s.seq h⟩
  · cases m <;> cases ed
theorem Rep.vb {v : V} {d : D} (r : Rep G I v d) : VB G I H v d := .inl r
end

/-! ### from one kind to another -/
section
variable {X : Cx} {G : Wd} {W : WX} {e : Expr} {m : EM}
theorem _root_.L2.PE.imp {t t' : TE} (h : PE X e t) (i : ∀ σ H Q, t' σ H Q → t σ H Q) : PE X e t' := ⟨fun pins s σ H Q I q => h.run pins s σ H Q I (i _ _ _ q)⟩
theorem _root_.L2.PT.imp {t t' : TT} (h : PT X e t) (i : ∀ σ H Q, t' σ H Q → t σ H Q) : PT X e t' := ⟨fun pins s σ H Q I q => h.run pins s σ H Q I (i _ _ _ q)⟩
theorem _root_.L2.PA.imp {es : List Expr} {t t' : TA} (h : PA X es t) (i : ∀ σ H Q, t' σ H Q → t σ H Q) : PA X es t' := ⟨fun pos pins s σ H Q I q => h.run pos pins s σ H Q I (i _ _ _ q)⟩
theorem dB (h : PE X e (tD G W m)) : PE X e (tB G W m) := h.imp fun σ H Q ⟨F, Xs, I, ρ, R, q⟩ => ⟨F, Xs, I, ρ, R, by
  cases z : m ρ with
  | ok d => rw [z] at q; exact fun I' H' v l r => q I' H' v l r.vb
  | er e => rw [z] at q; exact q
  | st => rw [z] at q; exact q⟩
def frz (m : Ev → Out Mu) : EM := fun ρ => (m ρ).bind fun x => .ok x.toD
theorem MR.frozen {I H : Hp} {a : Addr} {m : Mu} {o : HO} (h : H a = some o) (hI : I a = none) (r : MR G I H a m) : Rep G (upd I a o) (.ref a) m.toD := by
  cases m with
  | lst l =>
    obtain ⟨xs, e, q⟩ := r
    rw [h] at e; cases e
    exact .lst upd_same (q.mono (same_upd hI))
  | dct ks vs =>
    obtain ⟨xs, e, l, q⟩ := r
    rw [h] at e; cases e
    exact .dct upd_same l (q.mono (same_upd hI))
theorem Rel.xnone {F : Fr0} {Xs : List Addr} {I H : Hp} {ρ : Ev} {σ : St} {a : Addr} (R : Rel G F (a :: Xs) I ρ σ H) : I a = none := by
  obtain ⟨fps, c1, c2, c3⟩ := R.cells
  exact c3 a (by simp)
theorem fD {mm : Ev → Out Mu} (h : PE X e (tF G W mm)) : PE X e (tD G W (frz mm)) := h.imp fun σ H Q ⟨F, Xs, I, ρ, R, q⟩ => ⟨F, Xs, I, ρ, R, by
  unfold frz at q
  cases z : mm ρ with
  | ok d =>
    rw [z] at q
    intro I' H' a l r
    have hI := l.r.xnone
    obtain ⟨o, ho⟩ := Option.ne_none_iff_exists'.mp r.there
    exact q (upd I' a o) H' (.ref a) ⟨l.i.trans (same_upd hI), l.h, fun c u e => (by
      by_cases q : c = a
      · subst q; exact .inr l.hn
      · rw [upd_ne q] at e; exact l.new c u e), l.r.freeze ho⟩ (r.frozen ho hI)
  | er e => rw [z] at q; exact q
  | st => rw [z] at q; exact q⟩
end

/-! ### names, constants -/
@[simp] def gt : Ev → Nat → Ce
  | [], _ => .un
  | c :: _, 0 => c
  | _ :: cs, n + 1 => gt cs n
theorem gt_get : ∀ {ρ : Ev} {i : Nat} {c : Ce}, gt ρ i = c → c ≠ .un → ρ[i]? = some c
  | [], _, _, h, n => (n h.symm).elim
  | c :: _, 0, _, h, _ => by simp at h; simp [h]
  | _ :: cs, i + 1, c, h, n => by simpa using gt_get (ρ := cs) (i := i) (by simpa using h) n
def var (i : Nat) : EM := fun ρ => match gt ρ i with
  | .d x => .ok x
  | _ => .st
def bvar (i : Nat) : EM := fun ρ => match gt ρ i with
  | .d x => .ok x
  | .own _ (.m m) => .ok m.toD
  | _ => .st
def cst (d : D) : EM := fun _ => .ok d
section
variable {X : Cx} {G : Wd} {W : WX} {pos : Pos}
theorem e_var {i : Nat} {x : Str} (h : PE X (.Name x pos) (tVar i)) : PE X (.Name x pos) (tD G W (var i)) := h.imp fun σ H Q ⟨F, Xs, I, ρ, R, q⟩ => by
  unfold var at q
  cases z : gt ρ i with
  | d y =>
    rw [z] at q
    obtain ⟨fps, c1, _, _⟩ := R.cells
    obtain ⟨v, fp, h1, h2, u, h3, h4, h5⟩ := c1.get (gt_get z (by simp))
    subst h3
    exact ⟨u, h1, q I H u (Lt.refl R) h4⟩
  | un => rw [z] at q; exact q.elim
  | own p o => rw [z] at q; exact q.elim
theorem b_var {i : Nat} {x : Str} (h : PE X (.Name x pos) (tVar i)) : PE X (.Name x pos) (tB G W (bvar i)) := h.imp fun σ H Q ⟨F, Xs, I, ρ, R, q⟩ => by
  unfold bvar at q
  obtain ⟨fps, c1, _, _⟩ := R.cells
  cases z : gt ρ i with
  | d y =>
    rw [z] at q
    obtain ⟨v, fp, h1, h2, u, h3, h4, h5⟩ := c1.get (gt_get z (by simp))
    subst h3
    exact ⟨u, h1, q I H u (Lt.refl R) h4.vb⟩
  | un => rw [z] at q; exact q.elim
  | own p o =>
    cases o with
    | m mm =>
      rw [z] at q
      obtain ⟨v, fp, h1, h2, u, h3, h4, h5⟩ := c1.get (gt_get z (by simp))
      subst h3
      obtain ⟨a, e, ef, r⟩ := h4
      exact ⟨u, h1, q I H u (Lt.refl R) (.inr ⟨a, mm, e, r, rfl⟩)⟩
    | ins c fs => rw [z] at q; exact q.elim
theorem e_cst {e : Expr} {v : V} {d : D} (h : PE X e (tC v)) (r : ∀ I, Rep G I v d) : PE X e (tD G W (cst d)) := h.imp fun σ H Q ⟨F, Xs, I, ρ, R, q⟩ => q I H v (Lt.refl R) (r I)
theorem e_int {i : Int} {j pos} : PE X (.Constant (.int i) j pos) (tD G W (cst (.int i))) := e_cst pe_int fun _ => .int i
theorem e_bl {b : Bool} {j pos} : PE X (.Constant (.bool b) j pos) (tD G W (cst (.bl b))) := e_cst pe_bl fun _ => .bl b
theorem e_non {j pos} : PE X (.Constant .none j pos) (tD G W (cst .non)) := e_cst pe_non fun _ => .non
theorem e_str {x : Str} {j pos} (l : List Nat) (h : x = st l := by rfl) : PE X (.Constant (.str x) j pos) (tD G W (cst (.str l))) := e_cst pe_str fun _ => by subst h; exact .str l
/-- a constant of the module: an int -/
theorem e_gint {x : Str} {i : Int} (hm : ∃ t, X.mg x = some (.int i t)) (hg : Gl X x := by rfl) (hd : (x == ("__debug__" : Str)) = false := by decide) : PE X (.Name x pos) (tD G W (cst (.int i))) := by
  obtain ⟨t, hm⟩ := hm
  exact e_cst (pe_glob (v := .int i) hg hm ⟨t, rfl⟩ hd) fun _ => .int i
end

/-! ### operators -/
section
variable {X : Cx} {G : Wd} {W : WX} {pos : Pos} {a b : Expr} {ma mb : EM}
/-- an operator's law: it yields data -/
def OpB (G : Wd) (X : Cx) (f : Value → Value → Sem Value) (op : D → D → Out D) : Prop :=
  OpR X f (fun x y H Q => ∃ F Xs I ρ σ dx dy d, Rel G F Xs I ρ σ H ∧ VB G I H x dx ∧ VB G I H y dy ∧ op dx dy = .ok d ∧ ∀ I' H' v, Lt G F Xs ρ σ I H I' H' → Rep G I' v d → Q v H')
/-- .. a new list -/
def OpF (G : Wd) (X : Cx) (f : Value → Value → Sem Value) (op : D → D → Out Mu) : Prop :=
  OpR X f (fun x y H Q => ∃ F Xs I ρ σ dx dy d, Rel G F Xs I ρ σ H ∧ VB G I H x dx ∧ VB G I H y dy ∧ op dx dy = .ok d ∧ ∀ I' H' p, LtF G F Xs ρ σ I H I' H' p → MR G I' H' p d → Q (.ref p) H')
/-- operators raise nothing here -/
def noer {α : Type} : Out α → Out α
  | .er _ => .st
  | x => x
def op2 {α : Type} (f : D → D → Out α) (a b : EM) : Ev → Out α := fun ρ => (a ρ).bind fun x => (b ρ).bind fun y => noer (f x y)
theorem op2_tOp {r : R2} {op : D → D → Out D} {σ : St} {H : Hp} {Q : VK}
    (hr : ∀ x y H Q, (∃ F Xs I ρ σ dx dy d, Rel G F Xs I ρ σ H ∧ VB G I H x dx ∧ VB G I H y dy ∧ op dx dy = .ok d ∧ ∀ I' H' v, Lt G F Xs ρ σ I H I' H' → Rep G I' v d → Q v H') → r x y H Q)
    (h : tD G W (op2 op ma mb) σ H Q) : tOp r (tB G W ma) (tB G W mb) σ H Q := by
  obtain ⟨F, Xs, I, ρ, R, q⟩ := h
  refine ⟨F, Xs, I, ρ, R, ?_⟩
  unfold op2 at q
  cases z : ma ρ with
  | er e => rw [z] at q; exact q
  | st => rw [z] at q; exact q
  | ok dx =>
    rw [z] at q
    intro I1 H1 x l1 r1
    refine ⟨F, Xs, I1, ρ, l1.r, ?_⟩
    simp only [Out.bind] at q
    cases z2 : mb ρ with
    | er e => rw [z2] at q; exact ErP.later l1 q
    | st => rw [z2] at q; exact q
    | ok dy =>
      rw [z2] at q
      simp only [] at q
      intro I2 H2 y l2 r2
      cases z3 : op dx dy with
      | er e => rw [z3] at q; exact q.elim
      | st => rw [z3] at q; exact q.elim
      | ok d =>
        rw [z3] at q
        exact hr x y H2 Q ⟨F, Xs, I2, ρ, σ, dx, dy, d, l2.r, r1.later l2.i l2.h, r2, z3, fun I' H' v l r => q I' H' v ((l1.trans l2).trans l) r⟩
theorem op2_tOpF {r : R2} {op : D → D → Out Mu} {σ : St} {H : Hp} {Q : VK}
    (hr : ∀ x y H Q, (∃ F Xs I ρ σ dx dy d, Rel G F Xs I ρ σ H ∧ VB G I H x dx ∧ VB G I H y dy ∧ op dx dy = .ok d ∧ ∀ I' H' p, LtF G F Xs ρ σ I H I' H' p → MR G I' H' p d → Q (.ref p) H') → r x y H Q)
    (h : tF G W (op2 op ma mb) σ H Q) : tOp r (tB G W ma) (tB G W mb) σ H Q := by
  obtain ⟨F, Xs, I, ρ, R, q⟩ := h
  refine ⟨F, Xs, I, ρ, R, ?_⟩
  unfold op2 at q
  cases z : ma ρ with
  | er e => rw [z] at q; exact q
  | st => rw [z] at q; exact q
  | ok dx =>
    rw [z] at q
    intro I1 H1 x l1 r1
    refine ⟨F, Xs, I1, ρ, l1.r, ?_⟩
    simp only [Out.bind] at q
    cases z2 : mb ρ with
    | er e => rw [z2] at q; exact ErP.later l1 q
    | st => rw [z2] at q; exact q
    | ok dy =>
      rw [z2] at q
      simp only [] at q
      intro I2 H2 y l2 r2
      cases z3 : op dx dy with
      | er e => rw [z3] at q; exact q.elim
      | st => rw [z3] at q; exact q.elim
      | ok d =>
        rw [z3] at q
        exact hr x y H2 Q ⟨F, Xs, I2, ρ, σ, dx, dy, d, l2.r, r1.later l2.i l2.h, r2, z3, fun I' H' p l r => q I' H' p ((l1.trans l2).transF l) r⟩
theorem e_bin {op : Operator} {f : D → D → Out D} (ho : OpB G X (binaryOp op) f) (ha : PE X a (tB G W ma)) (hb : PE X b (tB G W mb)) : PE X (.BinOp a op b pos) (tD G W (op2 f ma mb)) :=
  (pe_op ho ha hb).imp fun _ _ _ h => op2_tOp (fun _ _ _ _ z => z) h
theorem f_bin {op : Operator} {f : D → D → Out Mu} (ho : OpF G X (binaryOp op) f) (ha : PE X a (tB G W ma)) (hb : PE X b (tB G W mb)) : PE X (.BinOp a op b pos) (tF G W (op2 f ma mb)) :=
  (pe_op ho ha hb).imp fun _ _ _ h => op2_tOpF (fun _ _ _ _ z => z) h
theorem e_cmp {op : CmpOp} {f : D → D → Out D} (ho : OpB G X (compareOp op) f) (ha : PE X a (tB G W ma)) (hb : PE X b (tB G W mb)) (hm : behindInMarks op b = false) : PE X (.Compare a [op] [b] pos) (tD G W (op2 f ma mb)) :=
  (pe_cmpR ho ha hb hm).imp fun _ _ _ h => op2_tOp (fun _ _ _ _ z => z) h
def isB : D → Out Bool
  | .bl b => .ok b
  | _ => .st
def tst (m : EM) : Ev → Out Bool := fun ρ => (m ρ).bind isB
theorem tst_D {σ : St} {H : Hp} {Q : Bool → Hp → Prop} {m : EM} (h : tT G W (tst m) σ H Q) : tD G W m σ H (fun x H' => ∃ k, x = .bl k ∧ Q k H') := by
  obtain ⟨F, Xs, I, ρ, R, q⟩ := h
  refine ⟨F, Xs, I, ρ, R, ?_⟩
  unfold tst at q
  cases z : m ρ with
  | er e => rw [z] at q; exact q
  | st => rw [z] at q; exact q
  | ok d =>
    rw [z] at q
    intro I' H' v l r
    cases d <;> first | exact q.elim | skip
    cases r
    exact ⟨_, rfl, q I' H' l⟩
theorem t_cmp {op : CmpOp} {f : D → D → Out D} (ho : OpB G X (compareOp op) f) (ha : PE X a (tB G W ma)) (hb : PE X b (tB G W mb)) (hm : behindInMarks op b = false) : PT X (.Compare a [op] [b] pos) (tT G W (tst (op2 f ma mb))) :=
  (pt_cmpR ho ha hb hm).imp fun _ _ _ h => op2_tOp (fun _ _ _ _ z => z) (tst_D h)
end
end NS

set_option Elab.async false
set_option linter.all false
set_option maxRecDepth 100000
set_option maxHeartbeats 4000000
namespace NS
open PySem PySem.Spec L2
open PyProof.Rows hiding St

theorem line_eq : (sizeLine : Nat) = 16777216 := sizeLine_eq
theorem st_len (l : List Nat) : (st l).length = l.length := by simp [st, Str.length]
theorem st_inj {a b : List Nat} (h : st a = st b) : a = b := by
  have := congrArg (fun x : Str => x.cps.toList) h
  simpa [st] using this
theorem st_cps (l : List Nat) : (st l).cps.toList = l := by simp [st]
theorem st_append (a b : List Nat) : st a ++ st b = st (a ++ b) := by
  show Str.append _ _ = _
  simp [Str.append, st]
theorem ky_inj {a b : Ky} (h : ky a = ky b) : a = b := by
  cases a <;> cases b <;> simp [ky] at h
  · rw [h]
  · rw [st_inj h]

/-! ### keys of dicts -/
def kOf : D → Option Ky
  | .int i => some (.inl i)
  | .str l => some (.inr l)
  | _ => none
@[simp] def dlook : List Ky → List D → Ky → Option D
  | k :: ks, v :: vs, j => if k = j then some v else dlook ks vs j
  | _, _, _ => none
theorem kOf_V {G : Wd} {I H : Hp} {v : V} {d : D} {k : Ky} (h : kOf d = some k) (r : VB G I H v d) : v = kV (ky k) := by
  cases d <;> simp [kOf] at h
  · subst h; exact r.int
  · subst h; exact r.str
theorem valV_look {G : Wd} {I : Hp} : ∀ {ks : List Ky} {xs : List V} {ds : List D} (j : Ky), xs.length = ks.length → RepA G I xs ds →
    (dlook ks ds j = none ∧ valV ((ks.map ky).zip xs) (ky j) = none) ∨ ∃ d v, dlook ks ds j = some d ∧ valV ((ks.map ky).zip xs) (ky j) = some v ∧ Rep G I v d
  | [], xs, ds, j, _, r => by
    left
    exact ⟨by simp [dlook], by simp [valV]⟩
  | k :: ks, [], _, j, h, _ => by simp at h
  | k :: ks, x :: xs, _, j, h, .cons (d := d) (ds := ds) r t => by
    by_cases e : k = j
    · subst e
      exact .inr ⟨d, x, by simp, by simp [valV], r⟩
    · have ne : ¬ ky k = ky j := fun q => e (ky_inj q)
      have := valV_look (ks := ks) j (by simpa using h) t
      simp only [dlook, if_neg e, List.map_cons, List.zip_cons_cons]
      rw [valV_neg (p := (ky k, x)) ne]
      exact this

/-! ### the operators -/
def dAdd : D → D → Out D
  | .int a, .int b => .ok (.int (a + b))
  | .str a, .str b => if a.length + b.length ≤ 16777216 then .ok (.str (a ++ b)) else .st
  | .tup a, .tup b => if a.length + b.length ≤ 16777216 then .ok (.tup (a ++ b)) else .st
  | .lst a, .lst b => if a.length + b.length ≤ 16777216 then .ok (.lst (a ++ b)) else .st
  | _, _ => .st
def fAdd : D → D → Out Mu
  | .lst a, .lst b => if a.length + b.length ≤ 16777216 then .ok (.lst (a ++ b)) else .st
  | _, _ => .st
def dSub : D → D → Out D
  | .int a, .int b => .ok (.int (a - b))
  | _, _ => .st
def dMul : D → D → Out D
  | .int a, .int b => if a.natAbs < 2 ^ 64 ∨ b.natAbs < 2 ^ 64 then .ok (.int (a * b)) else .st
  | _, _ => .st
def fRep : D → D → Out Mu
  | .lst a, .int k => if k < 2 ^ 63 ∧ 0 ≤ k ∧ a.length * k.toNat ≤ 16777216 then .ok (.lst (List.replicate k.toNat a).flatten) else .st
  | _, _ => .st
def dDiv : D → D → Out D
  | .int a, .int b => if 0 < b ∧ b < 2 ^ 64 then .ok (.int (a / b)) else .st
  | _, _ => .st
def dMod : D → D → Out D
  | .int a, .int b => if 0 < b then .ok (.int (a % b)) else .st
  | _, _ => .st
def dAnd : D → D → Out D
  | .int a, .int b => .ok (.int (Builtin.bitAnd a b))
  | _, _ => .st
def dOr : D → D → Out D
  | .int a, .int b => .ok (.int (Builtin.bitOr a b))
  | _, _ => .st
def dXor : D → D → Out D
  | .int a, .int b => .ok (.int (Builtin.bitXor a b))
  | _, _ => .st
def dLt : D → D → Out D
  | .int a, .int b => .ok (.bl (decide (a < b)))
  | _, _ => .st
def dLe : D → D → Out D
  | .int a, .int b => .ok (.bl (decide (a ≤ b)))
  | .str a, .str b => .ok (.bl (!decide (b < a)))
  | _, _ => .st
def dGt : D → D → Out D
  | .int a, .int b => .ok (.bl (decide (b < a)))
  | _, _ => .st
def dGe : D → D → Out D
  | .int a, .int b => .ok (.bl (decide (b ≤ a)))
  | _, _ => .st
def isNon : D → Bool
  | .non => true
  | _ => false
def dIsN : D → D → Out D
  | x, .non => .ok (.bl (isNon x))
  | _, _ => .st
def dNotN : D → D → Out D
  | x, .non => .ok (.bl (!isNon x))
  | _, _ => .st

section
variable {X : Cx} {G : Wd}
abbrev KOk (G : Wd) (X : Cx) : Prop := G.K = X.K
theorem op_cat' : OpR X (binaryOp .Add) rCat := op_cat
theorem oAdd (hK : KOk G X) : OpB G X (binaryOp .Add) dAdd := by
  intro pins s σ H x y v u Q Iv rx ry ⟨F, Xs, I, ρ, σ', dx, dy, d, R, vx, vy, hop, q⟩
  cases dx <;> cases dy <;> simp only [dAdd] at hop <;> first | cases hop | skip
  · obtain rfl := vx.int
    obtain rfl := vy.int
    exact op_add pins s σ H _ _ v u Q Iv rx ry ⟨_, _, rfl, rfl, q I H _ (Lt.refl R) (.int _)⟩
  · split at hop <;> first | cases hop | skip
    rename_i hl
    obtain rfl := vx.str
    obtain rfl := vy.str
    refine op_add_str pins s σ H _ _ v u Q Iv rx ry ⟨_, _, rfl, rfl, by rw [st_len, st_len, line_eq]; exact hl, ?_⟩
    rw [st_append]
    exact q I H _ (Lt.refl R) (.str _)
  · split at hop <;> first | cases hop | skip
    rename_i hl
    obtain ⟨a, xs, rfl, hx, rx'⟩ := vx.tup R.sub
    obtain ⟨b, ys, rfl, hy, ry'⟩ := vy.tup R.sub
    rw [hK] at hx hy
    refine op_catA pins s σ H _ _ v u Q Iv rx ry ⟨a, b, xs, ys, rfl, rfl, hx, hy, by rw [rx'.length, ry'.length, line_eq]; exact hl, fun e => ?_, fun e e2 => ?_, fun e e2 p hp => ?_⟩
    · subst e
      cases rx'
      rcases vy with vy | ⟨_, m, _, _, ed⟩
      · exact q I H _ (Lt.refl R) vy
      · cases m <;> cases ed
    · subst e2
      cases ry'
      rcases vx with vx | ⟨_, m, _, _, ed⟩
      · exact q I H _ (Lt.refl R) (by simpa using vx)
      · cases m <;> cases ed
    · exact q (upd I p _) _ _ (R.ltAlloc hp) (.tup (SqT.of upd_same) ((rx'.append ry').mono (same_upd (R.inone hp))))
  · split at hop <;> first | cases hop | skip
    rename_i hl
    obtain ⟨a, xs, rfl, hx, rx'⟩ := vx.lst R.sub
    obtain ⟨b, ys, rfl, hy, ry'⟩ := vy.lst R.sub
    refine op_cat pins s σ H _ _ v u Q Iv rx ry ⟨a, b, xs, ys, rfl, rfl, hx, hy, by rw [rx'.length, ry'.length, line_eq]; exact hl, fun p hp => ?_⟩
    exact q (upd I p _) _ _ (R.ltAlloc hp) (.lst upd_same ((rx'.append ry').mono (same_upd (R.inone hp))))
theorem oAddF : OpF G X (binaryOp .Add) fAdd := by
  intro pins s σ H x y v u Q Iv rx ry ⟨F, Xs, I, ρ, σ', dx, dy, d, R, vx, vy, hop, q⟩
  cases dx <;> cases dy <;> simp only [fAdd] at hop <;> first | cases hop | skip
  split at hop <;> first | cases hop | skip
  rename_i hl
  obtain ⟨a, xs, rfl, hx, rx'⟩ := vx.lst R.sub
  obtain ⟨b, ys, rfl, hy, ry'⟩ := vy.lst R.sub
  refine op_cat pins s σ H _ _ v u Q Iv rx ry ⟨a, b, xs, ys, rfl, rfl, hx, hy, by rw [rx'.length, ry'.length, line_eq]; exact hl, fun p hp => ?_⟩
  exact q I _ p (R.ltFresh hp) ⟨_, upd_same, rx'.append ry'⟩
theorem oSub : OpB G X (binaryOp .Sub) dSub := by
  intro pins s σ H x y v u Q Iv rx ry ⟨F, Xs, I, ρ, σ', dx, dy, d, R, vx, vy, hop, q⟩
  cases dx <;> cases dy <;> simp only [dSub] at hop <;> first | cases hop | skip
  obtain rfl := vx.int
  obtain rfl := vy.int
  exact op_sub pins s σ H _ _ v u Q Iv rx ry ⟨_, _, rfl, rfl, q I H _ (Lt.refl R) (.int _)⟩
theorem oMul : OpB G X (binaryOp .Mult) dMul := by
  intro pins s σ H x y v u Q Iv rx ry ⟨F, Xs, I, ρ, σ', dx, dy, d, R, vx, vy, hop, q⟩
  cases dx <;> cases dy <;> simp only [dMul] at hop <;> first | cases hop | skip
  split at hop <;> first | cases hop | skip
  rename_i hl
  obtain rfl := vx.int
  obtain rfl := vy.int
  refine op_mul pins s σ H _ _ v u Q Iv rx ry ⟨_, _, rfl, rfl, ?_, q I H _ (Lt.refl R) (.int _)⟩
  unfold CMul
  rcases hl with hl | hl
  · left; omega
  · right; omega
theorem oRepF : OpF G X (binaryOp .Mult) fRep := by
  intro pins s σ H x y v u Q Iv rx ry ⟨F, Xs, I, ρ, σ', dx, dy, d, R, vx, vy, hop, q⟩
  cases dx <;> cases dy <;> simp only [fRep] at hop <;> first | cases hop | skip
  split at hop <;> first | cases hop | skip
  rename_i hl
  obtain ⟨a, xs, rfl, hx, rx'⟩ := vx.lst R.sub
  obtain rfl := vy.int
  refine op_rep pins s σ H _ _ v u Q Iv rx ry ⟨a, _, xs, rfl, rfl, hx, by omega, hl.1, by rw [rx'.length, line_eq]; exact hl.2.2, fun p hp => ?_⟩
  refine q I _ p (R.ltFresh hp) ⟨_, upd_same, ?_⟩
  rename_i l i
  generalize i.toNat = n
  induction n with
  | zero => exact .nil
  | succ n ih =>
    rw [List.replicate_succ, List.replicate_succ, List.flatten_cons, List.flatten_cons]
    exact rx'.append ih
theorem oDiv : OpB G X (binaryOp .FloorDiv) dDiv := by
  intro pins s σ H x y v u Q Iv rx ry ⟨F, Xs, I, ρ, σ', dx, dy, d, R, vx, vy, hop, q⟩
  cases dx <;> cases dy <;> simp only [dDiv] at hop <;> first | cases hop | skip
  split at hop <;> first | cases hop | skip
  rename_i hl
  obtain rfl := vx.int
  obtain rfl := vy.int
  exact op_fdivW pins s σ H _ _ v u Q Iv rx ry ⟨_, _, rfl, rfl, wide_div hl.1 (b := 64) (by have := hl.2; omega) (by decide) (by decide), q I H _ (Lt.refl R) (.int _)⟩
theorem oMod : OpB G X (binaryOp .Mod) dMod := by
  intro pins s σ H x y v u Q Iv rx ry ⟨F, Xs, I, ρ, σ', dx, dy, d, R, vx, vy, hop, q⟩
  cases dx <;> cases dy <;> simp only [dMod] at hop <;> first | cases hop | skip
  split at hop <;> first | cases hop | skip
  rename_i hl
  obtain rfl := vx.int
  obtain rfl := vy.int
  exact op_mod pins s σ H _ _ v u Q Iv rx ry ⟨_, _, rfl, rfl, hl, q I H _ (Lt.refl R) (.int _)⟩
theorem oAnd : OpB G X (binaryOp .BitAnd) dAnd := by
  intro pins s σ H x y v u Q Iv rx ry ⟨F, Xs, I, ρ, σ', dx, dy, d, R, vx, vy, hop, q⟩
  cases dx <;> cases dy <;> simp only [dAnd] at hop <;> first | cases hop | skip
  obtain rfl := vx.int
  obtain rfl := vy.int
  exact op_and pins s σ H _ _ v u Q Iv rx ry ⟨_, _, rfl, rfl, q I H _ (Lt.refl R) (.int _)⟩
theorem oOr : OpB G X (binaryOp .BitOr) dOr := by
  intro pins s σ H x y v u Q Iv rx ry ⟨F, Xs, I, ρ, σ', dx, dy, d, R, vx, vy, hop, q⟩
  cases dx <;> cases dy <;> simp only [dOr] at hop <;> first | cases hop | skip
  obtain rfl := vx.int
  obtain rfl := vy.int
  exact op_or pins s σ H _ _ v u Q Iv rx ry ⟨_, _, rfl, rfl, q I H _ (Lt.refl R) (.int _)⟩
theorem oXor : OpB G X (binaryOp .BitXor) dXor := by
  intro pins s σ H x y v u Q Iv rx ry ⟨F, Xs, I, ρ, σ', dx, dy, d, R, vx, vy, hop, q⟩
  cases dx <;> cases dy <;> simp only [dXor] at hop <;> first | cases hop | skip
  obtain rfl := vx.int
  obtain rfl := vy.int
  exact op_xor pins s σ H _ _ v u Q Iv rx ry ⟨_, _, rfl, rfl, q I H _ (Lt.refl R) (.int _)⟩
theorem oLt : OpB G X (compareOp .Lt) dLt := by
  intro pins s σ H x y v u Q Iv rx ry ⟨F, Xs, I, ρ, σ', dx, dy, d, R, vx, vy, hop, q⟩
  cases dx <;> cases dy <;> simp only [dLt] at hop <;> first | cases hop | skip
  obtain rfl := vx.int
  obtain rfl := vy.int
  exact op_lt pins s σ H _ _ v u Q Iv rx ry ⟨_, _, rfl, rfl, q I H _ (Lt.refl R) (.bl _)⟩
theorem oLe : OpB G X (compareOp .LtE) dLe := by
  intro pins s σ H x y v u Q Iv rx ry ⟨F, Xs, I, ρ, σ', dx, dy, d, R, vx, vy, hop, q⟩
  cases dx <;> cases dy <;> simp only [dLe] at hop <;> first | cases hop | skip
  · obtain rfl := vx.int
    obtain rfl := vy.int
    exact op_le pins s σ H _ _ v u Q Iv rx ry ⟨_, _, rfl, rfl, q I H _ (Lt.refl R) (.bl _)⟩
  · obtain rfl := vx.str
    obtain rfl := vy.str
    exact op_le_str pins s σ H _ _ v u Q Iv rx ry ⟨_, _, rfl, rfl, by rw [st_cps, st_cps]; exact q I H _ (Lt.refl R) (.bl _)⟩
theorem oGt : OpB G X (compareOp .Gt) dGt := by
  intro pins s σ H x y v u Q Iv rx ry ⟨F, Xs, I, ρ, σ', dx, dy, d, R, vx, vy, hop, q⟩
  cases dx <;> cases dy <;> simp only [dGt] at hop <;> first | cases hop | skip
  obtain rfl := vx.int
  obtain rfl := vy.int
  exact op_gt pins s σ H _ _ v u Q Iv rx ry ⟨_, _, rfl, rfl, q I H _ (Lt.refl R) (.bl _)⟩
theorem oGe : OpB G X (compareOp .GtE) dGe := by
  intro pins s σ H x y v u Q Iv rx ry ⟨F, Xs, I, ρ, σ', dx, dy, d, R, vx, vy, hop, q⟩
  cases dx <;> cases dy <;> simp only [dGe] at hop <;> first | cases hop | skip
  obtain rfl := vx.int
  obtain rfl := vy.int
  exact op_ge pins s σ H _ _ v u Q Iv rx ry ⟨_, _, rfl, rfl, q I H _ (Lt.refl R) (.bl _)⟩
theorem VB.isnon {I H : Hp} {v : V} {d : D} (r : VB G I H v d) : decide (v = .non) = isNon d := by
  rcases r with r | ⟨a, m, e, r, ed⟩
  · cases r <;> rfl
  · subst e ed
    cases m <;> rfl
theorem oIsN : OpB G X (compareOp .Is) dIsN := by
  intro pins s σ H x y v u Q Iv rx ry ⟨F, Xs, I, ρ, σ', dx, dy, d, R, vx, vy, hop, q⟩
  cases dy <;> simp only [dIsN] at hop <;> first | cases hop | skip
  obtain rfl := vy.non
  exact op_isN pins s σ H _ _ v u Q Iv rx ry ⟨rfl, by rw [vx.isnon]; exact q I H _ (Lt.refl R) (.bl _)⟩
theorem oNotN : OpB G X (compareOp .IsNot) dNotN := by
  intro pins s σ H x y v u Q Iv rx ry ⟨F, Xs, I, ρ, σ', dx, dy, d, R, vx, vy, hop, q⟩
  cases dy <;> simp only [dNotN] at hop <;> first | cases hop | skip
  obtain rfl := vy.non
  exact op_notN pins s σ H _ _ v u Q Iv rx ry ⟨rfl, by rw [vx.isnon]; exact q I H _ (Lt.refl R) (.bl _)⟩
end

/-! ### ==, in -/
mutual
def toPy : D → PyData
  | .non => .none
  | .bl b => .bool b
  | .int i => .int i
  | .str l => .str (st l)
  | .tup l => .tuple (toPys l)
  | .lst l => .list (toPys l)
  | _ => .none
def toPys : List D → List PyData
  | [] => []
  | d :: ds => toPy d :: toPys ds
end
mutual
def deq : D → D → Bool
  | .non, .non => true
  | .bl a, .bl b => a == b
  | .bl a, .int b => (if a then 1 else 0) == b
  | .int a, .bl b => a == (if b then 1 else 0)
  | .int a, .int b => a == b
  | .str a, .str b => a == b
  | .tup a, .tup b => deqs a b
  | .lst a, .lst b => deqs a b
  | _, _ => false
def deqs : List D → List D → Bool
  | [], [] => true
  | x :: xs, y :: ys => deq x y && deqs xs ys
  | _, _ => false
end
/-- data that == may be asked of, at most so deep -/
def shpB : Nat → D → Bool
  | 0 => fun d => match d with
    | .non | .bl _ | .int _ => true
    | .str l => l.all (· < 1114112)
    | _ => false
  | n + 1 => fun d => match d with
    | .non | .bl _ | .int _ => true
    | .str l => l.all (· < 1114112)
    | .tup l | .lst l => l.all (shpB n)
    | _ => false
def flt : D → Bool
  | .non => true
  | .bl _ => true
  | .int _ => true
  | .str _ => true
  | _ => false
def dEq (x y : D) : Out D := if (flt x && flt y || shpB 30 x && shpB 30 y) = true then .ok (.bl (deq x y)) else .st
def dNe (x y : D) : Out D := if (flt x && flt y || shpB 30 x && shpB 30 y) = true then .ok (.bl (!deq x y)) else .st
theorem beq_st (a b : List Nat) : (st a == st b) = (a == b) := by
  by_cases h : a = b
  · subst h; simp
  · have : st a ≠ st b := fun e => h (st_inj e)
    rw [beq_eq_false_iff_ne.mpr h, beq_eq_false_iff_ne.mpr this]
theorem toPy_lay : ∀ (n : Nat) (d : D), shpB n d = true → (toPy d).canLay0 = true ∧ (toPy d).depth ≤ n + 1 := by
  have all : ∀ (n : Nat), (∀ d, shpB n d = true → (toPy d).canLay0 = true ∧ (toPy d).depth ≤ n + 1) → ∀ l : List D, l.all (shpB n) = true → PyData.canLayAll0 (toPys l) = true ∧ PyData.depthAll (toPys l) ≤ n + 1 := by
    intro n ih l
    induction l with
    | nil => intro _; simp [toPys, PyData.canLayAll0, PyData.depthAll]
    | cons d ds hi =>
      intro h
      rw [List.all_cons, Bool.and_eq_true] at h
      obtain ⟨h1, h2⟩ := ih d h.1
      obtain ⟨h3, h4⟩ := hi h.2
      refine ⟨by simp [toPys, PyData.canLayAll0, h1, h3], ?_⟩
      simp only [toPys, PyData.depthAll]
      omega
  intro n
  induction n with
  | zero =>
    intro d h
    cases d <;> simp [shpB] at h <;> simp [toPy, PyData.canLay0, PyData.depth]
    simpa [PyData.strOk, st] using h
  | succ n ih =>
    intro d h
    cases d with
    | non => simp [toPy, PyData.canLay0, PyData.depth]
    | bl b => simp [toPy, PyData.canLay0, PyData.depth]
    | int b => simp [toPy, PyData.canLay0, PyData.depth]
    | str l =>
      simp [shpB] at h
      simp [toPy, PyData.canLay0, PyData.depth]
      simpa [PyData.strOk, st] using h
    | tup l =>
      obtain ⟨h1, h2⟩ := all n ih l (by simpa [shpB] using h)
      simp only [toPy, PyData.canLay0, PyData.depth]
      exact ⟨h1, by omega⟩
    | lst l =>
      obtain ⟨h1, h2⟩ := all n ih l (by simpa [shpB] using h)
      simp only [toPy, PyData.canLay0, PyData.depth]
      exact ⟨h1, by omega⟩
    | dct ks vs => simp [shpB] at h
    | exc c ks vs => simp [shpB] at h
    | scr ns => simp [shpB] at h

mutual
theorem eqv_deq : ∀ (n m : Nat) (x y : D), shpB n x = true → shpB m y = true → PyData.eqv (toPy x) (toPy y) = deq x y
  | n, m, .tup a, .tup b, h1, h2 => by
    cases n with
    | zero => simp [shpB] at h1
    | succ n =>
      cases m with
      | zero => simp [shpB] at h2
      | succ m =>
        simp only [toPy, PyData.eqv, deq]
        exact eqvs_deqs n m a b (by simpa [shpB] using h1) (by simpa [shpB] using h2)
  | n, m, .lst a, .lst b, h1, h2 => by
    cases n with
    | zero => simp [shpB] at h1
    | succ n =>
      cases m with
      | zero => simp [shpB] at h2
      | succ m =>
        simp only [toPy, PyData.eqv, deq]
        exact eqvs_deqs n m a b (by simpa [shpB] using h1) (by simpa [shpB] using h2)
  | n, m, .str a, .str b, h1, h2 => by simp only [toPy, PyData.eqv, deq]; exact beq_st a b
  | n, m, .non, y, h1, h2 => by cases y <;> first | (cases m <;> simp [shpB] at h2; done) | simp [toPy, PyData.eqv, deq]
  | n, m, .bl a, y, h1, h2 => by cases y <;> first | (cases m <;> simp [shpB] at h2; done) | simp [toPy, PyData.eqv, deq]
  | n, m, .int a, y, h1, h2 => by cases y <;> first | (cases m <;> simp [shpB] at h2; done) | simp [toPy, PyData.eqv, deq]
  | n, m, .str a, .non, h1, h2 => by simp [toPy, PyData.eqv, deq]
  | n, m, .str a, .bl b, h1, h2 => by simp [toPy, PyData.eqv, deq]
  | n, m, .str a, .int b, h1, h2 => by simp [toPy, PyData.eqv, deq]
  | n, m, .str a, .tup b, h1, h2 => by simp [toPy, PyData.eqv, deq]
  | n, m, .str a, .lst b, h1, h2 => by simp [toPy, PyData.eqv, deq]
  | n, m, .str a, .dct b c, h1, h2 => by cases m <;> simp [shpB] at h2
  | n, m, .str a, .exc b c d, h1, h2 => by cases m <;> simp [shpB] at h2
  | n, m, .str a, .scr b, h1, h2 => by cases m <;> simp [shpB] at h2
  | n, m, .tup a, .non, h1, h2 => by simp [toPy, PyData.eqv, deq]
  | n, m, .tup a, .bl b, h1, h2 => by simp [toPy, PyData.eqv, deq]
  | n, m, .tup a, .int b, h1, h2 => by simp [toPy, PyData.eqv, deq]
  | n, m, .tup a, .str b, h1, h2 => by simp [toPy, PyData.eqv, deq]
  | n, m, .tup a, .lst b, h1, h2 => by simp [toPy, PyData.eqv, deq]
  | n, m, .tup a, .dct b c, h1, h2 => by cases m <;> simp [shpB] at h2
  | n, m, .tup a, .exc b c d, h1, h2 => by cases m <;> simp [shpB] at h2
  | n, m, .tup a, .scr b, h1, h2 => by cases m <;> simp [shpB] at h2
  | n, m, .lst a, .non, h1, h2 => by simp [toPy, PyData.eqv, deq]
  | n, m, .lst a, .bl b, h1, h2 => by simp [toPy, PyData.eqv, deq]
  | n, m, .lst a, .int b, h1, h2 => by simp [toPy, PyData.eqv, deq]
  | n, m, .lst a, .str b, h1, h2 => by simp [toPy, PyData.eqv, deq]
  | n, m, .lst a, .tup b, h1, h2 => by simp [toPy, PyData.eqv, deq]
  | n, m, .lst a, .dct b c, h1, h2 => by cases m <;> simp [shpB] at h2
  | n, m, .lst a, .exc b c d, h1, h2 => by cases m <;> simp [shpB] at h2
  | n, m, .lst a, .scr b, h1, h2 => by cases m <;> simp [shpB] at h2
  | n, m, .dct a b, y, h1, h2 => by cases n <;> simp [shpB] at h1
  | n, m, .exc a b c, y, h1, h2 => by cases n <;> simp [shpB] at h1
  | n, m, .scr a, y, h1, h2 => by cases n <;> simp [shpB] at h1
theorem eqvs_deqs : ∀ (n m : Nat) (x y : List D), x.all (shpB n) = true → y.all (shpB m) = true → PyData.eqvAll (toPys x) (toPys y) = deqs x y
  | n, m, [], [], _, _ => rfl
  | n, m, [], _ :: _, _, _ => rfl
  | n, m, _ :: _, [], _, _ => rfl
  | n, m, a :: as, b :: bs, h1, h2 => by
    rw [List.all_cons, Bool.and_eq_true] at h1 h2
    simp only [toPys, PyData.eqvAll, deqs]
    rw [eqv_deq n m a b h1.1 h2.1, eqvs_deqs n m as bs h1.2 h2.2]
end
section
variable {X : Cx} {G : Wd} {I H : Hp}
mutual
theorem dp_of (s : Same I H) : ∀ (n : Nat) (d : D) (v : V), shpB n d = true → Rep G I v d → Dp G.K H v (toPy d)
  | n, .non, _, _, r => by cases r; exact .non
  | n, .bl b, _, _, r => by cases r; exact .bl b
  | n, .int b, _, _, r => by cases r; exact .int b
  | n, .str b, _, _, r => by cases r; exact .str _
  | n, .tup l, _, h, r => by
    cases r with
    | tup h1 h2 =>
      cases n with
      | zero => simp [shpB] at h
      | succ n => exact .tup (same_sqT s h1) (dps_of s n l _ (by simpa [shpB] using h) h2)
  | n, .lst l, _, h, r => by
    cases r with
    | lst h1 h2 =>
      cases n with
      | zero => simp [shpB] at h
      | succ n => exact .lst (SqL.of (s _ _ h1)) (dps_of s n l _ (by simpa [shpB] using h) h2)
  | n, .dct a b, _, h, _ => by cases n <;> simp [shpB] at h
  | n, .exc a b c, _, h, _ => by cases n <;> simp [shpB] at h
  | n, .scr a, _, h, _ => by cases n <;> simp [shpB] at h
theorem dps_of (s : Same I H) : ∀ (n : Nat) (ds : List D) (vs : List V), ds.all (shpB n) = true → RepA G I vs ds → DpAll G.K H vs (toPys ds)
  | n, [], _, _, r => by cases r; exact .nil
  | n, d :: ds, _, h, r => by
    cases r with
    | cons r1 r2 =>
      rw [List.all_cons, Bool.and_eq_true] at h
      exact .cons (dp_of s n d _ h.1 r1) (dps_of s n ds _ h.2 r2)
end
theorem VB.dp (s : Same I H) {n : Nat} {d : D} {v : V} (h : shpB n d = true) (r : VB G I H v d) : Dp G.K H v (toPy d) := by
  rcases r with r | ⟨a, m, rfl, r, rfl⟩
  · exact dp_of s n d v h r
  · cases m with
    | lst l =>
      obtain ⟨xs, h1, h2⟩ := r
      cases n with
      | zero => simp [shpB] at h
      | succ n => exact .lst (SqL.of h1) (dps_of s n l xs (by simpa [shpB] using h) h2)
    | dct ks vs => cases n <;> simp [shpB] at h
theorem shaped_of {d : D} (h : shpB 30 d = true) : SeqAt.shaped (toPy d) = true := by
  obtain ⟨h1, h2⟩ := toPy_lay 30 d h
  unfold SeqAt.shaped
  rw [h1, decide_eq_true (show (toPy d).depth ≤ 64 by omega)]; rfl
theorem scal_flt {x y : D} {v u : V} (h1 : flt x = true) (h2 : flt y = true) (r1 : VB G I H v x) (r2 : VB G I H u y) :
    Dp G.K H v (toPy x) ∧ Dp G.K H u (toPy y) := by
  constructor
  · cases x <;> simp [flt] at h1
    · rw [r1.non]; exact .non
    · rw [r1.bl]; exact .bl _
    · rw [r1.int]; exact .int _
    · rw [r1.str]; exact .str _
  · cases y <;> simp [flt] at h2
    · rw [r2.non]; exact .non
    · rw [r2.bl]; exact .bl _
    · rw [r2.int]; exact .int _
    · rw [r2.str]; exact .str _
/-- == of two flat things, asked as the layer's «in» asks it -/
theorem eqV_deq {x y : D} {v u : V} (h1 : flt x = true) (h2 : flt y = true) (r1 : VB G I H v x) (r2 : VB G I H u y) : flatV v = true ∧ flatV u = true ∧ eqV v u = deq x y := by
  have bs := beq_st
  cases x <;> simp [flt] at h1 <;> cases y <;> simp [flt] at h2 <;>
    first
      | rw [r1.non] | rw [r1.bl] | rw [r1.int] | rw [r1.str]
  all_goals first
      | rw [r2.non] | rw [r2.bl] | rw [r2.int] | rw [r2.str]
  all_goals refine ⟨rfl, rfl, ?_⟩
  all_goals simp [eqV, deq]
  all_goals exact bs _ _
end
section
variable {X : Cx} {G : Wd}
abbrev HuOk (X : Cx) : Prop := X.A.units + 64 < cLine
theorem oEq (hK : KOk G X) (hu : HuOk X) : OpB G X (compareOp .Eq) dEq := by
  intro pins s σ H x y v u Q Iv rx ry ⟨F, Xs, I, ρ, σ', dx, dy, d, R, vx, vy, hop, q⟩
  unfold dEq at hop
  split at hop <;> first | cases hop | skip
  rename_i hc
  rw [Bool.or_eq_true, Bool.and_eq_true, Bool.and_eq_true] at hc
  have shp : shpB 30 dx = true → shpB 30 dy = true → wpAny (model X.prog X.w) X.A (compareOp .Eq v u) (EP X pins σ Q) X.xe s := fun c1 c2 => by
    refine op_eqD hu pins s σ H x y v u Q Iv rx ry ⟨toPy dx, toPy dy, ?_, ?_, shaped_of c1, shaped_of c2, ?_⟩
    · rw [← hK]; exact vx.dp R.sub c1
    · rw [← hK]; exact vy.dp R.sub c2
    · rw [eqv_deq 30 30 dx dy c1 c2]
      exact q I H _ (Lt.refl R) (.bl _)
  rcases hc with ⟨c1, c2⟩ | ⟨c1, c2⟩
  · have bs := beq_st
    cases dx <;> simp [flt] at c1 <;> cases dy <;> simp [flt] at c2 <;>
      first
        | exact shp rfl rfl
        | (refine op_eq pins s σ H x y v u Q Iv rx ry ?_
           (first | rw [vx.non] | rw [vx.bl] | rw [vx.int] | rw [vx.str])
           (first | rw [vy.non] | rw [vy.bl] | rw [vy.int] | rw [vy.str])
           refine ⟨rfl, ?_⟩
           first
             | exact q I H _ (Lt.refl R) (.bl _)
             | (rw [dec_str, beq_st]; exact q I H _ (Lt.refl R) (.bl _))
             | (rw [decide_eq_false (by intro z; cases z)]; exact q I H _ (Lt.refl R) (.bl _)))
  · exact shp c1 c2
theorem oNe (hK : KOk G X) (hu : HuOk X) : OpB G X (compareOp .NotEq) dNe := by
  intro pins s σ H x y v u Q Iv rx ry ⟨F, Xs, I, ρ, σ', dx, dy, d, R, vx, vy, hop, q⟩
  unfold dNe at hop
  split at hop <;> first | cases hop | skip
  rename_i hc
  rw [Bool.or_eq_true, Bool.and_eq_true, Bool.and_eq_true] at hc
  have shp : shpB 30 dx = true → shpB 30 dy = true → wpAny (model X.prog X.w) X.A (compareOp .NotEq v u) (EP X pins σ Q) X.xe s := fun c1 c2 => by
    refine op_neD hu pins s σ H x y v u Q Iv rx ry ⟨toPy dx, toPy dy, ?_, ?_, shaped_of c1, shaped_of c2, ?_⟩
    · rw [← hK]; exact vx.dp R.sub c1
    · rw [← hK]; exact vy.dp R.sub c2
    · rw [eqv_deq 30 30 dx dy c1 c2]
      exact q I H _ (Lt.refl R) (.bl _)
  rcases hc with ⟨c1, c2⟩ | ⟨c1, c2⟩
  · have bs := beq_st
    cases dx <;> simp [flt] at c1 <;> cases dy <;> simp [flt] at c2 <;>
      first
        | exact shp rfl rfl
        | (refine op_ne pins s σ H x y v u Q Iv rx ry ?_
           (first | rw [vx.non] | rw [vx.bl] | rw [vx.int] | rw [vx.str])
           (first | rw [vy.non] | rw [vy.bl] | rw [vy.int] | rw [vy.str])
           refine ⟨rfl, ?_⟩
           first
             | exact q I H _ (Lt.refl R) (.bl _)
             | (rw [dec_str, beq_st]; exact q I H _ (Lt.refl R) (.bl _))
             | (rw [decide_eq_false (by intro z; cases z)]; exact q I H _ (Lt.refl R) (.bl _)))
  · exact shp c1 c2

/-! ### in -/
def dIn : D → D → Out D
  | x, .lst l => if (flt x && l.all flt) = true then .ok (.bl (l.any fun y => deq y x)) else .st
  | x, .tup l => if (flt x && l.all flt) = true then .ok (.bl (l.any fun y => deq y x)) else .st
  | x, .dct ks vs => match kOf x with
    | some k => .ok (.bl (dlook ks vs k).isSome)
    | none => .st
  | .str [c], .str l => .ok (.bl (decide (c ∈ l)))
  | _, _ => .st
def dNotIn : D → D → Out D
  | x, .lst l => if (flt x && l.all flt) = true then .ok (.bl (!l.any fun y => deq y x)) else .st
  | x, .tup l => if (flt x && l.all flt) = true then .ok (.bl (!l.any fun y => deq y x)) else .st
  | x, .dct ks vs => match kOf x with
    | some k => .ok (.bl (!(dlook ks vs k).isSome))
    | none => .st
  | .str [c], .str l => .ok (.bl (!decide (c ∈ l)))
  | _, _ => .st
theorem inV_any {I H : Hp} {x : D} {v : V} (fx : flt x = true) (rx : VB G I H v x) : ∀ {xs : List V} {l : List D}, l.all flt = true → RepA G I xs l → flatV v = true ∧ xs.all flatV = true ∧ inV v xs = l.any fun y => deq y x
  | [], [], _, .nil => ⟨(eqV_deq fx fx rx rx).1, rfl, rfl⟩
  | u :: xs, d :: l, h, .cons r t => by
    rw [List.all_cons, Bool.and_eq_true] at h
    obtain ⟨h1, h2, h3⟩ := inV_any fx rx h.2 t
    obtain ⟨g1, g2, g3⟩ := eqV_deq (H := H) h.1 fx r.vb rx
    refine ⟨h1, by rw [List.all_cons, g1, h2]; rfl, ?_⟩
    rw [List.any_cons, ← h3, ← g3]
    rfl
theorem dK_get {I H : Hp} {a : Addr} {ks : List Ky} {xs : List V} {x : D} {k : Ky} {v : V} (h : H a = some (.dK ((ks.map ky).zip xs))) (hk : kOf x = some k) (rx : VB G I H v x) : DGet H a v (valV ((ks.map ky).zip xs) (ky k)) := by
  rw [kOf_V hk rx]
  exact DGet.k h
theorem oIn (hK : KOk G X) (hu : HuOk X) : OpB G X (compareOp .In) dIn := by
  intro pins s σ H x y v u Q Iv rx ry ⟨F, Xs, I, ρ, σ', dx, dy, d, R, vx, vy, hop, q⟩
  unfold dIn at hop
  split at hop
  · split at hop <;> first | cases hop | skip
    rename_i hc
    rw [Bool.and_eq_true] at hc
    obtain ⟨b, ys, rfl, hy, ry'⟩ := vy.lst R.sub
    obtain ⟨g1, g2, g3⟩ := inV_any hc.1 vx hc.2 ry'
    exact op_in_seq pins s σ H _ _ v u Q Iv rx ry ⟨b, ys, rfl, .inl (SqL.of hy), g1, g2, by
      show Q (.bl (inV x ys)) H
      rw [g3]; exact q I H _ (Lt.refl R) (.bl _)⟩
  · split at hop <;> first | cases hop | skip
    rename_i hc
    rw [Bool.and_eq_true] at hc
    obtain ⟨b, ys, rfl, hy, ry'⟩ := vy.tup R.sub
    rw [hK] at hy
    obtain ⟨g1, g2, g3⟩ := inV_any hc.1 vx hc.2 ry'
    exact op_in_seq pins s σ H _ _ v u Q Iv rx ry ⟨b, ys, rfl, .inr hy, g1, g2, by
      show Q (.bl (inV x ys)) H
      rw [g3]; exact q I H _ (Lt.refl R) (.bl _)⟩
  · split at hop <;> first | cases hop | skip
    rename_i k hk
    obtain ⟨b, ys, rfl, hy, hl, ry'⟩ := vy.dct R.sub
    cases (show u = Value.ref b from ry)
    refine d_in (A := X.A) (by unfold HuOk at hu; omega) Iv (dK_get hy hk vx) rx fun s' I' => ⟨.bl _, H, I', rfl, ?_⟩
    rcases valV_look k hl ry' with ⟨g1, g2⟩ | ⟨d', v', g1, g2, g3⟩
    · rw [g2]; rw [g1] at q; exact q I H _ (Lt.refl R) (.bl _)
    · rw [g2]; rw [g1] at q; exact q I H _ (Lt.refl R) (.bl _)
  · cases hop
    obtain rfl := vx.str
    obtain rfl := vy.str
    refine op_in_sign pins s σ H _ _ v u Q Iv rx ry ⟨_, _, rfl, rfl, ?_⟩
    rw [st_cps]
    exact q I H _ (Lt.refl R) (.bl _)
  · cases hop
theorem oNotIn (hK : KOk G X) (hu : HuOk X) : OpB G X (compareOp .NotIn) dNotIn := by
  intro pins s σ H x y v u Q Iv rx ry ⟨F, Xs, I, ρ, σ', dx, dy, d, R, vx, vy, hop, q⟩
  unfold dNotIn at hop
  split at hop
  · split at hop <;> first | cases hop | skip
    rename_i hc
    rw [Bool.and_eq_true] at hc
    obtain ⟨b, ys, rfl, hy, ry'⟩ := vy.lst R.sub
    obtain ⟨g1, g2, g3⟩ := inV_any hc.1 vx hc.2 ry'
    exact op_notIn_seq pins s σ H _ _ v u Q Iv rx ry ⟨b, ys, rfl, .inl (SqL.of hy), g1, g2, by
      show Q (.bl (!inV x ys)) H
      rw [g3]; exact q I H _ (Lt.refl R) (.bl _)⟩
  · split at hop <;> first | cases hop | skip
    rename_i hc
    rw [Bool.and_eq_true] at hc
    obtain ⟨b, ys, rfl, hy, ry'⟩ := vy.tup R.sub
    rw [hK] at hy
    obtain ⟨g1, g2, g3⟩ := inV_any hc.1 vx hc.2 ry'
    exact op_notIn_seq pins s σ H _ _ v u Q Iv rx ry ⟨b, ys, rfl, .inr hy, g1, g2, by
      show Q (.bl (!inV x ys)) H
      rw [g3]; exact q I H _ (Lt.refl R) (.bl _)⟩
  · split at hop <;> first | cases hop | skip
    rename_i k hk
    obtain ⟨b, ys, rfl, hy, hl, ry'⟩ := vy.dct R.sub
    cases (show u = Value.ref b from ry)
    refine d_notIn (A := X.A) (by unfold HuOk at hu; omega) Iv (dK_get hy hk vx) rx fun s' I' => ⟨.bl _, H, I', rfl, ?_⟩
    rcases valV_look k hl ry' with ⟨g1, g2⟩ | ⟨d', v', g1, g2, g3⟩
    · rw [g2]; rw [g1] at q; exact q I H _ (Lt.refl R) (.bl _)
    · rw [g2]; rw [g1] at q; exact q I H _ (Lt.refl R) (.bl _)
  · cases hop
    obtain rfl := vx.str
    obtain rfl := vy.str
    refine op_notIn_sign pins s σ H _ _ v u Q Iv rx ry ⟨_, _, rfl, rfl, ?_⟩
    rw [st_cps]
    exact q I H _ (Lt.refl R) (.bl _)
  · cases hop
end
end NS

set_option Elab.async false
set_option linter.all false
set_option maxRecDepth 100000
set_option maxHeartbeats 4000000
namespace NS
open PySem PySem.Spec L2
open PyProof.Rows hiding St

/-! ### and, or, not, if, truth -/
def dAndV (a b : EM) : EM := fun ρ => (a ρ).bind fun x => match x with
  | .bl true => b ρ
  | .bl false => .ok (.bl false)
  | _ => .st
def dOrV (a b : EM) : EM := fun ρ => (a ρ).bind fun x => match x with
  | .bl false => b ρ
  | .bl true => .ok (.bl true)
  | _ => .st
def dNotV (a : EM) : EM := fun ρ => (a ρ).bind fun x => match x with
  | .bl b => .ok (.bl (!b))
  | _ => .st
abbrev TM := Ev → Out Bool
def tAndM (a b : TM) : TM := fun ρ => (a ρ).bind fun x => if x = true then b ρ else .ok false
def tOrM (a b : TM) : TM := fun ρ => (a ρ).bind fun x => if x = true then .ok true else b ρ
def tNotM (a : TM) : TM := fun ρ => (a ρ).bind fun x => .ok (!x)
def dIf (t : TM) (a b : EM) : EM := fun ρ => (t ρ).bind fun x => if x = true then a ρ else b ρ
def tru : D → Out Bool
  | .non => .ok false
  | .bl b => .ok b
  | .int i => .ok (i != 0)
  | .str l => if l.length ≤ 16777216 then .ok (!l.isEmpty) else .st
  | .tup l => .ok (!l.isEmpty)
  | .lst l => .ok (!l.isEmpty)
  | .dct ks vs => .ok (!ks.isEmpty)
  | .scr ns => .ok (!ns.isEmpty)
  | _ => .st
def tTru (m : EM) : TM := fun ρ => (m ρ).bind tru
def dChain (f g : D → D → Out D) (a b c : EM) : EM := fun ρ => (a ρ).bind fun x => (b ρ).bind fun y => (noer (f x y)).bind fun z => match z with
  | .bl true => (c ρ).bind fun w => noer (g y w)
  | .bl false => .ok (.bl false)
  | _ => .st
section
variable {X : Cx} {G : Wd} {W : WX} {pos : Pos} {a b c : Expr} {rest : List Expr} {ma mb mc : EM} {ta tb : TM}
/-- how a reading goes on behind another's -/
theorem okD_bind {F : Fr0} {Xs : List Addr} {I H : Hp} {ρ : Ev} {σ : St} {Q : VK} {α : Type} {o : Out α} {f : α → Out D} (q : OkD G W F Xs I ρ σ H Q (o.bind f)) :
    (∃ x, o = .ok x ∧ OkD G W F Xs I ρ σ H Q (f x)) ∨ ∃ e, o = .er e ∧ ErP G W F Xs I ρ σ H e := by
  cases o with
  | ok x => exact .inl ⟨x, rfl, q⟩
  | er e => exact .inr ⟨e, rfl, q⟩
  | st => exact q.elim
theorem okT_bind {F : Fr0} {Xs : List Addr} {I H : Hp} {ρ : Ev} {σ : St} {Q : Bool → Hp → Prop} {α : Type} {o : Out α} {f : α → Out Bool} (q : OkT G W F Xs I ρ σ H Q (o.bind f)) :
    (∃ x, o = .ok x ∧ OkT G W F Xs I ρ σ H Q (f x)) ∨ ∃ e, o = .er e ∧ ErP G W F Xs I ρ σ H e := by
  cases o with
  | ok x => exact .inl ⟨x, rfl, q⟩
  | er e => exact .inr ⟨e, rfl, q⟩
  | st => exact q.elim
theorem OkD.later {F : Fr0} {Xs : List Addr} {I H I1 H1 : Hp} {ρ : Ev} {σ : St} {Q : VK} {o : Out D} (l : Lt G F Xs ρ σ I H I1 H1) (q : OkD G W F Xs I ρ σ H Q o) : OkD G W F Xs I1 ρ σ H1 Q o := by
  cases o with
  | ok x => exact fun I' H' v l2 r => q I' H' v (l.trans l2) r
  | er e => exact ErP.later l q
  | st => exact q
theorem OkT.later {F : Fr0} {Xs : List Addr} {I H I1 H1 : Hp} {ρ : Ev} {σ : St} {Q : Bool → Hp → Prop} {o : Out Bool} (l : Lt G F Xs ρ σ I H I1 H1) (q : OkT G W F Xs I ρ σ H Q o) : OkT G W F Xs I1 ρ σ H1 Q o := by
  cases o with
  | ok x => exact fun I' H' l2 => q I' H' (l.trans l2)
  | er e => exact ErP.later l q
  | st => exact q
theorem e_one {op} {m : EM} (h : PE X a (tD G W m)) : PE X (.BoolOp op [a] pos) (tD G W m) := pe_one h
theorem e_and (ha : PE X a (tD G W ma)) (hb : PE X (.BoolOp .And (b :: rest) pos) (tD G W mb)) : PE X (.BoolOp .And (a :: b :: rest) pos) (tD G W (dAndV ma mb)) :=
  (pe_and ha hb).imp fun σ H Q ⟨F, Xs, I, ρ, R, q⟩ => ⟨F, Xs, I, ρ, R, by
    rcases okD_bind q with ⟨x, z, q⟩ | ⟨e, z, q⟩
    · rw [z]
      intro I1 H1 v l r
      cases x <;> first | exact q.elim | skip
      rename_i b
      cases r
      refine ⟨b, rfl, ?_⟩
      cases b with
      | true => rw [if_pos rfl]; exact ⟨F, Xs, I1, ρ, l.r, OkD.later l q⟩
      | false => rw [if_neg Bool.false_ne_true]; exact q I1 H1 _ l (.bl false)
    · rw [z]; exact q⟩
theorem e_or (ha : PE X a (tD G W ma)) (hb : PE X (.BoolOp .Or (b :: rest) pos) (tD G W mb)) : PE X (.BoolOp .Or (a :: b :: rest) pos) (tD G W (dOrV ma mb)) :=
  (pe_or ha hb).imp fun σ H Q ⟨F, Xs, I, ρ, R, q⟩ => ⟨F, Xs, I, ρ, R, by
    rcases okD_bind q with ⟨x, z, q⟩ | ⟨e, z, q⟩
    · rw [z]
      intro I1 H1 v l r
      cases x <;> first | exact q.elim | skip
      rename_i b
      cases r
      refine ⟨b, rfl, ?_⟩
      cases b with
      | false => rw [if_neg Bool.false_ne_true]; exact ⟨F, Xs, I1, ρ, l.r, OkD.later l q⟩
      | true => rw [if_pos rfl]; exact q I1 H1 _ l (.bl true)
    · rw [z]; exact q⟩
theorem e_not (ha : PE X a (tD G W ma)) : PE X (.UnaryOp .Not a pos) (tD G W (dNotV ma)) :=
  (pe_not ha).imp fun σ H Q ⟨F, Xs, I, ρ, R, q⟩ => ⟨F, Xs, I, ρ, R, by
    rcases okD_bind q with ⟨x, z, q⟩ | ⟨e, z, q⟩
    · rw [z]
      intro I1 H1 v l r
      cases x <;> first | exact q.elim | skip
      rename_i b
      cases r
      exact ⟨b, rfl, q I1 H1 _ l (.bl _)⟩
    · rw [z]; exact q⟩
theorem tAndM_run {σ : St} {H : Hp} {Q : Bool → Hp → Prop} (h : tT G W (tAndM ta tb) σ H Q) : tAnd (tT G W ta) (tT G W tb) σ H Q := by
  obtain ⟨F, Xs, I, ρ, R, q⟩ := h
  refine ⟨F, Xs, I, ρ, R, ?_⟩
  rcases okT_bind q with ⟨x, z, q⟩ | ⟨e, z, q⟩
  · rw [z]
    intro I1 H1 l
    cases x with
    | true => rw [if_pos rfl]; rw [if_pos rfl] at q; exact ⟨F, Xs, I1, ρ, l.r, OkT.later l q⟩
    | false => rw [if_neg Bool.false_ne_true]; rw [if_neg Bool.false_ne_true] at q; exact q I1 H1 l
  · rw [z]; exact q
theorem tOrM_run {σ : St} {H : Hp} {Q : Bool → Hp → Prop} (h : tT G W (tOrM ta tb) σ H Q) : tOr (tT G W ta) (tT G W tb) σ H Q := by
  obtain ⟨F, Xs, I, ρ, R, q⟩ := h
  refine ⟨F, Xs, I, ρ, R, ?_⟩
  rcases okT_bind q with ⟨x, z, q⟩ | ⟨e, z, q⟩
  · rw [z]
    intro I1 H1 l
    cases x with
    | false => rw [if_neg Bool.false_ne_true]; rw [if_neg Bool.false_ne_true] at q; exact ⟨F, Xs, I1, ρ, l.r, OkT.later l q⟩
    | true => rw [if_pos rfl]; rw [if_pos rfl] at q; exact q I1 H1 l
  · rw [z]; exact q
theorem _root_.L2.PW.imp {e : Expr} {t t' : TT} (h : PW X e t) (i : ∀ σ H Q, t' σ H Q → t σ H Q) : PW X e t' := ⟨fun wh pins s σ H Q I q => h.run wh pins s σ H Q I (i _ _ _ q)⟩
theorem w_and1 (ha : PT X a (tT G W ta)) : PW X (.BoolOp .And [a] pos) (tT G W ta) := pw_and1 ha
theorem w_or1 (ha : PT X a (tT G W ta)) : PW X (.BoolOp .Or [a] pos) (tT G W ta) := pw_or1 ha
theorem w_and (ha : PT X a (tT G W ta)) (hb : PW X (.BoolOp .And (b :: rest) pos) (tT G W tb)) : PW X (.BoolOp .And (a :: b :: rest) pos) (tT G W (tAndM ta tb)) := (pw_and ha hb).imp fun _ _ _ h => tAndM_run h
theorem w_or (ha : PT X a (tT G W ta)) (hb : PW X (.BoolOp .Or (b :: rest) pos) (tT G W tb)) : PW X (.BoolOp .Or (a :: b :: rest) pos) (tT G W (tOrM ta tb)) := (pw_or ha hb).imp fun _ _ _ h => tOrM_run h
theorem t_w {e : Expr} (h : PW X e (tT G W ta)) : PT X e (tT G W ta) := h.pt
theorem t_not (ha : PT X a (tT G W ta)) : PT X (.UnaryOp .Not a pos) (tT G W (tNotM ta)) :=
  (pt_not ha).imp fun σ H Q ⟨F, Xs, I, ρ, R, q⟩ => ⟨F, Xs, I, ρ, R, by
    rcases okT_bind q with ⟨x, z, q⟩ | ⟨e, z, q⟩
    · rw [z]; exact fun I1 H1 l => q I1 H1 l
    · rw [z]; exact q⟩
theorem e_if {t : Expr} (ht : PT X t (tT G W ta)) (ha : PE X a (tD G W ma)) (hb : PE X b (tD G W mb)) : PE X (.IfExp t a b pos) (tD G W (dIf ta ma mb)) :=
  (pe_ifExp ht ha hb).imp fun σ H Q ⟨F, Xs, I, ρ, R, q⟩ => ⟨F, Xs, I, ρ, R, by
    rcases okD_bind q with ⟨x, z, q⟩ | ⟨e, z, q⟩
    · rw [z]
      intro I1 H1 l
      cases x with
      | true => rw [if_pos rfl]; rw [if_pos rfl] at q; exact ⟨F, Xs, I1, ρ, l.r, OkD.later l q⟩
      | false => rw [if_neg Bool.false_ne_true]; rw [if_neg Bool.false_ne_true] at q; exact ⟨F, Xs, I1, ρ, l.r, OkD.later l q⟩
    · rw [z]; exact q⟩
theorem RepA.emp {I : Hp} {xs : List V} {l : List D} (r : RepA G I xs l) : xs.isEmpty = l.isEmpty := by cases r <;> rfl
theorem tru_V (hK : KOk G X) {I H : Hp} {v : V} {d : D} {k : Bool} (s : Same I H) (r : VB G I H v d) (h : tru d = .ok k) : TruV X.K v H k := by
  cases d <;> simp only [tru] at h <;> first | (cases h; done) | skip
  · cases h; rw [r.non]; rfl
  · cases h; rw [r.bl]; rfl
  · cases h; rw [r.int]; rfl
  · split at h <;> first | cases h | skip
    rename_i l hl
    rw [r.str]
    refine ⟨by rw [st_len, line_eq]; exact hl, ?_⟩
    rw [st_len]
    cases l with
    | nil => rfl
    | cons a as =>
      show true = _
      have : ((a :: as).length : Int) ≠ 0 := by simp; omega
      simpa using this
  · cases h
    obtain ⟨a, xs, rfl, h1, h2⟩ := r.tup s
    rw [hK] at h1
    exact .inr (.inl ⟨xs, h1, by rw [h2.emp]⟩)
  · cases h
    obtain ⟨a, xs, rfl, h1, h2⟩ := r.lst s
    exact .inl ⟨xs, SqL.of h1, by rw [h2.emp]⟩
  · cases h
    obtain ⟨a, xs, rfl, h1, h2, h3⟩ := r.dct s
    refine .inr (.inr ⟨_, h1, ?_⟩)
    rename_i ks vs
    cases ks with
    | nil => simp
    | cons k ks =>
      cases xs with
      | nil => simp at h2
      | cons x xs => rfl
  · cases h
    obtain ⟨a, rfl, h1⟩ := r.scr s
    rw [hK] at h1
    refine .inl ⟨_, h1, ?_⟩
    rename_i ns
    cases ns <;> rfl
theorem t_tru (hK : KOk G X) (ha : PE X a (tB G W ma)) (he : ∀ whole, isTrue a X.env whole = (do let v ← whole; standAt a.pos; holding [v] (truthy v)) := by intro _; rfl) : PT X a (tT G W (tTru ma)) :=
  (pt_truth ha he).imp fun σ H Q ⟨F, Xs, I, ρ, R, q⟩ => ⟨F, Xs, I, ρ, R, by
    rcases okT_bind q with ⟨x, z, q⟩ | ⟨e, z, q⟩
    · rw [z]
      intro I1 H1 v l r
      cases t : tru x with
      | ok k => rw [t] at q; exact ⟨k, tru_V hK l.r.sub r t, q I1 H1 l⟩
      | er e => cases x <;> simp only [tru] at t <;> first | cases t | (split at t <;> cases t)
      | st => rw [t] at q; exact q.elim
    · rw [z]; exact q⟩
theorem chain_run {f g : D → D → Out D} {σ : St} {H : Hp} {Q : VK} (h : tD G W (dChain f g ma mb mc) σ H Q) :
    tChain (fun x y H Q => ∃ F Xs I ρ σ dx dy d, Rel G F Xs I ρ σ H ∧ VB G I H x dx ∧ VB G I H y dy ∧ f dx dy = .ok d ∧ ∀ I' H' v, Lt G F Xs ρ σ I H I' H' → Rep G I' v d → Q v H')
      (fun x y H Q => ∃ F Xs I ρ σ dx dy d, Rel G F Xs I ρ σ H ∧ VB G I H x dx ∧ VB G I H y dy ∧ g dx dy = .ok d ∧ ∀ I' H' v, Lt G F Xs ρ σ I H I' H' → Rep G I' v d → Q v H') (tB G W ma) (tB G W mb) (tB G W mc) σ H Q := by
  obtain ⟨F, Xs, I, ρ, R, q⟩ := h
  refine ⟨F, Xs, I, ρ, R, ?_⟩
  rcases okD_bind q with ⟨dx, z1, q⟩ | ⟨e, z, q⟩
  · rw [z1]
    intro I1 H1 x l1 r1
    refine ⟨F, Xs, I1, ρ, l1.r, ?_⟩
    rcases okD_bind (OkD.later l1 q) with ⟨dy, z2, q⟩ | ⟨e, z, q⟩
    · rw [z2]
      intro I2 H2 y l2 r2
      cases z3 : f dx dy with
      | er e => rw [z3] at q; exact q.elim
      | st => rw [z3] at q; exact q.elim
      | ok d =>
        rw [z3] at q
        refine ⟨F, Xs, I2, ρ, σ, dx, dy, d, l2.r, r1.later l2.i l2.h, r2, z3, fun I3 H3 v l3 r3 => ?_⟩
        have q := OkD.later (l2.trans l3) q
        obtain ⟨k, rfl⟩ : ∃ k, d = .bl k := by cases d <;> first | exact q.elim | exact ⟨_, rfl⟩
        cases r3
        refine ⟨k, rfl, ?_⟩
        cases k with
        | false => rw [if_neg Bool.false_ne_true]; exact q I3 H3 _ (Lt.refl l3.r) (.bl _)
        | true =>
          rw [if_pos rfl]
          refine ⟨F, Xs, I3, ρ, l3.r, ?_⟩
          have q : OkD G W F Xs I3 ρ σ H3 Q ((mc ρ).bind fun w => noer (g dy w)) := q
          rcases okD_bind q with ⟨dz, z4, q⟩ | ⟨e, z, q⟩
          · rw [z4]
            intro I4 H4 w l4 r4
            cases z5 : g dy dz with
            | er e => rw [z5] at q; exact q.elim
            | st => rw [z5] at q; exact q.elim
            | ok d =>
              rw [z5] at q
              exact ⟨F, Xs, I4, ρ, σ, dy, dz, d, l4.r, r2.later (l3.trans l4).i (l3.trans l4).h, r4, z5, fun I5 H5 v5 l5 r5 => q I5 H5 v5 (l4.trans l5) r5⟩
          · rw [z]; exact q
    · rw [z]; exact q
  · rw [z]; exact q
theorem e_chain {op op' : CmpOp} {f g : D → D → Out D} (ho : OpB G X (compareOp op) f) (ho' : OpB G X (compareOp op') g) (ha : PE X a (tB G W ma)) (hb : PE X b (tB G W mb)) (hc : PE X c (tB G W mc))
    (hm : lastMarks [op, op'] [b, c] = false := by with_unfolding_all rfl) : PE X (.Compare a [op, op'] [b, c] pos) (tD G W (dChain f g ma mb mc)) :=
  (pe_chain ho ho' ha hb hc hm).imp fun _ _ _ h => chain_run h
theorem t_chain {op op' : CmpOp} {f g : D → D → Out D} (ho : OpB G X (compareOp op) f) (ho' : OpB G X (compareOp op') g) (ha : PE X a (tB G W ma)) (hb : PE X b (tB G W mb)) (hc : PE X c (tB G W mc))
    (hm : lastMarks [op, op'] [b, c] = false := by with_unfolding_all rfl) : PT X (.Compare a [op, op'] [b, c] pos) (tT G W (tst (dChain f g ma mb mc))) :=
  (pt_chain ho ho' ha hb hc hm).imp fun _ _ _ h => chain_run (tst_D h)
end

/-! ### lists of expressions, displays -/
def nilM : Ev → Out (List D) := fun _ => .ok []
def consM (m : EM) (ms : Ev → Out (List D)) : Ev → Out (List D) := fun ρ => (m ρ).bind fun x => (ms ρ).bind fun xs => .ok (x :: xs)
theorem okA_bind {G : Wd} {W : WX} {F : Fr0} {Xs : List Addr} {I H : Hp} {ρ : Ev} {σ : St} {Q : List V → Hp → Prop} {α : Type} {o : Out α} {f : α → Out (List D)} (q : OkA G W F Xs I ρ σ H Q (o.bind f)) :
    (∃ x, o = .ok x ∧ OkA G W F Xs I ρ σ H Q (f x)) ∨ ∃ e, o = .er e ∧ ErP G W F Xs I ρ σ H e := by
  cases o with
  | ok x => exact .inl ⟨x, rfl, q⟩
  | er e => exact .inr ⟨e, rfl, q⟩
  | st => exact q.elim
theorem OkA.later {G : Wd} {W : WX} {F : Fr0} {Xs : List Addr} {I H I1 H1 : Hp} {ρ : Ev} {σ : St} {Q : List V → Hp → Prop} {o : Out (List D)} (l : Lt G F Xs ρ σ I H I1 H1) (q : OkA G W F Xs I ρ σ H Q o) : OkA G W F Xs I1 ρ σ H1 Q o := by
  cases o with
  | ok x => exact fun I' H' v l2 r => q I' H' v (l.trans l2) r
  | er e => exact ErP.later l q
  | st => exact q
/-- values seen as data -/
inductive VBA (G : Wd) (I H : Hp) : List V → List D → Prop
  | nil : VBA G I H [] []
  | cons {v : V} {vs : List V} {d : D} {ds : List D} : VB G I H v d → VBA G I H vs ds → VBA G I H (v :: vs) (d :: ds)
theorem VBA.later {G : Wd} {I H I1 H1 : Hp} (i : Same I I1) (h : Same H H1) : ∀ {vs : List V} {ds : List D}, VBA G I H vs ds → VBA G I1 H1 vs ds
  | _, _, .nil => .nil
  | _, _, .cons r t => .cons (r.later i h) (VBA.later i h t)
theorem RepA.vba {G : Wd} {I H : Hp} : ∀ {vs : List V} {ds : List D}, RepA G I vs ds → VBA G I H vs ds
  | _, _, .nil => .nil
  | _, _, .cons r t => .cons r.vb (RepA.vba t)
def OkAB (G : Wd) (W : WX) (F : Fr0) (X : List Addr) (I : Hp) (ρ : Ev) (σ : St) (H : Hp) (Q : List V → Hp → Prop) : Out (List D) → Prop
  | .ok ds => ∀ I' H' vs, Lt G F X ρ σ I H I' H' → VBA G I' H' vs ds → Q vs H'
  | .er e => ErP G W F X I ρ σ H e
  | .st => False
def tAB (G : Wd) (W : WX) (m : Ev → Out (List D)) : TA := fun σ H Q => ∃ F X I ρ, Rel G F X I ρ σ H ∧ OkAB G W F X I ρ σ H Q (m ρ)
section
variable {X : Cx} {G : Wd} {W : WX} {pos : Pos} {e : Expr} {es : List Expr} {m : EM} {ms : Ev → Out (List D)}
theorem okAB_bind {F : Fr0} {Xs : List Addr} {I H : Hp} {ρ : Ev} {σ : St} {Q : List V → Hp → Prop} {α : Type} {o : Out α} {f : α → Out (List D)} (q : OkAB G W F Xs I ρ σ H Q (o.bind f)) :
    (∃ x, o = .ok x ∧ OkAB G W F Xs I ρ σ H Q (f x)) ∨ ∃ e, o = .er e ∧ ErP G W F Xs I ρ σ H e := by
  cases o with
  | ok x => exact .inl ⟨x, rfl, q⟩
  | er e => exact .inr ⟨e, rfl, q⟩
  | st => exact q.elim
theorem OkAB.later {F : Fr0} {Xs : List Addr} {I H I1 H1 : Hp} {ρ : Ev} {σ : St} {Q : List V → Hp → Prop} {o : Out (List D)} (l : Lt G F Xs ρ σ I H I1 H1) (q : OkAB G W F Xs I ρ σ H Q o) : OkAB G W F Xs I1 ρ σ H1 Q o := by
  cases o with
  | ok x => exact fun I' H' v l2 r => q I' H' v (l.trans l2) r
  | er e => exact ErP.later l q
  | st => exact q
theorem a_nil : PA X [] (tA G W nilM) := pa_nil.imp fun σ H Q ⟨F, Xs, I, ρ, R, q⟩ => q I H [] (Lt.refl R) .nil
theorem a_cons (ha : PE X e (tD G W m)) (hr : PA X es (tA G W ms)) (hs : starEach (e :: es) X.env = (false, eval e X.env) :: starEach es X.env := by rfl) : PA X (e :: es) (tA G W (consM m ms)) :=
  (pa_cons ha hr hs).imp fun σ H Q ⟨F, Xs, I, ρ, R, q⟩ => ⟨F, Xs, I, ρ, R, by
    rcases okA_bind q with ⟨d, z, q⟩ | ⟨e, z, q⟩
    · rw [z]
      intro I1 H1 x l1 r1
      refine ⟨F, Xs, I1, ρ, l1.r, ?_⟩
      rcases okA_bind (OkA.later l1 q) with ⟨ds, z2, q⟩ | ⟨e, z, q⟩
      · rw [z2]
        exact fun I2 H2 vs l2 r2 => q I2 H2 _ l2 (.cons (r1.mono l2.i) r2)
      · rw [z]; exact q
    · rw [z]; exact q⟩
theorem ab_nil : PA X [] (tAB G W nilM) := pa_nil.imp fun σ H Q ⟨F, Xs, I, ρ, R, q⟩ => q I H [] (Lt.refl R) .nil
theorem ab_cons (ha : PE X e (tB G W m)) (hr : PA X es (tAB G W ms)) (hs : starEach (e :: es) X.env = (false, eval e X.env) :: starEach es X.env := by rfl) : PA X (e :: es) (tAB G W (consM m ms)) :=
  (pa_cons ha hr hs).imp fun σ H Q ⟨F, Xs, I, ρ, R, q⟩ => ⟨F, Xs, I, ρ, R, by
    rcases okAB_bind q with ⟨d, z, q⟩ | ⟨e, z, q⟩
    · rw [z]
      intro I1 H1 x l1 r1
      refine ⟨F, Xs, I1, ρ, l1.r, ?_⟩
      rcases okAB_bind (OkAB.later l1 q) with ⟨ds, z2, q⟩ | ⟨e, z, q⟩
      · rw [z2]
        exact fun I2 H2 vs l2 r2 => q I2 H2 _ l2 (.cons (r1.later l2.i l2.h) r2)
      · rw [z]; exact q
    · rw [z]; exact q⟩
/-- how many there are -/
def LenIs (ms : Ev → Out (List D)) (n : Nat) : Prop := ∀ ρ ds, ms ρ = .ok ds → ds.length = n
theorem len_nil : LenIs nilM 0 := fun ρ ds h => by cases h; rfl
theorem len_cons {n : Nat} (h : LenIs ms n) : LenIs (consM m ms) (n + 1) := fun ρ ds q => by
  unfold consM at q
  cases z : m ρ with
  | ok d =>
    rw [z] at q
    simp only [Out.bind] at q
    cases z2 : ms ρ with
    | ok l => rw [z2] at q; cases q; simp [h ρ l z2]
    | er e => rw [z2] at q; cases q
    | st => rw [z2] at q; cases q
  | er e => rw [z] at q; cases q
  | st => rw [z] at q; cases q
def dTup (ms : Ev → Out (List D)) : EM := fun ρ => (ms ρ).bind fun xs => .ok (.tup xs)
def fLst (ms : Ev → Out (List D)) : Ev → Out Mu := fun ρ => (ms ρ).bind fun xs => .ok (.lst xs)
def dLst (ms : Ev → Out (List D)) : EM := fun ρ => (ms ρ).bind fun xs => .ok (.lst xs)
theorem e_tup {x1} {n : Nat} (h : PA X es (tA G W ms)) (hn : LenIs ms n) (hl : n ≤ 1000 := by decide) : PE X (.Tuple es x1 pos) (tD G W (dTup ms)) :=
  (pe_tup h).imp fun σ H Q ⟨F, Xs, I, ρ, R, q⟩ => ⟨F, Xs, I, ρ, R, by
    rcases okD_bind q with ⟨ds, z, q⟩ | ⟨e, z, q⟩
    · rw [z]
      intro I1 H1 vs l1 r1
      refine ⟨by rw [r1.length, hn ρ ds z, line_eq]; omega, fun p hp => ?_⟩
      exact q (upd I1 p _) _ _ (l1.trans (l1.r.ltAlloc hp)) (.tup (SqT.of upd_same) (r1.mono (same_upd (l1.r.inone hp))))
    · rw [z]; exact q⟩
theorem f_lst {n : Nat} (h : PA X es (tA G W ms)) (hn : LenIs ms n) (hl : n ≤ 1000 := by decide) : PE X (.List es pos) (tF G W (fLst ms)) :=
  (pe_lst h).imp fun σ H Q ⟨F, Xs, I, ρ, R, q⟩ => ⟨F, Xs, I, ρ, R, by
    unfold fLst at q
    cases z : ms ρ with
    | st => rw [z] at q; exact q.elim
    | er e => rw [z] at q; exact q
    | ok ds =>
      rw [z] at q
      intro I1 H1 vs l1 r1
      refine ⟨by rw [r1.length, hn ρ ds z, line_eq]; omega, fun p hp => ?_⟩
      exact q I1 _ p (l1.transF (l1.r.ltFresh hp)) ⟨_, upd_same, r1⟩⟩
theorem frz_lst : frz (fLst ms) = dLst ms := by
  funext ρ
  unfold frz fLst dLst
  cases ms ρ <;> rfl
theorem e_lst {n : Nat} (h : PA X es (tA G W ms)) (hn : LenIs ms n) (hl : n ≤ 1000 := by decide) : PE X (.List es pos) (tD G W (dLst ms)) := by
  rw [← frz_lst]; exact fD (f_lst h hn hl)
end
end NS

set_option Elab.async false
set_option linter.all false
set_option maxRecDepth 100000
set_option maxHeartbeats 4000000
namespace NS
open PySem PySem.Spec L2
open PyProof.Rows hiding St

/-! ### subscripts, slices -/
def dIx : D → D → Out D
  | .lst l, .int i => match atI l i with
    | some d => .ok d
    | none => .st
  | .tup l, .int i => match atI l i with
    | some d => .ok d
    | none => .st
  | .str l, .int i => if l.length ≤ 16777216 then (match atI l i with
    | some c => .ok (.str [c])
    | none => .st) else .st
  | .scr ns, .int i => match atI ns i with
    | some n => .ok (.int n)
    | none => .st
  | .dct ks vs, x => match kOf x with
    | some k => (match dlook ks vs k with
      | some d => .ok d
      | none => .st)
    | none => .st
  | _, _ => .st
theorem atI_repA {G : Wd} {I : Hp} {xs : List V} {l : List D} {i : Int} {d : D} (r : RepA G I xs l) (h : atI l i = some d) : ∃ v, atI xs i = some v ∧ Rep G I v d := by
  unfold atI at h ⊢
  rw [r.length]
  cases e : ixN l.length i with
  | none => rw [e] at h; cases h
  | some j =>
    rw [e] at h
    obtain ⟨v, h1, h2⟩ := r.get (i := j) h
    exact ⟨v, h1, h2⟩
theorem atI_map {α β : Type} (f : α → β) (xs : List α) (i : Int) : atI (xs.map f) i = (atI xs i).map f := by
  unfold atI
  rw [List.length_map]
  cases ixN xs.length i with
  | none => rfl
  | some j => simp
section
variable {X : Cx} {G : Wd} {W : WX} {pos : Pos} {a b : Expr} {ma mb : EM}
theorem ix_dict (hu : HuOk X) : IxR X (fun x y H Q => ∃ a v, x = .ref a ∧ DGet H a y (some v) ∧ Q v H) := by
  intro value slice pins s σ H x y v u Q I rx ry h hs
  obtain ⟨a, w, rfl, g, q⟩ := h
  cases (show v = Value.ref a from rx)
  have hT := dict_typeIs I g
  unfold subscriptTail
  refine wpAny_bind ?_
  rw [getitemInPython_of_ne hT.not_modules]
  refine wpAny_bind (wpAny_specialOf hT PySem.F.slot_dict_getitem.lookup ?_)
  have fin : wpAny (model X.prog X.w) X.A (subscripted slice false (.ref a) u) (fun r s₃ => wpAny (model X.prog X.w) X.A (letTemporaryGo value (.ref a) r >>= fun _ => pure r) (EP X pins σ Q) X.xe s₃) X.xe s := by
    rw [hs]
    exact wpAny_operating (wpAny_mono (d_getItem (A := X.A) (E := X.xe) (by unfold HuOk at hu; omega) I g ry fun w' s' I' r' => (show EP X pins σ Q w' s' from ⟨w, H, I', r', q⟩)) (fun r s₃ h₃ => wpAny_bind (wpAny_letTemporaryGo (wpAny_pure h₃))) fun _ _ x => x)
  first
    | exact wpAny_pure (wpAny_bind fin)
    | exact wpAny_bind (wpAny_pure (wpAny_bind fin))
    | exact wpAny_bind fin
theorem oIx (hK : KOk G X) (hu : HuOk X) : IxR X (fun x y H Q => ∃ F Xs I ρ σ dx dy d, Rel G F Xs I ρ σ H ∧ VB G I H x dx ∧ VB G I H y dy ∧ dIx dx dy = .ok d ∧ ∀ I' H' v, Lt G F Xs ρ σ I H I' H' → Rep G I' v d → Q v H') := by
  intro value slice pins s σ H x y v u Q Iv rx ry ⟨F, Xs, I, ρ, σ', dx, dy, d, R, vx, vy, hop, q⟩ hs
  unfold dIx at hop
  split at hop
  · split at hop <;> first | cases hop | skip
    rename_i e
    obtain ⟨b, ys, rfl, hy, ry'⟩ := vx.lst R.sub
    obtain rfl := vy.int
    obtain ⟨w, e2, rw'⟩ := atI_repA ry' e
    exact ix_list value slice pins s σ H _ _ v u Q Iv rx ry ⟨b, ys, _, w, rfl, rfl, SqL.of hy, e2, q I H _ (Lt.refl R) rw'⟩ hs
  · split at hop <;> first | cases hop | skip
    rename_i e
    obtain ⟨b, ys, rfl, hy, ry'⟩ := vx.tup R.sub
    rw [hK] at hy
    obtain rfl := vy.int
    obtain ⟨w, e2, rw'⟩ := atI_repA ry' e
    exact ix_tup value slice pins s σ H _ _ v u Q Iv rx ry ⟨b, ys, _, w, rfl, rfl, hy, e2, q I H _ (Lt.refl R) rw'⟩ hs
  · split at hop <;> first | cases hop | skip
    rename_i hl
    split at hop <;> first | cases hop | skip
    rename_i c e
    obtain rfl := vx.str
    obtain rfl := vy.int
    exact ix_str value slice pins s σ H _ _ v u Q Iv rx ry ⟨_, _, c, rfl, rfl, by rw [st_len, line_eq]; exact hl, by rw [st_cps]; exact e, q I H _ (Lt.refl R) (.str [c])⟩ hs
  · split at hop <;> first | cases hop | skip
    rename_i n e
    obtain ⟨b, rfl, hy⟩ := vx.scr R.sub
    rw [hK] at hy
    obtain rfl := vy.int
    exact ix_list value slice pins s σ H _ _ v u Q Iv rx ry ⟨b, _, _, .int n, rfl, rfl, hy, by rw [atI_map, e]; rfl, q I H _ (Lt.refl R) (.int n)⟩ hs
  · split at hop <;> first | cases hop | skip
    rename_i k hk
    split at hop <;> first | cases hop | skip
    rename_i e
    obtain ⟨b, ys, rfl, hy, hl, ry'⟩ := vx.dct R.sub
    rcases valV_look k hl ry' with ⟨g1, g2⟩ | ⟨d', v', g1, g2, g3⟩
    · rw [g1] at e; cases e
    · rw [g1] at e; cases e
      have g := dK_get hy hk vy
      rw [g2] at g
      exact ix_dict hu value slice pins s σ H _ _ v u Q Iv rx ry ⟨b, v', rfl, g, q I H _ (Lt.refl R) g3⟩ hs
  · cases hop
theorem e_ix (hK : KOk G X) (hu : HuOk X) (ha : PE X a (tB G W ma)) (hb : PE X b (tB G W mb)) (hs : PlainIx b := by intro _ _; rfl) : PE X (.Subscript a b pos) (tD G W (op2 dIx ma mb)) :=
  (pe_ix (oIx hK hu) ha hb hs).imp fun _ _ _ h => op2_tOp (fun _ _ _ _ z => z) h

/-- a slice's end: none, or an int -/
def oNone : Ev → Out (Option Int) := fun _ => .ok none
def oSome (m : EM) : Ev → Out (Option Int) := fun ρ => (m ρ).bind fun x => match x with
  | .int i => .ok (some i)
  | _ => .st
def OkO (G : Wd) (W : WX) (F : Fr0) (X : List Addr) (I : Hp) (ρ : Ev) (σ : St) (H : Hp) (Q : Option Int → Hp → Prop) : Out (Option Int) → Prop
  | .ok o => ∀ I' H', Lt G F X ρ σ I H I' H' → Q o H'
  | .er e => ErP G W F X I ρ σ H e
  | .st => False
def tO (G : Wd) (W : WX) (m : Ev → Out (Option Int)) : TO := fun σ H Q => ∃ F X I ρ, Rel G F X I ρ σ H ∧ OkO G W F X I ρ σ H Q (m ρ)
theorem _root_.L2.PO.imp {e : Option Expr} {t t' : TO} (h : PO X e t) (i : ∀ σ H Q, t' σ H Q → t σ H Q) : PO X e t' := ⟨fun pins s σ H Q I q => h.run pins s σ H Q I (i _ _ _ q)⟩
theorem o_none : PO X none (tO G W oNone) := po_none.imp fun σ H Q ⟨F, Xs, I, ρ, R, q⟩ => q I H (Lt.refl R)
theorem o_some (h : PE X a (tB G W ma)) : PO X (some a) (tO G W (oSome ma)) :=
  (po_some h).imp fun σ H Q ⟨F, Xs, I, ρ, R, q⟩ => ⟨F, Xs, I, ρ, R, by
    unfold oSome at q
    cases z : ma ρ with
    | st => rw [z] at q; exact q.elim
    | er e => rw [z] at q; exact q
    | ok d =>
      rw [z] at q
      intro I1 H1 v l r
      cases d <;> first | exact q.elim | skip
      exact ⟨_, r.int, q I1 H1 l⟩⟩
def cutD {α : Type} (xs : List α) (lo hi : Option Int) : List α := (xs.drop (HT.sIx xs.length 0 lo)).take (HT.sIx xs.length xs.length hi - HT.sIx xs.length 0 lo)
def dSl : D → Option Int → Option Int → Out D
  | .lst l, lo, hi => .ok (.lst (cutD l lo hi))
  | .tup l, lo, hi => .ok (.tup (cutD l lo hi))
  | .str l, lo, hi => if l.length ≤ 16777216 then .ok (.str (cutD l lo hi)) else .st
  | _, _, _ => .st
def fSl : D → Option Int → Option Int → Out Mu
  | .lst l, lo, hi => .ok (.lst (cutD l lo hi))
  | _, _, _ => .st
def slM {α : Type} (f : D → Option Int → Option Int → Out α) (a : EM) (l h : Ev → Out (Option Int)) : Ev → Out α := fun ρ => (a ρ).bind fun x => (l ρ).bind fun y => (h ρ).bind fun z => noer (f x y z)
def SlB (G : Wd) (X : Cx) (f : D → Option Int → Option Int → Out D) : Prop :=
  SlR X (fun x lo hi H Q => ∃ F Xs I ρ σ dx d, Rel G F Xs I ρ σ H ∧ VB G I H x dx ∧ f dx lo hi = .ok d ∧ ∀ I' H' v, Lt G F Xs ρ σ I H I' H' → Rep G I' v d → Q v H')
def SlF (G : Wd) (X : Cx) (f : D → Option Int → Option Int → Out Mu) : Prop :=
  SlR X (fun x lo hi H Q => ∃ F Xs I ρ σ dx d, Rel G F Xs I ρ σ H ∧ VB G I H x dx ∧ f dx lo hi = .ok d ∧ ∀ I' H' p, LtF G F Xs ρ σ I H I' H' p → MR G I' H' p d → Q (.ref p) H')
theorem cutD_rep {I : Hp} {xs : List V} {l : List D} (r : RepA G I xs l) (lo hi : Option Int) : RepA G I (cutV xs lo hi) (cutD l lo hi) := by
  unfold cutV cutD
  rw [r.length]
  exact (r.drop _).take _
theorem cutS_st (l : List Nat) (lo hi : Option Int) : cutS (st l) lo hi = st (cutD l lo hi) := by
  unfold cutS cutD
  rw [st_cps, st_len]
  rfl
theorem oSl (hK : KOk G X) : SlB G X dSl := by
  intro pins s σ H x v vl vu lo hi sl Q Iv rx hs pl pu ⟨F, Xs, I, ρ, σ', dx, d, R, vx, hop, q⟩
  cases dx <;> simp only [dSl] at hop <;> first | (cases hop; done) | skip
  · split at hop <;> first | cases hop | skip
    rename_i hl
    obtain rfl := vx.str
    refine sl_str pins s σ H _ v vl vu lo hi sl Q Iv rx hs pl pu ⟨_, rfl, by rw [st_len, line_eq]; exact hl, ?_⟩
    rw [cutS_st]
    exact q I H _ (Lt.refl R) (.str _)
  · cases hop
    obtain ⟨b, ys, rfl, hy, ry'⟩ := vx.tup R.sub
    have hy' := hy
    rw [hK] at hy'
    refine sl_tupA pins s σ H _ v vl vu lo hi sl Q Iv rx hs pl pu ⟨b, ys, rfl, hy', fun hw => ?_, fun hw p hp => ?_⟩
    · refine q I H _ (Lt.refl R) ?_
      rename_i l
      have e : cutD l lo hi = l := by
        unfold cutD
        rw [← ry'.length, hw.1, hw.2, ry'.length]
        simp
      rw [e]
      rcases vx with vx | ⟨_, m, _, _, ed⟩
      · exact vx
      · cases m <;> cases ed
    · exact q (upd I p _) _ _ (R.ltAlloc hp) (.tup (SqT.of upd_same) ((cutD_rep ry' lo hi).mono (same_upd (R.inone hp))))
  · cases hop
    obtain ⟨b, ys, rfl, hy, ry'⟩ := vx.lst R.sub
    refine sl_list pins s σ H _ v vl vu lo hi sl Q Iv rx hs pl pu ⟨b, ys, rfl, SqL.of hy, fun p hp => ?_⟩
    exact q (upd I p _) _ _ (R.ltAlloc hp) (.lst upd_same ((cutD_rep ry' lo hi).mono (same_upd (R.inone hp))))
theorem oSlF : SlF G X fSl := by
  intro pins s σ H x v vl vu lo hi sl Q Iv rx hs pl pu ⟨F, Xs, I, ρ, σ', dx, d, R, vx, hop, q⟩
  cases dx <;> simp only [fSl] at hop <;> first | (cases hop; done) | skip
  cases hop
  obtain ⟨b, ys, rfl, hy, ry'⟩ := vx.lst R.sub
  refine sl_list pins s σ H _ v vl vu lo hi sl Q Iv rx hs pl pu ⟨b, ys, rfl, SqL.of hy, fun p hp => ?_⟩
  exact q I _ p (R.ltFresh hp) ⟨_, upd_same, cutD_rep ry' lo hi⟩
theorem sl_run {f : D → Option Int → Option Int → Out D} {ml mh : Ev → Out (Option Int)} {σ : St} {H : Hp} {Q : VK} (h : tD G W (slM f ma ml mh) σ H Q) :
    tSl (fun x lo hi H Q => ∃ F Xs I ρ σ dx d, Rel G F Xs I ρ σ H ∧ VB G I H x dx ∧ f dx lo hi = .ok d ∧ ∀ I' H' v, Lt G F Xs ρ σ I H I' H' → Rep G I' v d → Q v H') (tB G W ma) (tO G W ml) (tO G W mh) σ H Q := by
  obtain ⟨F, Xs, I, ρ, R, q⟩ := h
  refine ⟨F, Xs, I, ρ, R, ?_⟩
  rcases okD_bind q with ⟨dx, z1, q⟩ | ⟨e, z, q⟩
  · rw [z1]
    intro I1 H1 x l1 r1
    refine ⟨F, Xs, I1, ρ, l1.r, ?_⟩
    rcases okD_bind (OkD.later l1 q) with ⟨dy, z2, q⟩ | ⟨e, z, q⟩
    · rw [z2]
      intro I2 H2 l2
      refine ⟨F, Xs, I2, ρ, l2.r, ?_⟩
      rcases okD_bind (OkD.later l2 q) with ⟨dz, z3, q⟩ | ⟨e, z, q⟩
      · rw [z3]
        intro I3 H3 l3
        cases z4 : f dx dy dz with
        | er e => rw [z4] at q; exact q.elim
        | st => rw [z4] at q; exact q.elim
        | ok d =>
          rw [z4] at q
          exact ⟨F, Xs, I3, ρ, σ, dx, d, l3.r, r1.later (l2.trans l3).i (l2.trans l3).h, z4, fun I' H' v l r => q I' H' v (l3.trans l) r⟩
      · rw [z]; exact q
    · rw [z]; exact q
  · rw [z]; exact q
theorem sl_runF {f : D → Option Int → Option Int → Out Mu} {ml mh : Ev → Out (Option Int)} {σ : St} {H : Hp} {Q : VK} (h : tF G W (slM f ma ml mh) σ H Q) :
    tSl (fun x lo hi H Q => ∃ F Xs I ρ σ dx d, Rel G F Xs I ρ σ H ∧ VB G I H x dx ∧ f dx lo hi = .ok d ∧ ∀ I' H' p, LtF G F Xs ρ σ I H I' H' p → MR G I' H' p d → Q (.ref p) H') (tB G W ma) (tO G W ml) (tO G W mh) σ H Q := by
  obtain ⟨F, Xs, I, ρ, R, q⟩ := h
  refine ⟨F, Xs, I, ρ, R, ?_⟩
  unfold slM at q
  cases z1 : ma ρ with
  | st => rw [z1] at q; exact q.elim
  | er e => rw [z1] at q; exact q
  | ok dx =>
    rw [z1] at q
    intro I1 H1 x l1 r1
    refine ⟨F, Xs, I1, ρ, l1.r, ?_⟩
    simp only [Out.bind] at q
    cases z2 : ml ρ with
    | st => rw [z2] at q; exact q.elim
    | er e => rw [z2] at q; exact ErP.later l1 q
    | ok dy =>
      rw [z2] at q
      intro I2 H2 l2
      refine ⟨F, Xs, I2, ρ, l2.r, ?_⟩
      simp only [] at q
      cases z3 : mh ρ with
      | st => rw [z3] at q; exact q.elim
      | er e => rw [z3] at q; exact ErP.later (l1.trans l2) q
      | ok dz =>
        rw [z3] at q
        intro I3 H3 l3
        simp only [] at q
        cases z4 : f dx dy dz with
        | er e => rw [z4] at q; exact q.elim
        | st => rw [z4] at q; exact q.elim
        | ok d =>
          rw [z4] at q
          exact ⟨F, Xs, I3, ρ, σ, dx, d, l3.r, r1.later (l2.trans l3).i (l2.trans l3).h, z4, fun I' H' p l r => q I' H' p (((l1.trans l2).trans l3).transF l) r⟩
theorem e_sl {lo hi : Option Expr} {p2 : Pos} {ml mh : Ev → Out (Option Int)} {f : D → Option Int → Option Int → Out D} (ho : SlB G X f) (ha : PE X a (tB G W ma)) (hl : PO X lo (tO G W ml)) (hh : PO X hi (tO G W mh)) : PE X (.Subscript a (.Slice lo hi none p2) pos) (tD G W (slM f ma ml mh)) :=
  (pe_slice ho ha hl hh).imp fun _ _ _ h => sl_run h
theorem f_sl {lo hi : Option Expr} {p2 : Pos} {ml mh : Ev → Out (Option Int)} {f : D → Option Int → Option Int → Out Mu} (ho : SlF G X f) (ha : PE X a (tB G W ma)) (hl : PO X lo (tO G W ml)) (hh : PO X hi (tO G W mh)) : PE X (.Subscript a (.Slice lo hi none p2) pos) (tF G W (slM f ma ml mh)) :=
  (pe_slice ho ha hl hh).imp fun _ _ _ h => sl_runF h
end

/-! ### built-in functions -/
def CallB (G : Wd) (X : Cx) (f : Value) (op : List D → Out D) : Prop :=
  CallR X f (fun xs H Q => ∃ F Xs I ρ σ ds d, Rel G F Xs I ρ σ H ∧ VBA G I H xs ds ∧ op ds = .ok d ∧ ∀ I' H' v, Lt G F Xs ρ σ I H I' H' → Rep G I' v d → Q v H')
def CallF (G : Wd) (X : Cx) (f : Value) (op : List D → Out Mu) : Prop :=
  CallR X f (fun xs H Q => ∃ F Xs I ρ σ ds d, Rel G F Xs I ρ σ H ∧ VBA G I H xs ds ∧ op ds = .ok d ∧ ∀ I' H' p, LtF G F Xs ρ σ I H I' H' p → MR G I' H' p d → Q (.ref p) H')
def callM {α : Type} (op : List D → Out α) (ms : Ev → Out (List D)) : Ev → Out α := fun ρ => (ms ρ).bind fun xs => noer (op xs)
section
variable {X : Cx} {G : Wd} {W : WX} {pos p : Pos} {x : Str} {e : Expr} {es : List Expr} {ms : Ev → Out (List D)} {op : List D → Out D} {opF : List D → Out Mu}
theorem call_run {σ : St} {H : Hp} {Q : VK} (h : tD G W (callM op ms) σ H Q) :
    tCB (fun xs H Q => ∃ F Xs I ρ σ ds d, Rel G F Xs I ρ σ H ∧ VBA G I H xs ds ∧ op ds = .ok d ∧ ∀ I' H' v, Lt G F Xs ρ σ I H I' H' → Rep G I' v d → Q v H') (tAB G W ms) σ H Q := by
  obtain ⟨F, Xs, I, ρ, R, q⟩ := h
  refine ⟨F, Xs, I, ρ, R, ?_⟩
  rcases okD_bind q with ⟨ds, z1, q⟩ | ⟨e, z, q⟩
  · rw [z1]
    intro I1 H1 x l1 r1
    cases z4 : op ds with
    | er e => rw [z4] at q; exact q.elim
    | st => rw [z4] at q; exact q.elim
    | ok d =>
      rw [z4] at q
      exact ⟨F, Xs, I1, ρ, σ, ds, d, l1.r, r1, z4, fun I' H' v l r => q I' H' v (l1.trans l) r⟩
  · rw [z]; exact q
theorem call_runF {σ : St} {H : Hp} {Q : VK} (h : tF G W (callM opF ms) σ H Q) :
    tCB (fun xs H Q => ∃ F Xs I ρ σ ds d, Rel G F Xs I ρ σ H ∧ VBA G I H xs ds ∧ opF ds = .ok d ∧ ∀ I' H' p, LtF G F Xs ρ σ I H I' H' p → MR G I' H' p d → Q (.ref p) H') (tAB G W ms) σ H Q := by
  obtain ⟨F, Xs, I, ρ, R, q⟩ := h
  refine ⟨F, Xs, I, ρ, R, ?_⟩
  unfold callM at q
  cases z1 : ms ρ with
  | st => rw [z1] at q; exact q.elim
  | er e => rw [z1] at q; exact q
  | ok ds =>
    rw [z1] at q
    intro I1 H1 x l1 r1
    simp only [Out.bind] at q
    cases z4 : opF ds with
    | er e => rw [z4] at q; exact q.elim
    | st => rw [z4] at q; exact q.elim
    | ok d =>
      rw [z4] at q
      exact ⟨F, Xs, I1, ρ, σ, ds, d, l1.r, r1, z4, fun I' H' p l r => q I' H' p (l1.transF l) r⟩
theorem e_callB {id : String} (hc : CallB G X (.builtin id) op) (hm : X.mg x = none) (hv : bootBuiltins x = some (.builtin id)) (ha : PA X (e :: es) (tAB G W ms)) (hg : Gl X x := by rfl) (hn : x ≠ "__name__" := by decide) (hdb : (x == ("__debug__" : Str)) = false := by decide)
    (he : starEach (e :: es) X.env = (false, eval e X.env) :: starEach es X.env := by rfl) (hpl : (backTo pos (starEach es X.env)).any (·.1) = false := by rfl) : PE X (.Call (.Name x p) (e :: es) [] pos) (tD G W (callM op ms)) :=
  (pe_callB hc hg hm hv ha hn hdb he hpl).imp fun _ _ _ h => call_run h
theorem e_callTy {T : String} (hc : CallB G X (.type T) op) (hm : X.mg x = none) (hv : bootBuiltins x = some (.type T)) (ha : PA X (e :: es) (tAB G W ms)) (hg : Gl X x := by rfl) (hn : x ≠ "__name__" := by decide) (hdb : (x == ("__debug__" : Str)) = false := by decide)
    (he : starEach (e :: es) X.env = (false, eval e X.env) :: starEach es X.env := by rfl) (hpl : (backTo pos (starEach es X.env)).any (·.1) = false := by rfl) : PE X (.Call (.Name x p) (e :: es) [] pos) (tD G W (callM op ms)) :=
  (pe_callTy hc hg hm hv ha hn hdb he hpl).imp fun _ _ _ h => call_run h
theorem f_callB {id : String} (hc : CallF G X (.builtin id) opF) (hm : X.mg x = none) (hv : bootBuiltins x = some (.builtin id)) (ha : PA X (e :: es) (tAB G W ms)) (hg : Gl X x := by rfl) (hn : x ≠ "__name__" := by decide) (hdb : (x == ("__debug__" : Str)) = false := by decide)
    (he : starEach (e :: es) X.env = (false, eval e X.env) :: starEach es X.env := by rfl) (hpl : (backTo pos (starEach es X.env)).any (·.1) = false := by rfl) : PE X (.Call (.Name x p) (e :: es) [] pos) (tF G W (callM opF ms)) :=
  (pe_callB hc hg hm hv ha hn hdb he hpl).imp fun _ _ _ h => call_runF h
theorem f_callTy {T : String} (hc : CallF G X (.type T) opF) (hm : X.mg x = none) (hv : bootBuiltins x = some (.type T)) (ha : PA X (e :: es) (tAB G W ms)) (hg : Gl X x := by rfl) (hn : x ≠ "__name__" := by decide) (hdb : (x == ("__debug__" : Str)) = false := by decide)
    (he : starEach (e :: es) X.env = (false, eval e X.env) :: starEach es X.env := by rfl) (hpl : (backTo pos (starEach es X.env)).any (·.1) = false := by rfl) : PE X (.Call (.Name x p) (e :: es) [] pos) (tF G W (callM opF ms)) :=
  (pe_callTy hc hg hm hv ha hn hdb he hpl).imp fun _ _ _ h => call_runF h

def bLen : List D → Out D
  | [.lst l] => .ok (.int l.length)
  | [.tup l] => .ok (.int l.length)
  | [.str l] => if l.length ≤ 16777216 then .ok (.int l.length) else .st
  | [.scr ns] => .ok (.int ns.length)
  | _ => .st
theorem cLen (hK : KOk G X) : CallB G X (.builtin "len") bLen := by
  intro pins s σ H xs us Q Iv rs ⟨F, Xs, I, ρ, σ', ds, d, R, vs, hop, q⟩
  unfold bLen at hop
  split at hop
  · cases hop
    cases vs with
    | cons v t =>
      cases t
      obtain ⟨b, ys, rfl, hy, ry'⟩ := v.lst R.sub
      refine call_len_seq pins s σ H _ us Q Iv rs ⟨b, ys, rfl, .inl (SqL.of hy), ?_⟩
      rw [ry'.length]
      exact q I H _ (Lt.refl R) (.int _)
  · cases hop
    cases vs with
    | cons v t =>
      cases t
      obtain ⟨b, ys, rfl, hy, ry'⟩ := v.tup R.sub
      rw [hK] at hy
      refine call_len_seq pins s σ H _ us Q Iv rs ⟨b, ys, rfl, .inr hy, ?_⟩
      rw [ry'.length]
      exact q I H _ (Lt.refl R) (.int _)
  · split at hop <;> first | cases hop | skip
    rename_i hl
    cases vs with
    | cons v t =>
      cases t
      obtain rfl := v.str
      refine call_len_str pins s σ H _ us Q Iv rs ⟨_, rfl, by rw [st_len, line_eq]; exact hl, ?_⟩
      rw [st_len]
      exact q I H _ (Lt.refl R) (.int _)
  · cases hop
    cases vs with
    | cons v t =>
      cases t
      obtain ⟨b, rfl, hy⟩ := v.scr R.sub
      rw [hK] at hy
      refine call_len_seq pins s σ H _ us Q Iv rs ⟨b, _, rfl, .inl hy, ?_⟩
      rw [List.length_map]
      exact q I H _ (Lt.refl R) (.int _)
  · cases hop
def bMin : List D → Out D
  | [.int i, .int j] => .ok (.int (if j < i then j else i))
  | _ => .st
def bMax : List D → Out D
  | [.int i, .int j] => .ok (.int (if j > i then j else i))
  | _ => .st
def bInt : List D → Out D
  | [.int i] => .ok (.int i)
  | [.bl b] => .ok (.int (if b then 1 else 0))
  | _ => .st
theorem cMin (hc : X.calm = true) : CallB G X (.builtin "min") bMin := by
  intro pins s σ H xs us Q Iv rs ⟨F, Xs, I, ρ, σ', ds, d, R, vs, hop, q⟩
  unfold bMin at hop
  split at hop <;> first | cases hop | skip
  cases vs with
  | cons v t =>
    cases t with
    | cons v2 t =>
      cases t
      obtain rfl := v.int
      obtain rfl := v2.int
      exact call_min2 hc pins s σ H _ us Q Iv rs ⟨_, _, rfl, q I H _ (Lt.refl R) (.int _)⟩
theorem cMax (hc : X.calm = true) : CallB G X (.builtin "max") bMax := by
  intro pins s σ H xs us Q Iv rs ⟨F, Xs, I, ρ, σ', ds, d, R, vs, hop, q⟩
  unfold bMax at hop
  split at hop <;> first | cases hop | skip
  cases vs with
  | cons v t =>
    cases t with
    | cons v2 t =>
      cases t
      obtain rfl := v.int
      obtain rfl := v2.int
      exact call_max2 hc pins s σ H _ us Q Iv rs ⟨_, _, rfl, q I H _ (Lt.refl R) (.int _)⟩
theorem cInt : CallB G X (.type "int") bInt := by
  intro pins s σ H xs us Q Iv rs ⟨F, Xs, I, ρ, σ', ds, d, R, vs, hop, q⟩
  unfold bInt at hop
  split at hop <;> first | cases hop | skip
  · cases vs with
    | cons v t =>
      cases t
      obtain rfl := v.int
      exact call_int1 pins s σ H _ us Q Iv rs (.inl ⟨_, rfl, q I H _ (Lt.refl R) (.int _)⟩)
  · cases vs with
    | cons v t =>
      cases t
      obtain rfl := v.bl
      exact call_int1 pins s σ H _ us Q Iv rs (.inr ⟨_, rfl, q I H _ (Lt.refl R) (.int _)⟩)
end
end NS

set_option Elab.async false
set_option linter.all false
set_option maxRecDepth 100000
set_option maxHeartbeats 4000000
namespace NS
open PySem PySem.Spec L2
open PyProof.Rows hiding St

/-! ### behind a call -/
structure Aft (I H I' H' : Hp) : Prop where
  i : Same I I'
  h : Same H H'
  ih : Same I' H'
  inew : ∀ a o, I' a = some o → I a = some o ∨ H a = none
section
variable {G : Wd} {F : Fr0} {X : List Addr} {I I' H H' : Hp} {ρ : Ev} {σ : St}
theorem Rel.after (R : Rel G F X I ρ σ H) (h : Aft I H I' H') : Lt G F X ρ σ I H I' H' := by
  obtain ⟨fps, c1, c2, c3⟩ := R.cells
  have th : ∀ a ∈ X ++ fps.flatten, H a ≠ none := fun a ha => by
    rcases List.mem_append.mp ha with ha | ha
    · exact (R.xnew a ha).2
    · exact c1.there a ha
  have eqH : ∀ a, H a ≠ none → H' a = H a := fun a ha => by
    obtain ⟨o, e⟩ := Option.ne_none_iff_exists'.mp ha
    rw [h.h a o e, e]
  refine ⟨h.i, h.h, h.inew, h.ih, fun a o e ha => h.h _ _ (R.keep a o e ha), fun a e => R.dom a (h.h.free e), fun a o e => ?_, fun a o e => h.i _ _ (R.i0 a o e), fun a ha => ?_, R.pins, fps, ?_, c2, fun a ha => ?_⟩
  · rcases h.inew a o e with q | q
    · exact R.inew a o q
    · exact .inr (R.dom a q)
  · obtain ⟨h1, h2⟩ := R.xnew a ha
    exact ⟨h1, by rw [eqH a h2]; exact h2⟩
  · exact c1.frame h.i fun a ha => eqH a (c1.there a ha)
  · cases q : I' a with
    | none => rfl
    | some o =>
      rcases h.inew a o q with z | z
      · rw [c3 a ha] at z; cases z
      · exact (th a ha z).elim

theorem Lt.aft (l : Lt G F X ρ σ I H I' H') : Aft I H I' H' := ⟨l.i, l.h, l.r.sub, l.new⟩

end
/-! ### what a def of data promises -/
inductive RV where
  | d (x : D) | o (x : Ob)
/-- from data to data -/
def SpP (G : Wd) (f : List D → Out D) : Sp := fun vs H Q E => ∃ I ds, Same I H ∧ RepA G I vs ds ∧ match f ds with
  | .ok d => ∀ I' H' v, Aft I H I' H' → Rep G I' v d → Q v H'
  | .er e => ∀ I' H' cls dx, Aft I H I' H' → ExR G I' H' e cls dx → E cls dx H'
  | .st => False
/-- from data to a new list or dict -/
def SpM (G : Wd) (f : List D → Out Mu) : Sp := fun vs H Q E => ∃ I ds, Same I H ∧ RepA G I vs ds ∧ match f ds with
  | .ok m => ∀ I' H' a, Aft I H I' H' → H a = none → I' a = none → MR G I' H' a m → Q (.ref a) H'
  | .er e => ∀ I' H' cls dx, Aft I H I' H' → ExR G I' H' e cls dx → E cls dx H'
  | .st => False
def callP (f : List D → Out D) (ms : Ev → Out (List D)) : EM := fun ρ => (ms ρ).bind f
def callF (f : List D → Out Mu) (ms : Ev → Out (List D)) : Ev → Out Mu := fun ρ => (ms ρ).bind f
section
variable {X : Cx} {G : Wd} {W : WX} {k : Nat} {f : Addr} {fd : FuncData} {ps : List Str} {x : Str} {p pos : Pos} {e : Expr} {es : List Expr} {ms : Ev → Out (List D)} {sem : List D → Out D} {semF : List D → Out Mu}
theorem pe_callS0 {CX : CXT} {sp : Sp} {E : St → XK} (F : FnOk X.prog X.w X.K X.mg X.base CX k f fd ps sp) (hr : Room k X.A) (hg : Gl X x) (hm : X.mg x = some (.ref f)) (hk : PySem.W.keepIn X.K (.ref f) = true) (hb : Binds X.K fd ps []) (hx : ∀ σ, PassesAt CX X σ (E σ))
    (hdb : (x == ("__debug__" : Str)) = false := by decide) : PE X (.Call (.Name x p) [] [] pos) (tCallS sp E tNil) := by
  refine ⟨fun pins s σ H Q I h => ?_⟩
  refine wpAny_Call_Name_kw (ld_glob I hg hm ?_ hdb)
  exact PySem.W.callWith_K0 I.kIn hk (run_fnS (us := []) F hr hb (hx σ) I .nil h)
theorem callP_run {ta : TA} (ha : ∀ σ H Q, tA G W ms σ H Q → ta σ H Q) {σ : St} {H : Hp} {Q : VK} (h : tD G W (callP sem ms) σ H Q) : tCallS (SpP G sem) (WE W) ta σ H Q := by
  refine ha σ H _ ?_
  obtain ⟨F, Xs, I, ρ, R, q⟩ := h
  refine ⟨F, Xs, I, ρ, R, ?_⟩
  rcases okD_bind q with ⟨ds, z1, q⟩ | ⟨e, z, q⟩
  · rw [z1]
    intro I1 H1 vs l1 r1
    refine ⟨I1, ds, l1.r.sub, r1, ?_⟩
    cases z : sem ds with
    | ok d => rw [z] at q; exact fun I' H' v a r => q I' H' v (l1.trans (l1.r.after a)) r
    | er e => rw [z] at q; exact fun I' H' cls dx a r => q I' H' cls dx (l1.trans (l1.r.after a)) r
    | st => rw [z] at q; exact q.elim
  · rw [z]; exact q
theorem Rel.take {F : Fr0} {Xs : List Addr} {I H I' H' : Hp} {ρ : Ev} {σ : St} {a : Addr} (R : Rel G F Xs I ρ σ H) (R' : Rel G F Xs I' ρ σ H') (hs : Same H H') (ha : H a = none) (hI : I' a = none) (hH : H' a ≠ none) : Rel G F (a :: Xs) I' ρ σ H' := by
  obtain ⟨fps, c1, c2, c3⟩ := R.cells
  have eqH : ∀ a, H a ≠ none → H' a = H a := fun a ha => by
    obtain ⟨o, e⟩ := Option.ne_none_iff_exists'.mp ha
    rw [hs a o e, e]
  -- the cells as they stood ahead of the call stand still
  obtain ⟨fps', d1, d2, d3⟩ := R'.cells
  have same : ∀ {ρ : Ev} {σ : St} {fps fps' : List (List Addr)}, CellsR G F I H ρ σ fps → CellsR G F I' H' ρ σ fps' → fps = fps' := by
    intro ρ σ fps fps' a b
    have fl : ∀ {vs : List (Str × V)} {fs : List (Str × FV)} {p q : List (List Addr)}, FldsR G I H vs fs p → FldsR G I' H' vs fs q → p = q := by
      intro vs fs p q a
      induction a generalizing q with
      | nil => intro b; cases b; rfl
      | cons r t ih =>
        rename_i n v vs f fs fp fps
        intro b
        cases b with
        | cons r2 t2 =>
          rw [ih t2]
          cases f with
          | d x => rw [r.2, r2.2]
          | m x =>
            obtain ⟨a1, e1, _, g1⟩ := r
            obtain ⟨a2, e2, _, g2⟩ := r2
            rw [e1] at e2
            cases e2
            rw [g1, g2]
    induction a generalizing fps' with
    | nil => cases b; rfl
    | cons r t ih =>
      rename_i c cs v vs fp fps
      cases b with
      | cons r2 t2 =>
        rw [ih t2]
        cases c with
        | un => rw [show fp = [] from r, show _ = [] from r2]
        | d x =>
          obtain ⟨_, _, _, g1⟩ := r
          obtain ⟨_, _, _, g2⟩ := r2
          rw [g1, g2]
        | own p o =>
          obtain ⟨u, e1, g1, _⟩ := r
          obtain ⟨u2, e2, g2, _⟩ := r2
          rw [e1] at e2
          cases e2
          cases o with
          | m x =>
            obtain ⟨a1, f1, g1, _⟩ := g1
            obtain ⟨a2, f2, g2, _⟩ := g2
            rw [f1] at f2
            cases f2
            rw [g1, g2]
          | ins c fs =>
            obtain ⟨a1, dx1, vs1, p1, f1, h1, _, k1, g1⟩ := g1
            obtain ⟨a2, dx2, vs2, p2, f2, h2, _, k2, g2⟩ := g2
            rw [f1] at f2
            cases f2
            rw [hs _ _ h1] at h2
            cases h2
            rw [g1, g2, fl k1 k2]
  have e := same c1 d1
  subst e
  have hin : a ∉ Xs ++ fps.flatten := fun hm => by
    rcases List.mem_append.mp hm with hm | hm
    · exact (R.xnew a hm).2 ha
    · exact c1.there a hm ha
  refine ⟨R'.sub, R'.keep, R'.dom, R'.inew, R'.i0, fun b hb => ?_, R'.pins, fps, d1, List.nodup_cons.mpr ⟨hin, d2⟩, fun b hb => ?_⟩
  · rcases List.mem_cons.mp hb with rfl | hb
    · exact ⟨R.dom _ ha, hH⟩
    · exact R'.xnew b hb
  · rcases List.mem_cons.mp hb with rfl | hb
    · exact hI
    · exact d3 b hb
theorem callF_run {ta : TA} (ha : ∀ σ H Q, tA G W ms σ H Q → ta σ H Q) {σ : St} {H : Hp} {Q : VK} (h : tF G W (callF semF ms) σ H Q) : tCallS (SpM G semF) (WE W) ta σ H Q := by
  refine ha σ H _ ?_
  obtain ⟨F, Xs, I, ρ, R, q⟩ := h
  refine ⟨F, Xs, I, ρ, R, ?_⟩
  unfold callF at q
  cases z1 : ms ρ with
  | st => rw [z1] at q; exact q.elim
  | er e => rw [z1] at q; exact q
  | ok ds =>
    rw [z1] at q
    simp only [Out.bind] at q
    intro I1 H1 vs l1 r1
    refine ⟨I1, ds, l1.r.sub, r1, ?_⟩
    cases z : semF ds with
    | ok d =>
      rw [z] at q
      intro I' H' a aft hn hi r
      have l2 := l1.r.after aft
      exact q I' H' a (l1.transF ⟨l2.i, l2.h, l2.new, hn, l1.r.take l2.r aft.h hn hi r.there⟩) r
    | er e => rw [z] at q; exact fun I' H' cls dx a r => q I' H' cls dx (l1.trans (l1.r.after a)) r
    | st => rw [z] at q; exact q.elim
theorem e_call (F : FnOk X.prog X.w X.K X.mg X.base (L2.CX X.prog X.w) k f fd ps (SpP G sem)) (hr : Room k X.A) (hm : X.mg x = some (.ref f)) (hk : PySem.W.keepIn X.K (.ref f) = true) (hb : Binds X.K fd ps []) (tk : Takes X W)
    (ha : PA X (e :: es) (tA G W ms)) (hg : Gl X x := by rfl) (hdb : (x == ("__debug__" : Str)) = false := by decide) (he : starEach (e :: es) X.env = (false, eval e X.env) :: starEach es X.env := by rfl) (hpl : (backTo pos (starEach es X.env)).any (·.1) = false := by rfl) :
    PE X (.Call (.Name x p) (e :: es) [] pos) (tD G W (callP sem ms)) :=
  (pe_callS F hr hg hm hk hb (passAt tk) ha hdb he hpl).imp fun _ _ _ h => callP_run (fun _ _ _ z => z) h
theorem e_call0 (F : FnOk X.prog X.w X.K X.mg X.base (L2.CX X.prog X.w) k f fd ps (SpP G sem)) (hr : Room k X.A) (hm : X.mg x = some (.ref f)) (hk : PySem.W.keepIn X.K (.ref f) = true) (hb : Binds X.K fd ps []) (tk : Takes X W)
    (hg : Gl X x := by rfl) (hdb : (x == ("__debug__" : Str)) = false := by decide) : PE X (.Call (.Name x p) [] [] pos) (tD G W (callP sem nilM)) :=
  (pe_callS0 F hr hg hm hk hb (passAt tk) hdb).imp fun _ _ _ h => callP_run (fun σ H Q ⟨F, Xs, I, ρ, R, q⟩ => q I H [] (Lt.refl R) .nil) h
theorem f_call (F : FnOk X.prog X.w X.K X.mg X.base (L2.CX X.prog X.w) k f fd ps (SpM G semF)) (hr : Room k X.A) (hm : X.mg x = some (.ref f)) (hk : PySem.W.keepIn X.K (.ref f) = true) (hb : Binds X.K fd ps []) (tk : Takes X W)
    (ha : PA X (e :: es) (tA G W ms)) (hg : Gl X x := by rfl) (hdb : (x == ("__debug__" : Str)) = false := by decide) (he : starEach (e :: es) X.env = (false, eval e X.env) :: starEach es X.env := by rfl) (hpl : (backTo pos (starEach es X.env)).any (·.1) = false := by rfl) :
    PE X (.Call (.Name x p) (e :: es) [] pos) (tF G W (callF semF ms)) :=
  (pe_callS F hr hg hm hk hb (passAt tk) ha hdb he hpl).imp fun _ _ _ h => callF_run (fun _ _ _ z => z) h
end

/-! ### statements -/
inductive SOut where
  | nx (ρ : Ev) | rt (r : RV) (ρ : Ev) | bk (ρ : Ev) | ct (ρ : Ev) | er (e : Ex) (ρ : Ev) | st
abbrev SM := Ev → SOut
def OkS (G : Wd) (W : WX) (F : Fr0) (I : Hp) (D : Ends) : SOut → Prop
  | .nx ρ' => ∀ I' σ' H', Same I I' → Rel G F [] I' ρ' σ' H' → D.nx σ' H'
  | .rt (.d x) ρ' => ∀ I' σ' H' v, Same I I' → Rel G F [] I' ρ' σ' H' → Rep G I' v x → D.rt v H'
  | .rt (.o x) ρ' => ∀ I' σ' H' v fp, Same I I' → Rel G F fp I' ρ' σ' H' → OR G I' H' v x fp → D.rt v H'
  | .bk ρ' => ∀ I' σ' H', Same I I' → Rel G F [] I' ρ' σ' H' → D.bk σ' H'
  | .ct ρ' => ∀ I' σ' H', Same I I' → Rel G F [] I' ρ' σ' H' → D.ct σ' H'
  | .er e ρ' => ∀ I' σ' H' cls dx, Same I I' → Rel G F [] I' ρ' σ' H' → ExR G I' H' e cls dx → W cls dx σ' H'
  | .st => False
def tS (G : Wd) (W : WX) (m : SM) : TS := fun D σ H => ∃ F I ρ, Rel G F [] I ρ σ H ∧ OkS G W F I D (m ρ)
theorem OkS.later {G : Wd} {W : WX} {F : Fr0} {I I1 : Hp} {D : Ends} {o : SOut} (i : Same I I1) (h : OkS G W F I D o) : OkS G W F I1 D o := by
  cases o with
  | nx ρ => exact fun I' σ' H' s => h I' σ' H' (i.trans s)
  | rt r ρ =>
    cases r with
    | d x => exact fun I' σ' H' v s => h I' σ' H' v (i.trans s)
    | o x => exact fun I' σ' H' v fp s => h I' σ' H' v fp (i.trans s)
  | bk ρ => exact fun I' σ' H' s => h I' σ' H' (i.trans s)
  | ct ρ => exact fun I' σ' H' s => h I' σ' H' (i.trans s)
  | er e ρ => exact fun I' σ' H' cls dx s => h I' σ' H' cls dx (i.trans s)
  | st => exact h
theorem _root_.L2.PS.imp {X : Cx} {st : Stmt} {t t' : TS} (h : PS X st t) (i : ∀ D σ H, t' D σ H → t D σ H) : PS X st t' := ⟨fun pins s σ H D I q => h.run pins s σ H D I (i _ _ _ q)⟩
theorem _root_.L2.PSs.imp {X : Cx} {st : List Stmt} {t t' : TS} (h : PSs X st t) (i : ∀ D σ H, t' D σ H → t D σ H) : PSs X st t' := ⟨fun pins s σ H D I q => h.run pins s σ H D I (i _ _ _ q)⟩
def seqS (a b : SM) : SM := fun ρ => match a ρ with
  | .nx ρ' => b ρ'
  | o => o
def nopS : SM := fun ρ => .nx ρ
section
variable {X : Cx} {G : Wd} {W : WX} {stm : Stmt} {rest : List Stmt} {a b : SM} {e : Expr} {m : EM} {mF : Ev → Out Mu} {pos : Pos}
theorem ss_nil : PSs X [] (tS G W nopS) := pss_nil.imp fun D σ H ⟨F, I, ρ, R, q⟩ => q I σ H (Same.refl I) R
theorem ss_one (h : PS X stm (tS G W a)) : PSs X [stm] (tS G W a) := pss_one h
theorem ss_cons (h : PS X stm (tS G W a)) (hr : PSs X rest (tS G W b)) : PSs X (stm :: rest) (tS G W (seqS a b)) :=
  (pss_cons h hr).imp fun D σ H ⟨F, I, ρ, R, q⟩ => ⟨F, I, ρ, R, by
    unfold seqS at q
    cases z : a ρ with
    | nx ρ' => rw [z] at q; exact fun I' σ' H' s R' => ⟨F, I', ρ', R', OkS.later s q⟩
    | rt r ρ' => rw [z] at q; cases r <;> exact q
    | bk ρ' => rw [z] at q; exact q
    | ct ρ' => rw [z] at q; exact q
    | er e ρ' => rw [z] at q; exact q
    | st => rw [z] at q; exact q⟩
theorem s_pass : PS X (.Pass pos) (tS G W nopS) := ps_pass.imp fun D σ H ⟨F, I, ρ, R, q⟩ => q I σ H (Same.refl I) R
def bkS : SM := fun ρ => .bk ρ
def ctS : SM := fun ρ => .ct ρ
theorem s_break : PS X (.Break pos) (tS G W bkS) := ps_break.imp fun D σ H ⟨F, I, ρ, R, q⟩ => q I σ H (Same.refl I) R
theorem s_continue : PS X (.Continue pos) (tS G W ctS) := ps_continue.imp fun D σ H ⟨F, I, ρ, R, q⟩ => q I σ H (Same.refl I) R
/-- a slot that may be given another value -/
def free (ρ : Ev) (i : Nat) : Bool := match gt ρ i with
  | .own true _ => false
  | _ => true
theorem gt_of : ∀ {ρ : Ev} {i : Nat} {c : Ce}, ρ[i]? = some c → gt ρ i = c
  | [], _, _, h => by simp at h
  | c :: _, 0, _, h => by simp at h; simp [h]
  | _ :: cs, i + 1, c, h => by simpa using gt_of (ρ := cs) (i := i) (by simpa using h)
theorem sub_flat_set : ∀ (fps : List (List Addr)) (i : Nat), (fps.set i []).flatten.Sublist fps.flatten
  | [], _ => .slnil
  | p :: ps, 0 => by simp
  | p :: ps, i + 1 => by
    simp only [List.set_cons_succ, List.flatten_cons]
    exact (List.Sublist.refl p).append (sub_flat_set ps i)
theorem nodup_flat_set {fp X : List Addr} : ∀ (fps : List (List Addr)) (i : Nat), ((fp ++ X) ++ fps.flatten).Nodup → (X ++ (fps.set i fp).flatten).Nodup ∧ ∀ a ∈ X ++ (fps.set i fp).flatten, a ∈ (fp ++ X) ++ fps.flatten := by
  intro fps i h
  have key : ∀ (fps : List (List Addr)) (i : Nat), (fp ++ fps.flatten).Nodup → ((fps.set i fp).flatten).Nodup ∧ ∀ a ∈ (fps.set i fp).flatten, a ∈ fp ++ fps.flatten := by
    intro fps
    induction fps with
    | nil => intro i h; simp
    | cons p ps ih =>
      intro i h
      cases i with
      | zero =>
        simp only [List.set_cons_zero, List.flatten_cons] at h ⊢
        rw [List.nodup_append] at h ⊢
        obtain ⟨h1, h2, h3⟩ := h
        rw [List.nodup_append] at h2
        refine ⟨⟨h1, h2.2.1, fun a ha b hb => h3 a ha b (List.mem_append_right _ hb)⟩, fun a ha => ?_⟩
        rcases List.mem_append.mp ha with ha | ha
        · exact List.mem_append_left _ ha
        · exact List.mem_append_right _ (List.mem_append_right _ ha)
      | succ i =>
        simp only [List.set_cons_succ, List.flatten_cons] at h ⊢
        rw [List.nodup_append] at h
        obtain ⟨h1, h2, h3⟩ := h
        rw [List.nodup_append] at h2
        obtain ⟨h4, h5, h6⟩ := h2
        obtain ⟨g1, g2⟩ := ih i (List.nodup_append.mpr ⟨h1, h5, fun a ha b hb => h3 a ha b (List.mem_append_right _ hb)⟩)
        refine ⟨List.nodup_append.mpr ⟨h4, g1, fun a ha b hb => ?_⟩, fun a ha => ?_⟩
        · rcases List.mem_append.mp (g2 b hb) with hb | hb
          · exact fun e => h3 b hb a (List.mem_append_left _ ha) e.symm
          · exact h6 a ha b hb
        · rcases List.mem_append.mp ha with ha | ha
          · exact List.mem_append_right _ (List.mem_append_left _ ha)
          · rcases List.mem_append.mp (g2 a ha) with ha | ha
            · exact List.mem_append_left _ ha
            · exact List.mem_append_right _ (List.mem_append_right _ ha)
  rw [List.append_assoc] at h
  rw [List.nodup_append] at h
  obtain ⟨h1, h2, h3⟩ := h
  rw [List.nodup_append] at h2
  obtain ⟨h4, h5, h6⟩ := h2
  obtain ⟨g1, g2⟩ := key fps i (List.nodup_append.mpr ⟨h1, h5, fun a ha b hb => h3 a ha b (List.mem_append_right _ hb)⟩)
  refine ⟨List.nodup_append.mpr ⟨h4, g1, fun a ha b hb => ?_⟩, fun a ha => ?_⟩
  · rcases List.mem_append.mp (g2 b hb) with hb | hb
    · exact fun e => h3 b hb a (List.mem_append_left _ ha) e.symm
    · exact h6 a ha b hb
  · rcases List.mem_append.mp ha with ha | ha
    · exact List.mem_append_left _ (List.mem_append_right _ ha)
    · rcases List.mem_append.mp (g2 a ha) with ha | ha
      · exact List.mem_append_left _ (List.mem_append_left _ ha)
      · exact List.mem_append_right _ ha
theorem Rel.pins_set {F : Fr0} {Xs : List Addr} {I H : Hp} {ρ : Ev} {σ : St} {i : Nat} {c : Ce} {v : Option V} (R : Rel G F Xs I ρ σ H) (hf : free ρ i = true) : ∀ p ∈ F.P, (σ.set i v)[p.1]? = some (some p.2) ∧ ∃ o, (ρ.set i c)[p.1]? = some (.own true o) := fun p hp => by
  obtain ⟨h1, o, h2⟩ := R.pins p hp
  have ne : i ≠ p.1 := fun e => by
    unfold free at hf
    rw [e, gt_of h2] at hf
    cases hf
  exact ⟨by rw [List.getElem?_set_ne ne]; exact h1, o, by rw [List.getElem?_set_ne ne]; exact h2⟩
theorem Rel.setD {F : Fr0} {Xs : List Addr} {I H : Hp} {ρ : Ev} {σ : St} {i : Nat} {v : V} {x : D} (R : Rel G F Xs I ρ σ H) (hf : free ρ i = true) (r : Rep G I v x) : Rel G F Xs I (ρ.set i (.d x)) (σ.set i (some v)) H := by
  obtain ⟨fps, c1, c2, c3⟩ := R.cells
  have sl : (Xs ++ (fps.set i []).flatten).Sublist (Xs ++ fps.flatten) := (List.Sublist.refl Xs).append (sub_flat_set fps i)
  exact ⟨R.sub, R.keep, R.dom, R.inew, R.i0, R.xnew, R.pins_set hf, fps.set i [], CellsR.set (c := .d x) (v := some v) (fp := []) ⟨v, rfl, r, rfl⟩ i c1, c2.sublist sl, fun a ha => c3 a (sl.subset ha)⟩
theorem Rel.setUn {F : Fr0} {Xs : List Addr} {I H : Hp} {ρ : Ev} {σ : St} {i : Nat} {v : Option V} (R : Rel G F Xs I ρ σ H) (hf : free ρ i = true) : Rel G F Xs I (ρ.set i .un) (σ.set i v) H := by
  obtain ⟨fps, c1, c2, c3⟩ := R.cells
  have sl : (Xs ++ (fps.set i []).flatten).Sublist (Xs ++ fps.flatten) := (List.Sublist.refl Xs).append (sub_flat_set fps i)
  exact ⟨R.sub, R.keep, R.dom, R.inew, R.i0, R.xnew, R.pins_set hf, fps.set i [], CellsR.set (c := .un) (v := v) (fp := []) rfl i c1, c2.sublist sl, fun a ha => c3 a (sl.subset ha)⟩
theorem Rel.setO {F : Fr0} {fp Xs : List Addr} {I H : Hp} {ρ : Ev} {σ : St} {i : Nat} {v : V} {x : Ob} (R : Rel G F (fp ++ Xs) I ρ σ H) (hf : free ρ i = true) (r : OR G I H v x fp) : Rel G F Xs I (ρ.set i (.own false x)) (σ.set i (some v)) H := by
  obtain ⟨fps, c1, c2, c3⟩ := R.cells
  obtain ⟨n1, n2⟩ := nodup_flat_set fps i c2
  exact ⟨R.sub, R.keep, R.dom, R.inew, R.i0, fun a ha => R.xnew a (List.mem_append_right _ ha), R.pins_set hf, fps.set i fp, CellsR.set (c := .own false x) (v := some v) (fp := fp) ⟨v, rfl, r, fun a ha => .inl (R.xnew a (List.mem_append_left _ ha)).1⟩ i c1, n1, fun a ha => c3 a (n2 a ha)⟩
/-- x = e -/
def setS (i : Nat) (m : EM) : SM := fun ρ => match m ρ with
  | .ok x => if free ρ i = true then .nx (ρ.set i (.d x)) else .st
  | .er e => .er e ρ
  | .st => .st
def setFS (i : Nat) (m : Ev → Out Mu) : SM := fun ρ => match m ρ with
  | .ok x => if free ρ i = true then .nx (ρ.set i (.own false (.m x))) else .st
  | .er e => .er e ρ
  | .st => .st
theorem erS {F : Fr0} {Xs : List Addr} {I H : Hp} {ρ : Ev} {σ : St} {D : Ends} {e : Ex} (q : OkS G W F I D (.er e ρ)) : ErP G W F [] I ρ σ H e :=
  fun I' H' cls dx l x => q I' σ H' cls dx l.i l.r x
theorem setS_run {i : Nat} {D : Ends} {σ : St} {H : Hp} (h : tS G W (setS i m) D σ H) : tAsg (tD G W m) (gName i) D σ H := by
  obtain ⟨F, I, ρ, R, q⟩ := h
  refine ⟨F, [], I, ρ, R, ?_⟩
  unfold setS at q
  cases z : m ρ with
  | ok x =>
    rw [z] at q
    simp only [] at q
    split at q
    · rename_i hf
      exact fun I' H' v l r => q I' _ H' l.i (l.r.setD hf r)
    · exact q.elim
  | er e => rw [z] at q; exact erS (Xs := []) q
  | st => rw [z] at q; exact q.elim
theorem setFS_run {i : Nat} {D : Ends} {σ : St} {H : Hp} (h : tS G W (setFS i mF) D σ H) : tAsg (tF G W mF) (gName i) D σ H := by
  obtain ⟨F, I, ρ, R, q⟩ := h
  refine ⟨F, [], I, ρ, R, ?_⟩
  unfold setFS at q
  cases z : mF ρ with
  | ok x =>
    rw [z] at q
    simp only [] at q
    split at q
    · rename_i hf
      exact fun I' H' a l r => q I' _ H' l.i (Rel.setO (fp := [a]) (Xs := []) l.r hf ⟨a, rfl, rfl, r⟩)
    · exact q.elim
  | er e => rw [z] at q; exact erS (Xs := []) q
  | st => rw [z] at q; exact q.elim
theorem s_set {i : Nat} {x : Str} {pos' : Pos} (hN : X.N.Nodup) (he : PE X e (tD G W m)) (hi : X.N[i]? = some x := by rfl) (hx : Loc X.env.scope x := by first | exact Or.inl rfl | exact Or.inr rfl) (hs : swapsWith e (some (.Name x pos')) pos.line X.env = pure false := by rfl) (hf : X.fn x = true ∨ X.env.scope.names.lookup x = some .local := by first | exact .inl rfl | exact .inr rfl) :
    PS X (.Assign [.Name x pos'] e pos) (tS G W (setS i m)) := (ps_set hN hi hx he hs hf).imp fun _ _ _ h => setS_run h
theorem s_setF {i : Nat} {x : Str} {pos' : Pos} (hN : X.N.Nodup) (he : PE X e (tF G W mF)) (hi : X.N[i]? = some x := by rfl) (hx : Loc X.env.scope x := by first | exact Or.inl rfl | exact Or.inr rfl) (hs : swapsWith e (some (.Name x pos')) pos.line X.env = pure false := by rfl) (hf : X.fn x = true ∨ X.env.scope.names.lookup x = some .local := by first | exact .inl rfl | exact .inr rfl) :
    PS X (.Assign [.Name x pos'] e pos) (tS G W (setFS i mF)) := (ps_set hN hi hx he hs hf).imp fun _ _ _ h => setFS_run h
/-- e -/
def exprS (m : EM) : SM := fun ρ => match m ρ with
  | .ok _ => .nx ρ
  | .er e => .er e ρ
  | .st => .st
theorem s_expr (he : PE X e (tD G W m)) (hs : swapsWith e none pos.line X.env = pure false := by rfl) : PS X (.Expr e pos) (tS G W (exprS m)) :=
  (ps_expr he hs).imp fun D σ H ⟨F, I, ρ, R, q⟩ => ⟨F, [], I, ρ, R, by
    unfold exprS at q
    cases z : m ρ with
    | ok x => rw [z] at q; exact fun I' H' v l r => q I' _ H' l.i l.r
    | er e => rw [z] at q; exact erS (Xs := []) q
    | st => rw [z] at q; exact q.elim⟩
def retS (m : EM) : SM := fun ρ => match m ρ with
  | .ok x => .rt (.d x) ρ
  | .er e => .er e ρ
  | .st => .st
def retFS (m : Ev → Out Mu) : SM := fun ρ => match m ρ with
  | .ok x => .rt (.o (.m x)) ρ
  | .er e => .er e ρ
  | .st => .st
theorem s_ret (he : PE X e (tD G W m)) : PS X (.Return (some e) pos) (tS G W (retS m)) :=
  (ps_ret he).imp fun D σ H ⟨F, I, ρ, R, q⟩ => ⟨F, [], I, ρ, R, by
    unfold retS at q
    cases z : m ρ with
    | ok x => rw [z] at q; exact fun I' H' v l r => q I' _ H' v l.i l.r r
    | er e => rw [z] at q; exact erS (Xs := []) q
    | st => rw [z] at q; exact q.elim⟩
theorem s_retF (he : PE X e (tF G W mF)) : PS X (.Return (some e) pos) (tS G W (retFS mF)) :=
  (ps_ret he).imp fun D σ H ⟨F, I, ρ, R, q⟩ => ⟨F, [], I, ρ, R, by
    unfold retFS at q
    cases z : mF ρ with
    | ok x => rw [z] at q; exact fun I' H' a l r => q I' _ H' _ [a] l.i l.r ⟨a, rfl, rfl, r⟩
    | er e => rw [z] at q; exact erS (Xs := []) q
    | st => rw [z] at q; exact q.elim⟩
def retNS : SM := fun ρ => .rt (.d .non) ρ
theorem s_retN : PS X (.Return none pos) (tS G W retNS) := ps_retN.imp fun D σ H ⟨F, I, ρ, R, q⟩ => q I σ H .non (Same.refl I) R .non
def ifS (t : TM) (a b : SM) : SM := fun ρ => match t ρ with
  | .ok x => if x = true then a ρ else b ρ
  | .er e => .er e ρ
  | .st => .st
theorem s_if {c : Expr} {sa sb : List Stmt} {t : TM} (hc : PT X c (tT G W t)) (ha : PSs X sa (tS G W a)) (hb : PSs X sb (tS G W b)) : PS X (.If c sa sb pos) (tS G W (ifS t a b)) :=
  (ps_if hc ha hb).imp fun D σ H ⟨F, I, ρ, R, q⟩ => ⟨F, [], I, ρ, R, by
    unfold ifS at q
    cases z : t ρ with
    | ok x =>
      rw [z] at q
      intro I' H' l
      cases x with
      | true => rw [if_pos rfl]; exact ⟨F, I', ρ, l.r, OkS.later l.i q⟩
      | false => rw [if_neg Bool.false_ne_true]; exact ⟨F, I', ρ, l.r, OkS.later l.i q⟩
    | er e => rw [z] at q; exact erS (Xs := []) q
    | st => rw [z] at q; exact q.elim⟩
/-- ours no more (nothing happens) -/
def frzC (i : Nat) (ρ : Ev) : Ev := match gt ρ i with
  | .own false (.m m) => ρ.set i (.d m.toD)
  | _ => ρ
def frzS (i : Nat) (a : SM) : SM := fun ρ => a (frzC i ρ)
theorem List.set_self {α : Type} : ∀ {l : List α} {i : Nat} {x : α}, l[i]? = some x → l.set i x = l
  | [], _, _, h => by simp at h
  | a :: l, 0, x, h => by simp at h; simp [h]
  | a :: l, i + 1, x, h => by simp [List.set_self (l := l) (i := i) (x := x) (by simpa using h)]
theorem flat_set_out : ∀ (fps : List (List Addr)) (i : Nat) (fp : List Addr), fps[i]? = some fp → fps.flatten.Nodup → ∀ a ∈ fp, a ∉ (fps.set i []).flatten
  | [], _, _, h, _, _, _ => by simp at h
  | p :: ps, 0, fp, h, hn, a, ha => by
    simp at h
    subst h
    simp only [List.set_cons_zero, List.flatten_cons, List.nil_append]
    rw [List.flatten_cons, List.nodup_append] at hn
    exact fun hm => hn.2.2 a ha a hm rfl
  | p :: ps, i + 1, fp, h, hn, a, ha => by
    rw [List.flatten_cons, List.nodup_append] at hn
    simp only [List.set_cons_succ, List.flatten_cons, List.mem_append, not_or]
    have h' : ps[i]? = some fp := by simpa using h
    refine ⟨fun hm => hn.2.2 a hm a ?_ rfl, flat_set_out ps i fp h' hn.2.1 a ha⟩
    exact List.mem_flatten.mpr ⟨fp, List.mem_of_getElem? h', ha⟩
theorem Rel.frzC {F : Fr0} {I H : Hp} {ρ : Ev} {σ : St} (R : Rel G F [] I ρ σ H) (i : Nat) : ∃ I', Same I I' ∧ Rel G F [] I' (frzC i ρ) σ H := by
  unfold NS.frzC
  split
  · rename_i m z
    obtain ⟨fps, c1, c2, c3⟩ := R.cells
    have zi := gt_get z (by simp)
    obtain ⟨v, fp, h1, h2, u, h3, h4, h5⟩ := c1.get zi
    obtain ⟨a, e, ef, r⟩ := h4
    subst h3 e ef
    have ain : a ∈ fps.flatten := List.mem_flatten.mpr ⟨[a], List.mem_of_getElem? h2, by simp⟩
    have hI : I a = none := c3 a (by simpa using ain)
    obtain ⟨o, ho⟩ := Option.ne_none_iff_exists'.mp r.there
    have s : Same I (upd I a o) := same_upd hI
    have hf : free ρ i = true := by unfold free; rw [z]
    have hn : fps.flatten.Nodup := by simpa using c2
    have out := flat_set_out fps i [a] h2 hn a (by simp)
    have c1' : CellsR G F (upd I a o) H ρ σ fps := c1.frame s fun _ _ => rfl
    have c2' := c1'.set (c := .d m.toD) (v := some (.ref a)) (fp := []) ⟨_, rfl, r.frozen ho hI, rfl⟩ i
    rw [List.set_self h1] at c2'
    have fresh : F.H0 a = none := by
      rcases h5 a (by simp) with q | ⟨q, _⟩
      · exact q
      · cases q
    refine ⟨upd I a o, s, fun b w e => ?_, R.keep, R.dom, fun b w e => ?_, fun b w e => s _ _ (R.i0 b w e), R.xnew, fun p hp => ?_, fps.set i [], c2', ?_, fun b hb => ?_⟩
    · by_cases q : b = a
      · subst q; rw [upd_same] at e; cases e; exact ho
      · rw [upd_ne q] at e; exact R.sub b w e
    · by_cases q : b = a
      · subst q; exact .inr fresh
      · rw [upd_ne q] at e; exact R.inew b w e
    · have q := R.pins_set (v := some (.ref a)) (c := .d m.toD) hf p hp
      rw [List.set_self h1] at q
      exact q
    · simpa using hn.sublist (sub_flat_set fps i)
    · have hb : b ∈ (fps.set i []).flatten := by simpa using hb
      rw [upd_ne (fun e => by subst e; exact out hb)]
      exact c3 b (by simpa using (sub_flat_set fps i).subset hb)
  · exact ⟨I, Same.refl I, R⟩
theorem s_frz {i : Nat} (h : PS X stm (tS G W a)) : PS X stm (tS G W (frzS i a)) := h.imp fun D σ H ⟨F, I, ρ, R, q⟩ => by
  obtain ⟨I', s, R'⟩ := R.frzC i
  exact ⟨F, I', _, R', OkS.later s q⟩
end
end NS

set_option Elab.async false
set_option linter.all false
set_option maxRecDepth 100000
set_option maxHeartbeats 4000000
namespace NS
open PySem PySem.Spec L2
open PyProof.Rows hiding St

/-! ### a def of data, by its body -/
def startD (n : Nat) (ds : List D) : Ev := ds.map .d ++ List.replicate n .un
/-- what a body hands back, as data -/
def outP : SOut → Out D
  | .nx _ => .ok .non
  | .rt (.d x) _ => .ok x
  | .rt (.o (.m x)) _ => .ok x.toD
  | .er e _ => .er e
  | _ => .st
def outM : SOut → Out Mu
  | .rt (.o (.m x)) _ => .ok x
  | .er e _ => .er e
  | _ => .st
/-- n parameters, k other names -/
def fnP (n k : Nat) (body : SM) (ds : List D) : Out D := if ds.length = n then outP (body (startD k ds)) else .st
def fnM (n k : Nat) (body : SM) (ds : List D) : Out Mu := if ds.length = n then outM (body (startD k ds)) else .st
section
variable {G : Wd}
theorem SpP.len {n k : Nat} {body : SM} {vs : List V} {H : Hp} {Q : VK} {E : XK} (h : SpP G (fnP n k body) vs H Q E) : vs.length = n := by
  obtain ⟨I, ds, s, r, q⟩ := h
  rw [r.length]
  unfold fnP at q
  by_cases e : ds.length = n
  · exact e
  · rw [if_neg e] at q; exact q.elim
theorem SpM.len {n k : Nat} {body : SM} {vs : List V} {H : Hp} {Q : VK} {E : XK} (h : SpM G (fnM n k body) vs H Q E) : vs.length = n := by
  obtain ⟨I, ds, s, r, q⟩ := h
  rw [r.length]
  unfold fnM at q
  by_cases e : ds.length = n
  · exact e
  · rw [if_neg e] at q; exact q.elim
theorem cells_un {F : Fr0} {I H : Hp} : ∀ k : Nat, CellsR G F I H (List.replicate k .un) (List.replicate k none) (List.replicate k [])
  | 0 => .nil
  | k + 1 => by rw [List.replicate_succ, List.replicate_succ, List.replicate_succ]; exact .cons rfl (cells_un k)
theorem cells_start {F : Fr0} {I H : Hp} (k : Nat) : ∀ {vs : List V} {ds : List D}, RepA G I vs ds → ∃ fps, CellsR G F I H (startD k ds) (vs.map some ++ List.replicate k none) fps ∧ fps.flatten = []
  | _, _, .nil => ⟨_, cells_un k, by simp⟩
  | _, _, .cons (v := v) r t => by
    obtain ⟨fps, h1, h2⟩ := cells_start k t
    exact ⟨[] :: fps, .cons ⟨v, rfl, r, rfl⟩ h1, by simpa using h2⟩
theorem rel_start {I H : Hp} {vs : List V} {ds : List D} (k : Nat) (s : Same I H) (r : RepA G I vs ds) : Rel G ⟨H, I, [], []⟩ [] I (startD k ds) (vs.map some ++ List.replicate k none) H := by
  obtain ⟨fps, h1, h2⟩ := cells_start (F := ⟨H, I, [], []⟩) (H := H) k r
  refine ⟨s, fun a o e _ => e, fun a e => e, fun a o e => .inl e, Same.refl _, fun a ha => by simp at ha, fun p hp => by simp at hp, fps, h1, by simp [h2], fun a ha => by simp [h2] at ha⟩
/-- behind the body: what the caller is told -/
theorem Rel.aft {H0 I0 : Hp} {Xs : List Addr} {I H : Hp} {ρ : Ev} {σ : St} (R : Rel G ⟨H0, I0, [], []⟩ Xs I ρ σ H) : Aft I0 H0 I H :=
  ⟨R.i0, fun a o e => R.keep a o e (by simp), R.sub, R.inew⟩
theorem startE {ps N : List Str} {vs : List V} (hl : vs.length = ps.length) : L2.start N vs = vs.map some ++ List.replicate (N.length - ps.length) none := by
  unfold L2.start
  rw [hl]
theorem fnP_run {n k : Nat} {body : SM} {vs : List V} {H : Hp} {Q : VK} {E : XK} (h : SpP G (fnP n k body) vs H Q E) :
    tS G (fun cls d _ H => E cls d H) body { nx := fun _ H' => Q .non H', rt := Q } (vs.map some ++ List.replicate k none) H := by
  obtain ⟨I, ds, s, r, q⟩ := h
  refine ⟨_, I, _, rel_start k s r, ?_⟩
  unfold fnP at q
  by_cases hl : ds.length = n
  · rw [if_pos hl] at q
    cases z : body (startD k ds) with
    | nx ρ' =>
      rw [z] at q
      exact fun I' σ' H' i R' => q I' H' _ R'.aft .non
    | rt x ρ' =>
      rw [z] at q
      cases x with
      | d x => exact fun I' σ' H' v i R' r' => q I' H' v R'.aft r'
      | o x =>
        cases x with
        | m x =>
          intro I' σ' H' v fp i R' r'
          obtain ⟨a, e, ef, r'⟩ := r'
          subst e ef
          obtain ⟨o, ho⟩ := Option.ne_none_iff_exists'.mp r'.there
          exact q (upd I' a o) H' (.ref a) (R'.freeze ho).aft (r'.frozen ho R'.xnone)
        | ins c fs => exact q.elim
    | bk ρ' => rw [z] at q; exact q.elim
    | ct ρ' => rw [z] at q; exact q.elim
    | er e ρ' => rw [z] at q; exact fun I' σ' H' cls dx i R' x => q I' H' cls dx R'.aft x
    | st => rw [z] at q; exact q.elim
  · rw [if_neg hl] at q; exact q.elim
theorem fnM_run {n k : Nat} {body : SM} {vs : List V} {H : Hp} {Q : VK} {E : XK} (h : SpM G (fnM n k body) vs H Q E) :
    tS G (fun cls d _ H => E cls d H) body { nx := fun _ H' => Q .non H', rt := Q } (vs.map some ++ List.replicate k none) H := by
  obtain ⟨I, ds, s, r, q⟩ := h
  refine ⟨_, I, _, rel_start k s r, ?_⟩
  unfold fnM at q
  by_cases hl : ds.length = n
  · rw [if_pos hl] at q
    cases z : body (startD k ds) with
    | nx ρ' => rw [z] at q; exact q.elim
    | rt x ρ' =>
      rw [z] at q
      cases x with
      | d x => exact q.elim
      | o x =>
        cases x with
        | m x =>
          intro I' σ' H' v fp i R' r'
          obtain ⟨a, e, ef, r'⟩ := r'
          subst e ef
          exact q I' H' a R'.drop.aft (R'.xnew a (by simp)).1 R'.xnone r'
        | ins c fs => exact q.elim
    | bk ρ' => rw [z] at q; exact q.elim
    | ct ρ' => rw [z] at q; exact q.elim
    | er e ρ' => rw [z] at q; exact fun I' σ' H' cls dx i R' x => q I' H' cls dx R'.aft x
    | st => rw [z] at q; exact q.elim
  · rw [if_neg hl] at q; exact q.elim
end
section
variable {P : Program} {w : World} {G : Wd} {mg : Str → Option Value} {base : Heap} {x qual : Str} {params : Arguments} {body : List Stmt} {scope : Scope} {f : Addr} {fd : FuncData} {N ps : List Str} {k : Nat} {sem : SM}
/-- THE RULE for a def of data -/
theorem fn_P (F : FunD G.K x qual params body scope [] [] f fd) (S : FnScope N ps scope) (n m : Nat) (hn : ps.length = n) (hm : N.length - ps.length = m)
    (hb : ∀ (cdv : Value) (A : Around) (outer : List Env) (s : Shared) (H : Hp) (E : XK), Room k (A.deeper (envOfC qual scope s.heap.objs.size f cdv)) →
      PSs (cxOf (L2.CX P w) P w G.K mg base N qual scope f cdv A outer s H E) body (tS G (fun cls d _ H => E cls d H) sem)) :
    FnOk P w G.K mg base (L2.CX P w) (k + 1) f fd ps (SpP G (fnP n m sem)) := by
  refine F.ok S (fun vs H Q E h => hn.symm ▸ h.len) fun cdv A outer s H vs Q E hr h => ⟨_, hb cdv A outer s H E hr, ?_⟩
  rw [startE (hn.symm ▸ h.len), hm]
  exact fnP_run h
theorem fn_M (F : FunD G.K x qual params body scope [] [] f fd) (S : FnScope N ps scope) (n m : Nat) (hn : ps.length = n) (hm : N.length - ps.length = m)
    (hb : ∀ (cdv : Value) (A : Around) (outer : List Env) (s : Shared) (H : Hp) (E : XK), Room k (A.deeper (envOfC qual scope s.heap.objs.size f cdv)) →
      PSs (cxOf (L2.CX P w) P w G.K mg base N qual scope f cdv A outer s H E) body (tS G (fun cls d _ H => E cls d H) sem)) :
    FnOk P w G.K mg base (L2.CX P w) (k + 1) f fd ps (SpM G (fnM n m sem)) := by
  refine F.ok S (fun vs H Q E h => hn.symm ▸ h.len) fun cdv A outer s H vs Q E hr h => ⟨_, hb cdv A outer s H E hr, ?_⟩
  rw [startE (hn.symm ▸ h.len), hm]
  exact fnM_run h
end
end NS

set_option Elab.async false
set_option linter.all false
set_option maxRecDepth 100000
set_option maxHeartbeats 4000000
namespace NS
open PySem PySem.Spec L2
open PyProof.Rows hiding St

/-! ### what is walked -/
/-- turn by turn the iterator gives the items; I', H' the later heaps -/
def ItR (G : Wd) (I : Hp) (J : It) (l : List D) : Prop := ∀ i I' H', Same I I' → Same I' H' →
  (l[i]? = none → J.stop i H') ∧ ∀ d, l[i]? = some d → J.go i H' ∧ ∀ x H'', J.yld i H' x H'' → H'' = H' ∧ Rep G I' x d
/-- .. as long as all stands as it stood -/
def ItB (G : Wd) (I H : Hp) (J : It) (l : List D) : Prop := ∀ i I' H', Same I I' → Same I' H' → Same H H' →
  (l[i]? = none → J.stop i H') ∧ ∀ d, l[i]? = some d → J.go i H' ∧ ∀ x H'', J.yld i H' x H'' → H'' = H' ∧ Rep G I' x d
def OkI (G : Wd) (W : WX) (F : Fr0) (X : List Addr) (I : Hp) (ρ : Ev) (σ : St) (H : Hp) (R : It → Hp → Prop) : Out (List D) → Prop
  | .ok l => ∀ I' H' J, Lt G F X ρ σ I H I' H' → ItR G I' J l → R J H'
  | .er e => ErP G W F X I ρ σ H e
  | .st => False
def OkIB (G : Wd) (W : WX) (F : Fr0) (X : List Addr) (I : Hp) (ρ : Ev) (σ : St) (H : Hp) (R : It → Hp → Prop) : Out (List D) → Prop
  | .ok l => ∀ I' H' J, Lt G F X ρ σ I H I' H' → ItB G I' H' J l → R J H'
  | .er e => ErP G W F X I ρ σ H e
  | .st => False
def tI (G : Wd) (W : WX) (m : Ev → Out (List D)) : TI := fun σ H R => ∃ F X I ρ, Rel G F X I ρ σ H ∧ OkI G W F X I ρ σ H R (m ρ)
def tIB (G : Wd) (W : WX) (m : Ev → Out (List D)) : TI := fun σ H R => ∃ F X I ρ, Rel G F X I ρ σ H ∧ OkIB G W F X I ρ σ H R (m ρ)
theorem _root_.L2.PI.imp {X : Cx} {tg e : Expr} {t t' : TI} (h : PI X tg e t) (i : ∀ σ H Q, t' σ H Q → t σ H Q) : PI X tg e t' := ⟨fun pins s σ H R I q => h.run pins s σ H R I (i _ _ _ q)⟩
def itL (m : EM) : Ev → Out (List D) := fun ρ => (m ρ).bind fun x => match x with
  | .lst l => .ok l
  | _ => .st
def itT (m : EM) : Ev → Out (List D) := fun ρ => (m ρ).bind fun x => match x with
  | .tup l => .ok l
  | _ => .st
def itS (m : EM) : Ev → Out (List D) := fun ρ => (m ρ).bind fun x => match x with
  | .str l => .ok (l.map fun c => .str [c])
  | _ => .st
def itR1 (m : EM) : Ev → Out (List D) := fun ρ => (m ρ).bind fun x => match x with
  | .int j => if -(2 ^ 62) ≤ j ∧ j < 2 ^ 62 then .ok ((List.range j.toNat).map fun (k : Nat) => .int k) else .st
  | _ => .st
def itR2 (a b : EM) : Ev → Out (List D) := fun ρ => (a ρ).bind fun x => (b ρ).bind fun y => match x, y with
  | .int i, .int j => if -(2 ^ 62) ≤ i ∧ i < 2 ^ 62 ∧ -(2 ^ 62) ≤ j ∧ j < 2 ^ 62 then .ok ((List.range (j - i).toNat).map fun (k : Nat) => .int (i + k)) else .st
  | _, _ => .st
section
variable {X : Cx} {G : Wd} {W : WX} {tg e a b : Expr} {m ma mb : EM} {pos p : Pos}
theorem okI_bind {F : Fr0} {Xs : List Addr} {I H : Hp} {ρ : Ev} {σ : St} {Q : It → Hp → Prop} {α : Type} {o : Out α} {f : α → Out (List D)} (q : OkI G W F Xs I ρ σ H Q (o.bind f)) :
    (∃ x, o = .ok x ∧ OkI G W F Xs I ρ σ H Q (f x)) ∨ ∃ e, o = .er e ∧ ErP G W F Xs I ρ σ H e := by
  cases o with
  | ok x => exact .inl ⟨x, rfl, q⟩
  | er e => exact .inr ⟨e, rfl, q⟩
  | st => exact q.elim
theorem okIB_bind {F : Fr0} {Xs : List Addr} {I H : Hp} {ρ : Ev} {σ : St} {Q : It → Hp → Prop} {α : Type} {o : Out α} {f : α → Out (List D)} (q : OkIB G W F Xs I ρ σ H Q (o.bind f)) :
    (∃ x, o = .ok x ∧ OkIB G W F Xs I ρ σ H Q (f x)) ∨ ∃ e, o = .er e ∧ ErP G W F Xs I ρ σ H e := by
  cases o with
  | ok x => exact .inl ⟨x, rfl, q⟩
  | er e => exact .inr ⟨e, rfl, q⟩
  | st => exact q.elim
theorem iB {mm : Ev → Out (List D)} (h : PI X tg e (tI G W mm)) : PI X tg e (tIB G W mm) := h.imp fun σ H Q ⟨F, Xs, I, ρ, R, q⟩ => ⟨F, Xs, I, ρ, R, by
  cases z : mm ρ with
  | ok l => rw [z] at q; exact fun I' H' J lt it => q I' H' J lt fun i I2 H2 s1 s2 _ => it i I2 H2 s1 s2
  | er e => rw [z] at q; exact q
  | st => rw [z] at q; exact q⟩
theorem it_list {I H : Hp} {a : Addr} {xs : List V} {l : List D} (K : PySem.W.Frag) (r : RepA G I xs l) (h : ∀ I' H', Same I I' → Same I' H' → Same H H' → H' a = some (.lst xs)) : ItB G I H (Itl K a) l := by
  intro i I' H' s1 s2 s3
  have h' := h I' H' s1 s2 s3
  refine ⟨fun e => ⟨xs, SqL.of h', ?_⟩, fun d e => ?_⟩
  · rw [r.length]; exact List.getElem?_eq_none_iff.mp e
  · obtain ⟨v, h1, h2⟩ := r.get e
    refine ⟨⟨xs, v, SqL.of h', h1⟩, fun x H'' y => ?_⟩
    obtain ⟨e1, e2⟩ := y
    have := e2 xs (SqL.of h')
    rw [h1] at this
    cases this
    exact ⟨e1, h2.mono s1⟩
theorem i_list (h : PE X e (tD G W m)) : PI X tg e (tI G W (itL m)) := (pi_list h).imp fun σ H Q ⟨F, Xs, I, ρ, R, q⟩ => ⟨F, Xs, I, ρ, R, by
  rcases okI_bind q with ⟨x, z, q⟩ | ⟨e, z, q⟩
  · rw [z]
    intro I1 H1 v l r
    cases x <;> first | exact q.elim | skip
    cases r with
    | lst h1 h2 =>
      rename_i ds a xs
      refine ⟨a, rfl, ⟨xs, SqL.of (l.r.sub _ _ h1)⟩, q I1 H1 _ l fun i I' H' s1 s2 => ?_⟩
      exact it_list (G := G) (H := fun _ => none) X.K h2 (fun I' H' s1 s2 _ => s2 _ _ (s1 _ _ h1)) i I' H' s1 s2 fun _ _ z => (by cases z)
  · rw [z]; exact q⟩
theorem i_listB (h : PE X e (tB G W m)) : PI X tg e (tIB G W (itL m)) := (pi_list h).imp fun σ H Q ⟨F, Xs, I, ρ, R, q⟩ => ⟨F, Xs, I, ρ, R, by
  rcases okIB_bind q with ⟨x, z, q⟩ | ⟨e, z, q⟩
  · rw [z]
    intro I1 H1 v l r
    cases x <;> first | exact q.elim | skip
    obtain ⟨a, xs, rfl, h1, h2⟩ := r.lst l.r.sub
    exact ⟨a, rfl, ⟨xs, SqL.of h1⟩, q I1 H1 _ l (it_list X.K h2 fun I' H' _ _ s => s _ _ h1)⟩
  · rw [z]; exact q⟩
theorem i_tup (hK : KOk G X) (h : PE X e (tD G W m)) : PI X tg e (tI G W (itT m)) := (pi_tup h).imp fun σ H Q ⟨F, Xs, I, ρ, R, q⟩ => ⟨F, Xs, I, ρ, R, by
  rcases okI_bind q with ⟨x, z, q⟩ | ⟨e, z, q⟩
  · rw [z]
    intro I1 H1 v l r
    cases x <;> first | exact q.elim | skip
    cases r with
    | tup h1 h2 =>
      rename_i ds a xs
      rw [hK] at h1
      refine ⟨a, rfl, ⟨xs, same_sqT l.r.sub h1⟩, q I1 H1 _ l fun i I' H' s1 s2 => ?_⟩
      have h' := same_sqT s2 (same_sqT s1 h1)
      refine ⟨fun e => ⟨xs, h', ?_⟩, fun d e => ?_⟩
      · rw [h2.length]; exact List.getElem?_eq_none_iff.mp e
      · obtain ⟨v, g1, g2⟩ := h2.get e
        refine ⟨⟨xs, v, h', g1⟩, fun x H'' y => ?_⟩
        obtain ⟨e1, e2⟩ := y
        have := e2 xs h'
        rw [g1] at this
        cases this
        exact ⟨e1, g2.mono s1⟩
  · rw [z]; exact q⟩
theorem it_range {I : Hp} (lo : Int) (n : Nat) : ItR G I (Itr lo n) ((List.range n).map fun (k : Nat) => .int (lo + k)) := by
  intro i I' H' s1 s2
  refine ⟨fun e => ?_, fun d e => ?_⟩
  · have := List.getElem?_eq_none_iff.mp e
    rw [List.length_map, List.length_range] at this
    exact this
  · rw [List.getElem?_map, Option.map_eq_some_iff] at e
    obtain ⟨k, e1, rfl⟩ := e
    obtain ⟨hk, e2⟩ := List.getElem?_eq_some_iff.mp e1
    rw [List.length_range] at hk
    rw [List.getElem_range] at e2
    subst e2
    exact ⟨hk, fun x H'' ⟨y1, y2⟩ => ⟨y1, by subst y2; exact .int _⟩⟩
theorem PA.one {e : Expr} {t : TE} {X : Cx} (h : PE X e t) (hs : starEach (e :: []) X.env = (false, eval e X.env) :: starEach [] X.env) : PA X [e] (tCons t tNil) := pa_cons h pa_nil hs
theorem i_range1 (hm : X.mg "range" = none) (ha : PE X a (tD G W m)) (hg : Gl X "range" := by rfl) (hs : starEach [a] X.env = [(false, eval a X.env)] := by rfl) : PI X tg (.Call (.Name "range" p) [a] [] pos) (tI G W (itR1 m)) :=
  (pi_range1 hg hm (PA.one ha hs) hs).imp fun σ H Q ⟨F, Xs, I, ρ, R, q⟩ => ⟨F, Xs, I, ρ, R, by
    rcases okI_bind q with ⟨x, z, q⟩ | ⟨e, z, q⟩
    · rw [z]
      intro I1 H1 v l r
      cases x <;> first | exact q.elim | skip
      rename_i j
      cases r
      simp only [] at q
      split at q
      · rename_i hj
        have := it_range (G := G) (I := I1) 0 j.toNat
        simp only [Int.zero_add] at this
        exact ⟨j, rfl, hj.1, hj.2, q I1 H1 _ l this⟩
      · exact q.elim
    · rw [z]; exact q⟩
theorem i_range2 (hm : X.mg "range" = none) (ha : PE X a (tD G W ma)) (hb : PE X b (tD G W mb)) (hg : Gl X "range" := by rfl) (hs : starEach [a, b] X.env = [(false, eval a X.env), (false, eval b X.env)] := by rfl) (hs2 : starEach [b] X.env = [(false, eval b X.env)] := by rfl) :
    PI X tg (.Call (.Name "range" p) [a, b] [] pos) (tI G W (itR2 ma mb)) :=
  (pi_range2 hg hm (pa_cons ha (PA.one hb hs2) (by rw [hs, hs2])) hs hs2).imp fun σ H Q ⟨F, Xs, I, ρ, R, q⟩ => ⟨F, Xs, I, ρ, R, by
    rcases okI_bind q with ⟨x, z, q⟩ | ⟨e, z, q⟩
    · rw [z]
      intro I1 H1 v l r
      refine ⟨F, Xs, I1, ρ, l.r, ?_⟩
      cases z2 : mb ρ with
      | st => rw [z2] at q; exact q.elim
      | er e => rw [z2] at q; exact ErP.later l q
      | ok y =>
        rw [z2] at q
        intro I2 H2 w l2 r2
        simp only [Out.bind] at q
        cases x <;> first | exact q.elim | skip
        cases y <;> first | exact q.elim | skip
        rename_i i j
        cases r
        cases r2
        simp only [] at q
        split at q
        · rename_i hj
          exact ⟨i, j, rfl, hj, q I2 H2 _ (l.trans l2) (it_range i _)⟩
        · exact q.elim
    · rw [z]; exact q⟩
end

/-! ### for, while -/
def forL (i : Nat) (body : SM) : List D → Ev → SOut
  | [], ρ => .nx ρ
  | x :: xs, ρ => if free ρ i = true then (match body (ρ.set i (.d x)) with
    | .nx ρ' => forL i body xs ρ'
    | .ct ρ' => forL i body xs ρ'
    | .bk ρ' => .nx ρ'
    | o => o) else .st
def forS (i : Nat) (it : Ev → Out (List D)) (body : SM) : SM := fun ρ => match it ρ with
  | .ok l => forL i body l ρ
  | .er e => .er e ρ
  | .st => .st
def whL (t : TM) (body : SM) : Nat → Ev → SOut
  | 0, _ => .st
  | n + 1, ρ => match t ρ with
    | .ok b => if b = true then (match body ρ with
      | .nx ρ' => whL t body n ρ'
      | .ct ρ' => whL t body n ρ'
      | .bk ρ' => .nx ρ'
      | o => o) else .nx ρ
    | .er e => .er e ρ
    | .st => .st
section
variable {X : Cx} {G : Wd} {W : WX} {c e : Expr} {body : List Stmt} {sb : SM} {t : TM} {it : Ev → Out (List D)} {pos pos' : Pos}
theorem s_for {i : Nat} {x : Str} (hp : PassesOwn (model X.prog X.w) X.A X.env X.xe) (hN : X.N.Nodup) (hi : PI X (.Name x pos') e (tI G W it)) (hb : PSs X body (tS G W sb)) (hc : X.calm = true := by rfl) (hix : X.N[i]? = some x := by rfl)
    (hx : Loc X.env.scope x := by first | exact Or.inl rfl | exact Or.inr rfl) (hf : X.fn x = true ∨ X.env.scope.names.lookup x = some .local := by first | exact .inl rfl | exact .inr rfl) (hs : ∀ x, foldedSetIterable e X.env x = pure x := by intro _; rfl) :
    PS X (.For (.Name x pos') e body [] pos) (tS G W (forS i it sb)) :=
  (ps_for hp hc hi (pg_name hN hix hx hf) hb hs).imp fun D σ H ⟨F, I, ρ, R, q⟩ => ⟨F, [], I, ρ, R, by
    unfold forS at q
    cases z : it ρ with
    | st => rw [z] at q; exact q.elim
    | er e => rw [z] at q; exact erS (Xs := []) q
    | ok l =>
      rw [z] at q
      intro I1 H1 J lt itr
      refine ⟨fun k m σ H => m = l.length - k ∧ k ≤ l.length ∧ ∃ I' ρ', Same I1 I' ∧ Rel G F [] I' ρ' σ H ∧ OkS G W F I' D (forL i sb (l.drop k) ρ'), ⟨_, rfl, Nat.zero_le _, I1, ρ, Same.refl _, lt.r, OkS.later lt.i q⟩, ?_⟩
      rintro k m σ2 H2 ⟨rfl, hk, I2, ρ2, s2, R2, q2⟩
      obtain ⟨g1, g2⟩ := itr k I2 H2 s2 R2.sub
      by_cases hlt : k < l.length
      · obtain ⟨g3, g4⟩ := g2 l[k] (by simp [hlt])
        rw [List.drop_eq_getElem_cons hlt] at q2
        unfold forL at q2
        by_cases hfree : free ρ2 i = true
        · rw [if_pos hfree] at q2
          refine .inr ⟨g3, fun σ' H' => ∃ I' ρ', Same I1 I' ∧ Rel G F [] I' ρ' σ' H' ∧ OkS G W F I' D (forL i sb (l.drop (k + 1)) ρ'), fun σ' H' h => ⟨_, by omega, rfl, hlt, h⟩, fun x H' y => ?_⟩
          obtain ⟨rfl, rx⟩ := g4 x H' y
          refine ⟨F, I2, _, R2.setD hfree rx, ?_⟩
          cases zb : sb (ρ2.set i (.d l[k])) with
          | nx ρ3 => rw [zb] at q2; exact fun I3 σ3 H3 s3 R3 => ⟨I3, ρ3, s2.trans s3, R3, OkS.later s3 q2⟩
          | ct ρ3 => rw [zb] at q2; exact fun I3 σ3 H3 s3 R3 => ⟨I3, ρ3, s2.trans s3, R3, OkS.later s3 q2⟩
          | bk ρ3 => rw [zb] at q2; exact q2
          | rt r ρ3 => rw [zb] at q2; cases r <;> exact q2
          | er e ρ3 => rw [zb] at q2; exact q2
          | st => rw [zb] at q2; exact q2
        · rw [if_neg hfree] at q2; exact q2.elim
      · have e : k = l.length := by omega
        subst e
        rw [List.drop_length] at q2
        exact .inl ⟨g1 (by simp), q2 I2 σ2 H2 (Same.refl _) R2⟩⟩
theorem s_while (n : Nat) (hp : PassesOwn (model X.prog X.w) X.A X.env X.xe) (hc : PT X c (tT G W t)) (hb : PSs X body (tS G W sb)) : PS X (.While c body [] pos) (tS G W (whL t sb n)) :=
  (ps_while hp hc hb).imp fun D σ H ⟨F, I, ρ, R, q⟩ => by
    refine ⟨fun m σ H => ∃ I' ρ', Rel G F [] I' ρ' σ H ∧ Same I I' ∧ OkS G W F I' D (whL t sb m ρ'), ⟨n, I, ρ, R, Same.refl _, q⟩, ?_⟩
    rintro m σ2 H2 ⟨I2, ρ2, R2, s2, q2⟩
    cases m with
    | zero => exact q2.elim
    | succ m =>
      refine ⟨F, [], I2, ρ2, R2, ?_⟩
      unfold whL at q2
      cases z : t ρ2 with
      | st => rw [z] at q2; exact q2.elim
      | er e => rw [z] at q2; exact erS (Xs := []) q2
      | ok b =>
        rw [z] at q2
        intro I3 H3 l3
        simp only [] at q2
        cases b with
        | false => rw [if_neg Bool.false_ne_true] at q2 ⊢; exact q2 I3 σ2 H3 l3.i l3.r
        | true =>
          rw [if_pos rfl] at q2 ⊢
          refine ⟨fun σ' H' => ∃ I' ρ', Rel G F [] I' ρ' σ' H' ∧ Same I I' ∧ OkS G W F I' D (whL t sb m ρ'), fun σ' H' h => ⟨m, Nat.lt_succ_self m, h⟩, F, I3, ρ2, l3.r, ?_⟩
          have q2 := OkS.later l3.i q2
          cases zb : sb ρ2 with
          | nx ρ3 => rw [zb] at q2; exact fun I4 σ4 H4 s4 R4 => ⟨I4, ρ3, R4, (s2.trans l3.i).trans s4, OkS.later s4 q2⟩
          | ct ρ3 => rw [zb] at q2; exact fun I4 σ4 H4 s4 R4 => ⟨I4, ρ3, R4, (s2.trans l3.i).trans s4, OkS.later s4 q2⟩
          | bk ρ3 => rw [zb] at q2; exact q2
          | rt r ρ3 => rw [zb] at q2; cases r <;> exact q2
          | er e ρ3 => rw [zb] at q2; exact q2
          | st => rw [zb] at q2; exact q2
end
end NS

set_option Elab.async false
set_option linter.all false
set_option maxRecDepth 100000
set_option maxHeartbeats 4000000
namespace NS
open PySem PySem.Spec L2
open PyProof.Rows hiding St

theorem frz_tF {G : Wd} {W : WX} {mm : Ev → Out Mu} {σ : St} {H : Hp} {Q : VK} (h : tD G W (frz mm) σ H Q) : tF G W mm σ H Q := by
  obtain ⟨F, Xs, I, ρ, R, q⟩ := h
  refine ⟨F, Xs, I, ρ, R, ?_⟩
  unfold frz at q
  cases z : mm ρ with
  | ok d =>
    rw [z] at q
    intro I' H' a l r
    have hI := l.r.xnone
    obtain ⟨o, ho⟩ := Option.ne_none_iff_exists'.mp r.there
    exact q (upd I' a o) H' (.ref a) ⟨l.i.trans (same_upd hI), l.h, fun c u e => (by
      by_cases q : c = a
      · subst q; exact .inr l.hn
      · rw [upd_ne q] at e; exact l.new c u e), l.r.freeze ho⟩ (r.frozen ho hI)
  | er e => rw [z] at q; exact q
  | st => rw [z] at q; exact q

/-! ### isinstance -/
def tyN : D → Option String
  | .non => some "NoneType"
  | .bl _ => some "bool"
  | .int _ => some "int"
  | .str _ => some "str"
  | .tup _ => some "tuple"
  | .lst _ => some "list"
  | .dct _ _ => some "dict"
  | .scr _ => some "list"
  | _ => none
def dIsi (f : D → Bool) (m : EM) : EM := fun ρ => (m ρ).bind fun x => match x with
  | .exc _ _ _ => .st
  | x => .ok (.bl (f x))
def isInt : D → Bool
  | .int _ | .bl _ => true
  | _ => false
def isBool : D → Bool
  | .bl _ => true
  | _ => false
def isStr : D → Bool
  | .str _ => true
  | _ => false
def isTup : D → Bool
  | .tup _ => true
  | _ => false
def isLst : D → Bool
  | .lst _ | .scr _ => true
  | _ => false
def IsTy (T : String) (f : D → Bool) : Prop := ∀ d n, tyN d = some n → kitB n T = some (f d)
theorem isTy_int : IsTy "int" isInt := by intro d n h; cases d <;> cases h <;> first | (show kitB _ _ = some true; decide +kernel) | (show kitB _ _ = some false; decide +kernel)
theorem isTy_bool : IsTy "bool" isBool := by intro d n h; cases d <;> cases h <;> first | (show kitB _ _ = some true; decide +kernel) | (show kitB _ _ = some false; decide +kernel)
theorem isTy_str : IsTy "str" isStr := by intro d n h; cases d <;> cases h <;> first | (show kitB _ _ = some true; decide +kernel) | (show kitB _ _ = some false; decide +kernel)
theorem isTy_tuple : IsTy "tuple" isTup := by intro d n h; cases d <;> cases h <;> first | (show kitB _ _ = some true; decide +kernel) | (show kitB _ _ = some false; decide +kernel)
theorem isTy_list : IsTy "list" isLst := by intro d n h; cases d <;> cases h <;> first | (show kitB _ _ = some true; decide +kernel) | (show kitB _ _ = some false; decide +kernel)
section
variable {X : Cx} {G : Wd} {W : WX} {pos p p2 : Pos} {e : Expr} {m : EM}
theorem VB.tyX (hK : KOk G X) {I H : Hp} {v : V} {d : D} {n : String} (s : Same I H) (r : VB G I H v d) (h : tyN d = some n) : TyX X.K H v (.type n) := by
  cases d <;> cases h
  · rw [r.non]; exact .base .non
  · rw [r.bl]; exact .base (.bl _)
  · rw [r.int]; exact .base (.int _)
  · rw [r.str]; exact .base (.str _)
  · obtain ⟨a, xs, rfl, h1, h2⟩ := r.tup s
    rw [hK] at h1
    rcases h1 with (h1 | ⟨o, h1⟩) | ⟨o, its, n, h1, h2, _⟩
    · exact .base (.tup h1)
    · exact .fTuple h1
    · exact .kTuple h1 h2
  · obtain ⟨a, xs, rfl, h1, h2⟩ := r.lst s
    exact .base (.lst h1)
  · obtain ⟨a, xs, rfl, h1, h2⟩ := r.dct s
    exact .base (.dK h1)
  · obtain ⟨a, rfl, h1⟩ := r.scr s
    rw [hK] at h1
    rcases h1 with (h1 | ⟨o, h1⟩) | ⟨o, its, n, h1, h2, _⟩
    · exact .base (.lst h1)
    · exact .base (.frz h1)
    · exact .kList h1 h2
theorem e_isi {T : Str} {t : String} {f : D → Bool} (hK : KOk G X) (hT : IsTy t f) (hm : X.mg "isinstance" = none) (hmT : X.mg T = none) (hvT : bootBuiltins T = some (.type t)) (ha : PE X e (tB G W m)) (hg : Gl X "isinstance" := by rfl) (hgT : Gl X T := by rfl)
    (hv : bootBuiltins "isinstance" = some (.builtin "isinstance") := by decide +kernel) (hnT : T ≠ "__name__" := by decide) (hdT : (T == ("__debug__" : Str)) = false := by decide)
    (he : starEach (e :: [.Name T p2]) X.env = (false, eval e X.env) :: starEach [.Name T p2] X.env := by rfl) (he2 : starEach (.Name T p2 :: []) X.env = (false, eval (.Name T p2) X.env) :: starEach [] X.env := by rfl) (hpl : (backTo pos (starEach [.Name T p2] X.env)).any (·.1) = false := by rfl) :
    PE X (.Call (.Name "isinstance" p) [e, .Name T p2] [] pos) (tD G W (dIsi f m)) :=
  (pe_callB call_isi hg hm hv (pa_cons ha (pa_cons (pe_bltn (v := .ty t) hgT hmT hvT rfl hnT hdT) pa_nil he2) he) (by decide) (by decide) he hpl).imp fun σ H Q ⟨F, Xs, I, ρ, R, q⟩ => ⟨F, Xs, I, ρ, R, by
    rcases okD_bind q with ⟨x, z, q⟩ | ⟨e, z, q⟩
    · rw [z]
      intro I1 H1 v l r
      have fin : ∀ n, tyN x = some n → OkD G W F Xs I ρ σ H Q (.ok (.bl (f x))) → rIsi X.K [v, .ty t] H1 Q := fun n hn q =>
        ⟨v, .ty t, .type n, .type t, f x, rfl, .ty t, r.tyX hK l.r.sub hn, kit_ty (hT x n hn), q I1 H1 _ l (.bl _)⟩
      cases x <;> first | exact fin _ rfl q | exact q.elim
    · rw [z]; exact q⟩
end

/-! ### list, tuple, sum, any, all -/
def bList : List D → Out Mu
  | [.lst l] => .ok (.lst l)
  | [.tup l] => .ok (.lst l)
  | _ => .st
def bTuple : List D → Out D
  | [.lst l] => .ok (.tup l)
  | _ => .st
def intsOf : List D → Option (List Int)
  | [] => some []
  | .int i :: ds => (intsOf ds).map (i :: ·)
  | _ => none
def blsOf : List D → Option (List Bool)
  | [] => some []
  | .bl b :: ds => (blsOf ds).map (b :: ·)
  | _ => none
def bSum : List D → Out D
  | [.lst l] => match intsOf l with
    | some ns => .ok (.int ns.sum)
    | none => .st
  | _ => .st
def bAny : List D → Out D
  | [.lst l] => match blsOf l with
    | some ns => .ok (.bl (ns.any id))
    | none => .st
  | _ => .st
def bAll : List D → Out D
  | [.lst l] => match blsOf l with
    | some ns => .ok (.bl (ns.all id))
    | none => .st
  | _ => .st
theorem ints_V {G : Wd} {I : Hp} : ∀ {xs : List V} {l : List D} {ns : List Int}, intsOf l = some ns → RepA G I xs l → xs = ns.map V.int
  | _, [], _, h, .nil => by cases h; rfl
  | _, d :: ds, ns, h, .cons r t => by
    cases d <;> simp only [intsOf] at h <;> first | cases h | skip
    obtain ⟨ms, h1, rfl⟩ := Option.map_eq_some_iff.mp h
    cases r
    rw [ints_V h1 t]; rfl
theorem bls_V {G : Wd} {I : Hp} : ∀ {xs : List V} {l : List D} {ns : List Bool}, blsOf l = some ns → RepA G I xs l → xs = ns.map V.bl
  | _, [], _, h, .nil => by cases h; rfl
  | _, d :: ds, ns, h, .cons r t => by
    cases d <;> simp only [blsOf] at h <;> first | cases h | skip
    obtain ⟨ms, h1, rfl⟩ := Option.map_eq_some_iff.mp h
    cases r
    rw [bls_V h1 t]; rfl
section
variable {X : Cx} {G : Wd} {W : WX}
theorem cList (hK : KOk G X) : CallF G X (.type "list") bList := by
  intro pins s σ H xs us Q Iv rs ⟨F, Xs, I, ρ, σ', ds, d, R, vs, hop, q⟩
  unfold bList at hop
  split at hop <;> first | cases hop | skip
  · cases vs with
    | cons v t =>
      cases t
      obtain ⟨b, ys, rfl, hy, ry'⟩ := v.lst R.sub
      exact call_list_of pins s σ H _ us Q Iv rs ⟨b, ys, rfl, .inl (SqL.of hy), fun p hp => q I _ p (R.ltFresh hp) ⟨_, upd_same, ry'⟩⟩
  · cases vs with
    | cons v t =>
      cases t
      obtain ⟨b, ys, rfl, hy, ry'⟩ := v.tup R.sub
      rw [hK] at hy
      exact call_list_of pins s σ H _ us Q Iv rs ⟨b, ys, rfl, .inr hy, fun p hp => q I _ p (R.ltFresh hp) ⟨_, upd_same, ry'⟩⟩
theorem cTuple : CallB G X (.type "tuple") bTuple := by
  intro pins s σ H xs us Q Iv rs ⟨F, Xs, I, ρ, σ', ds, d, R, vs, hop, q⟩
  unfold bTuple at hop
  split at hop <;> first | cases hop | skip
  cases vs with
  | cons v t =>
    cases t
    obtain ⟨b, ys, rfl, hy, ry'⟩ := v.lst R.sub
    exact call_tuple_of pins s σ H _ us Q Iv rs ⟨b, ys, rfl, .inl ⟨SqL.of hy, fun p hp => q (upd I p _) _ _ (R.ltAlloc hp) (.tup (SqT.of upd_same) (ry'.mono (same_upd (R.inone hp))))⟩⟩
theorem cSum (hc : X.calm = true) : CallB G X (.builtin "sum") bSum := by
  intro pins s σ H xs us Q Iv rs ⟨F, Xs, I, ρ, σ', ds, d, R, vs, hop, q⟩
  unfold bSum at hop
  split at hop <;> first | cases hop | skip
  split at hop <;> first | cases hop | skip
  rename_i e
  cases vs with
  | cons v t =>
    cases t
    obtain ⟨b, ys, rfl, hy, ry'⟩ := v.lst R.sub
    rw [ints_V e ry'] at hy
    exact cr_sum hc pins s σ H _ us Q Iv rs ⟨b, _, rfl, SqL.of hy, q I H _ (Lt.refl R) (.int _)⟩
theorem cAny (hc : X.calm = true) : CallB G X (.builtin "any") bAny := by
  intro pins s σ H xs us Q Iv rs ⟨F, Xs, I, ρ, σ', ds, d, R, vs, hop, q⟩
  unfold bAny at hop
  split at hop <;> first | cases hop | skip
  split at hop <;> first | cases hop | skip
  rename_i e
  cases vs with
  | cons v t =>
    cases t
    obtain ⟨b, ys, rfl, hy, ry'⟩ := v.lst R.sub
    rw [bls_V e ry'] at hy
    exact cr_any hc pins s σ H _ us Q Iv rs ⟨b, _, rfl, SqL.of hy, q I H _ (Lt.refl R) (.bl _)⟩
theorem cAll (hc : X.calm = true) : CallB G X (.builtin "all") bAll := by
  intro pins s σ H xs us Q Iv rs ⟨F, Xs, I, ρ, σ', ds, d, R, vs, hop, q⟩
  unfold bAll at hop
  split at hop <;> first | cases hop | skip
  split at hop <;> first | cases hop | skip
  rename_i e
  cases vs with
  | cons v t =>
    cases t
    obtain ⟨b, ys, rfl, hy, ry'⟩ := v.lst R.sub
    rw [bls_V e ry'] at hy
    exact cr_all hc pins s σ H _ us Q Iv rs ⟨b, _, rfl, SqL.of hy, q I H _ (Lt.refl R) (.bl _)⟩
end

/-! ### comprehensions -/
/-- ours is written -/
theorem Rel.wrX {G : Wd} {F : Fr0} {X : List Addr} {I H : Hp} {ρ : Ev} {σ : St} {p : Addr} {o : HO} (R : Rel G F (p :: X) I ρ σ H) : Rel G F (p :: X) I ρ σ (upd H p o) := by
  obtain ⟨fps, c1, c2, c3⟩ := R.cells
  have hI := R.xnone
  have h0 := (R.xnew p (by simp)).1
  have nI : ∀ a u, I a = some u → a ≠ p := fun a u e z => by subst z; rw [hI] at e; cases e
  refine ⟨fun a u e => by rw [upd_ne (nI a u e)]; exact R.sub a u e, fun a u e ha => ?_, fun a e => ?_, R.inew, R.i0, fun a ha => ?_, R.pins, fps, ?_, c2, c3⟩
  · rw [upd_ne (fun z => by subst z; rw [h0] at e; cases e)]; exact R.keep a u e ha
  · by_cases q : a = p
    · subst q; rw [upd_same] at e; cases e
    · rw [upd_ne q] at e; exact R.dom a e
  · by_cases q : a = p
    · subst q; exact ⟨h0, by rw [upd_same]; simp⟩
    · rw [upd_ne q]; exact R.xnew a ha
  · refine c1.frame (Same.refl I) fun a ha => upd_ne fun z => ?_
    subst z
    exact (List.nodup_cons.mp c2).1 (List.mem_append_right _ ha)
def lcL (i : Nat) (t : TM) (m : EM) (ρ : Ev) : List D → Out (List D)
  | [] => .ok []
  | x :: xs => (noer (t (ρ.set i (.d x)))).bind fun b => if b = true then (noer (m (ρ.set i (.d x)))).bind fun y => (lcL i t m ρ xs).bind fun ys => .ok (y :: ys) else lcL i t m ρ xs
def fLc (i : Nat) (it : Ev → Out (List D)) (t : TM) (m : EM) : Ev → Out Mu := fun ρ => match gt ρ i with
  | .own _ _ => .st
  | _ => (it ρ).bind fun l => if l.length ≤ 16777216 then (lcL i t m ρ l).bind fun ys => .ok (.lst ys) else .st
def yesT : TM := fun _ => .ok true
abbrev WF : WX := fun _ _ _ _ => False
section
variable {X : Cx} {G : Wd} {W : WX} {pos p : Pos} {e elt iter : Expr} {ifs : List Expr} {scope : Scope} {m : EM} {t : TM} {it : Ev → Out (List D)}
theorem ts_nil : PTs X [] (tT G W yesT) := ⟨fun pins s σ H Q I ⟨F, Xs, I', ρ, R, q⟩ => pts_nil.run pins s σ H Q I (q I' H (Lt.refl R))⟩
theorem ts_one (h : PT X e (tT G W t)) : PTs X [e] (tT G W t) := pts_one h
theorem lc_run {i : Nat} {σ : St} {H : Hp} {Q : VK} (h : tF G W (fLc i it t m) σ H Q) : tLc (tIB G W it) (gName i) (tT G WF t) (tD G WF m) [i] σ H Q := by
  obtain ⟨F, Xs, I, ρ, R, q⟩ := h
  refine ⟨F, Xs, I, ρ, R, ?_⟩
  have hfree : free ρ i = true ∧ OkF G W F Xs I ρ σ H Q ((it ρ).bind fun l => if l.length ≤ 16777216 then (lcL i t m ρ l).bind fun ys => .ok (.lst ys) else .st) := by
    unfold fLc at q
    cases z : gt ρ i with
    | un => rw [z] at q; exact ⟨by unfold free; rw [z], q⟩
    | d x => rw [z] at q; exact ⟨by unfold free; rw [z], q⟩
    | own p o => rw [z] at q; exact q.elim
  obtain ⟨hf, q⟩ := hfree
  cases z : it ρ with
  | st => rw [z] at q; exact q.elim
  | er e => rw [z] at q; exact q
  | ok l =>
    rw [z] at q
    simp only [Out.bind] at q
    split at q
    · rename_i hlen
      intro I1 H1 J l1 itr D0 hD
      refine ⟨fun k mm H2 => mm = l.length - k ∧ k ≤ l.length ∧ ∃ I2 acc ds, LtF G F Xs ρ σ I1 H1 I2 H2 D0 ∧ H2 D0 = some (.lst acc) ∧ RepA G I2 acc ds ∧ acc.length ≤ k ∧
        OkF G W F Xs I ρ σ H Q ((lcL i t m ρ (l.drop k)).bind fun ys => .ok (.lst (ds ++ ys))), ⟨_, rfl, Nat.zero_le _, I1, [], [], l1.r.ltFresh hD, upd_same, .nil, Nat.le_refl _, ?_⟩, ?_⟩
      · show OkF G W F Xs I ρ σ H Q ((lcL i t m ρ l).bind fun ys => .ok (.lst ys))
        cases zz : lcL i t m ρ l with
        | st => rw [zz] at q; exact q
        | er e => rw [zz] at q; exact q
        | ok ys => rw [zz] at q; exact q
      · rintro k mm H2 ⟨rfl, hk, I2, acc, ds, lf, hacc, hrep, hal, q2⟩
        obtain ⟨g1, g2⟩ := itr k I2 H2 lf.i lf.r.sub lf.h
        by_cases hlt : k < l.length
        · obtain ⟨g3, g4⟩ := g2 l[k] (by simp [hlt])
          rw [List.drop_eq_getElem_cons hlt] at q2
          refine .inr ⟨g3, fun H' => k + 1 ≤ l.length ∧ ∃ I2 acc ds, LtF G F Xs ρ σ I1 H1 I2 H' D0 ∧ H' D0 = some (.lst acc) ∧ RepA G I2 acc ds ∧ acc.length ≤ k + 1 ∧
            OkF G W F Xs I ρ σ H Q ((lcL i t m ρ (l.drop (k + 1))).bind fun ys => .ok (.lst (ds ++ ys))), fun H' h => ⟨_, by omega, rfl, h⟩, fun x H' y => ?_⟩
          obtain ⟨rfl, rx⟩ := g4 x H' y
          -- the turn's own slots
          have Rx : Rel G F (D0 :: Xs) I2 (ρ.set i (.d l[k])) ((wipe σ [i]).set i (some x)) H' := by
            have h1 := lf.r.setUn (v := none) hf
            have h2 := h1.setD (i := i) (v := x) (x := l[k]) (by
              unfold free
              by_cases hi : i < ρ.length
              · rw [gt_of (by rw [List.getElem?_set_self hi])]
              · cases zz : gt (ρ.set i Ce.un) i with
                | own p o =>
                  have := (List.getElem?_eq_some_iff.mp (gt_get zz (by simp))).1
                  rw [List.length_set] at this
                  exact absurd this hi
                | un => rfl
                | d y => rfl) rx
            rw [List.set_set] at h2
            exact h2
          refine ⟨by show ((σ.set i none).set i (some x)).set i none = σ.set i none; rw [List.set_set, List.set_set], ?_⟩
          refine ⟨F, D0 :: Xs, I2, _, Rx, ?_⟩
          unfold lcL at q2
          cases zt : t (ρ.set i (.d l[k])) with
          | st => rw [zt] at q2; exact q2.elim
          | er e => rw [zt] at q2; exact q2.elim
          | ok b =>
            rw [zt] at q2
            intro I3 H3 l3
            have lf3 := l1.r.ltFresh hD (o := .lst [])
            -- behind the test
            have r3 := (lf.r.after l3.aft)
            cases b with
            | false =>
              rw [if_neg Bool.false_ne_true]
              simp only [noer, Out.bind, Bool.false_eq_true, if_false] at q2
              refine ⟨hlt, I3, acc, ds, ⟨lf.i.trans l3.i, lf.h.trans l3.h, fun a o e => (l3.new a o e).elim (lf.new a o) fun z => .inr (lf.h.free z), lf.hn, r3.r⟩, l3.h _ _ hacc, hrep.mono l3.i, by omega, q2⟩
            | true =>
              rw [if_pos rfl]
              simp only [noer, Out.bind, if_true] at q2
              refine ⟨F, D0 :: Xs, I3, _, l3.r, ?_⟩
              cases zm : m (ρ.set i (.d l[k])) with
              | st => rw [zm] at q2; exact q2.elim
              | er e => rw [zm] at q2; exact q2.elim
              | ok y =>
                rw [zm] at q2
                intro I4 H4 v l4 r4
                have l34 := l3.trans l4
                have r5 := (lf.r.after l34.aft)
                have hacc4 := l34.h _ _ hacc
                refine ⟨acc, hacc4, by rw [line_eq]; omega, hlt, I4, acc ++ [v], ds ++ [y], ⟨lf.i.trans l34.i, fun a o e => ?_, fun a o e => (l34.new a o e).elim (lf.new a o) fun z => .inr (lf.h.free z), lf.hn, r5.r.wrX⟩, upd_same, (hrep.mono l34.i).append (.cons r4 .nil), by simp; omega, ?_⟩
                · rw [upd_ne (fun z => by subst z; rw [lf.hn] at e; cases e)]
                  exact l34.h _ _ (lf.h a o e)
                · cases zz : lcL i t m ρ (l.drop (k + 1)) with
                  | st => rw [zz] at q2; exact q2
                  | er e => rw [zz] at q2; exact q2
                  | ok ys =>
                    rw [zz] at q2
                    simp only [Out.bind, List.append_assoc, List.singleton_append] at q2 ⊢
                    exact q2
        · have e : k = l.length := by omega
          subst e
          rw [List.drop_length] at q2
          simp only [lcL, Out.bind, List.append_nil] at q2
          exact .inl ⟨g1 (by simp), q2 I2 H2 D0 (l1.transF lf) ⟨acc, hacc, hrep⟩⟩
    · exact q.elim
theorem f_lc {i : Nat} {x : Str} (hN : X.N.Nodup) (hi : PI X (.Name x p) iter (tIB G W it)) (ok : BlkOk X.N X.env.scope scope [(x, i)])
    (ht : ∀ (s : Shared) (H : Hp) (C : Addr) (cl : List (Str × Addr)) (fp : List Addr), PTs (X.blk s H scope (compEnvC scope cl C X.env) fp) ifs (tT G WF t))
    (he : ∀ (s : Shared) (H : Hp) (C : Addr) (cl : List (Str × Addr)) (fp : List Addr), PE (X.blk s H scope (compEnvC scope cl C X.env) fp) elt (tD G WF m))
    (hg : ∀ (s : Shared) (H : Hp) (C : Addr) (cl : List (Str × Addr)) (fp : List Addr), PG (X.blk s H scope (compEnvC scope cl C X.env) fp) (.Name x p) (gName i))
    (hc : X.calm = true := by rfl) (hs : ∀ x, foldedSetIterable iter X.env x = pure x := by intro _; rfl) :
    PE X (.ListComp elt [⟨.Name x p, iter, ifs, 0⟩] scope pos) (tF G W (fLc i it t m)) :=
  (pe_lc hc hN hi ok hg ht he hs).imp fun _ _ _ h => lc_run h
/-- y = [..] on one line -/
theorem s_setLcF {i j : Nat} {x y : Str} {py spos : Pos} (hN : X.N.Nodup) (hi : PI X (.Name x p) iter (tIB G W it)) (ok : BlkOk X.N X.env.scope scope [(x, i)])
    (ht : ∀ (s : Shared) (H : Hp) (C : Addr) (cl : List (Str × Addr)) (fp : List Addr), PTs (X.blk s H scope (compEnvC scope cl C X.env) fp) ifs (tT G WF t))
    (he : ∀ (s : Shared) (H : Hp) (C : Addr) (cl : List (Str × Addr)) (fp : List Addr), PE (X.blk s H scope (compEnvC scope cl C X.env) fp) elt (tD G WF m))
    (hg : ∀ (s : Shared) (H : Hp) (C : Addr) (cl : List (Str × Addr)) (fp : List Addr), PG (X.blk s H scope (compEnvC scope cl C X.env) fp) (.Name x p) (gName i))
    (hsw : swapsWith (.ListComp elt [⟨.Name x p, iter, ifs, 0⟩] scope pos) (some (.Name y py)) spos.line X.env = pure true)
    (hy : X.N[j]? = some y := by rfl) (hyl : X.env.scope.names.lookup y = some .local := by rfl) (hc : X.calm = true := by rfl) (hs : ∀ x, foldedSetIterable iter X.env x = pure x := by intro _; rfl) :
    PS X (.Assign [.Name y py] (.ListComp elt [⟨.Name x p, iter, ifs, 0⟩] scope pos) spos) (tS G W (setFS j (fLc i it t m))) :=
  (ps_setLc hc hN hy hyl hsw hi ok hg ht he hs).imp fun D σ H h => by
    obtain h := setFS_run h
    exact lc_run h
theorem s_setLc {i j : Nat} {x y : Str} {py spos : Pos} (hN : X.N.Nodup) (hi : PI X (.Name x p) iter (tIB G W it)) (ok : BlkOk X.N X.env.scope scope [(x, i)])
    (ht : ∀ (s : Shared) (H : Hp) (C : Addr) (cl : List (Str × Addr)) (fp : List Addr), PTs (X.blk s H scope (compEnvC scope cl C X.env) fp) ifs (tT G WF t))
    (he : ∀ (s : Shared) (H : Hp) (C : Addr) (cl : List (Str × Addr)) (fp : List Addr), PE (X.blk s H scope (compEnvC scope cl C X.env) fp) elt (tD G WF m))
    (hg : ∀ (s : Shared) (H : Hp) (C : Addr) (cl : List (Str × Addr)) (fp : List Addr), PG (X.blk s H scope (compEnvC scope cl C X.env) fp) (.Name x p) (gName i))
    (hsw : swapsWith (.ListComp elt [⟨.Name x p, iter, ifs, 0⟩] scope pos) (some (.Name y py)) spos.line X.env = pure true)
    (hy : X.N[j]? = some y := by rfl) (hyl : X.env.scope.names.lookup y = some .local := by rfl) (hc : X.calm = true := by rfl) (hs : ∀ x, foldedSetIterable iter X.env x = pure x := by intro _; rfl) :
    PS X (.Assign [.Name y py] (.ListComp elt [⟨.Name x p, iter, ifs, 0⟩] scope pos) spos) (tS G W (setS j (frz (fLc i it t m)))) :=
  (ps_setLc hc hN hy hyl hsw hi ok hg ht he hs).imp fun D σ H h => by
    obtain h := setS_run h
    exact lc_run (frz_tF h)
end
end NS

set_option Elab.async false
set_option linter.all false
set_option maxRecDepth 100000
set_option maxHeartbeats 4000000
namespace NS
open PySem PySem.Spec L2
open PyProof.Rows hiding St

/-! ### dict displays -/
theorem putK_out {κ : Type} [DecidableEq κ] {kvs : List (κ × V)} {k : κ} (v : V) (h : k ∉ kvs.map (·.1)) : putK kvs k v = kvs ++ [(k, v)] := by
  refine putK_new v ?_
  unfold valV
  rw [List.find?_eq_none.mpr fun p hp => by
    simp only [decide_eq_true_eq]
    exact fun e => h (e ▸ List.mem_map_of_mem hp)]
  rfl
theorem mergeK_nodup : ∀ (more kvs : List (Key × V)), ((kvs ++ more).map (·.1)).Nodup → mergeK kvs more = kvs ++ more
  | [], kvs, _ => by simp [mergeK]
  | p :: r, kvs, h => by
    show mergeK (putK kvs p.1 p.2) r = _
    have hk : p.1 ∉ kvs.map (·.1) := fun hm => by
      rw [List.map_append, List.nodup_append] at h
      exact h.2.2 _ hm _ (by simp) rfl
    rw [putK_out p.2 hk, mergeK_nodup r _ (by simpa using h)]
    simp
/-- keys that are written, and what is read of the pairs -/
def PR (G : Wd) (W : WX) (trs : List (TE × TE)) (ks : List Ky) (ms : Ev → Out (List D)) : Prop :=
  ∀ σ H Q, tA G W ms σ H (fun vs H' => Q ((ks.map fun k => kV (ky k)).zip vs) H') → tPairs trs σ H Q
def fDct (ks : List Ky) (ms : Ev → Out (List D)) : Ev → Out Mu := fun ρ => (ms ρ).bind fun vs => .ok (.dct ks vs)
section
variable {X : Cx} {G : Wd} {W : WX} {pos : Pos} {m : EM} {ms : Ev → Out (List D)} {ks : List Ky} {trs : List (TE × TE)}
theorem pr_nil : PR G W [] [] nilM := fun σ H Q ⟨F, Xs, I, ρ, R, q⟩ => q I H [] (Lt.refl R) .nil
theorem pr_cons {k : Ky} (h : PR G W trs ks ms) : PR G W ((tC (kV (ky k)), tD G W m) :: trs) (k :: ks) (consM m ms) := fun σ H Q ⟨F, Xs, I, ρ, R, q⟩ => by
  show tD G W m σ H _
  refine ⟨F, Xs, I, ρ, R, ?_⟩
  rcases okA_bind q with ⟨d, z, q⟩ | ⟨e, z, q⟩
  · rw [z]
    intro I1 H1 x l1 r1
    refine h σ H1 _ ⟨F, Xs, I1, ρ, l1.r, ?_⟩
    rcases okA_bind (OkA.later l1 q) with ⟨ds, z2, q⟩ | ⟨e, z, q⟩
    · rw [z2]
      exact fun I2 H2 vs l2 r2 => q I2 H2 _ l2 (.cons (r1.mono l2.i) r2)
    · rw [z]; exact q
  · rw [z]; exact q
theorem k_str {x : Str} {j pos} (l : List Nat) (h : x = st l := by rfl) : PE X (.Constant (.str x) j pos) (tC (kV (ky (.inr l)))) := by subst h; exact pe_str
theorem k_int {i : Int} {j pos} : PE X (.Constant (.int i) j pos) (tC (kV (ky (.inl i)))) := pe_int
theorem zip_map_keys (ks : List Ky) : ∀ (vs : List V), ((ks.map fun k => kV (ky k)).zip vs) = ((ks.map ky).zip vs).map fun kv => (kV kv.1, kv.2) := by
  induction ks with
  | nil => intro vs; simp
  | cons k ks ih =>
    intro vs
    cases vs with
    | nil => simp
    | cons v vs => simp [ih vs]
theorem f_dct {keys : List (Option Expr)} {values : List Expr} {n : Nat} (h : PPs X pos keys values trs) (hp : PR G W trs ks ms) (hn : LenIs ms n) (hk : ks.length = n := by rfl) (hnd : ks.Nodup := by decide) (hall : keys.all (·.isSome) = true := by rfl) (hl : keys.length = values.length := by rfl)
    (h0 : keys ≠ [] := by intro z; cases z) (h15 : keys.length ≤ 15 := by decide) (hn15 : n ≤ 15 := by decide) : PE X (.Dict keys values pos) (tF G W (fDct ks ms)) :=
  (pe_disp h hall hl h0 h15).imp fun σ H Q ⟨F, Xs, I, ρ, R, q⟩ => by
    intro p hp0
    refine hp σ _ _ ⟨F, p :: Xs, I, ρ, R.alloc hp0, ?_⟩
    have lf := R.ltFresh hp0 (o := .dK [])
    unfold fDct at q
    cases z : ms ρ with
    | st => rw [z] at q; exact q.elim
    | er e =>
      rw [z] at q
      exact fun I' H' cls dx l x => q I' H' cls dx (R.after ⟨lf.i.trans l.i, lf.h.trans l.h, l.r.sub, fun a o e => (l.new a o e).elim (lf.new a o) fun z => .inr (lf.h.free z)⟩) x
    | ok ds =>
      rw [z] at q
      intro I1 H1 vs l1 r1
      have hv : vs.length = ks.length := by rw [r1.length, hn ρ ds z, hk]
      have hlz : ((ks.map ky).zip vs).length = ks.length := by rw [List.length_zip, List.length_map, hv, Nat.min_self]
      refine ⟨l1.h _ _ upd_same, (ks.map ky).zip vs, zip_map_keys ks vs, by rw [hlz, hk]; exact hn15, ?_⟩
      have hm : mergeK [] ((ks.map ky).zip vs) = (ks.map ky).zip vs := by
        refine mergeK_nodup _ _ ?_
        rw [List.nil_append, List.map_fst_zip (by rw [List.length_map, hv]; exact Nat.le_refl _)]
        exact (List.pairwise_map.mpr (List.Pairwise.imp (fun h e => h (ky_inj e)) hnd))
      rw [hm]
      refine q I1 _ p ⟨lf.i.trans l1.i, fun a o e => ?_, fun a o e => (l1.new a o e).elim (lf.new a o) fun z => .inr (lf.h.free z), hp0, l1.r.wrX⟩ ⟨vs, upd_same, hv, r1⟩
      rw [upd_ne (fun z => by subst z; rw [hp0] at e; cases e)]
      exact l1.h _ _ (lf.h a o e)
end
end NS

set_option Elab.async false
set_option linter.all false
set_option maxRecDepth 100000
set_option maxHeartbeats 4000000
namespace NS
open PySem PySem.Spec L2
open PyProof.Rows hiding St

section
variable {P : Program} {w : World} {G : Wd} {mg : Str → Option Value} {base : Heap} {x qual : Str} {params : Arguments} {body : List Stmt} {scope : Scope} {f : Addr} {fd : FuncData} {N ps : List Str} {k : Nat} {sem : SM}
/-- THE RULE for a def of data, with what its body may lean on -/
theorem fn_P' (F : FunD G.K x qual params body scope [] [] f fd) (S : FnScope N ps scope) (n m : Nat) (hn : ps.length = n) (hm : N.length - ps.length = m)
    (hb : ∀ (cdv : Value) (A : Around) (outer : List Env) (s : Shared) (H : Hp) (E : XK), Room k (A.deeper (envOfC qual scope s.heap.objs.size f cdv)) → Takes (cxOf (L2.CX P w) P w G.K mg base N qual scope f cdv A outer s H E) (fun cls d _ H => E cls d H) →
      PassesOwn (model P w) (A.deeper (envOfC qual scope s.heap.objs.size f cdv)) (envOfC qual scope s.heap.objs.size f cdv) (cxOf (L2.CX P w) P w G.K mg base N qual scope f cdv A outer s H E).xe →
      HuOk (cxOf (L2.CX P w) P w G.K mg base N qual scope f cdv A outer s H E) →
      PSs (cxOf (L2.CX P w) P w G.K mg base N qual scope f cdv A outer s H E) body (tS G (fun cls d _ H => E cls d H) sem)) :
    FnOk P w G.K mg base (L2.CX P w) (k + 1) f fd ps (SpP G (fnP n m sem)) :=
  fn_P F S n m hn hm fun cdv A outer s H E hr => hb cdv A outer s H E hr (takes_of rfl rfl rfl rfl) (passes_of (X := cxOf (L2.CX P w) P w G.K mg base N qual scope f cdv A outer s H E) rfl) hr.units
theorem fn_M' (F : FunD G.K x qual params body scope [] [] f fd) (S : FnScope N ps scope) (n m : Nat) (hn : ps.length = n) (hm : N.length - ps.length = m)
    (hb : ∀ (cdv : Value) (A : Around) (outer : List Env) (s : Shared) (H : Hp) (E : XK), Room k (A.deeper (envOfC qual scope s.heap.objs.size f cdv)) → Takes (cxOf (L2.CX P w) P w G.K mg base N qual scope f cdv A outer s H E) (fun cls d _ H => E cls d H) →
      PassesOwn (model P w) (A.deeper (envOfC qual scope s.heap.objs.size f cdv)) (envOfC qual scope s.heap.objs.size f cdv) (cxOf (L2.CX P w) P w G.K mg base N qual scope f cdv A outer s H E).xe →
      HuOk (cxOf (L2.CX P w) P w G.K mg base N qual scope f cdv A outer s H E) →
      PSs (cxOf (L2.CX P w) P w G.K mg base N qual scope f cdv A outer s H E) body (tS G (fun cls d _ H => E cls d H) sem)) :
    FnOk P w G.K mg base (L2.CX P w) (k + 1) f fd ps (SpM G (fnM n m sem)) :=
  fn_M F S n m hn hm fun cdv A outer s H E hr => hb cdv A outer s H E hr (takes_of rfl rfl rfl rfl) (passes_of (X := cxOf (L2.CX P w) P w G.K mg base N qual scope f cdv A outer s H E) rfl) hr.units
end

/-! ### constants of the module: tuples of ints and texts -/
def flatD : D → Option V
  | .int i => some (.int i)
  | .str l => some (.str (st l))
  | _ => none
def relB (v : V) (u : Value) : Bool := match v, u with
  | .int i, .int j _ => decide (i = j)
  | .str a, .str b _ => decide (a = b)
  | _, _ => false
theorem relB_ok {v : V} {u : Value} (h : relB v u = true) : RelV v u := by
  unfold relB at h
  split at h
  · have := of_decide_eq_true h
    subst this
    exact ⟨_, rfl⟩
  · have := of_decide_eq_true h
    subst this
    exact ⟨_, rfl⟩
  · cases h
def relsB : List V → List Value → Bool
  | [], [] => true
  | v :: vs, u :: us => relB v u && relsB vs us
  | _, _ => false
theorem relsB_ok : ∀ {vs : List V} {us : List Value}, relsB vs us = true → Vals vs us
  | [], [], _ => .nil
  | v :: vs, u :: us, h => by
    obtain ⟨h1, h2⟩ := Bool.and_eq_true_iff.mp h
    exact .cons (relB_ok h1) (relsB_ok h2)
  | [], _ :: _, h => by cases h
  | _ :: _, [], h => by cases h
/-- at the module's name x stands a tuple of these -/
def gtupB (K : PySem.W.Frag) (x : Str) (vs : List V) : Bool := decide (PySem.W.nsIn K mainGlobals x = some (some (.ref (He.ga K x)))) && (match K.lookup (He.ga K x) with
  | some o => decide (o.cls = .type "tuple") && (match o.data with
    | .seq its _ => decide (its.size ≤ 1000) && relsB vs its.toList
    | _ => false)
  | none => false)
def GTup (G : Wd) (mg : Str → Option Value) (x : Str) (l : List D) : Prop := ∃ (a : Addr) (vs : List V), mg x = some (.ref a) ∧ (∀ I, SqT G.K I a vs) ∧ ∀ I, RepA G I vs l
def flatsD : List D → Option (List V)
  | [] => some []
  | d :: ds => (flatD d).bind fun v => (flatsD ds).map (v :: ·)
theorem flats_rep {G : Wd} {I : Hp} : ∀ {l : List D} {vs : List V}, flatsD l = some vs → RepA G I vs l
  | [], vs, h => by cases h; exact .nil
  | d :: ds, vs, h => by
    unfold flatsD at h
    cases e : flatD d with
    | none => rw [e] at h; cases h
    | some v =>
      rw [e] at h
      obtain ⟨r, h1, rfl⟩ := Option.map_eq_some_iff.mp h
      refine .cons ?_ (flats_rep h1)
      cases d <;> cases e
      · exact .int _
      · exact .str _
theorem gtup_of {K : PySem.W.Frag} {cl : Nat → Addr} {h : Heap} {mg : Str → Option Value} {x : Str} {vs : List V} {l : List D} (X : K.In h) (N : h.Ns mainGlobals mg) (c : gtupB K x vs = true) (hl : flatsD l = some vs) : GTup ⟨K, cl⟩ mg x l := by
  obtain ⟨h1, h2⟩ := Bool.and_eq_true_iff.mp c
  refine ⟨He.ga K x, vs, PySem.W.mg_of X N (of_decide_eq_true h1), fun I => .inr ?_, fun I => flats_rep hl⟩
  cases e : K.lookup (He.ga K x) with
  | none => rw [e] at h2; cases h2
  | some o =>
    rw [e] at h2
    obtain ⟨h3, h4⟩ := Bool.and_eq_true_iff.mp h2
    cases e2 : o.data with
    | seq its n =>
      rw [e2] at h4
      obtain ⟨h5, h6⟩ := Bool.and_eq_true_iff.mp h4
      exact ⟨o, its, n, rfl, of_decide_eq_true h3, e2, by rw [line_eq]; have := of_decide_eq_true h5; omega, relsB_ok h6⟩
    | _ => rw [e2] at h4; cases h4
theorem e_gtup {X : Cx} {G : Wd} {W : WX} {pos : Pos} {x : Str} {l : List D} (h : GTup G X.mg x l) (hg : Gl X x := by rfl) (hd : (x == ("__debug__" : Str)) = false := by decide) : PE X (.Name x pos) (tD G W (cst (.tup l))) := by
  obtain ⟨a, vs, h1, h2, h3⟩ := h
  exact e_cst (pe_glob (v := .ref a) hg h1 rfl hd) fun I => .tup (h2 I) (h3 I)

/-! ### the law -/
theorem law_sp {K : PySem.W.Frag} {cl : Nat → Addr} {H : Hp} {a : Addr} {ns : List Int} {m : List D → Out D} (hS : SqL K H a (ns.map V.int)) (h : m [.scr ns] = .ok (.bl true)) :
    SpP ⟨K, cl⟩ m [.ref a] H (fun v _ => v = .bl true) fun _ _ _ => False := by
  refine ⟨H, [.scr ns], Same.refl _, .cons (.scr hS) .nil, ?_⟩
  rw [h]
  intro I' H' v _ r
  cases r
  rfl
theorem walk_ofEW {l : PySem.W.OpenLaw} {n k : Nat} {q : Program} {loose : List Str} {XP : (Str → Option Value) → Heap → Prop} {YP : World → Heap → Prop} {d : DefRec} {CX : World → CXT} {x : Str}
    (hn : l.most = some n) (hn2 : n ≤ sizeLine) (hdf : d.params.defaults = []) (hr : Room k callerA)
    (F : ∀ (w : World) (mg : Str → Option Value) (fa : Addr) (h : Heap), YP w h → h.Ns mainGlobals mg → mg d.name = some (.ref fa) →
      ∃ (K : PySem.W.Frag) (fd : FuncData) (sp : Sp), K.In h ∧ (∀ (s : Shared) (u : Value), BindsTo s fd ⟨[u], []⟩ [(x, u)]) ∧
        (∀ (H : Hp) (a : Addr) (ns : List Int), ns.length ≤ n → Only H → SqL K H a (ns.map V.int) → sp [.ref a] H (fun v _ => v = .bl true) fun _ _ _ => False) ∧
        ∀ base : Heap, K.In base → base.Ns mainGlobals mg → FnOk l.prog w K mg base (CX w) k fa fd [x] sp)
    (hCX : ∀ (w : World) (H : Hp) (s : Shared) (e : Value) (s' : Shared), CX w [] H s (fun _ _ _ => False) e s' → False) :
    PySem.W.WalkO q loose XP YP l.row.toRowW d [] (fun f vs => PySem.call f vs) := by
  refine Att.attach_call hn hdf fun w s₀ s₁ mg mb fa o pm cd doc a vs ns G Y ho hd hcd hmg hobj hints hlen hg => ?_
  obtain ⟨K, fd, sp, KX, hb, hsp, hF⟩ := F w mg fa _ Y G.T.g hmg
  exact law_call KX G.T.g G.T.b G.T.builtins G.T.nolimit hg hobj hints (Nat.le_trans hlen hn2) hr hF hb (fun H hO hS => hsp H a ns hlen hO hS) fun H e s' => hCX w H s₁ e s'
end NS

set_option Elab.async false
set_option linter.all false
set_option maxRecDepth 100000
set_option maxHeartbeats 4000000
namespace NS
open PySem PySem.Spec L2
open PyProof.Rows hiding St

section
variable {X : Cx} {G : Wd} {W : WX} {pos : Pos} {e o f : Expr} {m ma mb mc : EM}
/-- a negative number, as it is written -/
theorem e_negc {i : Int} {j p pos'} : PE X (.UnaryOp .USub (.Constant (.int i) j p) pos') (tD G W (cst (.int (-i)))) :=
  (pe_un un_neg pe_int).imp fun σ H Q ⟨F, Xs, I, ρ, R, q⟩ => ⟨i, rfl, q I H _ (Lt.refl R) (.int _)⟩
def dPow : D → D → Out D
  | .int a, .int b => if 0 ≤ b ∧ b ≤ 1000000 ∧ a.natAbs < 2 ^ 64 then .ok (.int (a ^ b.toNat)) else .st
  | _, _ => .st
theorem oPow : OpB G X (binaryOp .Pow) dPow := by
  intro pins s σ H x y v u Q Iv rx ry ⟨F, Xs, I, ρ, σ', dx, dy, d, R, vx, vy, hop, q⟩
  cases dx <;> cases dy <;> simp only [dPow] at hop <;> first | cases hop | skip
  split at hop <;> first | cases hop | skip
  rename_i hl
  obtain rfl := vx.int
  obtain rfl := vy.int
  exact op_pow pins s σ H _ _ v u Q Iv rx ry ⟨_, _, rfl, rfl, hl, q I H _ (Lt.refl R) (.int _)⟩
def dIsT : D → D → Out D
  | .bl b, .bl c => .ok (.bl (b == c))
  | .non, .bl _ => .ok (.bl false)
  | _, _ => .st
theorem oIsT : OpB G X (compareOp .Is) dIsT := by
  intro pins s σ H x y v u Q Iv rx ry ⟨F, Xs, I, ρ, σ', dx, dy, d, R, vx, vy, hop, q⟩
  cases dx <;> cases dy <;> simp only [dIsT] at hop <;> first | cases hop | skip
  · obtain rfl := vx.non
    obtain rfl := vy.bl
    obtain rfl : v = .none := rx
    obtain rfl : u = .bool _ := ry
    exact wpAny_pure (a := Value.bool false) ⟨.bl false, H, Iv, rfl, q I H _ (Lt.refl R) (.bl _)⟩
  · obtain rfl := vx.bl
    obtain rfl := vy.bl
    obtain rfl : v = .bool _ := rx
    obtain rfl : u = .bool _ := ry
    exact is_bool ⟨.bl _, H, Iv, rfl, q I H _ (Lt.refl R) (.bl _)⟩
/-- d.get(k, x) -/
def dGet : D → D → D → Out D
  | .dct ks vs, k, x => match kOf k with
    | some j => .ok ((dlook ks vs j).getD x)
    | none => .st
  | _, _, _ => .st
def getM (a b c : EM) : EM := fun ρ => (a ρ).bind fun x => match x with
  | .dct ks vs => (b ρ).bind fun y => (c ρ).bind fun z => noer (dGet (.dct ks vs) y z)
  | _ => .st
@[simp] theorem getM_ap {a b c : EM} {ρ : Ev} : getM a b c ρ = (a ρ).bind fun x => match x with
  | .dct ks vs => (b ρ).bind fun y => (c ρ).bind fun z => noer (dGet (.dct ks vs) y z)
  | _ => .st := rfl
/-- a value seen as data and seen to be a dict -/
theorem VB.isD {I H : Hp} {v : V} {d : D} (s : Same I H) {ks : List Ky} {vs : List D} (r : VB G I H v (.dct ks vs)) : ∃ a, v = .ref a ∧ IsD H a := by
  obtain ⟨a, xs, e, h, _⟩ := r.dct s
  exact ⟨a, e, .inl ⟨_, .inl h⟩⟩
theorem e_get {apos cpos : Pos} (hu : HuOk X) (ho : PE X o (tB G W ma)) (he : PE X e (tB G W mb)) (hf : PE X f (tD G W mc)) (mm : M2 X o "get" apos e f cpos := by exact ⟨rfl, rfl, rfl, rfl⟩) :
    PE X (.Call (.Attribute o "get" apos) [e, f] [] cpos) (tD G W (getM ma mb mc)) :=
  (pe_dget2 (by omega) ho he hf mm).imp fun σ H Q ⟨F, Xs, I, ρ, R, q⟩ => ⟨F, Xs, I, ρ, R, by
    unfold getM at q
    rcases okD_bind q with ⟨x, z, q⟩ | ⟨e, z, q⟩
    · rw [z]
      intro I1 H1 v l1 r1
      cases x <;> first | exact q.elim | skip
      rename_i ks vs
      obtain ⟨a, xs, rfl, hx, hlen, rx⟩ := r1.dct l1.r.sub
      refine ⟨a, rfl, .inl ⟨_, .inl hx⟩, F, Xs, I1, ρ, l1.r, ?_⟩
      rcases okD_bind (OkD.later l1 q) with ⟨y, z2, q⟩ | ⟨e, z2, q2⟩
      · rw [z2]
        intro I2 H2 w l2 r2
        refine ⟨F, Xs, I2, ρ, l2.r, ?_⟩
        rcases okD_bind (OkD.later l2 q) with ⟨u, z3, q⟩ | ⟨e, z3, q3⟩
        · rw [z3]
          intro I3 H3 t l3 r3
          unfold dGet at q
          simp only [] at q
          cases hk : kOf y with
          | none => rw [hk] at q; exact q.elim
          | some j =>
            rw [hk] at q
            simp only [] at q
            have hx3 := l3.h _ _ (l2.h _ _ hx)
            have rx3 := (rx.mono l2.i).mono l3.i
            refine ⟨_, dK_get hx3 hk (r2.later l3.i l3.h), ?_⟩
            rcases valV_look j hlen rx3 with ⟨e1, e2⟩ | ⟨d, v, e1, e2, r4⟩
            · rw [e2]
              rw [e1] at q
              exact q I3 H3 _ l3 r3
            · rw [e2]
              rw [e1] at q
              exact q I3 H3 _ l3 r4
        · rw [z3]; exact q3
      · rw [z2]; exact q2
    · rw [z]; exact q⟩
end

/-! ### what is ours is changed where it stands -/
section
variable {G : Wd} {F : Fr0} {X : List Addr} {I H H' : Hp} {ρ : Ev} {σ : St}
theorem nodup_set : ∀ {fps : List (List Addr)} {i : Nat} {fp fp' : List Addr}, fps.flatten.Nodup → fps[i]? = some fp → fp'.Nodup → (∀ b ∈ fp', b ∈ fp ∨ b ∉ fps.flatten) →
    (fps.set i fp').flatten.Nodup ∧ ∀ b ∈ (fps.set i fp').flatten, b ∈ fp' ∨ (b ∈ fps.flatten ∧ b ∉ fp)
  | [], _, _, _, _, h, _, _ => by simp at h
  | p :: ps, 0, fp, fp', hn, h, h1, h2 => by
    simp at h
    subst h
    simp only [List.set_cons_zero, List.flatten_cons] at hn ⊢
    rw [List.nodup_append] at hn
    obtain ⟨n1, n2, n3⟩ := hn
    refine ⟨List.nodup_append.mpr ⟨h1, n2, fun a ha b hb e => ?_⟩, fun b hb => ?_⟩
    · subst e
      rcases h2 a ha with q | q
      · exact n3 a q a hb rfl
      · exact q (by simp only [List.flatten_cons, List.mem_append]; exact .inr hb)
    · rcases List.mem_append.mp hb with q | q
      · exact .inl q
      · exact .inr ⟨List.mem_append_right _ q, fun z => n3 b z b q rfl⟩
  | p :: ps, i + 1, fp, fp', hn, h, h1, h2 => by
    simp only [List.set_cons_succ, List.flatten_cons] at hn ⊢
    rw [List.nodup_append] at hn
    obtain ⟨n1, n2, n3⟩ := hn
    have h' : ps[i]? = some fp := by simpa using h
    have hin : ∀ b ∈ fp, b ∈ ps.flatten := fun b hb => List.mem_flatten.mpr ⟨fp, List.mem_of_getElem? h', hb⟩
    obtain ⟨g1, g2⟩ := nodup_set n2 h' h1 fun b hb => (h2 b hb).imp id fun q => fun z => q (by simp only [List.flatten_cons, List.mem_append]; exact .inr z)
    refine ⟨List.nodup_append.mpr ⟨n1, g1, fun a ha b hb e => ?_⟩, fun b hb => ?_⟩
    · subst e
      rcases g2 a hb with q | q
      · rcases h2 a q with z | z
        · exact n3 a ha a (hin a z) rfl
        · exact z (by simp only [List.flatten_cons, List.mem_append]; exact .inl ha)
      · exact n3 a ha a q.1 rfl
    · rcases List.mem_append.mp hb with q | q
      · exact .inr ⟨List.mem_append_left _ q, fun z => n3 b q b (hin b z) rfl⟩
      · rcases g2 b q with z | z
        · exact .inl z
        · exact .inr ⟨List.mem_append_right _ z.1, z.2⟩
theorem CellsR.wr {c : Ce} {fp' : List Addr} {v : Option V} : ∀ {ρ : Ev} {σ : St} {fps : List (List Addr)} {i : Nat} {fp : List Addr}, CellsR G F I H ρ σ fps → fps[i]? = some fp → σ[i]? = some v →
    (∀ b, b ∉ fp → H' b = H b) → fps.flatten.Nodup → CellR G F I H' c v fp' → CellsR G F I H' (ρ.set i c) σ (fps.set i fp')
  | _, _, _, _, _, .nil, h, _, _, _, _ => by simp at h
  | _, _, _, 0, _, .cons r t, h, hs, hh, hn, hc => by
    simp at h hs
    subst h hs
    simp only [List.flatten_cons] at hn
    exact .cons hc (t.frame (Same.refl I) fun a ha => hh a fun z => (List.nodup_append.mp hn).2.2 a z a ha rfl)
  | _, _, _, i + 1, fp, .cons (fps := fps) r t, h, hs, hh, hn, hc => by
    simp only [List.flatten_cons] at hn
    obtain ⟨n1, n2, n3⟩ := List.nodup_append.mp hn
    have h' : fps[i]? = some fp := by simpa using h
    exact .cons (r.frame (Same.refl I) fun a ha => hh a fun z => n3 a ha a (List.mem_flatten.mpr ⟨fp, List.mem_of_getElem? h', z⟩) rfl) (CellsR.wr t h' (by simpa using hs) hh n2 hc)
theorem set_get_ne {α : Type} {l : List α} {i j : Nat} {x : α} (h : i ≠ j) : (l.set i x)[j]? = l[j]? := List.getElem?_set_ne h
theorem Rel.own {i : Nat} {p : Bool} {o : Ob} (R : Rel G F X I ρ σ H) (z : gt ρ i = .own p o) : ∃ v fp, σ[i]? = some (some v) ∧ OR G I H v o fp ∧ (∀ b ∈ fp, I b = none ∧ b ∉ X) ∧
    ∀ (H' : Hp) (o' : Ob) (fp' X' : List Addr), (∀ b, b ∉ fp → H' b = H b) → (∀ b ∈ fp, H' b ≠ none) → OR G I H' v o' fp' → (X' ++ fp').Nodup → (∀ b ∈ X', b ∈ X) → (∀ b ∈ fp', b ∈ X ∨ b ∈ fp) → Rel G F X' I (ρ.set i (.own p o')) σ H' := by
  obtain ⟨fps, c1, c2, c3⟩ := R.cells
  have zi := gt_get z (by simp)
  obtain ⟨v, fp, h1, h2, u, h3, h4, h5⟩ := c1.get zi
  subst h3
  have hin : ∀ b ∈ fp, b ∈ fps.flatten := fun b hb => List.mem_flatten.mpr ⟨fp, List.mem_of_getElem? h2, hb⟩
  obtain ⟨x1, x2, x3⟩ := List.nodup_append.mp c2
  have hnone : ∀ b ∈ fp, I b = none := fun b hb => c3 b (List.mem_append_right _ (hin b hb))
  refine ⟨u, fp, h1, h4, fun b hb => ⟨hnone b hb, fun q => x3 b q b (hin b hb) rfl⟩, fun H' o' fp' X' hh hh2 ho hn hX hf => ?_⟩
  obtain ⟨y1, y2, y3⟩ := List.nodup_append.mp hn
  obtain ⟨g1, g2⟩ := nodup_set x2 h2 y2 fun b hb => by
    rcases hf b hb with q | q
    · exact .inr fun z => x3 b q b z rfl
    · exact .inl q
  refine ⟨fun b w e => ?_, fun b w e hb => ?_, fun b e => ?_, R.inew, R.i0, fun b hb => ?_, fun q hq => ?_, fps.set i fp', c1.wr h2 h1 hh x2 ⟨u, rfl, ho, fun b hb => ?_⟩, List.nodup_append.mpr ⟨y1, g1, fun a ha b hb e => ?_⟩, fun b hb => ?_⟩
  · rw [hh b fun q => by rw [hnone b q] at e; cases e]; exact R.sub b w e
  · rw [hh b fun q => by
      rcases h5 b q with z | ⟨_, z⟩
      · rw [z] at e; cases e
      · exact hb z]
    exact R.keep b w e hb
  · by_cases q : b ∈ fp
    · exact (hh2 b q e).elim
    · rw [hh b q] at e; exact R.dom b e
  · obtain ⟨z1, z2⟩ := R.xnew b (hX b hb)
    refine ⟨z1, ?_⟩
    rw [hh b fun q => x3 b (hX b hb) b (hin b q) rfl]
    exact z2
  · obtain ⟨q1, w, q2⟩ := R.pins q hq
    refine ⟨q1, ?_⟩
    by_cases e : i = q.1
    · have : p = true := by
        rw [← e] at q2
        rw [zi] at q2
        cases q2; rfl
      subst this
      refine ⟨o', ?_⟩
      rw [← e]
      have hl : i < ρ.length := by
        have := List.getElem?_eq_some_iff.mp zi
        exact this.1
      rw [List.getElem?_set_self hl]
    · exact ⟨w, by rw [set_get_ne e]; exact q2⟩
  · rcases hf b hb with q | q
    · exact .inl (R.xnew b q).1
    · exact h5 b q
  · subst e
    rcases g2 a hb with q | q
    · exact y3 a ha a q rfl
    · exact x3 a (hX a ha) a q.1 rfl
  · rcases List.mem_append.mp hb with q | q
    · exact c3 b (List.mem_append_left _ (hX b q))
    · rcases g2 b q with q | q
      · rcases hf b q with z | z
        · exact c3 b (List.mem_append_left _ z)
        · exact hnone b z
      · exact c3 b (List.mem_append_right _ q.1)
/-- a list or a dict of ours, written -/
theorem Rel.wrM {i : Nat} {p : Bool} {m m' : Mu} (R : Rel G F X I ρ σ H) (z : gt ρ i = .own p (.m m)) : ∃ a, σ[i]? = some (some (.ref a)) ∧ MR G I H a m ∧
    ∀ o', MR G I (upd H a o') a m' → Rel G F X I (ρ.set i (.own p (.m m'))) σ (upd H a o') := by
  obtain ⟨v, fp, h1, ⟨a, rfl, rfl, h2⟩, h3, h4⟩ := R.own z
  refine ⟨a, h1, h2, fun o' r => h4 _ _ [a] X (fun b hb => upd_ne (by simpa using hb)) (fun b hb => ?_) ⟨a, rfl, rfl, r⟩ ?_ (fun _ h => h) (fun b hb => .inr hb)⟩
  · have : b = a := by simpa using hb
    subst this
    rw [upd_same]; simp
  · obtain ⟨fps, _, c2, _⟩ := R.cells
    refine List.nodup_append.mpr ⟨(List.nodup_append.mp c2).1, by simp, fun b hb c hc e => ?_⟩
    have : c = a := by simpa using hc
    subst this e
    exact (h3 b (by simp)).2 hb
/-- .. handed on: the slot holds nothing that is ours -/
theorem Rel.release {i : Nat} {m : Mu} (R : Rel G F [] I ρ σ H) (z : gt ρ i = .own false (.m m)) : ∃ a, σ[i]? = some (some (.ref a)) ∧ MR G I H a m ∧ Rel G F [a] I (ρ.set i .un) σ H := by
  obtain ⟨fps, c1, c2, c3⟩ := R.cells
  have zi := gt_get z (by simp)
  obtain ⟨v, fp, h1, h2, u, h3, ⟨a, rfl, rfl, h4⟩, h5⟩ := c1.get zi
  subst h3
  have hn : fps.flatten.Nodup := by simpa using c2
  have hf : free ρ i = true := by unfold free; rw [z]
  have ain : a ∈ fps.flatten := List.mem_flatten.mpr ⟨[a], List.mem_of_getElem? h2, by simp⟩
  have fresh : F.H0 a = none := by
    rcases h5 a (by simp) with q | ⟨q, _⟩
    · exact q
    · cases q
  have c4 := c1.set (c := .un) (v := some (.ref a)) (fp := []) rfl i
  rw [List.set_self h1] at c4
  refine ⟨a, h1, h4, R.sub, R.keep, R.dom, R.inew, R.i0, fun b hb => ?_, fun p hp => ?_, fps.set i [], c4, ?_, fun b hb => ?_⟩
  · have : b = a := by simpa using hb
    subst this
    exact ⟨fresh, h4.there⟩
  · have q := R.pins_set (v := some (.ref a)) (c := .un) hf p hp
    rw [List.set_self h1] at q
    exact q
  · exact List.nodup_append.mpr ⟨by simp, hn.sublist (sub_flat_set fps i), fun b hb c hc e => by
      have : b = a := by simpa using hb
      subst this e
      exact flat_set_out fps i [b] h2 hn b (by simp) hc⟩
  · rcases List.mem_append.mp hb with hb | hb
    · have : b = a := by simpa using hb
      subst this
      exact c3 b (by simpa using ain)
    · exact c3 b (by simpa using (sub_flat_set fps i).subset hb)
end
end NS

set_option Elab.async false
set_option linter.all false
set_option maxRecDepth 100000
set_option maxHeartbeats 4000000
namespace NS
open PySem PySem.Spec L2
open PyProof.Rows hiding St

/-! ### own lists and dicts in statements -/
/-- x.append(e) -/
def appS (i : Nat) (m : EM) : SM := fun ρ => match m ρ with
  | .ok x => (match gt ρ i with
    | .own p (.m (.lst l)) => if l.length < 16777216 then .nx (ρ.set i (.own p (.m (.lst (l ++ [x]))))) else .st
    | _ => .st)
  | .er e => (match gt ρ i with
    | .own p (.m (.lst l)) => .er e ρ
    | _ => .st)
  | .st => .st
@[simp] theorem appS_ap {i : Nat} {m : EM} {ρ : Ev} : appS i m ρ = match m ρ with
  | .ok x => (match gt ρ i with
    | .own p (.m (.lst l)) => if l.length < 16777216 then .nx (ρ.set i (.own p (.m (.lst (l ++ [x]))))) else .st
    | _ => .st)
  | .er e => (match gt ρ i with
    | .own p (.m (.lst l)) => .er e ρ
    | _ => .st)
  | .st => .st := rfl
/-- x.pop(), y = x.pop() -/
def popS (i : Nat) : SM := fun ρ => match gt ρ i with
  | .own p (.m (.lst l)) => if l = [] then .st else .nx (ρ.set i (.own p (.m (.lst l.dropLast))))
  | _ => .st
@[simp] theorem popS_ap {i : Nat} {ρ : Ev} : popS i ρ = match gt ρ i with
  | .own p (.m (.lst l)) => if l = [] then .st else .nx (ρ.set i (.own p (.m (.lst l.dropLast))))
  | _ => .st := rfl
def setPopS (j i : Nat) : SM := fun ρ => match gt ρ i with
  | .own p (.m (.lst l)) => (match l.getLast? with
    | some x => if j ≠ i ∧ free ρ j = true then .nx ((ρ.set i (.own p (.m (.lst l.dropLast)))).set j (.d x)) else .st
    | none => .st)
  | _ => .st
@[simp] theorem setPopS_ap {i j : Nat} {ρ : Ev} : setPopS j i ρ = match gt ρ i with
  | .own p (.m (.lst l)) => (match l.getLast? with
    | some x => if j ≠ i ∧ free ρ j = true then .nx ((ρ.set i (.own p (.m (.lst l.dropLast)))).set j (.d x)) else .st
    | none => .st)
  | _ => .st := rfl
/-- x[k] = e, x a list -/
def putLS (i : Nat) (mk mv : EM) : SM := fun ρ => match mv ρ with
  | .ok x => (match gt ρ i with
    | .own p (.m (.lst l)) => (match mk ρ with
      | .ok (.int k) => (match ixN l.length k with
        | some j => .nx (ρ.set i (.own p (.m (.lst (l.set j x)))))
        | none => .st)
      | .er e => .er e ρ
      | _ => .st)
    | _ => .st)
  | .er e => .er e ρ
  | .st => .st
@[simp] theorem putLS_ap {i : Nat} {mk mv : EM} {ρ : Ev} : putLS i mk mv ρ = match mv ρ with
  | .ok x => (match gt ρ i with
    | .own p (.m (.lst l)) => (match mk ρ with
      | .ok (.int k) => (match ixN l.length k with
        | some j => .nx (ρ.set i (.own p (.m (.lst (l.set j x)))))
        | none => .st)
      | .er e => .er e ρ
      | _ => .st)
    | _ => .st)
  | .er e => .er e ρ
  | .st => .st := rfl
/-- x[k] = e, x a dict -/
def repV : List Ky → List D → Ky → D → List D
  | k :: ks, v :: vs, j, x => (if k = j then x else v) :: repV ks vs j x
  | _, vs, _, _ => vs
def putD (ks : List Ky) (vs : List D) (j : Ky) (x : D) : Mu := if (ks.any fun k => decide (k = j)) = true then .dct ks (repV ks vs j x) else .dct (ks ++ [j]) (vs ++ [x])
def putDS (i : Nat) (mk mv : EM) : SM := fun ρ => match mv ρ with
  | .ok x => (match gt ρ i with
    | .own p (.m (.dct ks vs)) => (match mk ρ with
      | .ok y => (match kOf y with
        | some j => if ks.length < 16777216 then .nx (ρ.set i (.own p (.m (putD ks vs j x)))) else .st
        | none => .st)
      | .er e => .er e ρ
      | _ => .st)
    | _ => .st)
  | .er e => .er e ρ
  | .st => .st
@[simp] theorem putDS_ap {i : Nat} {mk mv : EM} {ρ : Ev} : putDS i mk mv ρ = match mv ρ with
  | .ok x => (match gt ρ i with
    | .own p (.m (.dct ks vs)) => (match mk ρ with
      | .ok y => (match kOf y with
        | some j => if ks.length < 16777216 then .nx (ρ.set i (.own p (.m (putD ks vs j x)))) else .st
        | none => .st)
      | .er e => .er e ρ
      | _ => .st)
    | _ => .st)
  | .er e => .er e ρ
  | .st => .st := rfl
/-- return x, x ours -/
def retOS (i : Nat) : SM := fun ρ => match gt ρ i with
  | .own false (.m m) => .rt (.o (.m m)) (ρ.set i .un)
  | _ => .st
@[simp] theorem retOS_ap {i : Nat} {ρ : Ev} : retOS i ρ = match gt ρ i with
  | .own false (.m m) => .rt (.o (.m m)) (ρ.set i .un)
  | _ => .st := rfl
section
variable {X : Cx} {G : Wd} {W : WX} {e ke : Expr} {m mk mv : EM} {x : Str} {pos p cpos apos pos' : Pos} {i j : Nat}
theorem s_append (hn : PE X (.Name x p) (tVar i)) (he : PE X e (tD G W m)) (hbase : attributeBase (.Name x p) "append" X.env (eval (.Name x p) X.env) = eval (.Name x p) X.env := by rfl)
    (hfew : ((backTo cpos (starEach [e] X.env)).all (fun x => !x.1) && (backToKw cpos (keywordEach [] X.env)).all (fun x => x.1.isSome)
      && decide (([e] : List Expr).length + ([] : List Keyword).length + (if ([] : List Keyword).isEmpty then 0 else 1) < 30)) = true := by rfl)
    (hline : (apos.endLine == cpos.line) = true := by rfl) (hs : starEach [e] X.env = [(false, eval e X.env)] := by rfl) (hsw : swapsWith (.Call (.Attribute (.Name x p) "append" apos) [e] [] cpos) none pos.line X.env = pure false := by rfl) :
    PS X (.Expr (.Call (.Attribute (.Name x p) "append" apos) [e] [] cpos) pos) (tS G W (appS i m)) :=
  (ps_expr (pe_bm PySem.F.plainAttrs_list PySem.F.slot_list_append PySem.F.type_list_append mt_append hn (PA.one he hs) hbase hfew hline hs rfl) hsw).imp fun D σ H ⟨F, I, ρ, R, q⟩ => by
    unfold appS at q
    have own : ∀ {pp : Bool} {l : List NS.D}, gt ρ i = .own pp (.m (.lst l)) → ∃ a, σ[i]? = some (some (.ref a)) ∧ tyV X.K "list" (.ref a) H := fun z => by
      obtain ⟨a, h1, ⟨xs, h2, h3⟩, _⟩ := R.wrM (m' := .lst []) z
      exact ⟨a, h1, .inl ⟨rfl, xs, SqL.of h2⟩⟩
    cases z : m ρ with
    | st => rw [z] at q; exact q.elim
    | er ex =>
      rw [z] at q
      simp only [] at q
      cases z2 : gt ρ i <;> rw [z2] at q <;> first | exact q.elim | skip
      rename_i pp o
      cases o <;> first | exact q.elim | skip
      rename_i mm
      cases mm <;> first | exact q.elim | skip
      obtain ⟨a, h1, h2⟩ := own z2
      refine ⟨_, h1, h2, F, [], I, ρ, R, ?_⟩
      rw [z]
      exact erS (Xs := []) q
    | ok d =>
      rw [z] at q
      simp only [] at q
      cases z2 : gt ρ i <;> rw [z2] at q <;> first | exact q.elim | skip
      rename_i pp o
      cases o <;> first | exact q.elim | skip
      rename_i mm
      cases mm <;> first | exact q.elim | skip
      rename_i l
      simp only [] at q
      split at q
      · rename_i hl
        obtain ⟨a, h1, h2⟩ := own z2
        refine ⟨_, h1, h2, F, [], I, ρ, R, ?_⟩
        rw [z]
        intro I1 H1 v l1 r1
        obtain ⟨a', g1, ⟨xs, g2, g3⟩, g4⟩ := l1.r.wrM (m' := .lst (l ++ [d])) z2
        rw [h1] at g1
        cases g1
        refine ⟨a, xs, v, rfl, rfl, g2, by rw [g3.length, line_eq]; exact hl, ?_⟩
        exact q I1 σ _ l1.i (g4 _ ⟨_, upd_same, g3.append (.cons r1 .nil)⟩)
      · exact q.elim
theorem RepA.dropLast {G : Wd} {I : Hp} {xs : List V} {ds : List D} (r : RepA G I xs ds) : RepA G I xs.dropLast ds.dropLast := by
  rw [List.dropLast_eq_take, List.dropLast_eq_take, r.length]
  exact r.take _
theorem s_pop (hn : PE X (.Name x p) (tVar i)) (hbase : attributeBase (.Name x p) "pop" X.env (eval (.Name x p) X.env) = eval (.Name x p) X.env := by rfl)
    (hline : (apos.endLine == cpos.line) = true := by rfl) (hsw : swapsWith (.Call (.Attribute (.Name x p) "pop" apos) [] [] cpos) none pos.line X.env = pure false := by rfl) :
    PS X (.Expr (.Call (.Attribute (.Name x p) "pop" apos) [] [] cpos) pos) (tS G W (popS i)) :=
  (ps_expr (pe_bm0 PySem.F.plainAttrs_list PySem.F.slot_list_pop PySem.F.type_list_pop mt_pop hn hbase hline) hsw).imp fun D σ H ⟨F, I, ρ, R, q⟩ => by
    unfold popS at q
    cases z2 : gt ρ i <;> rw [z2] at q <;> first | exact q.elim | skip
    rename_i pp o
    cases o <;> first | exact q.elim | skip
    rename_i mm
    cases mm <;> first | exact q.elim | skip
    rename_i l
    simp only [] at q
    split at q
    · exact q.elim
    · rename_i hl
      obtain ⟨a, g1, ⟨xs, g2, g3⟩, g4⟩ := R.wrM (m' := .lst l.dropLast) z2
      have hne : xs ≠ [] := fun e => by subst e; cases g3; exact hl rfl
      obtain ⟨y, hy⟩ : ∃ y, xs[xs.length - 1]? = some y := ⟨xs.getLast hne, by rw [← List.getLast?_eq_getElem?, List.getLast?_eq_some_getLast hne]⟩
      exact ⟨_, g1, .inl ⟨rfl, xs, SqL.of g2⟩, a, xs, y, rfl, rfl, g2, hy, q I σ _ (Same.refl I) (g4 _ ⟨_, upd_same, g3.dropLast⟩)⟩
theorem gt_set_ne : ∀ {ρ : Ev} {i j : Nat} {c : Ce}, i ≠ j → gt (ρ.set i c) j = gt ρ j
  | [], _, _, _, _ => rfl
  | _ :: _, 0, 0, _, h => (h rfl).elim
  | _ :: _, 0, _ + 1, _, _ => rfl
  | _ :: _, _ + 1, 0, _, _ => rfl
  | _ :: cs, i + 1, j + 1, _, h => gt_set_ne (ρ := cs) fun e => h (by rw [e])
theorem s_setPop {y : Str} (hN : X.N.Nodup) (hn : PE X (.Name x p) (tVar i)) (hj : X.N[j]? = some y := by rfl) (hx : Loc X.env.scope y := by first | exact Or.inl rfl | exact Or.inr rfl)
    (hbase : attributeBase (.Name x p) "pop" X.env (eval (.Name x p) X.env) = eval (.Name x p) X.env := by rfl)
    (hline : (apos.endLine == cpos.line) = true := by rfl) (hs : swapsWith (.Call (.Attribute (.Name x p) "pop" apos) [] [] cpos) (some (.Name y pos')) pos.line X.env = pure false := by rfl) (hf : X.fn y = true ∨ X.env.scope.names.lookup y = some .local := by first | exact .inl rfl | exact .inr rfl) :
    PS X (.Assign [.Name y pos'] (.Call (.Attribute (.Name x p) "pop" apos) [] [] cpos) pos) (tS G W (setPopS j i)) :=
  (ps_set hN hj hx (pe_bm0 PySem.F.plainAttrs_list PySem.F.slot_list_pop PySem.F.type_list_pop mt_pop hn hbase hline) hs hf).imp fun D σ H ⟨F, I, ρ, R, q⟩ => by
    unfold setPopS at q
    cases z2 : gt ρ i <;> rw [z2] at q <;> first | exact q.elim | skip
    rename_i pp o
    cases o <;> first | exact q.elim | skip
    rename_i mm
    cases mm <;> first | exact q.elim | skip
    rename_i l
    simp only [] at q
    cases z3 : l.getLast? with
    | none => rw [z3] at q; exact q.elim
    | some d =>
      rw [z3] at q
      simp only [] at q
      split at q
      · rename_i hji
        obtain ⟨a, g1, ⟨xs, g2, g3⟩, g4⟩ := R.wrM (m' := .lst l.dropLast) z2
        have R2 := g4 _ ⟨_, upd_same, g3.dropLast⟩
        rw [List.getLast?_eq_getElem?] at z3
        obtain ⟨v, hv, rv⟩ := g3.get z3
        rw [← g3.length] at hv
        refine ⟨_, g1, .inl ⟨rfl, xs, SqL.of g2⟩, a, xs, v, rfl, rfl, g2, hv, ?_⟩
        refine q I _ _ (Same.refl I) (R2.setD ?_ rv)
        have := gt_set_ne (ρ := ρ) (c := .own pp (.m (.lst l.dropLast))) (fun e => hji.1 e.symm)
        unfold free
        rw [this]
        exact hji.2
      · exact q.elim
theorem s_retO (hn : PE X (.Name x p) (tVar i)) : PS X (.Return (some (.Name x p)) pos) (tS G W (retOS i)) :=
  (ps_ret hn).imp fun D σ H ⟨F, I, ρ, R, q⟩ => by
    unfold retOS at q
    cases z2 : gt ρ i <;> rw [z2] at q <;> first | exact q.elim | skip
    rename_i pp o
    cases pp <;> first | exact q.elim | skip
    cases o <;> first | exact q.elim | skip
    rename_i mm
    obtain ⟨a, g1, g2, g3⟩ := R.release z2
    exact ⟨_, g1, q I σ H _ [a] (Same.refl I) g3 ⟨a, rfl, rfl, g2⟩⟩
theorem s_putL (hn : PE X (.Name x p) (tVar i)) (hk : PE X ke (tD G W mk)) (he : PE X e (tD G W mv)) (hs : swapsWithSole [.Subscript (.Name x p) ke pos'] e pos.line X.env = pure false := by rfl) (hw : swappedStores [.Subscript (.Name x p) ke pos'] e X.env = pure none := by rfl)
    (h1 : (assignEach [.Subscript (.Name x p) ke pos'] X.env).map (·.2) = [assign (.Subscript (.Name x p) ke pos') X.env] := by rfl)
    (ha : ∀ v, assign (.Subscript (.Name x p) ke pos') X.env v = (do
      let ov ← holding [v] (eval (.Name x p) X.env)
      let iv ← holding [v, ov] (eval ke X.env)
      standAt pos'
      holding [v, ov, iv] (setItem ov iv v)
      release [v, ov, iv] []) := by intro _; rfl) :
    PS X (.Assign [.Subscript (.Name x p) ke pos'] e pos) (tS G W (putLS i mk mv)) :=
  (ps_asg he (pg_sub hn hk set_list ha) hs hw h1).imp fun D σ H ⟨F, I, ρ, R, q⟩ => by
    refine ⟨F, [], I, ρ, R, ?_⟩
    unfold putLS at q
    cases z : mv ρ with
    | st => rw [z] at q; exact q.elim
    | er ex => rw [z] at q; exact erS (Xs := []) q
    | ok d =>
      rw [z] at q
      intro I1 H1 v l1 r1
      simp only [] at q
      cases z2 : gt ρ i <;> rw [z2] at q <;> first | exact q.elim | skip
      rename_i pp o
      cases o <;> first | exact q.elim | skip
      rename_i mm
      cases mm <;> first | exact q.elim | skip
      rename_i l
      simp only [] at q
      obtain ⟨a, h1, _, _⟩ := l1.r.wrM (m' := .lst []) z2
      refine ⟨_, h1, F, [], I1, ρ, l1.r, ?_⟩
      cases z3 : mk ρ with
      | st => rw [z3] at q; exact q.elim
      | er ex => rw [z3] at q; exact ErP.later l1 (erS (Xs := []) q)
      | ok y =>
        rw [z3] at q
        cases y <;> first | exact q.elim | skip
        rename_i k
        simp only [] at q
        intro I2 H2 u l2 r2
        cases r2
        cases z4 : ixN l.length k with
        | none => rw [z4] at q; exact q.elim
        | some jj =>
          rw [z4] at q
          obtain ⟨a', g1, ⟨xs, g2, g3⟩, g4⟩ := l2.r.wrM (m' := .lst (l.set jj d)) z2
          rw [h1] at g1
          cases g1
          exact ⟨a, xs, k, jj, rfl, rfl, g2, by rw [g3.length]; exact z4, q I2 σ _ (l1.i.trans l2.i) (g4 _ ⟨_, upd_same, g3.set (r1.mono l2.i) jj⟩)⟩
theorem any_key {ks : List Ky} {j : Ky} : ∀ {xs : List V}, xs.length = ks.length → (((ks.map ky).zip xs).any fun kv => decide (kv.1 = ky j)) = ks.any fun k => decide (k = j) := by
  induction ks with
  | nil => intro xs _; simp
  | cons k ks ih =>
    intro xs h
    cases xs with
    | nil => simp at h
    | cons x xs =>
      simp only [List.map_cons, List.zip_cons_cons, List.any_cons]
      rw [ih (by simpa using h)]
      congr 1
      by_cases e : k = j
      · subst e; simp
      · have : ¬ ky k = ky j := fun q => e (ky_inj q)
        simp [e, this]
theorem repV_rep {I : Hp} {j : Ky} {v : V} {d : D} (rv : Rep G I v d) : ∀ {ks : List Ky} {xs : List V} {vs : List D}, xs.length = ks.length → RepA G I xs vs →
    ∃ xs', ((ks.map ky).zip xs).map (fun kv => if kv.1 = ky j then (kv.1, v) else kv) = (ks.map ky).zip xs' ∧ xs'.length = ks.length ∧ RepA G I xs' (repV ks vs j d)
  | [], [], _, _, .nil => ⟨[], rfl, rfl, .nil⟩
  | [], _ :: _, _, h, _ => by simp at h
  | _ :: _, [], _, h, _ => by simp at h
  | k :: ks, x :: xs, _, h, .cons (d := dd) (ds := ds) r t => by
    obtain ⟨xs', e1, e2, e3⟩ := repV_rep (j := j) rv (ks := ks) (by simpa using h) t
    by_cases e : k = j
    · subst e
      refine ⟨v :: xs', by simp [e1], by simp [e2], ?_⟩
      simp only [repV, if_pos]
      exact .cons rv e3
    · have ne : ¬ ky k = ky j := fun q => e (ky_inj q)
      refine ⟨x :: xs', by simp [e1, ne], by simp [e2], ?_⟩
      simp only [repV, if_neg e]
      exact .cons r e3
theorem putK_rep {I : Hp} {ks : List Ky} {xs : List V} {vs : List D} {j : Ky} {v : V} {d : D} (hl : xs.length = ks.length) (r : RepA G I xs vs) (rv : Rep G I v d) {H : Hp} {a : Addr} :
    MR G I (upd H a (.dK (putK ((ks.map ky).zip xs) (ky j) v))) a (putD ks vs j d) := by
  unfold putK putD
  rw [any_key hl]
  split
  · obtain ⟨xs', e1, e2, e3⟩ := repV_rep (j := j) rv hl r
    exact ⟨xs', by rw [upd_same, e1], e2, e3⟩
  · refine ⟨xs ++ [v], ?_, by simp [hl], r.append (.cons rv .nil)⟩
    rw [upd_same, List.map_append, List.zip_append (by simp [hl])]
    rfl
theorem s_putD (hu : HuOk X) (hn : PE X (.Name x p) (tVar i)) (hk : PE X ke (tD G W mk)) (he : PE X e (tD G W mv)) (hs : swapsWith e (some (.Subscript (.Name x p) ke pos')) pos.line X.env = pure false := by rfl) :
    PS X (.Assign [.Subscript (.Name x p) ke pos'] e pos) (tS G W (putDS i mk mv)) :=
  (ps_dput (by omega) hn hk he hs).imp fun D σ H ⟨F, I, ρ, R, q⟩ => by
    refine ⟨F, [], I, ρ, R, ?_⟩
    unfold putDS at q
    cases z : mv ρ with
    | st => rw [z] at q; exact q.elim
    | er ex => rw [z] at q; exact erS (Xs := []) q
    | ok d =>
      rw [z] at q
      intro I1 H1 v l1 r1
      simp only [] at q
      cases z2 : gt ρ i <;> rw [z2] at q <;> first | exact q.elim | skip
      rename_i pp o
      cases o <;> first | exact q.elim | skip
      rename_i mm
      cases mm <;> first | exact q.elim | skip
      rename_i ks vs
      simp only [] at q
      obtain ⟨a, h1, _, _⟩ := l1.r.wrM (m' := .lst []) z2
      refine ⟨_, h1, F, [], I1, ρ, l1.r, ?_⟩
      cases z3 : mk ρ with
      | st => rw [z3] at q; exact q.elim
      | er ex => rw [z3] at q; exact ErP.later l1 (erS (Xs := []) q)
      | ok y =>
        rw [z3] at q
        simp only [] at q
        intro I2 H2 u l2 r2
        cases z4 : kOf y with
        | none => rw [z4] at q; exact q.elim
        | some jj =>
          rw [z4] at q
          simp only [] at q
          split at q
          · rename_i hlen
            have hkv := kOf_V z4 r2.vb (H := H2)
            subst hkv
            obtain ⟨a', g1, ⟨xs, g2, gl, g3⟩, g4⟩ := l2.r.wrM (m' := putD ks vs jj d) z2
            rw [h1] at g1
            cases g1
            exact ⟨a, _, rfl, DPut.k g2 (by rw [List.length_zip, List.length_map, gl, Nat.min_self, line_eq]; exact hlen), q I2 σ _ (l1.i.trans l2.i) (g4 _ (putK_rep gl g3 (r1.mono l2.i)))⟩
          · exact q.elim
end
end NS
namespace NS
open PySem PySem.Spec L2
theorem pss_st {X : Cx} {G : Wd} {W : WX} {sts : List Stmt} : PSs X sts (tS G W fun _ => .st) := ⟨fun _ _ _ _ _ _ ⟨_, _, _, _, q⟩ => q.elim⟩
end NS

set_option Elab.async false
set_option linter.all false
set_option maxRecDepth 100000
set_option maxHeartbeats 4000000
/-! The functions on data, opened one application at a time. -/
namespace NS
open PySem

section
variable {α β : Type} {ρ : Ev} {i j n k : Nat} {a b c : EM} {f g : D → D → Out D} {t u : TM} {s s' : SM} {ms : Ev → Out (List D)} {mF : Ev → Out Mu} {x y : D} {it : Ev → Out (List D)}
@[simp] theorem noer_ok (x : α) : noer (.ok x) = .ok x := rfl
@[simp] theorem noer_st : noer (.st : Out α) = .st := rfl
@[simp] theorem var_ap : var i ρ = match gt ρ i with | .d x => .ok x | _ => .st := rfl
@[simp] theorem bvar_ap : bvar i ρ = match gt ρ i with | .d x => .ok x | .own _ (.m m) => .ok m.toD | _ => .st := rfl
@[simp] theorem cst_ap : cst x ρ = .ok x := rfl
@[simp] theorem op2_ap {h : D → D → Out α} : op2 h a b ρ = (a ρ).bind fun x => (b ρ).bind fun y => noer (h x y) := rfl
@[simp] theorem isB_bl (z : Bool) : isB (.bl z) = .ok z := rfl
@[simp] theorem tst_ap : tst a ρ = (a ρ).bind isB := rfl
@[simp] theorem dAndV_ap : dAndV a b ρ = (a ρ).bind fun x => match x with | .bl true => b ρ | .bl false => .ok (.bl false) | _ => .st := rfl
@[simp] theorem dOrV_ap : dOrV a b ρ = (a ρ).bind fun x => match x with | .bl false => b ρ | .bl true => .ok (.bl true) | _ => .st := rfl
@[simp] theorem dNotV_ap : dNotV a ρ = (a ρ).bind fun x => match x with | .bl b => .ok (.bl (!b)) | _ => .st := rfl
@[simp] theorem tAndM_ap : tAndM t u ρ = (t ρ).bind fun x => if x = true then u ρ else .ok false := rfl
@[simp] theorem tOrM_ap : tOrM t u ρ = (t ρ).bind fun x => if x = true then .ok true else u ρ := rfl
@[simp] theorem tNotM_ap : tNotM t ρ = (t ρ).bind fun x => .ok (!x) := rfl
@[simp] theorem dIf_ap : dIf t a b ρ = (t ρ).bind fun x => if x = true then a ρ else b ρ := rfl
@[simp] theorem tTru_ap : tTru a ρ = (a ρ).bind tru := rfl
@[simp] theorem tru_non : tru .non = .ok false := rfl
@[simp] theorem tru_bl (z : Bool) : tru (.bl z) = .ok z := rfl
@[simp] theorem tru_int (z : Int) : tru (.int z) = .ok (z != 0) := rfl
@[simp] theorem tru_tup (z : List D) : tru (.tup z) = .ok (!z.isEmpty) := rfl
@[simp] theorem tru_lst (z : List D) : tru (.lst z) = .ok (!z.isEmpty) := rfl
@[simp] theorem tru_scr (z : List Int) : tru (.scr z) = .ok (!z.isEmpty) := rfl
@[simp] theorem dChain_ap : dChain f g a b c ρ = (a ρ).bind fun x => (b ρ).bind fun y => (noer (f x y)).bind fun z => match z with
  | .bl true => (c ρ).bind fun w => noer (g y w) | .bl false => .ok (.bl false) | _ => .st := rfl
@[simp] theorem nilM_ap : nilM ρ = .ok [] := rfl
@[simp] theorem consM_ap : consM a ms ρ = (a ρ).bind fun x => (ms ρ).bind fun xs => .ok (x :: xs) := rfl
@[simp] theorem dTup_ap : dTup ms ρ = (ms ρ).bind fun xs => .ok (.tup xs) := rfl
@[simp] theorem dLst_ap : dLst ms ρ = (ms ρ).bind fun xs => .ok (.lst xs) := rfl
@[simp] theorem fLst_ap : fLst ms ρ = (ms ρ).bind fun xs => .ok (.lst xs) := rfl
@[simp] theorem frz_ap : frz mF ρ = (mF ρ).bind fun x => .ok x.toD := rfl
@[simp] theorem oNone_ap : oNone ρ = .ok none := rfl
@[simp] theorem oSome_ap : oSome a ρ = (a ρ).bind fun x => match x with | .int i => .ok (some i) | _ => .st := rfl
@[simp] theorem slM_ap {h : D → Option Int → Option Int → Out α} {l r : Ev → Out (Option Int)} : slM h a l r ρ = (a ρ).bind fun x => (l ρ).bind fun y => (r ρ).bind fun z => noer (h x y z) := rfl
@[simp] theorem callM_ap {h : List D → Out α} : callM h ms ρ = (ms ρ).bind fun xs => noer (h xs) := rfl
@[simp] theorem callP_ap {h : List D → Out D} : callP h ms ρ = (ms ρ).bind h := rfl
@[simp] theorem callF_ap {h : List D → Out Mu} : callF h ms ρ = (ms ρ).bind h := rfl
@[simp] theorem dIsi_ap {h : D → Bool} : dIsi h a ρ = (a ρ).bind fun x => match x with | .exc _ _ _ => .st | x => .ok (.bl (h x)) := rfl
@[simp] theorem fDct_ap {ks : List Ky} : fDct ks ms ρ = (ms ρ).bind fun vs => .ok (.dct ks vs) := rfl
@[simp] theorem itL_ap : itL a ρ = (a ρ).bind fun x => match x with | .lst l => .ok l | _ => .st := rfl
@[simp] theorem itT_ap : itT a ρ = (a ρ).bind fun x => match x with | .tup l => .ok l | _ => .st := rfl
@[simp] theorem itR1_ap : itR1 a ρ = (a ρ).bind fun x => match x with | .int j => if -(2 ^ 62) ≤ j ∧ j < 2 ^ 62 then .ok ((List.range j.toNat).map fun (k : Nat) => .int k) else .st | _ => .st := rfl
@[simp] theorem itR2_ap : itR2 a b ρ = (a ρ).bind fun x => (b ρ).bind fun y => match x, y with
  | .int i, .int j => if -(2 ^ 62) ≤ i ∧ i < 2 ^ 62 ∧ -(2 ^ 62) ≤ j ∧ j < 2 ^ 62 then .ok ((List.range (j - i).toNat).map fun (k : Nat) => .int (i + k)) else .st | _, _ => .st := rfl
@[simp] theorem yesT_ap : yesT ρ = .ok true := rfl
@[simp] theorem fLc_ap : fLc i it t a ρ = match gt ρ i with
  | .own _ _ => .st | _ => (it ρ).bind fun l => if l.length ≤ 16777216 then (lcL i t a ρ l).bind fun ys => .ok (.lst ys) else .st := rfl
@[simp] theorem nopS_ap : nopS ρ = .nx ρ := rfl
@[simp] theorem seqS_ap : seqS s s' ρ = match s ρ with | .nx ρ' => s' ρ' | o => o := rfl
@[simp] theorem free_ap : free ρ i = match gt ρ i with | .own true _ => false | _ => true := rfl
@[simp] theorem setS_ap : setS i a ρ = match a ρ with | .ok x => if free ρ i = true then .nx (ρ.set i (.d x)) else .st | .er e => .er e ρ | .st => .st := rfl
@[simp] theorem setFS_ap : setFS i mF ρ = match mF ρ with | .ok x => if free ρ i = true then .nx (ρ.set i (.own false (.m x))) else .st | .er e => .er e ρ | .st => .st := rfl
@[simp] theorem exprS_ap : exprS a ρ = match a ρ with | .ok _ => .nx ρ | .er e => .er e ρ | .st => .st := rfl
@[simp] theorem retS_ap : retS a ρ = match a ρ with | .ok x => .rt (.d x) ρ | .er e => .er e ρ | .st => .st := rfl
@[simp] theorem retFS_ap : retFS mF ρ = match mF ρ with | .ok x => .rt (.o (.m x)) ρ | .er e => .er e ρ | .st => .st := rfl
@[simp] theorem retNS_ap : retNS ρ = .rt (.d .non) ρ := rfl
@[simp] theorem ifS_ap : ifS t s s' ρ = match t ρ with | .ok x => if x = true then s ρ else s' ρ | .er e => .er e ρ | .st => .st := rfl
@[simp] theorem frzC_ap : frzC i ρ = match gt ρ i with | .own false (.m m) => ρ.set i (.d m.toD) | _ => ρ := rfl
@[simp] theorem frzS_ap : frzS i s ρ = s (frzC i ρ) := rfl
@[simp] theorem forS_ap : forS i it s ρ = match it ρ with | .ok l => forL i s l ρ | .er e => .er e ρ | .st => .st := rfl
@[simp] theorem startD_ap (ds : List D) : startD n ds = ds.map .d ++ List.replicate n .un := rfl
@[simp] theorem fnP_ap (ds : List D) : fnP n k s ds = if ds.length = n then outP (s (startD k ds)) else .st := rfl
@[simp] theorem fnM_ap (ds : List D) : fnM n k s ds = if ds.length = n then outM (s (startD k ds)) else .st := rfl
@[simp] theorem outP_nx : outP (.nx ρ) = .ok .non := rfl
@[simp] theorem outP_rt : outP (.rt (.d x) ρ) = .ok x := rfl
@[simp] theorem outP_ro (m : Mu) : outP (.rt (.o (.m m)) ρ) = .ok m.toD := rfl
@[simp] theorem outP_er (e : Ex) : outP (.er e ρ) = .er e := rfl
@[simp] theorem outM_ro (m : Mu) : outM (.rt (.o (.m m)) ρ) = .ok m := rfl
@[simp] theorem outM_er (e : Ex) : outM (.er e ρ) = .er e := rfl
@[simp] theorem dAdd_int (p q : Int) : dAdd (.int p) (.int q) = .ok (.int (p + q)) := rfl
@[simp] theorem dSub_int (p q : Int) : dSub (.int p) (.int q) = .ok (.int (p - q)) := rfl
@[simp] theorem dMul_int (p q : Int) : dMul (.int p) (.int q) = if p.natAbs < 2 ^ 64 ∨ q.natAbs < 2 ^ 64 then .ok (.int (p * q)) else .st := rfl
@[simp] theorem dDiv_int (p q : Int) : dDiv (.int p) (.int q) = if 0 < q ∧ q < 2 ^ 64 then .ok (.int (p / q)) else .st := rfl
@[simp] theorem dMod_int (p q : Int) : dMod (.int p) (.int q) = if 0 < q then .ok (.int (p % q)) else .st := rfl
@[simp] theorem dAnd_int (p q : Int) : dAnd (.int p) (.int q) = .ok (.int (Builtin.bitAnd p q)) := rfl
@[simp] theorem dOr_int (p q : Int) : dOr (.int p) (.int q) = .ok (.int (Builtin.bitOr p q)) := rfl
@[simp] theorem dXor_int (p q : Int) : dXor (.int p) (.int q) = .ok (.int (Builtin.bitXor p q)) := rfl
@[simp] theorem dLt_int (p q : Int) : dLt (.int p) (.int q) = .ok (.bl (decide (p < q))) := rfl
@[simp] theorem dLe_int (p q : Int) : dLe (.int p) (.int q) = .ok (.bl (decide (p ≤ q))) := rfl
@[simp] theorem dGt_int (p q : Int) : dGt (.int p) (.int q) = .ok (.bl (decide (q < p))) := rfl
@[simp] theorem dGe_int (p q : Int) : dGe (.int p) (.int q) = .ok (.bl (decide (q ≤ p))) := rfl
@[simp] theorem dIsN_non : dIsN x .non = .ok (.bl (isNon x)) := rfl
@[simp] theorem dNotN_non : dNotN x .non = .ok (.bl (!isNon x)) := rfl
@[simp] theorem isNon_non : isNon .non = true := rfl
@[simp] theorem isNon_bl (z : Bool) : isNon (.bl z) = false := rfl
@[simp] theorem isNon_int (z : Int) : isNon (.int z) = false := rfl
@[simp] theorem isNon_str (z : List Nat) : isNon (.str z) = false := rfl
@[simp] theorem isNon_tup (z : List D) : isNon (.tup z) = false := rfl
@[simp] theorem isNon_lst (z : List D) : isNon (.lst z) = false := rfl
@[simp] theorem isInt_int (z : Int) : isInt (.int z) = true := rfl
@[simp] theorem isInt_bl (z : Bool) : isInt (.bl z) = true := rfl
@[simp] theorem isInt_non : isInt .non = false := rfl
@[simp] theorem isInt_str (z : List Nat) : isInt (.str z) = false := rfl
@[simp] theorem isInt_tup (z : List D) : isInt (.tup z) = false := rfl
@[simp] theorem isInt_lst (z : List D) : isInt (.lst z) = false := rfl
@[simp] theorem isBool_int (z : Int) : isBool (.int z) = false := rfl
@[simp] theorem isBool_bl (z : Bool) : isBool (.bl z) = true := rfl
@[simp] theorem isBool_non : isBool .non = false := rfl
@[simp] theorem isBool_str (z : List Nat) : isBool (.str z) = false := rfl
@[simp] theorem isBool_tup (z : List D) : isBool (.tup z) = false := rfl
@[simp] theorem isBool_lst (z : List D) : isBool (.lst z) = false := rfl
@[simp] theorem isStr_int (z : Int) : isStr (.int z) = false := rfl
@[simp] theorem isStr_bl (z : Bool) : isStr (.bl z) = false := rfl
@[simp] theorem isStr_non : isStr .non = false := rfl
@[simp] theorem isStr_str (z : List Nat) : isStr (.str z) = true := rfl
@[simp] theorem isStr_tup (z : List D) : isStr (.tup z) = false := rfl
@[simp] theorem isStr_lst (z : List D) : isStr (.lst z) = false := rfl
@[simp] theorem isTup_int (z : Int) : isTup (.int z) = false := rfl
@[simp] theorem isTup_bl (z : Bool) : isTup (.bl z) = false := rfl
@[simp] theorem isTup_non : isTup .non = false := rfl
@[simp] theorem isTup_str (z : List Nat) : isTup (.str z) = false := rfl
@[simp] theorem isTup_tup (z : List D) : isTup (.tup z) = true := rfl
@[simp] theorem isTup_lst (z : List D) : isTup (.lst z) = false := rfl
@[simp] theorem isLst_tup (z : List D) : isLst (.tup z) = false := rfl
@[simp] theorem isLst_lst (z : List D) : isLst (.lst z) = true := rfl
@[simp] theorem bLen_lst (z : List D) : bLen [.lst z] = .ok (.int z.length) := rfl
@[simp] theorem bLen_tup (z : List D) : bLen [.tup z] = .ok (.int z.length) := rfl
@[simp] theorem bLen_scr (z : List Int) : bLen [.scr z] = .ok (.int z.length) := rfl
@[simp] theorem bLen_str (z : List Nat) : bLen [.str z] = if z.length ≤ 16777216 then .ok (.int z.length) else .st := rfl
@[simp] theorem bMin_int (p q : Int) : bMin [.int p, .int q] = .ok (.int (if q < p then q else p)) := rfl
@[simp] theorem bMax_int (p q : Int) : bMax [.int p, .int q] = .ok (.int (if q > p then q else p)) := rfl
@[simp] theorem bInt_int (p : Int) : bInt [.int p] = .ok (.int p) := rfl
@[simp] theorem bInt_bl (p : Bool) : bInt [.bl p] = .ok (.int (if p then 1 else 0)) := rfl
@[simp] theorem dIx_lst (l : List D) (p : Int) : dIx (.lst l) (.int p) = match L2.atI l p with | some d => .ok d | none => .st := rfl
@[simp] theorem dIx_tup (l : List D) (p : Int) : dIx (.tup l) (.int p) = match L2.atI l p with | some d => .ok d | none => .st := rfl
@[simp] theorem dIx_scr (l : List Int) (p : Int) : dIx (.scr l) (.int p) = match L2.atI l p with | some d => .ok (.int d) | none => .st := rfl
@[simp] theorem dIx_dct (ks : List Ky) (vs : List D) (s : List Nat) : dIx (.dct ks vs) (.str s) = match dlook ks vs (.inr s) with | some d => .ok d | none => .st := rfl
@[simp] theorem flt_int (z : Int) : flt (.int z) = true := rfl
@[simp] theorem flt_bl (z : Bool) : flt (.bl z) = true := rfl
@[simp] theorem flt_non : flt .non = true := rfl
@[simp] theorem flt_str (z : List Nat) : flt (.str z) = true := rfl
@[simp] theorem flt_tup (z : List D) : flt (.tup z) = false := rfl
@[simp] theorem flt_lst (z : List D) : flt (.lst z) = false := rfl
@[simp] theorem dEq_ap : dEq x y = if (flt x && flt y || shpB 30 x && shpB 30 y) = true then .ok (.bl (deq x y)) else .st := rfl
@[simp] theorem dNe_ap : dNe x y = if (flt x && flt y || shpB 30 x && shpB 30 y) = true then .ok (.bl (!deq x y)) else .st := rfl
@[simp] theorem shp_int (z : Int) : shpB n (.int z) = true := by cases n <;> rfl
@[simp] theorem shp_bl (z : Bool) : shpB n (.bl z) = true := by cases n <;> rfl
@[simp] theorem shp_non : shpB n .non = true := by cases n <;> rfl
@[simp] theorem shp_str (z : List Nat) : shpB n (.str z) = z.all (· < 1114112) := by cases n <;> rfl
@[simp] theorem shp_tup (z : List D) : shpB (n + 1) (.tup z) = z.all (shpB n) := rfl
@[simp] theorem shp_lst (z : List D) : shpB (n + 1) (.lst z) = z.all (shpB n) := rfl
@[simp] theorem deq_int (p q : Int) : deq (.int p) (.int q) = (p == q) := by simp [deq]
@[simp] theorem deq_bl (p q : Bool) : deq (.bl p) (.bl q) = (p == q) := by simp [deq]
@[simp] theorem deq_str (p q : List Nat) : deq (.str p) (.str q) = (p == q) := by simp [deq]
@[simp] theorem deq_tup (p q : List D) : deq (.tup p) (.tup q) = deqs p q := by simp [deq]
@[simp] theorem deq_lst (p q : List D) : deq (.lst p) (.lst q) = deqs p q := by simp [deq]
@[simp] theorem deqs_nil : deqs [] [] = true := by simp [deqs]
@[simp] theorem deqs_cons (p q : List D) : deqs (x :: p) (y :: q) = (deq x y && deqs p q) := by simp [deqs]
@[simp] theorem deqs_nc (q : List D) : deqs [] (y :: q) = false := by simp [deqs]
@[simp] theorem deqs_cn (q : List D) : deqs (y :: q) [] = false := by simp [deqs]
@[simp] theorem dIn_lst (l : List D) : dIn x (.lst l) = if (flt x && l.all flt) = true then .ok (.bl (l.any fun y => deq y x)) else .st := by cases x <;> rfl
@[simp] theorem dIn_tup (l : List D) : dIn x (.tup l) = if (flt x && l.all flt) = true then .ok (.bl (l.any fun y => deq y x)) else .st := by cases x <;> rfl
@[simp] theorem dNotIn_lst (l : List D) : dNotIn x (.lst l) = if (flt x && l.all flt) = true then .ok (.bl (!l.any fun y => deq y x)) else .st := by cases x <;> rfl
@[simp] theorem dNotIn_tup (l : List D) : dNotIn x (.tup l) = if (flt x && l.all flt) = true then .ok (.bl (!l.any fun y => deq y x)) else .st := by cases x <;> rfl
end

/-- a for that leaves nothing but a new state: E's second place is the loop's own name -/
theorem forL_nx {α : Type} (E : α → Ce → Ev) (f : α → D → α) (i : Nat) (body : SM) (P : α → Prop) : ∀ (l : List D) (a : α) (c : Ce), P a →
    (∀ a c x, free (E a c) i = true ∧ (E a c).set i (.d x) = E a (.d x)) → (∀ a x, x ∈ l → P a → body (E a (.d x)) = .nx (E (f a x) (.d x)) ∧ P (f a x)) →
    ∃ c', forL i body l (E a c) = .nx (E (l.foldl f a) c') ∧ P (l.foldl f a)
  | [], a, c, p, _, _ => ⟨c, rfl, p⟩
  | x :: l, a, c, p, hs, hb => by
    obtain ⟨h1, h2⟩ := hs a c x
    obtain ⟨h3, h4⟩ := hb a x (by simp) p
    obtain ⟨c', h5, h6⟩ := forL_nx E f i body P l (f a x) (.d x) h4 hs fun a y hy => hb a y (by simp [hy])
    refine ⟨c', ?_, h6⟩
    unfold forL
    rw [if_pos h1, h2, h3]
    exact h5
theorem atI_ok {α : Type} {l : List α} {i : Int} (h0 : 0 ≤ i) (h1 : i < l.length) : L2.atI l i = l[i.toNat]? := by
  unfold L2.atI L2.ixN
  rw [if_pos h0, if_pos h1]
  rfl
end NS
namespace NS
open PySem
theorem forL_ixA (E : Nat → Ce → Ev) (i : Nat) (body : SM) (hs : ∀ k y x, free (E k (.d y)) i = true ∧ (E k (.d y)).set i (.d x) = E k (.d x)) : ∀ (l : List D) (n : Nat) (c : Ce),
    (∀ x, free (E n c) i = true ∧ (E n c).set i (.d x) = E n (.d x)) → (∀ k x, l[k]? = some x → body (E (n + k) (.d x)) = .nx (E (n + k + 1) (.d x))) → ∃ c', forL i body l (E n c) = .nx (E (n + l.length) c') ∧ (c' = c ∨ ∃ x, c' = .d x)
  | [], n, c, _, _ => ⟨c, rfl, .inl rfl⟩
  | x :: l, n, c, hc, hb => by
    obtain ⟨h1, h2⟩ := hc x
    have h3 := hb 0 x rfl
    obtain ⟨c', h5, h6⟩ := forL_ixA E i body hs l (n + 1) (.d x) (fun y => hs _ x y) (fun k y hy => by
      have := hb (k + 1) y (by simpa using hy)
      rw [show n + (k + 1) = n + 1 + k by omega] at this
      exact this)
    refine ⟨c', ?_, h6.elim (fun e => .inr ⟨x, e⟩) .inr⟩
    unfold forL
    rw [if_pos h1, h2, show E n = E (n + 0) from rfl, h3]
    refine h5.trans ?_
    simp only [List.length_cons]
    rw [show n + 1 + l.length = n + (l.length + 1) by omega]
/-- a for whose state is known at every step; the loop's own name is E's second place -/
theorem forL_ix (E : Nat → Ce → Ev) (i : Nat) (body : SM) (l : List D) (c : Ce) (hc : ∀ x, free (E 0 c) i = true ∧ (E 0 c).set i (.d x) = E 0 (.d x)) (hs : ∀ k y x, free (E k (.d y)) i = true ∧ (E k (.d y)).set i (.d x) = E k (.d x))
    (hb : ∀ k x, l[k]? = some x → body (E k (.d x)) = .nx (E (k + 1) (.d x))) : ∃ c', forL i body l (E 0 c) = .nx (E l.length c') ∧ (c' = c ∨ ∃ x, c' = .d x) := by
  have := forL_ixA E i body hs l 0 c hc (by simpa using hb)
  simpa using this
theorem forL_ckA (E : Nat → Ce → Ev) (i : Nat) (body : SM) (p : Nat → Bool) (r : Nat → RV) (hs : ∀ k y x, free (E k (.d y)) i = true ∧ (E k (.d y)).set i (.d x) = E k (.d x)) : ∀ (l : List D) (n : Nat) (c : Ce),
    (∀ x, free (E n c) i = true ∧ (E n c).set i (.d x) = E n (.d x)) →
    (∀ k x, l[k]? = some x → (p (n + k) = true → body (E (n + k) (.d x)) = .nx (E (n + k + 1) (.d x))) ∧ (p (n + k) = false → ∃ ρ, body (E (n + k) (.d x)) = .rt (r (n + k)) ρ)) →
    ((∀ k, k < l.length → p (n + k) = true) ∧ ∃ c', forL i body l (E n c) = .nx (E (n + l.length) c') ∧ (c' = c ∨ ∃ x, c' = .d x)) ∨
      ∃ k, k < l.length ∧ p (n + k) = false ∧ (∀ j, j < k → p (n + j) = true) ∧ ∃ ρ, forL i body l (E n c) = .rt (r (n + k)) ρ
  | [], n, c, _, _ => .inl ⟨fun k h => absurd h (Nat.not_lt_zero k), c, rfl, .inl rfl⟩
  | x :: l, n, c, hc, hb => by
    obtain ⟨h1, h2⟩ := hc x
    obtain ⟨b1, b2⟩ := hb 0 x rfl
    have e0 : forL i body (x :: l) (E n c) = (match body (E n (.d x)) with
      | .nx ρ' => forL i body l ρ'
      | .ct ρ' => forL i body l ρ'
      | .bk ρ' => .nx ρ'
      | o => o) := by
      show (if free (E n c) i = true then _ else _) = _
      rw [if_pos h1, h2]
      try (cases body (E n (.d x)) <;> rfl)
    cases hp : p n with
    | false =>
      obtain ⟨ρ, h3⟩ := b2 hp
      refine .inr ⟨0, by simp, hp, fun j h => absurd h (Nat.not_lt_zero j), ρ, ?_⟩
      rw [e0]
      have h3 : body (E n (.d x)) = _ := h3
      rw [h3]
    | true =>
      have h3 : body (E n (.d x)) = .nx (E (n + 1) (.d x)) := b1 hp
      have ih := forL_ckA E i body p r hs l (n + 1) (.d x) (fun y => hs _ x y) (fun k y hy => by
        have := hb (k + 1) y (by simpa using hy)
        rw [show n + (k + 1) = n + 1 + k by omega] at this
        exact this)
      rw [e0, h3]
      rcases ih with ⟨h4, c', h5, h6⟩ | ⟨k, h4, h5, h6, ρ, h7⟩
      · refine .inl ⟨fun k hk => ?_, c', ?_, h6.elim (fun e => .inr ⟨x, e⟩) .inr⟩
        · cases k with
          | zero => exact hp
          | succ k =>
            have := h4 k (by simpa using hk)
            rw [show n + 1 + k = n + (k + 1) by omega] at this
            exact this
        · refine h5.trans ?_
          simp only [List.length_cons]
          rw [show n + 1 + l.length = n + (l.length + 1) by omega]
      · refine .inr ⟨k + 1, by simpa using h4, by rw [show n + (k + 1) = n + 1 + k by omega]; exact h5, fun j hj => ?_, ρ, ?_⟩
        · cases j with
          | zero => exact hp
          | succ j =>
            have := h6 j (by omega)
            rw [show n + 1 + j = n + (j + 1) by omega] at this
            exact this
        · rw [show n + (k + 1) = n + 1 + k by omega]; exact h7
/-- a for that looks for what is wrong, and then returns -/
theorem forL_ck (E : Nat → Ce → Ev) (i : Nat) (body : SM) (p : Nat → Bool) (r : Nat → RV) (l : List D) (c : Ce) (hc : ∀ x, free (E 0 c) i = true ∧ (E 0 c).set i (.d x) = E 0 (.d x)) (hs : ∀ k y x, free (E k (.d y)) i = true ∧ (E k (.d y)).set i (.d x) = E k (.d x))
    (hb : ∀ k x, l[k]? = some x → (p k = true → body (E k (.d x)) = .nx (E (k + 1) (.d x))) ∧ (p k = false → ∃ ρ, body (E k (.d x)) = .rt (r k) ρ)) :
    ((∀ k, k < l.length → p k = true) ∧ ∃ c', forL i body l (E 0 c) = .nx (E l.length c') ∧ (c' = c ∨ ∃ x, c' = .d x)) ∨
      ∃ k, k < l.length ∧ p k = false ∧ (∀ j, j < k → p j = true) ∧ ∃ ρ, forL i body l (E 0 c) = .rt (r k) ρ := by
  have := forL_ckA E i body p r hs l 0 c hc (by simpa using hb)
  simpa using this
/-- the k-th of range(n) -/
theorem rng_get {n k : Nat} {x : D} (h : ((List.range n).map fun (k : Nat) => D.int k)[k]? = some x) : k < n ∧ x = .int k := by
  obtain ⟨h1, h2⟩ := List.getElem?_eq_some_iff.1 h
  have hk : k < n := by simpa using h1
  refine ⟨hk, ?_⟩
  rw [← h2]
  simp
end NS
namespace NS
open PySem
/-- a for that keeps P -/
theorem forL_inv (i : Nat) (body : SM) (P : Ev → Prop) : ∀ (l : List D), (∀ ρ x, P ρ → x ∈ l → free ρ i = true ∧ ∃ ρ', body (ρ.set i (.d x)) = .nx ρ' ∧ P ρ') → ∀ ρ, P ρ → ∃ ρ', forL i body l ρ = .nx ρ' ∧ P ρ'
  | [], _, ρ, p => ⟨ρ, rfl, p⟩
  | x :: l, hb, ρ, p => by
    obtain ⟨h1, ρ', h2, h3⟩ := hb ρ x p (by simp)
    obtain ⟨ρ'', h4, h5⟩ := forL_inv i body P l (fun ρ y q hy => hb ρ y q (by simp [hy])) ρ' h3
    refine ⟨ρ'', ?_, h5⟩
    unfold forL
    rw [if_pos h1, h2]
    exact h4
theorem itR1_ok {m : EM} {ρ : Ev} {j : Int} (hm : m ρ = .ok (.int j)) (h0 : -4611686018427387904 ≤ j) (h1 : j < 4611686018427387904) : itR1 m ρ = .ok ((List.range j.toNat).map fun (k : Nat) => D.int k) := by
  rw [itR1_ap, hm]
  exact if_pos ⟨h0, h1⟩
theorem dDiv_ok {p q : Int} (h0 : 0 < q) (h1 : q < 2 ^ 64) : dDiv (.int p) (.int q) = .ok (.int (p / q)) := if_pos ⟨h0, h1⟩
theorem dMod_ok {p q : Int} (h0 : 0 < q) : dMod (.int p) (.int q) = .ok (.int (p % q)) := if_pos h0
/-- unset or data -/
def du (c : Ce) : Prop := c = .un ∨ ∃ x, c = .d x
theorem du_d (x : D) : du (.d x) := .inr ⟨x, rfl⟩
theorem du_un : du .un := .inl rfl
end NS

set_option Elab.async false
set_option linter.all false
set_option maxRecDepth 100000
set_option maxHeartbeats 4000000
namespace KL
open PySem PySem.Spec L2 NS
open PyProof.Rows hiding St
abbrev P0 : Program := PySem.Challenge.pw_netsieve_k13_packets_taken
def topS (i : Nat) : Stmt := P0.main.body.getD i (.Pass ⟨0, 0, 0, 0⟩)
abbrev s__law_cell : Stmt := topS 12
abbrev N__law_cell : List Str := ["_law_script", "_law_k_here"]
theorem sc__law_cell : FnScope N__law_cell ["_law_script", "_law_k_here"] (defScope s__law_cell) := ⟨rfl, rfl, rfl, by decide +kernel, rfl, by decide +kernel, by decide +kernel⟩
def b__law_cell : SM := (seqS (ifS (tTru (var 0))
 (retS (op2 dIx (var 0) (op2 dMod (var 1) (callM bLen (consM (var 0) nilM)))))
 nopS)
 (retS (cst (.int 0))))
def m__law_cell : List D → Out D := fnP 2 0 b__law_cell
abbrev s__law_mix : Stmt := topS 13
abbrev N__law_mix : List Str := ["_law_script", "_law_k_here", "_law_number_here"]
theorem sc__law_mix : FnScope N__law_mix ["_law_script", "_law_k_here"] (defScope s__law_mix) := ⟨rfl, rfl, rfl, by decide +kernel, rfl, by decide +kernel, by decide +kernel⟩
def b__law_mix : SM := (seqS (setS 2 (op2 dMod (op2 dAdd (callP m__law_cell (consM (var 0) (consM (var 1) nilM))) (op2 dMul (cst (.int 104729)) (op2 dAdd (var 1) (cst (.int 1))))) (cst (.int 4294967291))))
 (seqS (setS 2 (op2 dMod (op2 dMul (var 2) (cst (.int 48271))) (cst (.int 4294967279))))
 (retS (op2 dMod (op2 dAdd (op2 dMul (op2 dDiv (var 2) (cst (.int 64))) (cst (.int 69621))) (var 2)) (cst (.int 4294967231))))))
def m__law_mix : List D → Out D := fnP 2 1 b__law_mix
abbrev s__law_op : Stmt := topS 17
abbrev N__law_op : List Str := ["_law_number_here"]
theorem sc__law_op : FnScope N__law_op ["_law_number_here"] (defScope s__law_op) := ⟨rfl, rfl, rfl, by decide +kernel, rfl, by decide +kernel, by decide +kernel⟩
def b__law_op : SM := (retS (op2 dIx (dLst (consM (cst (.str [112, 108, 117, 115])) (consM (cst (.str [109, 105, 110, 117, 115])) (consM (cst (.str [116, 105, 109, 101, 115])) (consM (cst (.str [111, 118, 101, 114])) (consM (cst (.str [114, 101, 115, 116])) (consM (cst (.str [97, 110, 100])) (consM (cst (.str [111, 114])) (consM (cst (.str [120, 111, 114])) (consM (cst (.str [108, 101, 102, 116])) (consM (cst (.str [114, 105, 103, 104, 116])) nilM))))))))))) (op2 dMod (var 0) (cst (.int 10)))))
def m__law_op : List D → Out D := fnP 1 0 b__law_op
abbrev s__law_number : Stmt := topS 23
abbrev N__law_number : List Str := ["_law_script", "_law_base", "_law_deep", "_law_number_here", "_law_k_here", "_law_one"]
theorem sc__law_number : FnScope N__law_number ["_law_script", "_law_base", "_law_deep"] (defScope s__law_number) := ⟨rfl, rfl, rfl, by decide +kernel, rfl, by decide +kernel, by decide +kernel⟩
def b__law_number (r__law_number : List D → Out D) : SM := (seqS (setS 3 (callP m__law_mix (consM (var 0) (consM (var 1) nilM))))
 (seqS (ifS (tOrM (tst (op2 dEq (var 2) (cst (.int 0)))) (tst (op2 dLt (op2 dMod (var 3) (cst (.int 5))) (cst (.int 2)))))
 (seqS (setS 4 (op2 dIx (dLst (consM (cst (.int 0)) (consM (cst (.int 1)) (consM (cst (.int 2)) (consM (cst (.int 7)) (consM (cst (.int 12)) (consM (cst (.int 20)) (consM (cst (.int 33)) (consM (cst (.int 255)) (consM (cst (.int 4294967295)) (consM (op2 dMod (var 3) (cst (.int 4294967296))) nilM))))))))))) (op2 dMod (op2 dDiv (var 3) (cst (.int 5))) (cst (.int 10)))))
 (retS (op2 dIx (dLst (consM (dTup (consM (cst (.str [108, 101, 110])) nilM)) (consM (dTup (consM (cst (.str [110, 117, 109, 98, 101, 114])) (consM (var 4) nilM))) (consM (dTup (consM (cst (.str [110, 117, 109, 98, 101, 114])) (consM (var 4) nilM))) nilM)))) (op2 dMod (op2 dDiv (var 3) (cst (.int 50))) (cst (.int 3))))))
 nopS)
 (seqS (ifS (tst (op2 dEq (op2 dMod (var 3) (cst (.int 5))) (cst (.int 2))))
 (retS (dTup (consM (cst (.str [108, 111, 97, 100])) (consM (op2 dIx (dLst (consM (cst (.int 1)) (consM (cst (.int 2)) (consM (cst (.int 4)) nilM)))) (op2 dMod (op2 dDiv (var 3) (cst (.int 5))) (cst (.int 3)))) (consM (callP r__law_number (consM (var 0) (consM (op2 dAdd (op2 dMul (cst (.int 3)) (var 1)) (cst (.int 1))) (consM (op2 dSub (var 2) (cst (.int 1))) nilM)))) nilM)))))
 nopS)
 (seqS (setS 5 (callP r__law_number (consM (var 0) (consM (op2 dAdd (op2 dMul (cst (.int 3)) (var 1)) (cst (.int 1))) (consM (op2 dSub (var 2) (cst (.int 1))) nilM)))))
 (retS (dTup (consM (callP m__law_op (consM (op2 dDiv (var 3) (cst (.int 5))) nilM)) (consM (var 5) (consM (callP r__law_number (consM (var 0) (consM (op2 dAdd (op2 dMul (cst (.int 3)) (var 1)) (cst (.int 2))) (consM (op2 dSub (var 2) (cst (.int 1))) nilM)))) nilM)))))))))
def mm__law_number : Nat → List D → Out D
  | 0 => fnP 3 3 (fun _ => .st)
  | n + 1 => fnP 3 3 (b__law_number (mm__law_number n))
def m__law_number : List D → Out D := mm__law_number 5
abbrev s__law_truth : Stmt := topS 24
abbrev N__law_truth : List Str := ["_law_script", "_law_base", "_law_deep", "_law_number_here", "_law_one", "_law_test"]
theorem sc__law_truth : FnScope N__law_truth ["_law_script", "_law_base", "_law_deep"] (defScope s__law_truth) := ⟨rfl, rfl, rfl, by decide +kernel, rfl, by decide +kernel, by decide +kernel⟩
def b__law_truth (r__law_truth : List D → Out D) : SM := (seqS (setS 3 (callP m__law_mix (consM (var 0) (consM (var 1) nilM))))
 (seqS (ifS (tAndM (tst (op2 dGt (var 2) (cst (.int 0)))) (tst (op2 dLt (op2 dMod (var 3) (cst (.int 5))) (cst (.int 3)))))
 (seqS (setS 4 (callP r__law_truth (consM (var 0) (consM (op2 dAdd (op2 dMul (cst (.int 2)) (var 1)) (cst (.int 1))) (consM (op2 dSub (var 2) (cst (.int 1))) nilM)))))
 (seqS (ifS (tst (op2 dEq (op2 dMod (var 3) (cst (.int 5))) (cst (.int 0))))
 (retS (dTup (consM (cst (.str [110, 111, 116])) (consM (var 4) nilM))))
 nopS)
 (retS (dTup (consM (op2 dIx (dLst (consM (cst (.str [98, 111, 116, 104])) (consM (cst (.str [101, 105, 116, 104, 101, 114])) nilM))) (op2 dSub (op2 dMod (var 3) (cst (.int 5))) (cst (.int 1)))) (consM (var 4) (consM (callP r__law_truth (consM (var 0) (consM (op2 dAdd (op2 dMul (cst (.int 2)) (var 1)) (cst (.int 2))) (consM (op2 dSub (var 2) (cst (.int 1))) nilM)))) nilM)))))))
 nopS)
 (seqS (ifS (tst (op2 dEq (op2 dMod (op2 dDiv (var 3) (cst (.int 5))) (cst (.int 7))) (cst (.int 0))))
 (retS (dTup (consM (cst (.str [116, 114, 117, 116, 104])) (consM (op2 dEq (op2 dMod (op2 dDiv (var 3) (cst (.int 35))) (cst (.int 2))) (cst (.int 0))) nilM))))
 nopS)
 (seqS (setS 5 (op2 dIx (dLst (consM (cst (.str [115, 97, 109, 101])) (consM (cst (.str [117, 110, 108, 105, 107, 101])) (consM (cst (.str [98, 101, 108, 111, 119])) (consM (cst (.str [97, 98, 111, 118, 101])) (consM (cst (.str [109, 111, 115, 116])) (consM (cst (.str [108, 101, 97, 115, 116])) nilM))))))) (op2 dMod (op2 dDiv (var 3) (cst (.int 35))) (cst (.int 6)))))
 (retS (dTup (consM (var 5) (consM (callP m__law_number (consM (var 0) (consM (op2 dAdd (op2 dMul (cst (.int 5)) (var 1)) (cst (.int 3))) (consM (cst (.int 2)) nilM)))) (consM (callP m__law_number (consM (var 0) (consM (op2 dAdd (op2 dMul (cst (.int 5)) (var 1)) (cst (.int 4))) (consM (cst (.int 1)) nilM)))) nilM)))))))))
def mm__law_truth : Nat → List D → Out D
  | 0 => fnP 3 3 (fun _ => .st)
  | n + 1 => fnP 3 3 (b__law_truth (mm__law_truth n))
def m__law_truth : List D → Out D := mm__law_truth 5
abbrev s__law_packet : Stmt := topS 20
abbrev N__law_packet : List Str := ["_law_script", "_law_base", "_law_size", "_law_k_here"]
theorem sc__law_packet : FnScope N__law_packet ["_law_script", "_law_base"] (defScope s__law_packet) := ⟨rfl, rfl, rfl, by decide +kernel, rfl, by decide +kernel, by decide +kernel⟩
def b__law_packet : SM := (seqS (setS 2 (op2 dIx (dLst (consM (cst (.int 0)) (consM (cst (.int 1)) (consM (cst (.int 3)) (consM (cst (.int 20)) (consM (cst (.int 34)) (consM (cst (.int 60)) nilM))))))) (op2 dMod (callP m__law_mix (consM (var 0) (consM (var 1) nilM))) (cst (.int 6)))))
 (retS (frz (fLc 3 (itR1 (var 2)) yesT (op2 dMod (op2 dDiv (callP m__law_mix (consM (var 0) (consM (op2 dAdd (op2 dAdd (var 1) (cst (.int 1))) (op2 dMod (var 3) (cst (.int 40)))) nilM))) (op2 dAdd (cst (.int 1)) (var 3))) (cst (.int 256)))))))
def m__law_packet : List D → Out D := fnP 2 2 b__law_packet
abbrev s_halved : Stmt := topS 3
abbrev N_halved : List Str := ["number", "times", "k"]
theorem sc_halved : FnScope N_halved ["number", "times"] (defScope s_halved) := ⟨rfl, rfl, rfl, by decide +kernel, rfl, by decide +kernel, by decide +kernel⟩
def b_halved : SM := (seqS (forS 2 (itR1 (callM bMin (consM (var 1) (consM (cst (.int 32)) nilM))))
 (setS 0 (op2 dDiv (var 0) (cst (.int 2)))))
 (retS (var 0)))
def m_halved : List D → Out D := fnP 2 1 b_halved
abbrev s_doubled : Stmt := topS 2
abbrev N_doubled : List Str := ["number", "times", "k"]
theorem sc_doubled : FnScope N_doubled ["number", "times"] (defScope s_doubled) := ⟨rfl, rfl, rfl, by decide +kernel, rfl, by decide +kernel, by decide +kernel⟩
def b_doubled : SM := (seqS (forS 2 (itR1 (callM bMin (consM (var 1) (consM (cst (.int 32)) nilM))))
 (setS 0 (op2 dMod (op2 dMul (cst (.int 2)) (var 0)) (cst (.int 4294967296)))))
 (retS (var 0)))
def m_doubled : List D → Out D := fnP 2 1 b_doubled
abbrev s_reckoned : Stmt := topS 4
abbrev N_reckoned : List Str := ["op", "one", "other"]
theorem sc_reckoned : FnScope N_reckoned ["op", "one", "other"] (defScope s_reckoned) := ⟨rfl, rfl, rfl, by decide +kernel, rfl, by decide +kernel, by decide +kernel⟩
def b_reckoned : SM := (seqS (ifS (tst (op2 dEq (var 0) (cst (.str [112, 108, 117, 115]))))
 (retS (op2 dMod (op2 dAdd (var 1) (var 2)) (cst (.int 4294967296))))
 nopS)
 (seqS (ifS (tst (op2 dEq (var 0) (cst (.str [109, 105, 110, 117, 115]))))
 (retS (op2 dMod (op2 dSub (var 1) (var 2)) (cst (.int 4294967296))))
 nopS)
 (seqS (ifS (tst (op2 dEq (var 0) (cst (.str [116, 105, 109, 101, 115]))))
 (retS (op2 dMod (op2 dMul (var 1) (var 2)) (cst (.int 4294967296))))
 nopS)
 (seqS (ifS (tst (op2 dIn (var 0) (dTup (consM (cst (.str [111, 118, 101, 114])) (consM (cst (.str [114, 101, 115, 116])) nilM)))))
 (seqS (ifS (tst (op2 dEq (var 2) (cst (.int 0))))
 (retS (cst .non))
 nopS)
 (retS (dIf (tst (op2 dEq (var 0) (cst (.str [111, 118, 101, 114])))) (op2 dDiv (var 1) (var 2)) (op2 dMod (var 1) (var 2)))))
 nopS)
 (seqS (ifS (tst (op2 dEq (var 0) (cst (.str [97, 110, 100]))))
 (retS (op2 dAnd (var 1) (var 2)))
 nopS)
 (seqS (ifS (tst (op2 dEq (var 0) (cst (.str [111, 114]))))
 (retS (op2 dOr (var 1) (var 2)))
 nopS)
 (seqS (ifS (tst (op2 dEq (var 0) (cst (.str [120, 111, 114]))))
 (retS (op2 dXor (var 1) (var 2)))
 nopS)
 (seqS (ifS (tst (op2 dEq (var 0) (cst (.str [108, 101, 102, 116]))))
 (retS (callP m_doubled (consM (var 1) (consM (var 2) nilM))))
 nopS)
 (retS (callP m_halved (consM (var 1) (consM (var 2) nilM))))))))))))
def m_reckoned : List D → Out D := fnP 3 0 b_reckoned
abbrev s_bytes_at : Stmt := topS 5
abbrev N_bytes_at : List Str := ["packet", "at", "size", "found", "byte"]
theorem sc_bytes_at : FnScope N_bytes_at ["packet", "at", "size"] (defScope s_bytes_at) := ⟨rfl, rfl, rfl, by decide +kernel, rfl, by decide +kernel, by decide +kernel⟩
def b_bytes_at : SM := (seqS (ifS (tst (op2 dGt (op2 dAdd (var 1) (var 2)) (callM bLen (consM (var 0) nilM))))
 (retS (cst .non))
 nopS)
 (seqS (setS 3 (cst (.int 0)))
 (seqS (forS 4 (itL (slM dSl (var 0) (oSome (var 1)) (oSome (op2 dAdd (var 1) (var 2)))))
 (setS 3 (op2 dAdd (op2 dMul (var 3) (cst (.int 256))) (var 4))))
 (retS (var 3)))))
def m_bytes_at : List D → Out D := fnP 3 2 b_bytes_at
abbrev s_number_of : Stmt := topS 7
abbrev N_number_of : List Str := ["tree", "packet", "at", "one", "other"]
theorem sc_number_of : FnScope N_number_of ["tree", "packet"] (defScope s_number_of) := ⟨rfl, rfl, rfl, by decide +kernel, rfl, by decide +kernel, by decide +kernel⟩
def b_number_of (r_number_of : List D → Out D) : SM := (seqS (ifS (tst (op2 dEq (op2 dIx (var 0) (cst (.int 0))) (cst (.str [110, 117, 109, 98, 101, 114]))))
 (retS (op2 dIx (var 0) (cst (.int 1))))
 nopS)
 (seqS (ifS (tst (op2 dEq (op2 dIx (var 0) (cst (.int 0))) (cst (.str [108, 101, 110]))))
 (retS (callM bLen (consM (var 1) nilM)))
 nopS)
 (seqS (ifS (tst (op2 dEq (op2 dIx (var 0) (cst (.int 0))) (cst (.str [108, 111, 97, 100]))))
 (seqS (setS 2 (callP r_number_of (consM (op2 dIx (var 0) (cst (.int 2))) (consM (var 1) nilM))))
 (seqS (ifS (tst (op2 dIsN (var 2) (cst .non)))
 (retS (cst .non))
 nopS)
 (retS (callP m_bytes_at (consM (var 1) (consM (var 2) (consM (op2 dIx (var 0) (cst (.int 1))) nilM)))))))
 nopS)
 (seqS (setS 3 (callP r_number_of (consM (op2 dIx (var 0) (cst (.int 1))) (consM (var 1) nilM))))
 (seqS (ifS (tst (op2 dIsN (var 3) (cst .non)))
 (retS (cst .non))
 nopS)
 (seqS (setS 4 (callP r_number_of (consM (op2 dIx (var 0) (cst (.int 2))) (consM (var 1) nilM))))
 (seqS (ifS (tst (op2 dIsN (var 4) (cst .non)))
 (retS (cst .non))
 nopS)
 (retS (callP m_reckoned (consM (op2 dIx (var 0) (cst (.int 0))) (consM (var 3) (consM (var 4) nilM))))))))))))
def mm_number_of : Nat → List D → Out D
  | 0 => fnP 2 3 (fun _ => .st)
  | n + 1 => fnP 2 3 (b_number_of (mm_number_of n))
def m_number_of : List D → Out D := mm_number_of 6
abbrev s_compared : Stmt := topS 8
abbrev N_compared : List Str := ["test", "one", "other"]
theorem sc_compared : FnScope N_compared ["test", "one", "other"] (defScope s_compared) := ⟨rfl, rfl, rfl, by decide +kernel, rfl, by decide +kernel, by decide +kernel⟩
def b_compared : SM := (seqS (ifS (tst (op2 dEq (var 0) (cst (.str [115, 97, 109, 101]))))
 (retS (op2 dEq (var 1) (var 2)))
 nopS)
 (seqS (ifS (tst (op2 dEq (var 0) (cst (.str [117, 110, 108, 105, 107, 101]))))
 (retS (op2 dNe (var 1) (var 2)))
 nopS)
 (seqS (ifS (tst (op2 dEq (var 0) (cst (.str [98, 101, 108, 111, 119]))))
 (retS (op2 dLt (var 1) (var 2)))
 nopS)
 (seqS (ifS (tst (op2 dEq (var 0) (cst (.str [97, 98, 111, 118, 101]))))
 (retS (op2 dGt (var 1) (var 2)))
 nopS)
 (seqS (ifS (tst (op2 dEq (var 0) (cst (.str [109, 111, 115, 116]))))
 (retS (op2 dLe (var 1) (var 2)))
 nopS)
 (retS (op2 dGe (var 1) (var 2))))))))
def m_compared : List D → Out D := fnP 3 0 b_compared
abbrev s_truth_of : Stmt := topS 9
abbrev N_truth_of : List Str := ["tree", "packet", "kind", "one", "other"]
theorem sc_truth_of : FnScope N_truth_of ["tree", "packet"] (defScope s_truth_of) := ⟨rfl, rfl, rfl, by decide +kernel, rfl, by decide +kernel, by decide +kernel⟩
def b_truth_of (r_truth_of : List D → Out D) : SM := (seqS (setS 2 (op2 dIx (var 0) (cst (.int 0))))
 (seqS (ifS (tst (op2 dEq (var 2) (cst (.str [116, 114, 117, 116, 104]))))
 (retS (op2 dIx (var 0) (cst (.int 1))))
 nopS)
 (seqS (ifS (tst (op2 dIn (var 2) (dTup (consM (cst (.str [110, 111, 116])) (consM (cst (.str [98, 111, 116, 104])) (consM (cst (.str [101, 105, 116, 104, 101, 114])) nilM))))))
 (seqS (setS 3 (callP r_truth_of (consM (op2 dIx (var 0) (cst (.int 1))) (consM (var 1) nilM))))
 (seqS (ifS (tst (op2 dIsN (var 3) (cst .non)))
 (retS (cst .non))
 nopS)
 (seqS (ifS (tst (op2 dEq (var 2) (cst (.str [110, 111, 116]))))
 (retS (dNotV (var 3)))
 nopS)
 (seqS (ifS (tst (op2 dEq (var 3) (op2 dEq (var 2) (cst (.str [101, 105, 116, 104, 101, 114])))))
 (retS (var 3))
 nopS)
 (retS (callP r_truth_of (consM (op2 dIx (var 0) (cst (.int 2))) (consM (var 1) nilM))))))))
 nopS)
 (seqS (setS 3 (callP m_number_of (consM (op2 dIx (var 0) (cst (.int 1))) (consM (var 1) nilM))))
 (seqS (ifS (tst (op2 dIsN (var 3) (cst .non)))
 (retS (cst .non))
 nopS)
 (seqS (setS 4 (callP m_number_of (consM (op2 dIx (var 0) (cst (.int 2))) (consM (var 1) nilM))))
 (seqS (ifS (tst (op2 dIsN (var 4) (cst .non)))
 (retS (cst .non))
 nopS)
 (retS (callP m_compared (consM (var 2) (consM (var 3) (consM (var 4) nilM))))))))))))
def mm_truth_of : Nat → List D → Out D
  | 0 => fnP 2 3 (fun _ => .st)
  | n + 1 => fnP 2 3 (b_truth_of (mm_truth_of n))
def m_truth_of : List D → Out D := mm_truth_of 6
abbrev s_takes : Stmt := topS 10
abbrev N_takes : List Str := ["tree", "packet"]
theorem sc_takes : FnScope N_takes ["tree", "packet"] (defScope s_takes) := ⟨rfl, rfl, rfl, by decide +kernel, rfl, by decide +kernel, by decide +kernel⟩
def b_takes : SM := (retS (op2 dIsT (callP m_truth_of (consM (var 0) (consM (var 1) nilM))) (cst (.bl true))))
def m_takes : List D → Out D := fnP 2 0 b_takes
abbrev s__law_reckoned : Stmt := topS 21
abbrev N__law_reckoned : List Str := ["_law_op_here", "_law_one", "_law_other", "_law_k_here", "_law_found", "_law_place", "_law_two"]
theorem sc__law_reckoned : FnScope N__law_reckoned ["_law_op_here", "_law_one", "_law_other"] (defScope s__law_reckoned) := ⟨rfl, rfl, rfl, by decide +kernel, rfl, by decide +kernel, by decide +kernel⟩
def b__law_reckoned : SM := (seqS (ifS (tst (op2 dIn (var 0) (dTup (consM (cst (.str [111, 118, 101, 114])) (consM (cst (.str [114, 101, 115, 116])) nilM)))))
 (seqS (ifS (tst (op2 dEq (var 2) (cst (.int 0))))
 (retS (cst .non))
 nopS)
 (retS (dIf (tst (op2 dEq (var 0) (cst (.str [111, 118, 101, 114])))) (op2 dDiv (var 1) (var 2)) (op2 dSub (var 1) (op2 dMul (op2 dDiv (var 1) (var 2)) (var 2))))))
 nopS)
 (seqS (ifS (tst (op2 dIn (var 0) (dTup (consM (cst (.str [108, 101, 102, 116])) (consM (cst (.str [114, 105, 103, 104, 116])) nilM)))))
 (seqS (forS 3 (itR1 (callM bMin (consM (var 2) (consM (cst (.int 33)) nilM))))
 (setS 1 (dIf (tst (op2 dEq (var 0) (cst (.str [108, 101, 102, 116])))) (op2 dMul (var 1) (cst (.int 2))) (op2 dDiv (var 1) (cst (.int 2))))))
 (retS (op2 dMod (var 1) (cst (.int 4294967296)))))
 nopS)
 (seqS (ifS (tst (op2 dIn (var 0) (dTup (consM (cst (.str [97, 110, 100])) (consM (cst (.str [111, 114])) (consM (cst (.str [120, 111, 114])) nilM))))))
 (seqS (setS 4 (cst (.int 0)))
 (seqS (setS 5 (cst (.int 1)))
 (seqS (forS 3 (itR1 (cst (.int 32)))
 (seqS (setS 6 (dTup (consM (op2 dMod (op2 dDiv (var 1) (var 5)) (cst (.int 2))) (consM (op2 dMod (op2 dDiv (var 2) (var 5)) (cst (.int 2))) nilM))))
 (seqS (setS 4 (op2 dAdd (var 4) (op2 dMul (var 5) (callM bInt (consM (op2 dIx (frz (fDct [.inr [97, 110, 100], .inr [111, 114], .inr [120, 111, 114]] (consM (op2 dEq (var 6) (dTup (consM (cst (.int 1)) (consM (cst (.int 1)) nilM)))) (consM (op2 dNe (var 6) (dTup (consM (cst (.int 0)) (consM (cst (.int 0)) nilM)))) (consM (op2 dNe (op2 dIx (var 6) (cst (.int 0))) (op2 dIx (var 6) (cst (.int 1)))) nilM))))) (var 0)) nilM)))))
 (setS 5 (op2 dMul (var 5) (cst (.int 2)))))))
 (retS (var 4)))))
 nopS)
 (retS (op2 dMod (op2 dIx (frz (fDct [.inr [112, 108, 117, 115], .inr [109, 105, 110, 117, 115], .inr [116, 105, 109, 101, 115]] (consM (op2 dAdd (var 1) (var 2)) (consM (op2 dSub (var 1) (var 2)) (consM (op2 dMul (var 1) (var 2)) nilM))))) (var 0)) (cst (.int 4294967296)))))))
def m__law_reckoned : List D → Out D := fnP 3 4 b__law_reckoned
abbrev s__law_bytes : Stmt := topS 22
abbrev N__law_bytes : List Str := ["_law_packet_here", "_law_at", "_law_size", "_law_k_here"]
theorem sc__law_bytes : FnScope N__law_bytes ["_law_packet_here", "_law_at", "_law_size"] (defScope s__law_bytes) := ⟨rfl, rfl, rfl, by decide +kernel, rfl, by decide +kernel, by decide +kernel⟩
def b__law_bytes : SM := (seqS (ifS (tst (op2 dGt (op2 dAdd (var 1) (var 2)) (callM bLen (consM (var 0) nilM))))
 (retS (cst .non))
 nopS)
 (retS (callM bSum (consM (frz (fLc 3 (itR1 (var 2)) yesT (op2 dMul (op2 dIx (var 0) (op2 dAdd (var 1) (var 3))) (op2 dIx (dLst (consM (cst (.int 1)) (consM (cst (.int 256)) (consM (cst (.int 65536)) (consM (cst (.int 16777216)) nilM))))) (op2 dSub (op2 dSub (var 2) (cst (.int 1))) (var 3)))))) nilM))))
def m__law_bytes : List D → Out D := fnP 3 1 b__law_bytes
abbrev s__law_worth : Stmt := topS 28
abbrev N__law_worth : List Str := ["_law_tree", "_law_packet_here", "_law_at", "_law_one", "_law_other"]
theorem sc__law_worth : FnScope N__law_worth ["_law_tree", "_law_packet_here"] (defScope s__law_worth) := ⟨rfl, rfl, rfl, by decide +kernel, rfl, by decide +kernel, by decide +kernel⟩
def b__law_worth (r__law_worth : List D → Out D) : SM := (seqS (ifS (tst (op2 dEq (op2 dIx (var 0) (cst (.int 0))) (cst (.str [110, 117, 109, 98, 101, 114]))))
 (retS (op2 dIx (var 0) (cst (.int 1))))
 nopS)
 (seqS (ifS (tst (op2 dEq (op2 dIx (var 0) (cst (.int 0))) (cst (.str [108, 101, 110]))))
 (retS (callM bLen (consM (var 1) nilM)))
 nopS)
 (seqS (ifS (tst (op2 dEq (op2 dIx (var 0) (cst (.int 0))) (cst (.str [108, 111, 97, 100]))))
 (seqS (setS 2 (callP r__law_worth (consM (op2 dIx (var 0) (cst (.int 2))) (consM (var 1) nilM))))
 (retS (dIf (tst (op2 dIsN (var 2) (cst .non))) (cst .non) (callP m__law_bytes (consM (var 1) (consM (var 2) (consM (op2 dIx (var 0) (cst (.int 1))) nilM)))))))
 nopS)
 (seqS (setS 3 (callP r__law_worth (consM (op2 dIx (var 0) (cst (.int 1))) (consM (var 1) nilM))))
 (seqS (setS 4 (dIf (tst (op2 dIsN (var 3) (cst .non))) (cst .non) (callP r__law_worth (consM (op2 dIx (var 0) (cst (.int 2))) (consM (var 1) nilM)))))
 (retS (dIf (tst (op2 dIsN (var 4) (cst .non))) (cst .non) (callP m__law_reckoned (consM (op2 dIx (var 0) (cst (.int 0))) (consM (var 3) (consM (var 4) nilM)))))))))))
def mm__law_worth : Nat → List D → Out D
  | 0 => fnP 2 3 (fun _ => .st)
  | n + 1 => fnP 2 3 (b__law_worth (mm__law_worth n))
def m__law_worth : List D → Out D := mm__law_worth 6
abbrev s__law_says : Stmt := topS 29
abbrev N__law_says : List Str := ["_law_tree", "_law_packet_here", "_law_one", "_law_other", "_law_good"]
theorem sc__law_says : FnScope N__law_says ["_law_tree", "_law_packet_here"] (defScope s__law_says) := ⟨rfl, rfl, rfl, by decide +kernel, rfl, by decide +kernel, by decide +kernel⟩
def b__law_says (r__law_says : List D → Out D) : SM := (seqS (ifS (tst (op2 dEq (op2 dIx (var 0) (cst (.int 0))) (cst (.str [116, 114, 117, 116, 104]))))
 (retS (callM bInt (consM (op2 dIx (var 0) (cst (.int 1))) nilM)))
 nopS)
 (seqS (ifS (tst (op2 dIn (op2 dIx (var 0) (cst (.int 0))) (dTup (consM (cst (.str [110, 111, 116])) (consM (cst (.str [98, 111, 116, 104])) (consM (cst (.str [101, 105, 116, 104, 101, 114])) nilM))))))
 (seqS (setS 2 (callP r__law_says (consM (op2 dIx (var 0) (cst (.int 1))) (consM (var 1) nilM))))
 (seqS (ifS (tOrM (tst (op2 dLt (var 2) (cst (.int 0)))) (tst (op2 dEq (op2 dIx (var 0) (cst (.int 0))) (cst (.str [110, 111, 116])))))
 (retS (dIf (tst (op2 dLt (var 2) (cst (.int 0)))) (var 2) (op2 dSub (cst (.int 1)) (var 2))))
 nopS)
 (retS (dIf (tst (op2 dEq (var 2) (callM bInt (consM (op2 dEq (op2 dIx (var 0) (cst (.int 0))) (cst (.str [101, 105, 116, 104, 101, 114]))) nilM)))) (var 2) (callP r__law_says (consM (op2 dIx (var 0) (cst (.int 2))) (consM (var 1) nilM)))))))
 nopS)
 (seqS (setS 2 (callP m__law_worth (consM (op2 dIx (var 0) (cst (.int 1))) (consM (var 1) nilM))))
 (seqS (setS 3 (dIf (tst (op2 dIsN (var 2) (cst .non))) (cst .non) (callP m__law_worth (consM (op2 dIx (var 0) (cst (.int 2))) (consM (var 1) nilM)))))
 (seqS (ifS (tst (op2 dIsN (var 3) (cst .non)))
 (retS (cst (.int (-1))))
 nopS)
 (seqS (setFS 4 (fDct [.inr [115, 97, 109, 101], .inr [117, 110, 108, 105, 107, 101], .inr [98, 101, 108, 111, 119], .inr [97, 98, 111, 118, 101]] (consM (op2 dEq (var 2) (var 3)) (consM (op2 dNe (var 2) (var 3)) (consM (op2 dLt (var 2) (var 3)) (consM (op2 dGt (var 2) (var 3)) nilM))))))
 (seqS (putDS 4 (cst (.str [109, 111, 115, 116])) (op2 dLe (var 2) (var 3)))
 (seqS (putDS 4 (cst (.str [108, 101, 97, 115, 116])) (op2 dGe (var 2) (var 3)))
 (retS (callM bInt (consM (op2 dIx (bvar 4) (op2 dIx (var 0) (cst (.int 0)))) nilM)))))))))))
def mm__law_says : Nat → List D → Out D
  | 0 => fnP 2 3 (fun _ => .st)
  | n + 1 => fnP 2 3 (b__law_says (mm__law_says n))
def m__law_says : List D → Out D := mm__law_says 6
abbrev s_law : Stmt := topS 30
abbrev N_law : List Str := ["_law_script", "_law_tree", "_law_k_here", "_law_packet_here", "_law_handed", "_law_found"]
theorem sc_law : FnScope N_law ["_law_script"] (defScope s_law) := ⟨rfl, rfl, rfl, by decide +kernel, rfl, by decide +kernel, by decide +kernel⟩
def b_law : SM := (seqS (setS 1 (callP m__law_truth (consM (var 0) (consM (cst (.int 0)) (consM (cst (.int 2)) nilM)))))
 (seqS (forS 2 (itR1 (cst (.int 3)))
 (seqS (setS 3 (callP m__law_packet (consM (var 0) (consM (op2 dAdd (cst (.int 20)) (op2 dMul (cst (.int 11)) (var 2))) nilM))))
 (seqS (setS 4 (frz (callM bList (consM (var 3) nilM))))
 (seqS (setS 5 (callP m_takes (consM (var 1) (consM (var 4) nilM))))
 (ifS (tOrM (tNotM (tTru (dIsi isBool (var 5)))) (tOrM (tst (op2 dNe (var 5) (op2 dEq (callP m__law_says (consM (var 1) (consM (var 3) nilM))) (cst (.int 1))))) (tst (op2 dNe (var 4) (var 3)))))
 (retS (cst (.bl false)))
 nopS)))))
 (retS (cst (.bl true)))))
def m_law : List D → Out D := fnP 1 5 b_law
structure Txt (G : Wd) (mg : Str → Option Value) where
  f__law_cell : Addr
  d__law_cell : FuncData
  F__law_cell : FunD G.K "_law_cell" "_law_cell" (defArgs s__law_cell) (defBody s__law_cell) (defScope s__law_cell) [] [] f__law_cell d__law_cell
  g__law_cell : mg "_law_cell" = some (.ref f__law_cell)
  b__law_cell : Binds G.K d__law_cell ["_law_script", "_law_k_here"] []
  f__law_mix : Addr
  d__law_mix : FuncData
  F__law_mix : FunD G.K "_law_mix" "_law_mix" (defArgs s__law_mix) (defBody s__law_mix) (defScope s__law_mix) [] [] f__law_mix d__law_mix
  g__law_mix : mg "_law_mix" = some (.ref f__law_mix)
  b__law_mix : Binds G.K d__law_mix ["_law_script", "_law_k_here"] []
  f__law_op : Addr
  d__law_op : FuncData
  F__law_op : FunD G.K "_law_op" "_law_op" (defArgs s__law_op) (defBody s__law_op) (defScope s__law_op) [] [] f__law_op d__law_op
  g__law_op : mg "_law_op" = some (.ref f__law_op)
  b__law_op : Binds G.K d__law_op ["_law_number_here"] []
  f__law_number : Addr
  d__law_number : FuncData
  F__law_number : FunD G.K "_law_number" "_law_number" (defArgs s__law_number) (defBody s__law_number) (defScope s__law_number) [] [] f__law_number d__law_number
  g__law_number : mg "_law_number" = some (.ref f__law_number)
  b__law_number : Binds G.K d__law_number ["_law_script", "_law_base", "_law_deep"] []
  f__law_truth : Addr
  d__law_truth : FuncData
  F__law_truth : FunD G.K "_law_truth" "_law_truth" (defArgs s__law_truth) (defBody s__law_truth) (defScope s__law_truth) [] [] f__law_truth d__law_truth
  g__law_truth : mg "_law_truth" = some (.ref f__law_truth)
  b__law_truth : Binds G.K d__law_truth ["_law_script", "_law_base", "_law_deep"] []
  f__law_packet : Addr
  d__law_packet : FuncData
  F__law_packet : FunD G.K "_law_packet" "_law_packet" (defArgs s__law_packet) (defBody s__law_packet) (defScope s__law_packet) [] [] f__law_packet d__law_packet
  g__law_packet : mg "_law_packet" = some (.ref f__law_packet)
  b__law_packet : Binds G.K d__law_packet ["_law_script", "_law_base"] []
  f_halved : Addr
  d_halved : FuncData
  F_halved : FunD G.K "halved" "halved" (defArgs s_halved) (defBody s_halved) (defScope s_halved) [] [] f_halved d_halved
  g_halved : mg "halved" = some (.ref f_halved)
  b_halved : Binds G.K d_halved ["number", "times"] []
  f_doubled : Addr
  d_doubled : FuncData
  F_doubled : FunD G.K "doubled" "doubled" (defArgs s_doubled) (defBody s_doubled) (defScope s_doubled) [] [] f_doubled d_doubled
  g_doubled : mg "doubled" = some (.ref f_doubled)
  b_doubled : Binds G.K d_doubled ["number", "times"] []
  f_reckoned : Addr
  d_reckoned : FuncData
  F_reckoned : FunD G.K "reckoned" "reckoned" (defArgs s_reckoned) (defBody s_reckoned) (defScope s_reckoned) [] [] f_reckoned d_reckoned
  g_reckoned : mg "reckoned" = some (.ref f_reckoned)
  b_reckoned : Binds G.K d_reckoned ["op", "one", "other"] []
  f_bytes_at : Addr
  d_bytes_at : FuncData
  F_bytes_at : FunD G.K "bytes_at" "bytes_at" (defArgs s_bytes_at) (defBody s_bytes_at) (defScope s_bytes_at) [] [] f_bytes_at d_bytes_at
  g_bytes_at : mg "bytes_at" = some (.ref f_bytes_at)
  b_bytes_at : Binds G.K d_bytes_at ["packet", "at", "size"] []
  f_number_of : Addr
  d_number_of : FuncData
  F_number_of : FunD G.K "number_of" "number_of" (defArgs s_number_of) (defBody s_number_of) (defScope s_number_of) [] [] f_number_of d_number_of
  g_number_of : mg "number_of" = some (.ref f_number_of)
  b_number_of : Binds G.K d_number_of ["tree", "packet"] []
  f_compared : Addr
  d_compared : FuncData
  F_compared : FunD G.K "compared" "compared" (defArgs s_compared) (defBody s_compared) (defScope s_compared) [] [] f_compared d_compared
  g_compared : mg "compared" = some (.ref f_compared)
  b_compared : Binds G.K d_compared ["test", "one", "other"] []
  f_truth_of : Addr
  d_truth_of : FuncData
  F_truth_of : FunD G.K "truth_of" "truth_of" (defArgs s_truth_of) (defBody s_truth_of) (defScope s_truth_of) [] [] f_truth_of d_truth_of
  g_truth_of : mg "truth_of" = some (.ref f_truth_of)
  b_truth_of : Binds G.K d_truth_of ["tree", "packet"] []
  f_takes : Addr
  d_takes : FuncData
  F_takes : FunD G.K "takes" "takes" (defArgs s_takes) (defBody s_takes) (defScope s_takes) [] [] f_takes d_takes
  g_takes : mg "takes" = some (.ref f_takes)
  b_takes : Binds G.K d_takes ["tree", "packet"] []
  f__law_reckoned : Addr
  d__law_reckoned : FuncData
  F__law_reckoned : FunD G.K "_law_reckoned" "_law_reckoned" (defArgs s__law_reckoned) (defBody s__law_reckoned) (defScope s__law_reckoned) [] [] f__law_reckoned d__law_reckoned
  g__law_reckoned : mg "_law_reckoned" = some (.ref f__law_reckoned)
  b__law_reckoned : Binds G.K d__law_reckoned ["_law_op_here", "_law_one", "_law_other"] []
  f__law_bytes : Addr
  d__law_bytes : FuncData
  F__law_bytes : FunD G.K "_law_bytes" "_law_bytes" (defArgs s__law_bytes) (defBody s__law_bytes) (defScope s__law_bytes) [] [] f__law_bytes d__law_bytes
  g__law_bytes : mg "_law_bytes" = some (.ref f__law_bytes)
  b__law_bytes : Binds G.K d__law_bytes ["_law_packet_here", "_law_at", "_law_size"] []
  f__law_worth : Addr
  d__law_worth : FuncData
  F__law_worth : FunD G.K "_law_worth" "_law_worth" (defArgs s__law_worth) (defBody s__law_worth) (defScope s__law_worth) [] [] f__law_worth d__law_worth
  g__law_worth : mg "_law_worth" = some (.ref f__law_worth)
  b__law_worth : Binds G.K d__law_worth ["_law_tree", "_law_packet_here"] []
  f__law_says : Addr
  d__law_says : FuncData
  F__law_says : FunD G.K "_law_says" "_law_says" (defArgs s__law_says) (defBody s__law_says) (defScope s__law_says) [] [] f__law_says d__law_says
  g__law_says : mg "_law_says" = some (.ref f__law_says)
  b__law_says : Binds G.K d__law_says ["_law_tree", "_law_packet_here"] []
  f_law : Addr
  d_law : FuncData
  F_law : FunD G.K "law" "law" (defArgs s_law) (defBody s_law) (defScope s_law) [] [] f_law d_law
  n_bool : mg "bool" = none
  n_int : mg "int" = none
  n_isinstance : mg "isinstance" = none
  n_len : mg "len" = none
  n_list : mg "list" = none
  n_min : mg "min" = none
  n_range : mg "range" = none
  n_sum : mg "sum" = none
  c_ROUND : ∃ t, mg "ROUND" = some (.int 4294967296 t)
section
variable {P : Program} {w : World} {G : Wd} {mg : Str → Option Value} {base : Heap}
theorem ok__law_cell (T : Txt G mg) : FnOk P w G.K mg base (L2.CX P w) 1 T.f__law_cell T.d__law_cell ["_law_script", "_law_k_here"] (SpP G m__law_cell) :=
  fn_P' T.F__law_cell sc__law_cell 2 0 rfl rfl fun cdv A outer s H E hr tk hp hu => (ss_cons (s_if (t_tru rfl (dB (e_var (pv 0))))
 (ss_one (s_ret (e_ix rfl hu (dB (e_var (pv 0))) (dB (e_bin oMod (dB (e_var (pv 1))) (dB (e_callB (cLen rfl) T.n_len (by decide +kernel) (ab_cons (dB (e_var (pv 0))) ab_nil))))))))
 ss_nil)
 (ss_one (s_ret e_int)))
theorem ok__law_mix (T : Txt G mg) : FnOk P w G.K mg base (L2.CX P w) 2 T.f__law_mix T.d__law_mix ["_law_script", "_law_k_here"] (SpP G m__law_mix) :=
  fn_P' T.F__law_mix sc__law_mix 2 1 rfl rfl fun cdv A outer s H E hr tk hp hu => (ss_cons (s_set (i := 2) sc__law_mix.nd (e_bin oMod (dB (e_bin (oAdd rfl) (dB (e_call (ok__law_cell T) (hr.mono (by omega)) T.g__law_cell T.F__law_cell.kp T.b__law_cell tk (a_cons (e_var (pv 0)) (a_cons (e_var (pv 1)) a_nil)))) (dB (e_bin oMul (dB e_int) (dB (e_bin (oAdd rfl) (dB (e_var (pv 1))) (dB e_int))))))) (dB e_int)))
 (ss_cons (s_set (i := 2) sc__law_mix.nd (e_bin oMod (dB (e_bin oMul (dB (e_var (pv 2))) (dB e_int))) (dB e_int)))
 (ss_one (s_ret (e_bin oMod (dB (e_bin (oAdd rfl) (dB (e_bin oMul (dB (e_bin oDiv (dB (e_var (pv 2))) (dB e_int))) (dB e_int))) (dB (e_var (pv 2))))) (dB e_int))))))
theorem ok__law_op (T : Txt G mg) : FnOk P w G.K mg base (L2.CX P w) 1 T.f__law_op T.d__law_op ["_law_number_here"] (SpP G m__law_op) :=
  fn_P' T.F__law_op sc__law_op 1 0 rfl rfl fun cdv A outer s H E hr tk hp hu => (ss_one (s_ret (e_ix rfl hu (dB (e_lst (a_cons (e_str [112, 108, 117, 115]) (a_cons (e_str [109, 105, 110, 117, 115]) (a_cons (e_str [116, 105, 109, 101, 115]) (a_cons (e_str [111, 118, 101, 114]) (a_cons (e_str [114, 101, 115, 116]) (a_cons (e_str [97, 110, 100]) (a_cons (e_str [111, 114]) (a_cons (e_str [120, 111, 114]) (a_cons (e_str [108, 101, 102, 116]) (a_cons (e_str [114, 105, 103, 104, 116]) a_nil)))))))))) (len_cons (len_cons (len_cons (len_cons (len_cons (len_cons (len_cons (len_cons (len_cons (len_cons len_nil)))))))))))) (dB (e_bin oMod (dB (e_var (pv 0))) (dB e_int))))))
theorem okg__law_number (T : Txt G mg) : ∀ n : Nat, FnOk P w G.K mg base (L2.CX P w) (n + 3) T.f__law_number T.d__law_number ["_law_script", "_law_base", "_law_deep"] (SpP G (mm__law_number n))
  | 0 => by
    rw [Nat.zero_add]
    exact fn_P' (k := 2) T.F__law_number sc__law_number 3 3 rfl rfl fun _ _ _ _ _ _ _ _ _ _ => pss_st
  | n + 1 => by
    have ih := okg__law_number T n
    rw [show n + 1 + 3 = n + 3 + 1 by omega]
    exact fn_P' (k := n + 3) T.F__law_number sc__law_number 3 3 rfl rfl fun cdv A outer s H E hr tk hp hu => (ss_cons (s_set (i := 3) sc__law_number.nd (e_call (ok__law_mix T) (hr.mono (by omega)) T.g__law_mix T.F__law_mix.kp T.b__law_mix tk (a_cons (e_var (pv 0)) (a_cons (e_var (pv 1)) a_nil))))
 (ss_cons (s_if (t_w (w_or (t_cmp (oEq rfl hu) (dB (e_var (pv 2))) (dB e_int) (nomark _)) (w_or1 (t_cmp oLt (dB (e_bin oMod (dB (e_var (pv 3))) (dB e_int))) (dB e_int) (nomark _)))))
 (ss_cons (s_set (i := 4) sc__law_number.nd (e_ix rfl hu (dB (e_lst (a_cons e_int (a_cons e_int (a_cons e_int (a_cons e_int (a_cons e_int (a_cons e_int (a_cons e_int (a_cons e_int (a_cons e_int (a_cons (e_bin oMod (dB (e_var (pv 3))) (dB e_int)) a_nil)))))))))) (len_cons (len_cons (len_cons (len_cons (len_cons (len_cons (len_cons (len_cons (len_cons (len_cons len_nil)))))))))))) (dB (e_bin oMod (dB (e_bin oDiv (dB (e_var (pv 3))) (dB e_int))) (dB e_int)))))
 (ss_one (s_ret (e_ix rfl hu (dB (e_lst (a_cons (e_tup (a_cons (e_str [108, 101, 110]) a_nil) (len_cons len_nil)) (a_cons (e_tup (a_cons (e_str [110, 117, 109, 98, 101, 114]) (a_cons (e_var (pv 4)) a_nil)) (len_cons (len_cons len_nil))) (a_cons (e_tup (a_cons (e_str [110, 117, 109, 98, 101, 114]) (a_cons (e_var (pv 4)) a_nil)) (len_cons (len_cons len_nil))) a_nil))) (len_cons (len_cons (len_cons len_nil))))) (dB (e_bin oMod (dB (e_bin oDiv (dB (e_var (pv 3))) (dB e_int))) (dB e_int)))))))
 ss_nil)
 (ss_cons (s_if (t_cmp (oEq rfl hu) (dB (e_bin oMod (dB (e_var (pv 3))) (dB e_int))) (dB e_int) (nomark _))
 (ss_one (s_ret (e_tup (a_cons (e_str [108, 111, 97, 100]) (a_cons (e_ix rfl hu (dB (e_lst (a_cons e_int (a_cons e_int (a_cons e_int a_nil))) (len_cons (len_cons (len_cons len_nil))))) (dB (e_bin oMod (dB (e_bin oDiv (dB (e_var (pv 3))) (dB e_int))) (dB e_int)))) (a_cons (e_call ih (hr.mono (by omega)) T.g__law_number T.F__law_number.kp T.b__law_number tk (a_cons (e_var (pv 0)) (a_cons (e_bin (oAdd rfl) (dB (e_bin oMul (dB e_int) (dB (e_var (pv 1))))) (dB e_int)) (a_cons (e_bin oSub (dB (e_var (pv 2))) (dB e_int)) a_nil)))) a_nil))) (len_cons (len_cons (len_cons len_nil))))))
 ss_nil)
 (ss_cons (s_set (i := 5) sc__law_number.nd (e_call ih (hr.mono (by omega)) T.g__law_number T.F__law_number.kp T.b__law_number tk (a_cons (e_var (pv 0)) (a_cons (e_bin (oAdd rfl) (dB (e_bin oMul (dB e_int) (dB (e_var (pv 1))))) (dB e_int)) (a_cons (e_bin oSub (dB (e_var (pv 2))) (dB e_int)) a_nil)))))
 (ss_one (s_ret (e_tup (a_cons (e_call (ok__law_op T) (hr.mono (by omega)) T.g__law_op T.F__law_op.kp T.b__law_op tk (a_cons (e_bin oDiv (dB (e_var (pv 3))) (dB e_int)) a_nil)) (a_cons (e_var (pv 5)) (a_cons (e_call ih (hr.mono (by omega)) T.g__law_number T.F__law_number.kp T.b__law_number tk (a_cons (e_var (pv 0)) (a_cons (e_bin (oAdd rfl) (dB (e_bin oMul (dB e_int) (dB (e_var (pv 1))))) (dB e_int)) (a_cons (e_bin oSub (dB (e_var (pv 2))) (dB e_int)) a_nil)))) a_nil))) (len_cons (len_cons (len_cons len_nil))))))))))
theorem ok__law_number (T : Txt G mg) : FnOk P w G.K mg base (L2.CX P w) 8 T.f__law_number T.d__law_number ["_law_script", "_law_base", "_law_deep"] (SpP G m__law_number) := (okg__law_number T 5)
theorem okg__law_truth (T : Txt G mg) : ∀ n : Nat, FnOk P w G.K mg base (L2.CX P w) (n + 9) T.f__law_truth T.d__law_truth ["_law_script", "_law_base", "_law_deep"] (SpP G (mm__law_truth n))
  | 0 => by
    rw [Nat.zero_add]
    exact fn_P' (k := 8) T.F__law_truth sc__law_truth 3 3 rfl rfl fun _ _ _ _ _ _ _ _ _ _ => pss_st
  | n + 1 => by
    have ih := okg__law_truth T n
    rw [show n + 1 + 9 = n + 9 + 1 by omega]
    exact fn_P' (k := n + 9) T.F__law_truth sc__law_truth 3 3 rfl rfl fun cdv A outer s H E hr tk hp hu => (ss_cons (s_set (i := 3) sc__law_truth.nd (e_call (ok__law_mix T) (hr.mono (by omega)) T.g__law_mix T.F__law_mix.kp T.b__law_mix tk (a_cons (e_var (pv 0)) (a_cons (e_var (pv 1)) a_nil))))
 (ss_cons (s_if (t_w (w_and (t_cmp oGt (dB (e_var (pv 2))) (dB e_int) (nomark _)) (w_and1 (t_cmp oLt (dB (e_bin oMod (dB (e_var (pv 3))) (dB e_int))) (dB e_int) (nomark _)))))
 (ss_cons (s_set (i := 4) sc__law_truth.nd (e_call ih (hr.mono (by omega)) T.g__law_truth T.F__law_truth.kp T.b__law_truth tk (a_cons (e_var (pv 0)) (a_cons (e_bin (oAdd rfl) (dB (e_bin oMul (dB e_int) (dB (e_var (pv 1))))) (dB e_int)) (a_cons (e_bin oSub (dB (e_var (pv 2))) (dB e_int)) a_nil)))))
 (ss_cons (s_if (t_cmp (oEq rfl hu) (dB (e_bin oMod (dB (e_var (pv 3))) (dB e_int))) (dB e_int) (nomark _))
 (ss_one (s_ret (e_tup (a_cons (e_str [110, 111, 116]) (a_cons (e_var (pv 4)) a_nil)) (len_cons (len_cons len_nil)))))
 ss_nil)
 (ss_one (s_ret (e_tup (a_cons (e_ix rfl hu (dB (e_lst (a_cons (e_str [98, 111, 116, 104]) (a_cons (e_str [101, 105, 116, 104, 101, 114]) a_nil)) (len_cons (len_cons len_nil)))) (dB (e_bin oSub (dB (e_bin oMod (dB (e_var (pv 3))) (dB e_int))) (dB e_int)))) (a_cons (e_var (pv 4)) (a_cons (e_call ih (hr.mono (by omega)) T.g__law_truth T.F__law_truth.kp T.b__law_truth tk (a_cons (e_var (pv 0)) (a_cons (e_bin (oAdd rfl) (dB (e_bin oMul (dB e_int) (dB (e_var (pv 1))))) (dB e_int)) (a_cons (e_bin oSub (dB (e_var (pv 2))) (dB e_int)) a_nil)))) a_nil))) (len_cons (len_cons (len_cons len_nil))))))))
 ss_nil)
 (ss_cons (s_if (t_cmp (oEq rfl hu) (dB (e_bin oMod (dB (e_bin oDiv (dB (e_var (pv 3))) (dB e_int))) (dB e_int))) (dB e_int) (nomark _))
 (ss_one (s_ret (e_tup (a_cons (e_str [116, 114, 117, 116, 104]) (a_cons (e_cmp (oEq rfl hu) (dB (e_bin oMod (dB (e_bin oDiv (dB (e_var (pv 3))) (dB e_int))) (dB e_int))) (dB e_int) (nomark _)) a_nil)) (len_cons (len_cons len_nil)))))
 ss_nil)
 (ss_cons (s_set (i := 5) sc__law_truth.nd (e_ix rfl hu (dB (e_lst (a_cons (e_str [115, 97, 109, 101]) (a_cons (e_str [117, 110, 108, 105, 107, 101]) (a_cons (e_str [98, 101, 108, 111, 119]) (a_cons (e_str [97, 98, 111, 118, 101]) (a_cons (e_str [109, 111, 115, 116]) (a_cons (e_str [108, 101, 97, 115, 116]) a_nil)))))) (len_cons (len_cons (len_cons (len_cons (len_cons (len_cons len_nil)))))))) (dB (e_bin oMod (dB (e_bin oDiv (dB (e_var (pv 3))) (dB e_int))) (dB e_int)))))
 (ss_one (s_ret (e_tup (a_cons (e_var (pv 5)) (a_cons (e_call (ok__law_number T) (hr.mono (by omega)) T.g__law_number T.F__law_number.kp T.b__law_number tk (a_cons (e_var (pv 0)) (a_cons (e_bin (oAdd rfl) (dB (e_bin oMul (dB e_int) (dB (e_var (pv 1))))) (dB e_int)) (a_cons e_int a_nil)))) (a_cons (e_call (ok__law_number T) (hr.mono (by omega)) T.g__law_number T.F__law_number.kp T.b__law_number tk (a_cons (e_var (pv 0)) (a_cons (e_bin (oAdd rfl) (dB (e_bin oMul (dB e_int) (dB (e_var (pv 1))))) (dB e_int)) (a_cons e_int a_nil)))) a_nil))) (len_cons (len_cons (len_cons len_nil))))))))))
theorem ok__law_truth (T : Txt G mg) : FnOk P w G.K mg base (L2.CX P w) 14 T.f__law_truth T.d__law_truth ["_law_script", "_law_base", "_law_deep"] (SpP G m__law_truth) := (okg__law_truth T 5)
theorem ok__law_packet (T : Txt G mg) : FnOk P w G.K mg base (L2.CX P w) 3 T.f__law_packet T.d__law_packet ["_law_script", "_law_base"] (SpP G m__law_packet) :=
  fn_P' T.F__law_packet sc__law_packet 2 2 rfl rfl fun cdv A outer s H E hr tk hp hu => (ss_cons (s_set (i := 2) sc__law_packet.nd (e_ix rfl hu (dB (e_lst (a_cons e_int (a_cons e_int (a_cons e_int (a_cons e_int (a_cons e_int (a_cons e_int a_nil)))))) (len_cons (len_cons (len_cons (len_cons (len_cons (len_cons len_nil)))))))) (dB (e_bin oMod (dB (e_call (ok__law_mix T) (hr.mono (by omega)) T.g__law_mix T.F__law_mix.kp T.b__law_mix tk (a_cons (e_var (pv 0)) (a_cons (e_var (pv 1)) a_nil)))) (dB e_int)))))
 (ss_one (s_ret (fD (f_lc (i := 3) sc__law_packet.nd (iB (i_range1 T.n_range (e_var (pv 2)))) (blkOk_by (N := N__law_packet) (sc := defScope s__law_packet) (by decide +kernel)) (fun _ _ _ _ _ => ts_nil) (fun _ _ _ _ _ => (e_bin oMod (dB (e_bin oDiv (dB (e_call (ok__law_mix T) (hr.mono (by omega)) T.g__law_mix T.F__law_mix.kp T.b__law_mix takes0 (a_cons (e_var (pv 0)) (a_cons (e_bin (oAdd rfl) (dB (e_bin (oAdd rfl) (dB (e_var (pv 1))) (dB e_int))) (dB (e_bin oMod (dB (e_var (pv 3))) (dB e_int)))) a_nil)))) (dB (e_bin (oAdd rfl) (dB e_int) (dB (e_var (pv 3))))))) (dB e_int))) (fun _ _ _ _ _ => pg_name (i := 3) sc__law_packet.nd rfl (Or.inl rfl)))))))
theorem ok_halved (T : Txt G mg) : FnOk P w G.K mg base (L2.CX P w) 1 T.f_halved T.d_halved ["number", "times"] (SpP G m_halved) :=
  fn_P' T.F_halved sc_halved 2 1 rfl rfl fun cdv A outer s H E hr tk hp hu => (ss_cons (s_for (i := 2) hp sc_halved.nd (i_range1 T.n_range (e_callB (cMin rfl) T.n_min (by decide +kernel) (ab_cons (dB (e_var (pv 1))) (ab_cons (dB e_int) ab_nil))))
 (ss_one (s_set (i := 0) sc_halved.nd (e_bin oDiv (dB (e_var (pv 0))) (dB e_int)))))
 (ss_one (s_ret (e_var (pv 0)))))
theorem ok_doubled (T : Txt G mg) : FnOk P w G.K mg base (L2.CX P w) 1 T.f_doubled T.d_doubled ["number", "times"] (SpP G m_doubled) :=
  fn_P' T.F_doubled sc_doubled 2 1 rfl rfl fun cdv A outer s H E hr tk hp hu => (ss_cons (s_for (i := 2) hp sc_doubled.nd (i_range1 T.n_range (e_callB (cMin rfl) T.n_min (by decide +kernel) (ab_cons (dB (e_var (pv 1))) (ab_cons (dB e_int) ab_nil))))
 (ss_one (s_set (i := 0) sc_doubled.nd (e_bin oMod (dB (e_bin oMul (dB e_int) (dB (e_var (pv 0))))) (dB (e_gint T.c_ROUND))))))
 (ss_one (s_ret (e_var (pv 0)))))
theorem ok_reckoned (T : Txt G mg) : FnOk P w G.K mg base (L2.CX P w) 2 T.f_reckoned T.d_reckoned ["op", "one", "other"] (SpP G m_reckoned) :=
  fn_P' T.F_reckoned sc_reckoned 3 0 rfl rfl fun cdv A outer s H E hr tk hp hu => (ss_cons (s_if (t_cmp (oEq rfl hu) (dB (e_var (pv 0))) (dB (e_str [112, 108, 117, 115])) (nomark _))
 (ss_one (s_ret (e_bin oMod (dB (e_bin (oAdd rfl) (dB (e_var (pv 1))) (dB (e_var (pv 2))))) (dB (e_gint T.c_ROUND)))))
 ss_nil)
 (ss_cons (s_if (t_cmp (oEq rfl hu) (dB (e_var (pv 0))) (dB (e_str [109, 105, 110, 117, 115])) (nomark _))
 (ss_one (s_ret (e_bin oMod (dB (e_bin oSub (dB (e_var (pv 1))) (dB (e_var (pv 2))))) (dB (e_gint T.c_ROUND)))))
 ss_nil)
 (ss_cons (s_if (t_cmp (oEq rfl hu) (dB (e_var (pv 0))) (dB (e_str [116, 105, 109, 101, 115])) (nomark _))
 (ss_one (s_ret (e_bin oMod (dB (e_bin oMul (dB (e_var (pv 1))) (dB (e_var (pv 2))))) (dB (e_gint T.c_ROUND)))))
 ss_nil)
 (ss_cons (s_if (t_cmp (oIn rfl hu) (dB (e_var (pv 0))) (dB (e_tup (a_cons (e_str [111, 118, 101, 114]) (a_cons (e_str [114, 101, 115, 116]) a_nil)) (len_cons (len_cons len_nil)))) (by rfl))
 (ss_cons (s_if (t_cmp (oEq rfl hu) (dB (e_var (pv 2))) (dB e_int) (nomark _))
 (ss_one (s_ret e_non))
 ss_nil)
 (ss_one (s_ret (e_if (t_cmp (oEq rfl hu) (dB (e_var (pv 0))) (dB (e_str [111, 118, 101, 114])) (nomark _)) (e_bin oDiv (dB (e_var (pv 1))) (dB (e_var (pv 2)))) (e_bin oMod (dB (e_var (pv 1))) (dB (e_var (pv 2))))))))
 ss_nil)
 (ss_cons (s_if (t_cmp (oEq rfl hu) (dB (e_var (pv 0))) (dB (e_str [97, 110, 100])) (nomark _))
 (ss_one (s_ret (e_bin oAnd (dB (e_var (pv 1))) (dB (e_var (pv 2))))))
 ss_nil)
 (ss_cons (s_if (t_cmp (oEq rfl hu) (dB (e_var (pv 0))) (dB (e_str [111, 114])) (nomark _))
 (ss_one (s_ret (e_bin oOr (dB (e_var (pv 1))) (dB (e_var (pv 2))))))
 ss_nil)
 (ss_cons (s_if (t_cmp (oEq rfl hu) (dB (e_var (pv 0))) (dB (e_str [120, 111, 114])) (nomark _))
 (ss_one (s_ret (e_bin oXor (dB (e_var (pv 1))) (dB (e_var (pv 2))))))
 ss_nil)
 (ss_cons (s_if (t_cmp (oEq rfl hu) (dB (e_var (pv 0))) (dB (e_str [108, 101, 102, 116])) (nomark _))
 (ss_one (s_ret (e_call (ok_doubled T) (hr.mono (by omega)) T.g_doubled T.F_doubled.kp T.b_doubled tk (a_cons (e_var (pv 1)) (a_cons (e_var (pv 2)) a_nil)))))
 ss_nil)
 (ss_one (s_ret (e_call (ok_halved T) (hr.mono (by omega)) T.g_halved T.F_halved.kp T.b_halved tk (a_cons (e_var (pv 1)) (a_cons (e_var (pv 2)) a_nil)))))))))))))
theorem ok_bytes_at (T : Txt G mg) : FnOk P w G.K mg base (L2.CX P w) 1 T.f_bytes_at T.d_bytes_at ["packet", "at", "size"] (SpP G m_bytes_at) :=
  fn_P' T.F_bytes_at sc_bytes_at 3 2 rfl rfl fun cdv A outer s H E hr tk hp hu => (ss_cons (s_if (t_cmp oGt (dB (e_bin (oAdd rfl) (dB (e_var (pv 1))) (dB (e_var (pv 2))))) (dB (e_callB (cLen rfl) T.n_len (by decide +kernel) (ab_cons (dB (e_var (pv 0))) ab_nil))) (nomark _))
 (ss_one (s_ret e_non))
 ss_nil)
 (ss_cons (s_set (i := 3) sc_bytes_at.nd e_int)
 (ss_cons (s_for (i := 4) hp sc_bytes_at.nd (i_list (e_sl (oSl rfl) (dB (e_var (pv 0))) (o_some (dB (e_var (pv 1)))) (o_some (dB (e_bin (oAdd rfl) (dB (e_var (pv 1))) (dB (e_var (pv 2))))))))
 (ss_one (s_set (i := 3) sc_bytes_at.nd (e_bin (oAdd rfl) (dB (e_bin oMul (dB (e_var (pv 3))) (dB e_int))) (dB (e_var (pv 4)))))))
 (ss_one (s_ret (e_var (pv 3)))))))
theorem okg_number_of (T : Txt G mg) : ∀ n : Nat, FnOk P w G.K mg base (L2.CX P w) (n + 3) T.f_number_of T.d_number_of ["tree", "packet"] (SpP G (mm_number_of n))
  | 0 => by
    rw [Nat.zero_add]
    exact fn_P' (k := 2) T.F_number_of sc_number_of 2 3 rfl rfl fun _ _ _ _ _ _ _ _ _ _ => pss_st
  | n + 1 => by
    have ih := okg_number_of T n
    rw [show n + 1 + 3 = n + 3 + 1 by omega]
    exact fn_P' (k := n + 3) T.F_number_of sc_number_of 2 3 rfl rfl fun cdv A outer s H E hr tk hp hu => (ss_cons (s_if (t_cmp (oEq rfl hu) (dB (e_ix rfl hu (dB (e_var (pv 0))) (dB e_int))) (dB (e_str [110, 117, 109, 98, 101, 114])) (nomark _))
 (ss_one (s_ret (e_ix rfl hu (dB (e_var (pv 0))) (dB e_int))))
 ss_nil)
 (ss_cons (s_if (t_cmp (oEq rfl hu) (dB (e_ix rfl hu (dB (e_var (pv 0))) (dB e_int))) (dB (e_str [108, 101, 110])) (nomark _))
 (ss_one (s_ret (e_callB (cLen rfl) T.n_len (by decide +kernel) (ab_cons (dB (e_var (pv 1))) ab_nil))))
 ss_nil)
 (ss_cons (s_if (t_cmp (oEq rfl hu) (dB (e_ix rfl hu (dB (e_var (pv 0))) (dB e_int))) (dB (e_str [108, 111, 97, 100])) (nomark _))
 (ss_cons (s_set (i := 2) sc_number_of.nd (e_call ih (hr.mono (by omega)) T.g_number_of T.F_number_of.kp T.b_number_of tk (a_cons (e_ix rfl hu (dB (e_var (pv 0))) (dB e_int)) (a_cons (e_var (pv 1)) a_nil))))
 (ss_cons (s_if (t_cmp oIsN (dB (e_var (pv 2))) (dB e_non) (nomark _))
 (ss_one (s_ret e_non))
 ss_nil)
 (ss_one (s_ret (e_call (ok_bytes_at T) (hr.mono (by omega)) T.g_bytes_at T.F_bytes_at.kp T.b_bytes_at tk (a_cons (e_var (pv 1)) (a_cons (e_var (pv 2)) (a_cons (e_ix rfl hu (dB (e_var (pv 0))) (dB e_int)) a_nil))))))))
 ss_nil)
 (ss_cons (s_set (i := 3) sc_number_of.nd (e_call ih (hr.mono (by omega)) T.g_number_of T.F_number_of.kp T.b_number_of tk (a_cons (e_ix rfl hu (dB (e_var (pv 0))) (dB e_int)) (a_cons (e_var (pv 1)) a_nil))))
 (ss_cons (s_if (t_cmp oIsN (dB (e_var (pv 3))) (dB e_non) (nomark _))
 (ss_one (s_ret e_non))
 ss_nil)
 (ss_cons (s_set (i := 4) sc_number_of.nd (e_call ih (hr.mono (by omega)) T.g_number_of T.F_number_of.kp T.b_number_of tk (a_cons (e_ix rfl hu (dB (e_var (pv 0))) (dB e_int)) (a_cons (e_var (pv 1)) a_nil))))
 (ss_cons (s_if (t_cmp oIsN (dB (e_var (pv 4))) (dB e_non) (nomark _))
 (ss_one (s_ret e_non))
 ss_nil)
 (ss_one (s_ret (e_call (ok_reckoned T) (hr.mono (by omega)) T.g_reckoned T.F_reckoned.kp T.b_reckoned tk (a_cons (e_ix rfl hu (dB (e_var (pv 0))) (dB e_int)) (a_cons (e_var (pv 3)) (a_cons (e_var (pv 4)) a_nil)))))))))))))
theorem ok_number_of (T : Txt G mg) : FnOk P w G.K mg base (L2.CX P w) 9 T.f_number_of T.d_number_of ["tree", "packet"] (SpP G m_number_of) := (okg_number_of T 6)
theorem ok_compared (T : Txt G mg) : FnOk P w G.K mg base (L2.CX P w) 1 T.f_compared T.d_compared ["test", "one", "other"] (SpP G m_compared) :=
  fn_P' T.F_compared sc_compared 3 0 rfl rfl fun cdv A outer s H E hr tk hp hu => (ss_cons (s_if (t_cmp (oEq rfl hu) (dB (e_var (pv 0))) (dB (e_str [115, 97, 109, 101])) (nomark _))
 (ss_one (s_ret (e_cmp (oEq rfl hu) (dB (e_var (pv 1))) (dB (e_var (pv 2))) (nomark _))))
 ss_nil)
 (ss_cons (s_if (t_cmp (oEq rfl hu) (dB (e_var (pv 0))) (dB (e_str [117, 110, 108, 105, 107, 101])) (nomark _))
 (ss_one (s_ret (e_cmp (oNe rfl hu) (dB (e_var (pv 1))) (dB (e_var (pv 2))) (nomark _))))
 ss_nil)
 (ss_cons (s_if (t_cmp (oEq rfl hu) (dB (e_var (pv 0))) (dB (e_str [98, 101, 108, 111, 119])) (nomark _))
 (ss_one (s_ret (e_cmp oLt (dB (e_var (pv 1))) (dB (e_var (pv 2))) (nomark _))))
 ss_nil)
 (ss_cons (s_if (t_cmp (oEq rfl hu) (dB (e_var (pv 0))) (dB (e_str [97, 98, 111, 118, 101])) (nomark _))
 (ss_one (s_ret (e_cmp oGt (dB (e_var (pv 1))) (dB (e_var (pv 2))) (nomark _))))
 ss_nil)
 (ss_cons (s_if (t_cmp (oEq rfl hu) (dB (e_var (pv 0))) (dB (e_str [109, 111, 115, 116])) (nomark _))
 (ss_one (s_ret (e_cmp oLe (dB (e_var (pv 1))) (dB (e_var (pv 2))) (nomark _))))
 ss_nil)
 (ss_one (s_ret (e_cmp oGe (dB (e_var (pv 1))) (dB (e_var (pv 2))) (nomark _)))))))))
theorem okg_truth_of (T : Txt G mg) : ∀ n : Nat, FnOk P w G.K mg base (L2.CX P w) (n + 10) T.f_truth_of T.d_truth_of ["tree", "packet"] (SpP G (mm_truth_of n))
  | 0 => by
    rw [Nat.zero_add]
    exact fn_P' (k := 9) T.F_truth_of sc_truth_of 2 3 rfl rfl fun _ _ _ _ _ _ _ _ _ _ => pss_st
  | n + 1 => by
    have ih := okg_truth_of T n
    rw [show n + 1 + 10 = n + 10 + 1 by omega]
    exact fn_P' (k := n + 10) T.F_truth_of sc_truth_of 2 3 rfl rfl fun cdv A outer s H E hr tk hp hu => (ss_cons (s_set (i := 2) sc_truth_of.nd (e_ix rfl hu (dB (e_var (pv 0))) (dB e_int)))
 (ss_cons (s_if (t_cmp (oEq rfl hu) (dB (e_var (pv 2))) (dB (e_str [116, 114, 117, 116, 104])) (nomark _))
 (ss_one (s_ret (e_ix rfl hu (dB (e_var (pv 0))) (dB e_int))))
 ss_nil)
 (ss_cons (s_if (t_cmp (oIn rfl hu) (dB (e_var (pv 2))) (dB (e_tup (a_cons (e_str [110, 111, 116]) (a_cons (e_str [98, 111, 116, 104]) (a_cons (e_str [101, 105, 116, 104, 101, 114]) a_nil))) (len_cons (len_cons (len_cons len_nil))))) (by rfl))
 (ss_cons (s_set (i := 3) sc_truth_of.nd (e_call ih (hr.mono (by omega)) T.g_truth_of T.F_truth_of.kp T.b_truth_of tk (a_cons (e_ix rfl hu (dB (e_var (pv 0))) (dB e_int)) (a_cons (e_var (pv 1)) a_nil))))
 (ss_cons (s_if (t_cmp oIsN (dB (e_var (pv 3))) (dB e_non) (nomark _))
 (ss_one (s_ret e_non))
 ss_nil)
 (ss_cons (s_if (t_cmp (oEq rfl hu) (dB (e_var (pv 2))) (dB (e_str [110, 111, 116])) (nomark _))
 (ss_one (s_ret (e_not (e_var (pv 3)))))
 ss_nil)
 (ss_cons (s_if (t_cmp (oEq rfl hu) (dB (e_var (pv 3))) (dB (e_cmp (oEq rfl hu) (dB (e_var (pv 2))) (dB (e_str [101, 105, 116, 104, 101, 114])) (nomark _))) (nomark _))
 (ss_one (s_ret (e_var (pv 3))))
 ss_nil)
 (ss_one (s_ret (e_call ih (hr.mono (by omega)) T.g_truth_of T.F_truth_of.kp T.b_truth_of tk (a_cons (e_ix rfl hu (dB (e_var (pv 0))) (dB e_int)) (a_cons (e_var (pv 1)) a_nil)))))))))
 ss_nil)
 (ss_cons (s_set (i := 3) sc_truth_of.nd (e_call (ok_number_of T) (hr.mono (by omega)) T.g_number_of T.F_number_of.kp T.b_number_of tk (a_cons (e_ix rfl hu (dB (e_var (pv 0))) (dB e_int)) (a_cons (e_var (pv 1)) a_nil))))
 (ss_cons (s_if (t_cmp oIsN (dB (e_var (pv 3))) (dB e_non) (nomark _))
 (ss_one (s_ret e_non))
 ss_nil)
 (ss_cons (s_set (i := 4) sc_truth_of.nd (e_call (ok_number_of T) (hr.mono (by omega)) T.g_number_of T.F_number_of.kp T.b_number_of tk (a_cons (e_ix rfl hu (dB (e_var (pv 0))) (dB e_int)) (a_cons (e_var (pv 1)) a_nil))))
 (ss_cons (s_if (t_cmp oIsN (dB (e_var (pv 4))) (dB e_non) (nomark _))
 (ss_one (s_ret e_non))
 ss_nil)
 (ss_one (s_ret (e_call (ok_compared T) (hr.mono (by omega)) T.g_compared T.F_compared.kp T.b_compared tk (a_cons (e_var (pv 2)) (a_cons (e_var (pv 3)) (a_cons (e_var (pv 4)) a_nil)))))))))))))
theorem ok_truth_of (T : Txt G mg) : FnOk P w G.K mg base (L2.CX P w) 16 T.f_truth_of T.d_truth_of ["tree", "packet"] (SpP G m_truth_of) := (okg_truth_of T 6)
theorem ok_takes (T : Txt G mg) : FnOk P w G.K mg base (L2.CX P w) 17 T.f_takes T.d_takes ["tree", "packet"] (SpP G m_takes) :=
  fn_P' T.F_takes sc_takes 2 0 rfl rfl fun cdv A outer s H E hr tk hp hu => (ss_one (s_ret (e_cmp oIsT (dB (e_call (ok_truth_of T) (hr.mono (by omega)) T.g_truth_of T.F_truth_of.kp T.b_truth_of tk (a_cons (e_var (pv 0)) (a_cons (e_var (pv 1)) a_nil)))) (dB e_bl) (nomark _))))
theorem ok__law_reckoned (T : Txt G mg) : FnOk P w G.K mg base (L2.CX P w) 1 T.f__law_reckoned T.d__law_reckoned ["_law_op_here", "_law_one", "_law_other"] (SpP G m__law_reckoned) :=
  fn_P' T.F__law_reckoned sc__law_reckoned 3 4 rfl rfl fun cdv A outer s H E hr tk hp hu => (ss_cons (s_if (t_cmp (oIn rfl hu) (dB (e_var (pv 0))) (dB (e_tup (a_cons (e_str [111, 118, 101, 114]) (a_cons (e_str [114, 101, 115, 116]) a_nil)) (len_cons (len_cons len_nil)))) (by rfl))
 (ss_cons (s_if (t_cmp (oEq rfl hu) (dB (e_var (pv 2))) (dB e_int) (nomark _))
 (ss_one (s_ret e_non))
 ss_nil)
 (ss_one (s_ret (e_if (t_cmp (oEq rfl hu) (dB (e_var (pv 0))) (dB (e_str [111, 118, 101, 114])) (nomark _)) (e_bin oDiv (dB (e_var (pv 1))) (dB (e_var (pv 2)))) (e_bin oSub (dB (e_var (pv 1))) (dB (e_bin oMul (dB (e_bin oDiv (dB (e_var (pv 1))) (dB (e_var (pv 2))))) (dB (e_var (pv 2))))))))))
 ss_nil)
 (ss_cons (s_if (t_cmp (oIn rfl hu) (dB (e_var (pv 0))) (dB (e_tup (a_cons (e_str [108, 101, 102, 116]) (a_cons (e_str [114, 105, 103, 104, 116]) a_nil)) (len_cons (len_cons len_nil)))) (by rfl))
 (ss_cons (s_for (i := 3) hp sc__law_reckoned.nd (i_range1 T.n_range (e_callB (cMin rfl) T.n_min (by decide +kernel) (ab_cons (dB (e_var (pv 2))) (ab_cons (dB e_int) ab_nil))))
 (ss_one (s_set (i := 1) sc__law_reckoned.nd (e_if (t_cmp (oEq rfl hu) (dB (e_var (pv 0))) (dB (e_str [108, 101, 102, 116])) (nomark _)) (e_bin oMul (dB (e_var (pv 1))) (dB e_int)) (e_bin oDiv (dB (e_var (pv 1))) (dB e_int))))))
 (ss_one (s_ret (e_bin oMod (dB (e_var (pv 1))) (dB e_int)))))
 ss_nil)
 (ss_cons (s_if (t_cmp (oIn rfl hu) (dB (e_var (pv 0))) (dB (e_tup (a_cons (e_str [97, 110, 100]) (a_cons (e_str [111, 114]) (a_cons (e_str [120, 111, 114]) a_nil))) (len_cons (len_cons (len_cons len_nil))))) (by rfl))
 (ss_cons (s_set (i := 4) sc__law_reckoned.nd e_int)
 (ss_cons (s_set (i := 5) sc__law_reckoned.nd e_int)
 (ss_cons (s_for (i := 3) hp sc__law_reckoned.nd (i_range1 T.n_range e_int)
 (ss_cons (s_set (i := 6) sc__law_reckoned.nd (e_tup (a_cons (e_bin oMod (dB (e_bin oDiv (dB (e_var (pv 1))) (dB (e_var (pv 5))))) (dB e_int)) (a_cons (e_bin oMod (dB (e_bin oDiv (dB (e_var (pv 2))) (dB (e_var (pv 5))))) (dB e_int)) a_nil)) (len_cons (len_cons len_nil))))
 (ss_cons (s_set (i := 4) sc__law_reckoned.nd (e_bin (oAdd rfl) (dB (e_var (pv 4))) (dB (e_bin oMul (dB (e_var (pv 5))) (dB (e_callTy cInt T.n_int (by decide +kernel) (ab_cons (dB (e_ix rfl hu (dB (fD (f_dct (pps_cons (k_str [97, 110, 100]) (e_cmp (oEq rfl hu) (dB (e_var (pv 6))) (dB (e_tup (a_cons e_int (a_cons e_int a_nil)) (len_cons (len_cons len_nil)))) (nomark _)) (pps_cons (k_str [111, 114]) (e_cmp (oNe rfl hu) (dB (e_var (pv 6))) (dB (e_tup (a_cons e_int (a_cons e_int a_nil)) (len_cons (len_cons len_nil)))) (nomark _)) (pps_cons (k_str [120, 111, 114]) (e_cmp (oNe rfl hu) (dB (e_ix rfl hu (dB (e_var (pv 6))) (dB e_int))) (dB (e_ix rfl hu (dB (e_var (pv 6))) (dB e_int))) (nomark _)) pps_nil))) (pr_cons (pr_cons (pr_cons pr_nil))) (len_cons (len_cons (len_cons len_nil)))))) (dB (e_var (pv 0))))) ab_nil)))))))
 (ss_one (s_set (i := 5) sc__law_reckoned.nd (e_bin oMul (dB (e_var (pv 5))) (dB e_int)))))))
 (ss_one (s_ret (e_var (pv 4)))))))
 ss_nil)
 (ss_one (s_ret (e_bin oMod (dB (e_ix rfl hu (dB (fD (f_dct (pps_cons (k_str [112, 108, 117, 115]) (e_bin (oAdd rfl) (dB (e_var (pv 1))) (dB (e_var (pv 2)))) (pps_cons (k_str [109, 105, 110, 117, 115]) (e_bin oSub (dB (e_var (pv 1))) (dB (e_var (pv 2)))) (pps_cons (k_str [116, 105, 109, 101, 115]) (e_bin oMul (dB (e_var (pv 1))) (dB (e_var (pv 2)))) pps_nil))) (pr_cons (pr_cons (pr_cons pr_nil))) (len_cons (len_cons (len_cons len_nil)))))) (dB (e_var (pv 0))))) (dB e_int)))))))
theorem ok__law_bytes (T : Txt G mg) : FnOk P w G.K mg base (L2.CX P w) 1 T.f__law_bytes T.d__law_bytes ["_law_packet_here", "_law_at", "_law_size"] (SpP G m__law_bytes) :=
  fn_P' T.F__law_bytes sc__law_bytes 3 1 rfl rfl fun cdv A outer s H E hr tk hp hu => (ss_cons (s_if (t_cmp oGt (dB (e_bin (oAdd rfl) (dB (e_var (pv 1))) (dB (e_var (pv 2))))) (dB (e_callB (cLen rfl) T.n_len (by decide +kernel) (ab_cons (dB (e_var (pv 0))) ab_nil))) (nomark _))
 (ss_one (s_ret e_non))
 ss_nil)
 (ss_one (s_ret (e_callB (cSum rfl) T.n_sum (by decide +kernel) (ab_cons (dB (fD (f_lc (i := 3) sc__law_bytes.nd (iB (i_range1 T.n_range (e_var (pv 2)))) (blkOk_by (N := N__law_bytes) (sc := defScope s__law_bytes) (by decide +kernel)) (fun _ _ _ _ _ => ts_nil) (fun _ _ _ _ _ => (e_bin oMul (dB (e_ix rfl hu (dB (e_var (pv 0))) (dB (e_bin (oAdd rfl) (dB (e_var (pv 1))) (dB (e_var (pv 3))))))) (dB (e_ix rfl hu (dB (e_lst (a_cons e_int (a_cons e_int (a_cons e_int (a_cons e_int a_nil)))) (len_cons (len_cons (len_cons (len_cons len_nil)))))) (dB (e_bin oSub (dB (e_bin oSub (dB (e_var (pv 2))) (dB e_int))) (dB (e_var (pv 3))))))))) (fun _ _ _ _ _ => pg_name (i := 3) sc__law_bytes.nd rfl (Or.inl rfl))))) ab_nil)))))
theorem okg__law_worth (T : Txt G mg) : ∀ n : Nat, FnOk P w G.K mg base (L2.CX P w) (n + 2) T.f__law_worth T.d__law_worth ["_law_tree", "_law_packet_here"] (SpP G (mm__law_worth n))
  | 0 => by
    rw [Nat.zero_add]
    exact fn_P' (k := 1) T.F__law_worth sc__law_worth 2 3 rfl rfl fun _ _ _ _ _ _ _ _ _ _ => pss_st
  | n + 1 => by
    have ih := okg__law_worth T n
    rw [show n + 1 + 2 = n + 2 + 1 by omega]
    exact fn_P' (k := n + 2) T.F__law_worth sc__law_worth 2 3 rfl rfl fun cdv A outer s H E hr tk hp hu => (ss_cons (s_if (t_cmp (oEq rfl hu) (dB (e_ix rfl hu (dB (e_var (pv 0))) (dB e_int))) (dB (e_str [110, 117, 109, 98, 101, 114])) (nomark _))
 (ss_one (s_ret (e_ix rfl hu (dB (e_var (pv 0))) (dB e_int))))
 ss_nil)
 (ss_cons (s_if (t_cmp (oEq rfl hu) (dB (e_ix rfl hu (dB (e_var (pv 0))) (dB e_int))) (dB (e_str [108, 101, 110])) (nomark _))
 (ss_one (s_ret (e_callB (cLen rfl) T.n_len (by decide +kernel) (ab_cons (dB (e_var (pv 1))) ab_nil))))
 ss_nil)
 (ss_cons (s_if (t_cmp (oEq rfl hu) (dB (e_ix rfl hu (dB (e_var (pv 0))) (dB e_int))) (dB (e_str [108, 111, 97, 100])) (nomark _))
 (ss_cons (s_set (i := 2) sc__law_worth.nd (e_call ih (hr.mono (by omega)) T.g__law_worth T.F__law_worth.kp T.b__law_worth tk (a_cons (e_ix rfl hu (dB (e_var (pv 0))) (dB e_int)) (a_cons (e_var (pv 1)) a_nil))))
 (ss_one (s_ret (e_if (t_cmp oIsN (dB (e_var (pv 2))) (dB e_non) (nomark _)) e_non (e_call (ok__law_bytes T) (hr.mono (by omega)) T.g__law_bytes T.F__law_bytes.kp T.b__law_bytes tk (a_cons (e_var (pv 1)) (a_cons (e_var (pv 2)) (a_cons (e_ix rfl hu (dB (e_var (pv 0))) (dB e_int)) a_nil))))))))
 ss_nil)
 (ss_cons (s_set (i := 3) sc__law_worth.nd (e_call ih (hr.mono (by omega)) T.g__law_worth T.F__law_worth.kp T.b__law_worth tk (a_cons (e_ix rfl hu (dB (e_var (pv 0))) (dB e_int)) (a_cons (e_var (pv 1)) a_nil))))
 (ss_cons (s_set (i := 4) sc__law_worth.nd (e_if (t_cmp oIsN (dB (e_var (pv 3))) (dB e_non) (nomark _)) e_non (e_call ih (hr.mono (by omega)) T.g__law_worth T.F__law_worth.kp T.b__law_worth tk (a_cons (e_ix rfl hu (dB (e_var (pv 0))) (dB e_int)) (a_cons (e_var (pv 1)) a_nil)))))
 (ss_one (s_ret (e_if (t_cmp oIsN (dB (e_var (pv 4))) (dB e_non) (nomark _)) e_non (e_call (ok__law_reckoned T) (hr.mono (by omega)) T.g__law_reckoned T.F__law_reckoned.kp T.b__law_reckoned tk (a_cons (e_ix rfl hu (dB (e_var (pv 0))) (dB e_int)) (a_cons (e_var (pv 3)) (a_cons (e_var (pv 4)) a_nil))))))))))))
theorem ok__law_worth (T : Txt G mg) : FnOk P w G.K mg base (L2.CX P w) 8 T.f__law_worth T.d__law_worth ["_law_tree", "_law_packet_here"] (SpP G m__law_worth) := (okg__law_worth T 6)
theorem okg__law_says (T : Txt G mg) : ∀ n : Nat, FnOk P w G.K mg base (L2.CX P w) (n + 9) T.f__law_says T.d__law_says ["_law_tree", "_law_packet_here"] (SpP G (mm__law_says n))
  | 0 => by
    rw [Nat.zero_add]
    exact fn_P' (k := 8) T.F__law_says sc__law_says 2 3 rfl rfl fun _ _ _ _ _ _ _ _ _ _ => pss_st
  | n + 1 => by
    have ih := okg__law_says T n
    rw [show n + 1 + 9 = n + 9 + 1 by omega]
    exact fn_P' (k := n + 9) T.F__law_says sc__law_says 2 3 rfl rfl fun cdv A outer s H E hr tk hp hu => (ss_cons (s_if (t_cmp (oEq rfl hu) (dB (e_ix rfl hu (dB (e_var (pv 0))) (dB e_int))) (dB (e_str [116, 114, 117, 116, 104])) (nomark _))
 (ss_one (s_ret (e_callTy cInt T.n_int (by decide +kernel) (ab_cons (dB (e_ix rfl hu (dB (e_var (pv 0))) (dB e_int))) ab_nil))))
 ss_nil)
 (ss_cons (s_if (t_cmp (oIn rfl hu) (dB (e_ix rfl hu (dB (e_var (pv 0))) (dB e_int))) (dB (e_tup (a_cons (e_str [110, 111, 116]) (a_cons (e_str [98, 111, 116, 104]) (a_cons (e_str [101, 105, 116, 104, 101, 114]) a_nil))) (len_cons (len_cons (len_cons len_nil))))) (by rfl))
 (ss_cons (s_set (i := 2) sc__law_says.nd (e_call ih (hr.mono (by omega)) T.g__law_says T.F__law_says.kp T.b__law_says tk (a_cons (e_ix rfl hu (dB (e_var (pv 0))) (dB e_int)) (a_cons (e_var (pv 1)) a_nil))))
 (ss_cons (s_if (t_w (w_or (t_cmp oLt (dB (e_var (pv 2))) (dB e_int) (nomark _)) (w_or1 (t_cmp (oEq rfl hu) (dB (e_ix rfl hu (dB (e_var (pv 0))) (dB e_int))) (dB (e_str [110, 111, 116])) (nomark _)))))
 (ss_one (s_ret (e_if (t_cmp oLt (dB (e_var (pv 2))) (dB e_int) (nomark _)) (e_var (pv 2)) (e_bin oSub (dB e_int) (dB (e_var (pv 2)))))))
 ss_nil)
 (ss_one (s_ret (e_if (t_cmp (oEq rfl hu) (dB (e_var (pv 2))) (dB (e_callTy cInt T.n_int (by decide +kernel) (ab_cons (dB (e_cmp (oEq rfl hu) (dB (e_ix rfl hu (dB (e_var (pv 0))) (dB e_int))) (dB (e_str [101, 105, 116, 104, 101, 114])) (nomark _))) ab_nil))) (nomark _)) (e_var (pv 2)) (e_call ih (hr.mono (by omega)) T.g__law_says T.F__law_says.kp T.b__law_says tk (a_cons (e_ix rfl hu (dB (e_var (pv 0))) (dB e_int)) (a_cons (e_var (pv 1)) a_nil))))))))
 ss_nil)
 (ss_cons (s_set (i := 2) sc__law_says.nd (e_call (ok__law_worth T) (hr.mono (by omega)) T.g__law_worth T.F__law_worth.kp T.b__law_worth tk (a_cons (e_ix rfl hu (dB (e_var (pv 0))) (dB e_int)) (a_cons (e_var (pv 1)) a_nil))))
 (ss_cons (s_set (i := 3) sc__law_says.nd (e_if (t_cmp oIsN (dB (e_var (pv 2))) (dB e_non) (nomark _)) e_non (e_call (ok__law_worth T) (hr.mono (by omega)) T.g__law_worth T.F__law_worth.kp T.b__law_worth tk (a_cons (e_ix rfl hu (dB (e_var (pv 0))) (dB e_int)) (a_cons (e_var (pv 1)) a_nil)))))
 (ss_cons (s_if (t_cmp oIsN (dB (e_var (pv 3))) (dB e_non) (nomark _))
 (ss_one (s_ret e_negc))
 ss_nil)
 (ss_cons (s_setF (i := 4) sc__law_says.nd (f_dct (pps_cons (k_str [115, 97, 109, 101]) (e_cmp (oEq rfl hu) (dB (e_var (pv 2))) (dB (e_var (pv 3))) (nomark _)) (pps_cons (k_str [117, 110, 108, 105, 107, 101]) (e_cmp (oNe rfl hu) (dB (e_var (pv 2))) (dB (e_var (pv 3))) (nomark _)) (pps_cons (k_str [98, 101, 108, 111, 119]) (e_cmp oLt (dB (e_var (pv 2))) (dB (e_var (pv 3))) (nomark _)) (pps_cons (k_str [97, 98, 111, 118, 101]) (e_cmp oGt (dB (e_var (pv 2))) (dB (e_var (pv 3))) (nomark _)) pps_nil)))) (pr_cons (pr_cons (pr_cons (pr_cons pr_nil)))) (len_cons (len_cons (len_cons (len_cons len_nil))))))
 (ss_cons (s_putD hu (pv 4) (e_str [109, 111, 115, 116]) (e_cmp oLe (dB (e_var (pv 2))) (dB (e_var (pv 3))) (nomark _)))
 (ss_cons (s_putD hu (pv 4) (e_str [108, 101, 97, 115, 116]) (e_cmp oGe (dB (e_var (pv 2))) (dB (e_var (pv 3))) (nomark _)))
 (ss_one (s_ret (e_callTy cInt T.n_int (by decide +kernel) (ab_cons (dB (e_ix rfl hu (b_var (pv 4)) (dB (e_ix rfl hu (dB (e_var (pv 0))) (dB e_int))))) ab_nil))))))))))))
theorem ok__law_says (T : Txt G mg) : FnOk P w G.K mg base (L2.CX P w) 15 T.f__law_says T.d__law_says ["_law_tree", "_law_packet_here"] (SpP G m__law_says) := (okg__law_says T 6)
theorem ok_law (T : Txt G mg) : FnOk P w G.K mg base (L2.CX P w) 18 T.f_law T.d_law ["_law_script"] (SpP G m_law) :=
  fn_P' T.F_law sc_law 1 5 rfl rfl fun cdv A outer s H E hr tk hp hu => (ss_cons (s_set (i := 1) sc_law.nd (e_call (ok__law_truth T) (hr.mono (by omega)) T.g__law_truth T.F__law_truth.kp T.b__law_truth tk (a_cons (e_var (pv 0)) (a_cons e_int (a_cons e_int a_nil)))))
 (ss_cons (s_for (i := 2) hp sc_law.nd (i_range1 T.n_range e_int)
 (ss_cons (s_set (i := 3) sc_law.nd (e_call (ok__law_packet T) (hr.mono (by omega)) T.g__law_packet T.F__law_packet.kp T.b__law_packet tk (a_cons (e_var (pv 0)) (a_cons (e_bin (oAdd rfl) (dB e_int) (dB (e_bin oMul (dB e_int) (dB (e_var (pv 2)))))) a_nil))))
 (ss_cons (s_set (i := 4) sc_law.nd (fD (f_callTy (cList rfl) T.n_list (by decide +kernel) (ab_cons (dB (e_var (pv 3))) ab_nil))))
 (ss_cons (s_set (i := 5) sc_law.nd (e_call (ok_takes T) (hr.mono (by omega)) T.g_takes T.F_takes.kp T.b_takes tk (a_cons (e_var (pv 1)) (a_cons (e_var (pv 4)) a_nil))))
 (ss_one (s_if (t_w (w_or (t_not (t_tru rfl (dB (e_isi rfl isTy_bool T.n_isinstance T.n_bool (by decide +kernel) (dB (e_var (pv 5))))))) (w_or (t_cmp (oNe rfl hu) (dB (e_var (pv 5))) (dB (e_cmp (oEq rfl hu) (dB (e_call (ok__law_says T) (hr.mono (by omega)) T.g__law_says T.F__law_says.kp T.b__law_says tk (a_cons (e_var (pv 1)) (a_cons (e_var (pv 3)) a_nil)))) (dB e_int) (nomark _))) (nomark _)) (w_or1 (t_cmp (oNe rfl hu) (dB (e_var (pv 4))) (dB (e_var (pv 3))) (nomark _))))))
 (ss_one (s_ret e_bl))
 ss_nil))))))
 (ss_one (s_ret e_bl))))
end
end KL

set_option Elab.async false
set_option linter.all false
set_option maxRecDepth 100000
set_option maxHeartbeats 4000000
namespace KL
open PySem NS
def cellV (ns : List Int) (k : Int) : Int := (L2.atI ns (k % ns.length)).getD 0
theorem cell_run (ns : List Int) (k : Int) : m__law_cell [.scr ns, .int k] = .ok (.int (cellV ns k)) := by
  cases ns with
  | nil => unfold m__law_cell b__law_cell cellV; simp [gt, L2.atI, L2.ixN]
  | cons n ns =>
    have h1 : 0 ≤ k % ((n :: ns).length : Int) := Int.emod_nonneg _ (by simp; omega)
    have h2 : k % ((n :: ns).length : Int) < ((n :: ns).length : Int) := Int.emod_lt_of_pos _ (by simp)
    have h3 : (k % ((n :: ns).length : Int)).toNat < (n :: ns).length := by omega
    have h4 : 0 < (n :: ns).length := by simp
    unfold m__law_cell b__law_cell cellV
    rw [atI_ok h1 h2, List.getElem?_eq_getElem h3]
    generalize (n :: ns) = l at *
    have h5 : l ≠ [] := by intro h; subst h; simp at h4
    simp [gt, h4, h5, atI_ok h1 h2, List.getElem?_eq_getElem h3]
def mixV (ns : List Int) (k : Int) : Int :=
  let a := (cellV ns k + 104729 * (k + 1)) % 4294967291
  let b := a * 48271 % 4294967279
  (b / 64 * 69621 + b) % 4294967231
theorem mix_run (ns : List Int) (k : Int) : m__law_mix [.scr ns, .int k] = .ok (.int (mixV ns k)) := by
  unfold m__law_mix b__law_mix mixV
  simp [cell_run, gt]
theorem mix_b (ns : List Int) (k : Int) : 0 ≤ mixV ns k ∧ mixV ns k < 4294967231 := by
  unfold mixV; dsimp only; omega
theorem atI_mod {α : Type} (l : List α) (i : Int) (n : Nat) (hn : l.length = n) (h0 : 0 < n) : ∃ x ∈ l, L2.atI l (i % n) = some x := by
  have h1 : 0 ≤ i % (n : Int) := Int.emod_nonneg _ (by omega)
  have h2 : i % (n : Int) < (n : Int) := Int.emod_lt_of_pos _ (by omega)
  have h3 : (i % (n : Int)).toNat < l.length := by omega
  exact ⟨l[(i % (n : Int)).toNat], List.getElem_mem _, by rw [atI_ok h1 (by omega), List.getElem?_eq_getElem h3]⟩
end KL

set_option Elab.async false
set_option linter.all false
set_option maxRecDepth 100000
set_option maxHeartbeats 4000000
namespace KL
open PySem NS
def opL : List (List Nat) := [[112, 108, 117, 115], [109, 105, 110, 117, 115], [116, 105, 109, 101, 115], [111, 118, 101, 114], [114, 101, 115, 116], [97, 110, 100], [111, 114], [120, 111, 114], [108, 101, 102, 116], [114, 105, 103, 104, 116]]
theorem mod_cases (k : Int) : k % 10 = 0 ∨ k % 10 = 1 ∨ k % 10 = 2 ∨ k % 10 = 3 ∨ k % 10 = 4 ∨ k % 10 = 5 ∨ k % 10 = 6 ∨ k % 10 = 7 ∨ k % 10 = 8 ∨ k % 10 = 9 := by omega
theorem op_run (k : Int) : ∃ s ∈ opL, m__law_op [.int k] = .ok (.str s) := by
  have h1 : 0 ≤ k % 10 := by omega
  have h2 : k % 10 < 10 := by omega
  unfold m__law_op b__law_op
  simp [gt]
  rcases mod_cases k with h | h | h | h | h | h | h | h | h | h <;> rw [h] <;> simp [opL, L2.atI, L2.ixN]
end KL

set_option Elab.async false
set_option linter.all false
set_option maxRecDepth 100000
set_option maxHeartbeats 4000000
namespace KL
open PySem NS
theorem doubled_run (n t : Int) (hn : 0 ≤ n ∧ n < 4294967296) (ht : 0 ≤ t ∧ t < 4294967296) : m_doubled [.int n, .int t] = .ok (.int (n * 2 ^ (min t 32).toNat % 4294967296)) := by
  unfold m_doubled b_doubled
  obtain ⟨c', h, _⟩ := forL_ix (fun k c => [.d (.int (n * 2 ^ k % 4294967296)), .d (.int t), c]) 2 (setS 0 (op2 dMod (op2 dMul (cst (.int 2)) (var 0)) (cst (.int 4294967296))))
    ((List.range (min t 32).toNat).map fun (k : Nat) => .int k) .un (fun x => by simp [gt]) (fun k c x => by simp [gt]) (fun k x _ => by
      simp [gt, Int.pow_succ]
      rw [Int.mul_comm 2, ← Int.mul_assoc, Int.mul_emod, Int.emod_emod_of_dvd _ (Int.dvd_refl _), ← Int.mul_emod])
  have h0 : n % 4294967296 = n := Int.emod_eq_of_lt hn.1 hn.2
  simp [h0] at h
  have h1 : (if 32 < t then 32 else t) = min t 32 := by omega
  simp [gt, h1, h]
  rw [if_pos (by omega)]
  simp [h, gt]
theorem halved_run (n t : Int) (hn : 0 ≤ n ∧ n < 4294967296) (ht : 0 ≤ t ∧ t < 4294967296) : m_halved [.int n, .int t] = .ok (.int (n / 2 ^ (min t 32).toNat)) := by
  unfold m_halved b_halved
  obtain ⟨c', h, _⟩ := forL_ix (fun k c => [.d (.int (n / 2 ^ k)), .d (.int t), c]) 2 (setS 0 (op2 dDiv (var 0) (cst (.int 2))))
    ((List.range (min t 32).toNat).map fun (k : Nat) => .int k) .un (fun x => by simp [gt]) (fun k c x => by simp [gt]) (fun k x _ => by
      simp [gt, Int.pow_succ]
      rw [Int.ediv_ediv_of_nonneg (Int.pow_nonneg (by omega))])
  simp at h
  have h1 : (if 32 < t then 32 else t) = min t 32 := by omega
  simp [gt, h1, h]
  rw [if_pos (by omega)]
  simp [h, gt]
/-- what an operation makes, in plain numbers -/
def rk (s : List Nat) (a b : Int) : D :=
  if s = [112, 108, 117, 115] then .int ((a + b) % 4294967296) else if s = [109, 105, 110, 117, 115] then .int ((a - b) % 4294967296)
  else if s = [116, 105, 109, 101, 115] then .int (a * b % 4294967296)
  else if s = [111, 118, 101, 114] then (if b = 0 then .non else .int (a / b)) else if s = [114, 101, 115, 116] then (if b = 0 then .non else .int (a % b))
  else if s = [97, 110, 100] then .int ((a.toNat &&& b.toNat : Nat) : Int) else if s = [111, 114] then .int ((a.toNat ||| b.toNat : Nat) : Int)
  else if s = [120, 111, 114] then .int ((a.toNat ^^^ b.toNat : Nat) : Int)
  else if s = [108, 101, 102, 116] then .int (a * 2 ^ (min b 32).toNat % 4294967296) else .int (a / 2 ^ (min b 32).toNat)
theorem orE {a b : Int} (ha : 0 ≤ a) (hb : 0 ≤ b) : Builtin.bitOr a b = ((a.toNat ||| b.toNat : Nat) : Int) := by
  rw [PyProof.Rows.bitOr_and, PyProof.Rows.bitAnd_pp ha hb]
  have := PyProof.Rows.nat_or_add_and a.toNat b.toNat
  omega
theorem xor_and : ∀ (n a b : Nat), a < 2 ^ n → b < 2 ^ n → (a ^^^ b) + (a &&& b) = (a ||| b)
  | 0, a, b, ha, hb => by
    have : a = 0 := by simpa using ha
    have : b = 0 := by simpa using hb
    subst_vars; rfl
  | n + 1, a, b, ha, hb => by
    have ih := xor_and n (a / 2) (b / 2) (by omega) (by omega)
    have e1 := Nat.xor_div_two (a := a) (b := b)
    have e2 := Nat.and_div_two (a := a) (b := b)
    have e3 := Nat.or_div_two (a := a) (b := b)
    have m1 := Nat.xor_mod_two_pow (a := a) (b := b) (n := 1)
    have m2 := Nat.and_mod_two_pow (a := a) (b := b) (n := 1)
    have m3 := Nat.or_mod_two_pow (a := a) (b := b) (n := 1)
    rcases Nat.mod_two_eq_zero_or_one a with x | x <;> rcases Nat.mod_two_eq_zero_or_one b with y | y <;> simp only [Nat.pow_one, x, y, show (0 ^^^ 0 : Nat) = 0 from rfl, show (0 ^^^ 1 : Nat) = 1 from rfl, show (1 ^^^ 0 : Nat) = 1 from rfl, show (1 ^^^ 1 : Nat) = 0 from rfl, show (0 &&& 0 : Nat) = 0 from rfl, show (0 &&& 1 : Nat) = 0 from rfl, show (1 &&& 0 : Nat) = 0 from rfl, show (1 &&& 1 : Nat) = 1 from rfl, show (0 ||| 0 : Nat) = 0 from rfl, show (0 ||| 1 : Nat) = 1 from rfl, show (1 ||| 0 : Nat) = 1 from rfl, show (1 ||| 1 : Nat) = 1 from rfl] at m1 m2 m3 <;> omega
theorem xorE {a b : Int} (ha : 0 ≤ a ∧ a < 4294967296) (hb : 0 ≤ b ∧ b < 4294967296) : Builtin.bitXor a b = ((a.toNat ^^^ b.toNat : Nat) : Int) := by
  unfold Builtin.bitXor
  rw [orE ha.1 hb.1, PyProof.Rows.bitAnd_pp ha.1 hb.1]
  have := xor_and 32 a.toNat b.toNat (by omega) (by omega)
  omega
theorem small {x : Int} (h : 0 ≤ x ∧ x < 4294967296) : x.natAbs < 18446744073709551616 := by omega
theorem reckoned_run (s : List Nat) (hs : s ∈ opL) (a b : Int) (ha : 0 ≤ a ∧ a < 4294967296) (hb : 0 ≤ b ∧ b < 4294967296) : m_reckoned [.str s, .int a, .int b] = .ok (rk s a b) := by
  unfold m_reckoned b_reckoned
  have hd := doubled_run a b ha hb
  have hh := halved_run a b ha hb
  have h1 := small ha
  have h2 := small hb
  simp only [opL, List.mem_cons, List.not_mem_nil, or_false] at hs
  rcases hs with h | h | h | h | h | h | h | h | h | h <;> subst h
  · simp [gt, rk]
  · simp [gt, rk]
  · simp [gt, rk, h1]
  · simp [gt, rk]; by_cases h0 : b = 0 <;> simp [h0, gt]; have : 0 < b := (by omega); have h4 : b < 18446744073709551616 := (by omega); simp [this, h4]
  · simp [gt, rk]; by_cases h0 : b = 0 <;> simp [h0, gt]; have : 0 < b := (by omega); simp [this]
  · simp [gt, rk, PyProof.Rows.bitAnd_pp ha.1 hb.1]
  · simp [gt, rk, orE ha.1 hb.1]
  · simp [gt, rk, xorE ha hb]
  · simp [gt, rk, hd]
  · simp [gt, rk, hh]
end KL

set_option Elab.async false
set_option linter.all false
set_option maxRecDepth 100000
set_option maxHeartbeats 4000000
namespace KL
open PySem NS
theorem pw_pos (k : Nat) : 0 < (2 : Int) ^ k := Int.pow_pos (by omega)
theorem shl_ge {a b : Int} (h : 32 ≤ b) : a * 2 ^ b.toNat % 4294967296 = 0 := by
  obtain ⟨k, hk⟩ : ∃ k, b.toNat = 32 + k := ⟨b.toNat - 32, by omega⟩
  rw [hk, Int.pow_add, show (2 : Int) ^ 32 = 4294967296 from rfl, Int.mul_left_comm]
  exact Int.mul_emod_right _ _
theorem shl_min (a b : Int) (hb : 0 ≤ b) : a * 2 ^ (min b 33).toNat % 4294967296 = a * 2 ^ (min b 32).toNat % 4294967296 := by
  by_cases h : b ≤ 32
  · rw [show min b 33 = b by omega, show min b 32 = b by omega]
  · rw [shl_ge (by omega), shl_ge (by omega)]
theorem shr_ge {a b : Int} (ha : 0 ≤ a ∧ a < 4294967296) (h : 32 ≤ b) : a / 2 ^ b.toNat = 0 := by
  apply Int.ediv_eq_zero_of_lt ha.1
  obtain ⟨k, hk⟩ : ∃ k, b.toNat = 32 + k := ⟨b.toNat - 32, by omega⟩
  rw [hk, Int.pow_add, show (2 : Int) ^ 32 = 4294967296 from rfl]
  have := pw_pos k
  omega
theorem shr_min (a b : Int) (ha : 0 ≤ a ∧ a < 4294967296) (hb : 0 ≤ b) : a / 2 ^ (min b 33).toNat % 4294967296 = a / 2 ^ (min b 32).toNat := by
  have h1 : 0 ≤ a / 2 ^ (min b 32).toNat := Int.ediv_nonneg ha.1 (by have := pw_pos (min b 32).toNat; omega)
  have h2 : a / 2 ^ (min b 32).toNat ≤ a := Int.ediv_le_self _ ha.1
  by_cases h : b ≤ 32
  · rw [show min b 33 = b by omega, show min b 32 = b by omega] at *
    exact Int.emod_eq_of_lt h1 (by omega)
  · rw [shr_ge ha (by omega), shr_ge ha (by omega)]; rfl
def lsh (o : List Nat) : SM := setS 1 (dIf (tst (op2 dEq (var 0) (cst (.str [108, 101, 102, 116])))) (op2 dMul (var 1) (cst (.int 2))) (op2 dDiv (var 1) (cst (.int 2))))
theorem left_law (a b : Int) (ha : 0 ≤ a ∧ a < 4294967296) (hb : 0 ≤ b ∧ b < 4294967296) : m__law_reckoned [.str [108, 101, 102, 116], .int a, .int b] = .ok (.int (a * 2 ^ (min b 32).toNat % 4294967296)) := by
  unfold m__law_reckoned b__law_reckoned
  obtain ⟨c', h, _⟩ := forL_ix (fun k c => [.d (.str [108, 101, 102, 116]), .d (.int (a * 2 ^ k)), .d (.int b), c, .un, .un, .un]) 3 (setS 1 (dIf (tst (op2 dEq (var 0) (cst (.str [108, 101, 102, 116])))) (op2 dMul (var 1) (cst (.int 2))) (op2 dDiv (var 1) (cst (.int 2)))))
    ((List.range (min b 33).toNat).map fun (k : Nat) => .int k) .un (fun x => ⟨rfl, rfl⟩) (fun k c x => ⟨rfl, rfl⟩) (fun k x _ => by
      simp [gt, Int.pow_succ, Int.mul_assoc])
  simp at h
  have h1 : (if 33 < b then 33 else b) = min b 33 := by omega
  simp [gt, h1]
  rw [if_pos (by omega)]
  simp [h, gt, shl_min a b hb.1]
theorem right_law (a b : Int) (ha : 0 ≤ a ∧ a < 4294967296) (hb : 0 ≤ b ∧ b < 4294967296) : m__law_reckoned [.str [114, 105, 103, 104, 116], .int a, .int b] = .ok (.int (a / 2 ^ (min b 32).toNat)) := by
  unfold m__law_reckoned b__law_reckoned
  obtain ⟨c', h, _⟩ := forL_ix (fun k c => [.d (.str [114, 105, 103, 104, 116]), .d (.int (a / 2 ^ k)), .d (.int b), c, .un, .un, .un]) 3 (setS 1 (dIf (tst (op2 dEq (var 0) (cst (.str [108, 101, 102, 116])))) (op2 dMul (var 1) (cst (.int 2))) (op2 dDiv (var 1) (cst (.int 2)))))
    ((List.range (min b 33).toNat).map fun (k : Nat) => .int k) .un (fun x => ⟨rfl, rfl⟩) (fun k c x => ⟨rfl, rfl⟩) (fun k x _ => by
      simp [gt, Int.pow_succ]
      rw [Int.ediv_ediv_of_nonneg (Int.pow_nonneg (by omega))])
  simp at h
  have h1 : (if 33 < b then 33 else b) = min b 33 := by omega
  simp [gt, h1]
  rw [if_pos (by omega)]
  simp [h, gt, shr_min a b ha hb.1]
/-- one step of the law's own digits -/
theorem dig_step (s : List Nat) (X N M k : Nat) (bit : Nat) (hx : X / 2 ^ k % 2 = bit) : X % 2 ^ (k + 1) = X % 2 ^ k + 2 ^ k * bit := by
  rw [Nat.mod_pow_succ, hx]
theorem pow_b {k : Nat} (h : k < 32) : 2 ^ k < 18446744073709551616 := Nat.lt_of_lt_of_le (Nat.pow_lt_pow_right (by omega) h) (by decide)
def bitOf (s : List Nat) (x y : Nat) : Nat := if s = [97, 110, 100] then x &&& y else if s = [111, 114] then x ||| y else x ^^^ y
def bitB : SM := (seqS (setS 6 (dTup (consM (op2 dMod (op2 dDiv (var 1) (var 5)) (cst (.int 2))) (consM (op2 dMod (op2 dDiv (var 2) (var 5)) (cst (.int 2))) nilM))))
 (seqS (setS 4 (op2 dAdd (var 4) (op2 dMul (var 5) (callM bInt (consM (op2 dIx (frz (fDct [.inr [97, 110, 100], .inr [111, 114], .inr [120, 111, 114]] (consM (op2 dEq (var 6) (dTup (consM (cst (.int 1)) (consM (cst (.int 1)) nilM)))) (consM (op2 dNe (var 6) (dTup (consM (cst (.int 0)) (consM (cst (.int 0)) nilM)))) (consM (op2 dNe (op2 dIx (var 6) (cst (.int 0))) (op2 dIx (var 6) (cst (.int 1)))) nilM))))) (var 0)) nilM)))))
 (setS 5 (op2 dMul (var 5) (cst (.int 2))))))
theorem bit_step (s : List Nat) (hs : s = [97, 110, 100] ∨ s = [111, 114] ∨ s = [120, 111, 114]) (N M F P : Int) (x : D) (t : Ce) (ht : t = .un ∨ ∃ d, t = .d d) (hP : 0 < P ∧ P < 18446744073709551616)
    (n m : Nat) (hn : N / P % 2 = n) (hm : M / P % 2 = m) (n2 : n < 2) (m2 : m < 2) :
    bitB [.d (.str s), .d (.int N), .d (.int M), .d x, .d (.int F), .d (.int P), t] = .nx [.d (.str s), .d (.int N), .d (.int M), .d x, .d (.int (F + P * (bitOf s n m : Nat))), .d (.int (P * 2)), .d (.tup [.int n, .int m])] := by
  have c1 : n = 0 ∨ n = 1 := by omega
  have c2 : m = 0 ∨ m = 1 := by omega
  have p1 : P.natAbs < 18446744073709551616 := by omega
  obtain ⟨hp0, hp1⟩ := hP
  unfold bitB
  rcases ht with h | ⟨d, h⟩ <;> subst h <;> rcases c1 with h | h <;> rcases c2 with h' | h' <;> subst h <;> subst h' <;> simp only [Int.ofNat_zero, Int.ofNat_one, Int.cast_ofNat_Int] at hn hm <;> rcases hs with h | h | h <;> subst h <;>
    simp [gt, hp0, hp1, hn, hm, p1, bitOf, dlook, L2.atI, L2.ixN]
theorem nd (N P : Nat) : (N : Int) / (P : Int) % 2 = ((N / P % 2 : Nat) : Int) := rfl
theorem nb {P : Nat} (h : 0 < P) (h' : P < 18446744073709551616) : 0 < (P : Int) ∧ (P : Int) < 18446744073709551616 := by omega
theorem bits_law (s : List Nat) (hs : s = [97, 110, 100] ∨ s = [111, 114] ∨ s = [120, 111, 114]) (X N M : Nat) (hX : X < 4294967296) (hb : ∀ k : Nat, X / 2 ^ k % 2 = bitOf s (N / 2 ^ k % 2) (M / 2 ^ k % 2)) :
    m__law_reckoned [.str s, .int (N : Int), .int (M : Int)] = .ok (.int (X : Int)) := by
  have hl := forL_ix (fun k c => [.d (.str s), .d (.int N), .d (.int M), c, .d (.int ((X % 2 ^ k : Nat) : Int)), .d (.int ((2 ^ k : Nat) : Int)), if k = 0 then .un else .d (.tup [.int ((N / 2 ^ (k - 1) % 2 : Nat) : Int), .int ((M / 2 ^ (k - 1) % 2 : Nat) : Int)])]) 3
    bitB ((List.range 32).map fun (k : Nat) => .int k) .un (fun x => ⟨rfl, rfl⟩) (fun k c x => ⟨rfl, rfl⟩) (fun k x hk => by
      have hk' : k < 32 := by
        have := List.getElem?_eq_some_iff.1 hk
        obtain ⟨h, _⟩ := this
        simpa using h
      have e := dig_step s X N M k _ (hb k)
      refine (bit_step s hs N M _ _ x _ (by by_cases h0 : k = 0 <;> simp [h0]) (nb (Nat.two_pow_pos k) (pow_b hk')) (N / 2 ^ k % 2) (M / 2 ^ k % 2) (nd _ _) (nd _ _) (Nat.mod_lt _ (by omega)) (Nat.mod_lt _ (by omega))).trans ?_
      rw [← hb k] 
      rw [dig_step s X N M k _ rfl]
      simp [Int.pow_succ])
  obtain ⟨c', h, _⟩ := hl
  simp only [List.length_map, List.length_range] at h
  unfold m__law_reckoned b__law_reckoned
  have hX' : X % 4294967296 = X := Nat.mod_eq_of_lt hX
  simp only [Nat.pow_zero, Nat.mod_one, if_true] at h
  rw [if_neg (by omega), show (2 ^ 32 : Nat) = 4294967296 from rfl, hX'] at h
  unfold bitB at h
  simp only [Int.ofNat_zero, Int.ofNat_one, Int.cast_ofNat_Int] at h
  rcases hs with hs | hs | hs <;> subst hs <;> simp [gt, h]
end KL

set_option Elab.async false
set_option linter.all false
set_option maxRecDepth 100000
set_option maxHeartbeats 4000000
namespace KL
open PySem NS
theorem nat_div2 (k N : Nat) : N / 2 ^ k % 2 = (N.testBit k).toNat := by
  rw [Nat.testBit_eq_decide_div_mod_eq]
  rcases Nat.mod_two_eq_zero_or_one (N / 2 ^ k) with h | h <;> simp [h]
theorem law_reckoned (s : List Nat) (hs : s ∈ opL) (a b : Int) (ha : 0 ≤ a ∧ a < 4294967296) (hb : 0 ≤ b ∧ b < 4294967296) : m__law_reckoned [.str s, .int a, .int b] = .ok (rk s a b) := by
  obtain ⟨N, rfl⟩ := Int.eq_ofNat_of_zero_le ha.1
  obtain ⟨M, rfl⟩ := Int.eq_ofNat_of_zero_le hb.1
  have hN : N < 2 ^ 32 := by have := ha.2; simp; omega
  have hM : M < 2 ^ 32 := by have := hb.2; simp; omega
  have h1 : N < 18446744073709551616 := by omega
  have h2 : M < 18446744073709551616 := by omega
  simp only [opL, List.mem_cons, List.not_mem_nil, or_false] at hs
  rcases hs with h | h | h | h | h | h | h | h | h | h <;> subst h
  · unfold m__law_reckoned b__law_reckoned; simp [gt, rk, h1, dlook]
  · unfold m__law_reckoned b__law_reckoned; simp [gt, rk, h1, dlook]
  · unfold m__law_reckoned b__law_reckoned; simp [gt, rk, h1, dlook]
  · unfold m__law_reckoned b__law_reckoned
    by_cases h0 : M = 0
    · simp [gt, rk, h0]
    · have p1 : 0 < M := (by omega)
      have p2 : (M : Int) < 18446744073709551616 := (by omega)
      simp [gt, rk, h0, p1, p2]
  · unfold m__law_reckoned b__law_reckoned
    by_cases h0 : M = 0
    · simp [gt, rk, h0]
    · have p1 : 0 < M := (by omega)
      have p2 : (M : Int) < 18446744073709551616 := (by omega)
      have h3 : M < 18446744073709551616 := (by omega)
      simp [gt, rk, h0, p1, p2, h3]
      have := Int.emod_def N M
      rw [this, Int.mul_comm]
  · have : rk [97, 110, 100] N M = .int ((N &&& M : Nat) : Int) := by simp [rk]
    rw [this]
    refine bits_law _ (.inl rfl) _ _ _ (by have := Nat.and_lt_two_pow N hM; simpa using this) fun k => ?_
    simp only [nat_div2, Nat.testBit_and]
    cases N.testBit k <;> cases M.testBit k <;> rfl
  · have : rk [111, 114] N M = .int ((N ||| M : Nat) : Int) := by simp [rk]
    rw [this]
    refine bits_law _ (.inr (.inl rfl)) _ _ _ (by have := Nat.or_lt_two_pow hN hM; simpa using this) fun k => ?_
    simp only [nat_div2, Nat.testBit_or]
    cases N.testBit k <;> cases M.testBit k <;> rfl
  · have : rk [120, 111, 114] N M = .int ((N ^^^ M : Nat) : Int) := by simp [rk]
    rw [this]
    refine bits_law _ (.inr (.inr rfl)) _ _ _ (by have := Nat.xor_lt_two_pow hN hM; simpa using this) fun k => ?_
    simp only [nat_div2, Nat.testBit_xor]
    cases N.testBit k <;> cases M.testBit k <;> rfl
  · rw [left_law _ _ ha hb]; simp [rk]
  · rw [right_law _ _ ha hb]; simp [rk]
theorem rk_int (s : List Nat) (a b : Int) : rk s a b = .non ∨ ∃ i, rk s a b = .int i := by
  unfold rk
  repeat' split
  all_goals simp
end KL

set_option Elab.async false
set_option linter.all false
set_option maxRecDepth 100000
set_option maxHeartbeats 4000000
namespace KL
open PySem NS
/-! trees, as plain data -/
inductive NT where
  | num (k : Int) | len | load (z : Int) (t : NT) | op (s : List Nat) (a b : NT)
def NT.d : NT → D
  | .num k => .tup [.str [110, 117, 109, 98, 101, 114], .int k]
  | .len => .tup [.str [108, 101, 110]]
  | .load z t => .tup [.str [108, 111, 97, 100], .int z, t.d]
  | .op s a b => .tup [.str s, a.d, b.d]
def NT.ok : NT → Prop
  | .num k => 0 ≤ k ∧ k < 4294967296
  | .len => True
  | .load z t => (z = 1 ∨ z = 2 ∨ z = 4) ∧ t.ok
  | .op s a b => s ∈ opL ∧ a.ok ∧ b.ok
def NT.dp : NT → Nat
  | .num _ => 0
  | .len => 0
  | .load _ t => t.dp + 1
  | .op _ a b => max a.dp b.dp + 1
def tsL : List (List Nat) := [[115, 97, 109, 101], [117, 110, 108, 105, 107, 101], [98, 101, 108, 111, 119], [97, 98, 111, 118, 101], [109, 111, 115, 116], [108, 101, 97, 115, 116]]
inductive TT where
  | truth (b : Bool) | not (t : TT) | both (a b : TT) | either (a b : TT) | test (s : List Nat) (a b : NT)
def TT.d : TT → D
  | .truth b => .tup [.str [116, 114, 117, 116, 104], .bl b]
  | .not t => .tup [.str [110, 111, 116], t.d]
  | .both a b => .tup [.str [98, 111, 116, 104], a.d, b.d]
  | .either a b => .tup [.str [101, 105, 116, 104, 101, 114], a.d, b.d]
  | .test s a b => .tup [.str s, a.d, b.d]
def TT.ok : TT → Prop
  | .truth _ => True
  | .not t => t.ok
  | .both a b => a.ok ∧ b.ok
  | .either a b => a.ok ∧ b.ok
  | .test s a b => s ∈ tsL ∧ a.ok ∧ b.ok
def TT.dp : TT → Nat
  | .truth _ => 0
  | .not t => t.dp + 1
  | .both a b => max a.dp b.dp + 1
  | .either a b => max a.dp b.dp + 1
  | .test _ _ _ => 0
/-- how deep its numbers are -/
def TT.nd : TT → Nat
  | .truth _ => 0
  | .not t => t.nd
  | .both a b => max a.nd b.nd
  | .either a b => max a.nd b.nd
  | .test _ a b => max a.dp b.dp
theorem law_number_step (f : Nat) : mm__law_number (f + 1) = fnP 3 3 (b__law_number (mm__law_number f)) := rfl
theorem law_number_run (ns : List Int) : ∀ (f deep : Nat) (base : Int), deep < f → ∃ t : NT, t.ok ∧ t.dp ≤ deep ∧ mm__law_number f [.scr ns, .int base, .int deep] = .ok t.d := by
  intro f
  induction f with
  | zero => intro _ _ h; omega
  | succ f ih =>
    intro deep base hd
    have run := mix_run ns
    have mb := mix_b ns base
    rw [law_number_step]
    unfold b__law_number
    by_cases c : deep = 0 ∨ mixV ns base % 5 < 2
    · obtain ⟨kd, hk, h1⟩ := atI_mod [D.int 0, .int 1, .int 2, .int 7, .int 12, .int 20, .int 33, .int 255, .int 4294967295, .int (mixV ns base % 4294967296)] (mixV ns base / 5) 10 rfl (by omega)
      obtain ⟨k, rfl, hk2⟩ : ∃ k, kd = .int k ∧ 0 ≤ k ∧ k < 4294967296 := by
        simp only [List.mem_cons, List.not_mem_nil, or_false] at hk
        rcases hk with h | h | h | h | h | h | h | h | h | h <;> subst h <;> exact ⟨_, rfl, by omega, by omega⟩
      obtain ⟨r, hr, h2⟩ := atI_mod [D.tup [.str [108, 101, 110]], .tup [.str [110, 117, 109, 98, 101, 114], .int k], .tup [.str [110, 117, 109, 98, 101, 114], .int k]] (mixV ns base / 50) 3 rfl (by omega)
      simp only [Int.cast_ofNat_Int] at h1 h2
      have fin : ∃ t : NT, t.ok ∧ t.dp ≤ deep ∧ r = t.d := by
        simp only [List.mem_cons, List.not_mem_nil, or_false] at hr
        rcases hr with h | h | h
        · exact ⟨.len, trivial, Nat.zero_le _, h⟩
        · exact ⟨.num k, hk2, Nat.zero_le _, h⟩
        · exact ⟨.num k, hk2, Nat.zero_le _, h⟩
      obtain ⟨t, t1, t2, rfl⟩ := fin
      refine ⟨t, t1, t2, ?_⟩
      by_cases c0 : deep = 0
      · subst c0; simp [gt, run, h1, h2]
      · have c1 : mixV ns base % 5 < 2 := c.resolve_left c0
        have c0' : ((deep : Int) == 0) = false := beq_eq_false_iff_ne.2 (by omega)
        simp [gt, run, h1, h2, c0, c0', c1]
    · have c0 : deep ≠ 0 := fun z => c (.inl z)
      have c1 : ¬ mixV ns base % 5 < 2 := fun z => c (.inr z)
      have c0' : ((deep : Int) == 0) = false := beq_eq_false_iff_ne.2 (by omega)
      obtain ⟨dd, rfl⟩ : ∃ d, deep = d + 1 := ⟨deep - 1, by omega⟩
      have e : ((dd + 1 : Nat) : Int) - 1 = dd := by omega
      have e' : (dd : Int) + 1 - 1 = dd := by omega
      have n0 : ¬ ((dd : Int) + 1 = 0) := by omega
      obtain ⟨t, t1, t2, t3⟩ := ih dd (3 * base + 1) (by omega)
      by_cases c2 : mixV ns base % 5 = 2
      · obtain ⟨zd, hz, h1⟩ := atI_mod [D.int 1, .int 2, .int 4] (mixV ns base / 5) 3 rfl (by omega)
        obtain ⟨z, rfl, hz2⟩ : ∃ z, zd = .int z ∧ (z = 1 ∨ z = 2 ∨ z = 4) := by
          simp only [List.mem_cons, List.not_mem_nil, or_false] at hz
          rcases hz with h | h | h <;> subst h <;> exact ⟨_, rfl, by simp⟩
        simp only [Int.cast_ofNat_Int] at h1
        refine ⟨.load z t, ⟨hz2, t1⟩, by simp [NT.dp]; omega, ?_⟩
        simp [gt, run, h1, c2, n0, e', t3, NT.d]
      · obtain ⟨op, hop, h3⟩ := op_run (mixV ns base / 5)
        obtain ⟨u, u1, u2, u3⟩ := ih dd (3 * base + 2) (by omega)
        refine ⟨.op op t u, ⟨hop, t1, u1⟩, by simp [NT.dp]; omega, ?_⟩
        simp [gt, run, h3, c1, c2, n0, e', t3, u3, NT.d, beq_eq_false_iff_ne.2 c2]
theorem law_truth_step (f : Nat) : mm__law_truth (f + 1) = fnP 3 3 (b__law_truth (mm__law_truth f)) := rfl
theorem law_truth_run (ns : List Int) : ∀ (f deep : Nat) (base : Int), deep < f → ∃ t : TT, t.ok ∧ t.dp ≤ deep ∧ t.nd ≤ 2 ∧ mm__law_truth f [.scr ns, .int base, .int deep] = .ok t.d := by
  intro f
  induction f with
  | zero => intro _ _ h; omega
  | succ f ih =>
    intro deep base hd
    have run := mix_run ns
    have mb := mix_b ns base
    have num : ∀ (base : Int) (d : Nat), d ≤ 2 → ∃ t : NT, t.ok ∧ t.dp ≤ 2 ∧ m__law_number [.scr ns, .int base, .int d] = .ok t.d := fun base d hd => by
      obtain ⟨t, h1, h2, h3⟩ := law_number_run ns _ d base (by omega : d < 5)
      exact ⟨t, h1, by omega, h3⟩
    rw [law_truth_step]
    unfold b__law_truth
    by_cases c : 0 < deep ∧ mixV ns base % 5 < 3
    · obtain ⟨dd, rfl⟩ : ∃ d, deep = d + 1 := ⟨deep - 1, by omega⟩
      have e' : (dd : Int) + 1 - 1 = dd := by omega
      have n0 : (0 < (dd : Int) + 1) := by omega
      obtain ⟨t, t1, t2, t3, t4⟩ := ih dd (2 * base + 1) (by omega)
      by_cases c2 : mixV ns base % 5 = 0
      · refine ⟨.not t, t1, by simp [TT.dp]; omega, t3, ?_⟩
        simp [gt, run, n0, c.2, c2, e', t4, TT.d]
      · obtain ⟨u, u1, u2, u3, u4⟩ := ih dd (2 * base + 2) (by omega)
        have c3 := c.2
        rcases (by omega : mixV ns base % 5 = 1 ∨ mixV ns base % 5 = 2) with w | w
        · refine ⟨.both t u, ⟨t1, u1⟩, by simp [TT.dp]; omega, by simp [TT.nd]; omega, ?_⟩
          simp [gt, run, n0, w, e', t4, u4, TT.d, L2.atI, L2.ixN]
        · refine ⟨.either t u, ⟨t1, u1⟩, by simp [TT.dp]; omega, by simp [TT.nd]; omega, ?_⟩
          simp [gt, run, n0, w, e', t4, u4, TT.d, L2.atI, L2.ixN]
    · have c' : (0 < deep → ¬ mixV ns base % 5 < 3) := fun h z => c ⟨h, z⟩
      by_cases c2 : mixV ns base / 5 % 7 = 0
      · refine ⟨.truth (mixV ns base / 35 % 2 == 0), trivial, Nat.zero_le _, Nat.zero_le _, ?_⟩
        by_cases d0 : 0 < deep
        · have d1 : ¬ mixV ns base % 5 < 3 := c' d0
          simp [gt, run, d0, d1, c2, TT.d]
        · simp [gt, run, d0, c2, TT.d]
      · obtain ⟨td, htd, h1⟩ := atI_mod [D.str [115, 97, 109, 101], .str [117, 110, 108, 105, 107, 101], .str [98, 101, 108, 111, 119], .str [97, 98, 111, 118, 101], .str [109, 111, 115, 116], .str [108, 101, 97, 115, 116]] (mixV ns base / 35) 6 rfl (by omega)
        obtain ⟨ts, rfl, hts⟩ : ∃ s, td = .str s ∧ s ∈ tsL := by
          simp only [List.mem_cons, List.not_mem_nil, or_false] at htd
          rcases htd with h | h | h | h | h | h <;> subst h <;> exact ⟨_, rfl, by decide⟩
        simp only [Int.cast_ofNat_Int] at h1
        obtain ⟨a, a1, a2, a3⟩ := num (5 * base + 3) 2 (by omega)
        obtain ⟨b, b1, b2, b3⟩ := num (5 * base + 4) 1 (by omega)
        simp only [Int.cast_ofNat_Int] at a3 b3
        refine ⟨.test ts a b, ⟨hts, a1, b1⟩, Nat.zero_le _, by simp [TT.nd]; omega, ?_⟩
        by_cases d0 : 0 < deep
        · have d1 : ¬ mixV ns base % 5 < 3 := c' d0
          simp [gt, run, d0, d1, c2, h1, a3, b3, TT.d, beq_eq_false_iff_ne.2 c2]
        · simp [gt, run, d0, c2, h1, a3, b3, TT.d, beq_eq_false_iff_ne.2 c2]
end KL

set_option Elab.async false
set_option linter.all false
set_option maxRecDepth 100000
set_option maxHeartbeats 4000000
namespace KL
open PySem NS
/-! what trees come to -/
def ofO : Option Int → D
  | none => .non
  | some i => .int i
def rkO (s : List Nat) (a b : Int) : Option Int :=
  if s = [112, 108, 117, 115] then some ((a + b) % 4294967296) else if s = [109, 105, 110, 117, 115] then some ((a - b) % 4294967296)
  else if s = [116, 105, 109, 101, 115] then some (a * b % 4294967296)
  else if s = [111, 118, 101, 114] then (if b = 0 then none else some (a / b)) else if s = [114, 101, 115, 116] then (if b = 0 then none else some (a % b))
  else if s = [97, 110, 100] then some ((a.toNat &&& b.toNat : Nat) : Int) else if s = [111, 114] then some ((a.toNat ||| b.toNat : Nat) : Int)
  else if s = [120, 111, 114] then some ((a.toNat ^^^ b.toNat : Nat) : Int)
  else if s = [108, 101, 102, 116] then some (a * 2 ^ (min b 32).toNat % 4294967296) else some (a / 2 ^ (min b 32).toNat)
theorem rk_of (s : List Nat) (a b : Int) : rk s a b = ofO (rkO s a b) := by
  unfold rk rkO
  repeat' split
  all_goals rfl
abbrev Nm (i : Int) : Prop := 0 ≤ i ∧ i < 4294967296
theorem rkO_b (s : List Nat) (a b v : Int) (ha : Nm a) (hb : Nm b) (h : rkO s a b = some v) : Nm v := by
  unfold rkO at h
  have hN : a.toNat < 2 ^ 32 := by have := ha.2; simp; omega
  have hM : b.toNat < 2 ^ 32 := by have := hb.2; simp; omega
  have e1 := Nat.and_lt_two_pow a.toNat hM
  have e2 := Nat.or_lt_two_pow hN hM
  have e3 := Nat.xor_lt_two_pow hN hM
  simp only [show (2 : Nat) ^ 32 = 4294967296 from rfl] at e1 e2 e3
  repeat' split at h
  all_goals first | cases h | skip
  all_goals first | (constructor <;> omega) | skip
  · rename_i h0
    have hb0 : 0 < b := by have := hb.1; omega
    exact ⟨Int.ediv_nonneg ha.1 hb.1, by have := Int.ediv_le_self b ha.1; have := ha.2; omega⟩
  · rename_i h0
    have hb0 : 0 < b := by have := hb.1; omega
    have h2 := Int.emod_nonneg a (show b ≠ 0 by omega)
    have h3 := Int.emod_lt_of_pos a hb0
    exact ⟨h2, by have := hb.2; omega⟩
  · have p := pw_pos (min b 32).toNat
    exact ⟨Int.ediv_nonneg ha.1 (by omega), by have := Int.ediv_le_self (2 ^ (min b 32).toNat) ha.1; have := ha.2; omega⟩
/-- a packet -/
def Pk (pk : List Int) : Prop := (∀ b ∈ pk, 0 ≤ b ∧ b < 256) ∧ pk.length ≤ 60
def pkD (pk : List Int) : D := .lst (pk.map D.int)
def bytesV (pk : List Int) (a z : Int) : Option Int := if pk.length < a + z then none else some (((pk.drop a.toNat).take z.toNat).foldl (fun x b => x * 256 + b) 0)
def NT.val (pk : List Int) : NT → Option Int
  | .num k => some k
  | .len => some pk.length
  | .load z t => (t.val pk).bind fun a => bytesV pk a z
  | .op s a b => (a.val pk).bind fun x => (b.val pk).bind fun y => rkO s x y
theorem take_cases (pk : List Int) (a : Nat) : ∀ (n : Nat), a + n ≤ pk.length → (pk.drop a).take n = (List.range n).map fun j => pk.getD (a + j) 0
  | 0, _ => by simp
  | n + 1, h => by
    rw [List.take_succ, take_cases pk a n (by omega), List.range_succ, List.map_append]
    congr 1
    rw [List.getElem?_drop, List.getElem?_eq_getElem (by omega)]
    simp [List.getD_eq_getElem?_getD, List.getElem?_eq_getElem (show a + n < pk.length by omega)]
theorem pk_get {pk : List Int} (h : Pk pk) (j : Nat) : 0 ≤ pk.getD j 0 ∧ pk.getD j 0 < 256 := by
  by_cases q : j < pk.length
  · rw [List.getD_eq_getElem?_getD, List.getElem?_eq_getElem q]
    exact h.1 _ (List.getElem_mem _)
  · rw [List.getD_eq_getElem?_getD, List.getElem?_eq_none (by omega)]
    exact ⟨by decide, by decide⟩
theorem forL_fold (E : Int → Ce → Ev) (g : Int → Int → Int) (i : Nat) (body : SM) (hs : ∀ a y x, free (E a (.d y)) i = true ∧ (E a (.d y)).set i (.d x) = E a (.d x)) (hb : ∀ a x, body (E a (.d (.int x))) = .nx (E (g a x) (.d (.int x)))) : ∀ (l : List Int) (a : Int) (c : Ce),
    (∀ x, free (E a c) i = true ∧ (E a c).set i (.d x) = E a (.d x)) → ∃ c', forL i body (l.map D.int) (E a c) = .nx (E (l.foldl g a) c')
  | [], a, c, _ => ⟨c, rfl⟩
  | x :: l, a, c, hc => by
    obtain ⟨h1, h2⟩ := hc (.int x)
    obtain ⟨c', h3⟩ := forL_fold E g i body hs hb l (g a x) (.d (.int x)) (fun y => hs _ _ y)
    refine ⟨c', ?_⟩
    simp only [List.map_cons]
    unfold forL
    rw [if_pos h1, h2, hb]
    exact h3
theorem bytes_at_run (pk : List Int) (a z : Int) (h : Pk pk) (ha : 0 ≤ a) (hz : z = 1 ∨ z = 2 ∨ z = 4) : m_bytes_at [pkD pk, .int a, .int z] = .ok (ofO (bytesV pk a z)) := by
  unfold m_bytes_at b_bytes_at bytesV pkD
  by_cases c : pk.length < a + z
  · simp [gt, c, ofO]
  · have e : cutD (pk.map D.int) (some a) (some (a + z)) = ((pk.drop a.toNat).take z.toNat).map D.int := by
      unfold cutD
      simp only [HT.sIx, List.length_map]
      rw [if_neg (by omega), if_neg (by omega), ← List.map_drop, ← List.map_take]
      rw [show min a.toNat pk.length = a.toNat by omega, show min (a + z).toNat pk.length - a.toNat = z.toNat by omega]
    obtain ⟨c', h3⟩ := forL_fold (fun f c => [.d (.lst (pk.map D.int)), .d (.int a), .d (.int z), .d (.int f), c]) (fun x b => x * 256 + b) 4
      (setS 3 (op2 dAdd (op2 dMul (var 3) (cst (.int 256))) (var 4))) (fun a y x => ⟨rfl, rfl⟩) (fun a x => by simp [gt]) ((pk.drop a.toNat).take z.toNat) 0 .un (fun x => ⟨rfl, rfl⟩)
    simp [gt, c, dSl, e, ofO]
    simp only [List.map_take, List.map_drop] at h3
    rw [h3]
    simp [gt]
theorem sum4 (l : List Int) : l.foldl (fun x b => x * 256 + b) 0 = l.foldl (fun x b => x * 256 + b) 0 := rfl
theorem lcL_rng (i : Nat) (m : EM) (ρ : Ev) (f : Nat → D) : ∀ (n s : Nat), (∀ k, s ≤ k → k < s + n → noer (m (ρ.set i (.d (.int (k : Int))))) = .ok (f k)) → lcL i yesT m ρ ((List.range' s n).map fun (k : Nat) => D.int k) = .ok ((List.range' s n).map f)
  | 0, s, _ => rfl
  | n + 1, s, h => by
    rw [List.range'_succ]
    simp only [List.map_cons]
    unfold lcL
    have h1 := h s (by omega) (by omega)
    have h2 := lcL_rng i m ρ f n (s + 1) fun k a b => h k (by omega) (by omega)
    simp only [yesT_ap, noer_ok, Out.bind, if_true, h1, h2]
/-- [e for k in range(n)] -/
theorem lc_rng (i : Nat) (m : EM) (ρ : Ev) (f : Nat → D) (n : Nat) (h : ∀ k, k < n → noer (m (ρ.set i (.d (.int (k : Int))))) = .ok (f k)) : lcL i yesT m ρ ((List.range n).map fun (k : Nat) => D.int k) = .ok ((List.range n).map f) := by
  rw [List.range_eq_range']
  exact lcL_rng i m ρ f n 0 fun k _ b => h k (by omega)
theorem law_bytes_run (pk : List Int) (a z : Int) (h : Pk pk) (ha : 0 ≤ a) (hz : z = 1 ∨ z = 2 ∨ z = 4) : m__law_bytes [pkD pk, .int a, .int z] = .ok (ofO (bytesV pk a z)) := by
  unfold m__law_bytes b__law_bytes bytesV pkD
  by_cases c : pk.length < a + z
  · simp [gt, c, ofO]
  · obtain ⟨n, rfl⟩ : ∃ n : Nat, a = n := ⟨a.toNat, by omega⟩
    rw [if_neg c, Int.toNat_natCast, take_cases pk n z.toNat (by omega)]
    have g : ∀ j : Nat, (n + j : Nat) < pk.length → L2.atI (pk.map D.int) ((n : Int) + j) = some (.int (pk.getD (n + j) 0)) := fun j hj => by
      rw [atI_ok (by omega) (by simp; omega), show ((n : Int) + (j : Int)).toNat = n + j by omega, List.getElem?_map, List.getElem?_eq_getElem hj]
      simp [List.getD_eq_getElem?_getD, List.getElem?_eq_getElem hj]
    have w0 : L2.atI [D.int 1, D.int 256, D.int 65536, D.int 16777216] 0 = some (.int 1) := rfl
    have w1 : L2.atI [D.int 1, D.int 256, D.int 65536, D.int 16777216] 1 = some (.int 256) := rfl
    have w2 : L2.atI [D.int 1, D.int 256, D.int 65536, D.int 16777216] 2 = some (.int 65536) := rfl
    have w3 : L2.atI [D.int 1, D.int 256, D.int 65536, D.int 16777216] 3 = some (.int 16777216) := rfl
    rcases hz with hz | hz | hz <;> subst hz
    · have g0 := g 0 (by omega)
      simp at g0
      simp [gt, c, ofO, lcL, List.range_succ, g0, w0, bSum, intsOf]
    · have g0 := g 0 (by omega)
      have g1 := g 1 (by omega)
      simp at g0 g1
      simp [gt, c, ofO, lcL, List.range_succ, g0, g1, w0, w1, bSum, intsOf]
    · have g0 := g 0 (by omega)
      have g1 := g 1 (by omega)
      have g2 := g 2 (by omega)
      have g3 := g 3 (by omega)
      simp at g0 g1 g2 g3
      simp [gt, c, ofO, lcL, List.range_succ, g0, g1, g2, g3, w0, w1, w2, w3, bSum, intsOf]
      omega
theorem bytesV_b (pk : List Int) (a z v : Int) (h : Pk pk) (ha : 0 ≤ a) (hz : z = 1 ∨ z = 2 ∨ z = 4) (e : bytesV pk a z = some v) : Nm v := by
  unfold bytesV at e
  split at e
  · cases e
  · rename_i c
    rw [take_cases pk a.toNat z.toNat (by omega)] at e
    have g := fun j => pk_get h (a.toNat + j)
    have g0 := g 0
    have g1 := g 1
    have g2 := g 2
    have g3 := g 3
    rcases hz with hz | hz | hz <;> subst hz <;> simp [List.range_succ] at e <;> subst e <;> simp only [List.getD_eq_getElem?_getD, Nat.add_zero] at g0 g1 g2 g3 <;> constructor <;> omega
theorem NT.val_b {pk : List Int} (h : Pk pk) : ∀ (t : NT), t.ok → ∀ v, t.val pk = some v → Nm v
  | .num k, ho, v, e => by simp [NT.val] at e; subst e; exact ho
  | .len, _, v, e => by
    simp [NT.val] at e; subst e
    have := h.2
    constructor <;> omega
  | .load z t, ho, v, e => by
    simp only [NT.val, Option.bind_eq_some_iff] at e
    obtain ⟨a, e1, e2⟩ := e
    exact bytesV_b pk a z v h (NT.val_b h t ho.2 a e1).1 ho.1 e2
  | .op s a b, ho, v, e => by
    simp only [NT.val, Option.bind_eq_some_iff] at e
    obtain ⟨x, e1, y, e2, e3⟩ := e
    exact rkO_b s x y v (NT.val_b h a ho.2.1 x e1) (NT.val_b h b ho.2.2 y e2) e3
end KL

set_option Elab.async false
set_option linter.all false
set_option maxRecDepth 100000
set_option maxHeartbeats 4000000
namespace KL
open PySem NS
theorem opL_ne {s : List Nat} (h : s ∈ opL) : s ≠ [110, 117, 109, 98, 101, 114] ∧ s ≠ [108, 101, 110] ∧ s ≠ [108, 111, 97, 100] := by
  have : ∀ s ∈ opL, s ≠ [110, 117, 109, 98, 101, 114] ∧ s ≠ [108, 101, 110] ∧ s ≠ [108, 111, 97, 100] := by decide
  exact this s h
theorem ix2_0 (a b : D) : L2.atI [a, b] 0 = some a := rfl
theorem ix2_1 (a b : D) : L2.atI [a, b] 1 = some b := rfl
theorem ix3_0 (a b c : D) : L2.atI [a, b, c] 0 = some a := rfl
theorem ix3_1 (a b c : D) : L2.atI [a, b, c] 1 = some b := rfl
theorem ix3_2 (a b c : D) : L2.atI [a, b, c] 2 = some c := rfl
theorem ix1_0 (a : D) : L2.atI [a] 0 = some a := rfl
/-- the law's own worth -/
theorem worth_run (pk : List Int) (h : Pk pk) : ∀ (t : NT) (f : Nat), t.ok → t.dp < f → mm__law_worth f [t.d, pkD pk] = .ok (ofO (t.val pk))
  | .num k, f + 1, _, _ => by
    show fnP 2 3 (b__law_worth (mm__law_worth f)) _ = _
    unfold b__law_worth NT.d
    simp [gt, ix2_0, ix2_1, NT.val, ofO]
  | .len, f + 1, _, _ => by
    show fnP 2 3 (b__law_worth (mm__law_worth f)) _ = _
    unfold b__law_worth NT.d
    simp [gt, ix1_0, NT.val, ofO, pkD]
  | .load z t, f + 1, ho, hd => by
    have ih := worth_run pk h t f ho.2 (by simp [NT.dp] at hd; omega)
    show fnP 2 3 (b__law_worth (mm__law_worth f)) _ = _
    unfold b__law_worth NT.d
    cases e : t.val pk with
    | none => simp [gt, ix3_0, ix3_1, ix3_2, NT.val, ofO, ih, e]
    | some v =>
      have hb := NT.val_b h t ho.2 v e
      simp [gt, ix3_0, ix3_1, ix3_2, NT.val, ofO, ih, e, law_bytes_run pk v z h hb.1 ho.1]
  | .op s a b, f + 1, ho, hd => by
    have iha := worth_run pk h a f ho.2.1 (by simp [NT.dp] at hd; omega)
    have ihb := worth_run pk h b f ho.2.2 (by simp [NT.dp] at hd; omega)
    obtain ⟨n1, n2, n3⟩ := opL_ne ho.1
    show fnP 2 3 (b__law_worth (mm__law_worth f)) _ = _
    unfold b__law_worth NT.d
    cases e : a.val pk with
    | none => simp [gt, ix3_0, ix3_1, ix3_2, NT.val, ofO, iha, e, n1, n2, n3, beq_eq_false_iff_ne.2 n1, beq_eq_false_iff_ne.2 n2, beq_eq_false_iff_ne.2 n3]
    | some x =>
      have hx := NT.val_b h a ho.2.1 x e
      cases e2 : b.val pk with
      | none => simp [gt, ix3_0, ix3_1, ix3_2, NT.val, ofO, iha, ihb, e, e2, n1, n2, n3, beq_eq_false_iff_ne.2 n1, beq_eq_false_iff_ne.2 n2, beq_eq_false_iff_ne.2 n3]
      | some y =>
        have hy := NT.val_b h b ho.2.2 y e2
        simp [gt, ix3_0, ix3_1, ix3_2, NT.val, iha, ihb, e, e2, n1, n2, n3, beq_eq_false_iff_ne.2 n1, beq_eq_false_iff_ne.2 n2, beq_eq_false_iff_ne.2 n3, law_reckoned s ho.1 x y hx hy, rk_of, show ofO (some x) = .int x from rfl, show ofO (some y) = .int y from rfl]
/-- 1, 0, or -1 -/
def TT.val (pk : List Int) : TT → Option Bool
  | .truth b => some b
  | .not t => (t.val pk).map fun b => !b
  | .both a b => (a.val pk).bind fun x => if x = true then b.val pk else some false
  | .either a b => (a.val pk).bind fun x => if x = true then some true else b.val pk
  | .test s a b => (a.val pk).bind fun x => (b.val pk).map fun y =>
    if s = [115, 97, 109, 101] then x == y else if s = [117, 110, 108, 105, 107, 101] then !(x == y) else if s = [98, 101, 108, 111, 119] then decide (x < y) else
    if s = [97, 98, 111, 118, 101] then decide (y < x) else if s = [109, 111, 115, 116] then decide (x ≤ y) else decide (y ≤ x)
def sayO : Option Bool → D
  | none => .int (-1)
  | some b => .int (if b then 1 else 0)
theorem says_run (pk : List Int) (h : Pk pk) (wf : Nat) (hw : m__law_worth = mm__law_worth wf) : ∀ (t : TT) (f : Nat), t.ok → t.dp < f → t.nd < wf → mm__law_says f [t.d, pkD pk] = .ok (sayO (t.val pk))
  | .truth b, f + 1, _, _, _ => by
    show fnP 2 3 (b__law_says (mm__law_says f)) _ = _
    unfold b__law_says TT.d
    simp [gt, ix2_0, ix2_1, TT.val, sayO]
  | .not t, f + 1, ho, hd, hn => by
    have ih := says_run pk h wf hw t f ho (by simp [TT.dp] at hd; omega) hn
    show fnP 2 3 (b__law_says (mm__law_says f)) _ = _
    unfold b__law_says TT.d
    cases e : t.val pk with
    | none => simp [gt, ix2_0, ix2_1, TT.val, sayO, ih, e]
    | some b => cases b <;> simp [gt, ix2_0, ix2_1, TT.val, sayO, ih, e]
  | .both a b, f + 1, ho, hd, hn => by
    have iha := says_run pk h wf hw a f ho.1 (by simp [TT.dp] at hd; omega) (by simp [TT.nd] at hn; omega)
    have ihb := says_run pk h wf hw b f ho.2 (by simp [TT.dp] at hd; omega) (by simp [TT.nd] at hn; omega)
    show fnP 2 3 (b__law_says (mm__law_says f)) _ = _
    unfold b__law_says TT.d
    cases e : a.val pk with
    | none => simp [gt, ix3_0, ix3_1, ix3_2, TT.val, sayO, iha, e]
    | some x => cases x <;> simp [gt, ix3_0, ix3_1, ix3_2, TT.val, sayO, iha, ihb, e]
  | .either a b, f + 1, ho, hd, hn => by
    have iha := says_run pk h wf hw a f ho.1 (by simp [TT.dp] at hd; omega) (by simp [TT.nd] at hn; omega)
    have ihb := says_run pk h wf hw b f ho.2 (by simp [TT.dp] at hd; omega) (by simp [TT.nd] at hn; omega)
    show fnP 2 3 (b__law_says (mm__law_says f)) _ = _
    unfold b__law_says TT.d
    cases e : a.val pk with
    | none => simp [gt, ix3_0, ix3_1, ix3_2, TT.val, sayO, iha, e]
    | some x => cases x <;> simp [gt, ix3_0, ix3_1, ix3_2, TT.val, sayO, iha, ihb, e]
  | .test s a b, f + 1, ho, hd, hn => by
    have iha := worth_run pk h a wf ho.2.1 (by simp [TT.nd] at hn; omega)
    have ihb := worth_run pk h b wf ho.2.2 (by simp [TT.nd] at hn; omega)
    rw [← hw] at iha ihb
    show fnP 2 3 (b__law_says (mm__law_says f)) _ = _
    unfold b__law_says TT.d
    have hs := ho.1
    simp only [tsL, List.mem_cons, List.not_mem_nil, or_false] at hs
    cases e : a.val pk with
    | none => rcases hs with q | q | q | q | q | q <;> subst q <;> simp [gt, ix3_0, ix3_1, ix3_2, TT.val, sayO, ofO, iha, e]
    | some x =>
      cases e2 : b.val pk with
      | none => rcases hs with q | q | q | q | q | q <;> subst q <;> simp [gt, ix3_0, ix3_1, ix3_2, TT.val, sayO, ofO, iha, ihb, e, e2]
      | some y => rcases hs with q | q | q | q | q | q <;> subst q <;> simp [gt, ix3_0, ix3_1, ix3_2, TT.val, sayO, ofO, iha, ihb, e, e2, kOf, putD, repV, dIx, dlook]
end KL

set_option Elab.async false
set_option linter.all false
set_option maxRecDepth 100000
set_option maxHeartbeats 4000000
namespace KL
open PySem NS
/-! the program's own reading of a tree -/
theorem number_of_run (pk : List Int) (h : Pk pk) : ∀ (t : NT) (f : Nat), t.ok → t.dp < f → mm_number_of f [t.d, pkD pk] = .ok (ofO (t.val pk))
  | .num k, f + 1, _, _ => by
    show fnP 2 3 (b_number_of (mm_number_of f)) _ = _
    unfold b_number_of NT.d
    simp [gt, ix2_0, ix2_1, NT.val, ofO]
  | .len, f + 1, _, _ => by
    show fnP 2 3 (b_number_of (mm_number_of f)) _ = _
    unfold b_number_of NT.d
    simp [gt, ix1_0, NT.val, ofO, pkD]
  | .load z t, f + 1, ho, hd => by
    have ih := number_of_run pk h t f ho.2 (by simp [NT.dp] at hd; omega)
    show fnP 2 3 (b_number_of (mm_number_of f)) _ = _
    unfold b_number_of NT.d
    cases e : t.val pk with
    | none => simp [gt, ix3_0, ix3_1, ix3_2, NT.val, ofO, ih, e]
    | some v =>
      have hb := NT.val_b h t ho.2 v e
      simp [gt, ix3_0, ix3_1, ix3_2, NT.val, ofO, ih, e, bytes_at_run pk v z h hb.1 ho.1]
  | .op s a b, f + 1, ho, hd => by
    have iha := number_of_run pk h a f ho.2.1 (by simp [NT.dp] at hd; omega)
    have ihb := number_of_run pk h b f ho.2.2 (by simp [NT.dp] at hd; omega)
    obtain ⟨n1, n2, n3⟩ := opL_ne ho.1
    show fnP 2 3 (b_number_of (mm_number_of f)) _ = _
    unfold b_number_of NT.d
    cases e : a.val pk with
    | none => simp [gt, ix3_0, ix3_1, ix3_2, NT.val, ofO, iha, e, n1, n2, n3, beq_eq_false_iff_ne.2 n1, beq_eq_false_iff_ne.2 n2, beq_eq_false_iff_ne.2 n3]
    | some x =>
      have hx := NT.val_b h a ho.2.1 x e
      cases e2 : b.val pk with
      | none => simp [gt, ix3_0, ix3_1, ix3_2, NT.val, ofO, iha, ihb, e, e2, n1, n2, n3, beq_eq_false_iff_ne.2 n1, beq_eq_false_iff_ne.2 n2, beq_eq_false_iff_ne.2 n3]
      | some y =>
        have hy := NT.val_b h b ho.2.2 y e2
        simp [gt, ix3_0, ix3_1, ix3_2, NT.val, iha, ihb, e, e2, n1, n2, n3, beq_eq_false_iff_ne.2 n1, beq_eq_false_iff_ne.2 n2, beq_eq_false_iff_ne.2 n3, reckoned_run s ho.1 x y hx hy, rk_of, show ofO (some x) = .int x from rfl, show ofO (some y) = .int y from rfl]
def truO : Option Bool → D
  | none => .non
  | some b => .bl b
theorem truth_of_run (pk : List Int) (h : Pk pk) (wf : Nat) (hw : m_number_of = mm_number_of wf) : ∀ (t : TT) (f : Nat), t.ok → t.dp < f → t.nd < wf → mm_truth_of f [t.d, pkD pk] = .ok (truO (t.val pk))
  | .truth b, f + 1, _, _, _ => by
    show fnP 2 3 (b_truth_of (mm_truth_of f)) _ = _
    unfold b_truth_of TT.d
    simp [gt, ix2_0, ix2_1, TT.val, truO]
  | .not t, f + 1, ho, hd, hn => by
    have ih := truth_of_run pk h wf hw t f ho (by simp [TT.dp] at hd; omega) hn
    show fnP 2 3 (b_truth_of (mm_truth_of f)) _ = _
    unfold b_truth_of TT.d
    cases e : t.val pk with
    | none => simp [gt, ix2_0, ix2_1, TT.val, truO, ih, e]
    | some b => cases b <;> simp [gt, ix2_0, ix2_1, TT.val, truO, ih, e]
  | .both a b, f + 1, ho, hd, hn => by
    have iha := truth_of_run pk h wf hw a f ho.1 (by simp [TT.dp] at hd; omega) (by simp [TT.nd] at hn; omega)
    have ihb := truth_of_run pk h wf hw b f ho.2 (by simp [TT.dp] at hd; omega) (by simp [TT.nd] at hn; omega)
    show fnP 2 3 (b_truth_of (mm_truth_of f)) _ = _
    unfold b_truth_of TT.d
    cases e : a.val pk with
    | none => simp [gt, ix3_0, ix3_1, ix3_2, TT.val, truO, iha, e]
    | some x => cases x <;> simp [gt, ix3_0, ix3_1, ix3_2, TT.val, truO, iha, ihb, e]
  | .either a b, f + 1, ho, hd, hn => by
    have iha := truth_of_run pk h wf hw a f ho.1 (by simp [TT.dp] at hd; omega) (by simp [TT.nd] at hn; omega)
    have ihb := truth_of_run pk h wf hw b f ho.2 (by simp [TT.dp] at hd; omega) (by simp [TT.nd] at hn; omega)
    show fnP 2 3 (b_truth_of (mm_truth_of f)) _ = _
    unfold b_truth_of TT.d
    cases e : a.val pk with
    | none => simp [gt, ix3_0, ix3_1, ix3_2, TT.val, truO, iha, e]
    | some x => cases x <;> simp [gt, ix3_0, ix3_1, ix3_2, TT.val, truO, iha, ihb, e]
  | .test s a b, f + 1, ho, hd, hn => by
    have iha := number_of_run pk h a wf ho.2.1 (by simp [TT.nd] at hn; omega)
    have ihb := number_of_run pk h b wf ho.2.2 (by simp [TT.nd] at hn; omega)
    rw [← hw] at iha ihb
    show fnP 2 3 (b_truth_of (mm_truth_of f)) _ = _
    unfold b_truth_of TT.d
    have hs := ho.1
    simp only [tsL, List.mem_cons, List.not_mem_nil, or_false] at hs
    cases e : a.val pk with
    | none => rcases hs with q | q | q | q | q | q <;> subst q <;> simp [gt, ix3_0, ix3_1, ix3_2, TT.val, truO, ofO, iha, e]
    | some x =>
      cases e2 : b.val pk with
      | none => rcases hs with q | q | q | q | q | q <;> subst q <;> simp [gt, ix3_0, ix3_1, ix3_2, TT.val, truO, ofO, iha, ihb, e, e2]
      | some y => rcases hs with q | q | q | q | q | q <;> subst q <;> simp [gt, ix3_0, ix3_1, ix3_2, TT.val, truO, ofO, iha, ihb, e, e2, m_compared, b_compared]
end KL

set_option Elab.async false
set_option linter.all false
set_option maxRecDepth 100000
set_option maxHeartbeats 4000000
namespace KL
open PySem NS
def pkB : EM := op2 dMod (op2 dDiv (callP m__law_mix (consM (var 0) (consM (op2 dAdd (op2 dAdd (var 1) (cst (.int 1))) (op2 dMod (var 3) (cst (.int 40)))) nilM))) (op2 dAdd (cst (.int 1)) (var 3))) (cst (.int 256))
def pkV (ns : List Int) (b : Int) (k : Nat) : Int := mixV ns (b + 1 + (k : Int) % 40) / (1 + (k : Int)) % 256
theorem pkV_b (ns : List Int) (b : Int) (k : Nat) : 0 ≤ pkV ns b k ∧ pkV ns b k < 256 := by
  unfold pkV
  exact ⟨Int.emod_nonneg _ (by decide), Int.emod_lt_of_pos _ (by decide)⟩
def pkA : EM := op2 dAdd (op2 dAdd (var 1) (cst (.int 1))) (op2 dMod (var 3) (cst (.int 40)))
theorem pkA_run (b x : Int) (s d : D) : pkA [.d s, .d (.int b), .d d, .d (.int x)] = .ok (.int (b + 1 + x % 40)) := by
  unfold pkA
  simp [gt]
theorem pkM_run (ns : List Int) (b x : Int) (d : D) : callP m__law_mix (consM (var 0) (consM pkA nilM)) [.d (.scr ns), .d (.int b), .d d, .d (.int x)] = .ok (.int (mixV ns (b + 1 + x % 40))) := by
  have e : consM (var 0) (consM pkA nilM) [.d (.scr ns), .d (.int b), .d d, .d (.int x)] = .ok [.scr ns, .int (b + 1 + x % 40)] := by
    simp only [consM_ap, nilM_ap, var_ap, gt, Out.bind, pkA_run]
  unfold callP
  rw [e]
  exact mix_run ns _
theorem pkB_run0 (ns : List Int) (b x : Int) (d : D) (h0 : 0 ≤ x) (h1 : x < 100) : pkB [.d (.scr ns), .d (.int b), .d d, .d (.int x)] = .ok (.int (mixV ns (b + 1 + x % 40) / (1 + x) % 256)) := by
  have e1 := pkM_run ns b x d
  have e2 : op2 dAdd (cst (.int 1)) (var 3) [.d (.scr ns), .d (.int b), .d d, .d (.int x)] = .ok (.int (1 + x)) := by simp [gt]
  show op2 dMod (op2 dDiv (callP m__law_mix (consM (var 0) (consM pkA nilM))) (op2 dAdd (cst (.int 1)) (var 3))) (cst (.int 256)) _ = _
  generalize mixV ns (b + 1 + x % 40) = m at *
  generalize callP m__law_mix (consM (var 0) (consM pkA nilM)) = M at *
  have p1 : 0 < 1 + x := by omega
  have p2 : 1 + x < 18446744073709551616 := by omega
  generalize 1 + x = q at *
  generalize op2 dAdd (cst (.int 1)) (var 3) = Q at *
  simp [e1, e2, p1, p2]
theorem pkB_run (ns : List Int) (b : Int) (d : D) (k : Nat) (hk : k < 100) : pkB [.d (.scr ns), .d (.int b), .d d, .d (.int k)] = .ok (.int (pkV ns b k)) :=
  pkB_run0 ns b k d (by omega) (by omega)
theorem pk_it (ns : List Int) (b : Int) (n : Nat) (hn : n ≤ 60) : itR1 (var 2) [.d (.scr ns), .d (.int b), .d (.int n), .un] = .ok ((List.range n).map fun (k : Nat) => D.int k) := by
  rw [itR1_ok (j := n) rfl (Int.le_trans (by decide) (Int.natCast_nonneg n)) (Int.lt_of_le_of_lt (Int.ofNat_le.2 hn) (by decide)), Int.toNat_natCast]
theorem pk_lc (ns : List Int) (b : Int) (n : Nat) (hn : n ≤ 60) : fLc 3 (itR1 (var 2)) yesT pkB [.d (.scr ns), .d (.int b), .d (.int n), .un] = .ok (.lst ((List.range n).map fun k => D.int (pkV ns b k))) := by
  have hl := lc_rng 3 pkB [.d (.scr ns), .d (.int b), .d (.int n), .un] (fun k : Nat => D.int (pkV ns b k)) n fun k hk => by
    show noer (pkB [.d (.scr ns), .d (.int b), .d (.int n), .d (.int k)]) = _
    rw [pkB_run ns b _ k (by omega)]
    rfl
  rw [fLc_ap]
  simp only [gt]
  rw [pk_it ns b n hn]
  simp only [Out.bind]
  rw [if_pos (by rw [List.length_map, List.length_range]; omega), hl]
theorem pk_fin (ns : List Int) (b : Int) (dn : D) (L : List D) (h1 : L2.atI [D.int 0, .int 1, .int 3, .int 20, .int 34, .int 60] (mixV ns b % 6) = some dn)
    (st : fLc 3 (itR1 (var 2)) yesT pkB [.d (.scr ns), .d (.int b), .d dn, .un] = .ok (.lst L)) : m__law_packet [.scr ns, .int b] = .ok (.lst L) := by
  have run := mix_run ns b
  generalize mixV ns b = x at *
  unfold pkB at st
  unfold m__law_packet b__law_packet
  simp only [fnP_ap, startD_ap, seqS_ap, setS_ap, op2_ap, dLst_ap, consM_ap, nilM_ap, cst_ap, callP_ap, var_ap, gt, run, Out.bind, dMod_ok (show (0 : Int) < 6 by decide), List.length_cons, List.length_nil, List.map_cons, List.map_nil, List.cons_append, List.nil_append, List.replicate, if_true, noer_ok, dIx_lst, h1, free_ap, List.set, retS_ap, frz_ap, st]
  rfl
theorem law_packet_run (ns : List Int) (b : Int) : ∃ pk, Pk pk ∧ m__law_packet [.scr ns, .int b] = .ok (pkD pk) := by
  have run := mix_run ns b
  obtain ⟨sd, hs, h1⟩ := atI_mod [D.int 0, .int 1, .int 3, .int 20, .int 34, .int 60] (mixV ns b) 6 rfl (by omega)
  obtain ⟨n, rfl, hn⟩ : ∃ n : Nat, sd = .int n ∧ n ≤ 60 := by
    simp only [List.mem_cons, List.not_mem_nil, or_false] at hs
    rcases hs with h | h | h | h | h | h <;> subst h
    · exact ⟨0, rfl, by omega⟩
    · exact ⟨1, rfl, by omega⟩
    · exact ⟨3, rfl, by omega⟩
    · exact ⟨20, rfl, by omega⟩
    · exact ⟨34, rfl, by omega⟩
    · exact ⟨60, rfl, by omega⟩
  simp only [Int.cast_ofNat_Int] at h1
  refine ⟨(List.range n).map (pkV ns b), ⟨fun x hx => ?_, by simpa using hn⟩, ?_⟩
  · obtain ⟨k, _, rfl⟩ := List.mem_map.1 hx
    exact pkV_b ns b k
  · have st := pk_lc ns b n hn
    have e : pkD ((List.range n).map (pkV ns b)) = .lst ((List.range n).map fun k => D.int (pkV ns b k)) := by
      unfold pkD; rw [List.map_map]; rfl
    rw [e]
    exact pk_fin ns b (D.int n) _ h1 st
theorem eqL_int (l : List Int) : deqs (l.map D.int) (l.map D.int) = true := by
  induction l with
  | nil => simp
  | cons x l ih => simp [ih]
theorem shp_pk (l : List Int) : shpB 30 (.lst (l.map D.int)) = true := by
  simp [List.all_map]
end KL

set_option Elab.async false
set_option linter.all false
set_option maxRecDepth 100000
set_option maxHeartbeats 4000000
namespace KL
open PySem NS
theorem takes_run (pk : List Int) (h : Pk pk) (t : TT) (ho : t.ok) (hd : t.dp ≤ 2) (hn : t.nd ≤ 2) : m_takes [t.d, pkD pk] = .ok (.bl (t.val pk == some true)) := by
  have := truth_of_run pk h 6 rfl t 6 ho (by omega) (by omega)
  unfold m_takes b_takes
  have e : m_truth_of [t.d, pkD pk] = .ok (truO (t.val pk)) := this
  cases q : t.val pk with
  | none => simp [gt, e, q, truO, dIsT]
  | some b => cases b <;> simp [gt, e, q, truO, dIsT]
def body13 : SM := (seqS (setS 3 (callP m__law_packet (consM (var 0) (consM (op2 dAdd (cst (.int 20)) (op2 dMul (cst (.int 11)) (var 2))) nilM))))
 (seqS (setS 4 (frz (callM bList (consM (var 3) nilM))))
 (seqS (setS 5 (callP m_takes (consM (var 1) (consM (var 4) nilM))))
 (ifS (tOrM (tNotM (tTru (dIsi isBool (var 5)))) (tOrM (tst (op2 dNe (var 5) (op2 dEq (callP m__law_says (consM (var 1) (consM (var 3) nilM))) (cst (.int 1))))) (tst (op2 dNe (var 4) (var 3)))))
 (retS (cst (.bl false)))
 nopS))))
theorem body_run (ns : List Int) (t : TT) (ho : t.ok) (hd : t.dp ≤ 2) (hn : t.nd ≤ 2) (k : Int) (c3 c4 c5 : Ce) (h3 : c3 = .un ∨ ∃ x, c3 = .d x) (h4 : c4 = .un ∨ ∃ x, c4 = .d x) (h5 : c5 = .un ∨ ∃ x, c5 = .d x) :
    ∃ c3' c4' c5', ((c3' = .un ∨ ∃ x, c3' = .d x) ∧ (c4' = .un ∨ ∃ x, c4' = .d x) ∧ (c5' = .un ∨ ∃ x, c5' = .d x)) ∧ body13 [.d (.scr ns), .d t.d, .d (.int k), c3, c4, c5] = .nx [.d (.scr ns), .d t.d, .d (.int k), c3', c4', c5'] := by
  obtain ⟨pk, hp, e1⟩ := law_packet_run ns (20 + 11 * k)
  have e2 := takes_run pk hp t ho hd hn
  have e3 : m__law_says [t.d, pkD pk] = .ok (sayO (t.val pk)) := says_run pk hp 6 rfl t 6 ho (by omega) (by omega)
  have q1 := eqL_int pk
  have q2 := shp_pk pk
  refine ⟨.d (pkD pk), .d (pkD pk), .d (.bl (t.val pk == some true)), ⟨.inr ⟨_, rfl⟩, .inr ⟨_, rfl⟩, .inr ⟨_, rfl⟩⟩, ?_⟩
  have l1 : bList [pkD pk] = .ok (.lst (pk.map D.int)) := rfl
  have l2 : (Mu.lst (pk.map D.int)).toD = pkD pk := rfl
  have q3 : shpB 30 (pkD pk) = true := q2
  have q4 : deq (pkD pk) (pkD pk) = true := by unfold pkD; simp [q1]
  have n1 : dNe (pkD pk) (pkD pk) = .ok (.bl false) := by
    unfold pkD; rw [dNe_ap, q2]; simp [q1]
  have hf : D.lst (pk.map D.int) = pkD pk := rfl
  have fin : ∀ v : Option Bool, m_takes [t.d, pkD pk] = .ok (.bl (v == some true)) → m__law_says [t.d, pkD pk] = .ok (sayO v) → body13 [.d (.scr ns), .d t.d, .d (.int k), c3, c4, c5] = .nx [.d (.scr ns), .d t.d, .d (.int k), .d (pkD pk), .d (pkD pk), .d (.bl (v == some true))] := by
    intro v e2 e3
    unfold body13
    cases v with
    | none =>
      simp only [sayO] at e3
      rcases h3 with h | ⟨x3, h⟩ <;> subst h <;> rcases h4 with h | ⟨x4, h⟩ <;> subst h <;> rcases h5 with h | ⟨x5, h⟩ <;> subst h <;> simp [gt, e1, l1, hf, e2, e3, isBool, q3, q4]
    | some bb =>
      simp only [sayO] at e3
      cases bb <;> rcases h3 with h | ⟨x3, h⟩ <;> subst h <;> rcases h4 with h | ⟨x4, h⟩ <;> subst h <;> rcases h5 with h | ⟨x5, h⟩ <;> subst h <;> simp at e2 e3 <;> simp [gt, e1, l1, hf, e2, e3, isBool, q3, q4]
  exact fin _ e2 e3
theorem math (ns : List Int) (_ : ns.length ≤ 63) : m_law [.scr ns] = .ok (.bl true) := by
  obtain ⟨t, t1, t2, t3, t4⟩ := law_truth_run ns 5 2 0 (by omega)
  have t4 : m__law_truth [.scr ns, .int 0, .int 2] = .ok t.d := t4
  obtain ⟨ρ', hr, c2, c3, c4, c5, _, _, _, _, rfl⟩ := forL_inv 2 body13 (fun ρ => ∃ c2 c3 c4 c5, du c2 ∧ du c3 ∧ du c4 ∧ du c5 ∧ ρ = [.d (.scr ns), .d t.d, c2, c3, c4, c5]) ((List.range 3).map fun (k : Nat) => D.int k) (fun ρ x ⟨c2, c3, c4, c5, d2, d3, d4, d5, e⟩ hx => by
    obtain ⟨k, _, rfl⟩ := List.mem_map.1 hx
    subst e
    refine ⟨by rcases d2 with h | ⟨_, h⟩ <;> subst h <;> rfl, ?_⟩
    obtain ⟨a3, a4, a5, ⟨ha3, ha4, ha5⟩, ea⟩ := body_run ns t t1 t2 t3 k c3 c4 c5 d3 d4 d5
    exact ⟨_, ea, _, _, _, _, du_d _, ha3, ha4, ha5, rfl⟩) [.d (.scr ns), .d t.d, .un, .un, .un, .un] ⟨_, _, _, _, du_un, du_un, du_un, du_un, rfl⟩
  unfold body13 at hr
  have it : itR1 (cst (.int 3)) [.d (.scr ns), .d t.d, .un, .un, .un, .un] = _ := itR1_ok rfl (by decide) (by decide)
  unfold m_law b_law
  simp only [fnP_ap, startD_ap, seqS_ap, setS_ap, callP_ap, consM_ap, nilM_ap, var_ap, gt, cst_ap, Out.bind, t4, free_ap, List.length_cons, List.length_nil, List.map_cons, List.map_nil, List.cons_append, List.nil_append, List.replicate, if_true, List.set, forS_ap, it]
  rw [show Int.toNat 3 = 3 from rfl, hr]
  rfl
end KL

set_option Elab.async false
set_option linter.all false
set_option maxRecDepth 100000
set_option maxHeartbeats 0
namespace KL
open PySem PySem.Spec L2 NS
open PyProof.Rows hiding St
/-! ### the head -/
def dd__law_cell : He.DefD := ⟨("_law_cell", none), "_law_cell", "_law_cell", defArgs s__law_cell, defBody s__law_cell, defScope s__law_cell, [], []⟩
def dd__law_mix : He.DefD := ⟨("_law_mix", none), "_law_mix", "_law_mix", defArgs s__law_mix, defBody s__law_mix, defScope s__law_mix, [], []⟩
def dd__law_op : He.DefD := ⟨("_law_op", none), "_law_op", "_law_op", defArgs s__law_op, defBody s__law_op, defScope s__law_op, [], []⟩
def dd__law_number : He.DefD := ⟨("_law_number", none), "_law_number", "_law_number", defArgs s__law_number, defBody s__law_number, defScope s__law_number, [], []⟩
def dd__law_truth : He.DefD := ⟨("_law_truth", none), "_law_truth", "_law_truth", defArgs s__law_truth, defBody s__law_truth, defScope s__law_truth, [], []⟩
def dd__law_packet : He.DefD := ⟨("_law_packet", none), "_law_packet", "_law_packet", defArgs s__law_packet, defBody s__law_packet, defScope s__law_packet, [], []⟩
def dd_halved : He.DefD := ⟨("halved", none), "halved", "halved", defArgs s_halved, defBody s_halved, defScope s_halved, [], []⟩
def dd_doubled : He.DefD := ⟨("doubled", none), "doubled", "doubled", defArgs s_doubled, defBody s_doubled, defScope s_doubled, [], []⟩
def dd_reckoned : He.DefD := ⟨("reckoned", none), "reckoned", "reckoned", defArgs s_reckoned, defBody s_reckoned, defScope s_reckoned, [], []⟩
def dd_bytes_at : He.DefD := ⟨("bytes_at", none), "bytes_at", "bytes_at", defArgs s_bytes_at, defBody s_bytes_at, defScope s_bytes_at, [], []⟩
def dd_number_of : He.DefD := ⟨("number_of", none), "number_of", "number_of", defArgs s_number_of, defBody s_number_of, defScope s_number_of, [], []⟩
def dd_compared : He.DefD := ⟨("compared", none), "compared", "compared", defArgs s_compared, defBody s_compared, defScope s_compared, [], []⟩
def dd_truth_of : He.DefD := ⟨("truth_of", none), "truth_of", "truth_of", defArgs s_truth_of, defBody s_truth_of, defScope s_truth_of, [], []⟩
def dd_takes : He.DefD := ⟨("takes", none), "takes", "takes", defArgs s_takes, defBody s_takes, defScope s_takes, [], []⟩
def dd__law_reckoned : He.DefD := ⟨("_law_reckoned", none), "_law_reckoned", "_law_reckoned", defArgs s__law_reckoned, defBody s__law_reckoned, defScope s__law_reckoned, [], []⟩
def dd__law_bytes : He.DefD := ⟨("_law_bytes", none), "_law_bytes", "_law_bytes", defArgs s__law_bytes, defBody s__law_bytes, defScope s__law_bytes, [], []⟩
def dd__law_worth : He.DefD := ⟨("_law_worth", none), "_law_worth", "_law_worth", defArgs s__law_worth, defBody s__law_worth, defScope s__law_worth, [], []⟩
def dd__law_says : He.DefD := ⟨("_law_says", none), "_law_says", "_law_says", defArgs s__law_says, defBody s__law_says, defScope s__law_says, [], []⟩
def dd_law : He.DefD := ⟨("law", none), "law", "law", defArgs s_law, defBody s_law, defScope s_law, [], []⟩
def fnL : List He.DefD := [dd__law_cell, dd__law_mix, dd__law_op, dd__law_number, dd__law_truth, dd__law_packet, dd_halved, dd_doubled, dd_reckoned, dd_bytes_at, dd_number_of, dd_compared, dd_truth_of, dd_takes, dd__law_reckoned, dd__law_bytes, dd__law_worth, dd__law_says, dd_law]
def faL : List He.Fa := [.glo "_law_cell", .glo "_law_mix", .glo "_law_op", .glo "_law_number", .glo "_law_truth", .glo "_law_packet", .glo "halved", .glo "doubled", .glo "reckoned", .glo "bytes_at", .glo "number_of", .glo "compared", .glo "truth_of", .glo "takes", .glo "_law_reckoned", .glo "_law_bytes", .glo "_law_worth", .glo "_law_says", .glo "law", .free "bool", .free "int", .free "isinstance", .free "len", .free "list", .free "min", .free "range", .free "sum", .int "ROUND" 4294967296]
def exB (K : PySem.W.Frag) : Bool := true
abbrev R0 : PySem.W.OpenRow := PySem.W.OpenLaw.row PySem.Challenge.rw_netsieve_k13_packets_taken
abbrev hkX : PySem.W.Hook := He.hookX 5 faL fnL [] [] exB
def obX (s : PySem.W.SharedT) : He.AlX := He.obsX 5 faL fnL [] [] exB (HandSHeadRun.getT s)
theorem obX_eq (s : PySem.W.SharedT) : obX s = hkX.obs s.abs := He.obsX_eq (HandSHeadRun.getT_eq s)
abbrev looseL : List Str := (["ROUND", "doubled", "halved", "reckoned", "bytes_at", "number_of", "compared", "truth_of", "takes", "_law_cell", "_law_mix", "_law_whole", "_law_wholes", "_law_k", "_law_op", "_law_step", "_law_code", "_law_packet", "_law_reckoned", "_law_bytes", "_law_number", "_law_truth", "_law_sign", "_law_told", "_law_inner", "_law_worth", "_law_says"] : List Str)
theorem runX (w : World) : HandSHeadRun.RunEq R0 (PySem.W.view R0.prog [30]) hkX obX 1000 looseL w := by
  intro os
  kernel_rfl
theorem txt_of {w : World} {K : PySem.W.Frag} {h : Heap} {mg : Str → Option Value} (X : K.In h) (N : h.Ns mainGlobals mg) (c : He.SaysX faL fnL [] [] exB w h K) : ∃ T : Txt ⟨K, fun _ => 0⟩ mg, mg "law" = some (.ref T.f_law) ∧ ∀ (s : Shared) (v : Value), BindsTo s T.d_law ⟨[v], []⟩ [("_law_script", v)] := by
  have cd : He.SaysD faL fnL K := c.t.d
  obtain ⟨d0, F0⟩ := cd.def_ 0 (d := dd__law_cell) rfl
  obtain ⟨d1, F1⟩ := cd.def_ 1 (d := dd__law_mix) rfl
  obtain ⟨d2, F2⟩ := cd.def_ 2 (d := dd__law_op) rfl
  obtain ⟨d3, F3⟩ := cd.def_ 3 (d := dd__law_number) rfl
  obtain ⟨d4, F4⟩ := cd.def_ 4 (d := dd__law_truth) rfl
  obtain ⟨d5, F5⟩ := cd.def_ 5 (d := dd__law_packet) rfl
  obtain ⟨d6, F6⟩ := cd.def_ 6 (d := dd_halved) rfl
  obtain ⟨d7, F7⟩ := cd.def_ 7 (d := dd_doubled) rfl
  obtain ⟨d8, F8⟩ := cd.def_ 8 (d := dd_reckoned) rfl
  obtain ⟨d9, F9⟩ := cd.def_ 9 (d := dd_bytes_at) rfl
  obtain ⟨d10, F10⟩ := cd.def_ 10 (d := dd_number_of) rfl
  obtain ⟨d11, F11⟩ := cd.def_ 11 (d := dd_compared) rfl
  obtain ⟨d12, F12⟩ := cd.def_ 12 (d := dd_truth_of) rfl
  obtain ⟨d13, F13⟩ := cd.def_ 13 (d := dd_takes) rfl
  obtain ⟨d14, F14⟩ := cd.def_ 14 (d := dd__law_reckoned) rfl
  obtain ⟨d15, F15⟩ := cd.def_ 15 (d := dd__law_bytes) rfl
  obtain ⟨d16, F16⟩ := cd.def_ 16 (d := dd__law_worth) rfl
  obtain ⟨d17, F17⟩ := cd.def_ 17 (d := dd__law_says) rfl
  obtain ⟨d18, F18⟩ := cd.def_ 18 (d := dd_law) rfl
  refine ⟨⟨_, d0, F0, He.glo_ok X N (cd.fact 0 (f := .glo "_law_cell") rfl), FunD.bindsN (ps := ["_law_script", "_law_k_here"]) F0 fun _ _ _ _ _ _ us hl => match us, hl with | [_, _], _ => rfl,
    _, d1, F1, He.glo_ok X N (cd.fact 1 (f := .glo "_law_mix") rfl), FunD.bindsN (ps := ["_law_script", "_law_k_here"]) F1 fun _ _ _ _ _ _ us hl => match us, hl with | [_, _], _ => rfl,
    _, d2, F2, He.glo_ok X N (cd.fact 2 (f := .glo "_law_op") rfl), FunD.bindsN (ps := ["_law_number_here"]) F2 fun _ _ _ _ _ _ us hl => match us, hl with | [_], _ => rfl,
    _, d3, F3, He.glo_ok X N (cd.fact 3 (f := .glo "_law_number") rfl), FunD.bindsN (ps := ["_law_script", "_law_base", "_law_deep"]) F3 fun _ _ _ _ _ _ us hl => match us, hl with | [_, _, _], _ => rfl,
    _, d4, F4, He.glo_ok X N (cd.fact 4 (f := .glo "_law_truth") rfl), FunD.bindsN (ps := ["_law_script", "_law_base", "_law_deep"]) F4 fun _ _ _ _ _ _ us hl => match us, hl with | [_, _, _], _ => rfl,
    _, d5, F5, He.glo_ok X N (cd.fact 5 (f := .glo "_law_packet") rfl), FunD.bindsN (ps := ["_law_script", "_law_base"]) F5 fun _ _ _ _ _ _ us hl => match us, hl with | [_, _], _ => rfl,
    _, d6, F6, He.glo_ok X N (cd.fact 6 (f := .glo "halved") rfl), FunD.bindsN (ps := ["number", "times"]) F6 fun _ _ _ _ _ _ us hl => match us, hl with | [_, _], _ => rfl,
    _, d7, F7, He.glo_ok X N (cd.fact 7 (f := .glo "doubled") rfl), FunD.bindsN (ps := ["number", "times"]) F7 fun _ _ _ _ _ _ us hl => match us, hl with | [_, _], _ => rfl,
    _, d8, F8, He.glo_ok X N (cd.fact 8 (f := .glo "reckoned") rfl), FunD.bindsN (ps := ["op", "one", "other"]) F8 fun _ _ _ _ _ _ us hl => match us, hl with | [_, _, _], _ => rfl,
    _, d9, F9, He.glo_ok X N (cd.fact 9 (f := .glo "bytes_at") rfl), FunD.bindsN (ps := ["packet", "at", "size"]) F9 fun _ _ _ _ _ _ us hl => match us, hl with | [_, _, _], _ => rfl,
    _, d10, F10, He.glo_ok X N (cd.fact 10 (f := .glo "number_of") rfl), FunD.bindsN (ps := ["tree", "packet"]) F10 fun _ _ _ _ _ _ us hl => match us, hl with | [_, _], _ => rfl,
    _, d11, F11, He.glo_ok X N (cd.fact 11 (f := .glo "compared") rfl), FunD.bindsN (ps := ["test", "one", "other"]) F11 fun _ _ _ _ _ _ us hl => match us, hl with | [_, _, _], _ => rfl,
    _, d12, F12, He.glo_ok X N (cd.fact 12 (f := .glo "truth_of") rfl), FunD.bindsN (ps := ["tree", "packet"]) F12 fun _ _ _ _ _ _ us hl => match us, hl with | [_, _], _ => rfl,
    _, d13, F13, He.glo_ok X N (cd.fact 13 (f := .glo "takes") rfl), FunD.bindsN (ps := ["tree", "packet"]) F13 fun _ _ _ _ _ _ us hl => match us, hl with | [_, _], _ => rfl,
    _, d14, F14, He.glo_ok X N (cd.fact 14 (f := .glo "_law_reckoned") rfl), FunD.bindsN (ps := ["_law_op_here", "_law_one", "_law_other"]) F14 fun _ _ _ _ _ _ us hl => match us, hl with | [_, _, _], _ => rfl,
    _, d15, F15, He.glo_ok X N (cd.fact 15 (f := .glo "_law_bytes") rfl), FunD.bindsN (ps := ["_law_packet_here", "_law_at", "_law_size"]) F15 fun _ _ _ _ _ _ us hl => match us, hl with | [_, _, _], _ => rfl,
    _, d16, F16, He.glo_ok X N (cd.fact 16 (f := .glo "_law_worth") rfl), FunD.bindsN (ps := ["_law_tree", "_law_packet_here"]) F16 fun _ _ _ _ _ _ us hl => match us, hl with | [_, _], _ => rfl,
    _, d17, F17, He.glo_ok X N (cd.fact 17 (f := .glo "_law_says") rfl), FunD.bindsN (ps := ["_law_tree", "_law_packet_here"]) F17 fun _ _ _ _ _ _ us hl => match us, hl with | [_, _], _ => rfl,
    _, d18, F18,
    He.free_ok X N (cd.fact 19 (f := .free "bool") rfl),
    He.free_ok X N (cd.fact 20 (f := .free "int") rfl),
    He.free_ok X N (cd.fact 21 (f := .free "isinstance") rfl),
    He.free_ok X N (cd.fact 22 (f := .free "len") rfl),
    He.free_ok X N (cd.fact 23 (f := .free "list") rfl),
    He.free_ok X N (cd.fact 24 (f := .free "min") rfl),
    He.free_ok X N (cd.fact 25 (f := .free "range") rfl),
    He.free_ok X N (cd.fact 26 (f := .free "sum") rfl),
    He.int_ok X N (cd.fact 27 (f := .int "ROUND" 4294967296) rfl)⟩, He.glo_ok X N (cd.fact 18 (f := .glo "law") rfl), fun s v => ?_⟩
  exact FunD.bindsA (ps := ["_law_script"]) F18 (fun _ _ _ _ _ _ us hl => match us, hl with | [_], _ => rfl) s [v] rfl
end KL
namespace KL
open PySem PySem.W PySem.Calls PyProof.Rows L2 NS
theorem final (hlaw : ∀ ns : List Int, ns.length ≤ 63 → m_law [.scr ns] = .ok (.bl true)) : PySem.Challenge.rw_netsieve_k13_packets_taken.Holds := by
  w_on; o_law
  refine HandSHeadRun.head_any (r := R0) (q := PySem.W.view R0.prog [30]) (H := hkX) (ob := obX) (M := 1000) (loose := looseL) (d := HandSHeadRun.topDef R0.prog 30) (kwd := []) obX_eq
    (by kernel_rfl) (fun s => by kernel_rfl) runX (by kernel_rfl) (by kernel_rfl) (by kernel_rfl) (by rfl) (by first | assumption | decide +kernel) (by decide +kernel) ⟨rfl, rfl, rfl, rfl, rfl, by decide +kernel⟩ ?hw ?hc
  case hw => w_witness2
  case hc =>
    refine NS.walk_ofEW (l := PySem.Challenge.rw_netsieve_k13_packets_taken) (n := 63) (k := 18) (x := "_law_script") (CX := fun w => L2.CX P0 w) rfl (by decide) (by kernel_rfl) ⟨rfl, by decide, by decide⟩ ?F (fun w H s e s' z => by
      obtain ⟨_, _, _, _, _, _, _, _, _, _, _, _, z⟩ := z
      exact z.elim)
    intro w mg fa h Y N hmg0
    obtain ⟨K, KX, c⟩ := Y
    have hmg : mg ("law" : PySem.Str) = some (.ref fa) := by
      have e : (HandSHeadRun.topDef R0.prog 30).name = ("law" : PySem.Str) := by kernel_rfl
      rw [← e]
      exact hmg0
    obtain ⟨T, g, hb⟩ := txt_of KX N c
    have e := hmg.symm.trans g
    cases e
    exact ⟨K, T.d_law, SpP ⟨K, fun _ => 0⟩ m_law, KX, hb, fun H a ns hl hO hS => law_sp hS (hlaw ns hl), fun base _ _ => ok_law T⟩
end KL

theorem PySem.Challenge.cw_netsieve_k13_packets_taken_holds : PySem.Challenge.rw_netsieve_k13_packets_taken.Holds := by
  exact KL.final fun ns hl => KL.math ns hl
