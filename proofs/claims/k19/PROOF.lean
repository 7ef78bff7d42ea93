import PyProof.Rows.All
import Wide.All
import OpenK.AllK
import Wide.FinOn
import HandS.ForMost
import HandS.ForExc
import HandS.Zip
import HandS.TupAny
import HandS.Walk
import HandS.TupLe
import HandS.SortInts
import HandS.Conv
import HandS.More
import HandS.SetFor
import HandS.WordsDict
import HandS.TupLen
import HandS.RevTup
import HandS.Rev
import HandS.IsInst
import KE.KTupSum
import KE.DatumOrd
import HandS.EndBits
import HandS.Small
import KE.GoesMore
import PyProof.EnumMake
import KE.KRevIter
import PyProof.CollectWalk
import PyProof.SumWalkG
import HandS.Strs
import KE.KEqSeq
import PySem.Challenge.RW_lamprota_k19_sides
set_option Elab.async false
set_option linter.all false
set_option maxRecDepth 100000
set_option maxHeartbeats 2000000
/-! ### the data of the programs, as trees; a store of things that change -/
namespace LP
open PySem PySem.Spec L2
set_option autoImplicit false

/-- a value: tup, lst, dk, dt stand for themselves (nobody changes them); loc: a thing of the store -/
inductive D where
  | non | bl (b : Bool) | int (i : Int) | str (x : Str)
  | tup (xs : List D) | lst (xs : List D) | dk (kvs : List (Key × D)) | dt (kvs : List (List Key × D)) | loc (n : Nat)

inductive MO where
  | lst (xs : List D) | dk (kvs : List (Key × D)) | dt (kvs : List (List Key × D)) | ro (xs : List D) | ins (C : Str) (fs : List (Str × D))

abbrev Store := List MO
/-- an exception: its class, its row -/
structure Exn where
  cls : Str
  row : Option D

inductive R (α : Type) where
  | ok (a : α) (S : Store) | ex (x : Exn) (S : Store) | bad

def M (α : Type) := Store → R α
def M.ret {α : Type} (a : α) : M α := fun S => .ok a S
def M.fail {α : Type} : M α := fun _ => .bad
def M.raise {α : Type} (x : Exn) : M α := fun S => .ex x S
def M.bind {α β : Type} (f : M α) (g : α → M β) : M β := fun S => match f S with
  | .ok a S' => g a S'
  | .ex x S' => .ex x S'
  | .bad => .bad
instance : Monad M where
  pure := M.ret
  bind := M.bind
open Classical in
/-- go on where p holds -/
noncomputable def M.want {α : Type} (p : Prop) (f : M α) : M α := fun S => if p then f S else .bad

abbrev DEnv := List (Option D)

/-! ### how data lie in the heap -/
/-- where the store's things stand (l), and what else is not to be met (x: lists that are being made) -/
structure Mp where
  l : List Addr
  x : List Addr
structure Mp.out (m : Mp) (a : Addr) : Prop where
  l : a ∉ m.l
  x : a ∉ m.x
def Mp.push (m : Mp) (a : Addr) : Mp := ⟨m.l ++ [a], m.x⟩
/-- a is being made -/
def Mp.hide (m : Mp) (a : Addr) : Mp := ⟨m.l, a :: m.x⟩
section
variable (m : Mp) (H : Hp)
mutual
inductive Rep : D → V → Prop
  | non : Rep .non .non
  | bl {b} : Rep (.bl b) (.bl b)
  | int {i} : Rep (.int i) (.int i)
  | str {x} : Rep (.str x) (.str x)
  | tup {a xs vs} : H a = some (.tup vs) → vs.length ≤ sizeLine → Reps xs vs → Rep (.tup xs) (.ref a)
  | lst {a xs vs} : H a = some (.lst vs) → m.out a → vs.length ≤ sizeLine → Reps xs vs → Rep (.lst xs) (.ref a)
  | dk {a kvs ws} : H a = some (.dK ws) → m.out a → KReps kvs ws → Rep (.dk kvs) (.ref a)
  | dt {a kvs ws} : H a = some (.dT ws) → m.out a → TReps kvs ws → Rep (.dt kvs) (.ref a)
  | loc {n a} : m.l[n]? = some a → Rep (.loc n) (.ref a)
inductive Reps : List D → List V → Prop
  | nil : Reps [] []
  | cons {x xs v vs} : Rep x v → Reps xs vs → Reps (x :: xs) (v :: vs)
inductive KReps : List (Key × D) → List (Key × V) → Prop
  | nil : KReps [] []
  | cons {k x xs v vs} : Rep x v → KReps xs vs → KReps ((k, x) :: xs) ((k, v) :: vs)
inductive TReps : List (List Key × D) → List (List Key × V) → Prop
  | nil : TReps [] []
  | cons {k x xs v vs} : Rep x v → TReps xs vs → TReps ((k, x) :: xs) ((k, v) :: vs)
end
end

/-- from one heap to a later one -/
structure Ext (m : Mp) (H : Hp) (m' : Mp) (H' : Hp) : Prop where
  pre : m.l <+: m'.l
  xsub : ∀ a, a ∈ m.x → a ∈ m'.x
  xnew : ∀ a, a ∈ m'.x → a ∉ m.x → H a = none
  frame : ∀ a o, a ∉ m.l → H a = some o → H' a = some o
  new : ∀ a, a ∈ m'.l → a ∉ m.l → H a = none
  frz : ∀ a o u, H a = some (.frz o u) → H' a = some (.frz o u)
  tup : ∀ a xs, H a = some (.tup xs) → H' a = some (.tup xs)
  dom : ∀ a, H' a = none → H a = none

section
variable {m m' m2 : Mp} {H H' H2 : Hp}
theorem Ext.refl (m : Mp) (H : Hp) : Ext m H m H := ⟨List.prefix_refl _, fun _ h => h, fun _ h n => absurd h n, fun _ _ _ h => h, fun _ h n => absurd h n, fun _ _ _ h => h, fun _ _ h => h, fun _ h => h⟩
theorem Ext.outl (e : Ext m H m' H') {a : Addr} {o : HO} (n : a ∉ m.l) (h : H a = some o) : a ∉ m'.l := fun q => by
  rw [e.new a q n] at h; cases h
theorem Ext.out (e : Ext m H m' H') {a : Addr} {o : HO} (n : m.out a) (h : H a = some o) : m'.out a := ⟨e.outl n.l h, fun q => by
  rw [e.xnew a q n.x] at h; cases h⟩
theorem Ext.trans (e : Ext m H m' H') (f : Ext m' H' m2 H2) : Ext m H m2 H2 where
  pre := e.pre.trans f.pre
  xsub := fun a h => f.xsub a (e.xsub a h)
  xnew := fun a q n => by
    by_cases h : a ∈ m'.x
    · exact e.xnew a h n
    · exact e.dom a (f.xnew a q h)
  frame := fun a o n h => f.frame a o (e.outl n h) (e.frame a o n h)
  new := fun a q n => by
    by_cases h : a ∈ m'.l
    · exact e.new a h n
    · exact e.dom a (f.new a q h)
  frz := fun a o u h => f.frz a o u (e.frz a o u h)
  tup := fun a xs h => f.tup a xs (e.tup a xs h)
  dom := fun a h => e.dom a (f.dom a h)
theorem Ext.get (e : Ext m H m' H') {n : Nat} {a : Addr} (h : m.l[n]? = some a) : m'.l[n]? = some a := by
  obtain ⟨t, ht⟩ := e.pre
  rw [← ht, List.getElem?_append_left (List.getElem?_eq_some_iff.mp h).1]
  exact h

/-- what data lean on -/
structure Mn (m : Mp) (H : Hp) (m' : Mp) (H' : Hp) : Prop where
  get : ∀ (n : Nat) (a : Addr), m.l[n]? = some a → m'.l[n]? = some a
  tup : ∀ a xs, H a = some (.tup xs) → H' a = some (.tup xs)
  keep : ∀ a o, m.out a → H a = some o → H' a = some o ∧ m'.out a
theorem Ext.mn (e : Ext m H m' H') : Mn m H m' H' := ⟨fun _ _ h => e.get h, e.tup, fun a o n h => ⟨e.frame a o n.l h, e.out n h⟩⟩
mutual
theorem Rep.mn (e : Mn m H m' H') : ∀ {d : D} {v : V}, Rep m H d v → Rep m' H' d v
  | _, _, .non => .non
  | _, _, .bl => .bl
  | _, _, .int => .int
  | _, _, .str => .str
  | _, _, .tup h z r => .tup (e.tup _ _ h) z (r.mn e)
  | _, _, .lst h n z r => .lst (e.keep _ _ n h).1 (e.keep _ _ n h).2 z (r.mn e)
  | _, _, .dk h n r => .dk (e.keep _ _ n h).1 (e.keep _ _ n h).2 (r.mn e)
  | _, _, .dt h n r => .dt (e.keep _ _ n h).1 (e.keep _ _ n h).2 (r.mn e)
  | _, _, .loc h => .loc (e.get _ _ h)
theorem Reps.mn (e : Mn m H m' H') : ∀ {d : List D} {v : List V}, Reps m H d v → Reps m' H' d v
  | _, _, .nil => .nil
  | _, _, .cons a b => .cons (a.mn e) (b.mn e)
theorem KReps.mn (e : Mn m H m' H') : ∀ {d : List (Key × D)} {v : List (Key × V)}, KReps m H d v → KReps m' H' d v
  | _, _, .nil => .nil
  | _, _, .cons a b => .cons (a.mn e) (b.mn e)
theorem TReps.mn (e : Mn m H m' H') : ∀ {d : List (List Key × D)} {v : List (List Key × V)}, TReps m H d v → TReps m' H' d v
  | _, _, .nil => .nil
  | _, _, .cons a b => .cons (a.mn e) (b.mn e)
end
theorem Rep.mono (e : Ext m H m' H') {d : D} {v : V} (r : Rep m H d v) : Rep m' H' d v := r.mn e.mn
theorem Reps.mono (e : Ext m H m' H') {d : List D} {v : List V} (r : Reps m H d v) : Reps m' H' d v := r.mn e.mn
theorem KReps.mono (e : Ext m H m' H') {d : List (Key × D)} {v : List (Key × V)} (r : KReps m H d v) : KReps m' H' d v := r.mn e.mn
theorem TReps.mono (e : Ext m H m' H') {d : List (List Key × D)} {v : List (List Key × V)} (r : TReps m H d v) : TReps m' H' d v := r.mn e.mn

theorem Reps.length : ∀ {d : List D} {v : List V}, Reps m H d v → d.length = v.length
  | _, _, .nil => rfl
  | _, _, .cons a b => by simp [Reps.length b]
theorem Reps.get : ∀ {ds : List D} {vs : List V}, Reps m H ds vs → ∀ {i : Nat} {d : D}, ds[i]? = some d → ∃ v, vs[i]? = some v ∧ Rep m H d v
  | _, _, .nil, _, _, h => by simp at h
  | _, _, .cons a b, 0, _, h => by
    have := Option.some.inj h
    subst this
    exact ⟨_, rfl, a⟩
  | _, _, .cons a b, i + 1, _, h => by
    obtain ⟨v, h1, h2⟩ := Reps.get b (i := i) (by simpa using h)
    exact ⟨v, by simpa using h1, h2⟩
theorem Reps.getV : ∀ {ds : List D} {vs : List V}, Reps m H ds vs → ∀ {i : Nat} {v : V}, vs[i]? = some v → ∃ d, ds[i]? = some d ∧ Rep m H d v
  | _, _, .nil, _, _, h => by simp at h
  | _, _, .cons a b, 0, _, h => by
    have := Option.some.inj h
    subst this
    exact ⟨_, rfl, a⟩
  | _, _, .cons a b, i + 1, _, h => by
    obtain ⟨v, h1, h2⟩ := Reps.getV b (i := i) (by simpa using h)
    exact ⟨v, by simpa using h1, h2⟩
theorem Reps.append : ∀ {ds es : List D} {vs ws : List V}, Reps m H ds vs → Reps m H es ws → Reps m H (ds ++ es) (vs ++ ws)
  | _, _, _, _, .nil, s => s
  | _, _, _, _, .cons a b, s => .cons a (Reps.append b s)
theorem Reps.take : ∀ {ds : List D} {vs : List V} (n : Nat), Reps m H ds vs → Reps m H (ds.take n) (vs.take n)
  | _, _, 0, _ => .nil
  | _, _, _ + 1, .nil => .nil
  | _, _, n + 1, .cons a b => .cons a (Reps.take n b)
theorem Reps.drop : ∀ {ds : List D} {vs : List V} (n : Nat), Reps m H ds vs → Reps m H (ds.drop n) (vs.drop n)
  | _, _, 0, r => r
  | _, _, _ + 1, .nil => .nil
  | _, _, n + 1, .cons a b => Reps.drop n b
theorem Reps.set {d : D} {v : V} (r : Rep m H d v) : ∀ {ds : List D} {vs : List V} (n : Nat), Reps m H ds vs → Reps m H (ds.set n d) (vs.set n v)
  | _, _, _, .nil => .nil
  | _, _, 0, .cons a b => .cons r b
  | _, _, n + 1, .cons a b => .cons a (Reps.set r n b)
theorem Reps.eraseIdx : ∀ {ds : List D} {vs : List V} (n : Nat), Reps m H ds vs → Reps m H (ds.eraseIdx n) (vs.eraseIdx n)
  | _, _, _, .nil => .nil
  | _, _, 0, .cons a b => b
  | _, _, n + 1, .cons a b => .cons a (Reps.eraseIdx n b)
theorem Reps.reverse : ∀ {ds : List D} {vs : List V}, Reps m H ds vs → Reps m H ds.reverse vs.reverse
  | _, _, .nil => .nil
  | _, _, .cons a b => by
    rw [List.reverse_cons, List.reverse_cons]
    exact b.reverse.append (.cons a .nil)
theorem Reps.dropLast : ∀ {ds : List D} {vs : List V}, Reps m H ds vs → Reps m H ds.dropLast vs.dropLast
  | _, _, .nil => .nil
  | _, _, .cons a .nil => .nil
  | _, _, .cons a (.cons b c) => .cons a (Reps.dropLast (.cons b c))
theorem Reps.ints : ∀ {ns : List Int} {vs : List V}, Reps m H (ns.map D.int) vs → vs = ns.map V.int
  | [], _, .nil => rfl
  | n :: ns, _, .cons a b => by
    cases a
    rw [Reps.ints b]
    rfl
theorem Reps.of_ints : ∀ (ns : List Int), Reps m H (ns.map D.int) (ns.map V.int)
  | [] => .nil
  | n :: ns => .cons .int (Reps.of_ints ns)
theorem Reps.strs : ∀ {ns : List Str} {vs : List V}, Reps m H (ns.map D.str) vs → vs = ns.map V.str
  | [], _, .nil => rfl
  | n :: ns, _, .cons a b => by
    cases a
    rw [Reps.strs b]
    rfl
theorem Reps.of_strs : ∀ (ns : List Str), Reps m H (ns.map D.str) (ns.map V.str)
  | [] => .nil
  | n :: ns => .cons .str (Reps.of_strs ns)
theorem Reps.replicate {d : D} {v : V} (r : Rep m H d v) : ∀ n : Nat, Reps m H (List.replicate n d) (List.replicate n v)
  | 0 => .nil
  | n + 1 => .cons r (Reps.replicate r n)
theorem Reps.flatten_replicate {ds : List D} {vs : List V} (r : Reps m H ds vs) : ∀ n : Nat, Reps m H (List.replicate n ds).flatten (List.replicate n vs).flatten
  | 0 => .nil
  | n + 1 => by
    rw [List.replicate_succ, List.replicate_succ, List.flatten_cons, List.flatten_cons]
    exact r.append (Reps.flatten_replicate r n)
end

/-! ### the store -/
/-- C: where each class stands -/
def MRep (cl : Str → Option Addr) (m : Mp) (H : Hp) : MO → Addr → Prop
  | .lst xs, a => ∃ vs, H a = some (.lst vs) ∧ vs.length ≤ sizeLine ∧ Reps m H xs vs
  | .dk kvs, a => ∃ ws, H a = some (.dK ws) ∧ KReps m H kvs ws
  | .dt kvs, a => ∃ ws, H a = some (.dT ws) ∧ TReps m H kvs ws
  | .ro xs, a => ∃ o vs, H a = some (.frz o (.lst vs)) ∧ vs.length ≤ sizeLine ∧ Reps m H xs vs
  | .ins c fs, a => ∃ C dx ws, cl c = some C ∧ H a = some (.ins C dx ws) ∧ fs.map (·.1) = ws.map (·.1) ∧ Reps m H (fs.map (·.2)) (ws.map (·.2))

structure SimS (cl : Str → Option Addr) (m : Mp) (S : Store) (H : Hp) : Prop where
  len : m.l.length = S.length
  nd : m.l.Nodup
  xs : ∀ a, a ∈ m.x → H a ≠ none
  obj : ∀ (n : Nat) (o : MO) (a : Addr), S[n]? = some o → m.l[n]? = some a → MRep cl m H o a

section
variable {cl : Str → Option Addr} {m m' : Mp} {H H' : Hp} {S : Store} {o : MO} {a : Addr}
theorem MRep.mn (e : Mn m H m' H') (h : H' a = H a) (r : MRep cl m H o a) : MRep cl m' H' o a := by
  cases o with
  | lst xs => obtain ⟨vs, h1, z, h2⟩ := r; exact ⟨vs, h.trans h1, z, h2.mn e⟩
  | dk kvs => obtain ⟨vs, h1, h2⟩ := r; exact ⟨vs, h.trans h1, h2.mn e⟩
  | dt kvs => obtain ⟨vs, h1, h2⟩ := r; exact ⟨vs, h.trans h1, h2.mn e⟩
  | ro xs => obtain ⟨o, vs, h1, z, h2⟩ := r; exact ⟨o, vs, h.trans h1, z, h2.mn e⟩
  | ins c fs => obtain ⟨C, dx, ws, h0, h1, h2, h3⟩ := r; exact ⟨C, dx, ws, h0, h.trans h1, h2, h3.mn e⟩
theorem MRep.mono (e : Ext m H m' H') (h : H' a = H a) (r : MRep cl m H o a) : MRep cl m' H' o a := r.mn e.mn h
theorem MRep.some (r : MRep cl m H o a) : ∃ u, H a = some u := by
  cases o with
  | lst xs => obtain ⟨vs, h1, z, h2⟩ := r; exact ⟨_, h1⟩
  | dk kvs => obtain ⟨vs, h1, h2⟩ := r; exact ⟨_, h1⟩
  | dt kvs => obtain ⟨vs, h1, h2⟩ := r; exact ⟨_, h1⟩
  | ro xs => obtain ⟨o, vs, h1, z, h2⟩ := r; exact ⟨_, h1⟩
  | ins c fs => obtain ⟨C, dx, ws, h0, h1, h2, h3⟩ := r; exact ⟨_, h1⟩
theorem SimS.at {n : Nat} (s : SimS cl m S H) (h : S[n]? = some o) : ∃ a, m.l[n]? = some a ∧ MRep cl m H o a := by
  have hn : n < m.l.length := by rw [s.len]; exact (List.getElem?_eq_some_iff.mp h).1
  exact ⟨m.l[n], List.getElem?_eq_getElem hn, s.obj n o _ h (List.getElem?_eq_getElem hn)⟩
theorem SimS.in {n : Nat} (s : SimS cl m S H) (h : m.l[n]? = some a) : ∃ o, S[n]? = some o ∧ MRep cl m H o a := by
  have hn : n < S.length := by rw [← s.len]; exact (List.getElem?_eq_some_iff.mp h).1
  exact ⟨S[n], List.getElem?_eq_getElem hn, s.obj n _ _ (List.getElem?_eq_getElem hn) h⟩
/-- what is not in m: a new object's place -/
theorem SimS.free (s : SimS cl m S H) {p : Addr} (h : H p = none) : m.out p := by
  refine ⟨fun q => ?_, fun q => s.xs p q h⟩
  obtain ⟨n, hn, e⟩ := List.getElem_of_mem q
  obtain ⟨o, _, r⟩ := s.in (n := n) (a := p) (by rw [List.getElem?_eq_getElem hn, e])
  obtain ⟨u, hu⟩ := r.some
  rw [hu] at h
  cases h

/-- a new object that the store does not hold -/
theorem Ext.tmp {p : Addr} {w : HO} (h : H p = none) : Ext m H m (upd H p w) where
  pre := List.prefix_refl _
  xsub := fun _ h => h
  xnew := fun _ h n => absurd h n
  frame := fun a o _ e => by rw [upd_ne (ne_of_none e h)]; exact e
  new := fun a q n => absurd q n
  frz := fun a o u e => by rw [upd_ne (ne_of_none e h)]; exact e
  tup := fun a xs e => by rw [upd_ne (ne_of_none e h)]; exact e
  dom := fun a e => by
    by_cases q : a = p
    · subst q; exact h
    · rw [upd_ne q] at e; exact e
theorem SimS.tmp (s : SimS cl m S H) {p : Addr} {w : HO} (h : H p = none) : SimS cl m S (upd H p w) where
  len := s.len
  nd := s.nd
  xs := fun a q e => s.xs a q ((Ext.tmp (m := m) h).dom a e)
  obj := fun n o a e1 e2 => by
    have r := s.obj n o a e1 e2
    obtain ⟨u, hu⟩ := r.some
    exact r.mono (Ext.tmp h) (upd_ne (ne_of_none hu h))
/-- .. that it holds -/
theorem Ext.laid {p : Addr} {w : HO} (h : H p = none) : Ext m H (m.push p) (upd H p w) where
  pre := List.prefix_append _ _
  xsub := fun _ h => h
  xnew := fun _ h n => absurd h n
  frame := fun a o _ e => by rw [upd_ne (ne_of_none e h)]; exact e
  new := fun a q n => by
    rcases List.mem_append.mp q with q | q
    · exact absurd q n
    · have : a = p := by simpa using q
      subst this; exact h
  frz := fun a o u e => by rw [upd_ne (ne_of_none e h)]; exact e
  tup := fun a xs e => by rw [upd_ne (ne_of_none e h)]; exact e
  dom := fun a e => by
    by_cases q : a = p
    · subst q; exact h
    · rw [upd_ne q] at e; exact e
theorem SimS.laid (s : SimS cl m S H) {p : Addr} {w : HO} (h : H p = none) (r : MRep cl (m.push p) (upd H p w) o p) : SimS cl (m.push p) (S ++ [o]) (upd H p w) where
  len := by simp [Mp.push, s.len]
  nd := List.nodup_append.mpr ⟨s.nd, by simp, fun a ha b hb e => by
    have : b = p := by simpa using hb
    subst this; subst e
    exact (s.free h).l ha⟩
  xs := fun a q e => s.xs a q ((Ext.tmp (m := m) h).dom a e)
  obj := fun n o' a e1 e2 => by
    have e2 : (m.l ++ [p])[n]? = some a := e2
    by_cases hn : n < S.length
    · rw [List.getElem?_append_left hn] at e1
      rw [List.getElem?_append_left (by rw [s.len]; exact hn)] at e2
      have r' := s.obj n o' a e1 e2
      obtain ⟨u, hu⟩ := r'.some
      exact r'.mono (Ext.laid h) (upd_ne (ne_of_none hu h))
    · have h1 := (List.getElem?_eq_some_iff.mp e1).1
      have : n = S.length := by simp at h1; omega
      subst this
      rw [List.getElem?_append_right (Nat.le_refl _)] at e1
      rw [List.getElem?_append_right (by rw [s.len]; exact Nat.le_refl _)] at e2
      simp [s.len] at e1 e2
      subst e1 e2
      exact r
/-- a thing of the store is changed -/
theorem Ext.put {n : Nat} {w : HO} (s : SimS cl m S H) (h : m.l[n]? = some a) (hf : ∀ o u, H a ≠ some (.frz o u)) (ht : ∀ xs, H a ≠ some (.tup xs)) : Ext m H m (upd H a w) where
  pre := List.prefix_refl _
  xsub := fun _ h => h
  xnew := fun _ h n => absurd h n
  frame := fun b o q e => by rw [upd_ne (fun z => q (by subst z; exact List.mem_of_getElem? h))]; exact e
  new := fun a q n => absurd q n
  frz := fun b o u e => by rw [upd_ne (fun z => hf o u (by subst z; exact e))]; exact e
  tup := fun b xs e => by rw [upd_ne (fun z => ht xs (by subst z; exact e))]; exact e
  dom := fun b e => by
    by_cases q : b = a
    · subst q; rw [upd_same] at e; cases e
    · rw [upd_ne q] at e; exact e
theorem nd_ne {l : List Addr} (hN : l.Nodup) {i j : Nat} {x y : Addr} (a : l[i]? = some x) (b : l[j]? = some y) (h : i ≠ j) : x ≠ y := fun e => h (by
  subst e
  exact L2.nd_ix hN a b)
theorem SimS.put {n : Nat} {w : HO} (s : SimS cl m S H) (h : m.l[n]? = some a) (e : Ext m H m (upd H a w)) (r : MRep cl m (upd H a w) o a) : SimS cl m (S.set n o) (upd H a w) where
  len := by simp [s.len]
  nd := s.nd
  xs := fun a q z => s.xs a q (e.dom a z)
  obj := fun k o' b e1 e2 => by
    by_cases hk : n = k
    · subst hk
      rw [List.getElem?_set_self (by rw [← s.len]; exact (List.getElem?_eq_some_iff.mp h).1)] at e1
      rw [h] at e2
      have q1 := Option.some.inj e1
      have q2 := Option.some.inj e2
      subst q1 q2
      exact r
    · rw [List.getElem?_set_ne hk] at e1
      exact (s.obj k o' b e1 e2).mono e (upd_ne (nd_ne s.nd e2 h (Ne.symm hk)))
end

/-! ### the frame's names -/
structure ERep (m : Mp) (H : Hp) (ρ : DEnv) (σ : L2.St) : Prop where
  len : ρ.length = σ.length
  get : ∀ (i : Nat) (d : D), ρ[i]? = some (some d) → ∃ v, σ[i]? = some (some v) ∧ Rep m H d v
section
variable {m m' : Mp} {H H' : Hp} {ρ : DEnv} {σ : L2.St}
theorem ERep.mn (r : ERep m H ρ σ) (e : Mn m H m' H') : ERep m' H' ρ σ := ⟨r.len, fun i d h => let ⟨v, a, b⟩ := r.get i d h; ⟨v, a, b.mn e⟩⟩
theorem ERep.mono (r : ERep m H ρ σ) (e : Ext m H m' H') : ERep m' H' ρ σ := ⟨r.len, fun i d h => let ⟨v, a, b⟩ := r.get i d h; ⟨v, a, b.mono e⟩⟩
theorem ERep.set (r : ERep m H ρ σ) {i : Nat} {d : D} {v : V} (q : Rep m H d v) : ERep m H (ρ.set i (some d)) (σ.set i (some v)) where
  len := by simp [r.len]
  get := fun j e h => by
    by_cases hj : i = j
    · subst hj
      have hi : i < ρ.length := by
        have := (List.getElem?_eq_some_iff.mp h).1
        simpa using this
      rw [List.getElem?_set_self hi] at h
      have := Option.some.inj (Option.some.inj h)
      subst this
      exact ⟨v, by rw [List.getElem?_set_self (by rw [← r.len]; exact hi)], q⟩
    · rw [List.getElem?_set_ne hj] at h
      rw [List.getElem?_set_ne hj]
      exact r.get j e h
/-- forgetting a name -/
theorem ERep.drop (r : ERep m H ρ σ) (i : Nat) : ERep m H (ρ.set i none) σ where
  len := by simp [r.len]
  get := fun j e h => by
    by_cases hj : i = j
    · subst hj
      by_cases hi : i < ρ.length
      · rw [List.getElem?_set_self hi] at h; cases h
      · rw [List.getElem?_eq_none (by simpa using hi)] at h; cases h
    · rw [List.getElem?_set_ne hj] at h
      exact r.get j e h
def dropE (ρ : DEnv) : List Nat → DEnv
  | [] => ρ
  | i :: is => dropE (ρ.set i none) is
theorem ERep.drops : ∀ {is : List Nat} {ρ : DEnv}, ERep m H ρ σ → ERep m H (dropE ρ is) σ
  | [], _, r => r
  | i :: is, _, r => (r.drop i).drops
end

/-! ### what a reading wants -/
/-- the row of an exception, in its own dict -/
def XRep (m : Mp) (H : Hp) (x : Exn) (d : Option Addr) : Prop := match x.row with
  | none => d = none
  | some r => ∃ dd v, d = some dd ∧ H dd = some (.xd [("row", v)]) ∧ Rep m H r v

structure Gx where
  cl : Str → Option Addr

/-- r has come out at the heap H (m: where the store stands): what is wanted behind it -/
def Cont {α β : Type} (g : Gx) (W : WX) (σ : L2.St) (P : Mp → Hp → α → β → Prop) (m : Mp) (H : Hp) (r : R α) (Q : β → Hp → Prop) : Prop :=
  match r with
  | .ok a S => ∀ b m' H', Ext m H m' H' → SimS g.cl m' S H' → P m' H' a b → Q b H'
  | .ex x S => ∀ C d m' H', g.cl x.cls = some C → Ext m H m' H' → SimS g.cl m' S H' → XRep m' H' x d → W (.ref C) d σ H'
  | .bad => False

section
variable {α β γ δ : Type} {g : Gx} {W : WX} {σ : L2.St} {P : Mp → Hp → α → β → Prop} {P' : Mp → Hp → γ → δ → Prop} {m m' : Mp} {H H' : Hp}
theorem Cont.mono {r : R α} {Q : β → Hp → Prop} (c : Cont g W σ P m H r Q) (e : Ext m H m' H') : Cont g W σ P m' H' r Q := by
  cases r with
  | ok a S => exact fun b m2 H2 e2 => c b m2 H2 (e.trans e2)
  | ex x S => exact fun C d m2 H2 h e2 => c C d m2 H2 h (e.trans e2)
  | bad => exact c
theorem Cont.imp {r : R α} {Q Q' : β → Hp → Prop} (c : Cont g W σ P m H r Q) (h : ∀ b H', Q b H' → Q' b H') : Cont g W σ P m H r Q' := by
  cases r with
  | ok a S => exact fun b m2 H2 e2 s r => h _ _ (c b m2 H2 e2 s r)
  | ex x S => exact c
  | bad => exact c
theorem Cont.bind {f : M α} {k : α → M γ} {S : Store} {Q : δ → Hp → Prop} (c : Cont g W σ P' m H ((f >>= k) S) Q) :
    Cont g W σ P m H (f S) fun b H1 => ∃ a S1 m1, Ext m H m1 H1 ∧ SimS g.cl m1 S1 H1 ∧ P m1 H1 a b ∧ Cont g W σ P' m1 H1 (k a S1) Q := by
  have c' : Cont g W σ P' m H (match f S with | .ok a S' => k a S' | .ex x S' => .ex x S' | .bad => .bad) Q := c
  cases h : f S with
  | ok a S1 =>
    rw [h] at c'
    exact fun b m1 H1 e s p => ⟨a, S1, m1, e, s, p, c'.mono e⟩
  | ex x S1 => rw [h] at c'; exact c'
  | bad => rw [h] at c'; exact c'.elim
theorem Cont.want {p : Prop} {f : M α} {S : Store} {Q : β → Hp → Prop} (c : Cont g W σ P m H (M.want p f S) Q) : p ∧ Cont g W σ P m H (f S) Q := by
  unfold M.want at c
  split at c
  · exact ⟨by assumption, c⟩
  · exact c.elim
end

/-- the reading of what f tells of the names and the store -/
def Tr {α β : Type} (g : Gx) (W : WX) (P : Mp → Hp → α → β → Prop) (f : DEnv → M α) : L2.St → Hp → (β → Hp → Prop) → Prop :=
  fun σ H Q => ∃ ρ S m, ERep m H ρ σ ∧ SimS g.cl m S H ∧ Cont g W σ P m H (f ρ S) Q
abbrev TrE (g : Gx) (W : WX) (f : DEnv → M D) : TE := Tr g W (fun m H => Rep m H) f
abbrev TrT (g : Gx) (W : WX) (f : DEnv → M Bool) : TT := Tr g W (fun _ _ a b => a = b) f
abbrev TrA (g : Gx) (W : WX) (f : DEnv → M (List D)) : TA := Tr g W (fun m H => Reps m H) f
/-- .. of a list that is new: it is laid as it is told -/
def TrN (g : Gx) (W : WX) (f : DEnv → M (List D)) : TE := fun σ H Q => ∃ ρ S m, ERep m H ρ σ ∧ SimS g.cl m S H ∧
  Cont g W σ (fun m H ds (p : List V × Addr) => Reps m H ds p.1 ∧ p.1.length ≤ sizeLine ∧ H p.2 = none) m H (f ρ S) fun p H1 => Q (.ref p.2) (upd H1 p.2 (.lst p.1))

section
variable {X : Cx}
theorem PE.wk {e : Expr} {t t' : TE} (h : PE X e t) (i : ∀ σ H Q, t' σ H Q → t σ H Q) : PE X e t' := ⟨fun pins s σ H Q I q => h.run pins s σ H Q I (i σ H Q q)⟩
theorem PT.wk {e : Expr} {t t' : TT} (h : PT X e t) (i : ∀ σ H Q, t' σ H Q → t σ H Q) : PT X e t' := ⟨fun pins s σ H Q I q => h.run pins s σ H Q I (i σ H Q q)⟩
theorem PW.wk {e : Expr} {t t' : TT} (h : PW X e t) (i : ∀ σ H Q, t' σ H Q → t σ H Q) : PW X e t' := ⟨fun wh pins s σ H Q I q => h.run wh pins s σ H Q I (i σ H Q q)⟩
theorem PA.wk {e : List Expr} {t t' : TA} (h : PA X e t) (i : ∀ σ H Q, t' σ H Q → t σ H Q) : PA X e t' := ⟨fun pos pins s σ H Q I q => h.run pos pins s σ H Q I (i σ H Q q)⟩
theorem PS.wk {e : Stmt} {t t' : TS} (h : PS X e t) (i : ∀ D σ H, t' D σ H → t D σ H) : PS X e t' := ⟨fun pins s σ H D I q => h.run pins s σ H D I (i D σ H q)⟩
theorem PSs.wk {e : List Stmt} {t t' : TS} (h : PSs X e t) (i : ∀ D σ H, t' D σ H → t D σ H) : PSs X e t' := ⟨fun pins s σ H D I q => h.run pins s σ H D I (i D σ H q)⟩
end
end LP

set_option Elab.async false
set_option linter.all false
set_option maxRecDepth 100000
set_option maxHeartbeats 2000000
namespace LP
open PySem PySem.Spec L2
set_option autoImplicit false
noncomputable section

/-! ### small facts of Cont -/
section
variable {α β : Type} {g : Gx} {W : WX} {σ : L2.St} {P : Mp → Hp → α → β → Prop} {m : Mp} {H : Hp}
theorem Cont.ok {a : α} {S : Store} {Q : β → Hp → Prop} (c : Cont g W σ P m H (.ok a S) Q) {b : β} (s : SimS g.cl m S H) (p : P m H a b) : Q b H := c b m H (Ext.refl m H) s p
theorem Cont.okE {a : α} {S : Store} {Q : β → Hp → Prop} (c : Cont g W σ P m H (.ok a S) Q) {b : β} {m' : Mp} {H' : Hp} (e : Ext m H m' H') (s : SimS g.cl m' S H') (p : P m' H' a b) : Q b H' := c b m' H' e s p
/-- a new object that stands for itself -/
theorem Cont.tmp {d : D} {S : Store} {Q : VK} {w : HO} {p : Addr} (c : Cont g W σ (fun m H => Rep m H) m H (.ok d S) Q) (s : SimS g.cl m S H) (h : H p = none) (r : Ext m H m (upd H p w) → m.out p → Rep m (upd H p w) d (.ref p)) : Q (.ref p) (upd H p w) :=
  c _ m _ (Ext.tmp h) (s.tmp h) (r (Ext.tmp h) (s.free h))
end

/-! ### names, constants -/
def eVar (i : Nat) : DEnv → M D := fun ρ => match ρ[i]? with
  | some (some d) => pure d
  | _ => M.fail
def eC (d : D) : DEnv → M D := fun _ => pure d
section
variable {X : Cx} {g : Gx} {W : WX}
theorem s_var (i : Nat) {x : Str} {pos : Pos} (h : PE X (.Name x pos) (tVar i)) : PE X (.Name x pos) (TrE g W (eVar i)) := by
  refine PE.wk h fun σ H Q ⟨ρ, S, m, e, s, c⟩ => ?_
  unfold eVar at c
  cases q : ρ[i]? with
  | none => rw [q] at c; exact c.elim
  | some o =>
    cases o with
    | none => rw [q] at c; exact c.elim
    | some d =>
      rw [q] at c
      obtain ⟨v, hv, r⟩ := e.get i d q
      exact ⟨v, hv, c.ok s r⟩
theorem s_c {x : Expr} {v : V} {d : D} (h : PE X x (tC v)) (r : ∀ m H, Rep m H d v) : PE X x (TrE g W (eC d)) := by
  refine PE.wk h fun σ H Q ⟨ρ, S, m, e, s, c⟩ => ?_
  exact c.ok s (r m H)
theorem s_int {i : Int} {j pos} : PE X (.Constant (.int i) j pos) (TrE g W (eC (.int i))) := s_c pe_int fun _ _ => .int
theorem s_bl {b : Bool} {j pos} : PE X (.Constant (.bool b) j pos) (TrE g W (eC (.bl b))) := s_c pe_bl fun _ _ => .bl
theorem s_non {j pos} : PE X (.Constant .none j pos) (TrE g W (eC .non)) := s_c pe_non fun _ _ => .non
theorem s_str {x : Str} {j pos} : PE X (.Constant (.str x) j pos) (TrE g W (eC (.str x))) := s_c pe_str fun _ _ => .str
/-- a module's number or text -/
theorem s_gint {x : Str} {i : Int} {t : Tok} {pos : Pos} (hg : Gl X x) (hm : X.mg x = some (.int i t)) (hd : (x == ("__debug__" : Str)) = false := by decide) : PE X (.Name x pos) (TrE g W (eC (.int i))) := s_c (pe_glob (v := .int i) hg hm ⟨t, rfl⟩ hd) fun _ _ => .int
theorem s_gstr {x y : Str} {t : Tok} {pos : Pos} (hg : Gl X x) (hm : X.mg x = some (.str y t)) (hd : (x == ("__debug__" : Str)) = false := by decide) : PE X (.Name x pos) (TrE g W (eC (.str y))) := s_c (pe_glob (v := .str y) hg hm ⟨t, rfl⟩ hd) fun _ _ => .str

/-! ### two-place operations -/
def eBin (op : D → D → M D) (a b : DEnv → M D) : DEnv → M D := fun ρ => do
  let x ← a ρ
  let y ← b ρ
  op x y
/-- op does what r asks -/
def OpI (g : Gx) (W : WX) (op : D → D → M D) (r : R2) : Prop := ∀ (σ : L2.St) (m : Mp) (H : Hp) (S : Store) (x y : D) (v w : V) (Q : VK), SimS g.cl m S H → Rep m H x v → Rep m H y w →
  Cont g W σ (fun m H => Rep m H) m H (op x y S) Q → r v w H Q
theorem two {fa fb : DEnv → M D} {α β : Type} {P : Mp → Hp → α → β → Prop} {k : D → D → M α} {ta tb : TE} (ha : ∀ σ H Q, TrE g W fa σ H Q → ta σ H Q) (hb : ∀ σ H Q, TrE g W fb σ H Q → tb σ H Q) {σ : L2.St} {H : Hp} {Q : β → Hp → Prop} {ρ : DEnv} {S : Store} {m : Mp}
    (e : ERep m H ρ σ) (s : SimS g.cl m S H) (c : Cont g W σ P m H ((do let x ← fa ρ; let y ← fb ρ; k x y) S) Q) {R : V → V → Hp → Prop}
    (h : ∀ m2 H2 S2 x y v w, Ext m H m2 H2 → SimS g.cl m2 S2 H2 → Rep m2 H2 x v → Rep m2 H2 y w → Cont g W σ P m2 H2 (k x y S2) Q → R v w H2) : ta σ H fun v H1 => tb σ H1 fun w H2 => R v w H2 := by
  refine ha σ H _ ⟨ρ, S, m, e, s, (Cont.bind (P := fun m H => Rep m H) c).imp fun v H1 ⟨x, S1, m1, e1, s1, r1, c1⟩ => ?_⟩
  refine hb σ H1 _ ⟨ρ, S1, m1, e.mono e1, s1, (Cont.bind (P := fun m H => Rep m H) c1).imp fun w H2 ⟨y, S2, m2, e2, s2, r2, c2⟩ => ?_⟩
  exact h m2 H2 S2 x y v w (e1.trans e2) s2 (r1.mono e2) r2 c2
theorem s_bin {a b : Expr} {pos : Pos} {o : Operator} {r : R2} {op : D → D → M D} {fa fb : DEnv → M D} (ho : OpR X (binaryOp o) r) (hi : OpI g W op r) (ha : PE X a (TrE g W fa)) (hb : PE X b (TrE g W fb)) :
    PE X (.BinOp a o b pos) (TrE g W (eBin op fa fb)) := by
  refine PE.wk (pe_op ho ha hb) fun σ H Q ⟨ρ, S, m, e, s, c⟩ => ?_
  exact two (fun _ _ _ h => h) (fun _ _ _ h => h) e s c fun m2 H2 S2 x y v w _ s2 rx ry c2 => hi σ m2 H2 S2 x y v w Q s2 rx ry c2
/-- one-place -/
def eUn (op : D → M D) (a : DEnv → M D) : DEnv → M D := fun ρ => do
  let x ← a ρ
  op x
def negD : D → M D
  | .int i => pure (.int (-i))
  | _ => M.fail
theorem s_neg {a : Expr} {pos : Pos} {fa : DEnv → M D} (ha : PE X a (TrE g W fa)) : PE X (.UnaryOp .USub a pos) (TrE g W (eUn negD fa)) := by
  refine PE.wk (pe_un un_neg ha) fun σ H Q ⟨ρ, S, m, e, s, c⟩ => ?_
  refine ⟨ρ, S, m, e, s, (Cont.bind (P := fun m H => Rep m H) c).imp fun v H1 ⟨x, S1, m1, e1, s1, r1, c1⟩ => ?_⟩
  cases r1 with
  | int => exact ⟨_, rfl, c1.ok s1 .int⟩
  | _ => exact c1.elim

def addD : D → D → M D
  | .int i, .int j => pure (.int (i + j))
  | .str x, .str y => M.want (x.length + y.length ≤ sizeLine) (pure (.str (x ++ y)))
  | .tup xs, .tup ys => M.want (xs.length + ys.length ≤ sizeLine) (pure (.tup (xs ++ ys)))
  | _, _ => M.fail
def subD : D → D → M D
  | .int i, .int j => pure (.int (i - j))
  | _, _ => M.fail
def mulD : D → D → M D
  | .int i, .int j => M.want (CMul i j) (pure (.int (i * j)))
  | _, _ => M.fail
def fdivD : D → D → M D
  | .int i, .int j => M.want (CDiv i j) (pure (.int (i / j)))
  | _, _ => M.fail
def modD : D → D → M D
  | .int i, .int j => M.want (0 < j) (pure (.int (i % j)))
  | _, _ => M.fail
def powD : D → D → M D
  | .int i, .int j => M.want (CPow i j) (pure (.int (i ^ j.toNat)))
  | _, _ => M.fail
def shlD : D → D → M D
  | .int i, .int j => M.want (CPow i j) (pure (.int (i * 2 ^ j.toNat)))
  | _, _ => M.fail
def shrD : D → D → M D
  | .int i, .int j => M.want (0 ≤ j) (pure (.int (i / 2 ^ j.toNat)))
  | _, _ => M.fail

theorem oi_add (K : PySem.W.Frag) : OpI g W addD (fun x y H Q => rI0 (fun i j => .int (i + j)) x y H Q ∨ ((∃ i j, x = .str i ∧ y = .str j ∧ i.length + j.length ≤ sizeLine ∧ Q (.str (i ++ j)) H) ∨ rCatA K x y H Q)) := by
  intro σ m H S x y v w Q s rx ry c
  cases rx with
  | int => cases ry with
    | int => exact .inl ⟨_, _, rfl, rfl, c.ok s .int⟩
    | _ => exact c.elim
  | str => cases ry with
    | str =>
      obtain ⟨hp, c⟩ := c.want
      exact .inr (.inl ⟨_, _, rfl, rfl, hp, c.ok s .str⟩)
    | _ => exact c.elim
  | tup h z r => cases ry with
    | tup h' z' r' =>
      rename_i a xs vs b ys ws
      obtain ⟨hp, c⟩ := c.want
      rw [r.length, r'.length] at hp
      refine .inr (.inr ⟨a, b, vs, ws, rfl, rfl, .of h, .of h', hp, fun e => ?_, fun e1 e => ?_, fun _ _ p hn => ?_⟩)
      · subst e
        cases r
        exact c.ok s (.tup h' z' r')
      · subst e
        cases r'
        exact c.ok s (.tup h z (by simpa using r))
      · exact c.tmp s hn fun e _ => .tup upd_same (by simpa using hp) ((r.append r').mono e)
    | _ => exact c.elim
  | _ => cases ry <;> exact c.elim
theorem s_add {a b : Expr} {pos : Pos} {fa fb : DEnv → M D} (ha : PE X a (TrE g W fa)) (hb : PE X b (TrE g W fb)) : PE X (.BinOp a .Add b pos) (TrE g W (eBin addD fa fb)) :=
  s_bin (op_add.or (op_add_str.or op_catA)) (oi_add X.K) ha hb
theorem oi_int {C : Int → Int → Prop} {f : Int → Int → Int} {op : D → D → M D} (h : ∀ i j, op (.int i) (.int j) = M.want (C i j) (pure (.int (f i j)))) (h0 : ∀ x y S, (∀ i j, x = D.int i → y = D.int j → False) → op x y S = .bad) :
    OpI g W op (rI C fun i j => .int (f i j)) := by
  intro σ m H S x y v w Q s rx ry c
  by_cases q : ∃ i j, x = D.int i ∧ y = D.int j
  · obtain ⟨i, j, rfl, rfl⟩ := q
    cases rx
    cases ry
    rw [h] at c
    obtain ⟨hp, c⟩ := c.want
    exact ⟨_, _, rfl, rfl, hp, c.ok s .int⟩
  · rw [h0 x y S fun i j e1 e2 => q ⟨i, j, e1, e2⟩] at c
    exact c.elim
theorem s_sub {a b : Expr} {pos : Pos} {fa fb : DEnv → M D} (ha : PE X a (TrE g W fa)) (hb : PE X b (TrE g W fb)) : PE X (.BinOp a .Sub b pos) (TrE g W (eBin subD fa fb)) :=
  s_bin op_sub (fun σ m H S x y v w Q s rx ry c => by
    cases rx with
    | int => cases ry with
      | int => exact ⟨_, _, rfl, rfl, c.ok s .int⟩
      | _ => exact c.elim
    | _ => cases ry <;> exact c.elim) ha hb
theorem s_mul {a b : Expr} {pos : Pos} {fa fb : DEnv → M D} (ha : PE X a (TrE g W fa)) (hb : PE X b (TrE g W fb)) : PE X (.BinOp a .Mult b pos) (TrE g W (eBin mulD fa fb)) := s_bin op_mul (oi_int (fun _ _ => rfl) (by intro x y S h; cases x <;> cases y <;> first | rfl | exact (h _ _ rfl rfl).elim)) ha hb
theorem s_fdiv {a b : Expr} {pos : Pos} {fa fb : DEnv → M D} (ha : PE X a (TrE g W fa)) (hb : PE X b (TrE g W fb)) : PE X (.BinOp a .FloorDiv b pos) (TrE g W (eBin fdivD fa fb)) := s_bin op_fdiv (oi_int (fun _ _ => rfl) (by intro x y S h; cases x <;> cases y <;> first | rfl | exact (h _ _ rfl rfl).elim)) ha hb
theorem s_mod {a b : Expr} {pos : Pos} {fa fb : DEnv → M D} (ha : PE X a (TrE g W fa)) (hb : PE X b (TrE g W fb)) : PE X (.BinOp a .Mod b pos) (TrE g W (eBin modD fa fb)) := s_bin op_mod (oi_int (fun _ _ => rfl) (by intro x y S h; cases x <;> cases y <;> first | rfl | exact (h _ _ rfl rfl).elim)) ha hb
theorem s_pow {a b : Expr} {pos : Pos} {fa fb : DEnv → M D} (ha : PE X a (TrE g W fa)) (hb : PE X b (TrE g W fb)) : PE X (.BinOp a .Pow b pos) (TrE g W (eBin powD fa fb)) := s_bin op_pow (oi_int (fun _ _ => rfl) (by intro x y S h; cases x <;> cases y <;> first | rfl | exact (h _ _ rfl rfl).elim)) ha hb
theorem s_shl {a b : Expr} {pos : Pos} {fa fb : DEnv → M D} (ha : PE X a (TrE g W fa)) (hb : PE X b (TrE g W fb)) : PE X (.BinOp a .LShift b pos) (TrE g W (eBin shlD fa fb)) := s_bin op_shl (oi_int (fun _ _ => rfl) (by intro x y S h; cases x <;> cases y <;> first | rfl | exact (h _ _ rfl rfl).elim)) ha hb
theorem s_shr {a b : Expr} {pos : Pos} {fa fb : DEnv → M D} (ha : PE X a (TrE g W fa)) (hb : PE X b (TrE g W fb)) : PE X (.BinOp a .RShift b pos) (TrE g W (eBin shrD fa fb)) := s_bin op_shr (oi_int (fun _ _ => rfl) (by intro x y S h; cases x <;> cases y <;> first | rfl | exact (h _ _ rfl rfl).elim)) ha hb

/-! ### what a value is as a list, as a sequence -/
def listOf : D → M (List D)
  | .lst xs => pure xs
  | .loc n => fun S => match S[n]? with
    | some (.lst xs) => .ok xs S
    | some (.ro xs) => .ok xs S
    | _ => .bad
  | _ => M.fail
theorem listOf_rep {d : D} {v : V} {S : Store} {m : Mp} {H : Hp} (s : SimS g.cl m S H) (r : Rep m H d v) : (listOf d S = .bad) ∨ ∃ xs a vs, listOf d S = .ok xs S ∧ v = .ref a ∧ Rd H a (.lst vs) ∧ vs.length ≤ sizeLine ∧ Reps m H xs vs := by
  cases r with
  | lst h n z r => exact .inr ⟨_, _, _, rfl, rfl, .inl h, z, r⟩
  | loc h =>
    rename_i n a
    obtain ⟨o, ho, q⟩ := s.in h
    cases o with
    | lst xs =>
      obtain ⟨vs, h1, z, h2⟩ := q
      refine .inr ⟨xs, a, vs, ?_, rfl, .inl h1, z, h2⟩
      show (match S[n]? with | some (.lst xs) => R.ok xs S | some (.ro xs) => .ok xs S | _ => .bad) = _
      rw [ho]
    | ro xs =>
      obtain ⟨o, vs, h1, z, h2⟩ := q
      refine .inr ⟨xs, a, vs, ?_, rfl, .inr ⟨o, h1⟩, z, h2⟩
      show (match S[n]? with | some (.lst xs) => R.ok xs S | some (.ro xs) => .ok xs S | _ => .bad) = _
      rw [ho]
    | _ =>
      left
      show (match S[n]? with | some (.lst xs) => R.ok xs S | some (.ro xs) => .ok xs S | _ => .bad) = _
      rw [ho]
  | _ => exact .inl rfl
/-- the items of a tuple or a list -/
def seqOf : D → M (List D)
  | .tup xs => pure xs
  | d => listOf d
theorem seqOf_rep {d : D} {v : V} {S : Store} {m : Mp} {H : Hp} (s : SimS g.cl m S H) (r : Rep m H d v) : (seqOf d S = .bad) ∨ ∃ xs a vs, seqOf d S = .ok xs S ∧ v = .ref a ∧ (Rd H a (.lst vs) ∨ H a = some (.tup vs)) ∧ vs.length ≤ sizeLine ∧ Reps m H xs vs := by
  by_cases q : ∃ xs, d = .tup xs
  · obtain ⟨xs, rfl⟩ := q
    cases r with
    | tup h z r => exact .inr ⟨_, _, _, rfl, rfl, .inr h, z, r⟩
  · have e : seqOf d = listOf d := by
      cases d <;> first | rfl | exact (q ⟨_, rfl⟩).elim
    rw [e]
    rcases listOf_rep s r with h | ⟨xs, a, vs, h1, h2, h3, h4, h5⟩
    · exact .inl h
    · exact .inr ⟨xs, a, vs, h1, h2, .inl h3, h4, h5⟩
/-- going on from a list's items -/
theorem Cont.list {α β : Type} {σ : L2.St} {P : Mp → Hp → α → β → Prop} {d : D} {v : V} {S : Store} {m : Mp} {H : Hp} {k : List D → M α} {Q : β → Hp → Prop} (s : SimS g.cl m S H) (r : Rep m H d v) (c : Cont g W σ P m H ((listOf d >>= k) S) Q) :
    ∃ xs a vs, v = .ref a ∧ Rd H a (.lst vs) ∧ vs.length ≤ sizeLine ∧ Reps m H xs vs ∧ Cont g W σ P m H (k xs S) Q := by
  have c' : Cont g W σ P m H (M.bind (listOf d) k S) Q := c
  unfold M.bind at c'
  rcases listOf_rep s r with h | ⟨xs, a, vs, h1, h2, h3, h4, h5⟩
  · rw [h] at c'; exact c'.elim
  · rw [h1] at c'; exact ⟨xs, a, vs, h2, h3, h4, h5, c'⟩
theorem Cont.seq {α β : Type} {σ : L2.St} {P : Mp → Hp → α → β → Prop} {d : D} {v : V} {S : Store} {m : Mp} {H : Hp} {k : List D → M α} {Q : β → Hp → Prop} (s : SimS g.cl m S H) (r : Rep m H d v) (c : Cont g W σ P m H ((seqOf d >>= k) S) Q) :
    ∃ xs a vs, v = .ref a ∧ (Rd H a (.lst vs) ∨ H a = some (.tup vs)) ∧ vs.length ≤ sizeLine ∧ Reps m H xs vs ∧ Cont g W σ P m H (k xs S) Q := by
  have c' : Cont g W σ P m H (M.bind (seqOf d) k S) Q := c
  unfold M.bind at c'
  rcases seqOf_rep s r with h | ⟨xs, a, vs, h1, h2, h3, h4, h5⟩
  · rw [h] at c'; exact c'.elim
  · rw [h1] at c'; exact ⟨xs, a, vs, h2, h3, h4, h5, c'⟩

/-! ### comparisons -/
def ltB : D → D → M Bool
  | .int i, .int j => pure (decide (i < j))
  | _, _ => M.fail
def intsOf : List D → Option (List Int)
  | [] => some []
  | .int i :: r => (intsOf r).map (i :: ·)
  | _ :: _ => none
theorem intsOf_some : ∀ {ds : List D} {ns : List Int}, intsOf ds = some ns → ds = ns.map D.int
  | [], ns, h => by
    cases h; rfl
  | d :: ds, ns, h => by
    cases d with
    | int i =>
      unfold intsOf at h
      cases e : intsOf ds with
      | none => rw [e] at h; cases h
      | some ms =>
        rw [e] at h
        cases h
        rw [intsOf_some e]
        rfl
    | _ => cases h
theorem intsOf_map : ∀ (ns : List Int), intsOf (ns.map D.int) = some ns
  | [] => rfl
  | n :: ns => by
    show (intsOf (ns.map D.int)).map (n :: ·) = _
    rw [intsOf_map ns]
    rfl
def lexLe (ns ms : List Int) : Bool := !(HT.lexLt ms ns)
def ltD : D → D → M D
  | .int i, .int j => pure (.bl (decide (i < j)))
  | .tup xs, .tup ys => match intsOf xs, intsOf ys with
    | some ns, some ms => pure (.bl (HT.lexLt ns ms))
    | _, _ => M.fail
  | _, _ => M.fail
def leD : D → D → M D
  | .int i, .int j => pure (.bl (decide (i ≤ j)))
  | _, _ => M.fail
def gtD : D → D → M D
  | .int i, .int j => pure (.bl (decide (j < i)))
  | _, _ => M.fail
def geD : D → D → M D
  | .int i, .int j => pure (.bl (decide (j ≤ i)))
  | _, _ => M.fail
theorem s_cmp {a b : Expr} {pos : Pos} {o : CmpOp} {r : R2} {op : D → D → M D} {fa fb : DEnv → M D} (ho : OpR X (compareOp o) r) (hi : OpI g W op r) (ha : PE X a (TrE g W fa)) (hb : PE X b (TrE g W fb)) (hm : behindInMarks o b = false) :
    PE X (.Compare a [o] [b] pos) (TrE g W (eBin op fa fb)) := by
  refine PE.wk (pe_cmpR ho ha hb hm) fun σ H Q ⟨ρ, S, m, e, s, c⟩ => ?_
  exact two (fun _ _ _ h => h) (fun _ _ _ h => h) e s c fun m2 H2 S2 x y v w _ s2 rx ry c2 => hi σ m2 H2 S2 x y v w Q s2 rx ry c2
/-! tests -/
def boolOf : D → M Bool
  | .bl b => pure b
  | _ => M.fail
def tOf (f : DEnv → M D) : DEnv → M Bool := fun ρ => do
  let x ← f ρ
  boolOf x
theorem bool_out {σ : L2.St} {Q : Bool → Hp → Prop} {m : Mp} {H : Hp} {x : D} {v : V} {S : Store} (s : SimS g.cl m S H) (r : Rep m H x v) (c : Cont g W σ (fun _ _ a b => a = b) m H (boolOf x S) Q) : ∃ k, v = .bl k ∧ Q k H := by
  cases r with
  | bl => exact ⟨_, rfl, c.ok s rfl⟩
  | _ => exact c.elim
/-- what a test's value wants -/
theorem OpI.test {op : D → D → M D} {r : R2} (hi : OpI g W op r) {σ : L2.St} {Q : Bool → Hp → Prop} {m : Mp} {H : Hp} {S : Store} {x y : D} {v w : V} (s : SimS g.cl m S H) (rx : Rep m H x v) (ry : Rep m H y w)
    (c : Cont g W σ (fun _ _ a b => a = b) m H ((op x y >>= boolOf) S) Q) : r v w H fun z H' => ∃ k, z = .bl k ∧ Q k H' :=
  hi σ m H S x y v w _ s rx ry ((Cont.bind (P := fun m H => Rep m H) c).imp fun z H1 ⟨d, S1, m1, e1, s1, r1, c1⟩ => bool_out s1 r1 c1)
theorem bind_assoc' {α β γ : Type} (f : M α) (k : α → M β) (l : β → M γ) : ((f >>= k) >>= l) = (f >>= fun a => k a >>= l) := by
  funext S
  show (match (match f S with | .ok a S' => k a S' | .ex x S' => .ex x S' | .bad => .bad) with | .ok a S' => l a S' | .ex x S' => .ex x S' | .bad => .bad) = (match f S with | .ok a S' => (match k a S' with | .ok a S' => l a S' | .ex x S' => .ex x S' | .bad => .bad) | .ex x S' => .ex x S' | .bad => .bad)
  cases f S <;> rfl
theorem t_cmp {a b : Expr} {pos : Pos} {o : CmpOp} {r : R2} {op : D → D → M D} {fa fb : DEnv → M D} (ho : OpR X (compareOp o) r) (hi : OpI g W op r) (ha : PE X a (TrE g W fa)) (hb : PE X b (TrE g W fb)) (hm : behindInMarks o b = false) :
    PT X (.Compare a [o] [b] pos) (TrT g W (tOf (eBin op fa fb))) := by
  refine PT.wk (pt_cmpR ho ha hb hm) fun σ H Q ⟨ρ, S, m, e, s, c⟩ => ?_
  have c' : Cont g W σ (fun _ _ a b => a = b) m H ((do let x ← fa ρ; let y ← fb ρ; (op x y >>= boolOf)) S) Q := by
    have q : (tOf (eBin op fa fb) ρ) = (do let x ← fa ρ; let y ← fb ρ; (op x y >>= boolOf)) := by
      unfold tOf eBin
      rw [bind_assoc']
      congr 1
      funext x
      rw [bind_assoc']
    rw [← q]; exact c
  exact two (fun _ _ _ h => h) (fun _ _ _ h => h) e s c' fun m2 H2 S2 x y v w _ s2 rx ry c2 => hi.test s2 rx ry c2
theorem t_val {a : Expr} {fa : DEnv → M D} (ha : PE X a (TrE g W fa)) (he : ∀ whole, isTrue a X.env whole = (do let v ← whole; standAt a.pos; holding [v] (truthy v)) := by intro _; rfl) : PT X a (TrT g W (tOf fa)) := by
  refine PT.wk (pt_val ha he) fun σ H Q ⟨ρ, S, m, e, s, c⟩ => ?_
  exact ⟨ρ, S, m, e, s, (Cont.bind (P := fun m H => Rep m H) c).imp fun v H1 ⟨x, S1, m1, e1, s1, r1, c1⟩ => bool_out s1 r1 c1⟩
def tAnd2 (a b : DEnv → M Bool) : DEnv → M Bool := fun ρ => do
  let x ← a ρ
  if x = true then b ρ else pure false
def tOr2 (a b : DEnv → M Bool) : DEnv → M Bool := fun ρ => do
  let x ← a ρ
  if x = true then pure true else b ρ
def tNot1 (a : DEnv → M Bool) : DEnv → M Bool := fun ρ => do
  let x ← a ρ
  pure (!x)
section
variable {a b : Expr} {rest : List Expr} {pos : Pos} {fa fb : DEnv → M Bool}
theorem w_and1 (ha : PT X a (TrT g W fa)) : PW X (.BoolOp .And [a] pos) (TrT g W fa) := pw_and1 ha
theorem w_or1 (ha : PT X a (TrT g W fa)) : PW X (.BoolOp .Or [a] pos) (TrT g W fa) := pw_or1 ha
theorem w_and (ha : PT X a (TrT g W fa)) (hb : PW X (.BoolOp .And (b :: rest) pos) (TrT g W fb)) : PW X (.BoolOp .And (a :: b :: rest) pos) (TrT g W (tAnd2 fa fb)) := by
  refine PW.wk (pw_and ha hb) fun σ H Q ⟨ρ, S, m, e, s, c⟩ => ?_
  refine ⟨ρ, S, m, e, s, (Cont.bind (P := fun _ _ a b => a = b) c).imp fun v H1 ⟨x, S1, m1, e1, s1, r1, c1⟩ => ?_⟩
  have r1 : x = v := r1
  subst r1
  cases x with
  | true => exact ⟨ρ, S1, m1, e.mono e1, s1, c1⟩
  | false => exact c1.ok s1 rfl
theorem w_or (ha : PT X a (TrT g W fa)) (hb : PW X (.BoolOp .Or (b :: rest) pos) (TrT g W fb)) : PW X (.BoolOp .Or (a :: b :: rest) pos) (TrT g W (tOr2 fa fb)) := by
  refine PW.wk (pw_or ha hb) fun σ H Q ⟨ρ, S, m, e, s, c⟩ => ?_
  refine ⟨ρ, S, m, e, s, (Cont.bind (P := fun _ _ a b => a = b) c).imp fun v H1 ⟨x, S1, m1, e1, s1, r1, c1⟩ => ?_⟩
  have r1 : x = v := r1
  subst r1
  cases x with
  | false => exact ⟨ρ, S1, m1, e.mono e1, s1, c1⟩
  | true => exact c1.ok s1 rfl
theorem t_not (ha : PT X a (TrT g W fa)) : PT X (.UnaryOp .Not a pos) (TrT g W (tNot1 fa)) := by
  refine PT.wk (pt_not ha) fun σ H Q ⟨ρ, S, m, e, s, c⟩ => ?_
  refine ⟨ρ, S, m, e, s, (Cont.bind (P := fun _ _ a b => a = b) c).imp fun v H1 ⟨x, S1, m1, e1, s1, r1, c1⟩ => ?_⟩
  have r1 : x = v := r1
  subst r1
  exact c1.ok s1 rfl
end
/-! .. as values -/
def eAnd2 (a b : DEnv → M D) : DEnv → M D := fun ρ => do
  let x ← a ρ
  let k ← boolOf x
  if k = true then b ρ else pure (.bl false)
def eOr2 (a b : DEnv → M D) : DEnv → M D := fun ρ => do
  let x ← a ρ
  let k ← boolOf x
  if k = true then pure (.bl true) else b ρ
def eNot1 (a : DEnv → M D) : DEnv → M D := fun ρ => do
  let x ← a ρ
  let k ← boolOf x
  pure (.bl (!k))
section
variable {a b : Expr} {rest : List Expr} {pos : Pos} {fa fb : DEnv → M D}
theorem bool_of {α β : Type} {σ : L2.St} {P : Mp → Hp → α → β → Prop} {Q : β → Hp → Prop} {m : Mp} {H : Hp} {x : D} {v : V} {S : Store} {k : Bool → M α} (r : Rep m H x v) (c : Cont g W σ P m H ((boolOf x >>= k) S) Q) : ∃ b, x = .bl b ∧ v = .bl b ∧ Cont g W σ P m H (k b S) Q := by
  cases r with
  | bl => exact ⟨_, rfl, rfl, c⟩
  | _ => exact c.elim
theorem s_one {op : BoolOp} {f : DEnv → M D} (ha : PE X a (TrE g W f)) : PE X (.BoolOp op [a] pos) (TrE g W f) := pe_one ha
theorem s_and (ha : PE X a (TrE g W fa)) (hb : PE X (.BoolOp .And (b :: rest) pos) (TrE g W fb)) : PE X (.BoolOp .And (a :: b :: rest) pos) (TrE g W (eAnd2 fa fb)) := by
  refine PE.wk (pe_and ha hb) fun σ H Q ⟨ρ, S, m, e, s, c⟩ => ?_
  refine ⟨ρ, S, m, e, s, (Cont.bind (P := fun m H => Rep m H) c).imp fun v H1 ⟨x, S1, m1, e1, s1, r1, c1⟩ => ?_⟩
  obtain ⟨k, rfl, rfl, c2⟩ := bool_of r1 c1
  refine ⟨k, rfl, ?_⟩
  cases k with
  | true => exact ⟨ρ, S1, m1, e.mono e1, s1, c2⟩
  | false => exact c2.ok s1 .bl
theorem s_or (ha : PE X a (TrE g W fa)) (hb : PE X (.BoolOp .Or (b :: rest) pos) (TrE g W fb)) : PE X (.BoolOp .Or (a :: b :: rest) pos) (TrE g W (eOr2 fa fb)) := by
  refine PE.wk (pe_or ha hb) fun σ H Q ⟨ρ, S, m, e, s, c⟩ => ?_
  refine ⟨ρ, S, m, e, s, (Cont.bind (P := fun m H => Rep m H) c).imp fun v H1 ⟨x, S1, m1, e1, s1, r1, c1⟩ => ?_⟩
  obtain ⟨k, rfl, rfl, c2⟩ := bool_of r1 c1
  refine ⟨k, rfl, ?_⟩
  cases k with
  | false => exact ⟨ρ, S1, m1, e.mono e1, s1, c2⟩
  | true => exact c2.ok s1 .bl
theorem s_not (ha : PE X a (TrE g W fa)) : PE X (.UnaryOp .Not a pos) (TrE g W (eNot1 fa)) := by
  refine PE.wk (pe_not ha) fun σ H Q ⟨ρ, S, m, e, s, c⟩ => ?_
  refine ⟨ρ, S, m, e, s, (Cont.bind (P := fun m H => Rep m H) c).imp fun v H1 ⟨x, S1, m1, e1, s1, r1, c1⟩ => ?_⟩
  obtain ⟨k, rfl, rfl, c2⟩ := bool_of r1 c1
  exact ⟨k, rfl, c2.ok s1 .bl⟩
end

/-! ### tuples, new lists, arguments -/
def aNil : DEnv → M (List D) := fun _ => pure []
def aCons (a : DEnv → M D) (r : DEnv → M (List D)) : DEnv → M (List D) := fun ρ => do
  let x ← a ρ
  let xs ← r ρ
  pure (x :: xs)
theorem a_nil : PA X [] (TrA g W aNil) := PA.wk pa_nil fun σ H Q ⟨ρ, S, m, e, s, c⟩ => c.ok s .nil
theorem a_cons {e : Expr} {es : List Expr} {fa : DEnv → M D} {fr : DEnv → M (List D)} (ha : PE X e (TrE g W fa)) (hr : PA X es (TrA g W fr)) (hs : starEach (e :: es) X.env = (false, eval e X.env) :: starEach es X.env := by rfl) : PA X (e :: es) (TrA g W (aCons fa fr)) := by
  refine PA.wk (pa_cons ha hr hs) fun σ H Q ⟨ρ, S, m, e, s, c⟩ => ?_
  refine ⟨ρ, S, m, e, s, (Cont.bind (P := fun m H => Rep m H) c).imp fun v H1 ⟨x, S1, m1, e1, s1, r1, c1⟩ => ?_⟩
  refine ⟨ρ, S1, m1, e.mono e1, s1, (Cont.bind (P := fun m H => Reps m H) c1).imp fun vs H2 ⟨xs, S2, m2, e2, s2, r2, c2⟩ => ?_⟩
  exact c2.ok s2 (.cons (r1.mono e2) r2)
def eTup (f : DEnv → M (List D)) : DEnv → M D := fun ρ => do
  let xs ← f ρ
  M.want (xs.length ≤ sizeLine) (pure (.tup xs))
theorem s_tup {es : List Expr} {x1} {pos : Pos} {f : DEnv → M (List D)} (h : PA X es (TrA g W f)) : PE X (.Tuple es x1 pos) (TrE g W (eTup f)) := by
  refine PE.wk (pe_tup h) fun σ H Q ⟨ρ, S, m, e, s, c⟩ => ?_
  refine ⟨ρ, S, m, e, s, (Cont.bind (P := fun m H => Reps m H) c).imp fun vs H1 ⟨xs, S1, m1, e1, s1, r1, c1⟩ => ?_⟩
  obtain ⟨hz, c1⟩ := c1.want
  rw [r1.length] at hz
  exact ⟨hz, fun p hn => c1.tmp s1 hn fun e _ => .tup upd_same hz (r1.mono e)⟩
abbrev ContN (g : Gx) (W : WX) (σ : L2.St) (m : Mp) (H : Hp) (r : R (List D)) (Q : VK) : Prop :=
  Cont g W σ (fun m H ds (p : List V × Addr) => Reps m H ds p.1 ∧ p.1.length ≤ sizeLine ∧ H p.2 = none) m H r fun p H1 => Q (.ref p.2) (upd H1 p.2 (.lst p.1))
theorem ContN.ok {σ : L2.St} {m : Mp} {H : Hp} {ds : List D} {vs : List V} {S : Store} {Q : VK} (c : ContN g W σ m H (.ok ds S) Q) (s : SimS g.cl m S H) (r : Reps m H ds vs) (z : vs.length ≤ sizeLine) {p : Addr} (hn : H p = none) : Q (.ref p) (upd H p (.lst vs)) :=
  c (vs, p) m H (Ext.refl m H) s ⟨r, z, hn⟩
def nDisp (f : DEnv → M (List D)) : DEnv → M (List D) := fun ρ => do
  let xs ← f ρ
  M.want (xs.length ≤ sizeLine) (pure xs)
theorem n_disp {es : List Expr} {pos : Pos} {f : DEnv → M (List D)} (h : PA X es (TrA g W f)) : PE X (.List es pos) (TrN g W (nDisp f)) := by
  refine PE.wk (pe_lst h) fun σ H Q ⟨ρ, S, m, e, s, c⟩ => ?_
  refine ⟨ρ, S, m, e, s, (Cont.bind (P := fun m H => Reps m H) c).imp fun vs H1 ⟨xs, S1, m1, e1, s1, r1, c1⟩ => ?_⟩
  obtain ⟨hz, c1⟩ := c1.want
  rw [r1.length] at hz
  exact ⟨hz, fun p hn => ContN.ok c1 s1 r1 hz hn⟩
/-- a new list that nobody will change -/
def eLst (f : DEnv → M (List D)) : DEnv → M D := fun ρ => do
  let xs ← f ρ
  pure (.lst xs)
theorem s_lst {e : Expr} {f : DEnv → M (List D)} (h : PE X e (TrN g W f)) : PE X e (TrE g W (eLst f)) := by
  refine PE.wk h fun σ H Q ⟨ρ, S, m, e, s, c⟩ => ?_
  refine ⟨ρ, S, m, e, s, (Cont.bind (P := fun m H ds (p : List V × Addr) => Reps m H ds p.1 ∧ p.1.length ≤ sizeLine ∧ H p.2 = none) c).imp fun p H1 ⟨xs, S1, m1, e1, s1, ⟨r1, z1, n1⟩, c1⟩ => ?_⟩
  exact c1.tmp s1 n1 fun e n => .lst upd_same n z1 (r1.mono e)
/-- a new list in the store -/
def newM (o : MO) : M D := fun S => .ok (.loc S.length) (S ++ [o])
def eNew (f : DEnv → M (List D)) : DEnv → M D := fun ρ => do
  let xs ← f ρ
  newM (.lst xs)
theorem Cont.new {σ : L2.St} {m : Mp} {H : Hp} {S : Store} {o : MO} {w : HO} {Q : VK} {p : Addr} (c : Cont g W σ (fun m H => Rep m H) m H (newM o S) Q) (s : SimS g.cl m S H) (hn : H p = none) (r : Ext m H (m.push p) (upd H p w) → MRep g.cl (m.push p) (upd H p w) o p) : Q (.ref p) (upd H p w) :=
  c _ _ _ (Ext.laid hn) (s.laid hn (r (Ext.laid hn))) (.loc (by show (m.l ++ [p])[S.length]? = some p; rw [List.getElem?_append_right (by rw [s.len]; exact Nat.le_refl _)]; simp [s.len]))
theorem s_new {e : Expr} {f : DEnv → M (List D)} (h : PE X e (TrN g W f)) : PE X e (TrE g W (eNew f)) := by
  refine PE.wk h fun σ H Q ⟨ρ, S, m, e, s, c⟩ => ?_
  refine ⟨ρ, S, m, e, s, (Cont.bind (P := fun m H ds (p : List V × Addr) => Reps m H ds p.1 ∧ p.1.length ≤ sizeLine ∧ H p.2 = none) c).imp fun p H1 ⟨xs, S1, m1, e1, s1, ⟨r1, z1, n1⟩, c1⟩ => ?_⟩
  exact c1.new s1 n1 fun e => ⟨_, upd_same, z1, r1.mono e⟩
end
end
end LP

set_option Elab.async false
set_option linter.all false
set_option maxRecDepth 100000
set_option maxHeartbeats 2000000
namespace LP
open PySem PySem.Spec L2
set_option autoImplicit false
noncomputable section

/-! ### data in the library's form, for == -/
def toPD (S : Store) : Nat → D → Option PyData
  | 0, _ => none
  | k + 1, d => match d with
    | .non => some .none
    | .bl b => some (.bool b)
    | .int i => some (.int i)
    | .str x => some (.str x)
    | .tup xs => (xs.mapM (toPD S k)).map .tuple
    | .lst xs => (xs.mapM (toPD S k)).map .list
    | .loc n => match S[n]? with
      | some (.lst xs) => (xs.mapM (toPD S k)).map .list
      | some (.ro xs) => (xs.mapM (toPD S k)).map .list
      | _ => none
    | _ => none
section
variable {g : Gx} {K : PySem.W.Frag} {m : Mp} {H : Hp} {S : Store}
theorem dpAll_of {f : D → Option PyData} (h : ∀ d v p, f d = some p → Rep m H d v → Dp K H v p) : ∀ {ds : List D} {vs : List V} {ps : List PyData}, ds.mapM f = some ps → Reps m H ds vs → DpAll K H vs ps
  | [], _, ps, e, r => by
    cases r
    have : ps = [] := by simpa using e.symm
    subst this
    exact .nil
  | d :: ds, _, ps, e, r => by
    cases r with
    | cons a b =>
      rw [List.mapM_cons] at e
      cases q : f d with
      | none => rw [q] at e; cases e
      | some p =>
        rw [q] at e
        cases q2 : ds.mapM f with
        | none => rw [q2] at e; cases e
        | some ps' =>
          rw [q2] at e
          have e : some (p :: ps') = some ps := e
          have e := Option.some.inj e
          subst e
          exact .cons (h _ _ _ q a) (dpAll_of h q2 b)
theorem rdL {a : Addr} {vs : List V} (h : Rd H a (.lst vs)) : SqL K H a vs := .inl h
theorem dp_of (s : SimS g.cl m S H) : ∀ (k : Nat) {d : D} {v : V} {p : PyData}, toPD S k d = some p → Rep m H d v → Dp K H v p
  | 0, _, _, _, e, _ => by cases e
  | k + 1, d, v, p, e, r => by
    have ih : ∀ d v p, toPD S k d = some p → Rep m H d v → Dp K H v p := fun d v p => dp_of s k
    have fin : ∀ {xs : List D} {vs : List V} {c : List PyData → PyData} {q : PyData}, (xs.mapM (toPD S k)).map c = some q → Reps m H xs vs → ∃ ps, q = c ps ∧ DpAll K H vs ps := fun {xs vs c q} e r => by
      cases q1 : xs.mapM (toPD S k) with
      | none => rw [q1] at e; cases e
      | some ps =>
        rw [q1] at e
        have e := Option.some.inj e
        exact ⟨ps, e.symm, dpAll_of ih q1 r⟩
    cases r with
    | non => cases e; exact .non
    | bl => cases e; exact .bl _
    | int => cases e; exact .int _
    | str => cases e; exact .str _
    | tup h z r =>
      obtain ⟨ps, rfl, w⟩ := fin e r
      exact .tup (.of h) w
    | lst h n z r =>
      obtain ⟨ps, rfl, w⟩ := fin e r
      exact .lst (.of h) w
    | loc h =>
      rename_i n a
      obtain ⟨o, ho, q⟩ := s.in h
      have e : (match S[n]? with
        | some (.lst xs) => (xs.mapM (toPD S k)).map PyData.list
        | some (.ro xs) => (xs.mapM (toPD S k)).map .list
        | _ => none) = some p := e
      rw [ho] at e
      cases o with
      | lst xs =>
        obtain ⟨vs, h1, z, h2⟩ := q
        obtain ⟨ps, rfl, w⟩ := fin e h2
        exact .lst (.of h1) w
      | ro xs =>
        obtain ⟨o, vs, h1, z, h2⟩ := q
        obtain ⟨ps, rfl, w⟩ := fin e h2
        exact .lst (.inl (.inr ⟨o, h1⟩)) w
      | _ => cases e
    | _ => cases e
end

def eqG (x y : D) : M Bool := fun S => match toPD S 12 x, toPD S 12 y with
  | some d, some e => if SeqAt.shaped d = true ∧ SeqAt.shaped e = true then .ok (PyData.eqv d e) S else .bad
  | _, _ => .bad
def eqB : D → D → M Bool
  | .int i, .int j => pure (decide (i = j))
  | .str i, .str j => pure (decide (i = j))
  | x, y => eqG x y
def eqD (x y : D) : M D := do
  let b ← eqB x y
  pure (.bl b)
def neD (x y : D) : M D := do
  let b ← eqB x y
  pure (.bl (!b))
section
variable {X : Cx} {g : Gx} {W : WX}
theorem eqG_out {α β : Type} {σ : L2.St} {P : Mp → Hp → α → β → Prop} {m : Mp} {H : Hp} {S : Store} {x y : D} {v w : V} {k : Bool → M α} {Q : β → Hp → Prop} (K : PySem.W.Frag) (s : SimS g.cl m S H) (rx : Rep m H x v) (ry : Rep m H y w)
    (c : Cont g W σ P m H ((eqG x y >>= k) S) Q) : ∃ d e, Dp K H v d ∧ Dp K H w e ∧ SeqAt.shaped d = true ∧ SeqAt.shaped e = true ∧ Cont g W σ P m H (k (PyData.eqv d e) S) Q := by
  have c' : Cont g W σ P m H (M.bind (eqG x y) k S) Q := c
  unfold M.bind eqG at c'
  cases q1 : toPD S 12 x with
  | none => rw [q1] at c'; exact c'.elim
  | some d =>
    cases q2 : toPD S 12 y with
    | none => rw [q1, q2] at c'; exact c'.elim
    | some e =>
      rw [q1, q2] at c'
      dsimp only at c'
      by_cases hs : SeqAt.shaped d = true ∧ SeqAt.shaped e = true
      · rw [if_pos hs] at c'
        exact ⟨d, e, dp_of s 12 q1 rx, dp_of s 12 q2 ry, hs.1, hs.2, c'⟩
      · rw [if_neg hs] at c'
        exact c'.elim
theorem eqB_eq (x y : D) : (∃ i j, x = .int i ∧ y = .int j) ∨ (∃ i j, x = .str i ∧ y = .str j) ∨ eqB x y = eqG x y := by
  cases x <;> first | (cases y <;> first | exact .inr (.inr rfl) | exact .inl ⟨_, _, rfl, rfl⟩ | exact .inr (.inl ⟨_, _, rfl, rfl⟩))
/-- the two roads of == -/
theorem eqB_out {α β : Type} {σ : L2.St} {P : Mp → Hp → α → β → Prop} {m : Mp} {H : Hp} {S : Store} {x y : D} {v w : V} {k : Bool → M α} {Q : β → Hp → Prop} (K : PySem.W.Frag) (s : SimS g.cl m S H) (rx : Rep m H x v) (ry : Rep m H y w)
    (c : Cont g W σ P m H ((eqB x y >>= k) S) Q) : (scal v w = true ∧ Cont g W σ P m H (k (decide (v = w)) S) Q) ∨ ∃ d e, Dp K H v d ∧ Dp K H w e ∧ SeqAt.shaped d = true ∧ SeqAt.shaped e = true ∧ Cont g W σ P m H (k (PyData.eqv d e) S) Q := by
  rcases eqB_eq x y with ⟨i, j, rfl, rfl⟩ | ⟨i, j, rfl, rfl⟩ | e
  · cases rx
    cases ry
    refine .inl ⟨rfl, ?_⟩
    have e : decide (V.int i = V.int j) = decide (i = j) := by
      by_cases h : i = j
      · rw [h]; simp
      · rw [decide_eq_false h, decide_eq_false fun q => h (V.int.inj q)]
    rw [e]
    exact c
  · cases rx
    cases ry
    refine .inl ⟨rfl, ?_⟩
    have e : decide (V.str i = V.str j) = decide (i = j) := by
      by_cases h : i = j
      · rw [h]; simp
      · rw [decide_eq_false h, decide_eq_false fun q => h (V.str.inj q)]
    rw [e]
    exact c
  · rw [e] at c
    exact .inr (eqG_out K s rx ry c)
theorem oi_eq (K : PySem.W.Frag) : OpI g W eqD (fun x y H Q => rEq x y H Q ∨ rEqD K x y H Q) := by
  intro σ m H S x y v w Q s rx ry c
  rcases eqB_out K s rx ry c with ⟨h, c⟩ | ⟨d, e, h1, h2, h3, h4, c⟩
  · exact .inl ⟨h, c.ok s .bl⟩
  · exact .inr ⟨d, e, h1, h2, h3, h4, c.ok s .bl⟩
theorem oi_ne (K : PySem.W.Frag) : OpI g W neD (fun x y H Q => rNe x y H Q ∨ rNeD K x y H Q) := by
  intro σ m H S x y v w Q s rx ry c
  rcases eqB_out K s rx ry c with ⟨h, c⟩ | ⟨d, e, h1, h2, h3, h4, c⟩
  · exact .inl ⟨h, c.ok s .bl⟩
  · exact .inr ⟨d, e, h1, h2, h3, h4, c.ok s .bl⟩

/-! ### is -/
def isN : D → D → M D
  | .non, .non => pure (.bl true)
  | _, .non => pure (.bl false)
  | .bl a, .bl b => pure (.bl (decide (a = b)))
  | _, _ => M.fail
def isnotN : D → D → M D
  | .non, .non => pure (.bl false)
  | _, .non => pure (.bl true)
  | .bl a, .bl b => pure (.bl (!decide (a = b)))
  | _, _ => M.fail
theorem oi_is : OpI g W isN (fun x y H Q => (y = .non ∧ Q (.bl (decide (x = .non))) H) ∨ ∃ a b, x = .bl a ∧ y = .bl b ∧ Q (.bl (decide (a = b))) H) := by
  intro σ m H S x y v w Q s rx ry c
  cases ry with
  | non =>
    refine .inl ⟨rfl, ?_⟩
    cases rx <;> first | (rw [decide_eq_true (by rfl)]; exact c.ok s .bl) | (rw [decide_eq_false (by intro h; cases h)]; exact c.ok s .bl)
  | bl => cases rx with
    | bl => exact .inr ⟨_, _, rfl, rfl, c.ok s .bl⟩
    | _ => exact c.elim
  | _ => cases rx <;> exact c.elim
theorem oi_isnot : OpI g W isnotN (fun x y H Q => (y = .non ∧ Q (.bl (!decide (x = .non))) H) ∨ ∃ a b, x = .bl a ∧ y = .bl b ∧ Q (.bl (!decide (a = b))) H) := by
  intro σ m H S x y v w Q s rx ry c
  cases ry with
  | non =>
    refine .inl ⟨rfl, ?_⟩
    cases rx <;> first | (rw [decide_eq_true (by rfl)]; exact c.ok s .bl) | (rw [decide_eq_false (by intro h; cases h)]; exact c.ok s .bl)
  | bl => cases rx with
    | bl => exact .inr ⟨_, _, rfl, rfl, c.ok s .bl⟩
    | _ => exact c.elim
  | _ => cases rx <;> exact c.elim

/-! ### order -/
def leTup (ns ms : List Int) : Bool := lexLeI ns ms
theorem intsOf_rep {K : PySem.W.Frag} {m : Mp} {H : Hp} {xs : List D} {vs : List V} {ns : List Int} {a : Addr} (e : intsOf xs = some ns) (h : H a = some (.tup vs)) (r : Reps m H xs vs) : SqT K H a (ns.map V.int) := by
  rw [intsOf_some e] at r
  rw [r.ints] at h
  exact .of h
theorem oi_lt (K : PySem.W.Frag) : OpI g W ltD (fun x y H Q => rI0 (fun i j => .bl (decide (i < j))) x y H Q ∨ rLtT K x y H Q) := by
  intro σ m H S x y v w Q s rx ry c
  cases rx with
  | int => cases ry with
    | int => exact .inl ⟨_, _, rfl, rfl, c.ok s .bl⟩
    | _ => exact c.elim
  | tup h z r => cases ry with
    | tup h' z' r' =>
      rename_i a xs vs b ys ws
      have c' : Cont g W σ (fun m H => Rep m H) m H ((match intsOf xs, intsOf ys with
        | some ns, some ms => (pure (.bl (HT.lexLt ns ms)) : M D)
        | _, _ => M.fail) S) Q := c
      cases e1 : intsOf xs with
      | none => rw [e1] at c'; exact c'.elim
      | some ns =>
        cases e2 : intsOf ys with
        | none => rw [e1, e2] at c'; exact c'.elim
        | some ms =>
          rw [e1, e2] at c'
          exact .inr ⟨a, b, ns, ms, rfl, rfl, intsOf_rep e1 h r, intsOf_rep e2 h' r', c'.ok s .bl⟩
    | _ => exact c.elim
  | _ => cases ry <;> exact c.elim
/-- <= of two tuples of ints, as the library tells it -/
def leAt (ns ms : List Int) : Bool := Ob.lexAt (fun j => decide (ns.getD j 0 = ms.getD j 0)) (fun j => decide (ns.getD j 0 ≤ ms.getD j 0)) (decide (ns.length ≤ ms.length)) 0 (min ns.length ms.length)
def leD2 : D → D → M D
  | .int i, .int j => pure (.bl (decide (i ≤ j)))
  | .tup xs, .tup ys => match intsOf xs, intsOf ys with
    | some ns, some ms => pure (.bl (leAt ns ms))
    | _, _ => M.fail
  | _, _ => M.fail
theorem oi_le (K : PySem.W.Frag) : OpI g W leD2 (fun x y H Q => rI0 (fun i j => .bl (decide (i ≤ j))) x y H Q ∨ rLeT K x y H Q) := by
  intro σ m H S x y v w Q s rx ry c
  cases rx with
  | int => cases ry with
    | int => exact .inl ⟨_, _, rfl, rfl, c.ok s .bl⟩
    | _ => exact c.elim
  | tup h z r => cases ry with
    | tup h' z' r' =>
      rename_i a xs vs b ys ws
      have c' : Cont g W σ (fun m H => Rep m H) m H ((match intsOf xs, intsOf ys with
        | some ns, some ms => (pure (.bl (leAt ns ms)) : M D)
        | _, _ => M.fail) S) Q := c
      cases e1 : intsOf xs with
      | none => rw [e1] at c'; exact c'.elim
      | some ns =>
        cases e2 : intsOf ys with
        | none => rw [e1, e2] at c'; exact c'.elim
        | some ms =>
          rw [e1, e2] at c'
          exact .inr ⟨a, b, ns, ms, rfl, rfl, intsOf_rep e1 h r, intsOf_rep e2 h' r', c'.ok s .bl⟩
    | _ => exact c.elim
  | _ => cases ry <;> exact c.elim
theorem oi_gt : OpI g W gtD (rI0 fun i j => .bl (decide (j < i))) := by
  intro σ m H S x y v w Q s rx ry c
  cases rx with
  | int => cases ry with
    | int => exact ⟨_, _, rfl, rfl, c.ok s .bl⟩
    | _ => exact c.elim
  | _ => cases ry <;> exact c.elim
theorem oi_ge : OpI g W geD (rI0 fun i j => .bl (decide (j ≤ i))) := by
  intro σ m H S x y v w Q s rx ry c
  cases rx with
  | int => cases ry with
    | int => exact ⟨_, _, rfl, rfl, c.ok s .bl⟩
    | _ => exact c.elim
  | _ => cases ry <;> exact c.elim

/-! ### in, of flat items -/
def flatD : D → Bool
  | .non => true
  | .bl _ => true
  | .int _ => true
  | .str _ => true
  | _ => false
/-- == of flat values -/
def eqF : D → D → Bool
  | .non, .non => true
  | .bl a, .bl b => a == b
  | .bl a, .int b => (if a then 1 else 0) == b
  | .int a, .bl b => a == (if b then 1 else 0)
  | .int a, .int b => a == b
  | .str a, .str b => a == b
  | _, _ => false
def inD (neg : Bool) (x y : D) : M D := do
  let xs ← seqOf y
  M.want (flatD x = true ∧ xs.all flatD = true) (pure (.bl (if neg then !(xs.any fun z => eqF z x) else xs.any fun z => eqF z x)))
theorem flat_rep {m : Mp} {H : Hp} {x : D} {v : V} (r : Rep m H x v) (h : flatD x = true) : flatV v = true := by
  cases r <;> first | rfl | cases h
theorem flats_rep {m : Mp} {H : Hp} : ∀ {xs : List D} {vs : List V}, Reps m H xs vs → xs.all flatD = true → vs.all flatV = true
  | _, _, .nil, _ => rfl
  | _, _, .cons a b, h => by
    simp only [List.all_cons, Bool.and_eq_true] at h ⊢
    exact ⟨flat_rep a h.1, flats_rep b h.2⟩
theorem eqF_rep {m : Mp} {H : Hp} {x y : D} {v w : V} (r : Rep m H x v) (r' : Rep m H y w) (h : flatD x = true) (h' : flatD y = true) : eqV v w = eqF x y := by
  cases r <;> first | (cases r' <;> first | rfl | cases h') | cases h
theorem inV_rep {m : Mp} {H : Hp} {x : D} {v : V} (r : Rep m H x v) (h : flatD x = true) : ∀ {xs : List D} {vs : List V}, Reps m H xs vs → xs.all flatD = true → inV v vs = xs.any fun z => eqF z x
  | _, _, .nil, _ => rfl
  | _, _, .cons a b, q => by
    simp only [List.all_cons, Bool.and_eq_true] at q
    unfold inV
    rw [List.any_cons, List.any_cons, eqF_rep a r q.1 h]
    congr 1
    exact inV_rep r h b q.2
theorem oi_in (K : PySem.W.Frag) (neg : Bool) : OpI g W (inD neg) (rIn K neg) := by
  intro σ m H S x y v w Q s rx ry c
  obtain ⟨xs, a, vs, rfl, hs, z, r, c⟩ := c.seq s ry
  obtain ⟨⟨f1, f2⟩, c⟩ := c.want
  refine ⟨a, vs, rfl, ?_, flat_rep rx f1, flats_rep r f2, ?_⟩
  · rcases hs with h | h
    · exact .inl (.inl h)
    · exact .inr (.of h)
  · rw [inV_rep rx f1 r f2]
    exact c.ok s .bl
/-- a sign in a text -/
def inS (neg : Bool) : D → D → M D
  | .str x, .str z => M.want (x.cps.size = 1) (pure (.bl (if neg then !decide (x.cps.getD 0 0 ∈ z.cps.toList) else decide (x.cps.getD 0 0 ∈ z.cps.toList))))
  | _, _ => M.fail
theorem sign_of {x : Str} (h : x.cps.size = 1) : x = ⟨#[x.cps.getD 0 0]⟩ := by
  obtain ⟨a⟩ := x
  simp only at h ⊢
  congr 1
  apply Array.ext
  · simpa using h
  · intro i h1 h2
    have : i = 0 := by omega
    subst this
    simp [Array.getD, h1]
theorem oi_inS : OpI g W (inS false) (fun x y H Q => ∃ (c : Nat) (z : Str), x = .str ⟨#[c]⟩ ∧ y = .str z ∧ Q (.bl (decide (c ∈ z.cps.toList))) H) := by
  intro σ m H S x y v w Q s rx ry c
  cases rx with
  | str => cases ry with
    | str =>
      obtain ⟨h, c⟩ := c.want
      exact ⟨_, _, congrArg V.str (sign_of h), rfl, c.ok s .bl⟩
    | _ => exact c.elim
  | _ => cases ry <;> exact c.elim
theorem oi_ninS : OpI g W (inS true) (fun x y H Q => ∃ (c : Nat) (z : Str), x = .str ⟨#[c]⟩ ∧ y = .str z ∧ Q (.bl (!decide (c ∈ z.cps.toList))) H) := by
  intro σ m H S x y v w Q s rx ry c
  cases rx with
  | str => cases ry with
    | str =>
      obtain ⟨h, c⟩ := c.want
      exact ⟨_, _, congrArg V.str (sign_of h), rfl, c.ok s .bl⟩
    | _ => exact c.elim
  | _ => cases ry <;> exact c.elim

/-! the comparisons, by name -/
section
variable {a b : Expr} {pos : Pos} {fa fb : DEnv → M D} (ha : PE X a (TrE g W fa)) (hb : PE X b (TrE g W fb))
include ha hb
theorem s_eq (hu : X.A.units + 64 < cLine) : PE X (.Compare a [.Eq] [b] pos) (TrE g W (eBin eqD fa fb)) := s_cmp (op_eq.or (op_eqD hu)) (oi_eq X.K) ha hb (nomark _)
theorem s_ne (hu : X.A.units + 64 < cLine) : PE X (.Compare a [.NotEq] [b] pos) (TrE g W (eBin neD fa fb)) := s_cmp (op_ne.or (op_neD hu)) (oi_ne X.K) ha hb (nomark _)
theorem s_lt (hu : X.A.units + 64 < cLine) : PE X (.Compare a [.Lt] [b] pos) (TrE g W (eBin ltD fa fb)) := s_cmp (op_lt.or (op_ltT (by omega))) (oi_lt X.K) ha hb (nomark _)
theorem s_le (hu : X.A.units + 64 < cLine) : PE X (.Compare a [.LtE] [b] pos) (TrE g W (eBin leD2 fa fb)) := s_cmp (op_le.or (op_leT (by omega))) (oi_le X.K) ha hb (nomark _)
theorem s_gt : PE X (.Compare a [.Gt] [b] pos) (TrE g W (eBin gtD fa fb)) := s_cmp op_gt oi_gt ha hb (nomark _)
theorem s_ge : PE X (.Compare a [.GtE] [b] pos) (TrE g W (eBin geD fa fb)) := s_cmp op_ge oi_ge ha hb (nomark _)
theorem s_is : PE X (.Compare a [.Is] [b] pos) (TrE g W (eBin isN fa fb)) := s_cmp (op_isN.or op_is_bl) oi_is ha hb (nomark _)
theorem s_isnot : PE X (.Compare a [.IsNot] [b] pos) (TrE g W (eBin isnotN fa fb)) := s_cmp (op_notN.or op_isnot_bl) oi_isnot ha hb (nomark _)
theorem s_in (hm : behindInMarks .In b = false) : PE X (.Compare a [.In] [b] pos) (TrE g W (eBin (inD false) fa fb)) := s_cmp op_in_seq (oi_in X.K false) ha hb hm
theorem s_nin (hm : behindInMarks .NotIn b = false) : PE X (.Compare a [.NotIn] [b] pos) (TrE g W (eBin (inD true) fa fb)) := s_cmp op_notIn_seq (oi_in X.K true) ha hb hm
theorem s_inS (hm : behindInMarks .In b = false) : PE X (.Compare a [.In] [b] pos) (TrE g W (eBin (inS false) fa fb)) := s_cmp op_in_sign oi_inS ha hb hm
theorem s_ninS (hm : behindInMarks .NotIn b = false) : PE X (.Compare a [.NotIn] [b] pos) (TrE g W (eBin (inS true) fa fb)) := s_cmp op_notIn_sign oi_ninS ha hb hm
theorem t_eq (hu : X.A.units + 64 < cLine) : PT X (.Compare a [.Eq] [b] pos) (TrT g W (tOf (eBin eqD fa fb))) := t_cmp (op_eq.or (op_eqD hu)) (oi_eq X.K) ha hb (nomark _)
theorem t_ne (hu : X.A.units + 64 < cLine) : PT X (.Compare a [.NotEq] [b] pos) (TrT g W (tOf (eBin neD fa fb))) := t_cmp (op_ne.or (op_neD hu)) (oi_ne X.K) ha hb (nomark _)
theorem t_lt (hu : X.A.units + 64 < cLine) : PT X (.Compare a [.Lt] [b] pos) (TrT g W (tOf (eBin ltD fa fb))) := t_cmp (op_lt.or (op_ltT (by omega))) (oi_lt X.K) ha hb (nomark _)
theorem t_le (hu : X.A.units + 64 < cLine) : PT X (.Compare a [.LtE] [b] pos) (TrT g W (tOf (eBin leD2 fa fb))) := t_cmp (op_le.or (op_leT (by omega))) (oi_le X.K) ha hb (nomark _)
theorem t_gt : PT X (.Compare a [.Gt] [b] pos) (TrT g W (tOf (eBin gtD fa fb))) := t_cmp op_gt oi_gt ha hb (nomark _)
theorem t_ge : PT X (.Compare a [.GtE] [b] pos) (TrT g W (tOf (eBin geD fa fb))) := t_cmp op_ge oi_ge ha hb (nomark _)
theorem t_is : PT X (.Compare a [.Is] [b] pos) (TrT g W (tOf (eBin isN fa fb))) := t_cmp (op_isN.or op_is_bl) oi_is ha hb (nomark _)
theorem t_isnot : PT X (.Compare a [.IsNot] [b] pos) (TrT g W (tOf (eBin isnotN fa fb))) := t_cmp (op_notN.or op_isnot_bl) oi_isnot ha hb (nomark _)
theorem t_in (hm : behindInMarks .In b = false) : PT X (.Compare a [.In] [b] pos) (TrT g W (tOf (eBin (inD false) fa fb))) := t_cmp op_in_seq (oi_in X.K false) ha hb hm
theorem t_nin (hm : behindInMarks .NotIn b = false) : PT X (.Compare a [.NotIn] [b] pos) (TrT g W (tOf (eBin (inD true) fa fb))) := t_cmp op_notIn_seq (oi_in X.K true) ha hb hm
theorem t_inS (hm : behindInMarks .In b = false) : PT X (.Compare a [.In] [b] pos) (TrT g W (tOf (eBin (inS false) fa fb))) := t_cmp op_in_sign oi_inS ha hb hm
theorem t_ninS (hm : behindInMarks .NotIn b = false) : PT X (.Compare a [.NotIn] [b] pos) (TrT g W (tOf (eBin (inS true) fa fb))) := t_cmp op_notIn_sign oi_ninS ha hb hm
end

/-! ### chains -/
def eChain (op op' : D → D → M D) (a b c : DEnv → M D) : DEnv → M D := fun ρ => do
  let x ← a ρ
  let y ← b ρ
  let z ← op x y
  let k ← boolOf z
  if k = true then (do let w ← c ρ; op' y w) else pure (.bl false)
theorem chain_run {σ : L2.St} {Q : VK} {m : Mp} {H : Hp} {S : Store} {ρ : DEnv} {x y : D} {v w : V} {op op' : D → D → M D} {r r' : R2} {fc : DEnv → M D} (hi : OpI g W op r) (hi' : OpI g W op' r') (e : ERep m H ρ σ) (s : SimS g.cl m S H) (rx : Rep m H x v) (ry : Rep m H y w)
    (c : Cont g W σ (fun m H => Rep m H) m H ((do let z ← op x y; let k ← boolOf z; if k = true then (do let w ← fc ρ; op' y w) else (pure (.bl false) : M D)) S) Q) :
    r v w H fun z H3 => ∃ k, z = .bl k ∧ (if k = true then TrE g W fc σ H3 fun w' H4 => r' w w' H4 Q else Q (.bl false) H3) := by
  refine hi σ m H S x y v w _ s rx ry ((Cont.bind (P := fun m H => Rep m H) c).imp fun z H1 ⟨d, S1, m1, e1, s1, r1, c1⟩ => ?_)
  obtain ⟨k, rfl, rfl, c2⟩ := bool_of r1 c1
  refine ⟨k, rfl, ?_⟩
  cases k with
  | false => exact c2.ok s1 .bl
  | true =>
    refine ⟨ρ, S1, m1, e.mono e1, s1, (Cont.bind (P := fun m H => Rep m H) c2).imp fun w' H2 ⟨y', S2, m2, e2, s2, r2, c3⟩ => ?_⟩
    exact hi' σ m2 H2 S2 y y' w w' Q s2 (ry.mono (e1.trans e2)) r2 c3
theorem s_chain {a b c : Expr} {pos : Pos} {o o' : CmpOp} {r r' : R2} {op op' : D → D → M D} {fa fb fc : DEnv → M D} (ho : OpR X (compareOp o) r) (hi : OpI g W op r) (ho' : OpR X (compareOp o') r') (hi' : OpI g W op' r')
    (ha : PE X a (TrE g W fa)) (hb : PE X b (TrE g W fb)) (hc : PE X c (TrE g W fc)) (hm : lastMarks [o, o'] [b, c] = false := by with_unfolding_all rfl) : PE X (.Compare a [o, o'] [b, c] pos) (TrE g W (eChain op op' fa fb fc)) := by
  refine PE.wk (pe_chain ho ho' ha hb hc hm) fun σ H Q ⟨ρ, S, m, e, s, c⟩ => ?_
  exact two (fun _ _ _ h => h) (fun _ _ _ h => h) e s c fun m2 H2 S2 x y v w e2 s2 rx ry c2 => chain_run hi hi' (e.mono e2) s2 rx ry c2
theorem tru_bl {σ : L2.St} {Q : Bool → Hp → Prop} {m : Mp} {H : Hp} {S : Store} {f : M D} (c : Cont g W σ (fun _ _ a b => a = b) m H ((f >>= boolOf) S) Q) : Cont g W σ (fun m H => Rep m H) m H (f S) fun z H' => ∃ k, z = .bl k ∧ Q k H' :=
  (Cont.bind (P := fun m H => Rep m H) c).imp fun z H1 ⟨d, S1, m1, e1, s1, r1, c1⟩ => bool_out s1 r1 c1
theorem t_chain {a b c : Expr} {pos : Pos} {o o' : CmpOp} {r r' : R2} {op op' : D → D → M D} {fa fb fc : DEnv → M D} (ho : OpR X (compareOp o) r) (hi : OpI g W op r) (ho' : OpR X (compareOp o') r') (hi' : OpI g W op' r')
    (ha : PE X a (TrE g W fa)) (hb : PE X b (TrE g W fb)) (hc : PE X c (TrE g W fc)) (hm : lastMarks [o, o'] [b, c] = false := by with_unfolding_all rfl) : PT X (.Compare a [o, o'] [b, c] pos) (TrT g W (tOf (eChain op op' fa fb fc))) := by
  refine PT.wk (pt_chain ho ho' ha hb hc hm) fun σ H Q ⟨ρ, S, m, e, s, c⟩ => ?_
  exact two (fun _ _ _ h => h) (fun _ _ _ h => h) e s (tru_bl c) fun m2 H2 S2 x y v w e2 s2 rx ry c2 => chain_run hi hi' (e.mono e2) s2 rx ry c2
end
end
end LP

set_option Elab.async false
set_option linter.all false
set_option maxRecDepth 100000
set_option maxHeartbeats 2000000
namespace LP
open PySem PySem.Spec L2
set_option autoImplicit false
noncomputable section

/-! ### an item -/
def idxD (x i : D) : M D := match i with
  | .int k => do
    let xs ← seqOf x
    match atI xs k with
    | some v => pure v
    | none => M.fail
  | _ => M.fail
/-- a sign of a text -/
def idxS (x i : D) : M D := match x, i with
  | .str z, .int k => match atI z.cps.toList k with
    | some c => M.want (z.length ≤ sizeLine) (pure (.str ⟨#[c]⟩))
    | none => M.fail
  | _, _ => M.fail
section
variable {X : Cx} {g : Gx} {W : WX}
theorem Reps.atI {m : Mp} {H : Hp} {ds : List D} {vs : List V} (r : Reps m H ds vs) {k : Int} {d : D} (h : atI ds k = some d) : ∃ v, L2.atI vs k = some v ∧ Rep m H d v := by
  unfold L2.atI at h ⊢
  rw [r.length] at h
  cases q : ixN vs.length k with
  | none => rw [q] at h; cases h
  | some j =>
    rw [q] at h
    exact r.get (i := j) h
theorem Reps.atI_none {m : Mp} {H : Hp} {ds : List D} {vs : List V} (r : Reps m H ds vs) {k : Int} (h : L2.atI vs k = none) : L2.atI ds k = none := by
  cases q : L2.atI ds k with
  | none => rfl
  | some d =>
    obtain ⟨v, hv, _⟩ := r.atI q
    rw [h] at hv; cases hv
theorem oi_idx (K : PySem.W.Frag) : OpI g W idxD (rIx K) := by
  intro σ m H S x y v w Q s rx ry c
  cases ry with
  | int =>
    rename_i k
    obtain ⟨xs, a, vs, rfl, hs, z, r, c⟩ := c.seq s rx
    cases q : atI xs k with
    | none => rw [q] at c; exact c.elim
    | some d =>
      rw [q] at c
      obtain ⟨u, hu, ru⟩ := r.atI q
      rcases hs with h | h
      · exact .inl ⟨a, vs, k, u, rfl, rfl, rdL h, hu, c.ok s ru⟩
      · exact .inr (.inl ⟨a, vs, k, u, rfl, rfl, .of h, hu, c.ok s ru⟩)
  | _ => exact c.elim
theorem oi_idxS : OpI g W idxS rIxS := by
  intro σ m H S x y v w Q s rx ry c
  cases rx with
  | str => cases ry with
    | int =>
      rename_i z k
      have c' : Cont g W σ (fun m H => Rep m H) m H ((match atI z.cps.toList k with
        | some c => M.want (z.length ≤ sizeLine) (pure (.str ⟨#[c]⟩) : M D)
        | none => M.fail) S) Q := c
      cases q : atI z.cps.toList k with
      | none => rw [q] at c'; exact c'.elim
      | some d =>
        rw [q] at c'
        obtain ⟨h, c'⟩ := c'.want
        exact ⟨z, k, d, rfl, rfl, h, q, c'.ok s .str⟩
    | _ => exact c.elim
  | _ => cases ry <;> exact c.elim
theorem s_ix {a b : Expr} {pos : Pos} {fa fb : DEnv → M D} (ha : PE X a (TrE g W fa)) (hb : PE X b (TrE g W fb)) (hs : PlainIx b) : PE X (.Subscript a b pos) (TrE g W (eBin idxD fa fb)) := by
  refine PE.wk (pe_ix ix_seq ha hb hs) fun σ H Q ⟨ρ, S, m, e, s, c⟩ => ?_
  exact two (fun _ _ _ h => h) (fun _ _ _ h => h) e s c fun m2 H2 S2 x y v w _ s2 rx ry c2 => oi_idx X.K σ m2 H2 S2 x y v w Q s2 rx ry c2
theorem s_ixS {a b : Expr} {pos : Pos} {fa fb : DEnv → M D} (ha : PE X a (TrE g W fa)) (hb : PE X b (TrE g W fb)) (hs : PlainIx b) : PE X (.Subscript a b pos) (TrE g W (eBin idxS fa fb)) := by
  refine PE.wk (pe_ix ix_str ha hb hs) fun σ H Q ⟨ρ, S, m, e, s, c⟩ => ?_
  exact two (fun _ _ _ h => h) (fun _ _ _ h => h) e s c fun m2 H2 S2 x y v w _ s2 rx ry c2 => oi_idxS σ m2 H2 S2 x y v w Q s2 rx ry c2

/-! ### slices -/
def cutD {α : Type} (xs : List α) (lo hi : Option Int) : List α := (xs.drop (HT.sIx xs.length 0 lo)).take (HT.sIx xs.length xs.length hi - HT.sIx xs.length 0 lo)
theorem Reps.cut {m : Mp} {H : Hp} {ds : List D} {vs : List V} (r : Reps m H ds vs) (lo hi : Option Int) : Reps m H (cutD ds lo hi) (cutV vs lo hi) := by
  unfold cutD cutV
  rw [r.length]
  exact (r.drop _).take _
def oNone : DEnv → M (Option Int) := fun _ => pure none
def oSome (f : DEnv → M D) : DEnv → M (Option Int) := fun ρ => do
  let x ← f ρ
  match x with
  | .int i => pure (some i)
  | _ => M.fail
abbrev TrO (g : Gx) (W : WX) (f : DEnv → M (Option Int)) : TO := Tr g W (fun _ _ a b => a = b) f
theorem PO.wk {e : Option Expr} {t t' : TO} (h : PO X e t) (i : ∀ σ H Q, t' σ H Q → t σ H Q) : PO X e t' := ⟨fun pins s σ H Q I q => h.run pins s σ H Q I (i σ H Q q)⟩
theorem o_none : PO X none (TrO g W oNone) := PO.wk po_none fun σ H Q ⟨ρ, S, m, e, s, c⟩ => c.ok s rfl
theorem o_some {e : Expr} {f : DEnv → M D} (h : PE X e (TrE g W f)) : PO X (some e) (TrO g W (oSome f)) := by
  refine PO.wk (po_some h) fun σ H Q ⟨ρ, S, m, e, s, c⟩ => ?_
  refine ⟨ρ, S, m, e, s, (Cont.bind (P := fun m H => Rep m H) c).imp fun v H1 ⟨x, S1, m1, e1, s1, r1, c1⟩ => ?_⟩
  cases r1 with
  | int => exact ⟨_, rfl, c1.ok s1 rfl⟩
  | _ => exact c1.elim
def eSlT (f : DEnv → M D) (lo hi : DEnv → M (Option Int)) : DEnv → M D := fun ρ => do
  let x ← f ρ
  let a ← lo ρ
  let b ← hi ρ
  match x with
  | .tup xs => pure (.tup (cutD xs a b))
  | _ => M.fail
theorem slice_run {α β : Type} {P : Mp → Hp → α → β → Prop} {f : DEnv → M D} {lo hi : DEnv → M (Option Int)} {k : D → Option Int → Option Int → M α} {σ : L2.St} {H : Hp} {Q : β → Hp → Prop} {ρ : DEnv} {S : Store} {m : Mp} (e : ERep m H ρ σ) (s : SimS g.cl m S H)
    (c : Cont g W σ P m H ((do let x ← f ρ; let a ← lo ρ; let b ← hi ρ; k x a b) S) Q) {R : V → Option Int → Option Int → Hp → Prop}
    (h : ∀ m2 H2 S2 x v a b, SimS g.cl m2 S2 H2 → Rep m2 H2 x v → Cont g W σ P m2 H2 (k x a b S2) Q → R v a b H2) : TrE g W f σ H fun v H1 => TrO g W lo σ H1 fun a H2 => TrO g W hi σ H2 fun b H3 => R v a b H3 := by
  refine ⟨ρ, S, m, e, s, (Cont.bind (P := fun m H => Rep m H) c).imp fun v H1 ⟨x, S1, m1, e1, s1, r1, c1⟩ => ?_⟩
  refine ⟨ρ, S1, m1, e.mono e1, s1, (Cont.bind (P := fun _ _ a b => a = b) c1).imp fun a H2 ⟨a', S2, m2, e2, s2, r2, c2⟩ => ?_⟩
  have r2 : a' = a := r2
  subst r2
  refine ⟨ρ, S2, m2, (e.mono e1).mono e2, s2, (Cont.bind (P := fun _ _ a b => a = b) c2).imp fun b H3 ⟨b', S3, m3, e3, s3, r3, c3⟩ => ?_⟩
  have r3 : b' = b := r3
  subst r3
  exact h m3 H3 S3 x v a' b' s3 ((r1.mono e2).mono e3) c3
theorem s_slT {a : Expr} {lo hi : Option Expr} {pos p2 : Pos} {f : DEnv → M D} {fl fh : DEnv → M (Option Int)} (ha : PE X a (TrE g W f)) (hl : PO X lo (TrO g W fl)) (hh : PO X hi (TrO g W fh)) : PE X (.Subscript a (.Slice lo hi none p2) pos) (TrE g W (eSlT f fl fh)) := by
  refine PE.wk (pe_slice sl_tupA ha hl hh) fun σ H Q ⟨ρ, S, m, e, s, c⟩ => ?_
  refine slice_run e s c fun m2 H2 S2 x v a b s2 r2 c2 => ?_
  cases r2 with
  | tup h z r =>
    rename_i p xs vs
    refine ⟨p, vs, rfl, .of h, fun q => ?_, fun _ l hn => ?_⟩
    · have e1 : cutD xs a b = xs := by
        unfold cutD
        rw [r.length, q.1, q.2, List.drop_zero, Nat.sub_zero]
        exact List.take_of_length_le (Nat.le_of_eq r.length)
      have c3 : Cont g W σ (fun m H => Rep m H) m2 H2 (.ok (.tup (cutD xs a b)) S2) Q := c2
      rw [e1] at c3
      exact c3.ok s2 (.tup h z r)
    · have c3 : Cont g W σ (fun m H => Rep m H) m2 H2 (.ok (.tup (cutD xs a b)) S2) Q := c2
      exact c3.tmp s2 hn fun e _ => .tup upd_same (Nat.le_trans (cutV_length _ _ _) z) ((r.cut a b).mono e)
  | _ => exact c2.elim
def nSlL (f : DEnv → M D) (lo hi : DEnv → M (Option Int)) : DEnv → M (List D) := fun ρ => do
  let x ← f ρ
  let a ← lo ρ
  let b ← hi ρ
  let xs ← listOf x
  pure (cutD xs a b)
theorem n_slL {a : Expr} {lo hi : Option Expr} {pos p2 : Pos} {f : DEnv → M D} {fl fh : DEnv → M (Option Int)} (ha : PE X a (TrE g W f)) (hl : PO X lo (TrO g W fl)) (hh : PO X hi (TrO g W fh)) : PE X (.Subscript a (.Slice lo hi none p2) pos) (TrN g W (nSlL f fl fh)) := by
  refine PE.wk (pe_slice sl_list ha hl hh) fun σ H Q ⟨ρ, S, m, e, s, c⟩ => ?_
  refine slice_run e s c fun m2 H2 S2 x v a b s2 r2 c2 => ?_
  obtain ⟨xs, p, vs, rfl, hs, z, r, c3⟩ := Cont.list s2 r2 c2
  exact ⟨p, vs, rfl, rdL hs, fun l hn => ContN.ok c3 s2 (r.cut a b) (Nat.le_trans (cutV_length _ _ _) z) hn⟩
def eSlS (f : DEnv → M D) (lo hi : DEnv → M (Option Int)) : DEnv → M D := fun ρ => do
  let x ← f ρ
  let a ← lo ρ
  let b ← hi ρ
  match x with
  | .str z => M.want (z.length ≤ sizeLine) (pure (.str (cutS z a b)))
  | _ => M.fail
theorem s_slS {a : Expr} {lo hi : Option Expr} {pos p2 : Pos} {f : DEnv → M D} {fl fh : DEnv → M (Option Int)} (ha : PE X a (TrE g W f)) (hl : PO X lo (TrO g W fl)) (hh : PO X hi (TrO g W fh)) : PE X (.Subscript a (.Slice lo hi none p2) pos) (TrE g W (eSlS f fl fh)) := by
  refine PE.wk (pe_slice sl_str ha hl hh) fun σ H Q ⟨ρ, S, m, e, s, c⟩ => ?_
  refine slice_run e s c fun m2 H2 S2 x v a b s2 r2 c2 => ?_
  cases r2 with
  | str =>
    obtain ⟨h, c2⟩ := c2.want
    exact ⟨_, rfl, h, c2.ok s2 .str⟩
  | _ => exact c2.elim

/-! ### dicts -/
def keyD : D → Option Key
  | .int i => some (.inl i)
  | .str x => some (.inr x)
  | _ => none
def keyT : D → Option (List Key)
  | .tup xs => xs.mapM keyD
  | _ => none
def lkp {κ : Type} [DecidableEq κ] (kvs : List (κ × D)) (k : κ) : Option D := (kvs.find? fun kv => decide (kv.1 = k)).map (·.2)
def putD {κ : Type} [DecidableEq κ] (kvs : List (κ × D)) (k : κ) (v : D) : List (κ × D) := if kvs.any (fun kv => decide (kv.1 = k)) then kvs.map (fun kv => if kv.1 = k then (kv.1, v) else kv) else kvs ++ [(k, v)]
inductive Dic where
  | k (kvs : List (Key × D)) | t (kvs : List (List Key × D))
def dicOf : D → M Dic
  | .dk kvs => pure (.k kvs)
  | .dt kvs => pure (.t kvs)
  | .loc n => fun S => match S[n]? with
    | some (.dk kvs) => .ok (.k kvs) S
    | some (.dt kvs) => .ok (.t kvs) S
    | _ => .bad
  | _ => M.fail
def dlk (d : Dic) (k : D) : M (Option D) := match d with
  | .k kvs => match keyD k with
    | some k => pure (lkp kvs k)
    | none => M.fail
  | .t kvs => match keyT k with
    | some k => pure (lkp kvs k)
    | none => M.fail
section
variable {m : Mp} {H : Hp} {S : Store}
theorem dicOf_rep {d : D} {v : V} (s : SimS g.cl m S H) (r : Rep m H d v) : (dicOf d S = .bad) ∨ (∃ kvs a ws, dicOf d S = .ok (.k kvs) S ∧ v = .ref a ∧ H a = some (.dK ws) ∧ KReps m H kvs ws) ∨ (∃ kvs a ws, dicOf d S = .ok (.t kvs) S ∧ v = .ref a ∧ H a = some (.dT ws) ∧ TReps m H kvs ws) := by
  cases r with
  | dk h n r => exact .inr (.inl ⟨_, _, _, rfl, rfl, h, r⟩)
  | dt h n r => exact .inr (.inr ⟨_, _, _, rfl, rfl, h, r⟩)
  | loc h =>
    rename_i n a
    obtain ⟨o, ho, q⟩ := s.in h
    have e : dicOf (.loc n) S = (match S[n]? with
      | some (.dk kvs) => R.ok (.k kvs) S
      | some (.dt kvs) => .ok (.t kvs) S
      | _ => .bad) := rfl
    rw [e, ho]
    cases o with
    | dk kvs =>
      obtain ⟨ws, h1, h2⟩ := q
      exact .inr (.inl ⟨kvs, a, ws, rfl, rfl, h1, h2⟩)
    | dt kvs =>
      obtain ⟨ws, h1, h2⟩ := q
      exact .inr (.inr ⟨kvs, a, ws, rfl, rfl, h1, h2⟩)
    | _ => exact .inl rfl
  | _ => exact .inl rfl
theorem KReps.lkp : ∀ {kvs : List (Key × D)} {ws : List (Key × V)}, KReps m H kvs ws → ∀ (k : Key), (LP.lkp kvs k = none ∧ valV ws k = none) ∨ ∃ d v, LP.lkp kvs k = some d ∧ valV ws k = some v ∧ Rep m H d v
  | _, _, .nil, _ => .inl ⟨rfl, rfl⟩
  | _, _, .cons (k := k') (xs := xs) (vs := vs) a b, k => by
    by_cases h : k' = k
    · subst h
      refine .inr ⟨_, _, ?_, ?_, a⟩
      · unfold LP.lkp; simp
      · unfold valV; simp
    · have e1 : ∀ x, LP.lkp ((k', x) :: xs) k = LP.lkp xs k := fun x => by unfold LP.lkp; simp [h]
      have e2 : ∀ x, valV ((k', x) :: vs) k = valV vs k := fun x => by unfold valV; simp [h]
      rw [e1, e2]
      exact KReps.lkp b k
theorem TReps.lkp : ∀ {kvs : List (List Key × D)} {ws : List (List Key × V)}, TReps m H kvs ws → ∀ (k : List Key), (LP.lkp kvs k = none ∧ valV ws k = none) ∨ ∃ d v, LP.lkp kvs k = some d ∧ valV ws k = some v ∧ Rep m H d v
  | _, _, .nil, _ => .inl ⟨rfl, rfl⟩
  | _, _, .cons (k := k') (xs := xs) (vs := vs) a b, k => by
    by_cases h : k' = k
    · subst h
      refine .inr ⟨_, _, ?_, ?_, a⟩
      · unfold LP.lkp; simp
      · unfold valV; simp
    · have e1 : ∀ x, LP.lkp ((k', x) :: xs) k = LP.lkp xs k := fun x => by unfold LP.lkp; simp [h]
      have e2 : ∀ x, valV ((k', x) :: vs) k = valV vs k := fun x => by unfold valV; simp [h]
      rw [e1, e2]
      exact TReps.lkp b k
theorem key_rep {d : D} {v : V} {k : Key} (r : Rep m H d v) (h : keyD d = some k) : v = kV k := by
  cases r <;> first | (cases h; rfl) | cases h
theorem keys_rep : ∀ {ds : List D} {vs : List V} {ks : List Key}, Reps m H ds vs → ds.mapM keyD = some ks → vs = ks.map kV
  | [], _, ks, .nil, h => by
    have : ks = [] := by simpa using h.symm
    subst this
    rfl
  | d :: ds, _, ks, .cons a b, h => by
    rw [List.mapM_cons] at h
    cases q : keyD d with
    | none => rw [q] at h; cases h
    | some k =>
      rw [q] at h
      cases q2 : ds.mapM keyD with
      | none => rw [q2] at h; cases h
      | some ks' =>
        rw [q2] at h
        have h : some (k :: ks') = some ks := h
        have h := Option.some.inj h
        subst h
        rw [key_rep a q, keys_rep b q2]
        rfl
theorem keyT_rep {d : D} {v : V} {k : List Key} (r : Rep m H d v) (h : keyT d = some k) : ∃ b, v = .ref b ∧ H b = some (.tup (k.map kV)) := by
  cases r with
  | tup h1 z r => exact ⟨_, rfl, by rw [h1, keys_rep r h]⟩
  | _ => cases h
/-- a look: what the library wants of it -/
theorem dlk_out {α β : Type} {σ : L2.St} {P : Mp → Hp → α → β → Prop} {k : Option D → M α} {Q : β → Hp → Prop} {d y : D} {v w : V} (s : SimS g.cl m S H) (rd : Rep m H d v) (ry : Rep m H y w)
    (c : Cont g W σ P m H ((do let dc ← dicOf d; let o ← dlk dc y; k o) S) Q) : ∃ a o o', v = .ref a ∧ IsD H a ∧ DGet H a w o' ∧ ((o = none ∧ o' = none) ∨ ∃ e u, o = some e ∧ o' = some u ∧ Rep m H e u) ∧ Cont g W σ P m H (k o S) Q := by
  have c' : Cont g W σ P m H (M.bind (dicOf d) (fun dc => M.bind (dlk dc y) k) S) Q := c
  unfold M.bind at c'
  rcases dicOf_rep s rd with h | ⟨kvs, a, ws, h, rfl, hH, r⟩ | ⟨kvs, a, ws, h, rfl, hH, r⟩
  · rw [h] at c'; exact c'.elim
  · rw [h] at c'
    unfold dlk at c'
    dsimp only at c'
    cases q : keyD y with
    | none => rw [q] at c'; exact c'.elim
    | some ky =>
      rw [q] at c'
      refine ⟨a, LP.lkp kvs ky, valV ws ky, rfl, .inl ⟨_, .inl hH⟩, .inl ⟨ws, ky, .inl hH, key_rep ry q, rfl⟩, ?_, c'⟩
      rcases r.lkp ky with ⟨h1, h2⟩ | ⟨e, u, h1, h2, h3⟩
      · exact .inl ⟨h1, h2⟩
      · exact .inr ⟨e, u, h1, h2, h3⟩
  · rw [h] at c'
    unfold dlk at c'
    dsimp only at c'
    cases q : keyT y with
    | none => rw [q] at c'; exact c'.elim
    | some ky =>
      rw [q] at c'
      obtain ⟨b, rfl, hb⟩ := keyT_rep ry q
      refine ⟨a, LP.lkp kvs ky, valV ws ky, rfl, .inr ⟨_, .inl hH⟩, .inr ⟨ws, ky, b, .inl hH, rfl, hb, rfl⟩, ?_, c'⟩
      rcases r.lkp ky with ⟨h1, h2⟩ | ⟨e, u, h1, h2, h3⟩
      · exact .inl ⟨h1, h2⟩
      · exact .inr ⟨e, u, h1, h2, h3⟩
theorem dicOf_is {α β : Type} {σ : L2.St} {P : Mp → Hp → α → β → Prop} {k : M α} {Q : β → Hp → Prop} {d : D} {v : V} (s : SimS g.cl m S H) (rd : Rep m H d v) (c : Cont g W σ P m H ((do let _ ← dicOf d; k) S) Q) : ∃ a, v = .ref a ∧ IsD H a ∧ Cont g W σ P m H (k S) Q := by
  have c' : Cont g W σ P m H (M.bind (dicOf d) (fun _ => k) S) Q := c
  unfold M.bind at c'
  rcases dicOf_rep s rd with h | ⟨kvs, a, ws, h, rfl, hH, r⟩ | ⟨kvs, a, ws, h, rfl, hH, r⟩
  · rw [h] at c'; exact c'.elim
  · rw [h] at c'; exact ⟨a, rfl, .inl ⟨_, .inl hH⟩, c'⟩
  · rw [h] at c'; exact ⟨a, rfl, .inr ⟨_, .inl hH⟩, c'⟩
end
def eDix (f i : DEnv → M D) : DEnv → M D := fun ρ => do
  let d ← f ρ
  let y ← i ρ
  let dc ← dicOf d
  let o ← dlk dc y
  match o with
  | some e => pure e
  | none => M.fail
theorem s_dix {a b : Expr} {pos : Pos} {f i : DEnv → M D} (hu : X.A.units + 1 < cLine) (ha : PE X a (TrE g W f)) (hb : PE X b (TrE g W i)) (hs : NoSl b) : PE X (.Subscript a b pos) (TrE g W (eDix f i)) := by
  refine PE.wk (pe_dget hu ha hb hs) fun σ H Q ⟨ρ, S, m, e, s, c⟩ => ?_
  refine two (fun _ _ _ h => h) (fun _ _ _ h => h) e s c fun m2 H2 S2 x y v w _ s2 rx ry c2 => ?_
  obtain ⟨p, o, o', rfl, _, hg, ho, c3⟩ := dlk_out s2 rx ry c2
  rcases ho with ⟨rfl, rfl⟩ | ⟨e', u, rfl, rfl, ru⟩
  · exact c3.elim
  · exact ⟨p, u, rfl, hg, c3.ok s2 ru⟩
def eGet (f i x : DEnv → M D) : DEnv → M D := fun ρ => do
  let d ← f ρ
  let _ ← dicOf d
  let y ← i ρ
  let z ← x ρ
  let dc ← dicOf d
  let o ← dlk dc y
  pure (o.getD z)
theorem s_get {o e f : Expr} {apos cpos : Pos} {fo fe ff : DEnv → M D} (hu : X.A.units + 1 < cLine) (ho : PE X o (TrE g W fo)) (he : PE X e (TrE g W fe)) (hf : PE X f (TrE g W ff)) (mm : M2 X o "get" apos e f cpos) :
    PE X (.Call (.Attribute o "get" apos) [e, f] [] cpos) (TrE g W (eGet fo fe ff)) := by
  refine PE.wk (pe_dget2 hu ho he hf mm) fun σ H Q ⟨ρ, S, m, e, s, c⟩ => ?_
  refine ⟨ρ, S, m, e, s, (Cont.bind (P := fun m H => Rep m H) c).imp fun v H1 ⟨d, S1, m1, e1, s1, r1, c1⟩ => ?_⟩
  obtain ⟨a, rfl, hd, c1⟩ := dicOf_is s1 r1 c1
  refine ⟨a, rfl, hd, ?_⟩
  refine two (fun _ _ _ h => h) (fun _ _ _ h => h) (e.mono e1) s1 c1 fun m2 H2 S2 x y v w e2 s2 rx ry c2 => ?_
  obtain ⟨p, oo, o', hp, _, hg, ho, c3⟩ := dlk_out s2 (r1.mono e2) rx c2
  cases hp
  refine ⟨o', hg, ?_⟩
  rcases ho with ⟨rfl, rfl⟩ | ⟨e', u, rfl, rfl, ru⟩
  · exact c3.ok s2 ry
  · exact c3.ok s2 ru
def eDin (neg : Bool) (i f : DEnv → M D) : DEnv → M D := fun ρ => do
  let y ← i ρ
  let d ← f ρ
  let dc ← dicOf d
  let o ← dlk dc y
  pure (.bl (if neg then !o.isSome else o.isSome))
theorem din_run {i f : DEnv → M D} {neg : Bool} {σ : L2.St} {H : Hp} {Q : VK} (h : TrE g W (eDin neg i f) σ H Q) : TrE g W i σ H fun y H1 => TrE g W f σ H1 fun x H2 => ∃ a o, x = .ref a ∧ DGet H2 a y o ∧ Q (.bl (if neg then !o.isSome else o.isSome)) H2 := by
  obtain ⟨ρ, S, m, e, s, c⟩ := h
  refine two (fun _ _ _ h => h) (fun _ _ _ h => h) e s c fun m2 H2 S2 y x w v _ s2 ry rx c2 => ?_
  obtain ⟨p, o, o', rfl, _, hg, ho, c3⟩ := dlk_out s2 rx ry c2
  refine ⟨p, o', rfl, hg, ?_⟩
  rcases ho with ⟨rfl, rfl⟩ | ⟨e', u, rfl, rfl, ru⟩
  · exact c3.ok s2 .bl
  · exact c3.ok s2 .bl
theorem s_din {i o : Expr} {pos : Pos} {fi fo : DEnv → M D} (hu : X.A.units + 1 < cLine) (hi : PE X i (TrE g W fi)) (ho : PE X o (TrE g W fo)) (hm : behindInMarks .In o = false) : PE X (.Compare i [.In] [o] pos) (TrE g W (eDin false fi fo)) :=
  PE.wk (pe_cmp (pc_din hu hi ho) hm) fun _ _ _ h => din_run h
theorem s_dnin {i o : Expr} {pos : Pos} {fi fo : DEnv → M D} (hu : X.A.units + 1 < cLine) (hi : PE X i (TrE g W fi)) (ho : PE X o (TrE g W fo)) (hm : behindInMarks .NotIn o = false) : PE X (.Compare i [.NotIn] [o] pos) (TrE g W (eDin true fi fo)) :=
  PE.wk (pe_cmp (pc_dnotin hu hi ho) hm) fun _ _ _ h => din_run h
theorem tOf_run {f : DEnv → M D} {σ : L2.St} {H : Hp} {Q : Bool → Hp → Prop} (h : TrT g W (tOf f) σ H Q) : TrE g W f σ H fun x H1 => ∃ c, x = .bl c ∧ Q c H1 := by
  obtain ⟨ρ, S, m, e, s, c⟩ := h
  exact ⟨ρ, S, m, e, s, tru_bl c⟩
theorem t_din {i o : Expr} {pos : Pos} {fi fo : DEnv → M D} (hu : X.A.units + 1 < cLine) (hi : PE X i (TrE g W fi)) (ho : PE X o (TrE g W fo)) (hm : behindInMarks .In o = false) : PT X (.Compare i [.In] [o] pos) (TrT g W (tOf (eDin false fi fo))) :=
  PT.wk (pt_cmp (pc_din hu hi ho) hm) fun _ _ _ h => din_run (tOf_run h)
theorem t_dnin {i o : Expr} {pos : Pos} {fi fo : DEnv → M D} (hu : X.A.units + 1 < cLine) (hi : PE X i (TrE g W fi)) (ho : PE X o (TrE g W fo)) (hm : behindInMarks .NotIn o = false) : PT X (.Compare i [.NotIn] [o] pos) (TrT g W (tOf (eDin true fi fo))) :=
  PT.wk (pt_cmp (pc_dnotin hu hi ho) hm) fun _ _ _ h => din_run (tOf_run h)

/-! ### a list of the store, changed -/
open Classical in
def chg (x : D) (k : List D → Option (D × List D)) : M D := fun S => match x with
  | .loc n => match S[n]? with
    | some (.lst xs) => match k xs with
      | some (d, ys) => if ys.length ≤ sizeLine then .ok d (S.set n (.lst ys)) else .bad
      | none => .bad
    | _ => .bad
  | _ => .bad
theorem chg_out {σ : L2.St} {m : Mp} {H : Hp} {S : Store} {Q : VK} {x : D} {v : V} {k : List D → Option (D × List D)} (s : SimS g.cl m S H) (r : Rep m H x v) (c : Cont g W σ (fun m H => Rep m H) m H (chg x k S) Q) :
    ∃ a xs vs d ys, v = .ref a ∧ H a = some (.lst vs) ∧ vs.length ≤ sizeLine ∧ Reps m H xs vs ∧ k xs = some (d, ys) ∧ ys.length ≤ sizeLine ∧ ∀ w ws, Reps m H ys ws → Rep m H d w → Q w (upd H a (.lst ws)) := by
  cases r with
  | loc h =>
    rename_i n a
    obtain ⟨o, ho, q⟩ := s.in h
    unfold chg at c
    dsimp only at c
    rw [ho] at c
    cases o with
    | lst xs =>
      obtain ⟨vs, hH, z, rv⟩ := q
      dsimp only at c
      cases e : k xs with
      | none => rw [e] at c; exact c.elim
      | some p =>
        obtain ⟨d, ys⟩ := p
        rw [e] at c
        dsimp only at c
        by_cases hz : ys.length ≤ sizeLine
        · rw [if_pos hz] at c
          refine ⟨a, xs, vs, d, ys, rfl, hH, z, rv, e, hz, fun w ws rw' rd => ?_⟩
          have E : Ext m H m (upd H a (.lst ws)) := Ext.put s h (fun o u q => by rw [hH] at q; cases q) fun xs q => by rw [hH] at q; cases q
          exact c.okE E (s.put h E ⟨ws, upd_same, by rw [← rw'.length]; exact hz, rw'.mono E⟩) (rd.mono E)
        · rw [if_neg hz] at c; exact c.elim
    | _ => exact c.elim
  | _ => exact c.elim
/-- a method of lists: the receiver, the arguments, what comes of them -/
def eMth (op : D → List D → M D) (fo : DEnv → M D) (fa : DEnv → M (List D)) : DEnv → M D := fun ρ => do
  let x ← fo ρ
  let _ ← listOf x
  let xs ← fa ρ
  op x xs
def MthI (g : Gx) (W : WX) (op : D → List D → M D) (r : V → List V → Hp → VK → Prop) : Prop := ∀ (σ : L2.St) (m : Mp) (H : Hp) (S : Store) (x : D) (xs : List D) (v : V) (vs : List V) (Q : VK), SimS g.cl m S H → Rep m H x v → Reps m H xs vs →
  Cont g W σ (fun m H => Rep m H) m H (op x xs S) Q → r v vs H Q
theorem mth_run {op : D → List D → M D} {r : V → List V → Hp → VK → Prop} (hi : MthI g W op r) {K : PySem.W.Frag} {fo : DEnv → M D} {fa : DEnv → M (List D)} {σ : L2.St} {H : Hp} {Q : VK} (h : TrE g W (eMth op fo fa) σ H Q) :
    TrE g W fo σ H fun x H1 => tyV K "list" x H1 ∧ TrA g W fa σ H1 fun xs H2 => r x xs H2 Q := by
  obtain ⟨ρ, S, m, e, s, c⟩ := h
  refine ⟨ρ, S, m, e, s, (Cont.bind (P := fun m H => Rep m H) c).imp fun v H1 ⟨x, S1, m1, e1, s1, r1, c1⟩ => ?_⟩
  obtain ⟨xs, a, vs, rfl, hs, z, rv, c2⟩ := Cont.list s1 r1 c1
  refine ⟨.inl ⟨rfl, vs, rdL hs⟩, ρ, S1, m1, e.mono e1, s1, (Cont.bind (P := fun m H => Reps m H) c2).imp fun us H2 ⟨ds, S2, m2, e2, s2, r2, c3⟩ => ?_⟩
  exact hi σ m2 H2 S2 x ds _ us Q s2 (r1.mono e2) r2 c3
theorem s_mth {e : Expr} {op : D → List D → M D} {r : V → List V → Hp → VK → Prop} {fo : DEnv → M D} {fa : DEnv → M (List D)} (hi : MthI g W op r) (h : PE X e (tBM X.K "list" r (TrE g W fo) (TrA g W fa))) : PE X e (TrE g W (eMth op fo fa)) :=
  PE.wk h fun _ _ _ h => mth_run hi h
theorem s_mth0 {e : Expr} {op : D → List D → M D} {r : V → List V → Hp → VK → Prop} {fo : DEnv → M D} (hi : MthI g W op r) (h : PE X e (tBM0 X.K "list" r (TrE g W fo))) : PE X e (TrE g W (eMth op fo aNil)) :=
  PE.wk h fun σ H Q q => by
    obtain ⟨ρ, S, m, e, s, c⟩ := mth_run (K := X.K) hi q
    refine ⟨ρ, S, m, e, s, c.imp fun v H1 ⟨h1, h2⟩ => ⟨h1, ?_⟩⟩
    obtain ⟨ρ', S', m', e', s', c'⟩ := h2
    exact c'.ok s' .nil
def mAppend (x : D) : List D → M D
  | [d] => chg x fun xs => some (.non, xs ++ [d])
  | _ => M.fail
theorem mi_append : MthI g W mAppend rAppend := by
  intro σ m H S x xs v vs Q s rx rs c
  cases rs with
  | nil => exact c.elim
  | cons a b =>
    cases b with
    | cons => exact c.elim
    | nil =>
      dsimp only [mAppend] at c
      obtain ⟨p, ys, us, d, zs, rfl, hH, z, rv, e, hz, q⟩ := chg_out s rx c
      have e := Option.some.inj e
      have e1 : D.non = d := congrArg Prod.fst e
      have e2 : _ = zs := congrArg Prod.snd e
      subst e1 e2
      have hz' : us.length < sizeLine := by
        rw [List.length_append, rv.length] at hz
        exact hz
      exact ⟨p, us, _, rfl, rfl, hH, hz', q .non _ (rv.append (.cons a .nil)) .non⟩
def mExtend (x : D) : List D → M D
  | [d] => fun S => match d with
    | .lst zs => chg x (fun xs => some (.non, xs ++ zs)) S
    | .loc n => match S[n]? with
      | some (.lst zs) => chg x (fun xs => some (.non, xs ++ zs)) S
      | _ => .bad
    | _ => .bad
  | _ => M.fail
theorem mi_extend : MthI g W mExtend rExtend := by
  intro σ m H S x xs v vs Q s rx rs c
  cases rs with
  | nil => exact c.elim
  | cons a b =>
    cases b with
    | cons => exact c.elim
    | nil =>
      have fin : ∀ {zs : List D} {ws : List V} {b : Addr}, H b = some (.lst ws) → Reps m H zs ws → Cont g W σ (fun m H => Rep m H) m H (chg x (fun xs => some (.non, xs ++ zs)) S) Q → rExtend v [.ref b] H Q := fun {zs ws b} hb rz c => by
        obtain ⟨p, ys, us, d, ts, rfl, hH, z, rv, e, hz, q⟩ := chg_out s rx c
        have e := Option.some.inj e
        have e1 : D.non = d := congrArg Prod.fst e
        have e2 : _ = ts := congrArg Prod.snd e
        subst e1 e2
        rw [List.length_append, rv.length, rz.length] at hz
        exact ⟨p, b, us, ws, rfl, rfl, hH, hb, hz, q .non _ (rv.append rz) .non⟩
      cases a with
      | lst h n z r => exact fin h r c
      | loc h =>
        rename_i n p
        obtain ⟨o, ho, q⟩ := s.in h
        have c' : Cont g W σ (fun m H => Rep m H) m H (match S[n]? with
          | some (.lst zs) => chg x (fun xs => some (.non, xs ++ zs)) S
          | _ => .bad) Q := c
        rw [ho] at c'
        cases o with
        | lst zs =>
          obtain ⟨ws, h1, z, h2⟩ := q
          exact fin h1 h2 c'
        | _ => exact c'.elim
      | _ => exact c.elim
def mPop (x : D) : List D → M D
  | [] => chg x fun xs => (xs[xs.length - 1]?).map fun d => (d, xs.dropLast)
  | _ => M.fail
theorem mi_pop : MthI g W mPop rPop := by
  intro σ m H S x xs v vs Q s rx rs c
  cases rs with
  | cons => exact c.elim
  | nil =>
    dsimp only [mPop] at c
    obtain ⟨p, ys, us, d, zs, rfl, hH, z, rv, e, hz, q⟩ := chg_out s rx c
    cases h : ys[ys.length - 1]? with
    | none => rw [h] at e; cases e
    | some y =>
      rw [h] at e
      have e := Option.some.inj e
      have e1 : y = d := congrArg Prod.fst e
      have e2 : ys.dropLast = zs := congrArg Prod.snd e
      subst e1 e2
      obtain ⟨u, hu, ru⟩ := rv.get h
      rw [rv.length] at hu
      exact ⟨p, us, u, rfl, rfl, hH, hu, q _ _ rv.dropLast ru⟩
def mPopAt (x : D) : List D → M D
  | [.int i] => M.want (-(2 ^ 63) ≤ i ∧ i < 2 ^ 63) (chg x fun xs => (seqIndex? i xs.length).bind fun k => (xs[k]?).map fun d => (d, xs.eraseIdx k))
  | _ => M.fail
theorem mi_popAt : MthI g W mPopAt rPopAt := by
  intro σ m H S x xs v vs Q s rx rs c
  cases rs with
  | nil => exact c.elim
  | cons a b =>
    cases b with
    | cons => cases a <;> exact c.elim
    | nil =>
      cases a with
      | int =>
        rename_i i
        dsimp only [mPopAt] at c
        obtain ⟨⟨i1, i2⟩, c⟩ := c.want
        obtain ⟨p, ys, us, d, zs, rfl, hH, z, rv, e, hz, q⟩ := chg_out s rx c
        cases h0 : seqIndex? i ys.length with
        | none => rw [h0] at e; cases e
        | some k =>
          rw [h0] at e
          cases h : ys[k]? with
          | none =>
            have e : (ys[k]?).map (fun d => (d, ys.eraseIdx k)) = some (d, zs) := e
            rw [h] at e; cases e
          | some y =>
            have e : (ys[k]?).map (fun d => (d, ys.eraseIdx k)) = some (d, zs) := e
            rw [h] at e
            have e := Option.some.inj e
            have e1 : y = d := congrArg Prod.fst e
            have e2 : ys.eraseIdx k = zs := congrArg Prod.snd e
            subst e1 e2
            obtain ⟨u, hu, ru⟩ := rv.get h
            rw [rv.length] at h0
            exact ⟨p, us, i, k, u, rfl, rfl, hH, i1, i2, h0, hu, q _ _ (rv.eraseIdx k) ru⟩
      | _ => exact c.elim
def mInsert (x : D) : List D → M D
  | [.int i, d] => M.want (0 ≤ i ∧ i < 2 ^ 63) (chg x fun xs => some (.non, xs.take i.toNat ++ [d] ++ xs.drop i.toNat))
  | _ => M.fail
theorem mi_insert : MthI g W mInsert (fun x vs H Q => ∃ (l : Addr) (xs : List V) (i : Int) (y : V), x = .ref l ∧ vs = [.int i, y] ∧ H l = some (.lst xs) ∧ xs.length < sizeLine ∧ 0 ≤ i ∧ i < 2 ^ 63 ∧ Q .non (upd H l (.lst (xs.take i.toNat ++ [y] ++ xs.drop i.toNat)))) := by
  intro σ m H S x xs v vs Q s rx rs c
  cases rs with
  | nil => exact c.elim
  | cons a b =>
    cases b with
    | nil => cases a <;> exact c.elim
    | cons b b' =>
      cases b' with
      | cons => cases a <;> exact c.elim
      | nil =>
        cases a with
        | int =>
          rename_i i
          dsimp only [mInsert] at c
          obtain ⟨⟨i1, i2⟩, c⟩ := c.want
          obtain ⟨p, ys, us, d, zs, rfl, hH, z, rv, e, hz, q⟩ := chg_out s rx c
          have e := Option.some.inj e
          have e1 : D.non = d := congrArg Prod.fst e
          have e2 : _ = zs := congrArg Prod.snd e
          subst e1 e2
          have hz' : us.length < sizeLine := by
            rw [List.length_append, List.length_append, List.length_take, List.length_drop, rv.length] at hz
            simp only [List.length_cons, List.length_nil] at hz
            omega
          exact ⟨p, us, i, _, rfl, rfl, hH, hz', i1, i2, q .non _ (((rv.take _).append (.cons b .nil)).append (rv.drop _)) .non⟩
        | _ => exact c.elim
def mReverse (x : D) : List D → M D
  | [] => chg x fun xs => some (.non, xs.reverse)
  | _ => M.fail
theorem mi_reverse : MthI g W mReverse rReverse := by
  intro σ m H S x xs v vs Q s rx rs c
  cases rs with
  | cons => exact c.elim
  | nil =>
    dsimp only [mReverse] at c
    obtain ⟨p, ys, us, d, zs, rfl, hH, z, rv, e, hz, q⟩ := chg_out s rx c
    have e := Option.some.inj e
    have e1 : D.non = d := congrArg Prod.fst e
    have e2 : _ = zs := congrArg Prod.snd e
    subst e1 e2
    exact ⟨p, us, rfl, rfl, hH, q .non _ rv.reverse .non⟩
def mClear (x : D) : List D → M D
  | [] => chg x fun _ => some (.non, [])
  | _ => M.fail
theorem mi_clear : MthI g W mClear rClear := by
  intro σ m H S x xs v vs Q s rx rs c
  cases rs with
  | cons => exact c.elim
  | nil =>
    dsimp only [mClear] at c
    obtain ⟨p, ys, us, d, zs, rfl, hH, z, rv, e, hz, q⟩ := chg_out s rx c
    have e := Option.some.inj e
    have e1 : D.non = d := congrArg Prod.fst e
    have e2 : _ = zs := congrArg Prod.snd e
    subst e1 e2
    exact ⟨p, us, rfl, rfl, hH, q .non _ .nil .non⟩
end
end
end LP

set_option Elab.async false
set_option linter.all false
set_option maxRecDepth 100000
set_option maxHeartbeats 2000000
namespace LP
open PySem PySem.Spec L2
set_option autoImplicit false
noncomputable section

/-! ### statements -/
inductive Fl where
  | nx (ρ : DEnv) | rt (d : D)
abbrev ST := DEnv → M Fl
def ContS (g : Gx) (W : WX) (m : Mp) (H : Hp) (r : R Fl) (E : Ends) : Prop := match r with
  | .ok (.nx ρ) S => ∀ σ' m' H', Ext m H m' H' → SimS g.cl m' S H' → ERep m' H' ρ σ' → E.nx σ' H'
  | .ok (.rt d) S => ∀ v m' H', Ext m H m' H' → SimS g.cl m' S H' → Rep m' H' d v → E.rt v H'
  | .ex x S => ∀ C d σ' m' H', g.cl x.cls = some C → Ext m H m' H' → SimS g.cl m' S H' → XRep m' H' x d → W (.ref C) d σ' H'
  | .bad => False
def TrS (g : Gx) (W : WX) (f : ST) : TS := fun E σ H => ∃ ρ S m, ERep m H ρ σ ∧ SimS g.cl m S H ∧ ContS g W m H (f ρ S) E
section
variable {g : Gx} {W : WX} {m m' : Mp} {H H' : Hp} {E : Ends}
theorem ContS.mono {r : R Fl} (c : ContS g W m H r E) (e : Ext m H m' H') : ContS g W m' H' r E := by
  cases r with
  | ok a S => cases a with
    | nx ρ => exact fun σ' m2 H2 e2 => c σ' m2 H2 (e.trans e2)
    | rt d => exact fun σ' m2 H2 e2 => c σ' m2 H2 (e.trans e2)
  | ex x S => exact fun C d σ' m2 H2 h e2 => c C d σ' m2 H2 h (e.trans e2)
  | bad => exact c
theorem ContS.bind {α β : Type} {P : Mp → Hp → α → β → Prop} {f : M α} {k : α → M Fl} {S : Store} {σ : L2.St} (c : ContS g W m H ((f >>= k) S) E) :
    Cont g W σ P m H (f S) fun b H1 => ∃ a S1 m1, Ext m H m1 H1 ∧ SimS g.cl m1 S1 H1 ∧ P m1 H1 a b ∧ ContS g W m1 H1 (k a S1) E := by
  have c' : ContS g W m H (M.bind f k S) E := c
  unfold M.bind at c'
  cases h : f S with
  | ok a S1 =>
    rw [h] at c'
    exact fun b m1 H1 e s p => ⟨a, S1, m1, e, s, p, c'.mono e⟩
  | ex x S1 => rw [h] at c'; exact fun C d m' H' h1 h2 h3 h4 => c' C d σ m' H' h1 h2 h3 h4
  | bad => rw [h] at c'; exact c'.elim
/-- a statement, then what its end is led to -/
theorem ContS.seq {f : M Fl} {k : Fl → M Fl} {S : Store} {E' : Ends} (c : ContS g W m H ((f >>= k) S) E)
    (hn : ∀ ρ S1 σ' m1 H1, Ext m H m1 H1 → SimS g.cl m1 S1 H1 → ERep m1 H1 ρ σ' → ContS g W m1 H1 (k (.nx ρ) S1) E → E'.nx σ' H1)
    (hr : ∀ d S1 v m1 H1, Ext m H m1 H1 → SimS g.cl m1 S1 H1 → Rep m1 H1 d v → ContS g W m1 H1 (k (.rt d) S1) E → E'.rt v H1) : ContS g W m H (f S) E' := by
  have c' : ContS g W m H (M.bind f k S) E := c
  unfold M.bind at c'
  cases h : f S with
  | ok a S1 =>
    rw [h] at c'
    cases a with
    | nx ρ => exact fun σ' m1 H1 e s r => hn ρ S1 σ' m1 H1 e s r (c'.mono e)
    | rt d => exact fun v m1 H1 e s r => hr d S1 v m1 H1 e s r (c'.mono e)
  | ex x S1 => rw [h] at c'; exact c'
  | bad => rw [h] at c'; exact c'.elim
theorem ContS.want {p : Prop} {f : M Fl} {S : Store} (c : ContS g W m H (M.want p f S) E) : p ∧ ContS g W m H (f S) E := by
  unfold M.want at c
  split at c
  · exact ⟨by assumption, c⟩
  · exact c.elim
end

def sNil : ST := fun ρ => pure (.nx ρ)
def sSeq (a b : ST) : ST := fun ρ => do
  let r ← a ρ
  match r with
  | .nx ρ' => b ρ'
  | .rt d => pure (.rt d)
def sExpr (f : DEnv → M D) : ST := fun ρ => do
  let _ ← f ρ
  pure (.nx ρ)
def sRet (f : DEnv → M D) : ST := fun ρ => do
  let x ← f ρ
  pure (.rt x)
def sRetN : ST := fun _ => pure (.rt .non)
def sIf (c : DEnv → M Bool) (a b : ST) : ST := fun ρ => do
  let k ← c ρ
  if k = true then a ρ else b ρ
section
variable {X : Cx} {g : Gx} {W : WX}
theorem ss_nil : PSs X [] (TrS g W sNil) := PSs.wk pss_nil fun E σ H ⟨ρ, S, m, e, s, c⟩ => c σ m H (Ext.refl m H) s e
theorem ss_cons {st : Stmt} {rest : List Stmt} {fa fb : ST} (ha : PS X st (TrS g W fa)) (hb : PSs X rest (TrS g W fb)) : PSs X (st :: rest) (TrS g W (sSeq fa fb)) := by
  refine PSs.wk (pss_cons ha hb) fun E σ H ⟨ρ, S, m, e, s, c⟩ => ?_
  refine ⟨ρ, S, m, e, s, ContS.seq c (fun ρ' S1 σ' m1 H1 e1 s1 r1 c1 => ?_) fun d S1 v m1 H1 e1 s1 r1 c1 => ?_⟩
  · exact ⟨ρ', S1, m1, r1, s1, c1⟩
  · exact c1 v m1 H1 (Ext.refl _ _) s1 r1
theorem ss_one {st : Stmt} {fa : ST} (ha : PS X st (TrS g W fa)) : PSs X [st] (TrS g W fa) := pss_one ha
theorem ps_passM {pos : Pos} : PS X (.Pass pos) (TrS g W sNil) := PS.wk ps_pass fun E σ H ⟨ρ, S, m, e, s, c⟩ => c σ m H (Ext.refl m H) s e
theorem ss_expr {e : Expr} {pos : Pos} {f : DEnv → M D} (h : PS X (.Expr e pos) (tDrop (TrE g W f))) : PS X (.Expr e pos) (TrS g W (sExpr f)) := by
  refine PS.wk h fun E σ H ⟨ρ, S, m, e, s, c⟩ => ?_
  exact ⟨ρ, S, m, e, s, (ContS.bind (P := fun m H => Rep m H) c).imp fun v H1 ⟨x, S1, m1, e1, s1, r1, c1⟩ => c1 σ m1 H1 (Ext.refl _ _) s1 (e.mono e1)⟩
theorem ss_ret {e : Expr} {pos : Pos} {f : DEnv → M D} (h : PE X e (TrE g W f)) : PS X (.Return (some e) pos) (TrS g W (sRet f)) := by
  refine PS.wk (ps_ret h) fun E σ H ⟨ρ, S, m, e, s, c⟩ => ?_
  exact ⟨ρ, S, m, e, s, (ContS.bind (P := fun m H => Rep m H) c).imp fun v H1 ⟨x, S1, m1, e1, s1, r1, c1⟩ => c1 v m1 H1 (Ext.refl _ _) s1 r1⟩
theorem ss_retN {pos : Pos} : PS X (.Return none pos) (TrS g W sRetN) := PS.wk ps_retN fun E σ H ⟨ρ, S, m, e, s, c⟩ => c .non m H (Ext.refl m H) s .non
theorem ss_if {c : Expr} {a b : List Stmt} {pos : Pos} {fc : DEnv → M Bool} {fa fb : ST} (hc : PT X c (TrT g W fc)) (ha : PSs X a (TrS g W fa)) (hb : PSs X b (TrS g W fb)) : PS X (.If c a b pos) (TrS g W (sIf fc fa fb)) := by
  refine PS.wk (ps_if hc ha hb) fun E σ H ⟨ρ, S, m, e, s, c⟩ => ?_
  refine ⟨ρ, S, m, e, s, (ContS.bind (P := fun _ _ a b => a = b) c).imp fun k H1 ⟨x, S1, m1, e1, s1, r1, c1⟩ => ?_⟩
  have r1 : x = k := r1
  subst r1
  cases x with
  | true => exact ⟨ρ, S1, m1, e.mono e1, s1, c1⟩
  | false => exact ⟨ρ, S1, m1, e.mono e1, s1, c1⟩
theorem ss_never {st : Stmt} : PS X st (TrS g W fun _ => M.fail) := PS.wk ps_never fun E σ H ⟨ρ, S, m, e, s, c⟩ => c
/-- a block with ends that no way meets -/
theorem sss_never {st : List Stmt} : PSs X st (TrS g W fun _ => M.fail) := PSs.wk pss_never fun E σ H ⟨ρ, S, m, e, s, c⟩ => c

/-! ### targets -/
abbrev GX := D → DEnv → Option DEnv
def TrG (sl : List Nat) (f : GX) : TG := fun v σ H Q => ∃ d ρ m ρ', Rep m H d v ∧ ERep m H ρ σ ∧ f d ρ = some ρ' ∧ ∀ σ', ERep m H ρ' σ' → (∀ vs : List Nat, (∀ i ∈ sl, i ∈ vs) → wipe σ' vs = wipe σ vs) → Q σ' H
def TrGs (sl : List Nat) (f : List D → DEnv → Option DEnv) : TGs := fun vs σ H Q => ∃ ds ρ m ρ', Reps m H ds vs ∧ ERep m H ρ σ ∧ f ds ρ = some ρ' ∧ ∀ σ', ERep m H ρ' σ' → (∀ vs : List Nat, (∀ i ∈ sl, i ∈ vs) → wipe σ' vs = wipe σ vs) → Q σ' H
theorem PG.wk {e : Expr} {t t' : TG} (h : PG X e t) (i : ∀ v σ H Q, t' v σ H Q → t v σ H Q) : PG X e t' := ⟨fun pins s σ H v u Q I r q => h.run pins s σ H v u Q I r (i v σ H Q q)⟩
theorem PGs.wk {e : List Expr} {t t' : TGs} (h : PGs X e t) (i : ∀ v σ H Q, t' v σ H Q → t v σ H Q) : PGs X e t' := ⟨fun pins s σ H v u Q I r q => h.run pins s σ H v u Q I r (i v σ H Q q)⟩
def gN (i : Nat) : GX := fun d ρ => some (ρ.set i (some d))
theorem wipe_set {σ : L2.St} {i : Nat} {v : Option V} : ∀ {vs : List Nat}, i ∈ vs → wipe (σ.set i v) vs = wipe σ vs
  | a :: vs, h => by
    unfold wipe
    by_cases q : i ∈ vs
    · rw [wipe_set q]
    · have e : a = i := by
        rcases List.mem_cons.mp h with h | h
        · exact h.symm
        · exact absurd h q
      subst e
      have gen : ∀ (vs : List Nat), a ∉ vs → wipe (σ.set a v) vs = (wipe σ vs).set a v := fun vs => by
        induction vs with
        | nil => intro _; rfl
        | cons b vs ih =>
          intro h
          unfold wipe
          rw [ih fun z => h (List.mem_cons_of_mem _ z)]
          exact List.set_comm _ _ fun z => h (by rw [z]; exact List.mem_cons_self)
      rw [gen vs q, List.set_set]
theorem sg_name {i : Nat} {e : Expr} (h : PG X e (gName i)) : PG X e (TrG [i] (gN i)) := by
  refine PG.wk h fun v σ H Q ⟨d, ρ, m, ρ', r, e, hf, q⟩ => ?_
  have hf : some (ρ.set i (some d)) = some ρ' := hf
  have hf := Option.some.inj hf
  subst hf
  exact q _ (e.set r) fun vs hv => wipe_set (hv i (by simp))
def gsNil : List D → DEnv → Option DEnv := fun ds ρ => match ds with
  | [] => some ρ
  | _ => none
def gsCons (a : GX) (r : List D → DEnv → Option DEnv) : List D → DEnv → Option DEnv := fun ds ρ => match ds with
  | d :: ds => (a d ρ).bind (r ds)
  | [] => none
theorem sgs_nil : PGs X [] (TrGs [] gsNil) := by
  refine PGs.wk pgs_nil fun v σ H Q ⟨ds, ρ, m, ρ', r, e, hf, q⟩ => ?_
  cases r with
  | nil =>
    have hf : some ρ = some ρ' := hf
    have hf := Option.some.inj hf
    subst hf
    exact ⟨rfl, q σ e fun _ _ => rfl⟩
  | cons => cases hf
theorem sgs_cons {es : List Expr} {s1 s2 : List Nat} {fa : GX} {fr : List D → DEnv → Option DEnv} (h : PGs X es (gCons (TrG s1 fa) (TrGs s2 fr))) : PGs X es (TrGs (s1 ++ s2) (gsCons fa fr)) := by
  refine PGs.wk h fun v σ H Q ⟨ds, ρ, m, ρ', r, e, hf, q⟩ => ?_
  cases r with
  | nil => cases hf
  | @cons d ds v vs a b =>
    have hf : (fa d ρ).bind (fr ds) = some ρ' := hf
    cases h1 : fa d ρ with
    | none => rw [h1] at hf; cases hf
    | some ρ1 =>
      rw [h1] at hf
      refine ⟨v, vs, rfl, d, ρ, m, ρ1, a, e, h1, fun σ1 e1 w1 => ?_⟩
      refine ⟨ds, ρ1, m, ρ', b, e1, hf, fun σ2 e2 w2 => q σ2 e2 fun us hu => ?_⟩
      rw [w2 us fun i hi => hu i (List.mem_append_right _ hi), w1 us fun i hi => hu i (List.mem_append_left _ hi)]
def gTup' (f : List D → DEnv → Option DEnv) : GX := fun d ρ => match d with
  | .tup ds => f ds ρ
  | _ => none
theorem sg_tup {e : Expr} {n : Nat} {sl : List Nat} {f : List D → DEnv → Option DEnv} (hn : ∀ ds ρ ρ', f ds ρ = some ρ' → ds.length = n) (h : PG X e (gTup X.K n (TrGs sl f))) : PG X e (TrG sl (gTup' f)) := by
  refine PG.wk h fun v σ H Q ⟨d, ρ, m, ρ', r, e, hf, q⟩ => ?_
  cases r with
  | tup h z r =>
    have hf : f _ ρ = some ρ' := hf
    exact ⟨_, _, rfl, .of h, by rw [← r.length]; exact hn _ _ _ hf, _, ρ, m, ρ', r, e, hf, q⟩
  | _ => cases hf
theorem gs_len0 : ∀ ds ρ ρ', gsNil ds ρ = some ρ' → ds.length = 0 := fun ds ρ ρ' h => by
  cases ds with
  | nil => rfl
  | cons => cases h
theorem gs_len {fa : GX} {fr : List D → DEnv → Option DEnv} {n : Nat} (h : ∀ ds ρ ρ', fr ds ρ = some ρ' → ds.length = n) : ∀ ds ρ ρ', gsCons fa fr ds ρ = some ρ' → ds.length = n + 1 := fun ds ρ ρ' q => by
  cases ds with
  | nil => cases q
  | cons d ds =>
    have q : (fa d ρ).bind (fr ds) = some ρ' := q
    cases h1 : fa d ρ with
    | none => rw [h1] at q; cases q
    | some ρ1 =>
      rw [h1] at q
      rw [List.length_cons, h ds ρ1 ρ' q]
/-! assignment -/
def sAsg (f : DEnv → M D) (tg : GX) : ST := fun ρ => do
  let x ← f ρ
  match tg x ρ with
  | some ρ' => pure (.nx ρ')
  | none => M.fail
theorem asg_run {f : DEnv → M D} {sl : List Nat} {tg : GX} {E : Ends} {σ : L2.St} {H : Hp} (h : TrS g W (sAsg f tg) E σ H) : TrE g W f σ H fun x H1 => TrG sl tg x σ H1 E.nx := by
  obtain ⟨ρ, S, m, e, s, c⟩ := h
  refine ⟨ρ, S, m, e, s, (ContS.bind (P := fun m H => Rep m H) c).imp fun v H1 ⟨x, S1, m1, e1, s1, r1, c1⟩ => ?_⟩
  cases q : tg x ρ with
  | none => rw [q] at c1; exact c1.elim
  | some ρ' =>
    rw [q] at c1
    exact ⟨x, ρ, m1, ρ', r1, e.mono e1, q, fun σ' e' _ => c1 σ' m1 H1 (Ext.refl _ _) s1 e'⟩
theorem ss_asg {st : Stmt} {f : DEnv → M D} {sl : List Nat} {tg : GX} (h : PS X st (tAsg (TrE g W f) (TrG sl tg))) : PS X st (TrS g W (sAsg f tg)) := PS.wk h fun _ _ _ h => asg_run h
theorem ss_set {st : Stmt} {f : DEnv → M D} {i : Nat} (h : PS X st (tAsg (TrE g W f) (gName i))) : PS X st (TrS g W (sAsg f (gN i))) := by
  refine PS.wk h fun E σ H q => ?_
  obtain ⟨ρ, S, m, e, s, c⟩ := asg_run (sl := [i]) q
  refine ⟨ρ, S, m, e, s, c.imp fun v H1 ⟨d, ρ1, m1, ρ', r1, e1, hf, q1⟩ => ?_⟩
  have hf : some (ρ1.set i (some d)) = some ρ' := hf
  have hf := Option.some.inj hf
  subst hf
  exact q1 _ (e1.set r1) fun vs hv => wipe_set (hv i (by simp))
/-- the same where the value is a new list -/
theorem new_run {f : DEnv → M (List D)} {i : Nat} {E : Ends} {σ : L2.St} {H : Hp} (h : TrS g W (sAsg (eNew f) (gN i)) E σ H) : TrN g W f σ H fun x H1 => gName i x σ H1 E.nx := by
  obtain ⟨ρ, S, m, e, s, c⟩ := asg_run (sl := [i]) h
  have c2 := Cont.bind (P := fun m H ds (p : List V × Addr) => Reps m H ds p.1 ∧ p.1.length ≤ sizeLine ∧ H p.2 = none) c
  refine ⟨ρ, S, m, e, s, c2.imp fun p H1 ⟨xs, S1, m1, e1, s1, ⟨r1, z1, n1⟩, c1⟩ => ?_⟩
  obtain ⟨d, ρ1, m2, ρ', r2, e2, hf, q1⟩ := c1.new s1 n1 fun e => ⟨_, upd_same, z1, r1.mono e⟩
  have hf : some (ρ1.set i (some d)) = some ρ' := hf
  have hf := Option.some.inj hf
  subst hf
  exact q1 _ (e2.set r2) fun vs hv => wipe_set (hv i (by simp))
theorem lst_run {f : DEnv → M (List D)} {i : Nat} {E : Ends} {σ : L2.St} {H : Hp} (h : TrS g W (sAsg (eLst f) (gN i)) E σ H) : TrN g W f σ H fun x H1 => gName i x σ H1 E.nx := by
  obtain ⟨ρ, S, m, e, s, c⟩ := asg_run (sl := [i]) h
  have c2 := Cont.bind (P := fun m H ds (p : List V × Addr) => Reps m H ds p.1 ∧ p.1.length ≤ sizeLine ∧ H p.2 = none) c
  refine ⟨ρ, S, m, e, s, c2.imp fun p H1 ⟨xs, S1, m1, e1, s1, ⟨r1, z1, n1⟩, c1⟩ => ?_⟩
  obtain ⟨d, ρ1, m2, ρ', r2, e2, hf, q1⟩ := c1.tmp s1 n1 fun e n => .lst upd_same n z1 (r1.mono e)
  have hf : some (ρ1.set i (some d)) = some ρ' := hf
  have hf := Option.some.inj hf
  subst hf
  exact q1 _ (e2.set r2) fun vs hv => wipe_set (hv i (by simp))
/-- what y = [..] wants, the list in the store or not -/
theorem ss_setNew {st : Stmt} {f : DEnv → M (List D)} {i : Nat} {t : TE} (ht : ∀ σ H Q, TrN g W f σ H Q → t σ H Q) (h : PS X st (tAsg t (gName i))) : PS X st (TrS g W (sAsg (eNew f) (gN i))) := PS.wk h fun _ σ H q => ht σ H _ (new_run q)
theorem ss_setLst {st : Stmt} {f : DEnv → M (List D)} {i : Nat} {t : TE} (ht : ∀ σ H Q, TrN g W f σ H Q → t σ H Q) (h : PS X st (tAsg t (gName i))) : PS X st (TrS g W (sAsg (eLst f) (gN i))) := PS.wk h fun _ σ H q => ht σ H _ (lst_run q)
/-! stores: xs[i] = v, d[k] = v -/
def sPutL (fv fo fi : DEnv → M D) : ST := fun ρ => do
  let v ← fv ρ
  let o ← fo ρ
  let i ← fi ρ
  let _ ← (match i with
    | .int k => chg o fun xs => (ixN xs.length k).map fun j => (.non, xs.set j v)
    | _ => M.fail)
  pure (.nx ρ)
theorem ss_putL {st : Stmt} {fv fo fi : DEnv → M D} (h : PS X st (tAsg (TrE g W fv) (gSub (TrE g W fo) (TrE g W fi) rSetL))) : PS X st (TrS g W (sPutL fv fo fi)) := by
  refine PS.wk h fun E σ H ⟨ρ, S, m, e, s, c⟩ => ?_
  refine ⟨ρ, S, m, e, s, (ContS.bind (P := fun m H => Rep m H) c).imp fun v H1 ⟨x, S1, m1, e1, s1, r1, c1⟩ => ?_⟩
  refine ⟨ρ, S1, m1, e.mono e1, s1, (ContS.bind (P := fun m H => Rep m H) c1).imp fun o H2 ⟨y, S2, m2, e2, s2, r2, c2⟩ => ?_⟩
  refine ⟨ρ, S2, m2, (e.mono e1).mono e2, s2, (ContS.bind (P := fun m H => Rep m H) c2).imp fun i H3 ⟨z, S3, m3, e3, s3, r3, c3⟩ => ?_⟩
  cases r3 with
  | int =>
    have c4 := ContS.bind (P := fun m H => Rep m H) (σ := σ) c3
    obtain ⟨a, xs, vs, d, ys, rfl, hH, hz, rv, ek, hz2, q⟩ := chg_out s3 (r2.mono e3) c4
    cases q1 : ixN xs.length _ with
    | none => rw [q1] at ek; cases ek
    | some j =>
      rw [q1] at ek
      have ek := Option.some.inj ek
      have k1 : D.non = d := congrArg Prod.fst ek
      have k2 : xs.set j x = ys := congrArg Prod.snd ek
      subst k1 k2
      rw [rv.length] at q1
      refine ⟨a, vs, _, j, rfl, rfl, hH, q1, ?_⟩
      obtain ⟨d', S4, m4, e4, s4, r4, c5⟩ := q .non _ (Reps.set ((r1.mono e2).mono e3) j rv) .non
      exact c5 σ m4 _ (Ext.refl _ _) s4 ((((e.mono e1).mono e2).mono e3).mono e4)
  | _ => exact c3.elim
def sPutD (fv fo fi : DEnv → M D) : ST := fun ρ => do
  let v ← fv ρ
  let o ← fo ρ
  let i ← fi ρ
  fun S => match o with
    | .loc n => match S[n]? with
      | some (.dk kvs) => match keyD i with
        | some k => M.want (kvs.length < sizeLine) (pure (.nx ρ)) (S.set n (.dk (putD kvs k v)))
        | none => .bad
      | some (.dt kvs) => match keyT i with
        | some k => M.want (kvs.length < sizeLine) (pure (.nx ρ)) (S.set n (.dt (putD kvs k v)))
        | none => .bad
      | _ => .bad
    | _ => .bad
theorem KReps.len {m : Mp} {H : Hp} : ∀ {kvs : List (Key × D)} {ws : List (Key × V)}, KReps m H kvs ws → kvs.length = ws.length
  | _, _, .nil => rfl
  | _, _, .cons a b => by simp [KReps.len b]
theorem TReps.len {m : Mp} {H : Hp} : ∀ {kvs : List (List Key × D)} {ws : List (List Key × V)}, TReps m H kvs ws → kvs.length = ws.length
  | _, _, .nil => rfl
  | _, _, .cons a b => by simp [TReps.len b]
theorem KReps.app {m : Mp} {H : Hp} {k : Key} {x : D} {u : V} (r : Rep m H x u) : ∀ {kvs : List (Key × D)} {ws : List (Key × V)}, KReps m H kvs ws → KReps m H (kvs ++ [(k, x)]) (ws ++ [(k, u)])
  | _, _, .nil => .cons r .nil
  | _, _, .cons a b => .cons a (KReps.app r b)
theorem TReps.app {m : Mp} {H : Hp} {k : List Key} {x : D} {u : V} (r : Rep m H x u) : ∀ {kvs : List (List Key × D)} {ws : List (List Key × V)}, TReps m H kvs ws → TReps m H (kvs ++ [(k, x)]) (ws ++ [(k, u)])
  | _, _, .nil => .cons r .nil
  | _, _, .cons a b => .cons a (TReps.app r b)
theorem KReps.put {m : Mp} {H : Hp} {k : Key} {x : D} {u : V} (r : Rep m H x u) {kvs : List (Key × D)} {ws : List (Key × V)} (h : KReps m H kvs ws) : KReps m H (putD kvs k x) (putK ws k u) := by
  have an : ∀ {kvs : List (Key × D)} {ws : List (Key × V)}, KReps m H kvs ws → kvs.any (fun kv => decide (kv.1 = k)) = ws.any (fun kv => decide (kv.1 = k)) := fun {kvs ws} h => by
    induction kvs generalizing ws with
    | nil => cases h; rfl
    | cons p kvs ih =>
      cases h with
      | cons a b => rw [List.any_cons, List.any_cons, ih b]
  have mp : ∀ {kvs : List (Key × D)} {ws : List (Key × V)}, KReps m H kvs ws → KReps m H (kvs.map fun kv => if kv.1 = k then (kv.1, x) else kv) (ws.map fun kv => if kv.1 = k then (kv.1, u) else kv) := fun {kvs ws} h => by
    induction kvs generalizing ws with
    | nil => cases h; exact .nil
    | cons p kvs ih =>
      cases h with
      | cons a b =>
        rename_i k' y v vs
        rw [List.map_cons, List.map_cons]
        dsimp only
        by_cases q : k' = k
        · rw [if_pos q, if_pos q]; exact .cons r (ih b)
        · rw [if_neg q, if_neg q]; exact .cons a (ih b)
  unfold putD putK
  rw [an h]
  by_cases q : ws.any (fun kv => decide (kv.1 = k)) = true
  · rw [if_pos q, if_pos q]; exact mp h
  · rw [if_neg q, if_neg q]; exact h.app r
theorem TReps.put {m : Mp} {H : Hp} {k : List Key} {x : D} {u : V} (r : Rep m H x u) {kvs : List (List Key × D)} {ws : List (List Key × V)} (h : TReps m H kvs ws) : TReps m H (putD kvs k x) (putK ws k u) := by
  have an : ∀ {kvs : List (List Key × D)} {ws : List (List Key × V)}, TReps m H kvs ws → kvs.any (fun kv => decide (kv.1 = k)) = ws.any (fun kv => decide (kv.1 = k)) := fun {kvs ws} h => by
    induction kvs generalizing ws with
    | nil => cases h; rfl
    | cons p kvs ih =>
      cases h with
      | cons a b => rw [List.any_cons, List.any_cons, ih b]
  have mp : ∀ {kvs : List (List Key × D)} {ws : List (List Key × V)}, TReps m H kvs ws → TReps m H (kvs.map fun kv => if kv.1 = k then (kv.1, x) else kv) (ws.map fun kv => if kv.1 = k then (kv.1, u) else kv) := fun {kvs ws} h => by
    induction kvs generalizing ws with
    | nil => cases h; exact .nil
    | cons p kvs ih =>
      cases h with
      | cons a b =>
        rename_i k' y v vs
        rw [List.map_cons, List.map_cons]
        dsimp only
        by_cases q : k' = k
        · rw [if_pos q, if_pos q]; exact .cons r (ih b)
        · rw [if_neg q, if_neg q]; exact .cons a (ih b)
  unfold putD putK
  rw [an h]
  by_cases q : ws.any (fun kv => decide (kv.1 = k)) = true
  · rw [if_pos q, if_pos q]; exact mp h
  · rw [if_neg q, if_neg q]; exact h.app r
end
end
end LP

set_option Elab.async false
set_option linter.all false
set_option maxRecDepth 100000
set_option maxHeartbeats 2000000
namespace LP
open PySem PySem.Spec L2
set_option autoImplicit false
noncomputable section

open Classical in
/-- go on while the store is as it must be -/
def M.whenS {α : Type} (gd : Store → Prop) (f : M α) : M α := fun S => if gd S then f S else .bad
def M.noex {α : Type} (f : M α) : M α := fun S => match f S with
  | .ok a S' => .ok a S'
  | _ => .bad

/-! ### what is walked -/
/-- J walks the items xs, as long as gd holds of the store -/
def IsIt (g : Gx) (m : Mp) (H : Hp) (a : List D × (Store → Prop)) (J : L2.It) : Prop :=
  a.1.length ≤ sizeLine ∧ ∃ (G : Hp → Prop) (Y : Nat → Hp → V → Hp → Prop), Walk J a.1.length G Y ∧
    (∀ m' H' S', Ext m H m' H' → SimS g.cl m' S' H' → a.2 S' → G H') ∧
    ∀ i m' H' S' v H2 d, Ext m H m' H' → SimS g.cl m' S' H' → a.2 S' → Y i H' v H2 → a.1[i]? = some d → Ext m' H' m' H2 ∧ SimS g.cl m' S' H2 ∧ Rep m' H2 d v
abbrev IT := DEnv → M (List D × (Store → Prop))
abbrev TrI (g : Gx) (W : WX) (f : IT) : TI := Tr g W (fun m H => IsIt g m H) f
section
variable {X : Cx} {g : Gx} {W : WX}
theorem PI.wk {tg e : Expr} {t t' : TI} (h : PI X tg e t) (i : ∀ σ H R, t' σ H R → t σ H R) : PI X tg e t' := ⟨fun pins s σ H R I q => h.run pins s σ H R I (i σ H R q)⟩
theorem PI.or {tg e : Expr} {t t' : TI} (h : PI X tg e t) (h' : PI X tg e t') : PI X tg e (fun σ H R => t σ H R ∨ t' σ H R) := ⟨fun pins s σ H R I q => q.elim (fun q => h.run pins s σ H R I q) fun q => h'.run pins s σ H R I q⟩
/-- the items of a tuple -/
def itTup (f : DEnv → M D) : IT := fun ρ => do
  let x ← f ρ
  match x with
  | .tup xs => pure (xs, fun _ => True)
  | _ => M.fail
def gdOf : D → Store → Prop
  | .loc n => fun S => ∃ xs, listOf (.loc n) S = .ok xs S
  | _ => fun _ => True
/-- the items of a list, that must stay as they are -/
def itLst (f : DEnv → M D) : IT := fun ρ => do
  let x ← f ρ
  let xs ← listOf x
  pure (xs, fun S => listOf x S = .ok xs S)
theorem isIt_tup {m : Mp} {H : Hp} {a : Addr} {xs : List D} {vs : List V} {K : PySem.W.Frag} (h : H a = some (.tup vs)) (z : vs.length ≤ sizeLine) (r : Reps m H xs vs) : IsIt g m H (xs, fun _ => True) (Itt K a) := by
  refine ⟨by rw [← r.length] at z; exact z, fun H => SqT K H a vs, YAt vs, by have w := walk_tup (K := K) (a := a) (xs := vs); rw [← r.length] at w; exact w, fun m' H' S' e s _ => .of (e.tup a vs h), fun i m' H' S' v H2 d e s _ y hd => ?_⟩
  obtain ⟨rfl, hv⟩ := y
  obtain ⟨u, hu, ru⟩ := r.get hd
  rw [hv] at hu
  cases hu
  exact ⟨Ext.refl _ _, s, ru.mono e⟩
theorem rd_eq {H : Hp} {b : Addr} {u1 u2 : List V} (p1 : Rd H b (.lst u1)) (p2 : Rd H b (.lst u2)) : u1 = u2 := by
  rcases p1 with p1 | ⟨o1, p1⟩ <;> rcases p2 with p2 | ⟨o2, p2⟩ <;> rw [p1] at p2 <;> cases p2 <;> rfl
theorem isIt_lst {m : Mp} {H : Hp} {a : Addr} {x : D} {xs : List D} {vs : List V} {K : PySem.W.Frag} (rx : Rep m H x (.ref a)) (h : Rd H a (.lst vs)) (z : vs.length ≤ sizeLine) (r : Reps m H xs vs) : IsIt g m H (xs, fun S => listOf x S = .ok xs S) (Itl K a) := by
  refine ⟨by rw [← r.length] at z; exact z, fun H' => ∃ ws, Rd H' a (.lst ws) ∧ ws.length = vs.length, fun i H' v H2 => H2 = H' ∧ ∃ ws, Rd H' a (.lst ws) ∧ ws[i]? = some v, ?_, ?_, ?_⟩
  · refine ⟨fun i H' hi ⟨ws, q, hl⟩ => ?_, fun H' ⟨ws, q, hl⟩ => ?_, fun i H' v H2 hi ⟨ws, q, hl⟩ y => ?_⟩
    · have hi : i < ws.length := by rw [hl, ← r.length]; exact hi
      exact ⟨ws, ws[i], rdL q, by simp [hi]⟩
    · exact ⟨ws, rdL q, by rw [hl, ← r.length]; exact Nat.le_refl _⟩
    · obtain ⟨e, y⟩ := y
      exact ⟨e, ws, q, y ws (rdL q)⟩
  · intro m' H' S' e s gd
    have gd : listOf x S' = .ok xs S' := gd
    rcases listOf_rep s (rx.mono e) with h' | ⟨xs', a', ws, h1, h2, h3, h4, h5⟩
    · rw [h'] at gd; cases gd
    · rw [h1] at gd
      cases gd
      cases h2
      exact ⟨ws, h3, by rw [← h5.length, r.length]⟩
  · intro i m' H' S' v H2 d e s gd y hd
    obtain ⟨rfl, ws, q, hv⟩ := y
    have gd : listOf x S' = .ok xs S' := gd
    rcases listOf_rep s (rx.mono e) with h' | ⟨xs', a', ws', h1, h2, h3, h4, h5⟩
    · rw [h'] at gd; cases gd
    · rw [h1] at gd
      cases gd
      cases h2
      have hd : xs[i]? = some d := hd
      obtain ⟨u, hu, ru⟩ := h5.get hd
      rw [rd_eq q h3] at hv
      rw [hv] at hu
      cases hu
      exact ⟨Ext.refl _ _, s, ru⟩
section
variable {tg e : Expr}
theorem i_tup {f : DEnv → M D} (h : PE X e (TrE g W f)) : PI X tg e (TrI g W (itTup f)) := by
  refine PI.wk (pi_tup h) fun σ H R ⟨ρ, S, m, e, s, c⟩ => ?_
  refine ⟨ρ, S, m, e, s, (Cont.bind (P := fun m H => Rep m H) c).imp fun v H1 ⟨x, S1, m1, e1, s1, r1, c1⟩ => ?_⟩
  cases r1 with
  | tup h z r => exact ⟨_, rfl, ⟨_, .of h⟩, c1.ok s1 (isIt_tup h z r)⟩
  | _ => exact c1.elim
theorem i_lst {f : DEnv → M D} (h : PE X e (TrE g W f)) : PI X tg e (TrI g W (itLst f)) := by
  refine PI.wk (pi_list h) fun σ H R ⟨ρ, S, m, e, s, c⟩ => ?_
  refine ⟨ρ, S, m, e, s, (Cont.bind (P := fun m H => Rep m H) c).imp fun v H1 ⟨x, S1, m1, e1, s1, r1, c1⟩ => ?_⟩
  obtain ⟨xs, a, vs, rfl, hs, z, r, c2⟩ := Cont.list s1 r1 c1
  exact ⟨_, rfl, ⟨_, rdL hs⟩, c2.ok s1 (isIt_lst r1 hs z r)⟩
/-- a new list: nobody changes it -/
def itNew (f : DEnv → M (List D)) : IT := fun ρ => do
  let xs ← f ρ
  pure (xs, fun _ => True)
theorem i_new {f : DEnv → M (List D)} (h : PE X e (TrN g W f)) : PI X tg e (TrI g W (itNew f)) := by
  refine PI.wk (pi_list h) fun σ H R ⟨ρ, S, m, e, s, c⟩ => ?_
  refine ⟨ρ, S, m, e, s, (Cont.bind (P := fun m H ds (p : List V × Addr) => Reps m H ds p.1 ∧ p.1.length ≤ sizeLine ∧ H p.2 = none) c).imp fun p H1 ⟨xs, S1, m1, e1, s1, ⟨r1, z1, n1⟩, c1⟩ => ?_⟩
  refine ⟨p.2, rfl, ⟨_, .of upd_same⟩, ?_⟩
  have E : Ext m1 H1 m1 (upd H1 p.2 (.lst p.1)) := Ext.tmp n1
  refine c1.okE E (s1.tmp n1) ?_
  have I := isIt_lst (g := g) (K := X.K) (m := m1) (H := upd H1 p.2 (.lst p.1)) (x := .lst xs) (xs := xs) (.lst upd_same (s1.free n1) z1 (r1.mono E)) (.inl upd_same) z1 (r1.mono E)
  obtain ⟨hz, G, Y, w, h1, h2⟩ := I
  exact ⟨hz, G, Y, w, fun m' H' S' e s _ => h1 m' H' S' e s rfl, fun i m' H' S' v H2 d e s _ => h2 i m' H' S' v H2 d e s rfl⟩
/-- range(n) -/
def rangeD (a n : Int) : List D := (List.range n.toNat).map fun (i : Nat) => .int (a + (i : Int))
theorem mapR_get {f : Nat → D} {n i : Nat} {d : D} (h : ((List.range n).map f)[i]? = some d) : d = f i := by
  obtain ⟨h1, h2⟩ := List.getElem?_eq_some_iff.mp h
  rw [← h2]
  simp
theorem rangeD_get {a n : Int} {i : Nat} {d : D} (h : (rangeD a n)[i]? = some d) : d = .int (a + i) := mapR_get h
def itRg1 (f : DEnv → M D) : IT := fun ρ => do
  let x ← f ρ
  match x with
  | .int n => M.want (-(2 ^ 62) ≤ n ∧ n ≤ (sizeLine : Nat)) (pure (rangeD 0 n, fun _ => True))
  | _ => M.fail
theorem isIt_range {m : Mp} {H : Hp} {a n : Int} (hz : n ≤ (sizeLine : Nat)) : IsIt g m H (rangeD a n, fun _ => True) (Itr a n.toNat) := by
  refine ⟨by unfold rangeD; simp; omega, fun _ => True, YFn fun i => .int (a + i), ?_, fun _ _ _ _ _ _ => trivial, fun i m' H' S' v H2 d e s _ y hd => ?_⟩
  · have w := walk_range (lo := a) (n := n.toNat)
    have hl : (rangeD a n).length = n.toNat := by unfold rangeD; simp
    show Walk _ (rangeD a n).length _ _
    rw [hl]
    exact w
  · obtain ⟨rfl, rfl⟩ := y
    have hd : (rangeD a n)[i]? = some d := hd
    have hd := rangeD_get hd
    subst hd
    exact ⟨Ext.refl _ _, s, .int⟩
theorem i_rg1 {p pos : Pos} {f : DEnv → M D} (h : PI X tg (.Call (.Name "range" p) [e] [] pos) (iRng1 (tCons (TrE g W f) tNil))) : PI X tg (.Call (.Name "range" p) [e] [] pos) (TrI g W (itRg1 f)) := by
  refine PI.wk h fun σ H R ⟨ρ, S, m, e, s, c⟩ => ?_
  refine ⟨ρ, S, m, e, s, (Cont.bind (P := fun m H => Rep m H) c).imp fun v H1 ⟨x, S1, m1, e1, s1, r1, c1⟩ => ?_⟩
  cases r1 with
  | int =>
    obtain ⟨⟨h1, h2⟩, c1⟩ := c1.want
    have hl : (sizeLine : Nat) < 2 ^ 62 := by rw [sizeLine_eq]; decide
    exact ⟨_, rfl, h1, by omega, c1.ok s1 (isIt_range h2)⟩
  | _ => exact c1.elim
def itRg2 (f f2 : DEnv → M D) : IT := fun ρ => do
  let x ← f ρ
  let y ← f2 ρ
  match x, y with
  | .int a, .int b => M.want ((-(2 ^ 62) ≤ a ∧ a < 2 ^ 62 ∧ -(2 ^ 62) ≤ b ∧ b < 2 ^ 62) ∧ b - a ≤ (sizeLine : Nat)) (pure (rangeD a (b - a), fun _ => True))
  | _, _ => M.fail
theorem i_rg2 {e' : Expr} {f f2 : DEnv → M D} (h : PI X tg e' (iRng2 (tCons (TrE g W f) (tCons (TrE g W f2) tNil)))) : PI X tg e' (TrI g W (itRg2 f f2)) := by
  refine PI.wk h fun σ H R ⟨ρ, S, m, e, s, c⟩ => ?_
  refine two (fun _ _ _ h => h) (fun _ _ _ h => h) e s c fun m2 H2 S2 x y v w _ s2 rx ry c2 => ?_
  cases rx with
  | int => cases ry with
    | int =>
      obtain ⟨⟨h1, hz⟩, c2⟩ := c2.want
      exact ⟨_, _, rfl, h1, c2.ok s2 (isIt_range hz)⟩
    | _ => exact c2.elim
  | _ => cases ry <;> exact c2.elim
/-- range(a, b, c), as the library counts its turns -/
def itRg3 (f f2 f3 : DEnv → M D) : IT := fun ρ => do
  let x ← f ρ
  let y ← f2 ρ
  let z ← f3 ρ
  match x, y, z with
  | .int a, .int b, .int c => M.want (RgC a b c (Builtin.Range.rangeSize a b c).toNat ∧ (Builtin.Range.rangeSize a b c).toNat ≤ sizeLine) (pure ((List.range (Builtin.Range.rangeSize a b c).toNat).map (fun (i : Nat) => D.int (a + (i : Int) * c)), fun _ => True))
  | _, _, _ => M.fail
theorem i_rg3 {e' : Expr} {f f2 f3 : DEnv → M D} (h : PI X tg e' (iRng3 (tCons (TrE g W f) (tCons (TrE g W f2) (tCons (TrE g W f3) tNil))))) : PI X tg e' (TrI g W (itRg3 f f2 f3)) := by
  refine PI.wk h fun σ H R ⟨ρ, S, m, e, s, c⟩ => ?_
  refine ⟨ρ, S, m, e, s, (Cont.bind (P := fun m H => Rep m H) c).imp fun v H1 hh => ?_⟩
  obtain ⟨x, S1, m1, e1, s1, r1, c1⟩ := hh
  refine two (fun _ _ _ h => h) (fun _ _ _ h => h) (e.mono e1) s1 c1 fun m2 H2 S2 y z w u e2 s2 ry rz c2 => ?_
  have r1 := r1.mono e2
  cases r1 with
  | @int a' => cases ry with
    | @int b => cases rz with
      | @int k =>
        obtain ⟨⟨h1, hz⟩, c2⟩ := Cont.want (f := (pure ((List.range (Builtin.Range.rangeSize a' b k).toNat).map (fun (i : Nat) => D.int (a' + (i : Int) * k)), fun _ => True) : M (List D × (Store → Prop)))) c2
        refine ⟨a', b, k, _, rfl, h1, c2.ok s2 ?_⟩
        refine ⟨by simpa using hz, fun _ => True, YFn fun i => .int (a' + (i : Nat) * k), ?_, fun _ _ _ _ _ _ => trivial, fun i m' H' S' v H2 d e s _ y hd => ?_⟩
        · have w := walk_rangeC (lo := a') (c := k) (n := (Builtin.Range.rangeSize a' b k).toNat)
          show Walk _ (List.length _) _ _
          rw [List.length_map, List.length_range]
          exact w
        · obtain ⟨rfl, rfl⟩ := y
          have hd : ((List.range (Builtin.Range.rangeSize a' b k).toNat).map (fun (i : Nat) => D.int (a' + (i : Int) * k)))[i]? = some d := hd
          have hd := mapR_get hd
          subst hd
          exact ⟨Ext.refl _ _, s, .int⟩
      | _ => exact c2.elim
    | _ => cases rz <;> exact c2.elim
  | _ => cases ry <;> cases rz <;> exact c2.elim
end

/-! ### loops -/
def forL (gd : Store → Prop) (tg : GX) (kill : List Nat) (body : ST) : List D → ST
  | [] => fun ρ => M.whenS gd (pure (.nx ρ))
  | x :: xs => fun ρ => M.whenS gd (match tg x ρ with
    | some ρ1 => do
      let r ← body ρ1
      match r with
      | .nx ρ2 => forL gd tg kill body xs (dropE ρ2 kill)
      | .rt d => pure (.rt d)
    | none => M.fail)
def sFor (it : IT) (tg : GX) (kill : List Nat) (body : ST) : ST := fun ρ => do
  let a ← it ρ
  forL a.2 tg kill body a.1 (dropE ρ kill)
theorem ContS.whenS {m : Mp} {H : Hp} {gd : Store → Prop} {f : M Fl} {S : Store} {E : Ends} (c : ContS g W m H (M.whenS gd f S) E) : gd S ∧ ContS g W m H (f S) E := by
  unfold M.whenS at c
  split at c
  · exact ⟨by assumption, c⟩
  · exact c.elim
theorem forL_gd {m : Mp} {H : Hp} {gd : Store → Prop} {tg : GX} {kill : List Nat} {body : ST} {xs : List D} {ρ : DEnv} {S : Store} {E : Ends} (c : ContS g W m H (forL gd tg kill body xs ρ S) E) : gd S := by
  cases xs with
  | nil => exact (ContS.whenS (f := pure (.nx ρ)) c).1
  | cons x xs => exact (ContS.whenS (f := (match tg x ρ with
    | some ρ1 => do
      let r ← body ρ1
      match r with
      | .nx ρ2 => forL gd tg kill body xs (dropE ρ2 kill)
      | .rt d => pure (.rt d)
    | none => M.fail)) c).1
theorem ss_for {t iter : Expr} {bd : List Stmt} {pos : Pos} {it : IT} {sl : List Nat} {tg : GX} {kill : List Nat} {body : ST} (h : PS X (.For t iter bd [] pos) (tFor (TrI g W it) (TrG sl tg) (TrS g W body))) : PS X (.For t iter bd [] pos) (TrS g W (sFor it tg kill body)) := by
  refine PS.wk h fun E σ H ⟨ρ, S, m, e, s, c⟩ => ?_
  refine ⟨ρ, S, m, e, s, (ContS.bind (P := fun m H => IsIt g m H) c).imp fun J H1 ⟨a, S1, m1, e1, s1, r1, c1⟩ => ?_⟩
  obtain ⟨_, G, Y, w, hG, hY⟩ := r1
  refine for_it w (fun i σ' H' => ∃ ρ' S' m', Ext m1 H1 m' H' ∧ ERep m' H' ρ' σ' ∧ SimS g.cl m' S' H' ∧ ContS g W m' H' (forL a.2 tg kill body (a.1.drop i) ρ' S') E)
    ⟨_, S1, m1, Ext.refl _ _, (e.mono e1).drops, s1, c1⟩ (fun i σ' H' _ ⟨ρ', S', m', e', r', s', c'⟩ => hG m' H' S' e' s' (forL_gd c')) ?_ ?_
  · rintro i v σ' H' H2 hi ⟨ρ', S', m', e', r', s', c'⟩ y
    have hx : a.1[i]? = some a.1[i] := List.getElem?_eq_getElem hi
    obtain ⟨e2, s2, rd⟩ := hY i m' H' S' v H2 _ e' s' (forL_gd c') y hx
    rw [List.drop_eq_getElem_cons hi] at c'
    obtain ⟨_, c'⟩ := ContS.whenS (f := (match tg a.1[i] ρ' with
      | some ρ1 => do
        let r ← body ρ1
        match r with
        | .nx ρ2 => forL a.2 tg kill body (a.1.drop (i + 1)) (dropE ρ2 kill)
        | .rt d => pure (.rt d)
      | none => M.fail)) c'
    cases q : tg a.1[i] ρ' with
    | none => rw [q] at c'; exact c'.elim
    | some ρ1 =>
      rw [q] at c'
      refine ⟨_, ρ', m', ρ1, rd, r'.mono e2, q, fun σ1 re _ => ?_⟩
      refine ⟨ρ1, S', m', re, s2, ContS.seq (c'.mono e2) (fun ρ2 S3 σ3 m3 H3 e3 s3 r3 c3 => ?_) fun d S3 v3 m3 H3 e3 s3 r3 c3 => c3 v3 m3 H3 (Ext.refl _ _) s3 r3⟩
      exact ⟨_, S3, m3, (e'.trans e2).trans e3, r3.drops, s3, c3⟩
  · rintro σ' H' ⟨ρ', S', m', e', r', s', c'⟩
    rw [List.drop_length] at c'
    obtain ⟨_, c'⟩ := ContS.whenS (f := pure (.nx ρ')) c'
    exact c' σ' m' H' (Ext.refl _ _) s' r'
/-! while: a count of turns that does -/
def whileN (c : DEnv → M Bool) (kill : List Nat) (body : ST) : Nat → ST
  | 0 => fun _ => M.fail
  | n + 1 => fun ρ => do
    let k ← c ρ
    if k = true then (do
      let r ← body ρ
      match r with
      | .nx ρ2 => whileN c kill body n (dropE ρ2 kill)
      | .rt d => pure (.rt d)) else pure (.nx ρ)
open Classical in
def whileW (c : DEnv → M Bool) (kill : List Nat) (body : ST) : ST := fun ρ S => if h : ∃ n, whileN c kill body n ρ S ≠ .bad then whileN c kill body (Classical.choose h) ρ S else .bad
def sWhile (c : DEnv → M Bool) (kill : List Nat) (body : ST) : ST := fun ρ => whileW c kill body (dropE ρ kill)
theorem ss_while {c : Expr} {bd : List Stmt} {pos : Pos} {fc : DEnv → M Bool} {kill : List Nat} {body : ST} (h : PS X (.While c bd [] pos) (tWhile (TrT g W fc) (TrS g W body))) : PS X (.While c bd [] pos) (TrS g W (sWhile fc kill body)) := by
  refine PS.wk h fun E σ H ⟨ρ, S, m, e, s, c⟩ => ?_
  have c : ContS g W m H (whileW fc kill body (dropE ρ kill) S) E := c
  unfold whileW at c
  split at c
  · rename_i hn
    refine ⟨fun n σ' H' => ∃ ρ' S' m', ERep m' H' ρ' σ' ∧ SimS g.cl m' S' H' ∧ ContS g W m' H' (whileN fc kill body n ρ' S') E, ⟨_, _, S, m, e.drops, s, c⟩, ?_⟩
    rintro n σ' H' ⟨ρ', S', m', r', s', c'⟩
    cases n with
    | zero => exact c'.elim
    | succ n =>
      refine ⟨ρ', S', m', r', s', (ContS.bind (P := fun _ _ a b => a = b) c').imp fun k H1 ⟨x, S1, m1, e1, s1, r1, c1⟩ => ?_⟩
      have r1 : x = k := r1
      subst r1
      cases x with
      | false => exact c1 σ' m1 H1 (Ext.refl _ _) s1 (r'.mono e1)
      | true =>
        refine ⟨fun σ2 H2 => ∃ ρ' S' m', ERep m' H2 ρ' σ2 ∧ SimS g.cl m' S' H2 ∧ ContS g W m' H2 (whileN fc kill body n ρ' S') E, fun σ2 H2 q => ⟨n, Nat.lt_succ_self n, q⟩, ?_⟩
        refine ⟨ρ', S1, m1, r'.mono e1, s1, ContS.seq c1 (fun ρ2 S3 σ3 m3 H3 e3 s3 r3 c3 => ?_) fun d S3 v3 m3 H3 e3 s3 r3 c3 => c3 v3 m3 H3 (Ext.refl _ _) s3 r3⟩
        exact ⟨_, S3, m3, r3.drops, s3, c3⟩
  · exact c.elim
end
end
end LP

set_option Elab.async false
set_option linter.all false
set_option maxRecDepth 100000
set_option maxHeartbeats 2000000
namespace LP
open PySem PySem.Spec L2
set_option autoImplicit false
noncomputable section

/-- no exception is let out -/
abbrev W0 : WX := fun _ _ _ _ => False
/-! ### comprehensions -/
def compL (gd : Store → Prop) (tg : GX) (tt : DEnv → M Bool) (el : DEnv → M D) (ρ : DEnv) : List D → M (List D)
  | [] => M.whenS gd (pure [])
  | x :: xs => M.whenS gd (match tg x ρ with
    | some ρ1 => do
      let b ← M.noex (tt ρ1)
      if b = true then (do
        let y ← M.noex (el ρ1)
        let ys ← compL gd tg tt el ρ xs
        pure (y :: ys)) else compL gd tg tt el ρ xs
    | none => M.fail)
def nComp (it : IT) (tg : GX) (vs : List Nat) (tt : DEnv → M Bool) (el : DEnv → M D) : DEnv → M (List D) := fun ρ => do
  let a ← it ρ
  compL a.2 tg tt el (dropE ρ vs) a.1
def tTrue : DEnv → M Bool := fun _ => pure true
section
variable {X : Cx} {g : Gx} {W : WX}
theorem whenS_inv {α : Type} {gd : Store → Prop} {f : M α} {S : Store} (h : M.whenS gd f S ≠ .bad) : gd S ∧ M.whenS gd f S = f S := by
  unfold M.whenS at h ⊢
  by_cases q : gd S
  · rw [if_pos q]; exact ⟨q, rfl⟩
  · rw [if_neg q] at h; exact absurd rfl h
theorem noex_inv {α : Type} {f : M α} {S : Store} : M.noex f S = .bad ∨ ∃ a S', f S = .ok a S' ∧ M.noex f S = .ok a S' := by
  unfold M.noex
  cases f S with
  | ok a S' => exact .inr ⟨a, S', rfl, rfl⟩
  | ex => exact .inl rfl
  | bad => exact .inl rfl
theorem bind_run {α β : Type} (f : M α) (k : α → M β) (S : Store) : (f >>= k) S = match f S with
    | .ok a S' => k a S'
    | .ex x S' => .ex x S'
    | .bad => .bad := rfl
def R.pre (acc : List D) : R (List D) → R (List D)
  | .ok ys S => .ok (acc ++ ys) S
  | .ex x S => .ex x S
  | .bad => .bad
theorem pre_bind (acc : List D) (y : D) (f : M (List D)) (S : Store) : R.pre acc ((f >>= fun ys => pure (y :: ys)) S) = R.pre (acc ++ [y]) (f S) := by
  rw [bind_run]
  cases f S with
  | ok ys S' => show R.ok (acc ++ (y :: ys)) S' = R.ok (acc ++ [y] ++ ys) S'; simp
  | ex => rfl
  | bad => rfl
theorem wipe_ne {σ : L2.St} {i : Nat} : ∀ {vs : List Nat}, i ∉ vs → (wipe σ vs)[i]? = σ[i]?
  | [], _ => rfl
  | v :: vs, h => by
    unfold wipe
    rw [List.getElem?_set_ne fun e => h (by rw [e]; exact List.mem_cons_self)]
    exact wipe_ne fun z => h (List.mem_cons_of_mem _ z)
theorem wipe_in {σ : L2.St} {i : Nat} : ∀ {vs : List Nat}, i ∈ vs → (wipe σ vs)[i]? = if i < σ.length then some none else none
  | v :: vs, h => by
    unfold wipe
    by_cases q : v = i
    · subst q
      by_cases hl : v < σ.length
      · rw [List.getElem?_set_self (by rw [wipe_length]; exact hl), if_pos hl]
      · rw [List.getElem?_eq_none (by simp [wipe_length]; omega), if_neg hl]
    · rw [List.getElem?_set_ne q]
      exact wipe_in (by rcases List.mem_cons.mp h with h | h; exact absurd h.symm q; exact h)
theorem wipe_wipe (σ : L2.St) (vs : List Nat) : wipe (wipe σ vs) vs = wipe σ vs := by
  apply List.ext_getElem?
  intro i
  by_cases h : i ∈ vs
  · rw [wipe_in h, wipe_in h, wipe_length]
  · rw [wipe_ne h]
theorem dropE_get {i : Nat} {d : D} : ∀ {vs : List Nat} {ρ : DEnv}, (dropE ρ vs)[i]? = some (some d) → i ∉ vs ∧ ρ[i]? = some (some d)
  | [], _, h => ⟨by simp, h⟩
  | v :: vs, ρ, h => by
    obtain ⟨h1, h2⟩ := dropE_get (vs := vs) (ρ := ρ.set v none) h
    by_cases q : v = i
    · subst q
      by_cases hl : v < ρ.length
      · rw [List.getElem?_set_self hl] at h2; cases h2
      · rw [List.getElem?_eq_none (by simpa using hl)] at h2; cases h2
    · rw [List.getElem?_set_ne q] at h2
      exact ⟨by simp only [List.mem_cons, not_or]; exact ⟨fun e => q e.symm, h1⟩, h2⟩
theorem dropE_len : ∀ (vs : List Nat) (ρ : DEnv), (dropE ρ vs).length = ρ.length
  | [], _ => rfl
  | v :: vs, ρ => by
    show (dropE (ρ.set v none) vs).length = _
    rw [dropE_len vs, List.length_set]
theorem ERep.wipe {m : Mp} {H : Hp} {ρ : DEnv} {σ : L2.St} (r : ERep m H ρ σ) (vs : List Nat) : ERep m H (dropE ρ vs) (L2.wipe σ vs) where
  len := by rw [dropE_len, wipe_length, r.len]
  get := fun i d h => by
    obtain ⟨h1, h2⟩ := dropE_get h
    obtain ⟨v, hv, rv⟩ := r.get i d h2
    exact ⟨v, by rw [wipe_ne h1]; exact hv, rv⟩
/-! the list that is being made -/
theorem Ext.hide {m : Mp} {H : Hp} {p : Addr} (h : H p = none) : Ext m H (m.hide p) H where
  pre := List.prefix_refl _
  xsub := fun a q => List.mem_cons_of_mem _ q
  xnew := fun a q n => by
    rcases List.mem_cons.mp q with q | q
    · subst q; exact h
    · exact absurd q n
  frame := fun _ _ _ h => h
  new := fun _ h n => absurd h n
  frz := fun _ _ _ h => h
  tup := fun _ _ h => h
  dom := fun _ h => h
/-- the hidden list is written -/
theorem Ext.upx {m m' : Mp} {H H' : Hp} {p : Addr} {w : HO} (e : Ext m H m' H') (h : H p = none) : Ext m H m' (upd H' p w) where
  pre := e.pre
  xsub := e.xsub
  xnew := e.xnew
  frame := fun a o n q => by rw [upd_ne (ne_of_none q h)]; exact e.frame a o n q
  new := e.new
  frz := fun a o u q => by rw [upd_ne (ne_of_none q h)]; exact e.frz a o u q
  tup := fun a xs q => by rw [upd_ne (ne_of_none q h)]; exact e.tup a xs q
  dom := fun a q => by
    by_cases z : a = p
    · subst z; exact h
    · rw [upd_ne z] at q; exact e.dom a q
theorem Mn.upx {m : Mp} {H : Hp} {p : Addr} {w : HO} {vs : List V} (hx : p ∈ m.x) (h : H p = some (.lst vs)) : Mn m H m (upd H p w) where
  get := fun _ _ h => h
  tup := fun a xs q => by rw [upd_ne fun z => by subst z; rw [h] at q; cases q]; exact q
  keep := fun a o n q => ⟨by rw [upd_ne fun z => by subst z; exact n.x hx]; exact q, n⟩
theorem SimS.upx {m : Mp} {S : Store} {H : Hp} {p : Addr} {w : HO} {vs : List V} (s : SimS g.cl m S H) (hl : p ∉ m.l) (hx : p ∈ m.x) (h : H p = some (.lst vs)) : SimS g.cl m S (upd H p w) where
  len := s.len
  nd := s.nd
  xs := fun a q e => by
    by_cases z : a = p
    · subst z; rw [upd_same] at e; cases e
    · rw [upd_ne z] at e; exact s.xs a q e
  obj := fun n o a e1 e2 => (s.obj n o a e1 e2).mn (Mn.upx hx h) (upd_ne fun z => hl (by rw [← z]; exact List.mem_of_getElem? e2))
/-- .. and shown -/
def without (H : Hp) (p : Addr) : Hp := fun b => if b = p then none else H b
theorem without_self {H : Hp} {p : Addr} : without H p p = none := by unfold without; rw [if_pos rfl]
theorem without_ne {H : Hp} {p b : Addr} (h : b ≠ p) : without H p b = H b := by unfold without; rw [if_neg h]
theorem upd_without {H : Hp} {p : Addr} {o : HO} (h : H p = some o) : upd (without H p) p o = H := by
  funext b
  by_cases q : b = p
  · subst q; rw [upd_same, h]
  · rw [upd_ne q, without_ne q]
theorem lc_run {it : IT} {sl vs : List Nat} {tg : GX} {tt : DEnv → M Bool} {el : DEnv → M D} (hsl : ∀ i ∈ sl, i ∈ vs) {σ : L2.St} {H : Hp} {Q : VK} (h : TrN g W (nComp it tg vs tt el) σ H Q) :
    tLc (TrI g W it) (TrG sl tg) (TrT g W0 tt) (TrE g W0 el) vs σ H Q := by
  obtain ⟨ρ, S, m, e, s, c⟩ := h
  refine ⟨ρ, S, m, e, s, (Cont.bind (P := fun m H => IsIt g m H) c).imp fun J H1 hh => ?_⟩
  obtain ⟨a, S1, m1, e1, s1, ⟨hz, G, Y, w, hG, hY⟩, c1⟩ := hh
  intro D hD
  have hn1 : D ∉ m1.l := (s1.free hD).l
  generalize hr0 : compL a.2 tg tt el (dropE ρ vs) a.1 S1 = r0 at c1
  have eh : Ext m1 H1 (m1.hide D) H1 := Ext.hide hD
  refine lc_it w (fun i Hc => ∃ S' m' acc ws, Ext (m1.hide D) H1 m' Hc ∧ SimS g.cl m' S' Hc ∧ ERep m' Hc (dropE ρ vs) (wipe σ vs) ∧ Hc D = some (.lst ws) ∧ Reps m' Hc acc ws ∧ ws.length ≤ i ∧ D ∉ m'.l ∧ R.pre acc (compL a.2 tg tt el (dropE ρ vs) (a.1.drop i) S') = r0) ?_ ?_ ?_ ?_
  · have E : Ext (m1.hide D) H1 (m1.hide D) (upd H1 D (.lst [])) := Ext.tmp hD
    refine ⟨S1, m1.hide D, [], [], E, ?_, ((e.mono e1).wipe vs).mono (eh.trans E), upd_same, .nil, Nat.le_refl _, hn1, ?_⟩
    · refine ⟨s1.len, s1.nd, fun b q z => ?_, fun n o b e2 e3 => ?_⟩
      · by_cases hb : b = D
        · subst hb; rw [upd_same] at z; cases z
        · rw [upd_ne hb] at z
          rcases List.mem_cons.mp q with q | q
          · exact hb q
          · exact s1.xs b q z
      · have r := s1.obj n o b e2 e3
        obtain ⟨u, hu⟩ := r.some
        exact r.mono (eh.trans E) (upd_ne (ne_of_none hu hD))
    · rw [List.drop_zero, hr0]
      cases r0 with
      | ok => rfl
      | ex => rfl
      | bad => rfl
  · rintro i Hc hi ⟨S', m', acc, ws, E, s', r', hd, ra, hl, hnl, q⟩
    refine hG m' Hc S' (eh.trans E) s' ?_
    have nb : compL a.2 tg tt el (dropE ρ vs) (a.1.drop i) S' ≠ .bad := fun z => by
      rw [z] at q
      have q : R.bad = r0 := q
      rw [← q] at c1
      exact c1
    cases hx : a.1.drop i with
    | nil =>
      rw [hx] at nb
      exact (whenS_inv (f := pure []) nb).1
    | cons x xs =>
      rw [hx] at nb
      unfold compL at nb
      exact (whenS_inv nb).1
  · rintro i v Hc H2 hi ⟨S', m', acc, ws, E, s', r', hd, ra, hl, hnl, q⟩ y
    have hx : a.1[i]? = some a.1[i] := List.getElem?_eq_getElem hi
    rw [List.drop_eq_getElem_cons hi] at q
    have nb : compL a.2 tg tt el (dropE ρ vs) (a.1[i] :: a.1.drop (i + 1)) S' ≠ .bad := fun z => by
      rw [z] at q
      have q : R.bad = r0 := q
      rw [← q] at c1
      exact c1
    unfold compL at nb q
    obtain ⟨gd, eq1⟩ := whenS_inv nb
    rw [eq1] at nb q
    obtain ⟨e2, s2, rd⟩ := hY i m' Hc S' v H2 _ (eh.trans E) s' gd y hx
    cases qt : tg a.1[i] (dropE ρ vs) with
    | none => rw [qt] at nb; exact absurd rfl nb
    | some ρ1 =>
      rw [qt] at nb q
      dsimp only at nb q
      refine ⟨_, _, m', ρ1, rd, r'.mono e2, qt, fun σ2 re ww => ⟨(ww vs hsl).trans (wipe_wipe σ vs), ?_⟩⟩
      rw [bind_run] at nb q
      rcases noex_inv (f := tt ρ1) (S := S') with z | ⟨b, S2, ht, z⟩
      · rw [z] at nb; exact absurd rfl nb
      · rw [z] at nb q
        dsimp only at nb q
        refine ⟨ρ1, S', m', re, s2, ?_⟩
        rw [ht]
        intro b' m3 H3 e3 s3 eb
        have eb : b = b' := eb
        subst eb
        have hd2 : H2 D = some (.lst ws) := e2.frame _ _ hnl hd
        have hd3 : H3 D = some (.lst ws) := e3.frame _ _ hnl hd2
        have hx3 : D ∈ m3.x := e3.xsub _ (E.xsub _ List.mem_cons_self)
        have hn3 : D ∉ m3.l := e3.outl hnl hd2
        cases b with
        | false =>
          rw [if_neg Bool.false_ne_true] at nb q ⊢
          exact ⟨S2, m3, acc, ws, (E.trans e2).trans e3, s3, (r'.mono e2).mono e3, hd3, (ra.mono e2).mono e3, Nat.le_succ_of_le hl, hn3, q⟩
        | true =>
          rw [if_pos rfl] at nb q ⊢
          rw [bind_run] at nb q
          rcases noex_inv (f := el ρ1) (S := S2) with z2 | ⟨yd, S3, he, z2⟩
          · rw [z2] at nb; exact absurd rfl nb
          · rw [z2] at nb q
            dsimp only at nb q
            refine ⟨ρ1, S2, m3, re.mono e3, s3, ?_⟩
            rw [he]
            intro yv m4 H4 e4 s4 ry
            have hd4 : H4 D = some (.lst ws) := e4.frame _ _ hn3 hd3
            have hx4 : D ∈ m4.x := e4.xsub _ hx3
            have hn4 : D ∉ m4.l := e4.outl hn3 hd3
            have M4 : Mn m4 H4 m4 (upd H4 D (.lst (ws ++ [yv]))) := Mn.upx hx4 hd4
            refine ⟨ws, hd4, by omega, S3, m4, acc ++ [yd], ws ++ [yv], Ext.upx (((E.trans e2).trans e3).trans e4) hD, s4.upx hn4 hx4 hd4, (((r'.mono e2).mono e3).mono e4).mn M4, upd_same, ((((ra.mono e2).mono e3).mono e4).append (.cons ry .nil)).mn M4, by simp; omega, hn4, ?_⟩
            rw [← q]
            exact (pre_bind acc yd _ S3).symm
  · rintro Hc ⟨S', m', acc, ws, E, s', r', hd, ra, hl, hnl, q⟩
    rw [List.drop_length] at q
    unfold compL at q
    have nb : M.whenS a.2 (pure [] : M (List LP.D)) S' ≠ .bad := fun z => by
      rw [z] at q
      have q : R.bad = r0 := q
      rw [← q] at c1
      exact c1
    rw [(whenS_inv nb).2] at q
    have q : R.ok (acc ++ []) S' = r0 := q
    rw [List.append_nil] at q
    rw [← q] at c1
    have hx' : D ∈ m'.x := E.xsub _ List.mem_cons_self
    have mn : Mn m' Hc ⟨m'.l, m1.x⟩ (without Hc D) := ⟨fun _ _ h => h, fun b xs q => by rw [without_ne fun z => by subst z; rw [hd] at q; cases q]; exact q, fun b o n q =>
      ⟨by rw [without_ne fun z => by subst z; exact n.x hx']; exact q, n.l, fun z => n.x (E.xsub _ (List.mem_cons_of_mem _ z))⟩⟩
    have fin : Q (.ref D) (upd (without Hc D) D (.lst ws)) := c1 (ws, D) ⟨m'.l, m1.x⟩ (without Hc D) ⟨E.pre, fun _ h => h, fun _ h n => absurd h n, fun b o n z => by rw [without_ne (ne_of_none z hD)]; exact E.frame b o n z, E.new, fun b o u z => by rw [without_ne (ne_of_none z hD)]; exact E.frz b o u z, fun b xs z => by rw [without_ne (ne_of_none z hD)]; exact E.tup b xs z, fun b z => by
        by_cases hb : b = D
        · subst hb; exact hD
        · rw [without_ne hb] at z; exact E.dom b z⟩ ⟨s'.len, s'.nd, fun b q z => by
        by_cases hb : b = D
        · subst hb; exact s1.xs _ q hD
        · rw [without_ne hb] at z; exact s'.xs b (E.xsub _ (List.mem_cons_of_mem _ q)) z, fun n o b e1 e2 => (s'.obj n o b e1 e2).mn mn (without_ne fun z => hnl (by rw [← z]; exact List.mem_of_getElem? e2))⟩ ⟨ra.mn mn, Nat.le_trans hl hz, without_self⟩
    rw [upd_without hd] at fin
    exact fin
theorem n_comp {e : Expr} {it : IT} {sl vs : List Nat} {tg : GX} {tt : DEnv → M Bool} {el : DEnv → M D} (hsl : ∀ i ∈ sl, i ∈ vs) (h : PE X e (tLc (TrI g W it) (TrG sl tg) (TrT g W0 tt) (TrE g W0 el) vs)) : PE X e (TrN g W (nComp it tg vs tt el)) :=
  PE.wk h fun _ _ _ q => lc_run hsl q
theorem pts0 : PTs X [] (TrT g W tTrue) := ⟨fun pins s σ H Q I h => pts_nil.run pins s σ H Q I (by
  obtain ⟨ρ, S, m, e, s', c⟩ := h
  exact c.ok s' rfl)⟩
end
end
end LP

set_option Elab.async false
set_option linter.all false
set_option maxRecDepth 100000
set_option maxHeartbeats 2000000
namespace LP
open PySem PySem.Spec L2
set_option autoImplicit false
noncomputable section

/-! ### a def: what it promises -/
abbrev Fn := List D → M D
/-- f tells what the def hands back; n: the count of its parameters -/
def spD (g : Gx) (n : Nat) (f : Fn) : Sp := fun vs H Q E => vs.length = n ∧ ∃ ds S m, Reps m H ds vs ∧ SimS g.cl m S H ∧ Cont g (fun c d _ H => E c d H) [] (fun m H => Rep m H) m H (f ds S) Q
/-- what an exception of a def wants -/
abbrev WE (E : XK) : WX := fun c d _ H => E c d H
section
variable {X : Cx} {g : Gx} {W : WX}
def eCall (f : Fn) (a : DEnv → M (List D)) : DEnv → M D := fun ρ => do
  let xs ← a ρ
  f xs
theorem fn_run {n : Nat} {f : Fn} {σ : L2.St} {m : Mp} {H : Hp} {S : Store} {ds : List D} {vs : List V} {Q : VK} (s : SimS g.cl m S H) (r : Reps m H ds vs) (hn : vs.length = n) (c : Cont g W σ (fun m H => Rep m H) m H (f ds S) Q) : spD g n f vs H Q (L2.WE W σ) := by
  refine ⟨hn, ds, S, m, r, s, ?_⟩
  cases q : f ds S with
  | ok a S1 => rw [q] at c; exact c
  | ex x S1 => rw [q] at c; exact c
  | bad => rw [q] at c; exact c.elim
/-- a call of a def: the count of its arguments is that of its parameters -/
theorem s_call {e : Expr} {n : Nat} {f : Fn} {fa : DEnv → M (List D)} (hn : ∀ ρ S xs S', fa ρ S = .ok xs S' → xs.length = n) (h : PE X e (tCallS (spD g n f) (L2.WE W) (TrA g W fa))) : PE X e (TrE g W (eCall f fa)) := by
  refine PE.wk h fun σ H Q ⟨ρ, S, m, e, s, c⟩ => ?_
  refine ⟨ρ, S, m, e, s, ?_⟩
  have c' : Cont g W σ (fun m H => Rep m H) m H (M.bind (fa ρ) f S) Q := c
  unfold M.bind at c'
  cases q : fa ρ S with
  | ok xs S1 =>
    rw [q] at c'
    intro vs m1 H1 e1 s1 r1
    have r1 : Reps m1 H1 xs vs := r1
    exact fn_run s1 r1 (by rw [← r1.length]; exact hn ρ S xs S1 q) (Cont.mono c' e1)
  | ex x S1 => rw [q] at c'; exact c'
  | bad => rw [q] at c'; exact c'.elim
/-- .. without arguments -/
theorem s_call0 {e : Expr} {f : Fn} (h : PE X e (fun σ H Q => spD g 0 f [] H Q (L2.WE W σ))) : PE X e (TrE g W (eCall f aNil)) := by
  refine PE.wk h fun σ H Q ⟨ρ, S, m, e, s, c⟩ => ?_
  exact fn_run s (.nil : Reps m H [] []) rfl c
theorem len_nil : ∀ ρ S xs S', aNil ρ S = .ok xs S' → xs.length = 0 := fun ρ S xs S' h => by
  have h : R.ok ([] : List D) S = .ok xs S' := h
  cases h
  rfl
theorem len_cons {fa : DEnv → M D} {fr : DEnv → M (List D)} {n : Nat} (h : ∀ ρ S xs S', fr ρ S = .ok xs S' → xs.length = n) : ∀ ρ S xs S', aCons fa fr ρ S = .ok xs S' → xs.length = n + 1 := fun ρ S xs S' q => by
  have q : M.bind (fa ρ) (fun x => M.bind (fr ρ) fun xs => M.ret (x :: xs)) S = .ok xs S' := q
  unfold M.bind at q
  cases q1 : fa ρ S with
  | ok x S1 =>
    rw [q1] at q
    dsimp only at q
    cases q2 : fr ρ S1 with
    | ok ys S2 =>
      rw [q2] at q
      have q : R.ok (x :: ys) S2 = .ok xs S' := q
      cases q
      rw [List.length_cons, h ρ S1 ys _ q2]
    | ex => rw [q2] at q; cases q
    | bad => rw [q2] at q; cases q
  | ex => rw [q1] at q; cases q
  | bad => rw [q1] at q; cases q

/-! ### the body of a def -/
def body0 (n : Nat) (b : ST) : Fn := fun ds => do
  let r ← b (ds.map some ++ List.replicate (n - ds.length) none)
  match r with
  | .nx _ => pure .non
  | .rt d => pure d
theorem start_rep {m : Mp} {H : Hp} {N : List Str} {ds : List D} {vs : List V} (r : Reps m H ds vs) : ERep m H (ds.map some ++ List.replicate (N.length - ds.length) none) (L2.start N vs) := by
  unfold L2.start
  refine ⟨by simp [r.length], fun i d h => ?_⟩
  by_cases hi : i < ds.length
  · rw [List.getElem?_append_left (by simpa using hi)] at h
    rw [List.getElem?_append_left (by rw [List.length_map, ← r.length]; exact hi)]
    rw [List.getElem?_map] at h ⊢
    cases q : ds[i]? with
    | none => rw [q] at h; cases h
    | some d' =>
      rw [q] at h
      have h : some (some d') = some (some d) := h
      cases h
      obtain ⟨v, hv, rv⟩ := r.get q
      exact ⟨v, by rw [hv]; rfl, rv⟩
  · rw [List.getElem?_append_right (by simpa using Nat.le_of_not_lt hi)] at h
    rw [List.getElem?_replicate] at h
    split at h <;> cases h
theorem body_run {f : Fn} {N : List Str} {b : ST} {vs : List V} {H : Hp} {Q : VK} {E : XK} (hf : ∀ ds, f ds = body0 N.length b ds) (h : ∃ ds S m, Reps m H ds vs ∧ SimS g.cl m S H ∧ Cont g (WE E) [] (fun m H => Rep m H) m H (f ds S) Q) :
    TrS g (WE E) b { nx := fun _ H' => Q .non H', rt := Q } (L2.start N vs) H := by
  obtain ⟨ds, S, m, r, s, c⟩ := h
  refine ⟨_, S, m, start_rep r, s, ?_⟩
  rw [hf] at c
  have c' : Cont g (WE E) [] (fun m H => Rep m H) m H (M.bind (b (ds.map some ++ List.replicate (N.length - ds.length) none)) (fun r => match r with
    | .nx _ => pure .non
    | .rt d => pure d) S) Q := c
  unfold M.bind at c'
  cases q : b (ds.map some ++ List.replicate (N.length - ds.length) none) S with
  | ok a S1 =>
    rw [q] at c'
    cases a with
    | nx ρ => exact fun σ' m' H' e s' _ => c' .non m' H' e s' .non
    | rt d => exact fun v m' H' e s' r' => c' v m' H' e s' r'
  | ex x S1 => rw [q] at c'; exact fun C d _ m' H' h1 h2 h3 h4 => c' C d m' H' h1 h2 h3 h4
  | bad => rw [q] at c'; exact c'.elim

/-! ### what a def leaves in the store is taken away: what it hands back stands for itself -/
mutual
/-- no thing of the store from b on -/
def old (b : Nat) : D → Bool
  | .tup xs => olds b xs
  | .lst xs => olds b xs
  | .dk kvs => oldk b kvs
  | .dt kvs => oldt b kvs
  | .loc n => decide (n < b)
  | .non => true
  | .bl _ => true
  | .int _ => true
  | .str _ => true
def olds (b : Nat) : List D → Bool
  | [] => true
  | x :: xs => old b x && olds b xs
def oldk (b : Nat) : List (Key × D) → Bool
  | [] => true
  | (_, x) :: xs => old b x && oldk b xs
def oldt (b : Nat) : List (List Key × D) → Bool
  | [] => true
  | (_, x) :: xs => old b x && oldt b xs
end
def oldMO (b : Nat) : MO → Bool
  | .lst xs => olds b xs
  | .ro xs => olds b xs
  | .dk kvs => oldk b kvs
  | .dt kvs => oldt b kvs
  | .ins _ fs => olds b (fs.map (·.2))
/-- what is newer than b stands for itself from now on -/
def frz (S : Store) (b : Nat) : Nat → D → D
  | 0, d => d
  | k + 1, d => match d with
    | .tup xs => .tup (xs.map (frz S b k))
    | .lst xs => .lst (xs.map (frz S b k))
    | .dk kvs => .dk (kvs.map fun p => (p.1, frz S b k p.2))
    | .dt kvs => .dt (kvs.map fun p => (p.1, frz S b k p.2))
    | .loc n => if n < b then .loc n else match S[n]? with
      | some (.lst xs) => .lst (xs.map (frz S b k))
      | some (.dk kvs) => .dk (kvs.map fun p => (p.1, frz S b k p.2))
      | some (.dt kvs) => .dt (kvs.map fun p => (p.1, frz S b k p.2))
      | _ => .loc n
    | d => d
def clean (S S' : Store) : Prop := S.length ≤ S'.length ∧ ∀ i, i < S.length → S'[i]? = S[i]? ∨ ∃ o, S'[i]? = some o ∧ oldMO S.length o = true
open Classical in
def gcM (f : M D) : M D := fun S => match f S with
  | .ok d S' => if old S.length (frz S' S.length 4 d) = true ∧ clean S S' then .ok (frz S' S.length 4 d) (S'.take S.length) else .bad
  | .ex x S' => .ex x S'
  | .bad => .bad
section
variable {m m' : Mp} {H H' : Hp} {b : Nat}
mutual
theorem old_of : ∀ {d : D} {v : V}, Rep m H d v → old m.l.length d = true
  | _, _, .non => by simp [old]
  | _, _, .bl => by simp [old]
  | _, _, .int => by simp [old]
  | _, _, .str => by simp [old]
  | _, _, .tup h z r => by rw [old]; exact olds_of r
  | _, _, .lst h n z r => by rw [old]; exact olds_of r
  | _, _, .dk h n r => by rw [old]; exact oldk_of r
  | _, _, .dt h n r => by rw [old]; exact oldt_of r
  | _, _, .loc h => by
    rw [old]
    exact decide_eq_true (List.getElem?_eq_some_iff.mp h).1
theorem olds_of : ∀ {d : List D} {v : List V}, Reps m H d v → olds m.l.length d = true
  | _, _, .nil => by simp [olds]
  | _, _, .cons a b => by rw [olds, old_of a, olds_of b]; rfl
theorem oldk_of : ∀ {d : List (Key × D)} {v : List (Key × V)}, KReps m H d v → oldk m.l.length d = true
  | _, _, .nil => by simp [oldk]
  | _, _, .cons a b => by rw [oldk, old_of a, oldk_of b]; rfl
theorem oldt_of : ∀ {d : List (List Key × D)} {v : List (List Key × V)}, TReps m H d v → oldt m.l.length d = true
  | _, _, .nil => by simp [oldt]
  | _, _, .cons a b => by rw [oldt, old_of a, oldt_of b]; rfl
end
/-- the store cut back to its first b -/
structure Cut (m' m : Mp) (b : Nat) : Prop where
  lo : ∀ (n : Nat) (a : Addr), n < b → m'.l[n]? = some a → m.l[n]? = some a
  out : ∀ a, m'.out a → m.out a
  hi : ∀ (n : Nat) (a : Addr), b ≤ n → m'.l[n]? = some a → m.out a
mutual
theorem Rep.cut (c : Cut m' m b) : ∀ {d : D} {v : V}, Rep m' H d v → old b d = true → Rep m H d v
  | _, _, .non, _ => .non
  | _, _, .bl, _ => .bl
  | _, _, .int, _ => .int
  | _, _, .str, _ => .str
  | _, _, .tup h z r, o => .tup h z (r.cutS c (by rw [old] at o; exact o))
  | _, _, .lst h n z r, o => .lst h (c.out _ n) z (r.cutS c (by rw [old] at o; exact o))
  | _, _, .dk h n r, o => .dk h (c.out _ n) (r.cutS c (by rw [old] at o; exact o))
  | _, _, .dt h n r, o => .dt h (c.out _ n) (r.cutS c (by rw [old] at o; exact o))
  | _, _, .loc h, o => .loc (c.lo _ _ (by rw [old] at o; exact of_decide_eq_true o) h)
theorem Reps.cutS (c : Cut m' m b) : ∀ {d : List D} {v : List V}, Reps m' H d v → olds b d = true → Reps m H d v
  | _, _, .nil, _ => .nil
  | _, _, .cons x y, o => by
    rw [olds, Bool.and_eq_true] at o
    exact .cons (x.cut c o.1) (y.cutS c o.2)
theorem KReps.cutS (c : Cut m' m b) : ∀ {d : List (Key × D)} {v : List (Key × V)}, KReps m' H d v → oldk b d = true → KReps m H d v
  | _, _, .nil, _ => .nil
  | _, _, .cons x y, o => by
    rw [oldk, Bool.and_eq_true] at o
    exact .cons (x.cut c o.1) (y.cutS c o.2)
theorem TReps.cutS (c : Cut m' m b) : ∀ {d : List (List Key × D)} {v : List (List Key × V)}, TReps m' H d v → oldt b d = true → TReps m H d v
  | _, _, .nil, _ => .nil
  | _, _, .cons x y, o => by
    rw [oldt, Bool.and_eq_true] at o
    exact .cons (x.cut c o.1) (y.cutS c o.2)
end
theorem MRep.cut {cl : Str → Option Addr} {o : MO} {a : Addr} (c : Cut m' m b) (r : MRep cl m' H o a) (q : oldMO b o = true) : MRep cl m H o a := by
  cases o with
  | lst xs => obtain ⟨vs, h1, z, h2⟩ := r; exact ⟨vs, h1, z, h2.cutS c q⟩
  | dk kvs => obtain ⟨vs, h1, h2⟩ := r; exact ⟨vs, h1, h2.cutS c q⟩
  | dt kvs => obtain ⟨vs, h1, h2⟩ := r; exact ⟨vs, h1, h2.cutS c q⟩
  | ro xs => obtain ⟨o, vs, h1, z, h2⟩ := r; exact ⟨o, vs, h1, z, h2.cutS c q⟩
  | ins k fs => obtain ⟨C, dx, ws, h0, h1, h2, h3⟩ := r; exact ⟨C, dx, ws, h0, h1, h2, h3.cutS c q⟩
theorem MRep.old {cl : Str → Option Addr} {o : MO} {a : Addr} (r : MRep cl m H o a) : oldMO m.l.length o = true := by
  cases o with
  | lst xs => obtain ⟨vs, h1, z, h2⟩ := r; exact olds_of h2
  | dk kvs => obtain ⟨vs, h1, h2⟩ := r; exact oldk_of h2
  | dt kvs => obtain ⟨vs, h1, h2⟩ := r; exact oldt_of h2
  | ro xs => obtain ⟨o, vs, h1, z, h2⟩ := r; exact olds_of h2
  | ins k fs => obtain ⟨C, dx, ws, h0, h1, h2, h3⟩ := r; exact olds_of h3
theorem frz_reps {S : Store} {k : Nat} (ih : ∀ {d : D} {v : V}, Rep m' H d v → LP.old b (frz S b k d) = true → Rep m H (frz S b k d) v) : ∀ {ds : List D} {vs : List V}, Reps m' H ds vs → olds b (ds.map (frz S b k)) = true → Reps m H (ds.map (frz S b k)) vs
  | _, _, .nil, _ => .nil
  | _, _, .cons x y, o => by
    rw [List.map_cons, olds, Bool.and_eq_true] at o
    exact .cons (ih x o.1) (frz_reps ih y o.2)
theorem frz_krep {S : Store} {k : Nat} (ih : ∀ {d : D} {v : V}, Rep m' H d v → LP.old b (frz S b k d) = true → Rep m H (frz S b k d) v) : ∀ {ds : List (Key × D)} {vs : List (Key × V)}, KReps m' H ds vs → oldk b (ds.map fun p => (p.1, frz S b k p.2)) = true → KReps m H (ds.map fun p => (p.1, frz S b k p.2)) vs
  | _, _, .nil, _ => .nil
  | _, _, .cons x y, o => by
    rw [List.map_cons, oldk, Bool.and_eq_true] at o
    exact .cons (ih x o.1) (frz_krep ih y o.2)
theorem frz_trep {S : Store} {k : Nat} (ih : ∀ {d : D} {v : V}, Rep m' H d v → LP.old b (frz S b k d) = true → Rep m H (frz S b k d) v) : ∀ {ds : List (List Key × D)} {vs : List (List Key × V)}, TReps m' H ds vs → oldt b (ds.map fun p => (p.1, frz S b k p.2)) = true → TReps m H (ds.map fun p => (p.1, frz S b k p.2)) vs
  | _, _, .nil, _ => .nil
  | _, _, .cons x y, o => by
    rw [List.map_cons, oldt, Bool.and_eq_true] at o
    exact .cons (ih x o.1) (frz_trep ih y o.2)
theorem frz_rep {S : Store} {cl : Str → Option Addr} (s : SimS cl m' S H) (c : Cut m' m b) : ∀ (k : Nat) {d : D} {v : V}, Rep m' H d v → LP.old b (frz S b k d) = true → Rep m H (frz S b k d) v
  | 0, _, _, r, o => r.cut c o
  | k + 1, d, v, r, o => by
    have ih : ∀ {d : D} {v : V}, Rep m' H d v → LP.old b (frz S b k d) = true → Rep m H (frz S b k d) v := fun r o => frz_rep s c k r o
    cases r with
    | non => exact .non
    | bl => exact .bl
    | int => exact .int
    | str => exact .str
    | tup h z r =>
      rw [frz] at o ⊢
      rw [LP.old] at o
      exact .tup h z (frz_reps ih r o)
    | lst h n z r =>
      rw [frz] at o ⊢
      rw [LP.old] at o
      exact .lst h (c.out _ n) z (frz_reps ih r o)
    | dk h n r =>
      rw [frz] at o ⊢
      rw [LP.old] at o
      exact .dk h (c.out _ n) (frz_krep ih r o)
    | dt h n r =>
      rw [frz] at o ⊢
      rw [LP.old] at o
      exact .dt h (c.out _ n) (frz_trep ih r o)
    | loc h =>
      rename_i n a
      obtain ⟨w, hw, q⟩ := s.in h
      rw [frz] at o ⊢
      by_cases hn : n < b
      · rw [if_pos hn]
        exact .loc (c.lo n a hn h)
      · rw [if_neg hn, hw] at o
        rw [if_neg hn, hw]
        have ho := c.hi n a (Nat.le_of_not_lt hn) h
        have bad : LP.old b (.loc n) = true → False := fun z => by
          rw [LP.old] at z
          exact hn (of_decide_eq_true z)
        cases w with
        | lst xs =>
          obtain ⟨vs, h1, z, h2⟩ := q
          dsimp only at o ⊢
          rw [LP.old] at o
          exact .lst h1 ho z (frz_reps ih h2 o)
        | dk xs =>
          obtain ⟨vs, h1, h2⟩ := q
          dsimp only at o ⊢
          rw [LP.old] at o
          exact .dk h1 ho (frz_krep ih h2 o)
        | dt xs =>
          obtain ⟨vs, h1, h2⟩ := q
          dsimp only at o ⊢
          rw [LP.old] at o
          exact .dt h1 ho (frz_trep ih h2 o)
        | ro => exact (bad o).elim
        | ins => exact (bad o).elim
end
theorem Cont.gc {σ : L2.St} {m : Mp} {H : Hp} {S : Store} {f : M D} {Q : VK} (s : SimS g.cl m S H) (c : Cont g W σ (fun m H => Rep m H) m H (gcM f S) Q) : Cont g W σ (fun m H => Rep m H) m H (f S) Q := by
  unfold gcM at c
  cases q : f S with
  | bad => rw [q] at c; exact c
  | ex x S1 => rw [q] at c; exact c
  | ok d S' =>
    rw [q] at c
    dsimp only at c
    by_cases hc : old S.length (frz S' S.length 4 d) = true ∧ clean S S'
    · rw [if_pos hc] at c
      obtain ⟨ho, hlen, hcl⟩ := hc
      intro v m' H' E s' r
      obtain ⟨t, ht⟩ := E.pre
      have lt : ∀ (n : Nat), n < S.length → m'.l[n]? = m.l[n]? := fun n hn => by
        rw [← ht, List.getElem?_append_left (by rw [s.len]; exact hn)]
      have hout : ∀ a, m'.out a → m.out a := fun a n => ⟨fun z => n.l (by rw [← ht]; exact List.mem_append_left _ z), fun z => n.x (E.xsub _ z)⟩
      have hhi : ∀ (n : Nat) (a : Addr), S.length ≤ n → m'.l[n]? = some a → a ∉ m.l := fun n a hn h z => by
        obtain ⟨k, hk, e⟩ := List.getElem_of_mem z
        have hk' : k < S.length := by rw [← s.len]; exact hk
        have e2 : m'.l[k]? = some a := by rw [lt k hk', List.getElem?_eq_getElem hk, e]
        have := L2.nd_ix s'.nd h e2
        omega
      have cut : Cut m' m S.length := ⟨fun n a hn h => by rw [← lt n hn]; exact h, hout, fun n a hn h => ⟨hhi n a hn h, fun z => s.xs a z (E.new a (List.mem_of_getElem? h) (hhi n a hn h))⟩⟩
      refine c v m H' ⟨List.prefix_refl _, fun _ h => h, fun _ h n => absurd h n, E.frame, fun _ h n => absurd h n, E.frz, E.tup, E.dom⟩ ⟨by simp [s.len]; omega, s.nd, fun a z h => s.xs a z (E.dom a h), fun n o a e1 e2 => ?_⟩ (frz_rep s' cut 4 r ho)
      have hn : n < S.length := by rw [← s.len]; exact (List.getElem?_eq_some_iff.mp e2).1
      rw [List.getElem?_take_of_lt hn] at e1
      have r' := s'.obj n o a e1 (by rw [lt n hn]; exact e2)
      rcases hcl n hn with h | ⟨o', h1, h2⟩
      · rw [h] at e1
        have r0 := s.obj n o a e1 e2
        have oo := r0.old
        rw [s.len] at oo
        exact r'.cut cut oo
      · rw [e1] at h1
        cases h1
        exact r'.cut cut h2
    · rw [if_neg hc] at c
      exact c.elim
/-- a def with its store cleaned -/
def gcF (n : Nat) (b : ST) : Fn := fun ds => gcM (body0 n b ds)
/-- THE RULE: a def's body makes its promise -/
theorem def_ok {P : Program} {w : World} {K : PySem.W.Frag} {mg : Str → Option Value} {base : Heap} {x qual : Str} {st : Stmt} {f : Addr} {fd : FuncData} {N ps : List Str} {k : Nat} {b : ST} {fn : Fn} (F : Fun K x qual st f fd) (Sc : FnScope N ps (defScope st)) (hf : fn = gcF N.length b ∨ fn = body0 N.length b)
    (h : ∀ (cdv : Value) (A : Around) (outer : List Env) (s : Shared) (H : Hp) (E : XK), Room k (A.deeper (PyProof.Rows.envOfC qual (defScope st) s.heap.objs.size f cdv)) → PSs (cxOf (L2.CX P w) P w K mg base N qual (defScope st) f cdv A outer s H E) (defBody st) (TrS g (WE E) b)) :
    FnOk P w K mg base (L2.CX P w) (k + 1) f fd ps (spD g ps.length fn) := by
  refine F.okX Sc (fun vs H Q E q => q.1) fun cdv A outer s H vs Q E hr q => ⟨_, h cdv A outer s H E hr, ?_⟩
  obtain ⟨_, ds, S, m, r, s', c⟩ := q
  refine body_run (f := body0 N.length b) (fun _ => rfl) ⟨ds, S, m, r, s', ?_⟩
  rcases hf with hf | hf
  · rw [hf] at c
    exact Cont.gc s' c
  · rw [hf] at c
    exact c
end
end
end LP

set_option Elab.async false
set_option linter.all false
set_option maxRecDepth 100000
set_option maxHeartbeats 2000000
namespace LPr
open PySem PySem.Spec PyProof.Rows L2 PySem.W
section
theorem holdAll_ints : ∀ {its : List Value} {ns : List Int} {h : Heap}, IntsAre its ns → HoldAll h its ns
  | _, _, _, .nil => HoldAll.nil
  | _, _, _, .cons n t r => HoldAll.cons ⟨_, Reads.int n t⟩ (holdAll_ints r)
end
section
variable {X : Cx}
def rMinT : List V → Hp → VK → Prop := fun vs H Q => ∃ (a : Addr) (n : Int) (ns : List Int), vs = [V.ref a] ∧ H a = some (.tup ((n :: ns).map V.int)) ∧ Q (.int (minOf n ns)) H
theorem cr_minT (hc : X.calm = true) (hu : X.A.units + 64 < cLine) : CallR X (.builtin "min") rMinT := by
  intro pins s σ H vs us Q I r h
  obtain ⟨a, n, ns, rfl, hs, q⟩ := h
  obtain ⟨its, rv, hl, _⟩ := I.tuple (SqT.of hs)
  rw [Vals.ref1 r]
  refine min_tuple_datum (α := Int) (x := n) (xs := ns) (I.ok.hd hc) hl (by have := holdAll_ints (h := s.heap) (rv.ints (ns := n :: ns)); simpa using this) (by show X.A.units + 1 + 0 < cLine; omega) fun i v h' tk hv hd hk => ?_
  obtain ⟨as, rd⟩ := hd
  have rd : Reads h' v (.int (minOf n ns)) as := rd
  cases rd with
  | int i t => exact ⟨.int _, H, I.kept hk, ⟨_, rfl⟩, q⟩
end
end LPr
namespace LP
open PySem PySem.Spec L2
set_option autoImplicit false
noncomputable section

/-! ### built-in calls -/
def CallI (g : Gx) (W : WX) (f : List D → M D) (r : List V → Hp → VK → Prop) : Prop := ∀ (σ : L2.St) (m : Mp) (H : Hp) (S : Store) (ds : List D) (vs : List V) (Q : VK), SimS g.cl m S H → Reps m H ds vs → Cont g W σ (fun m H => Rep m H) m H (f ds S) Q → r vs H Q
def CallN (g : Gx) (W : WX) (f : List D → M (List D)) (r : List V → Hp → VK → Prop) : Prop := ∀ (σ : L2.St) (m : Mp) (H : Hp) (S : Store) (ds : List D) (vs : List V) (Q : VK), SimS g.cl m S H → Reps m H ds vs → ContN g W σ m H (f ds S) Q → r vs H Q
def nCall (f : List D → M (List D)) (a : DEnv → M (List D)) : DEnv → M (List D) := fun ρ => do
  let xs ← a ρ
  f xs
/-- one argument -/
def on1 {α : Type} (f : D → M α) : List D → M α
  | [x] => f x
  | _ => M.fail
def on2 {α : Type} (f : D → D → M α) : List D → M α
  | [x, y] => f x y
  | _ => M.fail
section
variable {X : Cx} {g : Gx} {W : WX}
theorem s_blt {e : Expr} {f : List D → M D} {r : List V → Hp → VK → Prop} {fa : DEnv → M (List D)} (hi : CallI g W f r) (h : PE X e (tCB r (TrA g W fa))) : PE X e (TrE g W (eCall f fa)) := by
  refine PE.wk h fun σ H Q ⟨ρ, S, m, e, s, c⟩ => ?_
  exact ⟨ρ, S, m, e, s, (Cont.bind (P := fun m H => Reps m H) c).imp fun vs H1 ⟨xs, S1, m1, e1, s1, r1, c1⟩ => hi σ m1 H1 S1 xs vs Q s1 r1 c1⟩
theorem n_blt {e : Expr} {f : List D → M (List D)} {r : List V → Hp → VK → Prop} {fa : DEnv → M (List D)} (hi : CallN g W f r) (h : PE X e (tCB r (TrA g W fa))) : PE X e (TrN g W (nCall f fa)) := by
  refine PE.wk h fun σ H Q ⟨ρ, S, m, e, s, c⟩ => ?_
  exact ⟨ρ, S, m, e, s, (Cont.bind (P := fun m H => Reps m H) c).imp fun vs H1 ⟨xs, S1, m1, e1, s1, r1, c1⟩ => hi σ m1 H1 S1 xs vs Q s1 r1 c1⟩
theorem ci1 {f : D → M D} {r : List V → Hp → VK → Prop} (h : ∀ (σ : L2.St) (m : Mp) (H : Hp) (S : Store) (d : D) (v : V) (Q : VK), SimS g.cl m S H → Rep m H d v → Cont g W σ (fun m H => Rep m H) m H (f d S) Q → r [v] H Q) : CallI g W (on1 f) r := by
  intro σ m H S ds vs Q s rs c
  cases rs with
  | nil => exact c.elim
  | cons a b =>
    cases b with
    | nil => exact h σ m H S _ _ Q s a c
    | cons => exact c.elim
theorem cn1 {f : D → M (List D)} {r : List V → Hp → VK → Prop} (h : ∀ (σ : L2.St) (m : Mp) (H : Hp) (S : Store) (d : D) (v : V) (Q : VK), SimS g.cl m S H → Rep m H d v → ContN g W σ m H (f d S) Q → r [v] H Q) : CallN g W (on1 f) r := by
  intro σ m H S ds vs Q s rs c
  cases rs with
  | nil => exact c.elim
  | cons a b =>
    cases b with
    | nil => exact h σ m H S _ _ Q s a c
    | cons => exact c.elim
theorem ci2 {f : D → D → M D} {r : List V → Hp → VK → Prop} (h : ∀ (σ : L2.St) (m : Mp) (H : Hp) (S : Store) (d e : D) (v w : V) (Q : VK), SimS g.cl m S H → Rep m H d v → Rep m H e w → Cont g W σ (fun m H => Rep m H) m H (f d e S) Q → r [v, w] H Q) : CallI g W (on2 f) r := by
  intro σ m H S ds vs Q s rs c
  cases rs with
  | nil => exact c.elim
  | cons a b =>
    cases b with
    | nil => exact c.elim
    | cons b b' =>
      cases b' with
      | nil => exact h σ m H S _ _ _ _ Q s a b c
      | cons => exact c.elim
/-! len -/
def lenD : D → M D
  | .str z => M.want (z.length ≤ sizeLine) (pure (.int z.length))
  | d => do
    let xs ← seqOf d
    pure (.int xs.length)
theorem ci_len : CallI g W (on1 lenD) (fun xs H Q => ∃ x n, xs = [x] ∧ LenV X.K x H n ∧ Q (.int n) H) := ci1 fun σ m H S d v Q s r c => by
  by_cases q : ∃ z, d = .str z
  · obtain ⟨z, rfl⟩ := q
    cases r
    obtain ⟨hz, c⟩ := c.want
    exact ⟨_, _, rfl, ⟨hz, rfl⟩, c.ok s .int⟩
  · have e : lenD d = (do let xs ← seqOf d; pure (.int xs.length)) := by
      cases d <;> first | rfl | exact (q ⟨_, rfl⟩).elim
    rw [e] at c
    obtain ⟨xs, a, vs, rfl, h, z, rs, c⟩ := Cont.seq s r c
    rw [rs.length] at c
    refine ⟨_, vs.length, rfl, ?_, c.ok s .int⟩
    rcases h with h | h
    · exact .inl ⟨vs, rdL h, rfl⟩
    · exact .inr ⟨vs, .of h, rfl⟩
/-! sum, min, max -/
def intsM (d : D) : M (List Int) := do
  let xs ← seqOf d
  match intsOf xs with
  | some ns => pure ns
  | none => M.fail
theorem intsM_out {α β : Type} {σ : L2.St} {P : Mp → Hp → α → β → Prop} {d : D} {v : V} {S : Store} {m : Mp} {H : Hp} {k : List Int → M α} {Q : β → Hp → Prop} (s : SimS g.cl m S H) (r : Rep m H d v) (c : Cont g W σ P m H ((intsM d >>= k) S) Q) :
    ∃ ns a, v = .ref a ∧ (Rd H a (.lst (ns.map V.int)) ∨ H a = some (.tup (ns.map V.int))) ∧ ns.length ≤ sizeLine ∧ Cont g W σ P m H (k ns S) Q := by
  have e : (intsM d >>= k) = (seqOf d >>= fun xs => (match intsOf xs with
    | some ns => (pure ns : M (List Int))
    | none => M.fail) >>= k) := bind_assoc' _ _ _
  rw [e] at c
  obtain ⟨xs, a, vs, rfl, h, z, rs, c⟩ := Cont.seq s r c
  cases q : intsOf xs with
  | none => rw [q] at c; exact c.elim
  | some ns =>
    rw [q] at c
    rw [intsOf_some q] at rs
    have := rs.ints
    subst this
    exact ⟨ns, a, rfl, h, by simpa using z, c⟩
/-- of a list -/
def sumD (d : D) : M D := do
  let xs ← listOf d
  match intsOf xs with
  | some ns => pure (.int ns.sum)
  | none => M.fail
theorem ci_sum : CallI g W (on1 sumD) (rSum X.K) := ci1 fun σ m H S d v Q s r c => by
  obtain ⟨xs, a, vs, rfl, h, z, rs, c⟩ := Cont.list s r c
  cases q : intsOf xs with
  | none => rw [q] at c; exact c.elim
  | some ns =>
    rw [q] at c
    rw [intsOf_some q] at rs
    have := rs.ints
    subst this
    exact ⟨a, ns, rfl, rdL h, c.ok s .int⟩
def minL : List Int → Int
  | [] => 0
  | n :: ns => ns.foldl min n
def maxL : List Int → Int
  | [] => 0
  | n :: ns => ns.foldl max n
theorem foldl_min : ∀ (ns : List Int) (n : Int), ns.foldl min n ≤ n ∧ (∀ y ∈ ns, ns.foldl min n ≤ y) ∧ (ns.foldl min n = n ∨ ns.foldl min n ∈ ns)
  | [], n => ⟨Int.le_refl n, (fun y (h : y ∈ ([] : List Int)) => absurd h List.not_mem_nil), Or.inl rfl⟩
  | a :: ns, n => by
    obtain ⟨h1, h2, h3⟩ := foldl_min ns (min n a)
    show ns.foldl min (min n a) ≤ n ∧ (∀ y ∈ a :: ns, ns.foldl min (min n a) ≤ y) ∧ (ns.foldl min (min n a) = n ∨ ns.foldl min (min n a) ∈ a :: ns)
    refine ⟨by omega, fun y hy => ?_, ?_⟩
    · rcases List.mem_cons.mp hy with rfl | hy
      · omega
      · exact h2 y hy
    · rcases h3 with h3 | h3
      · rw [h3]
        by_cases q : n ≤ a
        · exact .inl (by omega)
        · exact .inr (by rw [show min n a = a by omega]; exact List.mem_cons_self)
      · exact .inr (List.mem_cons_of_mem _ h3)
theorem foldl_max : ∀ (ns : List Int) (n : Int), n ≤ ns.foldl max n ∧ (∀ y ∈ ns, y ≤ ns.foldl max n) ∧ (ns.foldl max n = n ∨ ns.foldl max n ∈ ns)
  | [], n => ⟨Int.le_refl n, (fun y (h : y ∈ ([] : List Int)) => absurd h List.not_mem_nil), Or.inl rfl⟩
  | a :: ns, n => by
    obtain ⟨h1, h2, h3⟩ := foldl_max ns (max n a)
    show n ≤ ns.foldl max (max n a) ∧ (∀ y ∈ a :: ns, y ≤ ns.foldl max (max n a)) ∧ (ns.foldl max (max n a) = n ∨ ns.foldl max (max n a) ∈ a :: ns)
    refine ⟨by omega, fun y hy => ?_, ?_⟩
    · rcases List.mem_cons.mp hy with rfl | hy
      · omega
      · exact h2 y hy
    · rcases h3 with h3 | h3
      · rw [h3]
        by_cases q : a ≤ n
        · exact .inl (by omega)
        · exact .inr (by rw [show max n a = a by omega]; exact List.mem_cons_self)
      · exact .inr (List.mem_cons_of_mem _ h3)
theorem minL_le {ns : List Int} {y : Int} (h : y ∈ ns) : minL ns ≤ y := by
  cases ns with
  | nil => cases h
  | cons n ns =>
    obtain ⟨h1, h2, h3⟩ := foldl_min ns n
    rcases List.mem_cons.mp h with rfl | h
    · exact h1
    · exact h2 y h
theorem minL_mem {ns : List Int} (h : ns ≠ []) : minL ns ∈ ns := by
  cases ns with
  | nil => exact absurd rfl h
  | cons n ns =>
    obtain ⟨h1, h2, h3⟩ := foldl_min ns n
    rcases h3 with h3 | h3
    · exact List.mem_cons.mpr (.inl h3)
    · exact List.mem_cons_of_mem _ h3
theorem le_maxL {ns : List Int} {y : Int} (h : y ∈ ns) : y ≤ maxL ns := by
  cases ns with
  | nil => cases h
  | cons n ns =>
    obtain ⟨h1, h2, h3⟩ := foldl_max ns n
    rcases List.mem_cons.mp h with rfl | h
    · exact h1
    · exact h2 y h
theorem maxL_mem {ns : List Int} (h : ns ≠ []) : maxL ns ∈ ns := by
  cases ns with
  | nil => exact absurd rfl h
  | cons n ns =>
    obtain ⟨h1, h2, h3⟩ := foldl_max ns n
    rcases h3 with h3 | h3
    · exact List.mem_cons.mpr (.inl h3)
    · exact List.mem_cons_of_mem _ h3
theorem minL_eq {ns : List Int} {m : Int} (h : m ∈ ns) (h2 : ∀ y ∈ ns, m ≤ y) : minL ns = m :=
  Int.le_antisymm (minL_le h) (h2 _ (minL_mem fun e => by subst e; cases h))
theorem maxL_eq {ns : List Int} {m : Int} (h : m ∈ ns) (h2 : ∀ y ∈ ns, y ≤ m) : maxL ns = m :=
  Int.le_antisymm (h2 _ (maxL_mem fun e => by subst e; cases h)) (le_maxL h)
theorem minOf_eq (n : Int) (ns : List Int) : PySem.W.minOf n ns = minL (n :: ns) := by
  unfold PySem.W.minOf minL
  congr 1
  funext a y
  by_cases h : y < a
  · have : PySem.W.DatumOrd.lt y a = true := by show decide (y < a) = true; exact decide_eq_true h
    rw [if_pos this]; omega
  · have : ¬ PySem.W.DatumOrd.lt y a = true := by show ¬ decide (y < a) = true; simpa using h
    rw [if_neg this]; omega
def minD1 (d : D) : M D := do
  let ns ← intsM d
  M.want (ns ≠ []) (pure (.int (minL ns)))
def maxD1 (d : D) : M D := do
  let xs ← listOf d
  match intsOf xs with
  | some ns => M.want (ns ≠ []) (pure (.int (maxL ns)))
  | none => M.fail
theorem ci_min : CallI g W (on1 minD1) (fun xs H Q => rMin X.K xs H Q ∨ LPr.rMinT xs H Q) := ci1 fun σ m H S d v Q s r c => by
  obtain ⟨ns, a, rfl, h, z, c⟩ := intsM_out s r c
  obtain ⟨hn, c⟩ := c.want
  rcases h with h | h
  · exact .inl ⟨a, ns, rfl, rdL h, List.length_pos_iff.mpr hn, fun k h1 h2 => by rw [← minL_eq h1 h2]; exact c.ok s .int⟩
  · cases ns with
    | nil => exact absurd rfl hn
    | cons n ns => exact .inr ⟨a, n, ns, rfl, h, by rw [minOf_eq]; exact c.ok s .int⟩
theorem ci_max : CallI g W (on1 maxD1) (rMax X.K) := ci1 fun σ m H S d v Q s r c => by
  obtain ⟨xs, a, vs, rfl, h, z, rs, c⟩ := Cont.list s r c
  cases q : intsOf xs with
  | none => rw [q] at c; exact c.elim
  | some ns =>
    rw [q] at c
    rw [intsOf_some q] at rs
    have := rs.ints
    subst this
    obtain ⟨hn, c⟩ := c.want
    exact ⟨a, ns, rfl, rdL h, List.length_pos_iff.mpr hn, fun k h1 h2 => by rw [← maxL_eq h1 h2]; exact c.ok s .int⟩
def minD2 : D → D → M D
  | .int i, .int j => pure (.int (min i j))
  | _, _ => M.fail
def maxD2 : D → D → M D
  | .int i, .int j => pure (.int (max i j))
  | _, _ => M.fail
theorem ci_min2 : CallI g W (on2 minD2) (fun xs H Q => ∃ i j, xs = [.int i, .int j] ∧ Q (.int (if j < i then j else i)) H) := ci2 fun σ m H S d e v w Q s r r' c => by
  cases r with
  | @int i => cases r' with
    | @int j =>
      refine ⟨i, j, rfl, ?_⟩
      rw [show (if j < i then j else i) = min i j by split <;> omega]
      exact c.ok s .int
    | _ => exact c.elim
  | _ => cases r' <;> exact c.elim
theorem ci_max2 : CallI g W (on2 maxD2) (fun xs H Q => ∃ i j, xs = [.int i, .int j] ∧ Q (.int (if j > i then j else i)) H) := ci2 fun σ m H S d e v w Q s r r' c => by
  cases r with
  | @int i => cases r' with
    | @int j =>
      refine ⟨i, j, rfl, ?_⟩
      rw [show (if j > i then j else i) = max i j by split <;> omega]
      exact c.ok s .int
    | _ => exact c.elim
  | _ => cases r' <;> exact c.elim
/-! list, tuple -/
def listN (d : D) : M (List D) := seqOf d
theorem cn_list : CallN g W (on1 listN) (fun xs H Q => ∃ p ys, xs = [.ref p] ∧ (SqL X.K H p ys ∨ SqT X.K H p ys) ∧ ∀ l, H l = none → Q (.ref l) (upd H l (.lst ys))) := cn1 fun σ m H S d v Q s r c => by
  have e : listN d = (seqOf d >>= fun xs => pure xs) := by
    funext S
    show seqOf d S = M.bind (seqOf d) (fun xs => M.ret xs) S
    unfold M.bind
    cases seqOf d S <;> rfl
  rw [e] at c
  obtain ⟨xs, a, vs, rfl, h, z, rs, c⟩ := Cont.seq s r c
  refine ⟨a, vs, rfl, ?_, fun l hn => ContN.ok c s rs z hn⟩
  rcases h with h | h
  · exact .inl (rdL h)
  · exact .inr (.of h)
def tupleD (d : D) : M D := do
  let xs ← seqOf d
  pure (.tup xs)
theorem ci_tuple : CallI g W (on1 tupleD) (fun xs H Q => ∃ p ys, xs = [.ref p] ∧ ((SqL X.K H p ys ∧ ∀ l, H l = none → Q (.ref l) (upd H l (.tup ys))) ∨ (SqT X.K H p ys ∧ Q (.ref p) H))) := ci1 fun σ m H S d v Q s r c => by
  by_cases q : ∃ xs, d = .tup xs
  · obtain ⟨xs, rfl⟩ := q
    cases r with
    | tup h z rs => exact ⟨_, _, rfl, .inr ⟨.of h, c.ok s (.tup h z rs)⟩⟩
  · have e : seqOf d = listOf d := by
      cases d <;> first | rfl | exact (q ⟨_, rfl⟩).elim
    unfold tupleD at c
    rw [e] at c
    obtain ⟨xs, a, vs, rfl, h, z, rs, c⟩ := Cont.list s r c
    exact ⟨a, vs, rfl, .inl ⟨rdL h, fun l hn => c.tmp s hn fun e _ => .tup upd_same z (rs.mono e)⟩⟩
/-- list(range(..)), tuple(range(..)) -/
def rgOf1 (f : DEnv → M D) : DEnv → M (Int × Int) := fun ρ => do
  let x ← f ρ
  match x with
  | .int n => pure (0, n)
  | _ => M.fail
def rgOf2 (f f2 : DEnv → M D) : DEnv → M (Int × Int) := fun ρ => do
  let x ← f ρ
  let y ← f2 ρ
  match x, y with
  | .int a, .int b => pure (a, b)
  | _, _ => M.fail
theorem rgV_reps {m : Mp} {H : Hp} (a b : Int) : Reps m H (rangeD a (b - a)) (rgV a b) := by
  unfold rangeD rgV
  generalize (b - a).toNat = n
  have gen : ∀ l : List Nat, Reps m H (l.map fun (i : Nat) => D.int (a + (i : Int))) (l.map fun i => V.int (a + (i : Nat))) := fun l => by
    induction l with
    | nil => exact .nil
    | cons x l ih => exact .cons .int ih
  exact gen _
def nLrg (r : DEnv → M (Int × Int)) : DEnv → M (List D) := fun ρ => do
  let x ← r ρ
  M.want (RgOk x.1 x.2) (pure (rangeD x.1 (x.2 - x.1)))
def eTrg (r : DEnv → M (Int × Int)) : DEnv → M D := fun ρ => do
  let x ← r ρ
  M.want (RgOk x.1 x.2) (pure (.tup (rangeD x.1 (x.2 - x.1))))
theorem rg1_run {α β : Type} {P : Mp → Hp → α → β → Prop} {f : DEnv → M D} {k : Int × Int → M α} {σ : L2.St} {H : Hp} {Q : β → Hp → Prop} {ρ : DEnv} {S : Store} {m : Mp} (e : ERep m H ρ σ) (s : SimS g.cl m S H) (c : Cont g W σ P m H ((rgOf1 f ρ >>= k) S) Q)
    {R : Int → Int → Hp → Prop} (h : ∀ m2 H2 S2 a b, SimS g.cl m2 S2 H2 → Cont g W σ P m2 H2 (k (a, b) S2) Q → R a b H2) : tRg1 (TrE g W f) σ H R := by
  have e1 : (rgOf1 f ρ >>= k) = (f ρ >>= fun x => (match x with
    | .int n => (pure (0, n) : M (Int × Int))
    | _ => M.fail) >>= k) := bind_assoc' _ _ _
  rw [e1] at c
  refine ⟨ρ, S, m, e, s, (Cont.bind (P := fun m H => Rep m H) c).imp fun v H1 ⟨x, S1, m1, e1, s1, r1, c1⟩ => ?_⟩
  cases r1 with
  | int => exact ⟨_, rfl, h m1 H1 S1 _ _ s1 c1⟩
  | _ => exact c1.elim
theorem rg2_run {α β : Type} {P : Mp → Hp → α → β → Prop} {f f2 : DEnv → M D} {k : Int × Int → M α} {σ : L2.St} {H : Hp} {Q : β → Hp → Prop} {ρ : DEnv} {S : Store} {m : Mp} (e : ERep m H ρ σ) (s : SimS g.cl m S H) (c : Cont g W σ P m H ((rgOf2 f f2 ρ >>= k) S) Q)
    {R : Int → Int → Hp → Prop} (h : ∀ m2 H2 S2 a b, SimS g.cl m2 S2 H2 → Cont g W σ P m2 H2 (k (a, b) S2) Q → R a b H2) : tRg2 (TrE g W f) (TrE g W f2) σ H R := by
  have e1 : (rgOf2 f f2 ρ >>= k) = (do let x ← f ρ; let y ← f2 ρ; (match x, y with
    | .int a, .int b => (pure (a, b) : M (Int × Int))
    | _, _ => M.fail) >>= k) := by
    unfold rgOf2
    rw [bind_assoc']
    congr 1
    funext x
    rw [bind_assoc']
  rw [e1] at c
  refine two (fun _ _ _ h => h) (fun _ _ _ h => h) e s c fun m2 H2 S2 x y v w _ s2 rx ry c2 => ?_
  cases rx with
  | int => cases ry with
    | int => exact ⟨_, _, rfl, rfl, h m2 H2 S2 _ _ s2 c2⟩
    | _ => exact c2.elim
  | _ => cases ry <;> exact c2.elim
theorem rg_len {a b : Int} (h : RgOk a b) : (rgV a b).length ≤ sizeLine := by
  obtain ⟨_, _, _, _, h⟩ := h
  rw [rgV_length, sizeLine_eq]; omega
theorem n_lrg1 {e : Expr} {f : DEnv → M D} (h : PE X e (tLstRg (tRg1 (TrE g W f)))) : PE X e (TrN g W (nLrg (rgOf1 f))) := by
  refine PE.wk h fun σ H Q ⟨ρ, S, m, e, s, c⟩ => ?_
  refine rg1_run e s c fun m2 H2 S2 a b s2 c2 => ?_
  obtain ⟨hr, c2⟩ := c2.want
  exact ⟨hr, fun q hn => ContN.ok c2 s2 (rgV_reps a b) (rg_len hr) hn⟩
theorem n_lrg2 {e : Expr} {f f2 : DEnv → M D} (h : PE X e (tLstRg (tRg2 (TrE g W f) (TrE g W f2)))) : PE X e (TrN g W (nLrg (rgOf2 f f2))) := by
  refine PE.wk h fun σ H Q ⟨ρ, S, m, e, s, c⟩ => ?_
  refine rg2_run e s c fun m2 H2 S2 a b s2 c2 => ?_
  obtain ⟨hr, c2⟩ := c2.want
  exact ⟨hr, fun q hn => ContN.ok c2 s2 (rgV_reps a b) (rg_len hr) hn⟩
theorem s_trg1 {e : Expr} {f : DEnv → M D} (h : PE X e (tTupRg (tRg1 (TrE g W f)))) : PE X e (TrE g W (eTrg (rgOf1 f))) := by
  refine PE.wk h fun σ H Q ⟨ρ, S, m, e, s, c⟩ => ?_
  refine rg1_run e s c fun m2 H2 S2 a b s2 c2 => ?_
  obtain ⟨hr, c2⟩ := c2.want
  exact ⟨hr, fun q hn => c2.tmp s2 hn fun e _ => .tup upd_same (rg_len hr) (rgV_reps a b)⟩
theorem s_trg2 {e : Expr} {f f2 : DEnv → M D} (h : PE X e (tTupRg (tRg2 (TrE g W f) (TrE g W f2)))) : PE X e (TrE g W (eTrg (rgOf2 f f2))) := by
  refine PE.wk h fun σ H Q ⟨ρ, S, m, e, s, c⟩ => ?_
  refine rg2_run e s c fun m2 H2 S2 a b s2 c2 => ?_
  obtain ⟨hr, c2⟩ := c2.want
  exact ⟨hr, fun q hn => c2.tmp s2 hn fun e _ => .tup upd_same (rg_len hr) (rgV_reps a b)⟩
/-! sorted -/
def sortI (ns : List Int) : List Int := ns.mergeSort fun a b => decide (a ≤ b)
theorem sortI_perm (ns : List Int) : (sortI ns).Perm ns := List.mergeSort_perm _ _
theorem sortI_le (ns : List Int) : (sortI ns).Pairwise (· ≤ ·) := by
  have := List.pairwise_mergeSort (le := fun (a b : Int) => decide (a ≤ b)) (fun a b c h1 h2 => by simp at *; omega) (fun a b => by simp; omega) ns
  exact this.imp fun h => by simpa using h
theorem sortI_eq {ns ms : List Int} (p : ms.Perm ns) (h : ms.Pairwise (· ≤ ·)) : sortI ns = ms :=
  List.Perm.eq_of_pairwise (fun x y _ _ h1 h2 => Int.le_antisymm h1 h2) (sortI_le ns) h ((sortI_perm ns).trans p.symm)
def sortedI (d : D) : M (List D) := do
  let xs ← listOf d
  match intsOf xs with
  | some ns => pure ((sortI ns).map D.int)
  | none => M.fail
theorem cn_sortedI : CallN g W (on1 sortedI) (rSortedI X.K) := cn1 fun σ m H S d v Q s r c => by
  obtain ⟨xs, a, vs, rfl, h, z, rs, c⟩ := Cont.list s r c
  cases q : intsOf xs with
  | none => rw [q] at c; exact c.elim
  | some ns =>
    rw [q] at c
    rw [intsOf_some q] at rs
    have := rs.ints
    subst this
    refine ⟨a, ns, rfl, rdL h, fun ns' p h1 h2 hn => ?_⟩
    have e := sortI_eq h1 h2
    have c : ContN g W σ m H (.ok ((sortI ns).map D.int) S) Q := c
    rw [e] at c
    exact ContN.ok c s (.of_ints _) (by rw [List.length_map, h1.length_eq]; simpa using z) hn
/-! isinstance with a built-in type -/
def isiB (a T : String) : Bool := a == T || (a == "bool" && T == "int")
def tyD (S : Store) : D → String
  | .non => "NoneType"
  | .bl _ => "bool"
  | .int _ => "int"
  | .str _ => "str"
  | .tup _ => "tuple"
  | .lst _ => "list"
  | .dk _ => "dict"
  | .dt _ => "dict"
  | .loc n => match S[n]? with
    | some (.lst _) => "list"
    | some (.ro _) => "list"
    | some (.dk _) => "dict"
    | some (.dt _) => "dict"
    | _ => ""
def isiD (T : String) (d : D) : M D := fun S => if tyD S d = "" then .bad else .ok (.bl (isiB (tyD S d) T)) S
theorem kit_all : (["NoneType", "bool", "int", "str", "tuple", "list", "dict"].all fun a => ["int", "bool", "str", "tuple", "list"].all fun T => kitB a T == some (isiB a T)) = true := by decide +kernel
theorem kit_at {a T : String} (h : a ∈ ["NoneType", "bool", "int", "str", "tuple", "list", "dict"]) (h2 : T ∈ ["int", "bool", "str", "tuple", "list"]) {K : PySem.W.Frag} : PySem.W.kitOne K (.type a) (.type T) = some (isiB a T) := by
  refine kit_ty ?_
  have q := kit_all
  simp only [List.all_eq_true, beq_iff_eq] at q
  exact q a h T h2
theorem ty_rep {m : Mp} {H : Hp} {S : Store} {K : PySem.W.Frag} {d : D} {v : V} (s : SimS g.cl m S H) (r : Rep m H d v) (h : tyD S d ≠ "") : TyX K H v (.type (tyD S d)) ∧ tyD S d ∈ ["NoneType", "bool", "int", "str", "tuple", "list", "dict"] := by
  cases r with
  | non => exact ⟨.base .non, by simp [tyD]⟩
  | bl => exact ⟨.base (.bl _), by simp [tyD]⟩
  | int => exact ⟨.base (.int _), by simp [tyD]⟩
  | str => exact ⟨.base (.str _), by simp [tyD]⟩
  | tup h1 z r => exact ⟨.base (.tup h1), by simp [tyD]⟩
  | lst h1 n z r => exact ⟨.base (.lst h1), by simp [tyD]⟩
  | dk h1 n r => exact ⟨.base (.dK h1), by simp [tyD]⟩
  | dt h1 n r => exact ⟨.base (.dT h1), by simp [tyD]⟩
  | loc hl =>
    rename_i n a
    obtain ⟨o, ho, q⟩ := s.in hl
    have e : tyD S (.loc n) = (match S[n]? with
      | some (.lst _) => "list"
      | some (.ro _) => "list"
      | some (.dk _) => "dict"
      | some (.dt _) => "dict"
      | _ => "") := rfl
    rw [e, ho] at h ⊢
    cases o with
    | lst xs => obtain ⟨vs, h1, _, _⟩ := q; exact ⟨.base (.lst h1), by simp⟩
    | ro xs => obtain ⟨o, vs, h1, _, _⟩ := q; exact ⟨.base (.frz h1), by simp⟩
    | dk xs => obtain ⟨vs, h1, _⟩ := q; exact ⟨.base (.dK h1), by simp⟩
    | dt xs => obtain ⟨vs, h1, _⟩ := q; exact ⟨.base (.dT h1), by simp⟩
    | ins => exact absurd rfl h
theorem s_isi {e : Expr} {T : String} {f : DEnv → M D} (hT : T ∈ ["int", "bool", "str", "tuple", "list"]) (h : PE X e (tCB (rIsi X.K) (tCons (TrE g W f) (tCons (tC (.ty T)) tNil)))) : PE X e (TrE g W (eUn (isiD T) f)) := by
  refine PE.wk h fun σ H Q ⟨ρ, S, m, e, s, c⟩ => ?_
  refine ⟨ρ, S, m, e, s, (Cont.bind (P := fun m H => Rep m H) c).imp fun v H1 ⟨d, S1, m1, e1, s1, r1, c1⟩ => ?_⟩
  unfold isiD at c1
  by_cases q : tyD S1 d = ""
  · rw [if_pos q] at c1; exact c1.elim
  · rw [if_neg q] at c1
    obtain ⟨h1, h2⟩ := ty_rep (K := X.K) s1 r1 q
    exact ⟨v, .ty T, _, .type T, _, rfl, .ty T, h1, kit_at h2 hT, c1.ok s1 .bl⟩
/-! int(bool), str(int) -/
def intD : D → M D
  | .int i => pure (.int i)
  | .bl b => pure (.int (if b then 1 else 0))
  | _ => M.fail
theorem ci_int : CallI g W (on1 intD) (fun xs H Q => (∃ i, xs = [.int i] ∧ Q (.int i) H) ∨ ∃ k, xs = [.bl k] ∧ Q (.int (if k then 1 else 0)) H) := ci1 fun σ m H S d v Q s r c => by
  cases r with
  | int => exact .inl ⟨_, rfl, c.ok s .int⟩
  | bl => exact .inr ⟨_, rfl, c.ok s .int⟩
  | _ => exact c.elim
def strD : D → M D
  | .int i => M.want (i.natAbs.log2 < 1920) (pure (.str (toString i)))
  | _ => M.fail
theorem ci_str : CallI g W (on1 strD) (fun xs H Q => ∃ i, xs = [.int i] ∧ i.natAbs.log2 < 1920 ∧ Q (.str (toString i)) H) := ci1 fun σ m H S d v Q s r c => by
  cases r with
  | int =>
    obtain ⟨h, c⟩ := c.want
    exact ⟨_, rfl, h, c.ok s .str⟩
  | _ => exact c.elim
/-! lists: +, * -/
/-- a list that is no frozen one -/
def lstM (x : D) : M (List D) := match x with
  | .lst xs => pure xs
  | .loc n => fun S => match S[n]? with
    | some (.lst xs) => .ok xs S
    | _ => .bad
  | _ => M.fail
theorem lstM_rep {d : D} {v : V} {S : Store} {m : Mp} {H : Hp} (s : SimS g.cl m S H) (r : Rep m H d v) : (lstM d S = .bad) ∨ ∃ xs a vs, lstM d S = .ok xs S ∧ v = .ref a ∧ H a = some (.lst vs) ∧ vs.length ≤ sizeLine ∧ Reps m H xs vs := by
  cases r with
  | lst h n z r => exact .inr ⟨_, _, _, rfl, rfl, h, z, r⟩
  | loc h =>
    rename_i n a
    obtain ⟨o, ho, q⟩ := s.in h
    have e : lstM (.loc n) S = (match S[n]? with
      | some (.lst xs) => R.ok xs S
      | _ => .bad) := rfl
    rw [e, ho]
    cases o with
    | lst xs =>
      obtain ⟨vs, h1, z, h2⟩ := q
      exact .inr ⟨xs, a, vs, rfl, rfl, h1, z, h2⟩
    | _ => exact .inl rfl
  | _ => exact .inl rfl
theorem Cont.lstM {α β : Type} {σ : L2.St} {P : Mp → Hp → α → β → Prop} {d : D} {v : V} {S : Store} {m : Mp} {H : Hp} {k : List D → M α} {Q : β → Hp → Prop} (s : SimS g.cl m S H) (r : Rep m H d v) (c : Cont g W σ P m H ((LP.lstM d >>= k) S) Q) :
    ∃ xs a vs, v = .ref a ∧ H a = some (.lst vs) ∧ vs.length ≤ sizeLine ∧ Reps m H xs vs ∧ Cont g W σ P m H (k xs S) Q := by
  have c' : Cont g W σ P m H (M.bind (LP.lstM d) k S) Q := c
  unfold M.bind at c'
  rcases lstM_rep s r with h | ⟨xs, a, vs, h1, h2, h3, h4, h5⟩
  · rw [h] at c'; exact c'.elim
  · rw [h1] at c'; exact ⟨xs, a, vs, h2, h3, h4, h5, c'⟩
def nCat (a b : DEnv → M D) : DEnv → M (List D) := fun ρ => do
  let x ← a ρ
  let y ← b ρ
  let xs ← lstM x
  let ys ← lstM y
  M.want (xs.length + ys.length ≤ sizeLine) (pure (xs ++ ys))
theorem n_cat {a b : Expr} {pos : Pos} {fa fb : DEnv → M D} (ha : PE X a (TrE g W fa)) (hb : PE X b (TrE g W fb)) : PE X (.BinOp a .Add b pos) (TrN g W (nCat fa fb)) := by
  refine PE.wk (pe_op op_cat ha hb) fun σ H Q ⟨ρ, S, m, e, s, c⟩ => ?_
  refine two (fun _ _ _ h => h) (fun _ _ _ h => h) e s c fun m2 H2 S2 x y v w _ s2 rx ry c2 => ?_
  obtain ⟨xs, p, vs, rfl, h1, z1, r1, c3⟩ := Cont.lstM s2 rx c2
  obtain ⟨ys, q, ws, rfl, h2, z2, r2, c4⟩ := Cont.lstM s2 ry c3
  obtain ⟨hz, c4⟩ := c4.want
  rw [r1.length, r2.length] at hz
  exact ⟨p, q, vs, ws, rfl, rfl, h1, h2, hz, fun l hn => ContN.ok c4 s2 (r1.append r2) (by rw [List.length_append]; exact hz) hn⟩
theorem length_flatRep {α : Type} (n : Nat) (xs : List α) : (List.replicate n xs).flatten.length = xs.length * n := by
  induction n with
  | zero => rfl
  | succ n ih => rw [List.replicate_succ, List.flatten_cons, List.length_append, ih, Nat.mul_succ, Nat.add_comm]
def nRep (a b : DEnv → M D) : DEnv → M (List D) := fun ρ => do
  let x ← a ρ
  let y ← b ρ
  let xs ← lstM x
  match y with
  | .int k => M.want (-(2 ^ 63) ≤ k ∧ k < 2 ^ 63 ∧ xs.length * k.toNat ≤ sizeLine) (pure (List.replicate k.toNat xs).flatten)
  | _ => M.fail
theorem n_rep {a b : Expr} {pos : Pos} {fa fb : DEnv → M D} (ha : PE X a (TrE g W fa)) (hb : PE X b (TrE g W fb)) : PE X (.BinOp a .Mult b pos) (TrN g W (nRep fa fb)) := by
  refine PE.wk (pe_op op_rep ha hb) fun σ H Q ⟨ρ, S, m, e, s, c⟩ => ?_
  refine two (fun _ _ _ h => h) (fun _ _ _ h => h) e s c fun m2 H2 S2 x y v w _ s2 rx ry c2 => ?_
  obtain ⟨xs, p, vs, rfl, h1, z1, r1, c3⟩ := Cont.lstM s2 rx c2
  cases ry with
  | int =>
    obtain ⟨⟨k1, k2, k3⟩, c3⟩ := c3.want
    rw [r1.length] at k3
    refine ⟨p, _, vs, rfl, rfl, h1, k1, k2, k3, fun l hn => ContN.ok c3 s2 (r1.flatten_replicate _) ?_ hn⟩
    rw [length_flatRep]
    exact k3
  | _ => exact c3.elim
end
end
end LP

set_option Elab.async false
set_option linter.all false
set_option maxRecDepth 100000
set_option maxHeartbeats 2000000
namespace LP
open PySem PySem.Spec L2
set_option autoImplicit false
noncomputable section
/-! ### what the printer leans on -/
/-- a def of the program, as a caller sees it -/
structure Cl (P : Program) (w : World) (K : PySem.W.Frag) (mg : Str → Option Value) (base : Heap) (g : Gx) (k : Nat) (x : Str) (ps : List Str) (fn : Fn) : Prop where
  ex : ∃ f fd, FnOk P w K mg base (L2.CX P w) k f fd ps (spD g ps.length fn) ∧ mg x = some (.ref f) ∧ PySem.W.keepIn K (.ref f) = true ∧ Binds K fd ps []
/-- a def as the top has made it -/
structure Dn (K : PySem.W.Frag) (mg : Str → Option Value) (x : Str) (st : Stmt) (ps : List Str) : Prop where
  ex : ∃ f fd, Fun K x x st f fd ∧ mg x = some (.ref f) ∧ PySem.W.keepIn K (.ref f) = true ∧ Binds K fd ps [] ∧ ∀ (s : Shared) (us : List Value), us.length = ps.length → BindsTo s fd ⟨us, []⟩ (ps.zip us)
theorem dn_mk {K : PySem.W.Frag} {h : Heap} {mg : Str → Option Value} (X : K.In h) (G : h.Ns mainGlobals mg) {x : Str} {st : Stmt} {ps : List Str} {f : Addr} {oc : Value} {od an : Option Addr} {osl : Array (Option Value)} {kV doc pm cdv ct : Value}
    (a : PySem.W.nsIn K mainGlobals x = some (some (.ref f))) (l : K.lookup f = some ⟨oc, od, .func (PySem.W.fnOf x x (defArgs st) (defBody st) (defScope st) .none kV doc pm an cdv ct), osl⟩)
    (c : PySem.W.codeIn K cdv x = true) (k : PySem.W.keepIn K (.ref f) = true)
    (b : ∀ (kV doc pm : Value) (an : Option Addr) (cdv ct : Value) (us : List Value), us.length = ps.length → bindArgs (PySem.W.fnOf x x (defArgs st) (defBody st) (defScope st) .none kV doc pm an cdv ct) ⟨us, []⟩ = pure (ps.zip us)) : Dn K mg x st ps :=
  ⟨_, _, fun_mk l c k, PySem.W.mg_of X G a, k, (fun_mk l c k).binds b, fun s us hl => .of_eq (b _ _ _ _ _ _ us hl)⟩
/-- the rule for a def, in one -/
theorem cl_ok {g : Gx} {P : Program} {w : World} {K : PySem.W.Frag} {mg : Str → Option Value} {base : Heap} {x : Str} {st : Stmt} {N ps : List Str} {k : Nat} {b : ST} {fn : Fn} (F : Dn K mg x st ps) (Sc : FnScope N ps (defScope st)) (hf : fn = gcF N.length b ∨ fn = body0 N.length b)
    (h : ∀ (f : Addr) (cdv : Value) (A : Around) (outer : List Env) (s : Shared) (H : Hp) (E : XK), Room k (A.deeper (PyProof.Rows.envOfC x (defScope st) s.heap.objs.size f cdv)) → PSs (cxOf (L2.CX P w) P w K mg base N x (defScope st) f cdv A outer s H E) (defBody st) (TrS g (WE E) b)) :
    Cl P w K mg base g (k + 1) x ps fn := by
  obtain ⟨f, fd, F1, m, kp, bd, _⟩ := F.ex
  exact ⟨f, fd, def_ok F1 Sc hf (h f), m, kp, bd⟩
/-- the law's own def -/
structure ClL (P : Program) (w : World) (K : PySem.W.Frag) (mg : Str → Option Value) (g : Gx) (k : Nat) (x : Str) (ps : List Str) (fn : Fn) : Prop where
  ex : ∃ f fd, mg x = some (.ref f) ∧ (∀ (s : Shared) (us : List Value), us.length = ps.length → BindsTo s fd ⟨us, []⟩ (ps.zip us)) ∧ ∀ base : Heap, K.In base → base.Ns mainGlobals mg → FnOk P w K mg base (L2.CX P w) k f fd ps (spD g ps.length fn)
theorem clL_ok {g : Gx} {P : Program} {w : World} {K : PySem.W.Frag} {mg : Str → Option Value} {x : Str} {st : Stmt} {N ps : List Str} {k : Nat} {b : ST} {fn : Fn} (F : Dn K mg x st ps) (Sc : FnScope N ps (defScope st)) (hf : fn = gcF N.length b ∨ fn = body0 N.length b)
    (h : ∀ (base : Heap) (f : Addr) (cdv : Value) (A : Around) (outer : List Env) (s : Shared) (H : Hp) (E : XK), Room k (A.deeper (PyProof.Rows.envOfC x (defScope st) s.heap.objs.size f cdv)) → PSs (cxOf (L2.CX P w) P w K mg base N x (defScope st) f cdv A outer s H E) (defBody st) (TrS g (WE E) b)) :
    ClL P w K mg g (k + 1) x ps fn := by
  obtain ⟨f, fd, F1, m, kp, bd, bs⟩ := F.ex
  exact ⟨f, fd, m, bs, fun base _ _ => def_ok F1 Sc hf (h base f)⟩
theorem Cl.up {P : Program} {w : World} {K : PySem.W.Frag} {mg : Str → Option Value} {base : Heap} {g : Gx} {j k : Nat} {x : Str} {ps : List Str} {fn : Fn} (C : Cl P w K mg base g j x ps fn) (h : j ≤ k) : Cl P w K mg base g k x ps fn := by
  obtain ⟨f, fd, F, r⟩ := C.ex
  exact ⟨f, fd, F.mono h, r⟩
/-- a def that nobody calls in earnest -/
theorem Cl.never {P : Program} {w : World} {K : PySem.W.Frag} {mg : Str → Option Value} {base : Heap} {g : Gx} {k : Nat} {x : Str} {st : Stmt} {ps : List Str} (F : Dn K mg x st ps) : Cl P w K mg base g k x ps (fun _ => M.fail) := by
  obtain ⟨f, fd, F1, m, kp, bd, _⟩ := F.ex
  refine ⟨f, fd, ⟨fun vs H Q E q => q.1, fun A outer s H args us vs Q E hr he hb hv q => ?_⟩, m, kp, bd⟩
  obtain ⟨_, ds, S, m, _, _, c⟩ := q
  have c : False := c
  exact c.elim
section
variable {X : Cx} {g : Gx} {W : WX}
theorem s_callF {j k : Nat} {x : Str} {ps : List Str} {fn : Fn} {p pos : Pos} {e : Expr} {es : List Expr} {fa : DEnv → M (List D)} (C : Cl X.prog X.w X.K X.mg X.base g j x ps fn) (hr : Room k X.A) (hj : j ≤ k) (tk : Takes X W) (h : PA X (e :: es) (TrA g W fa)) (hn : ∀ ρ S xs S', fa ρ S = .ok xs S' → xs.length = ps.length)
    (hg : Gl X x := by rfl) (hdb : (x == ("__debug__" : Str)) = false := by decide) (he : starEach (e :: es) X.env = (false, eval e X.env) :: starEach es X.env := by rfl) (hpl : (backTo pos (starEach es X.env)).any (·.1) = false := by rfl) : PE X (.Call (.Name x p) (e :: es) [] pos) (TrE g W (eCall fn fa)) := by
  obtain ⟨f, fd, F, m, kp, bd⟩ := C.ex
  exact s_call hn (pe_callS F (hr.mono hj) hg m kp bd (fun σ => passAt tk σ) h hdb he hpl)
end
/-- the built-in names that the program leaves as they are -/
structure Bn (mg : Str → Option Value) : Prop where
  len : mg "len" = none
  sum : mg "sum" = none
  min : mg "min" = none
  max : mg "max" = none
  sorted : mg "sorted" = none
  list : mg "list" = none
  tuple : mg "tuple" = none
  set : mg "set" = none
  int : mg "int" = none
  str : mg "str" = none
  isinstance : mg "isinstance" = none
  range : mg "range" = none
  reversed : mg "reversed" = none
  zip : mg "zip" = none
  enumerate : mg "enumerate" = none
  bool : mg "bool" = none
section
variable {X : Cx} {g : Gx} {W : WX} {e : Expr} {es : List Expr} {p pos : Pos} {f : DEnv → M D} {fa : DEnv → M (List D)}
theorem sb_len (hc : X.calm = true) (B : Bn X.mg) (h : PE X e (TrE g W f)) (hg : Gl X "len" := by rfl) (he : starEach [e] X.env = (false, eval e X.env) :: starEach [] X.env := by rfl) (hpl : (backTo pos (starEach [] X.env)).any (·.1) = false := by rfl) : PE X (.Call (.Name "len" p) [e] [] pos) (TrE g W (eCall (on1 lenD) (aCons f aNil))) :=
  s_blt ci_len (pe_callB call_len hg B.len PySem.boot_len (a_cons h a_nil he) (by decide) (by decide) he hpl)
theorem sb_sum (hc : X.calm = true) (B : Bn X.mg) (h : PE X e (TrE g W f)) (hg : Gl X "sum" := by rfl) (he : starEach [e] X.env = (false, eval e X.env) :: starEach [] X.env := by rfl) (hpl : (backTo pos (starEach [] X.env)).any (·.1) = false := by rfl) : PE X (.Call (.Name "sum" p) [e] [] pos) (TrE g W (eCall (on1 sumD) (aCons f aNil))) :=
  s_blt ci_sum (pe_callB (cr_sum hc) hg B.sum PyProof.Rows.boot_sum (a_cons h a_nil he) (by decide) (by decide) he hpl)
theorem sb_min1 (hc : X.calm = true) (hu : X.A.units + 64 < cLine) (B : Bn X.mg) (h : PE X e (TrE g W f)) (hg : Gl X "min" := by rfl) (he : starEach [e] X.env = (false, eval e X.env) :: starEach [] X.env := by rfl) (hpl : (backTo pos (starEach [] X.env)).any (·.1) = false := by rfl) : PE X (.Call (.Name "min" p) [e] [] pos) (TrE g W (eCall (on1 minD1) (aCons f aNil))) :=
  s_blt ci_min (pe_callB ((cr_min hc).or (LPr.cr_minT hc hu)) hg B.min PyProof.Rows.boot_min (a_cons h a_nil he) (by decide) (by decide) he hpl)
theorem sb_max1 (hc : X.calm = true) (B : Bn X.mg) (h : PE X e (TrE g W f)) (hg : Gl X "max" := by rfl) (he : starEach [e] X.env = (false, eval e X.env) :: starEach [] X.env := by rfl) (hpl : (backTo pos (starEach [] X.env)).any (·.1) = false := by rfl) : PE X (.Call (.Name "max" p) [e] [] pos) (TrE g W (eCall (on1 maxD1) (aCons f aNil))) :=
  s_blt ci_max (pe_callB (cr_max hc) hg B.max PyProof.Rows.boot_max (a_cons h a_nil he) (by decide) (by decide) he hpl)
theorem sb_min2 {e2 : Expr} {f2 : DEnv → M D} (hc : X.calm = true) (B : Bn X.mg) (h : PE X e (TrE g W f)) (h2 : PE X e2 (TrE g W f2)) (hg : Gl X "min" := by rfl) (he : starEach [e, e2] X.env = (false, eval e X.env) :: starEach [e2] X.env := by rfl) (he2 : starEach [e2] X.env = (false, eval e2 X.env) :: starEach [] X.env := by rfl) (hpl : (backTo pos (starEach [e2] X.env)).any (·.1) = false := by rfl) : PE X (.Call (.Name "min" p) [e, e2] [] pos) (TrE g W (eCall (on2 minD2) (aCons f (aCons f2 aNil)))) :=
  s_blt ci_min2 (pe_callB (call_min2 hc) hg B.min PyProof.Rows.boot_min (a_cons h (a_cons h2 a_nil he2) he) (by decide) (by decide) he hpl)
theorem sb_max2 {e2 : Expr} {f2 : DEnv → M D} (hc : X.calm = true) (B : Bn X.mg) (h : PE X e (TrE g W f)) (h2 : PE X e2 (TrE g W f2)) (hg : Gl X "max" := by rfl) (he : starEach [e, e2] X.env = (false, eval e X.env) :: starEach [e2] X.env := by rfl) (he2 : starEach [e2] X.env = (false, eval e2 X.env) :: starEach [] X.env := by rfl) (hpl : (backTo pos (starEach [e2] X.env)).any (·.1) = false := by rfl) : PE X (.Call (.Name "max" p) [e, e2] [] pos) (TrE g W (eCall (on2 maxD2) (aCons f (aCons f2 aNil)))) :=
  s_blt ci_max2 (pe_callB (call_max2 hc) hg B.max PyProof.Rows.boot_max (a_cons h (a_cons h2 a_nil he2) he) (by decide) (by decide) he hpl)
theorem sb_int (B : Bn X.mg) (h : PE X e (TrE g W f)) (hg : Gl X "int" := by rfl) (he : starEach [e] X.env = (false, eval e X.env) :: starEach [] X.env := by rfl) (hpl : (backTo pos (starEach [] X.env)).any (·.1) = false := by rfl) : PE X (.Call (.Name "int" p) [e] [] pos) (TrE g W (eCall (on1 intD) (aCons f aNil))) :=
  s_blt ci_int (pe_callTy call_int1 hg B.int PyProof.Rows.boot_int (a_cons h a_nil he) (by decide) (by decide) he hpl)
theorem sb_str (B : Bn X.mg) (h : PE X e (TrE g W f)) (hg : Gl X "str" := by rfl) (he : starEach [e] X.env = (false, eval e X.env) :: starEach [] X.env := by rfl) (hpl : (backTo pos (starEach [] X.env)).any (·.1) = false := by rfl) : PE X (.Call (.Name "str" p) [e] [] pos) (TrE g W (eCall (on1 strD) (aCons f aNil))) :=
  s_blt ci_str (pe_callTy call_str_int hg B.str PyProof.Rows.boot_str (a_cons h a_nil he) (by decide) (by decide) he hpl)
theorem sb_tuple (B : Bn X.mg) (h : PE X e (TrE g W f)) (hg : Gl X "tuple" := by rfl) (he : starEach [e] X.env = (false, eval e X.env) :: starEach [] X.env := by rfl) (hpl : (backTo pos (starEach [] X.env)).any (·.1) = false := by rfl) : PE X (.Call (.Name "tuple" p) [e] [] pos) (TrE g W (eCall (on1 tupleD) (aCons f aNil))) :=
  s_blt ci_tuple (pe_callTy call_tuple_of hg B.tuple PyProof.Rows.boot_tuple (a_cons h a_nil he) (by decide) (by decide) he hpl)
theorem nb_list (B : Bn X.mg) (h : PE X e (TrE g W f)) (hg : Gl X "list" := by rfl) (he : starEach [e] X.env = (false, eval e X.env) :: starEach [] X.env := by rfl) (hpl : (backTo pos (starEach [] X.env)).any (·.1) = false := by rfl) : PE X (.Call (.Name "list" p) [e] [] pos) (TrN g W (nCall (on1 listN) (aCons f aNil))) :=
  n_blt cn_list (pe_callTy call_list_of hg B.list PyProof.Rows.boot_list (a_cons h a_nil he) (by decide) (by decide) he hpl)
theorem nb_sortedI (B : Bn X.mg) (h : PE X e (TrE g W f)) (hg : Gl X "sorted" := by rfl) (he : starEach [e] X.env = (false, eval e X.env) :: starEach [] X.env := by rfl) (hpl : (backTo pos (starEach [] X.env)).any (·.1) = false := by rfl) : PE X (.Call (.Name "sorted" p) [e] [] pos) (TrN g W (nCall (on1 sortedI) (aCons f aNil))) :=
  n_blt cn_sortedI (pe_callB cr_sortedI hg B.sorted PyProof.Rows.boot_sorted (a_cons h a_nil he) (by decide) (by decide) he hpl)
theorem sb_isi {T : String} {p2 : Pos} (B : Bn X.mg) (hT : T ∈ ["int", "bool", "str", "tuple", "list"]) (hb : bootBuiltins (PySem.Str.ofString T) = some (.type T)) (hm : X.mg (PySem.Str.ofString T) = none) (h : PE X e (TrE g W f)) (hg2 : Gl X (PySem.Str.ofString T)) (hn : PySem.Str.ofString T ≠ "__name__") (hd : (PySem.Str.ofString T == ("__debug__" : Str)) = false)
    (hg : Gl X "isinstance" := by rfl) (he : starEach [e, .Name (PySem.Str.ofString T) p2] X.env = (false, eval e X.env) :: starEach [.Name (PySem.Str.ofString T) p2] X.env := by rfl) (he2 : starEach [.Name (PySem.Str.ofString T) p2] X.env = (false, eval (.Name (PySem.Str.ofString T) p2) X.env) :: starEach [] X.env := by rfl) (hpl : (backTo pos (starEach [.Name (PySem.Str.ofString T) p2] X.env)).any (·.1) = false := by rfl) :
    PE X (.Call (.Name "isinstance" p) [e, .Name (PySem.Str.ofString T) p2] [] pos) (TrE g W (eUn (isiD T) f)) :=
  s_isi hT (pe_callB call_isi hg B.isinstance PyProof.Rows.boot_isinstance (pa_cons h (pa_cons (pe_bltn hg2 hm hb rfl hn hd) pa_nil he2) he) (by decide) (by decide) he hpl)
theorem pts1 {c : Expr} {t : DEnv → M Bool} (h : PT X c (TrT g W t)) : PTs X [c] (TrT g W t) := pts_one h
end
/-! chains of comparisons -/
def Ch (X : Cx) (g : Gx) (W : WX) (o : CmpOp) (op : D → D → M D) : Prop := ∃ r, OpR X (compareOp o) r ∧ OpI g W op r
section
variable {X : Cx} {g : Gx} {W : WX}
theorem ch_eq (hu : X.A.units + 64 < cLine) : Ch X g W .Eq eqD := ⟨_, op_eq.or (op_eqD hu), oi_eq X.K⟩
theorem ch_ne (hu : X.A.units + 64 < cLine) : Ch X g W .NotEq neD := ⟨_, op_ne.or (op_neD hu), oi_ne X.K⟩
theorem ch_lt (hu : X.A.units + 64 < cLine) : Ch X g W .Lt ltD := ⟨_, op_lt.or (op_ltT (by omega)), oi_lt X.K⟩
theorem ch_le (hu : X.A.units + 64 < cLine) : Ch X g W .LtE leD2 := ⟨_, op_le.or (op_leT (by omega)), oi_le X.K⟩
theorem ch_gt : Ch X g W .Gt gtD := ⟨_, op_gt, oi_gt⟩
theorem ch_ge : Ch X g W .GtE geD := ⟨_, op_ge, oi_ge⟩
variable {a b c : Expr} {pos : Pos} {o o' : CmpOp} {op op' : D → D → M D} {fa fb fc : DEnv → M D}
theorem s_ch (h : Ch X g W o op) (h' : Ch X g W o' op') (ha : PE X a (TrE g W fa)) (hb : PE X b (TrE g W fb)) (hc : PE X c (TrE g W fc)) (hm : lastMarks [o, o'] [b, c] = false := by rfl) : PE X (.Compare a [o, o'] [b, c] pos) (TrE g W (eChain op op' fa fb fc)) := by
  obtain ⟨r, h1, h2⟩ := h
  obtain ⟨r', h3, h4⟩ := h'
  exact s_chain h1 h2 h3 h4 ha hb hc hm
theorem t_ch (h : Ch X g W o op) (h' : Ch X g W o' op') (ha : PE X a (TrE g W fa)) (hb : PE X b (TrE g W fb)) (hc : PE X c (TrE g W fc)) (hm : lastMarks [o, o'] [b, c] = false := by rfl) : PT X (.Compare a [o, o'] [b, c] pos) (TrT g W (tOf (eChain op op' fa fb fc))) := by
  obtain ⟨r, h1, h2⟩ := h
  obtain ⟨r', h3, h4⟩ := h'
  exact t_chain h1 h2 h3 h4 ha hb hc hm
/-- a number that the top names -/
structure Gc (mg : Str → Option Value) (x : Str) (i : Int) : Prop where
  ex : ∃ t, mg x = some (.int i t)
structure Gs (mg : Str → Option Value) (x : Str) (i : Str) : Prop where
  ex : ∃ t, mg x = some (.str i t)
theorem s_gc {x : Str} {i : Int} {pos : Pos} (C : Gc X.mg x i) (hg : Gl X x := by rfl) (hd : (x == ("__debug__" : Str)) = false := by decide) : PE X (.Name x pos) (TrE g W (eC (.int i))) := by
  obtain ⟨t, h⟩ := C.ex
  exact s_gint hg h hd
theorem s_gs {x y : Str} {pos : Pos} (C : Gs X.mg x y) (hg : Gl X x := by rfl) (hd : (x == ("__debug__" : Str)) = false := by decide) : PE X (.Name x pos) (TrE g W (eC (.str y))) := by
  obtain ⟨t, h⟩ := C.ex
  exact s_gstr hg h hd
end
end
end LP

set_option Elab.async false
set_option linter.all false
set_option maxRecDepth 100000
set_option maxHeartbeats 2000000
namespace LP
open PySem PySem.Spec L2
set_option autoImplicit false
noncomputable section
/-! ### the head: from what the law's def computes to the row -/
/-- no list stands among the module's own objects -/
def NoL (K : PySem.W.Frag) : Prop := (K.all fun p => !(p.2.cls == Value.type "list")) = true
theorem NoL.no {K : PySem.W.Frag} (h : NoL K) {a : Addr} {o : Obj} (hk : K.lookup a = some o) : o.cls ≠ .type "list" := by
  intro e
  have gen : ∀ l : List (Addr × Obj), List.lookup a l = some o → (a, o) ∈ l := fun l => by
    induction l with
    | nil => intro q; cases q
    | cons x l ih =>
      obtain ⟨b, u⟩ := x
      intro q
      by_cases hb : a = b
      · subst hb
        rw [List.lookup_cons_self] at q
        cases q
        exact List.mem_cons_self
      · rw [List.lookup_cons, show (a == b) = false from beq_eq_false_iff_ne.mpr hb] at q
        exact List.mem_cons_of_mem _ (ih q)
  have m := gen K hk
  have z := List.all_eq_true.mp h _ m
  rw [e] at z
  exact absurd z (by decide)
abbrev g0 : Gx := ⟨fun _ => none⟩
theorem ints_rep {m : Mp} {H : Hp} (ns : List Int) : Reps m H (ns.map D.int) (ns.map V.int) := by
  induction ns with
  | nil => exact .nil
  | cons x l ih => exact .cons .int ih
theorem script_sp {g : Gx} {K : PySem.W.Frag} (hK : NoL K) {H : Hp} {a : Addr} {ns : List Int} {fn : Fn} (hl : ns.length ≤ 63) (hO : Only H) (hS : SqL K H a (ns.map V.int)) (hm : ∃ S', fn [.loc 0] [.ro (ns.map D.int)] = .ok (.bl true) S') : spD g 1 fn [.ref a] H (fun v _ => v = .bl true) fun _ _ _ => False := by
  have hz : ∃ o, H a = some (.frz o (.lst (ns.map V.int))) := by
    rcases hS with (h | ⟨o, h⟩) | ⟨o, its, n, hk, hc, hd, hs, hz, r⟩
    · rcases hO a with z | ⟨o, xs, z⟩
      · rw [h] at z; cases z
      · rw [h] at z; cases z
    · exact ⟨o, h⟩
    · exact absurd hc (hK.no hk)
  obtain ⟨o, ho⟩ := hz
  obtain ⟨S', e⟩ := hm
  refine ⟨rfl, [.loc 0], [.ro (ns.map D.int)], ⟨[a], []⟩, .cons (.loc rfl) .nil, ⟨rfl, by simp, (fun b hb => nomatch hb), fun n o' b h1 h2 => ?_⟩, ?_⟩
  · cases n with
    | zero =>
      cases h1
      cases h2
      exact ⟨o, _, ho, by rw [List.length_map, sizeLine_eq]; omega, ints_rep ns⟩
    | succ n => cases h1
  · rw [e]
    intro v m' H' _ _ r
    cases r
    rfl
theorem walk {l : PySem.W.OpenLaw} {q : Program} {loose : List Str} {XP : (Str → Option Value) → Heap → Prop} {YP : World → Heap → Prop} {d : DefRec} {K : Params → PySem.W.Frag} {k : Nat} {fn : Fn} (hn : l.most = some 63) (hdf : d.params.defaults = []) (hr : Room k callerA)
    (hY : ∀ (w : World) (h : Heap), YP w h → (K w.params).In h) (hK : ∀ w : World, NoL (K w.params))
    (F : ∀ (w : World) (mg : Str → Option Value) (h : Heap), (K w.params).In h → h.Ns mainGlobals mg → ClL l.prog w (K w.params) mg g0 k d.name ["script"] fn)
    (hm : ∀ ns : List Int, ns.length ≤ 63 → (∀ z ∈ ns, Builtin.Int.intBits z ≤ 1048576) → ∃ S', fn [.loc 0] [.ro (ns.map D.int)] = .ok (.bl true) S') :
    PySem.W.WalkO q loose XP YP l.row.toRowW d [] (fun f vs => PySem.call f vs) := by
  refine L2.walk_ofB (n := 63) (k := k) (x := "script") (CX := fun w => L2.CX l.prog w) (sp := fun _ => spD g0 1 fn) hn (by decide) hdf hr hY (fun w mg fa h KX G hmg => ?_) (fun w H a ns hl hb hO hS => script_sp (hK w) hl hO hS (hm ns hl hb)) ?_
  · obtain ⟨f, fd, e, bs, ok⟩ := (F w mg h KX G).ex
    rw [hmg] at e
    cases e
    exact ⟨fd, fun s u => bs s [u] rfl, ok⟩
  · intro w H s e s' c
    obtain ⟨_, _, _, _, _, _, _, _, _, _, _, _, z⟩ := c
    exact z
end
end LP

set_option Elab.async false
set_option linter.all false
set_option maxRecDepth 100000
set_option maxHeartbeats 1900000
namespace LP
open PySem PySem.Spec L2
set_option autoImplicit false
noncomputable section
section
variable {X : Cx} {g : Gx} {W : WX}
/-! ### two tuples side by side -/
def zipD (xs ys : List D) : List D := List.zipWith (fun a b => .tup [a, b]) xs ys
def itZip (f f2 : DEnv → M D) : IT := fun ρ => do
  let x ← f ρ
  let y ← f2 ρ
  match x, y with
  | .tup xs, .tup ys => pure (zipD xs ys, fun _ => True)
  | _, _ => M.fail
theorem isIt_zip {m : Mp} {H : Hp} {a b : Addr} {xs ys : List D} {vs ws : List V} {K : PySem.W.Frag} (h1 : H a = some (.tup vs)) (h2 : H b = some (.tup ws)) (z : vs.length ≤ sizeLine) (r1 : Reps m H xs vs) (r2 : Reps m H ys ws) :
    IsIt g m H (zipD xs ys, fun _ => True) (RZ.ItzT K a b) := by
  have hl : (zipD xs ys).length = min vs.length ws.length := by unfold zipD; rw [List.length_zipWith, r1.length, r2.length]
  refine ⟨by rw [hl]; omega, fun H => SqT K H a vs ∧ SqT K H b ws, fun i H v H' => ∃ T x y, v = .ref T ∧ H T = none ∧ H' = upd H T (.tup [x, y]) ∧ vs[i]? = some x ∧ ws[i]? = some y, ?_, fun m' H' S' e s _ => ⟨.of (e.tup a vs h1), .of (e.tup b ws h2)⟩, ?_⟩
  · refine ⟨fun i H hi q => ?_, fun H q => ⟨vs, ws, q.1, q.2, by rw [hl]; omega⟩, fun i H v H' hi q y => ?_⟩
    · rw [hl] at hi
      exact ⟨vs, ws, vs[i], ws[i], q.1, q.2, List.getElem?_eq_getElem (by omega), List.getElem?_eq_getElem (by omega)⟩
    · obtain ⟨T, x, y, e1, e2, e3, e4, e5⟩ := y
      exact ⟨T, x, y, e1, e2, e3, e4 vs q.1, e5 ws q.2⟩
  · rintro i m' H' S' v H2 d e s _ ⟨T, x, y, rfl, hn, rfl, hx, hy⟩ hd
    have hd : (List.zipWith (fun a b => D.tup [a, b]) xs ys)[i]? = some d := hd
    rw [List.getElem?_zipWith] at hd
    cases q1 : xs[i]? with
    | none => rw [q1] at hd; cases hd
    | some p =>
      cases q2 : ys[i]? with
      | none => rw [q1, q2] at hd; cases hd
      | some q =>
        rw [q1, q2] at hd
        cases hd
        obtain ⟨u, hu, ru⟩ := r1.get q1
        obtain ⟨w, hw, rw'⟩ := r2.get q2
        rw [hx] at hu
        rw [hy] at hw
        cases hu
        cases hw
        have E : Ext m' H' m' (upd H' T (.tup [x, y])) := Ext.tmp hn
        exact ⟨E, s.tmp hn, .tup upd_same (by show 2 ≤ sizeLine; rw [sizeLine_eq]; decide) (.cons (ru.mono (e.trans E)) (.cons (rw'.mono (e.trans E)) .nil))⟩
theorem i_zip {elts : List Expr} {kk : Nat} {tpos p pos : Pos} {a b : Expr} {f f2 : DEnv → M D} (B : Bn X.mg) (ha : PE X a (TrE g W f)) (hb : PE X b (TrE g W f2)) (hg : Gl X "zip" := by rfl) (hs : starEach [a, b] X.env = (false, eval a X.env) :: starEach [b] X.env := by rfl)
    (hs2 : starEach [b] X.env = (false, eval b X.env) :: starEach [] X.env := by rfl) (hpl : (backTo pos (starEach [b] X.env)).any (·.1) = false := by rfl) : PI X (.Tuple elts kk tpos) (.Call (.Name "zip" p) [a, b] [] pos) (TrI g W (itZip f f2)) := by
  refine PI.wk (RZ.pi_zipA hg B.zip (pa_cons ha (pa_cons hb pa_nil hs2) hs) hs hpl) fun σ H R ⟨ρ, S, m, e, s, c⟩ => ?_
  refine two (fun _ _ _ h => h) (fun _ _ _ h => h) e s c fun m2 H2 S2 x y v w _ s2 rx ry c2 => ?_
  cases rx with
  | tup h z r => cases ry with
    | tup h' z' r' => exact ⟨_, _, _, _, rfl, .inr ⟨.of h, .of h', c2.ok s2 (isIt_zip h h' z r r')⟩⟩
    | _ => exact c2.elim
  | _ => cases ry <;> exact c2.elim
/-! dicts in the store -/
theorem ss_putD {st : Stmt} {fv fo fi : DEnv → M D} (h : PS X st (tAsg (TrE g W fv) (gSub (TrE g W fo) (TrE g W fi) rSetD))) : PS X st (TrS g W (sPutD fv fo fi)) := by
  refine PS.wk h fun E σ H ⟨ρ, S, m, e, s, c⟩ => ?_
  refine ⟨ρ, S, m, e, s, (ContS.bind (P := fun m H => Rep m H) c).imp fun v H1 ⟨x, S1, m1, e1, s1, r1, c1⟩ => ?_⟩
  refine ⟨ρ, S1, m1, e.mono e1, s1, (ContS.bind (P := fun m H => Rep m H) c1).imp fun o H2 ⟨y, S2, m2, e2, s2, r2, c2⟩ => ?_⟩
  refine ⟨ρ, S2, m2, (e.mono e1).mono e2, s2, (ContS.bind (P := fun m H => Rep m H) c2).imp fun i H3 ⟨z, S3, m3, e3, s3, r3, c3⟩ => ?_⟩
  have r2 := r2.mono e3
  have rv := (r1.mono e2).mono e3
  have er := ((e.mono e1).mono e2).mono e3
  cases r2 with
  | @loc n a hn =>
    obtain ⟨w, hw, q⟩ := s3.in hn
    dsimp only at c3
    rw [hw] at c3
    cases w with
    | dk kvs =>
      dsimp only at c3
      obtain ⟨ws, hH, rk⟩ := q
      cases qk : keyD z with
      | none => rw [qk] at c3; exact c3.elim
      | some k =>
        rw [qk] at c3
        dsimp only at c3
        by_cases hl : kvs.length < sizeLine
        · rw [show M.want (kvs.length < sizeLine) (pure (Fl.nx ρ) : M Fl) (S3.set n (.dk (putD kvs k x))) = R.ok (.nx ρ) (S3.set n (.dk (putD kvs k x))) from if_pos hl] at c3
          have E : Ext m3 H3 m3 (upd H3 a (.dK (putK ws k v))) := Ext.put s3 hn (fun o u z => by rw [hH] at z; cases z) (fun xs z => by rw [hH] at z; cases z)
          refine ⟨a, _, rfl, .inl ⟨ws, k, hH, key_rep r3 qk, by rw [← rk.len]; exact hl, rfl⟩, ?_⟩
          exact c3 σ m3 _ E (s3.put hn E ⟨_, upd_same, (KReps.put rv rk).mono E⟩) (er.mono E)
        · rw [show M.want (kvs.length < sizeLine) (pure (Fl.nx ρ) : M Fl) (S3.set n (.dk (putD kvs k x))) = R.bad from if_neg hl] at c3
          exact c3.elim
    | dt kvs =>
      dsimp only at c3
      obtain ⟨ws, hH, rk⟩ := q
      cases qk : keyT z with
      | none => rw [qk] at c3; exact c3.elim
      | some k =>
        rw [qk] at c3
        dsimp only at c3
        by_cases hl : kvs.length < sizeLine
        · rw [show M.want (kvs.length < sizeLine) (pure (Fl.nx ρ) : M Fl) (S3.set n (.dt (putD kvs k x))) = R.ok (.nx ρ) (S3.set n (.dt (putD kvs k x))) from if_pos hl] at c3
          have E : Ext m3 H3 m3 (upd H3 a (.dT (putK ws k v))) := Ext.put s3 hn (fun o u z => by rw [hH] at z; cases z) (fun xs z => by rw [hH] at z; cases z)
          obtain ⟨b, hb, hk⟩ := keyT_rep r3 qk
          refine ⟨a, _, rfl, .inr ⟨ws, k, b, hH, hb, hk, by rw [← rk.len]; exact hl, rfl⟩, ?_⟩
          exact c3 σ m3 _ E (s3.put hn E ⟨_, upd_same, (TReps.put rv rk).mono E⟩) (er.mono E)
        · rw [show M.want (kvs.length < sizeLine) (pure (Fl.nx ρ) : M Fl) (S3.set n (.dt (putD kvs k x))) = R.bad from if_neg hl] at c3
          exact c3.elim
    | _ => exact c3.elim
  | _ => exact c3.elim
/-- {k: v}, one pair, a dict of the store -/
def eDict1 (fk fv : DEnv → M D) : DEnv → M D := fun ρ => do
  let k ← fk ρ
  let v ← fv ρ
  match keyD k with
  | some ky => newM (.dk [(ky, v)])
  | none => M.fail
/-- what was made out of sight is taken out of the heap again -/
theorem unhide {cl : Str → Option Addr} {m m' : Mp} {H H' : Hp} {S S' : Store} {p : Addr} {o w : HO} (hp : H p = none) (s : SimS cl m S H) (E : Ext (m.hide p) (upd H p o) m' H') (s' : SimS cl m' S' H') (hd : H' p = some w) (hw : ∀ xs, w ≠ .tup xs) :
    Ext m H ⟨m'.l, m.x⟩ (without H' p) ∧ SimS cl ⟨m'.l, m.x⟩ S' (without H' p) ∧ Mn m' H' ⟨m'.l, m.x⟩ (without H' p) := by
  have hx : p ∈ m'.x := E.xsub _ List.mem_cons_self
  have hnl : p ∉ m'.l := fun z => by
    have := E.new p z (s.free hp).l
    rw [upd_same] at this
    cases this
  have F : Ext m H m' H' := (Ext.hide hp).trans ((Ext.tmp (w := o) hp : Ext (m.hide p) H (m.hide p) (upd H p o)).trans E)
  have mn : Mn m' H' ⟨m'.l, m.x⟩ (without H' p) := by
    refine ⟨fun _ _ h => h, fun b xs q => ?_, fun b o n q => ⟨?_, n.l, fun z => n.x (F.xsub _ z)⟩⟩
    · rw [without_ne fun z => by subst z; rw [hd] at q; cases q; exact hw _ rfl]
      exact q
    · rw [without_ne fun z => by subst z; exact n.x hx]
      exact q
  refine ⟨⟨F.pre, fun _ h => h, fun _ h n => absurd h n, fun b o n z => ?_, F.new, fun b o u z => ?_, fun b xs z => ?_, fun b z => ?_⟩, ⟨s'.len, s'.nd, fun b q z => ?_, fun n o b e1 e2 => (s'.obj n o b e1 e2).mn mn (without_ne fun z => hnl (by rw [← z]; exact List.mem_of_getElem? e2))⟩, mn⟩
  · rw [without_ne (ne_of_none z hp)]; exact F.frame b o n z
  · rw [without_ne (ne_of_none z hp)]; exact F.frz b o u z
  · rw [without_ne (ne_of_none z hp)]; exact F.tup b xs z
  · by_cases hb : b = p
    · rw [hb]; exact hp
    · rw [without_ne hb] at z; exact F.dom b z
  · by_cases hb : b = p
    · subst hb; exact s.xs _ q hp
    · rw [without_ne hb] at z; exact s'.xs b (F.xsub _ q) z
theorem hideS {cl : Str → Option Addr} {m : Mp} {H : Hp} {S : Store} {p : Addr} {o : HO} (hp : H p = none) (s : SimS cl m S H) : SimS cl (m.hide p) S (upd H p o) := by
  have E : Ext m H (m.hide p) (upd H p o) := (Ext.hide hp).trans (Ext.tmp hp)
  refine ⟨s.len, s.nd, fun b q z => ?_, fun n w b e1 e2 => ?_⟩
  · by_cases hb : b = p
    · rw [hb, upd_same] at z; cases z
    · rw [upd_ne hb] at z
      rcases List.mem_cons.mp q with q | q
      · exact hb q
      · exact s.xs b q z
  · have r := s.obj n w b e1 e2
    obtain ⟨u, hu⟩ := r.some
    exact r.mono E (upd_ne (ne_of_none hu hp))
theorem s_dict1 {k v : Expr} {pos : Pos} {fk fv : DEnv → M D} (hk : PE X k (TrE g W fk)) (hv : PE X v (TrE g W fv)) : PE X (.Dict [some k] [v] pos) (TrE g W (eDict1 fk fv)) := by
  refine PE.wk (pe_disp (pps_cons hk hv pps_nil) rfl rfl (by simp) (by show 1 ≤ 15; decide)) fun σ H Q ⟨ρ, S, m, e, s, c⟩ p hp => ?_
  have E0 : Ext m H (m.hide p) (upd H p (.dK [])) := (Ext.hide hp).trans (Ext.tmp hp)
  have c : Cont g W σ (fun m H => Rep m H) m H (M.bind (fk ρ) (fun k => M.bind (fv ρ) fun v => match keyD k with
    | some ky => newM (.dk [(ky, v)])
    | none => M.fail) S) Q := c
  unfold M.bind at c
  refine ⟨ρ, S, m.hide p, e.mono E0, hideS hp s, ?_⟩
  cases q1 : fk ρ S with
  | bad => rw [q1] at c; exact c.elim
  | ex x S1 => rw [q1] at c; exact Cont.mono c E0
  | ok a S1 =>
    rw [q1] at c
    dsimp only at c
    intro x m1 H1 e1 s1 r1
    refine ⟨ρ, S1, m1, (e.mono E0).mono e1, s1, ?_⟩
    cases q2 : fv ρ S1 with
    | bad => rw [q2] at c; exact c.elim
    | ex x S2 => rw [q2] at c; exact Cont.mono c (E0.trans e1)
    | ok b S2 =>
      rw [q2] at c
      dsimp only at c
      intro y m2 H2 e2 s2 r2
      have r1 : Rep m1 H1 a x := r1
      have r2 : Rep m2 H2 b y := r2
      have E2 := e1.trans e2
      have hd : H2 p = some (.dK []) := E2.frame p _ (s.free hp).l upd_same
      cases qk : keyD a with
      | none => rw [qk] at c; exact c.elim
      | some ky =>
        rw [qk] at c
        dsimp only at c
        obtain ⟨F, s3, mn⟩ := unhide hp s E2 s2 hd (fun xs z => by cases z)
        refine ⟨hd, [(ky, y)], ?_, (by show 1 ≤ 15; decide), ?_⟩
        · rw [key_rep (r1.mono e2) qk]
          rfl
        · have q := Cont.new (w := .dK [(ky, y)]) (Cont.mono c F) s3 without_self fun G => ⟨_, upd_same, .cons ((r2.mn mn).mono G) .nil⟩
          have eu : upd (without H2 p) p (.dK [(ky, y)]) = upd H2 p (.dK (mergeK [] [(ky, y)])) := by
            funext b
            by_cases hb : b = p
            · subst hb; rw [upd_same, upd_same]; rfl
            · rw [upd_ne hb, upd_ne hb, without_ne hb]
          rw [← eu]
          exact q
end
end
end LP

set_option Elab.async false
set_option linter.all false
set_option maxRecDepth 100000
set_option maxHeartbeats 1900000
namespace LP
open PySem PySem.Spec L2
set_option autoImplicit false
noncomputable section
section
variable {X : Cx} {g : Gx} {W : WX}
/-! {}: a new dict of the store, its keys single values or tuples of them -/
def eDictK : DEnv → M D := fun _ => newM (.dk [])
def eDictT : DEnv → M D := fun _ => newM (.dt [])
theorem s_dictK {pos : Pos} : PE X (.Dict [] [] pos) (TrE g W eDictK) :=
  PE.wk pe_dnewK fun σ H Q ⟨ρ, S, m, e, s, c⟩ p hp => Cont.new c s hp fun _ => ⟨_, upd_same, .nil⟩
theorem s_dictT {pos : Pos} : PE X (.Dict [] [] pos) (TrE g W eDictT) :=
  PE.wk pe_dnewT fun σ H Q ⟨ρ, S, m, e, s, c⟩ p hp => Cont.new c s hp fun _ => ⟨_, upd_same, .nil⟩
end
end
end LP

set_option Elab.async false
set_option linter.all false
set_option maxRecDepth 100000
set_option maxHeartbeats 1900000
namespace LPr
open PySem PySem.Spec PyProof.Rows L2 PySem.W
/-- the pairs' maker over the iterator at it, ahead of its first pair -/
def maker (it : Addr) : Obj := { cls := .type "enumerate", data := .fields #[.none, .bool false, .ref it, rawInt 0, .none, .none] }
/-- enumerate(v), v with an iterator o of its own -/
theorem meets_enum {v : Value} {o : Obj} {Hv : Heap → Prop} (B : Begins v o Hv) : Meets (Builtin.«enumerate.__new__» ⟨[.type "enumerate", v], []⟩)
    (fun A R s => Hv s.heap ∧ R (.ok (.ret (.ref (s.heap.push o).objs.size))) { s with heap := (s.heap.push o).push (maker s.heap.objs.size) }) := .of_wp fun prog w A R s h => by
  obtain ⟨hv, hR⟩ := h
  have self := F.called_enumerate.sub
  unfold Builtin.«enumerate.__new__»
  generalize hPI : pyIter = PI
  wp_walk
  refine wpAny_stack fun st _ _ _ => ?_
  refine wpAny_pure ?_
  subst hPI
  have go : wpAny (model prog w) A.in1 (pyIter v >>= fun u => Builtin.SmallTypes.newRecord (Value.type "enumerate") (Builtin.SmallTypes.ownedTupleFields ++ [u, rawInt 0, Value.none, Value.none]) >>= fun r => ret r)
      (fun fin s' => ∃ v, fin = Fin.done (Flow.ret v) ∧ R (Except.ok (Flow.ret v)) s') (fun e s' => R (Except.error e) s') s := by
    refine wpAny_bind (B.iter prog w _ _ s _ hv ?_)
    refine wpAny_bind ?_
    unfold Builtin.SmallTypes.newRecord
    wp_walk
    exact ⟨_, rfl, hR⟩
  split
  · generalize (_ == Value.type "enumerate") = k
    cases k with
    | true => exact go
    | false => exact go
  · exact go
section
variable {P : Program} {w : World} {A : Around} {E : Value → Shared → Prop} {s : Shared}
theorem call_enum {v : Value} {o : Obj} {Hv : Heap → Prop} {Q : Value → Shared → Prop} (B : Begins v o Hv) (hv : Hv s.heap)
    (h : Q (.ref (s.heap.objs.size + 1)) { s with heap := (s.heap.push o).push (maker s.heap.objs.size) }) : wpAny (model P w) A (call (.type "enumerate") [v]) Q E s := by
  refine callType_new F.called_enumerate (by decide) (F.typeCall_enumerate_1 v) (F.newCall_enumerate_1 v) (fun obj => F.args_object_init_2 obj v) F.entry_enumerate_new (meets_enum B) ⟨hv, ?_⟩
  have hz : (s.heap.push o).objs.size = s.heap.objs.size + 1 := Heap.size_push ..
  have hg : ((s.heap.push o).push (maker s.heap.objs.size)).get? (s.heap.objs.size + 1) = some (maker s.heap.objs.size) := by
    rw [← hz]
    exact Heap.get?_push_size _ rfl
  show _ ∧ _
  rw [hz]
  exact ⟨⟨_, hg, rfl⟩, h⟩
end
end LPr
namespace LPr
open PySem PySem.Spec PyProof.Rows L2 PySem.W
/-- the pairs of places and items of the tuple at a -/
def Ien (K : PySem.W.Frag) (a : Addr) : It where
  go := fun i H => ∃ (xs : List V) (x : V), SqT K H a xs ∧ xs[i]? = some x
  yld := fun i H v H' => ∃ T x, v = .ref T ∧ H T = none ∧ H' = upd H T (.tup [.int (i : Nat), x]) ∧ ∀ xs, SqT K H a xs → xs[i]? = some x
  stop := fun i H => ∃ xs : List V, SqT K H a xs ∧ xs.length = i
theorem apart {h : Heap} {e it a : Addr} {c : Int} {old : Value} {i : Nat} {items : Array Value} (he : IsEnum h e it c old) (hi : h.IsTupleIter it a i) (ha : h.IsTuple a items) : a ≠ it ∧ e ∉ [it, a] := by
  obtain ⟨o1, g1, c1, _⟩ := hi
  obtain ⟨o2, g2, c2, _⟩ := ha
  have n1 : a ≠ it := fun z => by
    subst z
    have q := Option.some.inj (g1.symm.trans g2)
    rw [← q, c1] at c2
    exact absurd c2 (by decide)
  have n2 : e ≠ it := fun z => by
    subst z
    have q := Option.some.inj (g1.symm.trans he)
    rw [q] at c1
    exact absurd (show Value.type "enumerate" = Value.type "tuple_iterator" from c1) (by decide)
  have n3 : e ≠ a := fun z => by
    subst z
    have q := Option.some.inj (g2.symm.trans he)
    rw [q] at c2
    exact absurd (show Value.type "enumerate" = Value.type "tuple" from c2) (by decide)
  exact ⟨n1, by simp [n2, n3]⟩
theorem turn_en {P : Program} {w : World} {K : PySem.W.Frag} {elts : List Expr} {kk : Nat} {tpos : Pos} (a e it : Addr) :
    Turn P w K (.Tuple elts kk tpos) (Ien K a) [e, it] e (fun i h => (∃ old, IsEnum h e it ((i : Nat) : Int) old) ∧ h.IsTupleIter it a i) where
  mem := List.mem_cons_self
  obj := fun i h st b hb => by
    obtain ⟨⟨old, he⟩, o, g, _, d⟩ := st
    by_cases z : b = e
    · rw [z]
      exact ⟨_, he, fun v q => nomatch q⟩
    · have z2 : b = it := by simpa [z] using hb
      rw [z2]
      exact ⟨o, g, fun v q => by rw [d] at q; cases q⟩
  keep := fun i h h' st k => by
    obtain ⟨⟨old, he⟩, o, g, r⟩ := st
    exact ⟨⟨old, k e List.mem_cons_self _ he⟩, o, k it (by simp) _ g, r⟩
  item := by
    intro X hP hw hK hc i pins s σ H E I hf st hg
    subst hP hw hK
    obtain ⟨⟨old, he⟩, hit⟩ := st
    obtain ⟨xs, x, hq, hx⟩ := hg
    obtain ⟨its, rv, p, hz⟩ := I.tuple hq
    obtain ⟨u, hu, ru⟩ := rv.get hx
    obtain ⟨n1, n2⟩ := apart he hit p
    have n3 : e ≠ it := fun z => n2 (by simp [z])
    have hn : X.A.in1.handled = none := by simp [I.ok.hd hc]
    have hlt : i < its.toArray.size := by
      have := (List.getElem?_eq_some_iff.mp hu).1
      simpa using this
    have le := Heap.lt_size he
    refine wpAny_pyNext_enum_itemD (Draws.tuple hn it a n1 its.toArray) he ⟨hit, p⟩ hlt n3 n2 fun y h' tk hy out st' hT hsz hk => ⟨_, rfl, ?_⟩
    have ey : y = u := by
      have hy : its.toArray[i]? = some y := hy
      rw [List.getElem?_toArray, hu] at hy
      exact (Option.some.inj hy).symm
    subst ey
    refine wpAny_letOwnedTupleGo_enum (s := { s with heap := h', toks := tk + 1 }) out fun h2 he2 sb => ?_
    have same : ∀ b, b ≠ e → h2.get? b = h'.get? b := sb.2
    have hl : s.heap.objs.size ≠ e := Nat.ne_of_gt le
    have pair : h2.get? s.heap.objs.size = some { cls := .type "tuple", data := .seq #[.int i tk, y] } := (same _ hl).trans hT
    have new : ObjOk X.prog X.w (upd H s.heap.objs.size (.tup [.int (i : Nat), x])) h2 s.heap.objs.size (.tup [.int (i : Nat), x]) :=
      ⟨by show 2 ≤ sizeLine; rw [sizeLine_eq]; decide, [.int i tk, y], .cons ⟨tk, rfl⟩ (.cons ru .nil), _, pair, rfl, _, rfl⟩
    have J : Inv X pins σ (upd H s.heap.objs.size (.tup [.int (i : Nat), x])) { s with heap := h2, toks := tk + 1 } := by
      refine I.turnedNew (ch := [e, it]) (fun b ob hb q => ?_) hf (Nat.le_refl _) new
      have b1 : b ≠ e := fun z => hb (by simp [z])
      have b2 : b ≠ it := fun z => hb (by simp [z])
      exact (same b b1).trans (hk b ob b1 b2 q)
    refine ⟨.ref s.heap.objs.size, _, J, rfl, ⟨_, x, rfl, I.hok.fresh (Nat.le_refl _), rfl, fun ys hys => by rw [I.tuple_inj hys hq]; exact hx⟩, ⟨⟨y, ?_⟩, ?_⟩, fun b hb => ?_⟩
    · have ei : ((i + 1 : Nat) : Int) = (i : Int) + 1 := by omega
      rw [ei]
      exact he2
    · obtain ⟨o, g, r⟩ := st'.1
      exact ⟨o, (same it (Ne.symm n3)).trans g, r⟩
    · have f := (hf b hb).1
      have hb2 : b ≠ s.heap.objs.size := fun z => by
        obtain ⟨o, g, _⟩ := hit
        have l2 := Heap.lt_size g
        have : b = e ∨ b = it := by simpa using hb
        rcases this with q | q
        · exact absurd (q.symm.trans z) (Nat.ne_of_lt le)
        · exact absurd (q.symm.trans z) (Nat.ne_of_lt l2)
      rw [upd_ne hb2]
      exact f
  done := by
    intro X hP hw hK hc i pins s σ H E I hf st hg
    subst hP hw hK
    obtain ⟨⟨old, he⟩, hit⟩ := st
    obtain ⟨xs, hq, hx⟩ := hg
    obtain ⟨its, rv, p, hz⟩ := I.tuple hq
    obtain ⟨n1, n2⟩ := apart he hit p
    have hn : X.A.in1.handled = none := by simp [I.ok.hd hc]
    have hl : its.toArray.size = i := by rw [List.size_toArray, ← rv.length]; exact hx
    refine wpAny_pyNext_enum_endD (Draws.tuple hn it a n1 its.toArray) he (by rw [hl]; exact ⟨hit, p⟩) fun h' eb => ⟨rfl, ?_⟩
    refine I.turnedL (t' := s.toks) (ch := [e, it]) (fun b o hb q => eb b o (fun z => hb (by simp [z])) q) hf
  self := fun A i s Q E st h => by
    obtain ⟨⟨old, he⟩, _⟩ := st
    exact wpAny_pyIter_enum he h
theorem pi_en {X : Cx} {te : TE} {e : Expr} {p pos tpos : Pos} {elts : List Expr} {kk : Nat} (hg : Gl X "enumerate") (hm : X.mg "enumerate" = none) (he : PE X e te) (hs : starEach [e] X.env = (false, eval e X.env) :: starEach [] X.env := by rfl) :
    PI X (.Tuple elts kk tpos) (.Call (.Name "enumerate" p) [e] [] pos) (fun σ H R => te σ H fun x H1 => ∃ a xs, x = .ref a ∧ SqT X.K H1 a xs ∧ R (Ien X.K a) H1) := by
  refine ⟨fun pins s σ H R I h => ?_⟩
  refine Call_ (ld_blt I hg hm boot_enumerate ?_)
  refine PyProof.Rows.callWith_type1 (PyProof.Rows.args_cons (thn (he.run pins s σ H _ I h) fun v s1 q => PyProof.Rows.args_nil ?_) hs) hs rfl
  obtain ⟨x, H1, I1, r1, a, xs, ex, hq, hR⟩ := q
  subst ex
  cases r1
  obtain ⟨its, rv, pl, _⟩ := I1.tuple hq
  have N := s1.heap.objs.size
  have hz : (s1.heap.push { cls := .type "tuple_iterator", data := .fields #[.ref a, .int 0 0] }).objs.size = s1.heap.objs.size + 1 := Heap.size_push ..
  refine call_enum (begins_tuple a its.toArray) pl ?_
  have hE : IsEnum ((s1.heap.push { cls := .type "tuple_iterator", data := .fields #[.ref a, .int 0 0] }).push (maker s1.heap.objs.size)) (s1.heap.objs.size + 1) s1.heap.objs.size ((0 : Nat) : Int) .none := by
    rw [← hz]
    exact Heap.get?_push_size _ rfl
  refine wpAny_pyIter_enum hE ?_
  have kept : ∀ b o, s1.heap.get? b = some o → ((s1.heap.push { cls := .type "tuple_iterator", data := .fields #[.ref a, .int 0 0] }).push (maker s1.heap.objs.size)).get? b = some o := fun b o q => Heap.get?_push_of_some _ (Heap.get?_push_of_some _ q)
  refine ⟨s1.heap.objs.size + 1, [s1.heap.objs.size + 1, s1.heap.objs.size], _, _, H1, rfl, I1.kept (t' := s1.toks) kept, turn_en a _ _, ⟨⟨_, hE⟩, _, Heap.get?_push_of_some _ (Heap.get?_push_size _ rfl), rfl, rfl⟩, fun b hb => ?_, hR⟩
  have ge : s1.heap.objs.size ≤ b := by
    have : b = s1.heap.objs.size + 1 ∨ b = s1.heap.objs.size := by simpa using hb
    rcases this with q | q
    · rw [q]; exact Nat.le_succ _
    · rw [q]; exact Nat.le_refl _
  exact I1.fpOk ge (I1.hok.fresh ge)
end LPr
namespace LP
open PySem PySem.Spec L2
set_option autoImplicit false
noncomputable section
section
variable {X : Cx} {g : Gx} {W : WX}
/-! enumerate over a tuple -/
def enumD : Nat → List D → List D
  | _, [] => []
  | i, x :: xs => .tup [.int (i : Nat), x] :: enumD (i + 1) xs
theorem enumD_len : ∀ (i : Nat) (xs : List D), (enumD i xs).length = xs.length
  | _, [] => rfl
  | i, x :: xs => congrArg (· + 1) (enumD_len (i + 1) xs)
theorem enumD_get : ∀ (k : Nat) (xs : List D) (i : Nat), (enumD k xs)[i]? = (xs[i]?).map fun x => .tup [.int ((k + i : Nat) : Int), x]
  | _, [], _ => by simp [enumD]
  | k, x :: xs, 0 => by simp [enumD]
  | k, x :: xs, i + 1 => by
    show (enumD (k + 1) xs)[i]? = _
    rw [enumD_get (k + 1) xs i, List.getElem?_cons_succ, show k + 1 + i = k + (i + 1) by omega]
def itEnumT (f : DEnv → M D) : IT := fun ρ => do
  let x ← f ρ
  match x with
  | .tup xs => pure (enumD 0 xs, fun _ => True)
  | _ => M.fail
theorem isIt_en {m : Mp} {H : Hp} {a : Addr} {xs : List D} {vs : List V} {K : PySem.W.Frag} (h1 : H a = some (.tup vs)) (z : vs.length ≤ sizeLine) (r : Reps m H xs vs) : IsIt g m H (enumD 0 xs, fun _ => True) (LPr.Ien K a) := by
  have hl : (enumD 0 xs).length = vs.length := by rw [enumD_len, r.length]
  refine ⟨by rw [hl]; exact z, fun H => SqT K H a vs, fun i H v H' => ∃ T x, v = .ref T ∧ H T = none ∧ H' = upd H T (.tup [.int (i : Nat), x]) ∧ vs[i]? = some x, ?_, fun m' H' S' e s _ => .of (e.tup a vs h1), ?_⟩
  · refine ⟨fun i H hi q => ?_, fun H q => ⟨vs, q, hl.symm⟩, fun i H v H' hi q y => ?_⟩
    · rw [hl] at hi
      exact ⟨vs, vs[i], q, List.getElem?_eq_getElem hi⟩
    · obtain ⟨T, x, e1, e2, e3, e4⟩ := y
      exact ⟨T, x, e1, e2, e3, e4 vs q⟩
  · rintro i m' H' S' v H2 d e s _ ⟨T, x, rfl, hn, rfl, hx⟩ hd
    have hd : (enumD 0 xs)[i]? = some d := hd
    rw [enumD_get, Nat.zero_add] at hd
    cases q1 : xs[i]? with
    | none => rw [q1] at hd; cases hd
    | some p =>
      rw [q1] at hd
      cases hd
      obtain ⟨u, hu, ru⟩ := r.get q1
      rw [hx] at hu
      cases hu
      have E : Ext m' H' m' (upd H' T (.tup [.int (i : Nat), x])) := Ext.tmp hn
      exact ⟨E, s.tmp hn, .tup upd_same (by show 2 ≤ sizeLine; rw [sizeLine_eq]; decide) (.cons .int (.cons (ru.mono (e.trans E)) .nil))⟩
theorem i_enumT {elts : List Expr} {kk : Nat} {tpos p pos : Pos} {a : Expr} {f : DEnv → M D} (B : Bn X.mg) (ha : PE X a (TrE g W f)) (hg : Gl X "enumerate" := by rfl) (hs : starEach [a] X.env = (false, eval a X.env) :: starEach [] X.env := by rfl) :
    PI X (.Tuple elts kk tpos) (.Call (.Name "enumerate" p) [a] [] pos) (TrI g W (itEnumT f)) := by
  refine PI.wk (LPr.pi_en hg B.enumerate ha hs) fun σ H R ⟨ρ, S, m, e, s, c⟩ => ?_
  refine ⟨ρ, S, m, e, s, (Cont.bind (P := fun m H => Rep m H) c).imp fun v H1 ⟨x, S1, m1, e1, s1, r1, c1⟩ => ?_⟩
  cases r1 with
  | tup h z r => exact ⟨_, _, rfl, .of h, c1.ok s1 (isIt_en h z r)⟩
  | _ => exact c1.elim
end
end
end LP

set_option Elab.async false
set_option linter.all false
set_option maxRecDepth 100000
set_option maxHeartbeats 1900000
namespace LP
open PySem PySem.Spec L2
set_option autoImplicit false
noncomputable section
section
variable {X : Cx} {g : Gx} {W : WX}
/-! sorted(d), d's keys whole numbers, fewer than 64 -/
def keysI : List (Key × D) → Option (List Int)
  | [] => some []
  | (.inl i, _) :: r => (keysI r).map (i :: ·)
  | (.inr _, _) :: _ => none
theorem keysI_some : ∀ {kvs : List (Key × D)} {ks : List Int}, keysI kvs = some ks → kvs.map (·.1) = ks.map Sum.inl
  | [], ks, h => by cases h; rfl
  | (.inl i, d) :: r, ks, h => by
    unfold keysI at h
    cases q : keysI r with
    | none => rw [q] at h; cases h
    | some l =>
      rw [q] at h
      cases h
      rw [List.map_cons, keysI_some q]
      rfl
  | (.inr _, _) :: _, ks, h => by cases h
theorem KReps.keys {m : Mp} {H : Hp} : ∀ {kvs : List (Key × D)} {ws : List (Key × V)}, KReps m H kvs ws → ws.map (·.1) = kvs.map (·.1)
  | _, _, .nil => rfl
  | _, _, .cons a b => by rw [List.map_cons, List.map_cons, KReps.keys b]
def sortedDI (d : D) : M (List D) := do
  let dc ← dicOf d
  match dc with
  | .k kvs => match keysI kvs with
    | some ks => M.want (ks.length < 64) (pure ((sortI ks).map D.int))
    | none => M.fail
  | .t _ => M.fail
theorem cn_sortedDI : CallN g W (on1 sortedDI) (fun xs H Q => ∃ (a : Addr) (kvs : List (Key × V)) (ks : List Int), xs = [.ref a] ∧ Rd H a (.dK kvs) ∧ kvs.map (·.1) = ks.map Sum.inl ∧ ks.length < 64 ∧
    ∀ (ys : List Int) (p : Addr), ys.Perm ks → ys.Pairwise (· ≤ ·) → H p = none → Q (.ref p) (upd H p (.lst (ys.map V.int)))) := cn1 fun σ m H S d v Q s r c => by
  have c' : Cont g W σ (fun m H ds (p : List V × Addr) => Reps m H ds p.1 ∧ p.1.length ≤ sizeLine ∧ H p.2 = none) m H (M.bind (dicOf d) (fun dc => match dc with
    | .k kvs => match keysI kvs with
      | some ks => M.want (ks.length < 64) (pure ((sortI ks).map D.int))
      | none => M.fail
    | .t _ => M.fail) S) (fun p H1 => Q (.ref p.2) (upd H1 p.2 (.lst p.1))) := c
  unfold M.bind at c'
  rcases dicOf_rep s r with h | ⟨kvs, a, ws, h1, rfl, h2, rk⟩ | ⟨kvs, a, ws, h1, rfl, h2, rk⟩
  · rw [h] at c'; exact c'.elim
  · rw [h1] at c'
    dsimp only at c'
    cases q : keysI kvs with
    | none => rw [q] at c'; exact c'.elim
    | some ks =>
      rw [q] at c'
      obtain ⟨h64, c2⟩ := Cont.want c'
      refine ⟨a, ws, ks, rfl, .inl h2, by rw [rk.keys, keysI_some q], h64, fun ys p hp hw hn => ?_⟩
      have c3 : ContN g W σ m H (.ok ((sortI ks).map D.int) S) Q := c2
      rw [sortI_eq hp hw] at c3
      exact ContN.ok c3 s (.of_ints _) (by rw [List.length_map, hp.length_eq, sizeLine_eq]; omega) hn
  · rw [h1] at c'; exact c'.elim
theorem nb_sortedDI {e : Expr} {p pos : Pos} {f : DEnv → M D} (hc : X.calm = true) (B : Bn X.mg) (h : PE X e (TrE g W f)) (hg : Gl X "sorted" := by rfl) (he : starEach [e] X.env = (false, eval e X.env) :: starEach [] X.env := by rfl) (hpl : (backTo pos (starEach [] X.env)).any (·.1) = false := by rfl) : PE X (.Call (.Name "sorted" p) [e] [] pos) (TrN g W (nCall (on1 sortedDI) (aCons f aNil))) :=
  n_blt cn_sortedDI (pe_callB (call_sortedDI hc) hg B.sorted PyProof.Rows.boot_sorted (a_cons h a_nil he) (by decide) (by decide) he hpl)
end
end
end LP

set_option Elab.async false
set_option linter.all false
set_option maxRecDepth 100000
set_option maxHeartbeats 4000000
namespace LR
open PySem
set_option autoImplicit false
theorem noLen : typeLookup (.type "list_reverseiterator") "__len__" = pure none := by rw [typeLookup_type, builtinLookup_eq_fast]; kernel_rfl
theorem hasHint : ∃ id : String, id = "list_reverseiterator.__length_hint__" ∧ typeLookup (.type "list_reverseiterator") "__length_hint__" = pure (some (.builtin id)) ∧ splitId id = some ("list_reverseiterator", "__length_hint__") :=
  ⟨_, rfl, by rw [typeLookup_type, builtinLookup_eq_fast]; kernel_rfl, by decide +kernel⟩
theorem ownSub : isSubtype (.type "list_reverseiterator") (.type "list_reverseiterator") = pure true := by rw [isSubtype_type]; kernel_rfl
section
variable {prog : Program} {w : World} {A : Around} {E : Value → Shared → Prop} {s : Shared}
theorem hint_rev {r l : Addr} {i : Int} {Q : Bool → Shared → Prop} (hr : s.heap.IsRevIter r l i) (h : Q false s) : wpAny (model prog w) A (Builtin.List.listLengthHint (.ref r)) Q E s := by
  have ht := hr.typeIs
  have f1 := noLen
  obtain ⟨id, f0, f2, f4⟩ := hasHint
  have f3 := ownSub
  unfold Builtin.List.listLengthHint
  wp_walk
  rw [f4]
  wp_walk
  refine wpAny_ite_split (fun _ => ?_) fun z => absurd (by subst f0; decide +kernel) z
  refine wpAny_ite_split (fun z => absurd z (by subst f0; decide +kernel)) fun _ => ?_
  wp_walk
  exact h

/-- list(r), r an iterator over a list from its end -/
theorem new_rev {r l : Addr} {items : Array Value} {Q : Value → Shared → Prop} (hh : A.handled = none) (hr : s.heap.IsRevIter r l ((items.size : Int) - 1)) (hl : s.heap.IsList l items) (hne : l ≠ r) (hz : items.size ≤ sizeLine)
    (hQ : ∀ h' tk acc c, (∀ b o, b ≠ r → s.heap.get? b = some o → h'.get? b = some o) → h'.get? s.heap.objs.size = some { cls := .type "list", data := .seq acc c } → acc.size = items.size → (∀ (j : Nat) (v : Value), acc[j]? = some v → items[items.size - 1 - j]? = some v) → Q (.ref s.heap.objs.size) { s with heap := h', toks := tk }) :
    wpAny (model prog w) A (call (.type "list") [.ref r]) Q E s := by
  refine callType_codes (Q₁ := fun x t => x = .ref s.heap.objs.size ∧ t = { s with heap := s.heap.push { cls := .type "list", data := .seq #[] } }) PySem.F.called_list (PySem.F.typeCall_list_1 (.ref r)) PySem.F.entry_list_init (code_list_new (.ref r) ⟨rfl, rfl⟩) ?_
  rintro _ _ ⟨rfl, rfl⟩
  have hn : (s.heap.push { cls := .type "list", data := .seq #[] }).get? s.heap.objs.size = some { cls := .type "list", data := .seq #[] } := Heap.get?_push_size _ rfl
  refine ⟨⟨_, hn, rfl⟩, PySem.F.args_list_init_2 _ _, ?_⟩
  have ht : Shared.TypeIs { s with heap := s.heap.push { cls := .type "list", data := .seq #[] } } (.ref s.heap.objs.size) "list" := ⟨_, hn, rfl⟩
  unfold Builtin.«list.__init__»
  wp_walk
  obtain ⟨ro, e1, e2, e3⟩ := id hr
  obtain ⟨lo, g1, g2, ln, g3⟩ := id hl
  have up : ∀ (b : Addr) (o : Obj), s.heap.get? b = some o → ((s.heap.push { cls := .type "list", data := .seq #[] }).update s.heap.objs.size (Obj.mapSeq fun _ => #[])).get? b = some o := fun b o e =>
    (Heap.get?_update_other _ _ (Nat.ne_of_gt (Heap.lt_size e))).trans (Heap.get?_push_of_some _ e)
  have k1 := up r ro e1
  have k2 := up l lo g1
  wp_walk
  rw [e2]
  have rl : r < s.heap.objs.size := Heap.lt_size e1
  have ll : l < s.heap.objs.size := Heap.lt_size g1
  have W := Walks.listRev (prog := prog) (w := w) (A := A.in1.in1) hh r l hne items
  have hn2 : ((s.heap.push { cls := .type "list", data := .seq #[] }).update s.heap.objs.size (Obj.mapSeq fun _ => #[])).get? s.heap.objs.size = some { cls := .type "list", data := .seq #[] } := Heap.get?_update_self _ hn rfl
  have st : 0 ≤ items.size ∧ ((s.heap.push { cls := .type "list", data := .seq #[] }).update s.heap.objs.size (Obj.mapSeq fun _ => #[])).IsRevIter r l ((items.size : Int) - 1 - ((0 : Nat) : Int)) ∧ ((s.heap.push { cls := .type "list", data := .seq #[] }).update s.heap.objs.size (Obj.mapSeq fun _ => #[])).IsList l items :=
    ⟨Nat.zero_le _, ⟨ro, k1, e2, by rw [e3]; simp⟩, ⟨lo, k2, g2, ln, g3⟩⟩
  refine wpAny_ite_split (fun z => ?_) fun _ => ?_
  · have q : (s.heap.objs.size == r) = false := beq_eq_false_iff_ne.mpr (Nat.ne_of_gt rl)
    have z2 : (s.heap.objs.size == r || Value.type "list_reverseiterator" == Value.type "list" || Value.type "list_reverseiterator" == Value.type "tuple") = true := z
    rw [q] at z2
    exact absurd z2 (by decide +kernel)
  refine wpAny_bind (W.self 0 _ _ _ st ?_)
  refine wpAny_bind (wpAny_holding (hint_rev (i := (items.size : Int) - 1) ⟨ro, k1, e2, e3⟩ ?_))
  dsimp only
  refine wpAny_ite_split (fun z => absurd z (by decide +kernel)) fun _ => ?_
  have out : s.heap.objs.size ∉ [r, l] := fun z => by
    rcases List.mem_cons.mp z with z | z
    · exact Nat.lt_irrefl _ (z ▸ rl)
    · exact Nat.lt_irrefl _ (List.mem_singleton.mp z ▸ ll)
  refine wpAny_pure ⟨plainId_quiet PySem.F.plain_extend_loop ⟨[.ref s.heap.objs.size, .ref r, .none], []⟩, ?_⟩
  refine codeAny_extend_loopS W.toS hz _ out .none items.size 0 { s with heap := (s.heap.push { cls := .type "list", data := .seq #[] }).update s.heap.objs.size (Obj.mapSeq fun _ => #[]) } #[] _ (Nat.sub_zero _) (Nat.zero_le _) st hn2 (.nil _) ?_
  rintro ⟨h', gs, dr, tk, os⟩ acc c ⟨m1, m2, m3, m4, m5⟩ hS hi
  dsimp only at m2 m3 m4
  subst m2 m3 m4
  refine ⟨rfl, hQ h' tk acc c (fun b o nb e => m1 b o (fun z => ?_) (up b o e)) hS hi.1 hi.2⟩
  rcases List.mem_cons.mp z with z | z
  · exact Nat.lt_irrefl _ (z ▸ Heap.lt_size e)
  · exact nb (List.mem_singleton.mp z)
end
end LR
namespace LR
open PySem PySem.Spec PyProof.Rows L2 PySem.W
set_option autoImplicit false
theorem vals_back {xs : List V} {its : List Value} {acc : Array Value} (r : Vals xs its) (hs : acc.size = its.toArray.size) (hi : ∀ (j : Nat) (v : Value), acc[j]? = some v → its.toArray[its.toArray.size - 1 - j]? = some v) : Vals xs.reverse acc.toList := by
  have e : acc.toList = its.reverse := by
    apply List.ext_getElem?
    intro j
    by_cases h : j < acc.size
    · have q := hi j acc[j] (Array.getElem?_eq_getElem h)
      rw [List.getElem?_toArray] at q
      rw [Array.getElem?_toList, Array.getElem?_eq_getElem h, List.getElem?_reverse (by simpa [hs] using h), ← q]
      simp
    · rw [List.getElem?_eq_none (by simpa using Nat.le_of_not_lt h), List.getElem?_eq_none (by rw [List.length_reverse]; simp [hs] at h; omega)]
  rw [e]
  exact r.reverse
/-- list(reversed(e)), e a list -/
theorem pe_back {X : Cx} {te : TE} {e : Expr} {p p2 pos pos2 : Pos} (hc : X.calm = true) (hg : Gl X "list") (hm : X.mg "list" = none) (hg2 : Gl X "reversed") (hm2 : X.mg "reversed" = none) (he : PE X e te) (hs2 : starEach [e] X.env = (false, eval e X.env) :: starEach [] X.env := by rfl)
    (hs : starEach [Expr.Call (.Name "reversed" p2) [e] [] pos2] X.env = (false, eval (.Call (.Name "reversed" p2) [e] [] pos2) X.env) :: starEach [] X.env := by rfl) :
    PE X (.Call (.Name "list" p) [.Call (.Name "reversed" p2) [e] [] pos2] [] pos) (fun σ H Q => te σ H fun x H1 => ∃ a xs, x = .ref a ∧ SqL X.K H1 a xs ∧ ∀ l, H1 l = none → Q (.ref l) (upd H1 l (.lst xs.reverse))) := by
  refine ⟨fun pins s σ H Q I h => ?_⟩
  refine Call_ (ld_blt I hg hm boot_list ?_)
  refine PyProof.Rows.callWith_type1 (PyProof.Rows.args_cons (Call_ (ld_blt I hg2 hm2 boot_reversed ?_)) hs) hs rfl
  refine PyProof.Rows.callWith_type1 (PyProof.Rows.args_cons (thn (he.run pins s σ H _ I h) fun v s1 q => PyProof.Rows.args_nil ?_) hs2) hs2 rfl
  obtain ⟨x, H1, I1, r1, a, xs, rfl, hq, hQ⟩ := q
  cases r1
  obtain ⟨its, rv, ⟨o, n, g, c1, c2, c3⟩, hz⟩ := I1.list hq
  have hl : s1.heap.IsList a its.toArray := ⟨o, g, c1, n, c3⟩
  have la : a < s1.heap.objs.size := Heap.lt_size g
  refine call_reversed_list hl (PyProof.Rows.args_nil ?_)
  have hr : (s1.heap.push (revObj a ((its.toArray.size : Int) - 1))).IsRevIter s1.heap.objs.size a ((its.toArray.size : Int) - 1) := ⟨_, Heap.get?_push_size _ rfl, rfl, rfl⟩
  have zs : its.toArray.size ≤ sizeLine := by rw [List.size_toArray, ← rv.length]; exact hz
  refine LR.new_rev (s := { s1 with heap := s1.heap.push (revObj a ((its.toArray.size : Int) - 1)) }) (I1.ok.hd hc) hr (hl.push _) (Nat.ne_of_lt la) zs fun h' tk acc cap up ho hs hi => ?_
  have sz : (s1.heap.push (revObj a ((its.toArray.size : Int) - 1))).objs.size = s1.heap.objs.size + 1 := Heap.size_push ..
  dsimp only at ho up ⊢
  rw [sz] at ho ⊢
  have vs := vals_back rv hs hi
  have old : ∀ b u, s1.heap.get? b = some u → h'.get? b = some u := fun b u q => up b u (Nat.ne_of_lt (Heap.lt_size q)) (Heap.get?_push_of_some _ q)
  refine ⟨.ref (s1.heap.objs.size + 1), _, I1.laid (t' := tk) old (Nat.le_succ _) (o := .lst xs.reverse) ⟨by rw [List.length_reverse]; exact hz, acc.toList, cap, vs, by simpa using ho⟩, rfl, hQ _ (I1.hok.fresh (Nat.le_succ _))⟩
end LR

namespace LP
open PySem PySem.Spec L2
set_option autoImplicit false
noncomputable section
section
variable {X : Cx} {g : Gx} {W : WX}
/-! list(reversed(xs)) -/
def nRev (f : DEnv → M D) : DEnv → M (List D) := fun ρ => do
  let x ← f ρ
  let xs ← listOf x
  pure xs.reverse
theorem n_rev {e : Expr} {f : DEnv → M D} (h : PE X e (fun σ H Q => TrE g W f σ H fun x H1 => ∃ a xs, x = .ref a ∧ SqL X.K H1 a xs ∧ ∀ l, H1 l = none → Q (.ref l) (upd H1 l (.lst xs.reverse)))) : PE X e (TrN g W (nRev f)) := by
  refine PE.wk h fun σ H Q ⟨ρ, S, m, e, s, c⟩ => ?_
  refine ⟨ρ, S, m, e, s, (Cont.bind (P := fun m H => Rep m H) c).imp fun v H1 ⟨x, S1, m1, e1, s1, r1, c1⟩ => ?_⟩
  obtain ⟨xs, a, vs, rfl, hs, z, rv, c2⟩ := Cont.list s1 r1 c1
  exact ⟨a, vs, rfl, rdL hs, fun l hn => ContN.ok c2 s1 rv.reverse (by rw [List.length_reverse]; exact z) hn⟩
end
end
end LP

set_option Elab.async false
set_option linter.all false
set_option maxRecDepth 100000
set_option maxHeartbeats 4000000
namespace LR
open PySem PySem.Spec PyProof.Rows L2 PySem.W
set_option autoImplicit false
theorem pre_sum (val : Nat → Int) : ∀ (n : Nat), preSum val n = ((List.range n).map val).sum
  | 0 => rfl
  | n + 1 => by
    rw [List.range_succ, List.map_append, List.sum_append]
    show preSum val n + val n = _
    rw [pre_sum val n]
    simp
theorem ints_at {ns : List Int} {its : List Value} (r : Vals (ns.map V.int) its) : ∀ (i : Nat) (v : Value), its.toArray[i]? = some v → ∃ t, v = .int (ns.getD i 0) t := by
  intro i v h
  rw [List.getElem?_toArray] at h
  have hl : i < its.length := (List.getElem?_eq_some_iff.mp h).1
  have hl2 : i < ns.length := by have := r.length; rw [List.length_map] at this; omega
  obtain ⟨u, hu, ru⟩ := r.get (i := i) (x := .int ns[i]) (by rw [List.getElem?_map, List.getElem?_eq_getElem hl2]; rfl)
  rw [h] at hu
  cases hu
  obtain ⟨t, rfl⟩ := ru
  exact ⟨t, by rw [List.getD_eq_getElem?_getD, List.getElem?_eq_getElem hl2]; rfl⟩
/-- sum(t), t a tuple of whole numbers -/
theorem cr_sumT {X : Cx} (hc : X.calm = true) : CallR X (.builtin "sum") (fun vs H Q => ∃ (a : Addr) (ns : List Int), vs = [.ref a] ∧ SqT X.K H a (ns.map V.int) ∧ Q (.int ns.sum) H) := by
  intro pins s σ H vs us Q I r h
  obtain ⟨a, ns, rfl, hq, hQ⟩ := h
  obtain ⟨u, rfl, ru⟩ := r.one
  cases ru
  obtain ⟨its, rv, pl, hz⟩ := I.tuple hq
  have la : a < s.heap.objs.size := by obtain ⟨o, g, _⟩ := id pl; exact Heap.lt_size g
  have hn : X.A.in1.handled = none := by simp [I.ok.hd hc]
  have W := Walks.tuple (prog := X.prog) (w := X.w) (A := X.A.in1) hn s.heap.objs.size a (Nat.ne_of_lt la) its.toArray
  refine call_sum_walkG (wpAny_pyIter_tuple pl ⟨s.heap.objs.size, _, _, its.toArray.size, _, _, fun i => ns.getD i 0, rfl, W, ?_, ?_, ?_, ?_⟩)
  · exact ⟨⟨_, Heap.get?_push_size _ rfl, rfl, rfl⟩, pl.push _⟩
  · intro b hb
    show b < (s.heap.push _).objs.size
    rw [Heap.size_push]
    have : b = s.heap.objs.size ∨ b = a := by simpa using hb
    rcases this with q | q
    · exact q ▸ Nat.lt_succ_self _
    · exact q ▸ Nat.lt_succ_of_lt la
  · exact ints_at rv
  · intro h' tk t' k
    have e : preSum (fun i => ns.getD i 0) its.toArray.size = ns.sum := by
      rw [pre_sum, List.size_toArray, ← rv.length, List.length_map]
      congr 1
      apply List.ext_getElem?
      intro i
      rw [List.getElem?_map]
      by_cases q : i < ns.length
      · rw [List.getElem?_range q, List.getElem?_eq_getElem q]
        simp [List.getD_eq_getElem?_getD, List.getElem?_eq_getElem q]
      · rw [List.getElem?_eq_none (by simpa using Nat.le_of_not_lt q), List.getElem?_eq_none (Nat.le_of_not_lt q)]
        rfl
    rw [e]
    refine ⟨.int ns.sum, H, I.kept (t' := tk) fun b u q => k b u (fun z => ?_) (Heap.get?_push_of_some _ q), ⟨t', rfl⟩, hQ⟩
    exact Nat.lt_irrefl _ ((List.mem_singleton.mp z) ▸ Heap.lt_size q)
end LR
namespace LP
open PySem PySem.Spec L2
set_option autoImplicit false
noncomputable section
section
variable {X : Cx} {g : Gx} {W : WX}
/-- the sum of a tuple -/
def sumTD (d : D) : M D := match d with
  | .tup xs => match intsOf xs with
    | some ns => pure (.int ns.sum)
    | none => M.fail
  | _ => M.fail
theorem ci_sumT : CallI g W (on1 sumTD) (fun vs H Q => ∃ (a : Addr) (ns : List Int), vs = [.ref a] ∧ SqT X.K H a (ns.map V.int) ∧ Q (.int ns.sum) H) := ci1 fun σ m H S d v Q s r c => by
  cases r with
  | tup h z rs =>
    rename_i a xs vs
    have c : Cont g W σ (fun m H => Rep m H) m H ((match intsOf xs with
      | some ns => (pure (.int ns.sum) : M D)
      | none => M.fail) S) Q := c
    cases q : intsOf xs with
    | none => rw [q] at c; exact c.elim
    | some ns =>
      rw [q] at c
      exact ⟨a, ns, rfl, intsOf_rep q h rs, Cont.ok c s .int⟩
  | _ => exact c.elim
theorem sb_sumT {e : Expr} {p pos : Pos} {f : DEnv → M D} (hc : X.calm = true) (B : Bn X.mg) (h : PE X e (TrE g W f)) (hg : Gl X "sum" := by rfl) (he : starEach [e] X.env = (false, eval e X.env) :: starEach [] X.env := by rfl) (hpl : (backTo pos (starEach [] X.env)).any (·.1) = false := by rfl) : PE X (.Call (.Name "sum" p) [e] [] pos) (TrE g W (eCall (on1 sumTD) (aCons f aNil))) :=
  s_blt ci_sumT (pe_callB (LR.cr_sumT hc) hg B.sum PyProof.Rows.boot_sum (a_cons h a_nil he) (by decide) (by decide) he hpl)
end
end
end LP

set_option Elab.async false
set_option linter.all false
set_option maxRecDepth 100000
set_option maxHeartbeats 4000000
namespace LS
open PySem PySem.Spec PyProof.Rows L2 PySem.W
set_option autoImplicit false
theorem plainInit : plainId "set.__init__" = true := by decide +kernel
theorem notDict : (Value.type "list" == Value.type "dict") = false := by decide +kernel
section
variable {P : Program} {w : World} {A : Around} {E : Value → Shared → Prop} {s : Shared}
theorem init_list {S l : Addr} {items : Array Value} (ns : List Int) {R : Result → Shared → Prop} (hh : A.handled = none) (hl : s.heap.IsList l items) (hi : ∀ (i : Nat) (v : Value), items[i]? = some v → ∃ k t, ns[i]? = some k ∧ v = .int k t) (hn : items.size = ns.length) (hb : ns.length + 1 < scanBound)
    (hS : s.heap.get? S = some { cls := .type "set", dict := none, data := .set #[] 0 (.fresh 0 0 (!w.params.followText "set-order")) })
    (hR : ∀ h' tk c, (∀ b o, b ≠ S → s.heap.get? b = some o → h'.get? b = some o) → SetR w h' S (fun j => decide (j ∈ ns)) c → c ≤ ns.length → R (.ok (.ret .none)) { s with heap := h', toks := tk }) :
    codeAny (model P w) A (.call (.builtin "set.__init__") ⟨[.ref S, .ref l], []⟩) R s := by
  have ht : s.TypeIs (.ref S) "set" := ⟨_, hS, rfl⟩
  have hlt := hl.typeIs
  have f1 := PySem.F.sub_list_set
  have f2 := PySem.F.sub_list_frozenset
  have la : l < s.heap.objs.size := by obtain ⟨o, g, _⟩ := id hl; exact Heap.lt_size g
  have ls : S < s.heap.objs.size := Heap.lt_size hS
  refine codeAny_of_tree ?_
  show wpAny (model P w) _ (do checkBuiltinCall "set.__init__" ⟨[.ref S, .ref l], []⟩; again (.builtin "set.__init__" ⟨[.ref S, .ref l], []⟩)) _ _ _
  refine wpAny_bind (check_set_init_1 ht (wpAny_pure ⟨plainId_quiet plainInit ⟨[.ref S, .ref l], []⟩, codeAny_builtin PySem.F.entry_set_init ?_⟩))
  rw [Around.under_plainId plainInit]
  unfold Builtin.«set.__init__» Builtin.Frozenset.updateFrom
  generalize hPI : pyIter = PI
  wp_walk
  subst hPI
  have W := Walks.list (prog := P) (w := w) (A := A.in1.in1) (by simpa using hh) s.heap.objs.size l (Nat.ne_of_lt la) items
  have kept : ∀ b o, s.heap.get? b = some o → (s.heap.push { cls := .type "list_iterator", data := .fields #[.ref l, .int 0 0] }).get? b = some o := fun b o e => Heap.get?_push_of_some _ e
  refine wpAny_pyIter_list hl (wpAny_bind (wpAny_runValue ?_))
  have out : S ∉ [s.heap.objs.size, l] := fun z => by
    rcases List.mem_cons.mp z with z | z
    · exact Nat.lt_irrefl _ (z ▸ ls)
    · rw [List.mem_singleton.mp z] at hS
      obtain ⟨o, g, q, _⟩ := id hl
      rw [g] at hS
      rw [Option.some.inj hS] at q
      exact absurd (show Value.type "set" = Value.type "list" from q) (by decide)
  refine set_update_ints W.toS S out ns hn hb hi items.size 0 { s with heap := s.heap.push { cls := .type "list_iterator", data := .fields #[.ref l, .int 0 0] } } (Nat.sub_zero _) (Nat.zero_le _) ⟨⟨_, Heap.get?_push_size _ rfl, rfl, rfl⟩, hl.push _⟩ ⟨0, Nat.le_refl _, setR_new_at (kept S _ hS)⟩ ?_
  rintro ⟨h', gs, dr, tk, os⟩ c ⟨m1, m2, m3, m4, m5⟩ hc hs
  dsimp only at m2 m3 m4
  subst m2 m3 m4
  refine wpAny_pure (wpAny_pure ?_)
  refine hR h' tk c (fun b o nb e => m1 b o (fun z => ?_) (kept b o e)) hs (hn ▸ hc)
  rcases List.mem_cons.mp z with z | z
  · exact nb z
  · exact Nat.lt_irrefl _ ((List.mem_singleton.mp z) ▸ Heap.lt_size e)
theorem new_set {l : Addr} {items : Array Value} (ns : List Int) {Q : Value → Shared → Prop} (hh : A.handled = none) (hl : s.heap.IsList l items) (hi : ∀ (i : Nat) (v : Value), items[i]? = some v → ∃ k t, ns[i]? = some k ∧ v = .int k t) (hn : items.size = ns.length) (hb : ns.length + 1 < scanBound)
    (hQ : ∀ h' tk c, (∀ b o, s.heap.get? b = some o → h'.get? b = some o) → SetR w h' s.heap.objs.size (fun j => decide (j ∈ ns)) c → c ≤ ns.length → Q (.ref s.heap.objs.size) { s with heap := h', toks := tk }) : wpAny (model P w) A (call (.type "set") [.ref l]) Q E s := by
  obtain ⟨n1, n2, ⟨c0, tl, n3⟩, n4, n5, n6, n7⟩ := PySem.F.called_set
  refine wpAny_call (codeAny_of_tree ?_)
  show wpAny (model P w) _ (callAny (.type "set") _) _ _ s
  wp_walk
  refine ⟨Code.quiet_builtin ⟨.type "set" :: [.ref l], []⟩ (by decide +kernel), codeAny_builtin PySem.F.entry_type_call ?_⟩
  rw [Around.under_plain (weight_type_call_type "set" [.ref l] []) rfl]
  wp_walk
  refine codeAny_mono (code_set_led1 (.ref l) (E := fun _ _ => False) (Q₁ := fun v t => v = .ref s.heap.objs.size ∧ t = { s with heap := s.heap.push { cls := .type "set", dict := none, data := .set #[] 0 (.fresh 0 0 (!w.params.followText "set-order")) } }) ⟨rfl, rfl⟩) fun r s' hr => ?_
  match r, hr with
  | .ok (.ret v), hr =>
    obtain ⟨rfl, rfl⟩ := hr
    have hg : (s.heap.push { cls := .type "set", dict := none, data := .set #[] 0 (.fresh 0 0 (!w.params.followText "set-order")) }).get? s.heap.objs.size = some { cls := .type "set", dict := none, data := .set #[] 0 (.fresh 0 0 (!w.params.followText "set-order")) } := Heap.get?_push_size _ rfl
    have ht : Shared.TypeIs { s with heap := s.heap.push { cls := .type "set", dict := none, data := .set #[] 0 (.fresh 0 0 (!w.params.followText "set-order")) } } (.ref s.heap.objs.size) "set" := ⟨_, hg, rfl⟩
    have hk := n7.lookup
    have hb' := n7.bind (.ref s.heap.objs.size)
    dsimp only
    wp_walk
    refine init_list (s := { s with heap := s.heap.push { cls := .type "set", dict := none, data := .set #[] 0 (.fresh 0 0 (!w.params.followText "set-order")) } }) ns (by simpa using hh) (hl.push _) hi hn hb hg fun h' tk c up hs hc => ?_
    have old : ∀ b o, s.heap.get? b = some o → h'.get? b = some o := fun b o e => up b o (Nat.ne_of_lt (Heap.lt_size e)) (Heap.get?_push_of_some _ e)
    have fin := hQ h' tk c old hs hc
    dsimp only
    wp_walk
    exact fin
  | .error e, hr => exact hr.elim
  | .ok .next, hr => exact hr.elim
end
end LS

set_option Elab.async false
set_option linter.all false
set_option maxRecDepth 100000
set_option maxHeartbeats 4000000
namespace LS
open PySem PySem.Spec PyProof.Rows L2 PySem.W
set_option autoImplicit false
theorem set_at {ns : List Int} {its : List Value} (r : Vals (ns.map V.int) its) : ∀ (i : Nat) (v : Value), its.toArray[i]? = some v → ∃ k t, ns[i]? = some k ∧ v = .int k t := by
  intro i v h
  rw [List.getElem?_toArray] at h
  have hl := (List.getElem?_eq_some_iff.mp h).1
  have hl2 : i < ns.length := by have := r.length; rw [List.length_map] at this; omega
  obtain ⟨u, hu, ru⟩ := r.get (i := i) (x := .int ns[i]) (by rw [List.getElem?_map, List.getElem?_eq_getElem hl2]; rfl)
  rw [h] at hu
  cases hu
  obtain ⟨t, rfl⟩ := ru
  exact ⟨_, t, List.getElem?_eq_getElem hl2, rfl⟩
theorem cr_setL {X : Cx} (hc : X.calm = true) : CallR X (.type "set") (fun vs H Q => ∃ (a : Addr) (ns : List Int), vs = [.ref a] ∧ SqL X.K H a (ns.map V.int) ∧ ns.length < 64 ∧ ∀ p c, H p = none → c ≤ ns.length → Q (.ref p) (upd H p (SetO X.w p (fun j => decide (j ∈ ns)) c))) := by
  intro pins s σ H vs us Q I r h
  obtain ⟨a, ns, rfl, hq, hl, hQ⟩ := h
  obtain ⟨u, rfl, ru⟩ := r.one
  cases ru
  obtain ⟨its, rv, ⟨o, n, g, c1, c2, c3⟩, hz⟩ := I.list hq
  have hlen : its.toArray.size = ns.length := by rw [List.size_toArray, ← rv.length, List.length_map]
  refine new_set ns (I.ok.hd hc) ⟨o, g, c1, n, c3⟩ (set_at rv) hlen (by unfold scanBound; omega) fun h' tk c up hs hle => ?_
  exact ⟨.ref s.heap.objs.size, _, I.laid (t' := tk) up (Nat.le_refl _) (setO_new hs), rfl, hQ _ c (I.hok.fresh (Nat.le_refl _)) hle⟩
end LS
namespace LP
open PySem PySem.Spec L2
set_option autoImplicit false
noncomputable section
/-! ### sorted(set(xs)) -/
/-- of a sorted list each but once -/
def dedS : List Int → List Int
  | [] => []
  | x :: r => match dedS r with
    | [] => [x]
    | y :: r' => if x = y then y :: r' else x :: y :: r'
theorem dedS_mem {k : Int} : ∀ {xs : List Int}, k ∈ dedS xs ↔ k ∈ xs
  | [] => Iff.rfl
  | x :: r => by
    have ih := dedS_mem (k := k) (xs := r)
    rw [dedS]
    cases q : dedS r with
    | nil =>
      rw [q] at ih
      have hr : ¬ k ∈ r := fun h => List.not_mem_nil (ih.mpr h)
      simp [hr]
    | cons y r' =>
      rw [q] at ih
      dsimp only
      by_cases h : x = y
      · rw [if_pos h, List.mem_cons (l := r), ← ih]
        subst h
        simp
      · rw [if_neg h, List.mem_cons (l := r), ← ih]
        simp
theorem dedS_lt : ∀ {xs : List Int}, xs.Pairwise (· ≤ ·) → (dedS xs).Pairwise (· < ·)
  | [], _ => List.Pairwise.nil
  | x :: r, h => by
    rw [List.pairwise_cons] at h
    have ih := dedS_lt h.2
    rw [dedS]
    cases q : dedS r with
    | nil => simp
    | cons y r' =>
      rw [q] at ih
      dsimp only
      by_cases e : x = y
      · rw [if_pos e]; exact ih
      · rw [if_neg e, List.pairwise_cons]
        refine ⟨fun z hz => ?_, ih⟩
        have hx : ∀ z ∈ y :: r', x ≤ z := fun z hz => h.1 z (dedS_mem.mp (by rw [q]; exact hz))
        have h1 := hx y List.mem_cons_self
        rcases List.mem_cons.mp hz with rfl | hz
        · omega
        · have := (List.pairwise_cons.mp ih).1 z hz
          omega
def sortS (ns : List Int) : List Int := dedS (sortI ns)
theorem sortS_mem {k : Int} {ns : List Int} : k ∈ sortS ns ↔ k ∈ ns := dedS_mem.trans (sortI_perm ns).mem_iff
theorem sortS_lt (ns : List Int) : (sortS ns).Pairwise (· < ·) := dedS_lt (sortI_le ns)
theorem lt_unique : ∀ {xs ys : List Int}, xs.Pairwise (· < ·) → ys.Pairwise (· < ·) → (∀ k, k ∈ xs ↔ k ∈ ys) → xs = ys
  | [], [], _, _, _ => rfl
  | [], y :: ys, _, _, h => absurd ((h y).mpr List.mem_cons_self) List.not_mem_nil
  | x :: xs, [], _, _, h => absurd ((h x).mp List.mem_cons_self) List.not_mem_nil
  | x :: xs, y :: ys, h1, h2, h => by
    rw [List.pairwise_cons] at h1 h2
    have e : x = y := by
      rcases List.mem_cons.mp ((h x).mp List.mem_cons_self) with a | a
      · exact a
      · rcases List.mem_cons.mp ((h y).mpr List.mem_cons_self) with b | b
        · exact b.symm
        · have := h2.1 x a; have := h1.1 y b; omega
    subst e
    congr 1
    refine lt_unique h1.2 h2.2 fun k => ⟨fun m => ?_, fun m => ?_⟩
    · rcases List.mem_cons.mp ((h k).mp (List.mem_cons_of_mem _ m)) with a | a
      · have := h1.1 k m; omega
      · exact a
    · rcases List.mem_cons.mp ((h k).mpr (List.mem_cons_of_mem _ m)) with a | a
      · have := h2.1 k m; omega
      · exact a
def nSS (f : DEnv → M D) : DEnv → M (List D) := fun ρ => do
  let x ← f ρ
  let xs ← listOf x
  match intsOf xs with
  | some ns => M.want (ns.length < 64) (pure ((sortS ns).map D.int))
  | none => M.fail
section
variable {X : Cx} {g : Gx} {W : WX}
theorem dedS_len : ∀ (xs : List Int), (dedS xs).length ≤ xs.length
  | [] => Nat.le_refl _
  | x :: r => by
    have ih := dedS_len r
    rw [dedS]
    cases q : dedS r with
    | nil => simp
    | cons y r' =>
      rw [q] at ih
      dsimp only
      split
      · rw [List.length_cons (a := x)]; omega
      · simp only [List.length_cons] at ih ⊢; omega
theorem n_sortedSet {e : Expr} {p p2 pos pos2 : Pos} {f : DEnv → M D} (hc : X.calm = true) (B : Bn X.mg) (h : PE X e (TrE g W f)) (hg : Gl X "sorted" := by rfl) (hg2 : Gl X "set" := by rfl) (he : starEach [e] X.env = (false, eval e X.env) :: starEach [] X.env := by rfl) (hpl : (backTo pos2 (starEach [] X.env)).any (·.1) = false := by rfl)
    (he2 : starEach [Expr.Call (.Name "set" p2) [e] [] pos2] X.env = (false, eval (.Call (.Name "set" p2) [e] [] pos2) X.env) :: starEach [] X.env := by rfl) (hpl2 : (backTo pos (starEach [] X.env)).any (·.1) = false := by rfl) :
    PE X (.Call (.Name "sorted" p) [.Call (.Name "set" p2) [e] [] pos2] [] pos) (TrN g W (nSS f)) := by
  refine PE.wk (pe_callB (cr_sortedSet hc) hg B.sorted PyProof.Rows.boot_sorted (pa_cons (pe_callTy (LS.cr_setL hc) hg2 B.set PyProof.Rows.boot_set (pa_cons h pa_nil he) (by decide) (by decide) he hpl) pa_nil he2) (by decide) (by decide) he2 hpl2) fun σ H Q ⟨ρ, S, m, e, s, c⟩ => ?_
  refine ⟨ρ, S, m, e, s, (Cont.bind (P := fun m H => Rep m H) c).imp fun v H1 ⟨x, S1, m1, e1, s1, r1, c1⟩ => ?_⟩
  obtain ⟨xs, a, vs, rfl, hs, z, rv, c2⟩ := Cont.list s1 r1 c1
  cases q : intsOf xs with
  | none => rw [q] at c2; exact c2.elim
  | some ns =>
    rw [q] at c2
    obtain ⟨hl, c2⟩ := Cont.want c2
    rw [intsOf_some q] at rv
    have := rv.ints
    subst this
    refine ⟨a, ns, rfl, rdL hs, hl, fun p0 k hp hk => ⟨p0, _, k, rfl, upd_same, by omega, fun ys p1 h1 h2 h3 h4 => ?_⟩⟩
    have ey : ys = sortS ns := lt_unique h1 (sortS_lt ns) fun j => by rw [h2 j, sortS_mem]; simp
    subst ey
    have E : Ext m1 H1 m1 (upd H1 p0 (SetO X.w p0 (fun j => decide (j ∈ ns)) k)) := Ext.tmp hp
    exact ContN.ok (Cont.mono c2 E) (s1.tmp hp) (.of_ints _) (by rw [List.length_map, h3, sizeLine_eq]; omega) h4
end
end
end LP

set_option Elab.async false
set_option linter.all false
set_option maxRecDepth 100000
set_option maxHeartbeats 2000000
namespace LP
open PySem PySem.Spec L2
set_option autoImplicit false
noncomputable section
/-! ### reckoning with the evaluator -/
section
variable {α β γ : Type}
def R.go (r : R α) (k : α → M β) : R β := match r with
  | .ok a S => k a S
  | .ex x S => .ex x S
  | .bad => .bad
theorem go_ok {a : α} {S : Store} {k : α → M β} : (R.ok a S).go k = k a S := rfl
theorem go_bad {k : α → M β} : (R.bad : R α).go k = .bad := rfl
theorem ev_bind {f : M α} {k : α → M β} {S : Store} : (f >>= k) S = (f S).go k := by
  show M.bind f k S = _
  unfold M.bind R.go
  cases f S <;> rfl
theorem ev_pure {a : α} {S : Store} : (pure a : M α) S = .ok a S := rfl
theorem ev_fail {S : Store} : (M.fail : M α) S = .bad := rfl
theorem ev_want {p : Prop} {f : M α} {S : Store} (h : p) : M.want p f S = f S := by unfold M.want; rw [if_pos h]
theorem ev_noex {f : M α} {S : Store} : M.noex f S = match f S with
  | .ok a S' => .ok a S'
  | _ => .bad := rfl
theorem ev_ite {c : Prop} [Decidable c] {f g : M α} {S : Store} : (if c then f else g) S = if c then f S else g S := by split <;> rfl
end
/-! data without things of the store -/
mutual
theorem frz_self : ∀ {d : D}, old 0 d = true → ∀ (S : Store) (b k : Nat), frz S b k d = d
  | d, _, _, _, 0 => by rw [frz]
  | .non, _, _, _, _ + 1 => by rw [frz] <;> simp
  | .bl _, _, _, _, _ + 1 => by rw [frz] <;> simp
  | .int _, _, _, _, _ + 1 => by rw [frz] <;> simp
  | .str _, _, _, _, _ + 1 => by rw [frz] <;> simp
  | .tup xs, h, S, b, k + 1 => by rw [frz]; rw [old] at h; rw [frzs_self h]
  | .lst xs, h, S, b, k + 1 => by rw [frz]; rw [old] at h; rw [frzs_self h]
  | .dk xs, h, S, b, k + 1 => by rw [frz]; rw [old] at h; rw [frzk_self h]
  | .dt xs, h, S, b, k + 1 => by rw [frz]; rw [old] at h; rw [frzt_self h]
  | .loc n, h, _, _, _ + 1 => by rw [old] at h; exact absurd (of_decide_eq_true h) (Nat.not_lt_zero _)
theorem frzs_self : ∀ {ds : List D}, olds 0 ds = true → ∀ {S : Store} {b k : Nat}, ds.map (frz S b k) = ds
  | [], _, _, _, _ => rfl
  | d :: ds, h, S, b, k => by
    rw [olds, Bool.and_eq_true] at h
    rw [List.map_cons, frz_self h.1, frzs_self h.2]
theorem frzk_self : ∀ {ds : List (Key × D)}, oldk 0 ds = true → ∀ {S : Store} {b k : Nat}, (ds.map fun p => (p.1, frz S b k p.2)) = ds
  | [], _, _, _, _ => rfl
  | (a, d) :: ds, h, S, b, k => by
    rw [oldk, Bool.and_eq_true] at h
    rw [List.map_cons, frz_self h.1, frzk_self h.2]
theorem frzt_self : ∀ {ds : List (List Key × D)}, oldt 0 ds = true → ∀ {S : Store} {b k : Nat}, (ds.map fun p => (p.1, frz S b k p.2)) = ds
  | [], _, _, _, _ => rfl
  | (a, d) :: ds, h, S, b, k => by
    rw [oldt, Bool.and_eq_true] at h
    rw [List.map_cons, frz_self h.1, frzt_self h.2]
end
mutual
theorem old_up : ∀ {d : D}, old 0 d = true → ∀ (b : Nat), old b d = true
  | .non, _, _ => by rw [old]
  | .bl _, _, _ => by rw [old]
  | .int _, _, _ => by rw [old]
  | .str _, _, _ => by rw [old]
  | .tup xs, h, b => by rw [old] at h ⊢; exact olds_up h b
  | .lst xs, h, b => by rw [old] at h ⊢; exact olds_up h b
  | .dk xs, h, b => by rw [old] at h ⊢; exact oldk_up h b
  | .dt xs, h, b => by rw [old] at h ⊢; exact oldt_up h b
  | .loc n, h, _ => by rw [old] at h; exact absurd (of_decide_eq_true h) (Nat.not_lt_zero _)
theorem olds_up : ∀ {ds : List D}, olds 0 ds = true → ∀ (b : Nat), olds b ds = true
  | [], _, _ => by rw [olds]
  | d :: ds, h, b => by
    rw [olds, Bool.and_eq_true] at h ⊢
    exact ⟨old_up h.1 b, olds_up h.2 b⟩
theorem oldk_up : ∀ {ds : List (Key × D)}, oldk 0 ds = true → ∀ (b : Nat), oldk b ds = true
  | [], _, _ => by rw [oldk]
  | (a, d) :: ds, h, b => by
    rw [oldk, Bool.and_eq_true] at h ⊢
    exact ⟨old_up h.1 b, oldk_up h.2 b⟩
theorem oldt_up : ∀ {ds : List (List Key × D)}, oldt 0 ds = true → ∀ (b : Nat), oldt b ds = true
  | [], _, _ => by rw [oldt]
  | (a, d) :: ds, h, b => by
    rw [oldt, Bool.and_eq_true] at h ⊢
    exact ⟨old_up h.1 b, oldt_up h.2 b⟩
end
theorem olds_all {b : Nat} : ∀ {ds : List D}, olds b ds = ds.all (old b)
  | [] => by rw [olds]; rfl
  | d :: ds => by rw [olds, List.all_cons, olds_all]
theorem olds_ints (ns : List Int) (b : Nat) : olds b (ns.map D.int) = true := by
  rw [olds_all]
  simp [old]
theorem clean_self (S T : Store) : clean S (S ++ T) := ⟨by simp, fun i h => .inl (List.getElem?_append_left h)⟩
theorem gcM_up {f : M D} {S T : Store} {d d' : D} (h : f S = .ok d (S ++ T)) (hf : frz (S ++ T) S.length 4 d = d') (ho : old S.length d' = true) : gcM f S = .ok d' S := by
  unfold gcM
  rw [h]
  dsimp only
  rw [hf, if_pos ⟨ho, clean_self S T⟩, List.take_left]
theorem gcM_self {f : M D} {S : Store} {d : D} (h : f S = .ok d S) (ho : old 0 d = true) : gcM f S = .ok d S :=
  gcM_up (T := []) (by rw [List.append_nil]; exact h) (by rw [List.append_nil]; exact frz_self ho _ _ _) (old_up ho _)
/-- a def's start -/
def env0 (n : Nat) (ds : List D) : DEnv := ds.map some ++ List.replicate (n - ds.length) none
def outF (r : R Fl) : R D := r.go fun r => match r with
  | .nx _ => pure .non
  | .rt d => pure d
theorem ev_body0 {n : Nat} {b : ST} {ds : List D} {S : Store} : body0 n b ds S = outF (b (env0 n ds) S) := by
  unfold body0 outF env0
  refine Eq.trans ev_bind ?_
  cases b (ds.map some ++ List.replicate (n - ds.length) none) S with
  | ok a S' => cases a <;> rfl
  | _ => rfl
theorem gcF_up {n : Nat} {b : ST} {ds : List D} {S T : Store} {d d' : D} (h : b (env0 n ds) S = .ok (.rt d) (S ++ T)) (hf : frz (S ++ T) S.length 4 d = d') (ho : old S.length d' = true) : gcF n b ds S = .ok d' S :=
  gcM_up (T := T) (by rw [ev_body0, h]; rfl) hf ho
theorem gcF_self {n : Nat} {b : ST} {ds : List D} {S : Store} {d : D} (h : b (env0 n ds) S = .ok (.rt d) S) (ho : old 0 d = true) : gcF n b ds S = .ok d S :=
  gcM_self (by rw [ev_body0, h]; rfl) ho
/-! loops -/
theorem when_ok {α : Type} {gd : Store → Prop} {f : M α} {S : Store} (h : gd S) : M.whenS gd f S = f S := if_pos h
theorem forL_nil {gd : Store → Prop} {tg : GX} {kill : List Nat} {body : ST} {ρ : DEnv} {S : Store} (h : gd S) : forL gd tg kill body [] ρ S = .ok (.nx ρ) S := when_ok h
theorem forL_cons {gd : Store → Prop} {tg : GX} {kill : List Nat} {body : ST} {x : D} {xs : List D} {ρ ρ1 : DEnv} {S : Store} (h : gd S) (h1 : tg x ρ = some ρ1) : forL gd tg kill body (x :: xs) ρ S = (body ρ1 S).go fun r => match r with
    | .nx ρ2 => forL gd tg kill body xs (dropE ρ2 kill)
    | .rt d => pure (.rt d) := by
  refine (when_ok h).trans ?_
  rw [h1]
  show ((body ρ1 >>= _) S) = _
  refine Eq.trans ev_bind ?_
  cases body ρ1 S with
  | ok a S' => cases a <;> rfl
  | _ => rfl
theorem compL_nil {gd : Store → Prop} {tg : GX} {tt : DEnv → M Bool} {el : DEnv → M D} {ρ : DEnv} {S : Store} (h : gd S) : compL gd tg tt el ρ [] S = .ok [] S := when_ok h
theorem compL_cons {gd : Store → Prop} {tg : GX} {tt : DEnv → M Bool} {el : DEnv → M D} {x : D} {xs : List D} {ρ ρ1 : DEnv} {S S1 : Store} {b : Bool} (h : gd S) (h1 : tg x ρ = some ρ1) (h2 : tt ρ1 S = .ok b S1) : compL gd tg tt el ρ (x :: xs) S = if b = true then (M.noex (el ρ1) S1).go (fun y => do let ys ← compL gd tg tt el ρ xs; pure (y :: ys)) else compL gd tg tt el ρ xs S1 := by
  refine (when_ok h).trans ?_
  rw [h1]
  show ((M.noex (tt ρ1) >>= _) S) = _
  rw [ev_bind, ev_noex, h2]
  dsimp only [R.go]
  cases b with
  | true =>
    rw [if_pos rfl, if_pos rfl, ev_bind]
    rfl
  | false => rw [if_neg (by simp), if_neg (by simp)]
theorem forL_run {gd : Store → Prop} {tg : GX} {kill : List Nat} {body : ST} (I : Nat → DEnv → Store → Prop) : ∀ (xs : List D) (k : Nat) (ρ : DEnv) (S : Store), I k ρ S →
    (∀ i x ρ S, xs[i]? = some x → I (k + i) ρ S → gd S ∧ ∃ ρ1 ρ2 S', tg x ρ = some ρ1 ∧ body ρ1 S = .ok (.nx ρ2) S' ∧ I (k + i + 1) (dropE ρ2 kill) S') → (∀ ρ S, I (k + xs.length) ρ S → gd S) →
    ∃ ρ' S', forL gd tg kill body xs ρ S = .ok (.nx ρ') S' ∧ I (k + xs.length) ρ' S'
  | [], k, ρ, S, h, _, hg => ⟨ρ, S, forL_nil (hg ρ S h), h⟩
  | x :: xs, k, ρ, S, h, hs, hg => by
    obtain ⟨g, ρ1, ρ2, S', h1, h2, h3⟩ := hs 0 x ρ S rfl h
    obtain ⟨ρ', S'', h4, h5⟩ := forL_run I xs (k + 1) (dropE ρ2 kill) S' h3 (fun i y ρ S e hi => by
      have := hs (i + 1) y ρ S e (by rw [show k + (i + 1) = k + 1 + i by omega]; exact hi)
      rw [show k + (i + 1) = k + 1 + i by omega] at this
      exact this) (fun ρ S hi => hg ρ S (by rw [List.length_cons, show k + (xs.length + 1) = k + 1 + xs.length by omega]; exact hi))
    refine ⟨ρ', S'', ?_, by rw [List.length_cons, show k + (xs.length + 1) = k + 1 + xs.length by omega]; exact h5⟩
    rw [forL_cons g h1, h2]
    exact h4
/-- a loop that looks for a reason to leave, and changes nothing -/
theorem forL_find {gd : Store → Prop} {tg : GX} {kill : List Nat} {body : ST} {ρ : DEnv} {S : Store} {r : D} (P : D → Bool) (hg : gd S) : ∀ (xs : List D),
    (∀ x ∈ xs, ∃ ρ1, tg x ρ = some ρ1 ∧ if P x = true then body ρ1 S = .ok (.rt r) S else ∃ ρ2, body ρ1 S = .ok (.nx ρ2) S ∧ dropE ρ2 kill = ρ) →
    forL gd tg kill body xs ρ S = if xs.any P = true then .ok (.rt r) S else .ok (.nx ρ) S
  | [], _ => forL_nil hg
  | x :: xs, h => by
    obtain ⟨ρ1, h1, h2⟩ := h x List.mem_cons_self
    rw [forL_cons hg h1, List.any_cons]
    by_cases hp : P x = true
    · rw [if_pos hp] at h2
      rw [h2, hp, Bool.true_or, if_pos rfl]
      rfl
    · rw [if_neg hp] at h2
      obtain ⟨ρ2, h2, h3⟩ := h2
      rw [h2, Bool.eq_false_iff.mpr hp, Bool.false_or]
      show forL gd tg kill body xs (dropE ρ2 kill) S = _
      rw [h3]
      exact forL_find P hg xs fun y hy => h y (List.mem_cons_of_mem _ hy)
/-- a comprehension that changes nothing -/
theorem compL_ok {gd : Store → Prop} {tg : GX} {tt : DEnv → M Bool} {el : DEnv → M D} {ρ : DEnv} {S : Store} (p : D → Bool) (f : D → D) (hg : gd S) : ∀ (xs : List D),
    (∀ x ∈ xs, ∃ ρ1, tg x ρ = some ρ1 ∧ tt ρ1 S = .ok (p x) S ∧ (p x = true → el ρ1 S = .ok (f x) S)) → compL gd tg tt el ρ xs S = .ok ((xs.filter p).map f) S
  | [], _ => compL_nil hg
  | x :: xs, h => by
    obtain ⟨ρ1, h1, h2, h3⟩ := h x List.mem_cons_self
    have ih := compL_ok p f hg xs fun y hy => h y (List.mem_cons_of_mem _ hy)
    rw [compL_cons hg h1 h2]
    by_cases hp : p x = true
    · rw [if_pos hp, ev_noex, h3 hp, List.filter_cons_of_pos hp]
      dsimp only [R.go]
      rw [ev_bind, ih]
      rfl
    · rw [if_neg hp, List.filter_cons_of_neg hp]
      exact ih
/-- .. without a test -/
theorem compL_map {gd : Store → Prop} {tg : GX} {el : DEnv → M D} {ρ : DEnv} {S : Store} (f : D → D) (hg : gd S) (xs : List D)
    (h : ∀ x ∈ xs, ∃ ρ1, tg x ρ = some ρ1 ∧ el ρ1 S = .ok (f x) S) : compL gd tg tTrue el ρ xs S = .ok (xs.map f) S := by
  have := compL_ok (gd := gd) (tg := tg) (tt := tTrue) (el := el) (ρ := ρ) (fun _ => true) f hg xs fun x hx => by
    obtain ⟨ρ1, h1, h2⟩ := h x hx
    exact ⟨ρ1, h1, rfl, fun _ => h2⟩
  rw [this]
  congr 2
  exact List.filter_eq_self.mpr fun _ _ => rfl
/-! numbers -/
theorem addI {i j : Int} {S : Store} : addD (.int i) (.int j) S = .ok (.int (i + j)) S := rfl
theorem subI {i j : Int} {S : Store} : subD (.int i) (.int j) S = .ok (.int (i - j)) S := rfl
theorem mulI {i j : Int} {S : Store} (h : CMul i j) : mulD (.int i) (.int j) S = .ok (.int (i * j)) S := ev_want h
theorem modI {i j : Int} {S : Store} (h : 0 < j) : modD (.int i) (.int j) S = .ok (.int (i % j)) S := ev_want h
theorem fdivI {i j : Int} {S : Store} (h : CDiv i j) : fdivD (.int i) (.int j) S = .ok (.int (i / j)) S := ev_want h
theorem powI {i j : Int} {S : Store} (h : CPow i j) : powD (.int i) (.int j) S = .ok (.int (i ^ j.toNat)) S := ev_want h
theorem negI {i : Int} {S : Store} : negD (.int i) S = .ok (.int (-i)) S := rfl
theorem ltI {i j : Int} {S : Store} : ltD (.int i) (.int j) S = .ok (.bl (decide (i < j))) S := rfl
theorem leI {i j : Int} {S : Store} : leD2 (.int i) (.int j) S = .ok (.bl (decide (i ≤ j))) S := rfl
theorem gtI {i j : Int} {S : Store} : gtD (.int i) (.int j) S = .ok (.bl (decide (j < i))) S := rfl
theorem geI {i j : Int} {S : Store} : geD (.int i) (.int j) S = .ok (.bl (decide (j ≤ i))) S := rfl
theorem eqI {i j : Int} {S : Store} : eqD (.int i) (.int j) S = .ok (.bl (decide (i = j))) S := rfl
theorem neI {i j : Int} {S : Store} : neD (.int i) (.int j) S = .ok (.bl (!decide (i = j))) S := rfl
theorem boolB {b : Bool} {S : Store} : boolOf (.bl b) S = .ok b S := rfl
/-! items -/
theorem seq_tup {xs : List D} {S : Store} : seqOf (.tup xs) S = .ok xs S := rfl
theorem seq_lst {xs : List D} {S : Store} : seqOf (.lst xs) S = .ok xs S := rfl
theorem seq_loc {n : Nat} {xs : List D} {S : Store} (h : S[n]? = some (.lst xs) ∨ S[n]? = some (.ro xs)) : seqOf (.loc n) S = .ok xs S := by
  show listOf (.loc n) S = _
  unfold listOf
  rcases h with h | h <;> (dsimp only; rw [h])
theorem list_loc {n : Nat} {xs : List D} {S : Store} (h : S[n]? = some (.lst xs) ∨ S[n]? = some (.ro xs)) : listOf (.loc n) S = .ok xs S := by
  unfold listOf
  rcases h with h | h <;> (dsimp only; rw [h])
theorem list_lst {xs : List D} {S : Store} : listOf (.lst xs) S = .ok xs S := rfl
theorem atI_nat' {α : Type} {xs : List α} {k : Int} {j : Nat} (h : k = j) : atI xs k = xs[j]? := by
  subst h
  unfold atI ixN
  rw [if_pos (by omega)]
  by_cases q : (j : Int) < xs.length
  · rw [if_pos q]
    show xs[(j : Int).toNat]? = _
    rw [Int.toNat_natCast]
  · rw [if_neg q]
    show none = _
    rw [List.getElem?_eq_none (by omega)]
theorem idx_ok {x : D} {xs : List D} {k : Int} {d : D} {S : Store} (h : seqOf x S = .ok xs S) (hk : atI xs k = some d) : idxD x (.int k) S = .ok d S := by
  unfold idxD
  dsimp only
  rw [ev_bind, h]
  dsimp only [R.go]
  rw [hk]
  rfl
theorem len_ok {x : D} {xs : List D} {S : Store} (hs : ∀ z, x ≠ .str z) (h : seqOf x S = .ok xs S) : lenD x S = .ok (.int xs.length) S := by
  have e : lenD x = (do let xs ← seqOf x; pure (.int xs.length)) := by
    cases x <;> first | rfl | exact absurd rfl (hs _)
  rw [e, ev_bind, h]
  rfl
end
end LP

set_option Elab.async false
set_option linter.all false
set_option maxRecDepth 100000
set_option maxHeartbeats 2000000
namespace LP
open PySem PySem.Spec L2
set_option autoImplicit false
noncomputable section
/-! ### lists of whole numbers -/
abbrev lI (ns : List Int) : D := .lst (ns.map D.int)
abbrev tI (ns : List Int) : D := .tup (ns.map D.int)
theorem ev_app {α β : Type} {f : M α} {k : α → M β} {a : α} {S S' : Store} (h : f S = .ok a S') : (f >>= k) S = k a S' := by rw [ev_bind, h]; rfl
theorem intsM_ok {x : D} {ns : List Int} {S : Store} (h : seqOf x S = .ok (ns.map D.int) S) : intsM x S = .ok ns S := by
  unfold intsM
  rw [ev_app h, intsOf_map]
  rfl
theorem sum_ok {x : D} {ns : List Int} {S : Store} (h : listOf x S = .ok (ns.map D.int) S) : sumD x S = .ok (.int ns.sum) S := by
  unfold sumD
  rw [ev_app h, intsOf_map]
  rfl
theorem flat_ints (ns : List Int) : (ns.map D.int).all flatD = true := by simp [flatD]
theorem any_ints (ns : List Int) (k : Int) : ((ns.map D.int).any fun z => eqF z (.int k)) = decide (k ∈ ns) := by
  induction ns with
  | nil => simp
  | cons a ns ih =>
    rw [List.map_cons, List.any_cons, ih]
    show (a == k || decide (k ∈ ns)) = _
    by_cases h : a = k
    · subst h; simp
    · have h2 : ¬ k = a := fun e => h e.symm
      simp [h, h2]
theorem in_ok {x : D} {ns : List Int} {k : Int} {S : Store} (h : seqOf x S = .ok (ns.map D.int) S) : inD false (.int k) x S = .ok (.bl (decide (k ∈ ns))) S := by
  unfold inD
  rw [ev_app h, ev_want ⟨rfl, flat_ints ns⟩, any_ints]
  rfl
theorem nin_ok {x : D} {ns : List Int} {k : Int} {S : Store} (h : seqOf x S = .ok (ns.map D.int) S) : inD true (.int k) x S = .ok (.bl (!decide (k ∈ ns))) S := by
  unfold inD
  rw [ev_app h, ev_want ⟨rfl, flat_ints ns⟩, any_ints]
  rfl
theorem pd_ints {S : Store} {k : Nat} : ∀ (ns : List Int), (ns.map D.int).mapM (toPD S (k + 1)) = some (ns.map PyData.int)
  | [] => by simp
  | n :: ns => by
    rw [List.map_cons, List.mapM_cons, pd_ints ns]
    rfl
theorem eqv_ints : ∀ (ns ms : List Int), PyData.eqvAll (ns.map PyData.int) (ms.map PyData.int) = decide (ns = ms)
  | [], [] => rfl
  | [], m :: ms => by simp [PyData.eqvAll]
  | n :: ns, [] => by simp [PyData.eqvAll]
  | n :: ns, m :: ms => by
    rw [List.map_cons, List.map_cons, PyData.eqvAll, eqv_ints ns ms]
    show (n == m && decide (ns = ms)) = _
    rw [Bool.eq_iff_iff]
    simp
theorem eqB_lI (ns ms : List Int) (S : Store) : eqB (lI ns) (lI ms) S = .ok (decide (ns = ms)) S := by
  show eqG (lI ns) (lI ms) S = _
  have h : ∀ ns : List Int, toPD S 12 (lI ns) = some (.list (ns.map PyData.int)) := fun ns => by
    show ((ns.map D.int).mapM (toPD S 11)).map PyData.list = _
    rw [pd_ints]
    rfl
  unfold eqG
  rw [h ns, h ms]
  dsimp only
  rw [if_pos ⟨PySem.W.ke_shaped_ints ns, PySem.W.ke_shaped_ints ms⟩]
  congr 1
  exact eqv_ints ns ms
theorem eq_lI (ns ms : List Int) (S : Store) : eqD (lI ns) (lI ms) S = .ok (.bl (decide (ns = ms))) S := by
  unfold eqD
  rw [ev_app (eqB_lI ns ms S)]
  rfl
theorem ne_lI (ns ms : List Int) (S : Store) : neD (lI ns) (lI ms) S = .ok (.bl (!decide (ns = ms))) S := by
  unfold neD
  rw [ev_app (eqB_lI ns ms S)]
  rfl
theorem tuple_ok {x : D} {xs : List D} {S : Store} (h : seqOf x S = .ok xs S) : tupleD x S = .ok (.tup xs) S := by
  unfold tupleD
  rw [ev_app h]
  rfl
theorem listN_ok {x : D} {xs : List D} {S : Store} (h : seqOf x S = .ok xs S) : listN x S = .ok xs S := h
/-! the store's lists -/
theorem chg_ok {n : Nat} {xs ys : List D} {d : D} {k : List D → Option (D × List D)} {S : Store} (h : S[n]? = some (.lst xs)) (hk : k xs = some (d, ys)) (hl : ys.length ≤ sizeLine) : chg (.loc n) k S = .ok d (S.set n (.lst ys)) := by
  unfold chg
  dsimp only
  rw [h]
  dsimp only
  rw [hk]
  dsimp only
  rw [if_pos hl]
theorem append_ok {n : Nat} {xs : List D} {d : D} {S : Store} (h : S[n]? = some (.lst xs)) (hl : xs.length < sizeLine) : mAppend (.loc n) [d] S = .ok .non (S.set n (.lst (xs ++ [d]))) :=
  chg_ok (ys := xs ++ [d]) (d := .non) (k := fun xs => some (.non, xs ++ [d])) h rfl (by rw [List.length_append]; exact hl)
theorem insert_ok {n j : Nat} {xs : List D} {d : D} {S : Store} (h : S[n]? = some (.lst xs)) (hj : j < 2 ^ 62) (hl : xs.length < 1000) : mInsert (.loc n) [.int (j : Nat), d] S = .ok .non (S.set n (.lst (xs.take j ++ [d] ++ xs.drop j))) := by
  show M.want _ _ S = _
  rw [ev_want ⟨by omega, by omega⟩]
  exact chg_ok (ys := xs.take j ++ [d] ++ xs.drop j) (d := .non) (k := fun xs => some (.non, xs.take ((j : Nat) : Int).toNat ++ [d] ++ xs.drop ((j : Nat) : Int).toNat)) h (by rw [Int.toNat_natCast]) (by simp; rw [sizeLine_eq]; omega)
theorem getLast (S : Store) (o : MO) : (S ++ [o])[S.length]? = some o := by simp
theorem setLast (S : Store) (o o' : MO) : (S ++ [o]).set S.length o' = S ++ [o'] := by simp
theorem sz0 : 0 ≤ sizeLine := by rw [sizeLine_eq]; decide
theorem sz1 : 1 ≤ sizeLine := by rw [sizeLine_eq]; decide
theorem sz2 : 2 ≤ sizeLine := by rw [sizeLine_eq]; decide
theorem sz3 : 3 ≤ sizeLine := by rw [sizeLine_eq]; decide
theorem sz4 : 4 ≤ sizeLine := by rw [sizeLine_eq]; decide
theorem sz5 : 5 ≤ sizeLine := by rw [sizeLine_eq]; decide
theorem sz6 : 6 ≤ sizeLine := by rw [sizeLine_eq]; decide
theorem sz7 : 7 ≤ sizeLine := by rw [sizeLine_eq]; decide
theorem sz8 : 8 ≤ sizeLine := by rw [sizeLine_eq]; decide
theorem sz9 : 9 ≤ sizeLine := by rw [sizeLine_eq]; decide
theorem sz10 : 10 ≤ sizeLine := by rw [sizeLine_eq]; decide
theorem sz11 : 11 ≤ sizeLine := by rw [sizeLine_eq]; decide
theorem sz12 : 12 ≤ sizeLine := by rw [sizeLine_eq]; decide
theorem sz13 : 13 ≤ sizeLine := by rw [sizeLine_eq]; decide
theorem go_go {α β γ : Type} {r : R α} {k : α → M β} {l : β → M γ} : (r.go k).go l = r.go fun a => (k a >>= l) := by
  cases r with
  | ok a S => show (k a S).go l = _; rw [go_ok, ev_bind]
  | _ => rfl
theorem for_go {β : Type} {gd : Store → Prop} {tg : GX} {kill : List Nat} {body : ST} {xs : List D} {ρ : DEnv} {S : Store} {k : Fl → M β} {r : R β} (I : Nat → DEnv → Store → Prop) (h0 : I 0 ρ S)
    (hs : ∀ i x ρ S, xs[i]? = some x → I i ρ S → gd S ∧ ∃ ρ1 ρ2 S', tg x ρ = some ρ1 ∧ body ρ1 S = .ok (.nx ρ2) S' ∧ I (i + 1) (dropE ρ2 kill) S') (hg : ∀ ρ S, I xs.length ρ S → gd S) (hk : ∀ ρ' S', I xs.length ρ' S' → k (.nx ρ') S' = r) : (forL gd tg kill body xs ρ S).go k = r := by
  obtain ⟨ρ', S', e, h⟩ := forL_run I xs 0 ρ S h0 (fun i x ρ S hx hi => by rw [Nat.zero_add] at hi ⊢; exact hs i x ρ S hx hi) (fun ρ S hi => hg ρ S (by rw [Nat.zero_add] at hi; exact hi))
  rw [Nat.zero_add] at h
  rw [e, go_ok]
  exact hk ρ' S' h
theorem find_go {β : Type} {gd : Store → Prop} {tg : GX} {kill : List Nat} {body : ST} {xs : List D} {ρ : DEnv} {S : Store} {k : Fl → M β} {r : R β} (d : D) (P : D → Bool) (hg : gd S)
    (hs : ∀ x ∈ xs, ∃ ρ1, tg x ρ = some ρ1 ∧ if P x = true then body ρ1 S = .ok (.rt d) S else ∃ ρ2, body ρ1 S = .ok (.nx ρ2) S ∧ dropE ρ2 kill = ρ) (h1 : xs.any P = true → k (.rt d) S = r) (h2 : xs.any P = false → k (.nx ρ) S = r) : (forL gd tg kill body xs ρ S).go k = r := by
  rw [forL_find P hg xs hs]
  cases q : xs.any P with
  | true => rw [if_pos rfl, go_ok]; exact h1 q
  | false => rw [if_neg (by simp), go_ok]; exact h2 q
theorem comp_go {β : Type} {gd : Store → Prop} {tg : GX} {tt : DEnv → M Bool} {el : DEnv → M D} {ρ : DEnv} {S : Store} {xs : List D} {k : List D → M β} {r : R β} (p : D → Bool) (f : D → D) (hg : gd S)
    (hs : ∀ x ∈ xs, ∃ ρ1, tg x ρ = some ρ1 ∧ tt ρ1 S = .ok (p x) S ∧ (p x = true → el ρ1 S = .ok (f x) S)) (h : k ((xs.filter p).map f) S = r) : (compL gd tg tt el ρ xs S).go k = r := by
  rw [compL_ok p f hg xs hs, go_ok]
  exact h
/-! ranges -/
theorem rangeD_nat (n : Nat) : rangeD 0 (n : Int) = (List.range n).map fun i => D.int (i : Nat) := by
  unfold rangeD
  rw [Int.toNat_natCast]
  refine List.map_congr_left fun i _ => ?_
  rw [Int.zero_add]
theorem itRg1_ok {f : DEnv → M D} {ρ : DEnv} {S S' : Store} {n : Nat} (h : f ρ S = .ok (.int n) S') (hn : n ≤ sizeLine) : itRg1 f ρ S = .ok (rangeD 0 n, fun _ => True) S' := by
  unfold itRg1
  rw [ev_app h]
  exact ev_want ⟨by omega, by omega⟩
theorem eVar_ok {i : Nat} {ρ : DEnv} {d : D} {S : Store} (h : ρ[i]? = some (some d)) : eVar i ρ S = .ok d S := by
  unfold eVar
  rw [h]
  rfl
end
end LP

set_option Elab.async false
set_option linter.all false
set_option maxRecDepth 100000
set_option maxHeartbeats 4000000
namespace LP
open PySem PySem.Spec L2
set_option autoImplicit false
noncomputable section
/-! ### what sorted(set(xs)) comes to -/
theorem sortS_len (ns : List Int) : (sortS ns).length ≤ ns.length := Nat.le_trans (dedS_len _) (by rw [(sortI_perm ns).length_eq]; exact Nat.le_refl _)
theorem sortS_eq {xs ns : List Int} (h : xs.Pairwise (· < ·)) (m : ∀ k, k ∈ xs ↔ k ∈ ns) : xs = sortS ns := lt_unique h (sortS_lt ns) fun k => (m k).trans sortS_mem.symm
theorem nSS_ok {f : DEnv → M D} {ρ : DEnv} {x : D} {ns : List Int} {S : Store} (h : f ρ S = .ok x S) (hs : listOf x S = .ok (ns.map D.int) S) (hl : ns.length < 64) : nSS f ρ S = .ok ((sortS ns).map D.int) S := by
  simp only [nSS, ev_bind, h, go_ok, hs, intsOf_map, ev_want hl]
  rfl
abbrev sortU := sortS
theorem pw_sortU (ns : List Int) : (sortU ns).Pairwise (· < ·) := sortS_lt ns
theorem sortU_len (ns : List Int) : (sortU ns).length ≤ ns.length := sortS_len ns
theorem sortU_eq {xs ns : List Int} (h : xs.Pairwise (· < ·)) (m : ∀ k, k ∈ xs ↔ k ∈ ns) : xs = sortU ns := sortS_eq h m
end
end LP

set_option Elab.async false
set_option linter.all false
set_option maxRecDepth 100000
set_option maxHeartbeats 0
namespace LW
open PySem PySem.Spec L2 LP
set_option autoImplicit false
noncomputable section
/-- _law_cell(script, k); slots: 0 script, 1 k -/
def b__law_cell : ST :=
    (sSeq (sIf (tOf (eBin ltD (eVar 1) (eCall (on1 lenD) (aCons (eVar 0) aNil)))) (sRet (eBin idxD (eVar 0) (eVar 1))) sNil)
    (sRet (eC (.int 0))))
def m_law_cell : Fn := gcF 2 b__law_cell

/-- _law_ends(head, many); slots: 0 head, 1 many, 2 first -/
def b__law_ends : ST :=
    (sSeq (sAsg (eBin modD (eBin fdivD (eVar 0) (eC (.int 7))) (eVar 1)) (gN 2))
    (sRet (eTup (aCons (eVar 2) (aCons (eBin modD (eBin addD (eBin addD (eVar 2) (eC (.int 1))) (eBin modD (eBin fdivD (eVar 0) (eC (.int 77))) (eBin subD (eVar 1) (eC (.int 1))))) (eVar 1)) aNil)))))
def m_law_ends : Fn := gcF 3 b__law_ends

/-- _law_is_side(numbers, many, first, last); slots: 0 numbers, 1 many, 2 first, 3 last -/
def b__law_is_side : ST :=
    (sSeq (sIf (tOr2 (tOf (eBin neD (eVar 0) (eLst (nSS (eVar 0))))) (tOr2 (tOf (eBin (inD true) (eVar 2) (eVar 0))) (tOf (eBin (inD false) (eVar 3) (eVar 0))))) (sRet (eC (.bl false))) sNil)
    (sRet (eAnd2 (eBin geD (eBin idxD (eVar 0) (eC (.int 0))) (eC (.int 0))) (eBin ltD (eBin idxD (eVar 0) (eUn negD (eC (.int 1)))) (eVar 1)))))
def m_law_is_side : Fn := gcF 4 b__law_is_side

/-- _law_stir(cell, k); slots: 0 cell, 1 k, 2 near -/
def b__law_stir : ST :=
    (sSeq (sAsg (eBin modD (eBin addD (eBin addD (eVar 0) (eBin mulD (eC (.int 7919)) (eVar 1))) (eC (.int 101))) (eC (.int 2147483647))) (gN 2))
    (sSeq (sAsg (eBin modD (eBin mulD (eVar 2) (eVar 2)) (eC (.int 2147483647))) (gN 2))
    (sRet (eBin fdivD (eBin modD (eBin mulD (eVar 2) (eC (.int 48271))) (eC (.int 2147483629))) (eC (.int 7))))))
def m_law_stir : Fn := gcF 3 b__law_stir

/-- _law_numbers(cell, many); slots: 0 cell, 1 many, 2 numbers, 3 turn, 4 k -/
def b__law_numbers : ST :=
    (sSeq (sAsg (eNew (nDisp aNil)) (gN 2))
    (sSeq (sAsg (eCall m_law_stir (aCons (eVar 0) (aCons (eC (.int 4)) aNil))) (gN 3))
    (sSeq (sFor (itRg1 (eBin modD (eVar 3) (eC (.int 9)))) (gN 4) [4] (sExpr (eMth mAppend (eVar 2) (aCons (eBin modD (eCall m_law_stir (aCons (eVar 0) (aCons (eBin addD (eC (.int 10)) (eVar 4)) aNil))) (eVar 1)) aNil))))
    (sSeq (sIf (tOf (eBin eqD (eBin modD (eBin fdivD (eVar 3) (eC (.int 9))) (eC (.int 2))) (eC (.int 0)))) (sAsg (eNew (nSS (eVar 2))) (gN 2)) sNil)
    (sRet (eVar 2))))))
def m_law_numbers : Fn := gcF 5 b__law_numbers

/-- _law_same(found, due); slots: 0 found, 1 due, 2 k -/
def b__law_same (me : Fn) : ST :=
    (sSeq (sIf (tOf (eUn (isiD "tuple") (eVar 1))) (sSeq (sIf (tOr2 (tNot1 (tOf (eUn (isiD "tuple") (eVar 0)))) (tOf (eBin neD (eCall (on1 lenD) (aCons (eVar 0) aNil)) (eCall (on1 lenD) (aCons (eVar 1) aNil))))) (sRet (eC (.bl false))) sNil)
    (sSeq (sFor (itRg1 (eCall (on1 lenD) (aCons (eVar 1) aNil))) (gN 2) [2] (sIf (tNot1 (tOf (eCall me (aCons (eBin idxD (eVar 0) (eVar 2)) (aCons (eBin idxD (eVar 1) (eVar 2)) aNil))))) (sRet (eC (.bl false))) sNil))
    (sRet (eC (.bl true))))) sNil)
    (sSeq (sIf (tOr2 (tOf (eBin isN (eVar 1) (eC .non))) (tOf (eUn (isiD "str") (eVar 1)))) (sRet (eBin eqD (eVar 0) (eVar 1))) sNil)
    (sRet (eAnd2 (eUn (isiD "int") (eVar 0)) (eAnd2 (eNot1 (eUn (isiD "bool") (eVar 0))) (eBin eqD (eVar 0) (eVar 1)))))))
def m_law_same : Nat → Fn
  | 0 => fun _ => M.fail
  | n + 1 => gcF 3 (b__law_same (m_law_same n))

/-- _law_spoilt(numbers, cell, many); slots: 0 numbers, 1 cell, 2 many, 3 stated, 4 bad -/
def b__law_spoilt : ST :=
    (sSeq (sAsg (eNew (nCall (on1 listN) (aCons (eVar 0) aNil))) (gN 3))
    (sSeq (sAsg (eBin idxD (eLst (nDisp (aCons (eUn negD (eC (.int 1))) (aCons (eVar 2) (aCons (eBin addD (eVar 2) (eC (.int 1))) (aCons (eBin powD (eC (.int 10)) (eC (.int 20))) (aCons (eUn negD (eVar 2)) (aCons (eC (.int 0)) (aCons (eBin subD (eVar 2) (eC (.int 1))) aNil))))))))) (eBin modD (eCall m_law_stir (aCons (eVar 1) (aCons (eC (.int 7)) aNil))) (eC (.int 7)))) (gN 4))
    (sSeq (sExpr (eMth mInsert (eVar 3) (aCons (eBin modD (eCall m_law_stir (aCons (eVar 1) (aCons (eC (.int 8)) aNil))) (eBin addD (eCall (on1 lenD) (aCons (eVar 3) aNil)) (eC (.int 1)))) (aCons (eVar 4) aNil))))
    (sRet (eVar 3)))))
def m_law_spoilt : Fn := gcF 5 b__law_spoilt

/-- _law_bound(cell); slots: 0 cell, 1 size -/
def b__law_bound : ST :=
    (sSeq (sAsg (eCall m_law_stir (aCons (eVar 0) (aCons (eC (.int 3)) aNil))) (gN 1))
    (sSeq (sIf (tOf (eBin eqD (eBin modD (eVar 1) (eC (.int 8))) (eC (.int 0)))) (sRet (eBin subD (eBin powD (eC (.int 10)) (eC (.int 40))) (eBin modD (eBin fdivD (eVar 1) (eC (.int 8))) (eC (.int 3))))) sNil)
    (sSeq (sIf (tOf (eBin eqD (eBin modD (eVar 1) (eC (.int 8))) (eC (.int 1)))) (sRet (eBin modD (eVar 0) (eBin powD (eC (.int 10)) (eC (.int 40))))) sNil)
    (sRet (eBin modD (eBin fdivD (eVar 1) (eC (.int 8))) (eC (.int 13)))))))
def m_law_bound : Fn := gcF 2 b__law_bound

/-- _law_web(cells, many); slots: 0 cells, 1 many, 2 ties, 3 cell, 4 turn, 5 start, 6 end -/
def b__law_web : ST :=
    (sSeq (sAsg (eNew (nDisp aNil)) (gN 2))
    (sSeq (sFor (itLst (eVar 0)) (gN 3) [3, 4, 5, 6] (sSeq (sAsg (eCall m_law_stir (aCons (eVar 3) (aCons (eC (.int 1)) aNil))) (gN 4))
    (sSeq (sAsg (eBin modD (eVar 4) (eVar 1)) (gN 5))
    (sSeq (sAsg (eBin modD (eBin addD (eBin addD (eVar 5) (eC (.int 1))) (eBin modD (eBin fdivD (eVar 4) (eVar 1)) (eBin subD (eVar 1) (eC (.int 1))))) (eVar 1)) (gN 6))
    (sExpr (eMth mAppend (eVar 2) (aCons (eTup (aCons (eVar 5) (aCons (eVar 6) (aCons (eCall m_law_bound (aCons (eVar 3) aNil)) (aCons (eBin modD (eCall m_law_stir (aCons (eVar 3) (aCons (eC (.int 2)) aNil))) (eC (.int 13))) aNil))))) aNil)))))))
    (sRet (eTup (aCons (eVar 1) (aCons (eCall (on1 tupleD) (aCons (eVar 2) aNil)) aNil))))))
def m_law_web : Fn := gcF 7 b__law_web

/-- is_side(web, first, last, side); slots: 0 web, 1 first, 2 last, 3 side, 4 k -/
def b_is_side : ST :=
    (sSeq (sFor (itRg1 (eCall (on1 lenD) (aCons (eVar 3) aNil))) (gN 4) [4] (sIf (tOr2 (tOf (eBin ltD (eBin idxD (eVar 3) (eVar 4)) (eC (.int 0)))) (tOr2 (tOf (eBin geD (eBin idxD (eVar 3) (eVar 4)) (eBin idxD (eVar 0) (eC (.int 0))))) (tAnd2 (tOf (eBin gtD (eVar 4) (eC (.int 0)))) (tOf (eBin leD2 (eBin idxD (eVar 3) (eVar 4)) (eBin idxD (eVar 3) (eBin subD (eVar 4) (eC (.int 1))))))))) (sRet (eC (.bl false))) sNil))
    (sRet (eAnd2 (eBin (inD false) (eVar 1) (eVar 3)) (eBin (inD true) (eVar 2) (eVar 3)))))
def m_is_side : Fn := gcF 5 b_is_side

/-- side_worth(web, side); slots: 0 web, 1 side, 2 tie -/
def b_side_worth : ST :=
    (sRet (eCall (on1 sumD) (aCons (eLst (nComp (itTup (eBin idxD (eVar 0) (eC (.int 1)))) (gN 2) [2] (tAnd2 (tOf (eBin (inD false) (eBin idxD (eVar 2) (eC (.int 0))) (eVar 1))) (tOf (eBin (inD true) (eBin idxD (eVar 2) (eC (.int 1))) (eVar 1)))) (eBin idxD (eVar 2) (eC (.int 2))))) aNil)))
def m_side_worth : Fn := gcF 3 b_side_worth

/-- law(script); slots: 0 script, 1 head, 2 many, 3 web, 4 cell, 5 first, 6 last, 7 numbers, 8 worth, 9 whole, 10 stated, 11 found, 12 tie, 13 node -/
def b_law : ST :=
    (sSeq (sAsg (eCall m_law_stir (aCons (eCall m_law_cell (aCons (eVar 0) (aCons (eC (.int 0)) aNil))) (aCons (eC (.int 0)) aNil))) (gN 1))
    (sSeq (sAsg (eBin addD (eC (.int 2)) (eBin modD (eVar 1) (eC (.int 6)))) (gN 2))
    (sSeq (sAsg (eCall m_law_web (aCons (eLst (nSlL (eVar 0) (oSome (eC (.int 2))) (oSome (eC (.int 26))))) (aCons (eVar 2) aNil))) (gN 3))
    (sSeq (sAsg (eCall m_law_ends (aCons (eVar 1) (aCons (eVar 2) aNil))) (gTup' (gsCons (gN 5) (gsCons (gN 6) gsNil))))
    (sSeq (sFor (itNew (nCat (eLst (nDisp (aCons (eC (.int 0)) aNil))) (eLst (nCall (on1 listN) (aCons (eVar 0) aNil))))) (gN 4) [4, 7, 8, 9, 10, 11, 12, 13] (sSeq (sAsg (eCall m_law_numbers (aCons (eVar 4) (aCons (eVar 2) aNil))) (gN 7))
    (sSeq (sAsg (eCall (on1 sumD) (aCons (eLst (nComp (itTup (eBin idxD (eVar 3) (eC (.int 1)))) (gN 12) [12] (tAnd2 (tOf (eBin (inD false) (eBin idxD (eVar 12) (eC (.int 0))) (eVar 7))) (tOf (eBin (inD true) (eBin idxD (eVar 12) (eC (.int 1))) (eVar 7)))) (eBin idxD (eVar 12) (eC (.int 2))))) aNil)) (gN 8))
    (sSeq (sIf (tNot1 (tOf (eCall (m_law_same 3) (aCons (eCall m_side_worth (aCons (eVar 3) (aCons (eCall (on1 tupleD) (aCons (eVar 7) aNil)) aNil))) (aCons (eVar 8) aNil))))) (sRet (eC (.bl false))) sNil)
    (sSeq (sAsg (eLst (nSS (eLst (nCat (eLst (nDisp (aCons (eVar 5) aNil))) (eLst (nComp (itLst (eVar 7)) (gN 13) [13] (tOf (eBin neD (eVar 13) (eVar 6))) (eVar 13))))))) (gN 9))
    (sFor (itNew (nDisp (aCons (eVar 7) (aCons (eVar 9) (aCons (eCall m_law_spoilt (aCons (eVar 7) (aCons (eVar 4) (aCons (eVar 2) aNil)))) (aCons (eCall m_law_spoilt (aCons (eVar 9) (aCons (eVar 4) (aCons (eVar 2) aNil)))) aNil)))))) (gN 10) [10, 11] (sSeq (sAsg (eCall m_is_side (aCons (eVar 3) (aCons (eVar 5) (aCons (eVar 6) (aCons (eCall (on1 tupleD) (aCons (eVar 10) aNil)) aNil))))) (gN 11))
    (sIf (tOr2 (tNot1 (tOf (eUn (isiD "bool") (eVar 11)))) (tOf (eBin neD (eVar 11) (eCall m_law_is_side (aCons (eVar 10) (aCons (eVar 2) (aCons (eVar 5) (aCons (eVar 6) aNil)))))))) (sRet (eC (.bl false))) sNil))))))))
    (sRet (eC (.bl true))))))))
def m_law : Fn := gcF 14 b_law

def top (i : Nat) : Stmt := PySem.Challenge.pw_lamprota_k19_sides.main.body.getD i (.Pass ⟨0, 0, 0, 0⟩)
section
variable {P : Program} {w : World} {K : PySem.W.Frag} {mg : Str → Option Value} {base : Heap} {g : Gx}
abbrev st__law_cell : Stmt := top 4
abbrev N__law_cell : List Str := ["script", "k"]
theorem sc__law_cell : FnScope N__law_cell ["script", "k"] (defScope st__law_cell) := ⟨rfl, rfl, rfl, by decide +kernel, rfl, by decide +kernel, by decide +kernel⟩
theorem ok__law_cell (B : Bn mg) (F : Dn K mg "_law_cell" st__law_cell ["script", "k"])   : Cl P w K mg base g 1 "_law_cell" ["script", "k"] m_law_cell := by
    refine cl_ok F sc__law_cell (.inl rfl) fun f cdv A outer s H E hr => ?_
    have hu := hr.units
    have hu1 := hu_of hr
    have sc := sc__law_cell
    exact (ss_cons (ss_if (t_lt (s_var 1 (pv 1)) (sb_len rfl B (s_var 0 (pv 0))) hu) (ss_one (ss_ret (s_ix (s_var 0 (pv 0)) (s_var 1 (pv 1)) (fun _ _ => rfl)))) ss_nil)
    (ss_one (ss_ret s_int)))

abbrev st__law_ends : Stmt := top 9
abbrev N__law_ends : List Str := ["head", "many", "first"]
theorem sc__law_ends : FnScope N__law_ends ["head", "many"] (defScope st__law_ends) := ⟨rfl, rfl, rfl, by decide +kernel, rfl, by decide +kernel, by decide +kernel⟩
theorem ok__law_ends (B : Bn mg) (F : Dn K mg "_law_ends" st__law_ends ["head", "many"])   : Cl P w K mg base g 1 "_law_ends" ["head", "many"] m_law_ends := by
    refine cl_ok F sc__law_ends (.inl rfl) fun f cdv A outer s H E hr => ?_
    have hu := hr.units
    have hu1 := hu_of hr
    have sc := sc__law_ends
    exact (ss_cons (ss_set (ps_set sc.nd rfl (by first | exact Or.inl rfl | exact Or.inr rfl) (s_mod (s_fdiv (s_var 0 (pv 0)) s_int) (s_var 1 (pv 1)))))
    (ss_one (ss_ret (s_tup (a_cons (s_var 2 (pv 2)) (a_cons (s_mod (s_add (s_add (s_var 2 (pv 2)) s_int) (s_mod (s_fdiv (s_var 0 (pv 0)) s_int) (s_sub (s_var 1 (pv 1)) s_int))) (s_var 1 (pv 1))) a_nil))))))

abbrev st__law_is_side : Stmt := top 12
abbrev N__law_is_side : List Str := ["numbers", "many", "first", "last"]
theorem sc__law_is_side : FnScope N__law_is_side ["numbers", "many", "first", "last"] (defScope st__law_is_side) := ⟨rfl, rfl, rfl, by decide +kernel, rfl, by decide +kernel, by decide +kernel⟩
theorem ok__law_is_side (B : Bn mg) (F : Dn K mg "_law_is_side" st__law_is_side ["numbers", "many", "first", "last"])   : Cl P w K mg base g 1 "_law_is_side" ["numbers", "many", "first", "last"] m_law_is_side := by
    refine cl_ok F sc__law_is_side (.inl rfl) fun f cdv A outer s H E hr => ?_
    have hu := hr.units
    have hu1 := hu_of hr
    have sc := sc__law_is_side
    exact (ss_cons (ss_if (PW.pt (w_or (t_ne (s_var 0 (pv 0)) (s_lst (n_sortedSet rfl B (s_var 0 (pv 0)))) hu) (w_or (t_nin (s_var 2 (pv 2)) (s_var 0 (pv 0)) rfl) (w_or1 (t_in (s_var 3 (pv 3)) (s_var 0 (pv 0)) rfl))))) (ss_one (ss_ret s_bl)) ss_nil)
    (ss_one (ss_ret (s_and (s_ge (s_ix (s_var 0 (pv 0)) s_int (fun _ _ => rfl)) s_int) (s_one (s_lt (s_ix (s_var 0 (pv 0)) (s_neg s_int) (fun _ _ => rfl)) (s_var 1 (pv 1)) hu))))))

abbrev st__law_stir : Stmt := top 5
abbrev N__law_stir : List Str := ["cell", "k", "near"]
theorem sc__law_stir : FnScope N__law_stir ["cell", "k"] (defScope st__law_stir) := ⟨rfl, rfl, rfl, by decide +kernel, rfl, by decide +kernel, by decide +kernel⟩
theorem ok__law_stir (B : Bn mg) (F : Dn K mg "_law_stir" st__law_stir ["cell", "k"])   : Cl P w K mg base g 1 "_law_stir" ["cell", "k"] m_law_stir := by
    refine cl_ok F sc__law_stir (.inl rfl) fun f cdv A outer s H E hr => ?_
    have hu := hr.units
    have hu1 := hu_of hr
    have sc := sc__law_stir
    exact (ss_cons (ss_set (ps_set sc.nd rfl (by first | exact Or.inl rfl | exact Or.inr rfl) (s_mod (s_add (s_add (s_var 0 (pv 0)) (s_mul s_int (s_var 1 (pv 1)))) s_int) s_int)))
    (ss_cons (ss_set (ps_set sc.nd rfl (by first | exact Or.inl rfl | exact Or.inr rfl) (s_mod (s_mul (s_var 2 (pv 2)) (s_var 2 (pv 2))) s_int)))
    (ss_one (ss_ret (s_fdiv (s_mod (s_mul (s_var 2 (pv 2)) s_int) s_int) s_int)))))

abbrev st__law_numbers : Stmt := top 10
abbrev N__law_numbers : List Str := ["cell", "many", "numbers", "turn", "k"]
theorem sc__law_numbers : FnScope N__law_numbers ["cell", "many"] (defScope st__law_numbers) := ⟨rfl, rfl, rfl, by decide +kernel, rfl, by decide +kernel, by decide +kernel⟩
theorem ok__law_numbers (B : Bn mg) (F : Dn K mg "_law_numbers" st__law_numbers ["cell", "many"])  (c__law_stir : Cl P w K mg base g 1 "_law_stir" ["cell", "k"] m_law_stir) : Cl P w K mg base g 2 "_law_numbers" ["cell", "many"] m_law_numbers := by
    refine cl_ok F sc__law_numbers (.inl rfl) fun f cdv A outer s H E hr => ?_
    have hu := hr.units
    have hu1 := hu_of hr
    have sc := sc__law_numbers
    exact (ss_cons (ss_set (ps_set sc.nd rfl (by first | exact Or.inl rfl | exact Or.inr rfl) (s_new (n_disp a_nil))))
    (ss_cons (ss_set (ps_set sc.nd rfl (by first | exact Or.inl rfl | exact Or.inr rfl) (s_callF c__law_stir hr (by first | decide | exact Nat.le_refl _ | exact Nat.le_trans (by decide) (Nat.le_add_right _ _)) (takes_of rfl rfl rfl rfl) (a_cons (s_var 0 (pv 0)) (a_cons s_int a_nil)) (len_cons (len_cons len_nil)))))
    (ss_cons (ss_for (kill := [4]) (ps_for (passes_of rfl) rfl (i_rg1 (pi_range1 rfl B.range (pa_cons (s_mod (s_var 3 (pv 3)) s_int) pa_nil))) (sg_name (pg_name sc.nd rfl (by first | exact Or.inl rfl | exact Or.inr rfl))) (ss_one (ss_expr (ps_expr (s_mth mi_append (pe_bm PySem.F.plainAttrs_list PySem.F.slot_list_append PySem.F.type_list_append mt_append (s_var 2 (pv 2)) (a_cons (s_mod (s_callF c__law_stir hr (by first | decide | exact Nat.le_refl _ | exact Nat.le_trans (by decide) (Nat.le_add_right _ _)) (takes_of rfl rfl rfl rfl) (a_cons (s_var 0 (pv 0)) (a_cons (s_add s_int (s_var 4 (pv 4))) a_nil)) (len_cons (len_cons len_nil))) (s_var 1 (pv 1))) a_nil))))))))
    (ss_cons (ss_if (t_eq (s_mod (s_fdiv (s_var 3 (pv 3)) s_int) s_int) s_int hu) (ss_one (ss_set (ps_set sc.nd rfl (by first | exact Or.inl rfl | exact Or.inr rfl) (s_new (n_sortedSet rfl B (s_var 2 (pv 2))))))) ss_nil)
    (ss_one (ss_ret (s_var 2 (pv 2))))))))

abbrev st__law_same : Stmt := top 6
abbrev N__law_same : List Str := ["found", "due", "k"]
theorem sc__law_same : FnScope N__law_same ["found", "due"] (defScope st__law_same) := ⟨rfl, rfl, rfl, by decide +kernel, rfl, by decide +kernel, by decide +kernel⟩
theorem ok__law_same (B : Bn mg) (F : Dn K mg "_law_same" st__law_same ["found", "due"])   : ∀ n : Nat, Cl P w K mg base g (0 + n) "_law_same" ["found", "due"] (m_law_same n)
  | 0 => .never F
  | n + 1 => by
    have c__law_same := ok__law_same B F   n
    refine cl_ok F sc__law_same (.inl rfl) fun f cdv A outer s H E hr => ?_
    have hu := hr.units
    have hu1 := hu_of hr
    have sc := sc__law_same
    exact (ss_cons (ss_if (t_val (sb_isi (T := "tuple") B (by decide) PyProof.Rows.boot_tuple B.tuple (s_var 1 (pv 1)) rfl (by decide) (by decide))) (ss_cons (ss_if (PW.pt (w_or (t_not (t_val (sb_isi (T := "tuple") B (by decide) PyProof.Rows.boot_tuple B.tuple (s_var 0 (pv 0)) rfl (by decide) (by decide)))) (w_or1 (t_ne (sb_len rfl B (s_var 0 (pv 0))) (sb_len rfl B (s_var 1 (pv 1))) hu)))) (ss_one (ss_ret s_bl)) ss_nil)
    (ss_cons (ss_for (kill := [2]) (ps_for (passes_of rfl) rfl (i_rg1 (pi_range1 rfl B.range (pa_cons (sb_len rfl B (s_var 1 (pv 1))) pa_nil))) (sg_name (pg_name sc.nd rfl (by first | exact Or.inl rfl | exact Or.inr rfl))) (ss_one (ss_if (t_not (t_val (s_callF c__law_same hr (by first | decide | exact Nat.le_refl _ | exact Nat.le_trans (by decide) (Nat.le_add_right _ _)) (takes_of rfl rfl rfl rfl) (a_cons (s_ix (s_var 0 (pv 0)) (s_var 2 (pv 2)) (fun _ _ => rfl)) (a_cons (s_ix (s_var 1 (pv 1)) (s_var 2 (pv 2)) (fun _ _ => rfl)) a_nil)) (len_cons (len_cons len_nil))))) (ss_one (ss_ret s_bl)) ss_nil))))
    (ss_one (ss_ret s_bl)))) ss_nil)
    (ss_cons (ss_if (PW.pt (w_or (t_is (s_var 1 (pv 1)) s_non) (w_or1 (t_val (sb_isi (T := "str") B (by decide) PyProof.Rows.boot_str B.str (s_var 1 (pv 1)) rfl (by decide) (by decide)))))) (ss_one (ss_ret (s_eq (s_var 0 (pv 0)) (s_var 1 (pv 1)) hu))) ss_nil)
    (ss_one (ss_ret (s_and (sb_isi (T := "int") B (by decide) PyProof.Rows.boot_int B.int (s_var 0 (pv 0)) rfl (by decide) (by decide)) (s_and (s_not (sb_isi (T := "bool") B (by decide) PyProof.Rows.boot_bool B.bool (s_var 0 (pv 0)) rfl (by decide) (by decide))) (s_one (s_eq (s_var 0 (pv 0)) (s_var 1 (pv 1)) hu))))))))

abbrev st__law_spoilt : Stmt := top 11
abbrev N__law_spoilt : List Str := ["numbers", "cell", "many", "stated", "bad"]
theorem sc__law_spoilt : FnScope N__law_spoilt ["numbers", "cell", "many"] (defScope st__law_spoilt) := ⟨rfl, rfl, rfl, by decide +kernel, rfl, by decide +kernel, by decide +kernel⟩
theorem ok__law_spoilt (B : Bn mg) (F : Dn K mg "_law_spoilt" st__law_spoilt ["numbers", "cell", "many"])  (c__law_stir : Cl P w K mg base g 1 "_law_stir" ["cell", "k"] m_law_stir) : Cl P w K mg base g 2 "_law_spoilt" ["numbers", "cell", "many"] m_law_spoilt := by
    refine cl_ok F sc__law_spoilt (.inl rfl) fun f cdv A outer s H E hr => ?_
    have hu := hr.units
    have hu1 := hu_of hr
    have sc := sc__law_spoilt
    exact (ss_cons (ss_set (ps_set sc.nd rfl (by first | exact Or.inl rfl | exact Or.inr rfl) (s_new (nb_list B (s_var 0 (pv 0))))))
    (ss_cons (ss_set (ps_set sc.nd rfl (by first | exact Or.inl rfl | exact Or.inr rfl) (s_ix (s_lst (n_disp (a_cons (s_neg s_int) (a_cons (s_var 2 (pv 2)) (a_cons (s_add (s_var 2 (pv 2)) s_int) (a_cons (s_pow s_int s_int) (a_cons (s_neg (s_var 2 (pv 2))) (a_cons s_int (a_cons (s_sub (s_var 2 (pv 2)) s_int) a_nil))))))))) (s_mod (s_callF c__law_stir hr (by first | decide | exact Nat.le_refl _ | exact Nat.le_trans (by decide) (Nat.le_add_right _ _)) (takes_of rfl rfl rfl rfl) (a_cons (s_var 1 (pv 1)) (a_cons s_int a_nil)) (len_cons (len_cons len_nil))) s_int) (fun _ _ => rfl))))
    (ss_cons (ss_expr (ps_expr (s_mth mi_insert (pe_bm PySem.F.plainAttrs_list PySem.F.slot_list_insert PySem.F.type_list_insert mt_insert (s_var 3 (pv 3)) (a_cons (s_mod (s_callF c__law_stir hr (by first | decide | exact Nat.le_refl _ | exact Nat.le_trans (by decide) (Nat.le_add_right _ _)) (takes_of rfl rfl rfl rfl) (a_cons (s_var 1 (pv 1)) (a_cons s_int a_nil)) (len_cons (len_cons len_nil))) (s_add (sb_len rfl B (s_var 3 (pv 3))) s_int)) (a_cons (s_var 4 (pv 4)) a_nil))))))
    (ss_one (ss_ret (s_var 3 (pv 3)))))))

abbrev st__law_bound : Stmt := top 7
abbrev N__law_bound : List Str := ["cell", "size"]
theorem sc__law_bound : FnScope N__law_bound ["cell"] (defScope st__law_bound) := ⟨rfl, rfl, rfl, by decide +kernel, rfl, by decide +kernel, by decide +kernel⟩
theorem ok__law_bound (B : Bn mg) (F : Dn K mg "_law_bound" st__law_bound ["cell"])  (c__law_stir : Cl P w K mg base g 1 "_law_stir" ["cell", "k"] m_law_stir) : Cl P w K mg base g 2 "_law_bound" ["cell"] m_law_bound := by
    refine cl_ok F sc__law_bound (.inl rfl) fun f cdv A outer s H E hr => ?_
    have hu := hr.units
    have hu1 := hu_of hr
    have sc := sc__law_bound
    exact (ss_cons (ss_set (ps_set sc.nd rfl (by first | exact Or.inl rfl | exact Or.inr rfl) (s_callF c__law_stir hr (by first | decide | exact Nat.le_refl _ | exact Nat.le_trans (by decide) (Nat.le_add_right _ _)) (takes_of rfl rfl rfl rfl) (a_cons (s_var 0 (pv 0)) (a_cons s_int a_nil)) (len_cons (len_cons len_nil)))))
    (ss_cons (ss_if (t_eq (s_mod (s_var 1 (pv 1)) s_int) s_int hu) (ss_one (ss_ret (s_sub (s_pow s_int s_int) (s_mod (s_fdiv (s_var 1 (pv 1)) s_int) s_int)))) ss_nil)
    (ss_cons (ss_if (t_eq (s_mod (s_var 1 (pv 1)) s_int) s_int hu) (ss_one (ss_ret (s_mod (s_var 0 (pv 0)) (s_pow s_int s_int)))) ss_nil)
    (ss_one (ss_ret (s_mod (s_fdiv (s_var 1 (pv 1)) s_int) s_int))))))

abbrev st__law_web : Stmt := top 8
abbrev N__law_web : List Str := ["cells", "many", "ties", "cell", "turn", "start", "end"]
theorem sc__law_web : FnScope N__law_web ["cells", "many"] (defScope st__law_web) := ⟨rfl, rfl, rfl, by decide +kernel, rfl, by decide +kernel, by decide +kernel⟩
theorem ok__law_web (B : Bn mg) (F : Dn K mg "_law_web" st__law_web ["cells", "many"])  (c__law_bound : Cl P w K mg base g 2 "_law_bound" ["cell"] m_law_bound) (c__law_stir : Cl P w K mg base g 1 "_law_stir" ["cell", "k"] m_law_stir) : Cl P w K mg base g 3 "_law_web" ["cells", "many"] m_law_web := by
    refine cl_ok F sc__law_web (.inl rfl) fun f cdv A outer s H E hr => ?_
    have hu := hr.units
    have hu1 := hu_of hr
    have sc := sc__law_web
    exact (ss_cons (ss_set (ps_set sc.nd rfl (by first | exact Or.inl rfl | exact Or.inr rfl) (s_new (n_disp a_nil))))
    (ss_cons (ss_for (kill := [3, 4, 5, 6]) (ps_for (passes_of rfl) rfl (i_lst (s_var 0 (pv 0))) (sg_name (pg_name sc.nd rfl (by first | exact Or.inl rfl | exact Or.inr rfl))) (ss_cons (ss_set (ps_set sc.nd rfl (by first | exact Or.inl rfl | exact Or.inr rfl) (s_callF c__law_stir hr (by first | decide | exact Nat.le_refl _ | exact Nat.le_trans (by decide) (Nat.le_add_right _ _)) (takes_of rfl rfl rfl rfl) (a_cons (s_var 3 (pv 3)) (a_cons s_int a_nil)) (len_cons (len_cons len_nil)))))
    (ss_cons (ss_set (ps_set sc.nd rfl (by first | exact Or.inl rfl | exact Or.inr rfl) (s_mod (s_var 4 (pv 4)) (s_var 1 (pv 1)))))
    (ss_cons (ss_set (ps_set sc.nd rfl (by first | exact Or.inl rfl | exact Or.inr rfl) (s_mod (s_add (s_add (s_var 5 (pv 5)) s_int) (s_mod (s_fdiv (s_var 4 (pv 4)) (s_var 1 (pv 1))) (s_sub (s_var 1 (pv 1)) s_int))) (s_var 1 (pv 1)))))
    (ss_one (ss_expr (ps_expr (s_mth mi_append (pe_bm PySem.F.plainAttrs_list PySem.F.slot_list_append PySem.F.type_list_append mt_append (s_var 2 (pv 2)) (a_cons (s_tup (a_cons (s_var 5 (pv 5)) (a_cons (s_var 6 (pv 6)) (a_cons (s_callF c__law_bound hr (by first | decide | exact Nat.le_refl _ | exact Nat.le_trans (by decide) (Nat.le_add_right _ _)) (takes_of rfl rfl rfl rfl) (a_cons (s_var 3 (pv 3)) a_nil) (len_cons len_nil)) (a_cons (s_mod (s_callF c__law_stir hr (by first | decide | exact Nat.le_refl _ | exact Nat.le_trans (by decide) (Nat.le_add_right _ _)) (takes_of rfl rfl rfl rfl) (a_cons (s_var 3 (pv 3)) (a_cons s_int a_nil)) (len_cons (len_cons len_nil))) s_int) a_nil))))) a_nil)))))))))))
    (ss_one (ss_ret (s_tup (a_cons (s_var 1 (pv 1)) (a_cons (sb_tuple B (s_var 2 (pv 2))) a_nil)))))))

abbrev st_is_side : Stmt := top 2
abbrev N_is_side : List Str := ["web", "first", "last", "side", "k"]
theorem sc_is_side : FnScope N_is_side ["web", "first", "last", "side"] (defScope st_is_side) := ⟨rfl, rfl, rfl, by decide +kernel, rfl, by decide +kernel, by decide +kernel⟩
theorem ok_is_side (B : Bn mg) (F : Dn K mg "is_side" st_is_side ["web", "first", "last", "side"])   : Cl P w K mg base g 1 "is_side" ["web", "first", "last", "side"] m_is_side := by
    refine cl_ok F sc_is_side (.inl rfl) fun f cdv A outer s H E hr => ?_
    have hu := hr.units
    have hu1 := hu_of hr
    have sc := sc_is_side
    exact (ss_cons (ss_for (kill := [4]) (ps_for (passes_of rfl) rfl (i_rg1 (pi_range1 rfl B.range (pa_cons (sb_len rfl B (s_var 3 (pv 3))) pa_nil))) (sg_name (pg_name sc.nd rfl (by first | exact Or.inl rfl | exact Or.inr rfl))) (ss_one (ss_if (PW.pt (w_or (t_lt (s_ix (s_var 3 (pv 3)) (s_var 4 (pv 4)) (fun _ _ => rfl)) s_int hu) (w_or (t_ge (s_ix (s_var 3 (pv 3)) (s_var 4 (pv 4)) (fun _ _ => rfl)) (s_ix (s_var 0 (pv 0)) s_int (fun _ _ => rfl))) (w_or1 (PW.pt (w_and (t_gt (s_var 4 (pv 4)) s_int) (w_and1 (t_le (s_ix (s_var 3 (pv 3)) (s_var 4 (pv 4)) (fun _ _ => rfl)) (s_ix (s_var 3 (pv 3)) (s_sub (s_var 4 (pv 4)) s_int) (fun _ _ => rfl)) hu)))))))) (ss_one (ss_ret s_bl)) ss_nil))))
    (ss_one (ss_ret (s_and (s_in (s_var 1 (pv 1)) (s_var 3 (pv 3)) rfl) (s_one (s_nin (s_var 2 (pv 2)) (s_var 3 (pv 3)) rfl))))))

abbrev st_side_worth : Stmt := top 1
abbrev N_side_worth : List Str := ["web", "side", "tie"]
theorem sc_side_worth : FnScope N_side_worth ["web", "side"] (defScope st_side_worth) := ⟨rfl, rfl, rfl, by decide +kernel, rfl, by decide +kernel, by decide +kernel⟩
theorem ok_side_worth (B : Bn mg) (F : Dn K mg "side_worth" st_side_worth ["web", "side"])   : Cl P w K mg base g 1 "side_worth" ["web", "side"] m_side_worth := by
    refine cl_ok F sc_side_worth (.inl rfl) fun f cdv A outer s H E hr => ?_
    have hu := hr.units
    have hu1 := hu_of hr
    have sc := sc_side_worth
    exact (ss_one (ss_ret (sb_sum rfl B (s_lst (n_comp (by decide) (pe_lc (own := [("tie", 2)]) rfl sc.nd (i_tup (s_ix (s_var 0 (pv 0)) s_int (fun _ _ => rfl))) (blkOk_by (N := N_side_worth) (sc := defScope st_side_worth) (own := [("tie", 2)]) (by decide +kernel)) (fun _ _ _ _ _ => (sg_name (pg_name sc.nd rfl (by first | exact Or.inl rfl | exact Or.inr rfl)))) (fun _ _ _ _ _ => (pts1 (PW.pt (w_and (t_in (s_ix (s_var 2 (pv 2)) s_int (fun _ _ => rfl)) (s_var 1 (pv 1)) rfl) (w_and1 (t_nin (s_ix (s_var 2 (pv 2)) s_int (fun _ _ => rfl)) (s_var 1 (pv 1)) rfl)))))) (fun _ _ _ _ _ => (s_ix (s_var 2 (pv 2)) s_int (fun _ _ => rfl)))))))))

abbrev st_law : Stmt := top 13
abbrev N_law : List Str := ["script", "head", "many", "web", "cell", "first", "last", "numbers", "worth", "whole", "stated", "found", "tie", "node"]
theorem sc_law : FnScope N_law ["script"] (defScope st_law) := ⟨rfl, rfl, rfl, by decide +kernel, rfl, by decide +kernel, by decide +kernel⟩
structure Hc (P : Program) (w : World) (K : PySem.W.Frag) (mg : Str → Option Value) (base : Heap) (g : Gx) : Prop where
  c__law_cell : Cl P w K mg base g 1 "_law_cell" ["script", "k"] m_law_cell
  c__law_ends : Cl P w K mg base g 1 "_law_ends" ["head", "many"] m_law_ends
  c__law_is_side : Cl P w K mg base g 1 "_law_is_side" ["numbers", "many", "first", "last"] m_law_is_side
  c__law_numbers : Cl P w K mg base g 2 "_law_numbers" ["cell", "many"] m_law_numbers
  c__law_same : Cl P w K mg base g 3 "_law_same" ["found", "due"] (m_law_same 3)
  c__law_spoilt : Cl P w K mg base g 2 "_law_spoilt" ["numbers", "cell", "many"] m_law_spoilt
  c__law_stir : Cl P w K mg base g 1 "_law_stir" ["cell", "k"] m_law_stir
  c__law_web : Cl P w K mg base g 3 "_law_web" ["cells", "many"] m_law_web
  c_is_side : Cl P w K mg base g 1 "is_side" ["web", "first", "last", "side"] m_is_side
  c_side_worth : Cl P w K mg base g 1 "side_worth" ["web", "side"] m_side_worth
theorem ok_law (B : Bn mg) (F : Dn K mg "law" st_law ["script"])  (HC : ∀ base : Heap, Hc P w K mg base g) : ClL P w K mg g 4 "law" ["script"] m_law := by
    refine clL_ok F sc_law (.inl rfl) fun base f cdv A outer s H E hr => ?_
    obtain ⟨c__law_cell, c__law_ends, c__law_is_side, c__law_numbers, c__law_same, c__law_spoilt, c__law_stir, c__law_web, c_is_side, c_side_worth⟩ := HC base
    have hu := hr.units
    have hu1 := hu_of hr
    have sc := sc_law
    exact (ss_cons (ss_set (ps_set sc.nd rfl (by first | exact Or.inl rfl | exact Or.inr rfl) (s_callF c__law_stir hr (by first | decide | exact Nat.le_refl _ | exact Nat.le_trans (by decide) (Nat.le_add_right _ _)) (takes_of rfl rfl rfl rfl) (a_cons (s_callF c__law_cell hr (by first | decide | exact Nat.le_refl _ | exact Nat.le_trans (by decide) (Nat.le_add_right _ _)) (takes_of rfl rfl rfl rfl) (a_cons (s_var 0 (pv 0)) (a_cons s_int a_nil)) (len_cons (len_cons len_nil))) (a_cons s_int a_nil)) (len_cons (len_cons len_nil)))))
    (ss_cons (ss_set (ps_set sc.nd rfl (by first | exact Or.inl rfl | exact Or.inr rfl) (s_add s_int (s_mod (s_var 1 (pv 1)) s_int))))
    (ss_cons (ss_set (ps_set sc.nd rfl (by first | exact Or.inl rfl | exact Or.inr rfl) (s_callF c__law_web hr (by first | decide | exact Nat.le_refl _ | exact Nat.le_trans (by decide) (Nat.le_add_right _ _)) (takes_of rfl rfl rfl rfl) (a_cons (s_lst (n_slL (s_var 0 (pv 0)) (o_some s_int) (o_some s_int))) (a_cons (s_var 2 (pv 2)) a_nil)) (len_cons (len_cons len_nil)))))
    (ss_cons (ss_asg (ps_asg (s_callF c__law_ends hr (by first | decide | exact Nat.le_refl _ | exact Nat.le_trans (by decide) (Nat.le_add_right _ _)) (takes_of rfl rfl rfl rfl) (a_cons (s_var 1 (pv 1)) (a_cons (s_var 2 (pv 2)) a_nil)) (len_cons (len_cons len_nil))) (sg_tup (gs_len (gs_len gs_len0)) (pg_tup rfl (sgs_cons (pgs_cons (sg_name (pg_name sc.nd rfl (by first | exact Or.inl rfl | exact Or.inr rfl))) (sgs_cons (pgs_cons (sg_name (pg_name sc.nd rfl (by first | exact Or.inl rfl | exact Or.inr rfl))) sgs_nil))))))))
    (ss_cons (ss_for (kill := [4, 7, 8, 9, 10, 11, 12, 13]) (ps_for (passes_of rfl) rfl (i_new (n_cat (s_lst (n_disp (a_cons s_int a_nil))) (s_lst (nb_list B (s_var 0 (pv 0)))))) (sg_name (pg_name sc.nd rfl (by first | exact Or.inl rfl | exact Or.inr rfl))) (ss_cons (ss_set (ps_set sc.nd rfl (by first | exact Or.inl rfl | exact Or.inr rfl) (s_callF c__law_numbers hr (by first | decide | exact Nat.le_refl _ | exact Nat.le_trans (by decide) (Nat.le_add_right _ _)) (takes_of rfl rfl rfl rfl) (a_cons (s_var 4 (pv 4)) (a_cons (s_var 2 (pv 2)) a_nil)) (len_cons (len_cons len_nil)))))
    (ss_cons (ss_set (ps_set sc.nd rfl (by first | exact Or.inl rfl | exact Or.inr rfl) (sb_sum rfl B (s_lst (n_comp (by decide) (pe_lc (own := [("tie", 12)]) rfl sc.nd (i_tup (s_ix (s_var 3 (pv 3)) s_int (fun _ _ => rfl))) (blkOk_by (N := N_law) (sc := defScope st_law) (own := [("tie", 12)]) (by decide +kernel)) (fun _ _ _ _ _ => (sg_name (pg_name sc.nd rfl (by first | exact Or.inl rfl | exact Or.inr rfl)))) (fun _ _ _ _ _ => (pts1 (PW.pt (w_and (t_in (s_ix (s_var 12 (pv 12)) s_int (fun _ _ => rfl)) (s_var 7 (pv 7)) rfl) (w_and1 (t_nin (s_ix (s_var 12 (pv 12)) s_int (fun _ _ => rfl)) (s_var 7 (pv 7)) rfl)))))) (fun _ _ _ _ _ => (s_ix (s_var 12 (pv 12)) s_int (fun _ _ => rfl)))))))))
    (ss_cons (ss_if (t_not (t_val (s_callF c__law_same hr (by first | decide | exact Nat.le_refl _ | exact Nat.le_trans (by decide) (Nat.le_add_right _ _)) (takes_of rfl rfl rfl rfl) (a_cons (s_callF c_side_worth hr (by first | decide | exact Nat.le_refl _ | exact Nat.le_trans (by decide) (Nat.le_add_right _ _)) (takes_of rfl rfl rfl rfl) (a_cons (s_var 3 (pv 3)) (a_cons (sb_tuple B (s_var 7 (pv 7))) a_nil)) (len_cons (len_cons len_nil))) (a_cons (s_var 8 (pv 8)) a_nil)) (len_cons (len_cons len_nil))))) (ss_one (ss_ret s_bl)) ss_nil)
    (ss_cons (ss_set (ps_set sc.nd rfl (by first | exact Or.inl rfl | exact Or.inr rfl) (s_lst (n_sortedSet rfl B (s_lst (n_cat (s_lst (n_disp (a_cons (s_var 5 (pv 5)) a_nil))) (s_lst (n_comp (by decide) (pe_lc (own := [("node", 13)]) rfl sc.nd (i_lst (s_var 7 (pv 7))) (blkOk_by (N := N_law) (sc := defScope st_law) (own := [("node", 13)]) (by decide +kernel)) (fun _ _ _ _ _ => (sg_name (pg_name sc.nd rfl (by first | exact Or.inl rfl | exact Or.inr rfl)))) (fun _ _ _ _ _ => (pts1 (t_ne (s_var 13 (pv 13)) (s_var 6 (pv 6)) hu))) (fun _ _ _ _ _ => (s_var 13 (pv 13))))))))))))
    (ss_one (ss_for (kill := [10, 11]) (ps_for (passes_of rfl) rfl (i_new (n_disp (a_cons (s_var 7 (pv 7)) (a_cons (s_var 9 (pv 9)) (a_cons (s_callF c__law_spoilt hr (by first | decide | exact Nat.le_refl _ | exact Nat.le_trans (by decide) (Nat.le_add_right _ _)) (takes_of rfl rfl rfl rfl) (a_cons (s_var 7 (pv 7)) (a_cons (s_var 4 (pv 4)) (a_cons (s_var 2 (pv 2)) a_nil))) (len_cons (len_cons (len_cons len_nil)))) (a_cons (s_callF c__law_spoilt hr (by first | decide | exact Nat.le_refl _ | exact Nat.le_trans (by decide) (Nat.le_add_right _ _)) (takes_of rfl rfl rfl rfl) (a_cons (s_var 9 (pv 9)) (a_cons (s_var 4 (pv 4)) (a_cons (s_var 2 (pv 2)) a_nil))) (len_cons (len_cons (len_cons len_nil)))) a_nil)))))) (sg_name (pg_name sc.nd rfl (by first | exact Or.inl rfl | exact Or.inr rfl))) (ss_cons (ss_set (ps_set sc.nd rfl (by first | exact Or.inl rfl | exact Or.inr rfl) (s_callF c_is_side hr (by first | decide | exact Nat.le_refl _ | exact Nat.le_trans (by decide) (Nat.le_add_right _ _)) (takes_of rfl rfl rfl rfl) (a_cons (s_var 3 (pv 3)) (a_cons (s_var 5 (pv 5)) (a_cons (s_var 6 (pv 6)) (a_cons (sb_tuple B (s_var 10 (pv 10))) a_nil)))) (len_cons (len_cons (len_cons (len_cons len_nil)))))))
    (ss_one (ss_if (PW.pt (w_or (t_not (t_val (sb_isi (T := "bool") B (by decide) PyProof.Rows.boot_bool B.bool (s_var 11 (pv 11)) rfl (by decide) (by decide)))) (w_or1 (t_ne (s_var 11 (pv 11)) (s_callF c__law_is_side hr (by first | decide | exact Nat.le_refl _ | exact Nat.le_trans (by decide) (Nat.le_add_right _ _)) (takes_of rfl rfl rfl rfl) (a_cons (s_var 10 (pv 10)) (a_cons (s_var 2 (pv 2)) (a_cons (s_var 5 (pv 5)) (a_cons (s_var 6 (pv 6)) a_nil)))) (len_cons (len_cons (len_cons (len_cons len_nil))))) hu)))) (ss_one (ss_ret s_bl)) ss_nil))))))))))))
    (ss_one (ss_ret s_bl)))))))
theorem all_mk {P : Program} {w : World} {K : PySem.W.Frag} {h : Heap} {mg : Str → Option Value} (X : K.In h) (G : h.Ns mainGlobals mg)
    {f0 : Addr} {od0 an0 : Option Addr} {sl0 : Array (Option Value)} {oc0 kV0 dc0 pm0 cd0 ct0 : Value}
    (a0 : PySem.W.nsIn K mainGlobals "_law_cell" = some (some (.ref f0))) (l0 : K.lookup f0 = some ⟨oc0, od0, .func (PySem.W.fnOf "_law_cell" "_law_cell" (defArgs st__law_cell) (defBody st__law_cell) (defScope st__law_cell) .none kV0 dc0 pm0 an0 cd0 ct0), sl0⟩) (x0 : PySem.W.codeIn K cd0 "_law_cell" = true) (k0 : PySem.W.keepIn K (.ref f0) = true)
    {f1 : Addr} {od1 an1 : Option Addr} {sl1 : Array (Option Value)} {oc1 kV1 dc1 pm1 cd1 ct1 : Value}
    (a1 : PySem.W.nsIn K mainGlobals "_law_ends" = some (some (.ref f1))) (l1 : K.lookup f1 = some ⟨oc1, od1, .func (PySem.W.fnOf "_law_ends" "_law_ends" (defArgs st__law_ends) (defBody st__law_ends) (defScope st__law_ends) .none kV1 dc1 pm1 an1 cd1 ct1), sl1⟩) (x1 : PySem.W.codeIn K cd1 "_law_ends" = true) (k1 : PySem.W.keepIn K (.ref f1) = true)
    {f2 : Addr} {od2 an2 : Option Addr} {sl2 : Array (Option Value)} {oc2 kV2 dc2 pm2 cd2 ct2 : Value}
    (a2 : PySem.W.nsIn K mainGlobals "_law_is_side" = some (some (.ref f2))) (l2 : K.lookup f2 = some ⟨oc2, od2, .func (PySem.W.fnOf "_law_is_side" "_law_is_side" (defArgs st__law_is_side) (defBody st__law_is_side) (defScope st__law_is_side) .none kV2 dc2 pm2 an2 cd2 ct2), sl2⟩) (x2 : PySem.W.codeIn K cd2 "_law_is_side" = true) (k2 : PySem.W.keepIn K (.ref f2) = true)
    {f3 : Addr} {od3 an3 : Option Addr} {sl3 : Array (Option Value)} {oc3 kV3 dc3 pm3 cd3 ct3 : Value}
    (a3 : PySem.W.nsIn K mainGlobals "_law_stir" = some (some (.ref f3))) (l3 : K.lookup f3 = some ⟨oc3, od3, .func (PySem.W.fnOf "_law_stir" "_law_stir" (defArgs st__law_stir) (defBody st__law_stir) (defScope st__law_stir) .none kV3 dc3 pm3 an3 cd3 ct3), sl3⟩) (x3 : PySem.W.codeIn K cd3 "_law_stir" = true) (k3 : PySem.W.keepIn K (.ref f3) = true)
    {f4 : Addr} {od4 an4 : Option Addr} {sl4 : Array (Option Value)} {oc4 kV4 dc4 pm4 cd4 ct4 : Value}
    (a4 : PySem.W.nsIn K mainGlobals "_law_numbers" = some (some (.ref f4))) (l4 : K.lookup f4 = some ⟨oc4, od4, .func (PySem.W.fnOf "_law_numbers" "_law_numbers" (defArgs st__law_numbers) (defBody st__law_numbers) (defScope st__law_numbers) .none kV4 dc4 pm4 an4 cd4 ct4), sl4⟩) (x4 : PySem.W.codeIn K cd4 "_law_numbers" = true) (k4 : PySem.W.keepIn K (.ref f4) = true)
    {f5 : Addr} {od5 an5 : Option Addr} {sl5 : Array (Option Value)} {oc5 kV5 dc5 pm5 cd5 ct5 : Value}
    (a5 : PySem.W.nsIn K mainGlobals "_law_same" = some (some (.ref f5))) (l5 : K.lookup f5 = some ⟨oc5, od5, .func (PySem.W.fnOf "_law_same" "_law_same" (defArgs st__law_same) (defBody st__law_same) (defScope st__law_same) .none kV5 dc5 pm5 an5 cd5 ct5), sl5⟩) (x5 : PySem.W.codeIn K cd5 "_law_same" = true) (k5 : PySem.W.keepIn K (.ref f5) = true)
    {f6 : Addr} {od6 an6 : Option Addr} {sl6 : Array (Option Value)} {oc6 kV6 dc6 pm6 cd6 ct6 : Value}
    (a6 : PySem.W.nsIn K mainGlobals "_law_spoilt" = some (some (.ref f6))) (l6 : K.lookup f6 = some ⟨oc6, od6, .func (PySem.W.fnOf "_law_spoilt" "_law_spoilt" (defArgs st__law_spoilt) (defBody st__law_spoilt) (defScope st__law_spoilt) .none kV6 dc6 pm6 an6 cd6 ct6), sl6⟩) (x6 : PySem.W.codeIn K cd6 "_law_spoilt" = true) (k6 : PySem.W.keepIn K (.ref f6) = true)
    {f7 : Addr} {od7 an7 : Option Addr} {sl7 : Array (Option Value)} {oc7 kV7 dc7 pm7 cd7 ct7 : Value}
    (a7 : PySem.W.nsIn K mainGlobals "_law_bound" = some (some (.ref f7))) (l7 : K.lookup f7 = some ⟨oc7, od7, .func (PySem.W.fnOf "_law_bound" "_law_bound" (defArgs st__law_bound) (defBody st__law_bound) (defScope st__law_bound) .none kV7 dc7 pm7 an7 cd7 ct7), sl7⟩) (x7 : PySem.W.codeIn K cd7 "_law_bound" = true) (k7 : PySem.W.keepIn K (.ref f7) = true)
    {f8 : Addr} {od8 an8 : Option Addr} {sl8 : Array (Option Value)} {oc8 kV8 dc8 pm8 cd8 ct8 : Value}
    (a8 : PySem.W.nsIn K mainGlobals "_law_web" = some (some (.ref f8))) (l8 : K.lookup f8 = some ⟨oc8, od8, .func (PySem.W.fnOf "_law_web" "_law_web" (defArgs st__law_web) (defBody st__law_web) (defScope st__law_web) .none kV8 dc8 pm8 an8 cd8 ct8), sl8⟩) (x8 : PySem.W.codeIn K cd8 "_law_web" = true) (k8 : PySem.W.keepIn K (.ref f8) = true)
    {f9 : Addr} {od9 an9 : Option Addr} {sl9 : Array (Option Value)} {oc9 kV9 dc9 pm9 cd9 ct9 : Value}
    (a9 : PySem.W.nsIn K mainGlobals "is_side" = some (some (.ref f9))) (l9 : K.lookup f9 = some ⟨oc9, od9, .func (PySem.W.fnOf "is_side" "is_side" (defArgs st_is_side) (defBody st_is_side) (defScope st_is_side) .none kV9 dc9 pm9 an9 cd9 ct9), sl9⟩) (x9 : PySem.W.codeIn K cd9 "is_side" = true) (k9 : PySem.W.keepIn K (.ref f9) = true)
    {f10 : Addr} {od10 an10 : Option Addr} {sl10 : Array (Option Value)} {oc10 kV10 dc10 pm10 cd10 ct10 : Value}
    (a10 : PySem.W.nsIn K mainGlobals "side_worth" = some (some (.ref f10))) (l10 : K.lookup f10 = some ⟨oc10, od10, .func (PySem.W.fnOf "side_worth" "side_worth" (defArgs st_side_worth) (defBody st_side_worth) (defScope st_side_worth) .none kV10 dc10 pm10 an10 cd10 ct10), sl10⟩) (x10 : PySem.W.codeIn K cd10 "side_worth" = true) (k10 : PySem.W.keepIn K (.ref f10) = true)
    {f11 : Addr} {od11 an11 : Option Addr} {sl11 : Array (Option Value)} {oc11 kV11 dc11 pm11 cd11 ct11 : Value}
    (a11 : PySem.W.nsIn K mainGlobals "law" = some (some (.ref f11))) (l11 : K.lookup f11 = some ⟨oc11, od11, .func (PySem.W.fnOf "law" "law" (defArgs st_law) (defBody st_law) (defScope st_law) .none kV11 dc11 pm11 an11 cd11 ct11), sl11⟩) (x11 : PySem.W.codeIn K cd11 "law" = true) (k11 : PySem.W.keepIn K (.ref f11) = true)
    (z0 : PySem.W.nsIn K mainGlobals "len" = some none)
    (z1 : PySem.W.nsIn K mainGlobals "sum" = some none)
    (z2 : PySem.W.nsIn K mainGlobals "min" = some none)
    (z3 : PySem.W.nsIn K mainGlobals "max" = some none)
    (z4 : PySem.W.nsIn K mainGlobals "sorted" = some none)
    (z5 : PySem.W.nsIn K mainGlobals "list" = some none)
    (z6 : PySem.W.nsIn K mainGlobals "tuple" = some none)
    (z7 : PySem.W.nsIn K mainGlobals "set" = some none)
    (z8 : PySem.W.nsIn K mainGlobals "int" = some none)
    (z9 : PySem.W.nsIn K mainGlobals "str" = some none)
    (z10 : PySem.W.nsIn K mainGlobals "isinstance" = some none)
    (z11 : PySem.W.nsIn K mainGlobals "range" = some none)
    (z12 : PySem.W.nsIn K mainGlobals "reversed" = some none)
    (z13 : PySem.W.nsIn K mainGlobals "zip" = some none)
    (z14 : PySem.W.nsIn K mainGlobals "enumerate" = some none)
    (z15 : PySem.W.nsIn K mainGlobals "bool" = some none)
    : ClL P w K mg g0 4 "law" ["script"] m_law := by
  have B : Bn mg := ⟨PySem.W.mg_none_of X G z0, PySem.W.mg_none_of X G z1, PySem.W.mg_none_of X G z2, PySem.W.mg_none_of X G z3, PySem.W.mg_none_of X G z4, PySem.W.mg_none_of X G z5, PySem.W.mg_none_of X G z6, PySem.W.mg_none_of X G z7, PySem.W.mg_none_of X G z8, PySem.W.mg_none_of X G z9, PySem.W.mg_none_of X G z10, PySem.W.mg_none_of X G z11, PySem.W.mg_none_of X G z12, PySem.W.mg_none_of X G z13, PySem.W.mg_none_of X G z14, PySem.W.mg_none_of X G z15⟩
  have d__law_cell : Dn K mg "_law_cell" st__law_cell ["script", "k"] := dn_mk X G a0 l0 x0 k0 fun _ _ _ _ _ _ us hl => match us, hl with | [_, _], _ => rfl
  have d__law_ends : Dn K mg "_law_ends" st__law_ends ["head", "many"] := dn_mk X G a1 l1 x1 k1 fun _ _ _ _ _ _ us hl => match us, hl with | [_, _], _ => rfl
  have d__law_is_side : Dn K mg "_law_is_side" st__law_is_side ["numbers", "many", "first", "last"] := dn_mk X G a2 l2 x2 k2 fun _ _ _ _ _ _ us hl => match us, hl with | [_, _, _, _], _ => rfl
  have d__law_stir : Dn K mg "_law_stir" st__law_stir ["cell", "k"] := dn_mk X G a3 l3 x3 k3 fun _ _ _ _ _ _ us hl => match us, hl with | [_, _], _ => rfl
  have d__law_numbers : Dn K mg "_law_numbers" st__law_numbers ["cell", "many"] := dn_mk X G a4 l4 x4 k4 fun _ _ _ _ _ _ us hl => match us, hl with | [_, _], _ => rfl
  have d__law_same : Dn K mg "_law_same" st__law_same ["found", "due"] := dn_mk X G a5 l5 x5 k5 fun _ _ _ _ _ _ us hl => match us, hl with | [_, _], _ => rfl
  have d__law_spoilt : Dn K mg "_law_spoilt" st__law_spoilt ["numbers", "cell", "many"] := dn_mk X G a6 l6 x6 k6 fun _ _ _ _ _ _ us hl => match us, hl with | [_, _, _], _ => rfl
  have d__law_bound : Dn K mg "_law_bound" st__law_bound ["cell"] := dn_mk X G a7 l7 x7 k7 fun _ _ _ _ _ _ us hl => match us, hl with | [_], _ => rfl
  have d__law_web : Dn K mg "_law_web" st__law_web ["cells", "many"] := dn_mk X G a8 l8 x8 k8 fun _ _ _ _ _ _ us hl => match us, hl with | [_, _], _ => rfl
  have d_is_side : Dn K mg "is_side" st_is_side ["web", "first", "last", "side"] := dn_mk X G a9 l9 x9 k9 fun _ _ _ _ _ _ us hl => match us, hl with | [_, _, _, _], _ => rfl
  have d_side_worth : Dn K mg "side_worth" st_side_worth ["web", "side"] := dn_mk X G a10 l10 x10 k10 fun _ _ _ _ _ _ us hl => match us, hl with | [_, _], _ => rfl
  have d_law : Dn K mg "law" st_law ["script"] := dn_mk X G a11 l11 x11 k11 fun _ _ _ _ _ _ us hl => match us, hl with | [_], _ => rfl
  have c__law_cell := fun base : Heap => ok__law_cell (P := P) (w := w) (base := base) (g := g0) B d__law_cell 
  have c__law_ends := fun base : Heap => ok__law_ends (P := P) (w := w) (base := base) (g := g0) B d__law_ends 
  have c__law_is_side := fun base : Heap => ok__law_is_side (P := P) (w := w) (base := base) (g := g0) B d__law_is_side 
  have c__law_stir := fun base : Heap => ok__law_stir (P := P) (w := w) (base := base) (g := g0) B d__law_stir 
  have c__law_numbers := fun base : Heap => ok__law_numbers (P := P) (w := w) (base := base) (g := g0) B d__law_numbers (c__law_stir base)
  have c__law_same := fun base : Heap => ok__law_same (P := P) (w := w) (base := base) (g := g0) B d__law_same  3
  have c__law_spoilt := fun base : Heap => ok__law_spoilt (P := P) (w := w) (base := base) (g := g0) B d__law_spoilt (c__law_stir base)
  have c__law_bound := fun base : Heap => ok__law_bound (P := P) (w := w) (base := base) (g := g0) B d__law_bound (c__law_stir base)
  have c__law_web := fun base : Heap => ok__law_web (P := P) (w := w) (base := base) (g := g0) B d__law_web (c__law_bound base) (c__law_stir base)
  have c_is_side := fun base : Heap => ok_is_side (P := P) (w := w) (base := base) (g := g0) B d_is_side 
  have c_side_worth := fun base : Heap => ok_side_worth (P := P) (w := w) (base := base) (g := g0) B d_side_worth 
  exact ok_law B d_law  fun base => ⟨c__law_cell base, c__law_ends base, c__law_is_side base, c__law_numbers base, c__law_same base, c__law_spoilt base, c__law_stir base, c__law_web base, c_is_side base, c_side_worth base⟩
end
end
end LW

set_option Elab.async false
set_option linter.all false
set_option maxRecDepth 100000
set_option maxHeartbeats 2000000
namespace LW
open PySem PySem.Spec L2 LP
set_option autoImplicit false
noncomputable section
def stir (c k : Int) : Int :=
  ((c + 7919 * k + 101) % 2147483647 * ((c + 7919 * k + 101) % 2147483647) % 2147483647) * 48271 % 2147483629 / 7
theorem stir_nn (c k : Int) : 0 ≤ stir c k := by unfold stir; omega
theorem stir_ok (c k : Int) (S : Store) : m_law_stir [.int c, .int k] S = .ok (.int (stir c k)) S := by
  refine gcF_self ?_ rfl
  have h1 : ∀ i : Int, CMul 7919 i := fun i => .inl (by decide)
  have h2 : ∀ i j : Int, CMul (i % 2147483647) j := fun i j => .inl (by omega)
  have h4 : ∀ i : Int, CDiv i 7 := fun i => by unfold CDiv; omega
  simp only [b__law_stir, env0, ev_want, sz0, sz1, sz2, sz3, sz4, sz5, sz6, sz7, sz8, sz9, sz10, sz11, sz12, sz13, eVar, eC, eBin, eUn, eCall, aCons, aNil, eTup, eLst, eNew, nDisp, nCall, sSeq, sAsg, sRet, sRetN, sIf, sExpr, sNil, tOf, tAnd2, tOr2, tNot1, eNot1, ev_bind, ev_pure, go_ok, ev_ite, on1, on2, gN, gTup', gsCons, gsNil, boolB, addI, subI, negI, ltI, leI, gtI, geI, eqI, neI, List.map_cons, List.map_nil, List.cons_append, List.nil_append, List.length_cons, List.length_nil, Nat.reduceAdd, Nat.reduceSub, Nat.zero_add, Nat.add_zero, List.replicate_succ, List.replicate_zero, List.append_nil, List.getElem?_cons_succ, List.getElem?_cons_zero, List.set_cons_succ, List.set_cons_zero, Bool.not_true, Bool.not_false, if_true, if_false, ite_true, ite_false, Bool.false_eq_true, reduceIte, Option.some.injEq, Option.bind_some, mulI, modI, fdivI, h1, h2, h4, show (0:Int) < 2147483647 by decide, show (0:Int) < 2147483629 by decide]
  rfl
theorem cell_ok {n : Nat} {ns : List Int} {S : Store} (k : Nat) (h : S[n]? = some (.ro (ns.map D.int))) : m_law_cell [.loc n, .int k] S = .ok (.int (ns.getD k 0)) S := by
  refine gcF_self ?_ rfl
  have hs := seq_loc (.inr h)
  have hl := len_ok (x := .loc n) (by intro z e; cases e) hs
  by_cases q : k < ns.length
  · have hx : idxD (.loc n) (.int (k : Int)) S = .ok (.int ns[k]) S := idx_ok hs (by rw [atI_nat' rfl]; simp [q])
    simp only [b__law_cell, env0, ev_want, sz0, sz1, sz2, sz3, sz4, sz5, sz6, sz7, sz8, sz9, sz10, sz11, sz12, sz13, eVar, eC, eBin, eUn, eCall, aCons, aNil, eTup, eLst, eNew, nDisp, nCall, sSeq, sAsg, sRet, sRetN, sIf, sExpr, sNil, tOf, tAnd2, tOr2, tNot1, eNot1, ev_bind, ev_pure, go_ok, ev_ite, on1, on2, gN, gTup', gsCons, gsNil, boolB, addI, subI, negI, ltI, leI, gtI, geI, eqI, neI, List.map_cons, List.map_nil, List.cons_append, List.nil_append, List.length_cons, List.length_nil, Nat.reduceAdd, Nat.reduceSub, Nat.zero_add, Nat.add_zero, List.replicate_succ, List.replicate_zero, List.append_nil, List.getElem?_cons_succ, List.getElem?_cons_zero, List.set_cons_succ, List.set_cons_zero, Bool.not_true, Bool.not_false, if_true, if_false, ite_true, ite_false, Bool.false_eq_true, reduceIte, Option.some.injEq, Option.bind_some, hl, List.length_map, Int.ofNat_lt, q, decide_true, hx]
    rw [List.getD_eq_getElem?_getD, List.getElem?_eq_getElem q]
    rfl
  · simp only [b__law_cell, env0, ev_want, sz0, sz1, sz2, sz3, sz4, sz5, sz6, sz7, sz8, sz9, sz10, sz11, sz12, sz13, eVar, eC, eBin, eUn, eCall, aCons, aNil, eTup, eLst, eNew, nDisp, nCall, sSeq, sAsg, sRet, sRetN, sIf, sExpr, sNil, tOf, tAnd2, tOr2, tNot1, eNot1, ev_bind, ev_pure, go_ok, ev_ite, on1, on2, gN, gTup', gsCons, gsNil, boolB, addI, subI, negI, ltI, leI, gtI, geI, eqI, neI, List.map_cons, List.map_nil, List.cons_append, List.nil_append, List.length_cons, List.length_nil, Nat.reduceAdd, Nat.reduceSub, Nat.zero_add, Nat.add_zero, List.replicate_succ, List.replicate_zero, List.append_nil, List.getElem?_cons_succ, List.getElem?_cons_zero, List.set_cons_succ, List.set_cons_zero, Bool.not_true, Bool.not_false, if_true, if_false, ite_true, ite_false, Bool.false_eq_true, reduceIte, Option.some.injEq, Option.bind_some, hl, List.length_map, Int.ofNat_lt, q, decide_false]
    rw [List.getD_eq_getElem?_getD, List.getElem?_eq_none (by omega)]
    rfl
theorem same_ok (a b : Int) (S : Store) : m_law_same 3 [.int a, .int b] S = .ok (.bl (decide (a = b))) S := by
  refine gcF_self ?_ rfl
  have h1 : isiD "tuple" (.int b) S = .ok (.bl false) S := rfl
  have h2 : isiD "str" (.int b) S = .ok (.bl false) S := rfl
  have h3 : isiD "int" (.int a) S = .ok (.bl true) S := rfl
  have h4 : isiD "bool" (.int a) S = .ok (.bl false) S := rfl
  have h5 : isN (.int b) .non S = .ok (.bl false) S := rfl
  simp only [b__law_same, env0, ev_want, sz0, sz1, sz2, sz3, sz4, sz5, sz6, sz7, sz8, sz9, sz10, sz11, sz12, sz13, eVar, eC, eBin, eUn, eCall, aCons, aNil, eTup, eLst, eNew, nDisp, nCall, sSeq, sAsg, sRet, sRetN, sIf, sExpr, sNil, tOf, tAnd2, tOr2, tNot1, eNot1, ev_bind, ev_pure, go_ok, ev_ite, on1, on2, gN, gTup', gsCons, gsNil, boolB, addI, subI, negI, ltI, leI, gtI, geI, eqI, neI, List.map_cons, List.map_nil, List.cons_append, List.nil_append, List.length_cons, List.length_nil, Nat.reduceAdd, Nat.reduceSub, Nat.zero_add, Nat.add_zero, List.replicate_succ, List.replicate_zero, List.append_nil, List.getElem?_cons_succ, List.getElem?_cons_zero, List.set_cons_succ, List.set_cons_zero, Bool.not_true, Bool.not_false, if_true, if_false, ite_true, ite_false, Bool.false_eq_true, reduceIte, Option.some.injEq, Option.bind_some, eAnd2, h1, h2, h3, h4, h5]
def bound (c : Int) : Int := if stir c 3 % 8 = 0 then 10 ^ (40 : Int).toNat - stir c 3 / 8 % 3 else if stir c 3 % 8 = 1 then c % 10 ^ (40 : Int).toNat else stir c 3 / 8 % 13
theorem bound_ok (c : Int) (S : Store) : m_law_bound [.int c] S = .ok (.int (bound c)) S := by
  refine gcF_self ?_ rfl
  have hp : CPow 10 40 := by unfold CPow; omega
  have h8 : ∀ i : Int, CDiv i 8 := fun i => by unfold CDiv; omega
  have hb : (0 : Int) < 10 ^ (40 : Int).toNat := by decide
  unfold bound
  by_cases q1 : stir c 3 % 8 = 0
  · simp only [b__law_bound, env0, ev_want, sz0, sz1, sz2, sz3, sz4, sz5, sz6, sz7, sz8, sz9, sz10, sz11, sz12, sz13, eVar, eC, eBin, eUn, eCall, aCons, aNil, eTup, eLst, eNew, nDisp, nCall, sSeq, sAsg, sRet, sRetN, sIf, sExpr, sNil, tOf, tAnd2, tOr2, tNot1, eNot1, ev_bind, ev_pure, go_ok, ev_ite, on1, on2, gN, gTup', gsCons, gsNil, boolB, addI, subI, negI, ltI, leI, gtI, geI, eqI, neI, List.map_cons, List.map_nil, List.cons_append, List.nil_append, List.length_cons, List.length_nil, Nat.reduceAdd, Nat.reduceSub, Nat.zero_add, Nat.add_zero, List.replicate_succ, List.replicate_zero, List.append_nil, List.getElem?_cons_succ, List.getElem?_cons_zero, List.set_cons_succ, List.set_cons_zero, Bool.not_true, Bool.not_false, if_true, if_false, ite_true, ite_false, Bool.false_eq_true, reduceIte, Option.some.injEq, Option.bind_some, stir_ok, modI, fdivI, powI, h8, hp, q1, show (0:Int) < 8 by decide, show (0:Int) < 3 by decide, decide_true]
  · by_cases q2 : stir c 3 % 8 = 1
    · simp only [b__law_bound, env0, ev_want, sz0, sz1, sz2, sz3, sz4, sz5, sz6, sz7, sz8, sz9, sz10, sz11, sz12, sz13, eVar, eC, eBin, eUn, eCall, aCons, aNil, eTup, eLst, eNew, nDisp, nCall, sSeq, sAsg, sRet, sRetN, sIf, sExpr, sNil, tOf, tAnd2, tOr2, tNot1, eNot1, ev_bind, ev_pure, go_ok, ev_ite, on1, on2, gN, gTup', gsCons, gsNil, boolB, addI, subI, negI, ltI, leI, gtI, geI, eqI, neI, List.map_cons, List.map_nil, List.cons_append, List.nil_append, List.length_cons, List.length_nil, Nat.reduceAdd, Nat.reduceSub, Nat.zero_add, Nat.add_zero, List.replicate_succ, List.replicate_zero, List.append_nil, List.getElem?_cons_succ, List.getElem?_cons_zero, List.set_cons_succ, List.set_cons_zero, Bool.not_true, Bool.not_false, if_true, if_false, ite_true, ite_false, Bool.false_eq_true, reduceIte, Option.some.injEq, Option.bind_some, stir_ok, modI, fdivI, powI, h8, hp, hb, q1, q2, show (0:Int) < 8 by decide, show (0:Int) < 3 by decide, decide_true, decide_false, show ¬ (1:Int) = 0 by decide]
    · simp only [b__law_bound, env0, ev_want, sz0, sz1, sz2, sz3, sz4, sz5, sz6, sz7, sz8, sz9, sz10, sz11, sz12, sz13, eVar, eC, eBin, eUn, eCall, aCons, aNil, eTup, eLst, eNew, nDisp, nCall, sSeq, sAsg, sRet, sRetN, sIf, sExpr, sNil, tOf, tAnd2, tOr2, tNot1, eNot1, ev_bind, ev_pure, go_ok, ev_ite, on1, on2, gN, gTup', gsCons, gsNil, boolB, addI, subI, negI, ltI, leI, gtI, geI, eqI, neI, List.map_cons, List.map_nil, List.cons_append, List.nil_append, List.length_cons, List.length_nil, Nat.reduceAdd, Nat.reduceSub, Nat.zero_add, Nat.add_zero, List.replicate_succ, List.replicate_zero, List.append_nil, List.getElem?_cons_succ, List.getElem?_cons_zero, List.set_cons_succ, List.set_cons_zero, Bool.not_true, Bool.not_false, if_true, if_false, ite_true, ite_false, Bool.false_eq_true, reduceIte, Option.some.injEq, Option.bind_some, stir_ok, modI, fdivI, powI, h8, hp, hb, q1, q2, show (0:Int) < 8 by decide, show (0:Int) < 13 by decide, decide_true, decide_false]
/-- a tie of the drawn web -/
def tie (many c : Int) : D := .tup [.int (stir c 1 % many), .int ((stir c 1 % many + 1 + stir c 1 / many % (many - 1)) % many), .int (bound c), .int (stir c 2 % 13)]
theorem web_ok {many : Int} (h2 : 2 ≤ many) (h7 : many ≤ 7) (cs : List Int) (hl : cs.length ≤ 63) (S : Store) : m_law_web [lI cs, .int many] S = .ok (.tup [.int many, .tup (cs.map (tie many))]) S := by
  have hd : ∀ i : Int, CDiv i many := fun i => by unfold CDiv; omega
  refine gcF_up (T := [.lst (cs.map (tie many))]) (d := .tup [.int many, .tup (cs.map (tie many))]) ?_ ?_ ?_
  · simp only [b__law_web, env0, ev_want, sz0, sz1, sz2, sz3, sz4, sz5, sz6, sz7, sz8, sz9, sz10, sz11, sz12, sz13, eVar, eC, eBin, eUn, eCall, aCons, aNil, eTup, eLst, eNew, nDisp, nCall, sSeq, sAsg, sRet, sRetN, sIf, sExpr, sNil, tOf, tAnd2, tOr2, tNot1, eNot1, ev_bind, ev_pure, go_ok, ev_ite, on1, on2, gN, gTup', gsCons, gsNil, boolB, addI, subI, negI, ltI, leI, gtI, geI, eqI, neI, List.map_cons, List.map_nil, List.cons_append, List.nil_append, List.length_cons, List.length_nil, Nat.reduceAdd, Nat.reduceSub, Nat.zero_add, Nat.add_zero, List.replicate_succ, List.replicate_zero, List.append_nil, List.getElem?_cons_succ, List.getElem?_cons_zero, List.set_cons_succ, List.set_cons_zero, Bool.not_true, Bool.not_false, if_true, if_false, ite_true, ite_false, Bool.false_eq_true, reduceIte, Option.some.injEq, Option.bind_some, newM, sFor, itLst, list_lst]
    simp only [dropE, env0, ev_want, sz0, sz1, sz2, sz3, sz4, sz5, sz6, sz7, sz8, sz9, sz10, sz11, sz12, sz13, eVar, eC, eBin, eUn, eCall, aCons, aNil, eTup, eLst, eNew, nDisp, nCall, sSeq, sAsg, sRet, sRetN, sIf, sExpr, sNil, tOf, tAnd2, tOr2, tNot1, eNot1, ev_bind, ev_pure, go_ok, ev_ite, on1, on2, gN, gTup', gsCons, gsNil, boolB, addI, subI, negI, ltI, leI, gtI, geI, eqI, neI, List.map_cons, List.map_nil, List.cons_append, List.nil_append, List.length_cons, List.length_nil, Nat.reduceAdd, Nat.reduceSub, Nat.zero_add, Nat.add_zero, List.replicate_succ, List.replicate_zero, List.append_nil, List.getElem?_cons_succ, List.getElem?_cons_zero, List.set_cons_succ, List.set_cons_zero, Bool.not_true, Bool.not_false, if_true, if_false, ite_true, ite_false, Bool.false_eq_true, reduceIte, Option.some.injEq, Option.bind_some]
    refine for_go (I := fun k ρ S' => ρ = [some (lI cs), some (.int many), some (.loc S.length), none, none, none, none] ∧ S' = S ++ [.lst ((cs.take k).map (tie many))]) ⟨rfl, by simp⟩ (fun i x ρ S' hx ⟨h1, h3⟩ => ?_) (fun _ _ _ => trivial) (fun ρ' S' ⟨e1, e2⟩ => ?_)
    · subst h1 h3
      refine ⟨trivial, _, [some (lI cs), some (.int many), some (.loc S.length), some x, some (.int (stir (cs.getD i 0) 1)), some (.int (stir (cs.getD i 0) 1 % many)), some (.int ((stir (cs.getD i 0) 1 % many + 1 + stir (cs.getD i 0) 1 / many % (many - 1)) % many))], S ++ [.lst ((cs.take (i + 1)).map (tie many))], rfl, ?_, ⟨rfl, rfl⟩⟩
      have hi : i < cs.length := by
        have := (List.getElem?_eq_some_iff.mp hx).1
        simpa using this
      have ex : x = .int cs[i] := by
        rw [List.getElem?_map, List.getElem?_eq_getElem hi] at hx
        exact (Option.some.inj hx).symm
      have eg : cs.getD i 0 = cs[i] := by rw [List.getD_eq_getElem?_getD, List.getElem?_eq_getElem hi]; rfl
      subst ex
      rw [eg]
      have et : (cs.take i).map (tie many) ++ [tie many cs[i]] = (cs.take (i + 1)).map (tie many) := by
        rw [List.take_add_one, List.getElem?_eq_getElem hi, List.map_append]
        rfl
      have ha : mAppend (.loc S.length) [.tup [.int (stir cs[i] 1 % many), .int ((stir cs[i] 1 % many + 1 + stir cs[i] 1 / many % (many - 1)) % many), .int (bound cs[i]), .int (stir cs[i] 2 % 13)]] (S ++ [.lst ((cs.take i).map (tie many))]) = .ok .non (S ++ [.lst ((cs.take (i + 1)).map (tie many))]) := by
        have := append_ok (S := S ++ [.lst ((cs.take i).map (tie many))]) (d := tie many cs[i]) (getLast S _) (by rw [List.length_map, List.length_take, sizeLine_eq]; omega)
        rw [setLast, et] at this
        exact this
      have hls : listOf (.loc S.length) (S ++ [.lst ((cs.take i).map (tie many))]) = .ok ((cs.take i).map (tie many)) (S ++ [.lst ((cs.take i).map (tie many))]) := list_loc (.inl (getLast S _))
      simp only [env0, ev_want, sz0, sz1, sz2, sz3, sz4, sz5, sz6, sz7, sz8, sz9, sz10, sz11, sz12, sz13, eVar, eC, eBin, eUn, eCall, aCons, aNil, eTup, eLst, eNew, nDisp, nCall, sSeq, sAsg, sRet, sRetN, sIf, sExpr, sNil, tOf, tAnd2, tOr2, tNot1, eNot1, ev_bind, ev_pure, go_ok, ev_ite, on1, on2, gN, gTup', gsCons, gsNil, boolB, addI, subI, negI, ltI, leI, gtI, geI, eqI, neI, List.map_cons, List.map_nil, List.cons_append, List.nil_append, List.length_cons, List.length_nil, Nat.reduceAdd, Nat.reduceSub, Nat.zero_add, Nat.add_zero, List.replicate_succ, List.replicate_zero, List.append_nil, List.getElem?_cons_succ, List.getElem?_cons_zero, List.set_cons_succ, List.set_cons_zero, Bool.not_true, Bool.not_false, if_true, if_false, ite_true, ite_false, Bool.false_eq_true, reduceIte, Option.some.injEq, Option.bind_some, stir_ok, bound_ok, modI, fdivI, hd, show (0:Int) < many by omega, show (0:Int) < many - 1 by omega, show (0:Int) < 13 by decide, eMth, hls, ha]
    · rw [List.length_map, List.take_length] at e2
      subst e1 e2
      have hq : tupleD (.loc S.length) (S ++ [.lst (cs.map (tie many))]) = .ok (.tup (cs.map (tie many))) (S ++ [.lst (cs.map (tie many))]) := tuple_ok (seq_loc (.inl (getLast S _)))
      simp only [env0, ev_want, sz0, sz1, sz2, sz3, sz4, sz5, sz6, sz7, sz8, sz9, sz10, sz11, sz12, sz13, eVar, eC, eBin, eUn, eCall, aCons, aNil, eTup, eLst, eNew, nDisp, nCall, sSeq, sAsg, sRet, sRetN, sIf, sExpr, sNil, tOf, tAnd2, tOr2, tNot1, eNot1, ev_bind, ev_pure, go_ok, ev_ite, on1, on2, gN, gTup', gsCons, gsNil, boolB, addI, subI, negI, ltI, leI, gtI, geI, eqI, neI, List.map_cons, List.map_nil, List.cons_append, List.nil_append, List.length_cons, List.length_nil, Nat.reduceAdd, Nat.reduceSub, Nat.zero_add, Nat.add_zero, List.replicate_succ, List.replicate_zero, List.append_nil, List.getElem?_cons_succ, List.getElem?_cons_zero, List.set_cons_succ, List.set_cons_zero, Bool.not_true, Bool.not_false, if_true, if_false, ite_true, ite_false, Bool.false_eq_true, reduceIte, Option.some.injEq, Option.bind_some, hq]
  · exact frz_self (by simp [old, olds, olds_all, tie]) _ _ _
  · exact old_up (by simp [old, olds, olds_all, tie]) _
theorem frz_loc {S : Store} {b n k : Nat} {ns : List Int} (h : S[n]? = some (.lst (ns.map D.int))) (hb : b ≤ n) : frz S b (k + 1) (.loc n) = lI ns := by
  rw [frz, if_neg (by omega), h]
  dsimp only
  rw [frzs_self (olds_ints ns 0)]
theorem old_lI (ns : List Int) (b : Nat) : old b (lI ns) = true := by rw [old]; exact olds_ints ns b
theorem old_tI (ns : List Int) (b : Nat) : old b (tI ns) = true := by rw [old]; exact olds_ints ns b
def ends (head many : Int) : Int := (head / 7 % many + 1 + head / 77 % (many - 1)) % many
theorem ends_ok {many : Int} (h2 : 2 ≤ many) (head : Int) (S : Store) : m_law_ends [.int head, .int many] S = .ok (.tup [.int (head / 7 % many), .int (ends head many)]) S := by
  refine gcF_self ?_ rfl
  have h7 : ∀ i : Int, CDiv i 7 := fun i => by unfold CDiv; omega
  have h77 : ∀ i : Int, CDiv i 77 := fun i => by unfold CDiv; omega
  simp only [b__law_ends, env0, ev_want, sz0, sz1, sz2, sz3, sz4, sz5, sz6, sz7, sz8, sz9, sz10, sz11, sz12, sz13, eVar, eC, eBin, eUn, eCall, aCons, aNil, eTup, eLst, eNew, nDisp, nCall, sSeq, sAsg, sRet, sRetN, sIf, sExpr, sNil, tOf, tAnd2, tOr2, tNot1, eNot1, ev_bind, ev_pure, go_ok, ev_ite, on1, on2, gN, gTup', gsCons, gsNil, boolB, addI, subI, negI, ltI, leI, gtI, geI, eqI, neI, List.map_cons, List.map_nil, List.cons_append, List.nil_append, List.length_cons, List.length_nil, Nat.reduceAdd, Nat.reduceSub, Nat.zero_add, Nat.add_zero, List.replicate_succ, List.replicate_zero, List.append_nil, List.getElem?_cons_succ, List.getElem?_cons_zero, List.set_cons_succ, List.set_cons_zero, Bool.not_true, Bool.not_false, if_true, if_false, ite_true, ite_false, Bool.false_eq_true, reduceIte, Option.some.injEq, Option.bind_some, modI, fdivI, h7, h77, show (0:Int) < many by omega, show (0:Int) < many - 1 by omega]
  rfl
/-! the drawn numbers -/
def drawn (c many : Int) (n : Nat) : List Int := (List.range n).map fun (i : Nat) => stir c (10 + (i : Int)) % many
def numbers (c many : Int) : List Int := if stir c 4 / 9 % 2 = 0 then sortU (drawn c many (stir c 4 % 9).toNat) else drawn c many (stir c 4 % 9).toNat
theorem drawn_len (c many : Int) (n : Nat) : (drawn c many n).length = n := by simp [drawn]
theorem numbers_len (c many : Int) : (numbers c many).length ≤ 8 := by
  have h : (stir c 4 % 9).toNat ≤ 8 := by omega
  unfold numbers
  split
  · exact Nat.le_trans (sortU_len _) (by rw [drawn_len]; exact h)
  · rw [drawn_len]; exact h
theorem numbers_ok {many : Int} (h2 : 2 ≤ many) (c : Int) (S : Store) : m_law_numbers [.int c, .int many] S = .ok (lI (numbers c many)) S := by
  have h9 : ∀ i : Int, CDiv i 9 := fun i => by unfold CDiv; omega
  have hn8 : (stir c 4 % 9).toNat ≤ 8 := by omega
  have en : stir c 4 % 9 = (((stir c 4 % 9).toNat : Nat) : Int) := by have := stir_nn c 4; omega
  have key : ∀ T d, b__law_numbers (env0 5 [.int c, .int many]) S = .ok (.rt d) (S ++ T) → frz (S ++ T) S.length 4 d = lI (numbers c many) → m_law_numbers [.int c, .int many] S = .ok (lI (numbers c many)) S := fun T d h hf => gcF_up h hf (old_lI _ _)
  have body : ∀ r, (∀ (ρ : DEnv) (S' : Store), ρ = [some (.int c), some (.int many), some (.loc S.length), some (.int (stir c 4)), none] → S' = S ++ [.lst ((drawn c many (stir c 4 % 9).toNat).map D.int)] →
      (sSeq (sIf (tOf (eBin eqD (eBin modD (eBin fdivD (eVar 3) (eC (.int 9))) (eC (.int 2))) (eC (.int 0)))) (sAsg (eNew (nSS (eVar 2))) (gN 2)) sNil) (sRet (eVar 2))) ρ S' = r) → b__law_numbers (env0 5 [.int c, .int many]) S = r := by
    intro r hr
    simp only [b__law_numbers, env0, ev_want, sz0, sz1, sz2, sz3, sz4, sz5, sz6, sz7, sz8, sz9, sz10, sz11, sz12, sz13, eVar, eC, eBin, eUn, eCall, aCons, aNil, eTup, eLst, eNew, nDisp, nCall, sSeq, sAsg, sRet, sRetN, sIf, sExpr, sNil, tOf, tAnd2, tOr2, tNot1, eNot1, ev_bind, ev_pure, go_ok, ev_ite, on1, on2, gN, gTup', gsCons, gsNil, boolB, addI, subI, negI, ltI, leI, gtI, geI, eqI, neI, List.map_cons, List.map_nil, List.cons_append, List.nil_append, List.length_cons, List.length_nil, Nat.reduceAdd, Nat.reduceSub, Nat.zero_add, Nat.add_zero, List.replicate_succ, List.replicate_zero, List.append_nil, List.getElem?_cons_succ, List.getElem?_cons_zero, List.set_cons_succ, List.set_cons_zero, Bool.not_true, Bool.not_false, if_true, if_false, ite_true, ite_false, Bool.false_eq_true, reduceIte, Option.some.injEq, Option.bind_some, newM, sFor, stir_ok, dropE]
    have hm : modD (.int (stir c 4)) (.int 9) (S ++ [MO.lst []]) = .ok (.int ((stir c 4 % 9).toNat : Nat)) (S ++ [MO.lst []]) := by rw [modI (by decide), ← en]
    rw [itRg1_ok (S' := S ++ [MO.lst []]) (n := (stir c 4 % 9).toNat) (by simp only [env0, ev_want, sz0, sz1, sz2, sz3, sz4, sz5, sz6, sz7, sz8, sz9, sz10, sz11, sz12, sz13, eVar, eC, eBin, eUn, eCall, aCons, aNil, eTup, eLst, eNew, nDisp, nCall, sSeq, sAsg, sRet, sRetN, sIf, sExpr, sNil, tOf, tAnd2, tOr2, tNot1, eNot1, ev_bind, ev_pure, go_ok, ev_ite, on1, on2, gN, gTup', gsCons, gsNil, boolB, addI, subI, negI, ltI, leI, gtI, geI, eqI, neI, List.map_cons, List.map_nil, List.cons_append, List.nil_append, List.length_cons, List.length_nil, Nat.reduceAdd, Nat.reduceSub, Nat.zero_add, Nat.add_zero, List.replicate_succ, List.replicate_zero, List.append_nil, List.getElem?_cons_succ, List.getElem?_cons_zero, List.set_cons_succ, List.set_cons_zero, Bool.not_true, Bool.not_false, if_true, if_false, ite_true, ite_false, Bool.false_eq_true, reduceIte, Option.some.injEq, Option.bind_some, hm]) (by rw [sizeLine_eq]; omega)]
    simp only [env0, ev_want, sz0, sz1, sz2, sz3, sz4, sz5, sz6, sz7, sz8, sz9, sz10, sz11, sz12, sz13, eVar, eC, eBin, eUn, eCall, aCons, aNil, eTup, eLst, eNew, nDisp, nCall, sSeq, sAsg, sRet, sRetN, sIf, sExpr, sNil, tOf, tAnd2, tOr2, tNot1, eNot1, ev_bind, ev_pure, go_ok, ev_ite, on1, on2, gN, gTup', gsCons, gsNil, boolB, addI, subI, negI, ltI, leI, gtI, geI, eqI, neI, List.map_cons, List.map_nil, List.cons_append, List.nil_append, List.length_cons, List.length_nil, Nat.reduceAdd, Nat.reduceSub, Nat.zero_add, Nat.add_zero, List.replicate_succ, List.replicate_zero, List.append_nil, List.getElem?_cons_succ, List.getElem?_cons_zero, List.set_cons_succ, List.set_cons_zero, Bool.not_true, Bool.not_false, if_true, if_false, ite_true, ite_false, Bool.false_eq_true, reduceIte, Option.some.injEq, Option.bind_some, dropE]
    refine for_go (I := fun k ρ S' => ρ = [some (.int c), some (.int many), some (.loc S.length), some (.int (stir c 4)), none] ∧ S' = S ++ [.lst ((drawn c many k).map D.int)]) ⟨rfl, rfl⟩ (fun i x ρ S' hx ⟨h1, h3⟩ => ?_) (fun _ _ _ => trivial) (fun ρ' S' ⟨e1, e2⟩ => ?_)
    · subst h1 h3
      have hi : i < (stir c 4 % 9).toNat := by
        have := (List.getElem?_eq_some_iff.mp hx).1
        rw [rangeD_nat, List.length_map, List.length_range] at this
        exact this
      have ex : x = .int (i : Nat) := by
        rw [rangeD_nat, List.getElem?_map, List.getElem?_range hi] at hx
        exact (Option.some.inj hx).symm
      subst ex
      refine ⟨trivial, _, [some (.int c), some (.int many), some (.loc S.length), some (.int (stir c 4)), some (.int (i : Nat))], S ++ [.lst ((drawn c many (i + 1)).map D.int)], rfl, ?_, ⟨rfl, rfl⟩⟩
      have et : (drawn c many i).map D.int ++ [D.int (stir c (10 + (i : Int)) % many)] = (drawn c many (i + 1)).map D.int := by
        unfold drawn
        rw [List.range_succ, List.map_append, List.map_append]
        rfl
      have ha : mAppend (.loc S.length) [.int (stir c (10 + (i : Int)) % many)] (S ++ [.lst ((drawn c many i).map D.int)]) = .ok .non (S ++ [.lst ((drawn c many (i + 1)).map D.int)]) := by
        have := append_ok (S := S ++ [.lst ((drawn c many i).map D.int)]) (d := .int (stir c (10 + (i : Int)) % many)) (getLast S _) (by rw [List.length_map, drawn_len, sizeLine_eq]; omega)
        rw [setLast, et] at this
        exact this
      have hls : listOf (.loc S.length) (S ++ [.lst ((drawn c many i).map D.int)]) = .ok ((drawn c many i).map D.int) (S ++ [.lst ((drawn c many i).map D.int)]) := list_loc (.inl (getLast S _))
      simp only [env0, ev_want, sz0, sz1, sz2, sz3, sz4, sz5, sz6, sz7, sz8, sz9, sz10, sz11, sz12, sz13, eVar, eC, eBin, eUn, eCall, aCons, aNil, eTup, eLst, eNew, nDisp, nCall, sSeq, sAsg, sRet, sRetN, sIf, sExpr, sNil, tOf, tAnd2, tOr2, tNot1, eNot1, ev_bind, ev_pure, go_ok, ev_ite, on1, on2, gN, gTup', gsCons, gsNil, boolB, addI, subI, negI, ltI, leI, gtI, geI, eqI, neI, List.map_cons, List.map_nil, List.cons_append, List.nil_append, List.length_cons, List.length_nil, Nat.reduceAdd, Nat.reduceSub, Nat.zero_add, Nat.add_zero, List.replicate_succ, List.replicate_zero, List.append_nil, List.getElem?_cons_succ, List.getElem?_cons_zero, List.set_cons_succ, List.set_cons_zero, Bool.not_true, Bool.not_false, if_true, if_false, ite_true, ite_false, Bool.false_eq_true, reduceIte, Option.some.injEq, Option.bind_some, stir_ok, modI, show (0:Int) < many by omega, eMth, hls, ha]
    · have hlen : (rangeD 0 ((stir c 4 % 9).toNat : Int)).length = (stir c 4 % 9).toNat := by rw [rangeD_nat, List.length_map, List.length_range]
      rw [hlen] at e2
      have := hr ρ' S' e1 e2
      simp only [env0, ev_want, sz0, sz1, sz2, sz3, sz4, sz5, sz6, sz7, sz8, sz9, sz10, sz11, sz12, sz13, eVar, eC, eBin, eUn, eCall, aCons, aNil, eTup, eLst, eNew, nDisp, nCall, sSeq, sAsg, sRet, sRetN, sIf, sExpr, sNil, tOf, tAnd2, tOr2, tNot1, eNot1, ev_bind, ev_pure, go_ok, ev_ite, on1, on2, gN, gTup', gsCons, gsNil, boolB, addI, subI, negI, ltI, leI, gtI, geI, eqI, neI, List.map_cons, List.map_nil, List.cons_append, List.nil_append, List.length_cons, List.length_nil, Nat.reduceAdd, Nat.reduceSub, Nat.zero_add, Nat.add_zero, List.replicate_succ, List.replicate_zero, List.append_nil, List.getElem?_cons_succ, List.getElem?_cons_zero, List.set_cons_succ, List.set_cons_zero, Bool.not_true, Bool.not_false, if_true, if_false, ite_true, ite_false, Bool.false_eq_true, reduceIte, Option.some.injEq, Option.bind_some] at this ⊢
      exact this
  by_cases q : stir c 4 / 9 % 2 = 0
  · refine key [.lst ((drawn c many (stir c 4 % 9).toNat).map D.int), .lst ((sortU (drawn c many (stir c 4 % 9).toNat)).map D.int)] (.loc (S.length + 1)) (body _ fun ρ S' h1 h3 => ?_) ?_
    · subst h1 h3
      have hss := nSS_ok (f := eVar 2) (ρ := [some (.int c), some (.int many), some (.loc S.length), some (.int (stir c 4)), none]) (x := .loc S.length) (ns := drawn c many (stir c 4 % 9).toNat) (S := S ++ [.lst ((drawn c many (stir c 4 % 9).toNat).map D.int)]) (eVar_ok rfl) (seq_loc (.inl (getLast S _))) (by rw [drawn_len]; omega)
      simp only [env0, ev_want, sz0, sz1, sz2, sz3, sz4, sz5, sz6, sz7, sz8, sz9, sz10, sz11, sz12, sz13, eVar, eC, eBin, eUn, eCall, aCons, aNil, eTup, eLst, eNew, nDisp, nCall, sSeq, sAsg, sRet, sRetN, sIf, sExpr, sNil, tOf, tAnd2, tOr2, tNot1, eNot1, ev_bind, ev_pure, go_ok, ev_ite, on1, on2, gN, gTup', gsCons, gsNil, boolB, addI, subI, negI, ltI, leI, gtI, geI, eqI, neI, List.map_cons, List.map_nil, List.cons_append, List.nil_append, List.length_cons, List.length_nil, Nat.reduceAdd, Nat.reduceSub, Nat.zero_add, Nat.add_zero, List.replicate_succ, List.replicate_zero, List.append_nil, List.getElem?_cons_succ, List.getElem?_cons_zero, List.set_cons_succ, List.set_cons_zero, Bool.not_true, Bool.not_false, if_true, if_false, ite_true, ite_false, Bool.false_eq_true, reduceIte, Option.some.injEq, Option.bind_some, modI, fdivI, h9, show (0:Int) < 2 by decide, q, decide_true]
      simp only [env0, ev_want, sz0, sz1, sz2, sz3, sz4, sz5, sz6, sz7, sz8, sz9, sz10, sz11, sz12, sz13, eVar, eC, eBin, eUn, eCall, aCons, aNil, eTup, eLst, eNew, nDisp, nCall, sSeq, sAsg, sRet, sRetN, sIf, sExpr, sNil, tOf, tAnd2, tOr2, tNot1, eNot1, ev_bind, ev_pure, go_ok, ev_ite, on1, on2, gN, gTup', gsCons, gsNil, boolB, addI, subI, negI, ltI, leI, gtI, geI, eqI, neI, List.map_cons, List.map_nil, List.cons_append, List.nil_append, List.length_cons, List.length_nil, Nat.reduceAdd, Nat.reduceSub, Nat.zero_add, Nat.add_zero, List.replicate_succ, List.replicate_zero, List.append_nil, List.getElem?_cons_succ, List.getElem?_cons_zero, List.set_cons_succ, List.set_cons_zero, Bool.not_true, Bool.not_false, if_true, if_false, ite_true, ite_false, Bool.false_eq_true, reduceIte, Option.some.injEq, Option.bind_some, hss, newM]
      simp
    · rw [frz_loc (ns := sortU (drawn c many (stir c 4 % 9).toNat)) (by simp) (Nat.le_succ _)]
      unfold numbers
      rw [if_pos q]
  · refine key [.lst ((drawn c many (stir c 4 % 9).toNat).map D.int)] (.loc S.length) (body _ fun ρ S' h1 h3 => ?_) ?_
    · subst h1 h3
      simp only [env0, ev_want, sz0, sz1, sz2, sz3, sz4, sz5, sz6, sz7, sz8, sz9, sz10, sz11, sz12, sz13, eVar, eC, eBin, eUn, eCall, aCons, aNil, eTup, eLst, eNew, nDisp, nCall, sSeq, sAsg, sRet, sRetN, sIf, sExpr, sNil, tOf, tAnd2, tOr2, tNot1, eNot1, ev_bind, ev_pure, go_ok, ev_ite, on1, on2, gN, gTup', gsCons, gsNil, boolB, addI, subI, negI, ltI, leI, gtI, geI, eqI, neI, List.map_cons, List.map_nil, List.cons_append, List.nil_append, List.length_cons, List.length_nil, Nat.reduceAdd, Nat.reduceSub, Nat.zero_add, Nat.add_zero, List.replicate_succ, List.replicate_zero, List.append_nil, List.getElem?_cons_succ, List.getElem?_cons_zero, List.set_cons_succ, List.set_cons_zero, Bool.not_true, Bool.not_false, if_true, if_false, ite_true, ite_false, Bool.false_eq_true, reduceIte, Option.some.injEq, Option.bind_some, modI, fdivI, h9, show (0:Int) < 2 by decide, q, decide_false]
    · rw [frz_loc (ns := drawn c many (stir c 4 % 9).toNat) (by simp) (Nat.le_refl _)]
      unfold numbers
      rw [if_neg q]
end
end LW

set_option Elab.async false
set_option linter.all false
set_option maxRecDepth 100000
set_option maxHeartbeats 2000000
namespace LW
open PySem PySem.Spec L2 LP
set_option autoImplicit false
noncomputable section
theorem atI_last {α : Type} {xs : List α} (h : xs ≠ []) : atI xs (-1) = xs[xs.length - 1]? := by
  have hl : 0 < xs.length := List.length_pos_iff.mpr h
  unfold atI ixN
  rw [if_neg (by omega), if_pos (by omega)]
  show xs[((-1 : Int) + xs.length).toNat]? = _
  congr 1
  omega
theorem spoilt_ok {many : Int} (ns : List Int) (hl : ns.length ≤ 9) (c : Int) (S : Store) : ∃ ms : List Int, ms.length = ns.length + 1 ∧ m_law_spoilt [lI ns, .int c, .int many] S = .ok (lI ms) S := by
  have hp : CPow 10 20 := by unfold CPow; omega
  let bads : List Int := [-1, many, many + 1, 10 ^ (20 : Int).toNat, -many, 0, many - 1]
  have h7 : stir c 7 % 7 = (((stir c 7 % 7).toNat : Nat) : Int) := by omega
  have hb7 : (stir c 7 % 7).toNat < bads.length := by show _ < 7; omega
  have h8 : stir c 8 % ((ns.length : Int) + 1) = (((stir c 8 % ((ns.length : Int) + 1)).toNat : Nat) : Int) := by
    have := Int.emod_nonneg (stir c 8) (show ((ns.length : Int) + 1) ≠ 0 by omega)
    omega
  have hb8 : (stir c 8 % ((ns.length : Int) + 1)).toNat ≤ ns.length := by
    have := Int.emod_lt_of_pos (stir c 8) (show (0 : Int) < (ns.length : Int) + 1 by omega)
    omega
  generalize hj : (stir c 8 % ((ns.length : Int) + 1)).toNat = j at h8 hb8
  generalize hk : (stir c 7 % 7).toNat = k at h7 hb7
  refine ⟨ns.take j ++ [bads[k]] ++ ns.drop j, by simp; omega, ?_⟩
  refine gcF_up (T := [.lst ((ns.take j ++ [bads[k]] ++ ns.drop j).map D.int)]) (d := .loc S.length) ?_ (frz_loc (getLast S _) (Nat.le_refl _)) (old_lI _ _)
  have hln : listN (lI ns) S = .ok (ns.map D.int) S := rfl
  have hix : ∀ S : Store, idxD (.lst [.int (-1), .int many, .int (many + 1), .int (10 ^ (20 : Int).toNat), .int (-many), .int 0, .int (many - 1)]) (.int (k : Nat)) S = .ok (.int bads[k]) S := fun S => by
    refine idx_ok (xs := bads.map D.int) rfl ?_
    rw [atI_nat' rfl, List.getElem?_map, List.getElem?_eq_getElem hb7]
    rfl
  have hlen : lenD (.loc S.length) (S ++ [.lst (ns.map D.int)]) = .ok (.int (ns.length : Nat)) (S ++ [.lst (ns.map D.int)]) := by
    rw [len_ok (xs := ns.map D.int) (by intro z e; cases e) (seq_loc (.inl (getLast S _))), List.length_map]
  have hls : listOf (.loc S.length) (S ++ [.lst (ns.map D.int)]) = .ok (ns.map D.int) (S ++ [.lst (ns.map D.int)]) := list_loc (.inl (getLast S _))
  have hin : mInsert (.loc S.length) [.int (j : Nat), .int bads[k]] (S ++ [.lst (ns.map D.int)]) = .ok .non (S ++ [.lst ((ns.take j ++ [bads[k]] ++ ns.drop j).map D.int)]) := by
    rw [insert_ok (getLast S _) (by omega) (by simp; omega), setLast]
    simp
  simp only [b__law_spoilt, env0, ev_want, sz0, sz1, sz2, sz3, sz4, sz5, sz6, sz7, sz8, sz9, sz10, sz11, sz12, sz13, eVar, eC, eBin, eUn, eCall, aCons, aNil, eTup, eLst, eNew, nDisp, nCall, sSeq, sAsg, sRet, sRetN, sIf, sExpr, sNil, tOf, tAnd2, tOr2, tNot1, eNot1, ev_bind, ev_pure, go_ok, ev_ite, on1, on2, gN, gTup', gsCons, gsNil, boolB, addI, subI, negI, ltI, leI, gtI, geI, eqI, neI, List.map_cons, List.map_nil, List.cons_append, List.nil_append, List.length_cons, List.length_nil, Nat.reduceAdd, Nat.reduceSub, Nat.zero_add, Nat.add_zero, List.replicate_succ, List.replicate_zero, List.append_nil, List.getElem?_cons_succ, List.getElem?_cons_zero, List.set_cons_succ, List.set_cons_zero, Bool.not_true, Bool.not_false, if_true, if_false, ite_true, ite_false, Bool.false_eq_true, reduceIte, Option.some.injEq, Option.bind_some, hln, newM, negI, powI, hp, stir_ok, modI, show (0:Int) < 7 by decide, h7, hix, hlen, show (0:Int) < (ns.length : Int) + 1 by omega, h8, hls, eMth, hin]

/-! is it a side? -/
def sideP (many first last : Int) (ns : List Int) : Bool := decide (ns.Pairwise (· < ·)) && (decide (∀ k ∈ ns, 0 ≤ k ∧ k < many) && (decide (first ∈ ns) && !decide (last ∈ ns)))
theorem sortU_self {ns : List Int} : ns = sortU ns ↔ ns.Pairwise (· < ·) := ⟨fun h => by rw [h]; exact pw_sortU ns, fun h => sortU_eq h fun _ => Iff.rfl⟩
theorem law_is_side_ok {many first last : Int} (ns : List Int) (hl : ns.length < 64) (S : Store) : m_law_is_side [lI ns, .int many, .int first, .int last] S = .ok (.bl (sideP many first last ns)) S := by
  refine gcF_self ?_ rfl
  have hss := nSS_ok (f := eVar 0) (ρ := [some (lI ns), some (.int many), some (.int first), some (.int last)]) (x := lI ns) (ns := ns) (S := S) (eVar_ok rfl) rfl hl
  have hne := ne_lI ns (sortU ns) S
  have h1 := nin_ok (x := lI ns) (ns := ns) (k := first) (S := S) rfl
  have h2 := in_ok (x := lI ns) (ns := ns) (k := last) (S := S) rfl
  unfold sideP
  by_cases q1 : ns.Pairwise (· < ·)
  · have e1 : ns = sortU ns := sortU_self.mpr q1
    rw [decide_eq_true e1] at hne
    by_cases q2 : first ∈ ns
    · by_cases q3 : last ∈ ns
      · simp only [b__law_is_side, env0, ev_want, sz0, sz1, sz2, sz3, sz4, sz5, sz6, sz7, sz8, sz9, sz10, sz11, sz12, sz13, eVar, eC, eBin, eUn, eCall, aCons, aNil, eTup, eLst, eNew, nDisp, nCall, sSeq, sAsg, sRet, sRetN, sIf, sExpr, sNil, tOf, tAnd2, tOr2, tNot1, eNot1, ev_bind, ev_pure, go_ok, ev_ite, on1, on2, gN, gTup', gsCons, gsNil, boolB, addI, subI, negI, ltI, leI, gtI, geI, eqI, neI, List.map_cons, List.map_nil, List.cons_append, List.nil_append, List.length_cons, List.length_nil, Nat.reduceAdd, Nat.reduceSub, Nat.zero_add, Nat.add_zero, List.replicate_succ, List.replicate_zero, List.append_nil, List.getElem?_cons_succ, List.getElem?_cons_zero, List.set_cons_succ, List.set_cons_zero, Bool.not_true, Bool.not_false, if_true, if_false, ite_true, ite_false, Bool.false_eq_true, reduceIte, Option.some.injEq, Option.bind_some, hss, hne, h1, h2, q1, q2, q3, decide_true, Bool.not_true, Bool.and_false]
      · have hn : ns ≠ [] := fun e => by rw [e] at q2; cases q2
        have hl0 : 0 < ns.length := List.length_pos_iff.mpr hn
        have x0 : idxD (lI ns) (.int 0) S = .ok (.int ns[0]) S := idx_ok (xs := ns.map D.int) rfl (by rw [atI_nat' (k := 0) (j := 0) rfl, List.getElem?_map, List.getElem?_eq_getElem hl0]; rfl)
        have x1 : idxD (lI ns) (.int (-1)) S = .ok (.int (ns[ns.length - 1]'(by omega))) S := idx_ok (xs := ns.map D.int) rfl (by rw [atI_last (by simpa using hn), List.length_map, List.getElem?_map, List.getElem?_eq_getElem (by omega)]; rfl)
        have ek : decide (∀ k ∈ ns, 0 ≤ k ∧ k < many) = (decide ((0 : Int) ≤ ns[0]) && decide (ns[ns.length - 1]'(by omega) < many)) := by
          rw [Bool.eq_iff_iff, Bool.and_eq_true, decide_eq_true_iff, decide_eq_true_iff, decide_eq_true_iff]
          constructor
          · intro h
            exact ⟨(h _ (List.getElem_mem _)).1, (h _ (List.getElem_mem _)).2⟩
          · rintro ⟨a, b⟩ k hk
            obtain ⟨i, hi, rfl⟩ := List.getElem_of_mem hk
            constructor
            · by_cases z : i = 0
              · subst z; exact a
              · have := List.pairwise_iff_getElem.mp q1 0 i hl0 hi (by omega)
                omega
            · by_cases z : i = ns.length - 1
              · subst z; exact b
              · have := List.pairwise_iff_getElem.mp q1 i (ns.length - 1) hi (by omega) (by omega)
                omega
        rw [ek]
        simp only [b__law_is_side, env0, ev_want, sz0, sz1, sz2, sz3, sz4, sz5, sz6, sz7, sz8, sz9, sz10, sz11, sz12, sz13, eVar, eC, eBin, eUn, eCall, aCons, aNil, eTup, eLst, eNew, nDisp, nCall, sSeq, sAsg, sRet, sRetN, sIf, sExpr, sNil, tOf, tAnd2, tOr2, tNot1, eNot1, ev_bind, ev_pure, go_ok, ev_ite, on1, on2, gN, gTup', gsCons, gsNil, boolB, addI, subI, negI, ltI, leI, gtI, geI, eqI, neI, List.map_cons, List.map_nil, List.cons_append, List.nil_append, List.length_cons, List.length_nil, Nat.reduceAdd, Nat.reduceSub, Nat.zero_add, Nat.add_zero, List.replicate_succ, List.replicate_zero, List.append_nil, List.getElem?_cons_succ, List.getElem?_cons_zero, List.set_cons_succ, List.set_cons_zero, Bool.not_true, Bool.not_false, if_true, if_false, ite_true, ite_false, Bool.false_eq_true, reduceIte, Option.some.injEq, Option.bind_some, hss, hne, h1, h2, q1, q2, q3, decide_true, decide_false, Bool.not_true, Bool.not_false, negI, eAnd2, x0, x1, Bool.true_and, Bool.and_true]
        by_cases z : (0 : Int) ≤ ns[0]
        · simp only [z, decide_true, env0, ev_want, sz0, sz1, sz2, sz3, sz4, sz5, sz6, sz7, sz8, sz9, sz10, sz11, sz12, sz13, eVar, eC, eBin, eUn, eCall, aCons, aNil, eTup, eLst, eNew, nDisp, nCall, sSeq, sAsg, sRet, sRetN, sIf, sExpr, sNil, tOf, tAnd2, tOr2, tNot1, eNot1, ev_bind, ev_pure, go_ok, ev_ite, on1, on2, gN, gTup', gsCons, gsNil, boolB, addI, subI, negI, ltI, leI, gtI, geI, eqI, neI, List.map_cons, List.map_nil, List.cons_append, List.nil_append, List.length_cons, List.length_nil, Nat.reduceAdd, Nat.reduceSub, Nat.zero_add, Nat.add_zero, List.replicate_succ, List.replicate_zero, List.append_nil, List.getElem?_cons_succ, List.getElem?_cons_zero, List.set_cons_succ, List.set_cons_zero, Bool.not_true, Bool.not_false, if_true, if_false, ite_true, ite_false, Bool.false_eq_true, reduceIte, Option.some.injEq, Option.bind_some, Bool.true_and]
        · simp only [z, decide_false, env0, ev_want, sz0, sz1, sz2, sz3, sz4, sz5, sz6, sz7, sz8, sz9, sz10, sz11, sz12, sz13, eVar, eC, eBin, eUn, eCall, aCons, aNil, eTup, eLst, eNew, nDisp, nCall, sSeq, sAsg, sRet, sRetN, sIf, sExpr, sNil, tOf, tAnd2, tOr2, tNot1, eNot1, ev_bind, ev_pure, go_ok, ev_ite, on1, on2, gN, gTup', gsCons, gsNil, boolB, addI, subI, negI, ltI, leI, gtI, geI, eqI, neI, List.map_cons, List.map_nil, List.cons_append, List.nil_append, List.length_cons, List.length_nil, Nat.reduceAdd, Nat.reduceSub, Nat.zero_add, Nat.add_zero, List.replicate_succ, List.replicate_zero, List.append_nil, List.getElem?_cons_succ, List.getElem?_cons_zero, List.set_cons_succ, List.set_cons_zero, Bool.not_true, Bool.not_false, if_true, if_false, ite_true, ite_false, Bool.false_eq_true, reduceIte, Option.some.injEq, Option.bind_some, Bool.false_and]
    · simp only [b__law_is_side, env0, ev_want, sz0, sz1, sz2, sz3, sz4, sz5, sz6, sz7, sz8, sz9, sz10, sz11, sz12, sz13, eVar, eC, eBin, eUn, eCall, aCons, aNil, eTup, eLst, eNew, nDisp, nCall, sSeq, sAsg, sRet, sRetN, sIf, sExpr, sNil, tOf, tAnd2, tOr2, tNot1, eNot1, ev_bind, ev_pure, go_ok, ev_ite, on1, on2, gN, gTup', gsCons, gsNil, boolB, addI, subI, negI, ltI, leI, gtI, geI, eqI, neI, List.map_cons, List.map_nil, List.cons_append, List.nil_append, List.length_cons, List.length_nil, Nat.reduceAdd, Nat.reduceSub, Nat.zero_add, Nat.add_zero, List.replicate_succ, List.replicate_zero, List.append_nil, List.getElem?_cons_succ, List.getElem?_cons_zero, List.set_cons_succ, List.set_cons_zero, Bool.not_true, Bool.not_false, if_true, if_false, ite_true, ite_false, Bool.false_eq_true, reduceIte, Option.some.injEq, Option.bind_some, hss, hne, h1, h2, q1, q2, decide_true, decide_false, Bool.not_true, Bool.not_false, Bool.false_and, Bool.and_false]
  · have e1 : ¬ ns = sortU ns := fun e => q1 (sortU_self.mp e)
    rw [decide_eq_false e1] at hne
    simp only [b__law_is_side, env0, ev_want, sz0, sz1, sz2, sz3, sz4, sz5, sz6, sz7, sz8, sz9, sz10, sz11, sz12, sz13, eVar, eC, eBin, eUn, eCall, aCons, aNil, eTup, eLst, eNew, nDisp, nCall, sSeq, sAsg, sRet, sRetN, sIf, sExpr, sNil, tOf, tAnd2, tOr2, tNot1, eNot1, ev_bind, ev_pure, go_ok, ev_ite, on1, on2, gN, gTup', gsCons, gsNil, boolB, addI, subI, negI, ltI, leI, gtI, geI, eqI, neI, List.map_cons, List.map_nil, List.cons_append, List.nil_append, List.length_cons, List.length_nil, Nat.reduceAdd, Nat.reduceSub, Nat.zero_add, Nat.add_zero, List.replicate_succ, List.replicate_zero, List.append_nil, List.getElem?_cons_succ, List.getElem?_cons_zero, List.set_cons_succ, List.set_cons_zero, Bool.not_true, Bool.not_false, if_true, if_false, ite_true, ite_false, Bool.false_eq_true, reduceIte, Option.some.injEq, Option.bind_some, hss, hne, q1, decide_false, Bool.not_false, Bool.false_and]
theorem is_side_ok {many first last : Int} (ties : D) (ns : List Int) (hl : ns.length < 64) (S : Store) : m_is_side [.tup [.int many, ties], .int first, .int last, tI ns] S = .ok (.bl (sideP many first last ns)) S := by
  refine gcF_self ?_ rfl
  have hlen : lenD (tI ns) S = .ok (.int (ns.length : Nat)) S := by rw [len_ok (xs := ns.map D.int) (by intro z e; cases e) rfl, List.length_map]
  have h1 := in_ok (x := tI ns) (ns := ns) (k := first) (S := S) rfl
  have h2 := nin_ok (x := tI ns) (ns := ns) (k := last) (S := S) rfl
  simp only [b_is_side, env0, ev_want, sz0, sz1, sz2, sz3, sz4, sz5, sz6, sz7, sz8, sz9, sz10, sz11, sz12, sz13, eVar, eC, eBin, eUn, eCall, aCons, aNil, eTup, eLst, eNew, nDisp, nCall, sSeq, sAsg, sRet, sRetN, sIf, sExpr, sNil, tOf, tAnd2, tOr2, tNot1, eNot1, ev_bind, ev_pure, go_ok, ev_ite, on1, on2, gN, gTup', gsCons, gsNil, boolB, addI, subI, negI, ltI, leI, gtI, geI, eqI, neI, List.map_cons, List.map_nil, List.cons_append, List.nil_append, List.length_cons, List.length_nil, Nat.reduceAdd, Nat.reduceSub, Nat.zero_add, Nat.add_zero, List.replicate_succ, List.replicate_zero, List.append_nil, List.getElem?_cons_succ, List.getElem?_cons_zero, List.set_cons_succ, List.set_cons_zero, Bool.not_true, Bool.not_false, if_true, if_false, ite_true, ite_false, Bool.false_eq_true, reduceIte, Option.some.injEq, Option.bind_some, sFor]
  rw [itRg1_ok (S' := S) (n := ns.length) (by simp only [env0, ev_want, sz0, sz1, sz2, sz3, sz4, sz5, sz6, sz7, sz8, sz9, sz10, sz11, sz12, sz13, eVar, eC, eBin, eUn, eCall, aCons, aNil, eTup, eLst, eNew, nDisp, nCall, sSeq, sAsg, sRet, sRetN, sIf, sExpr, sNil, tOf, tAnd2, tOr2, tNot1, eNot1, ev_bind, ev_pure, go_ok, ev_ite, on1, on2, gN, gTup', gsCons, gsNil, boolB, addI, subI, negI, ltI, leI, gtI, geI, eqI, neI, List.map_cons, List.map_nil, List.cons_append, List.nil_append, List.length_cons, List.length_nil, Nat.reduceAdd, Nat.reduceSub, Nat.zero_add, Nat.add_zero, List.replicate_succ, List.replicate_zero, List.append_nil, List.getElem?_cons_succ, List.getElem?_cons_zero, List.set_cons_succ, List.set_cons_zero, Bool.not_true, Bool.not_false, if_true, if_false, ite_true, ite_false, Bool.false_eq_true, reduceIte, Option.some.injEq, Option.bind_some, hlen]) (by rw [sizeLine_eq]; omega)]
  simp only [env0, ev_want, sz0, sz1, sz2, sz3, sz4, sz5, sz6, sz7, sz8, sz9, sz10, sz11, sz12, sz13, eVar, eC, eBin, eUn, eCall, aCons, aNil, eTup, eLst, eNew, nDisp, nCall, sSeq, sAsg, sRet, sRetN, sIf, sExpr, sNil, tOf, tAnd2, tOr2, tNot1, eNot1, ev_bind, ev_pure, go_ok, ev_ite, on1, on2, gN, gTup', gsCons, gsNil, boolB, addI, subI, negI, ltI, leI, gtI, geI, eqI, neI, List.map_cons, List.map_nil, List.cons_append, List.nil_append, List.length_cons, List.length_nil, Nat.reduceAdd, Nat.reduceSub, Nat.zero_add, Nat.add_zero, List.replicate_succ, List.replicate_zero, List.append_nil, List.getElem?_cons_succ, List.getElem?_cons_zero, List.set_cons_succ, List.set_cons_zero, Bool.not_true, Bool.not_false, if_true, if_false, ite_true, ite_false, Bool.false_eq_true, reduceIte, Option.some.injEq, Option.bind_some, dropE]
  let bad : Nat → Bool := fun i => decide (ns.getD i 0 < 0) || (decide (many ≤ ns.getD i 0) || (decide (0 < i) && decide (ns.getD i 0 ≤ ns.getD (i - 1) 0)))
  let P : D → Bool := fun d => match d with
    | .int i => bad i.toNat
    | _ => false
  refine find_go (.bl false) P trivial (fun x hx => ?_) (fun h => ?_) (fun h => ?_)
  · rw [rangeD_nat] at hx
    obtain ⟨i, hi, rfl⟩ := List.mem_map.mp hx
    have hi : i < ns.length := List.mem_range.mp hi
    refine ⟨[some (.tup [.int many, ties]), some (.int first), some (.int last), some (tI ns), some (.int (i : Nat))], rfl, ?_⟩
    have eg : ns.getD i 0 = ns[i] := by rw [List.getD_eq_getElem?_getD, List.getElem?_eq_getElem hi]; rfl
    have xi : idxD (tI ns) (.int (i : Nat)) S = .ok (.int ns[i]) S := idx_ok (xs := ns.map D.int) rfl (by rw [atI_nat' rfl, List.getElem?_map, List.getElem?_eq_getElem hi]; rfl)
    have x0 : idxD (.tup [.int many, ties]) (.int 0) S = .ok (.int many) S := idx_ok (xs := [.int many, ties]) rfl (by rw [atI_nat' (k := 0) (j := 0) rfl]; rfl)
    have eP : P (.int (i : Nat)) = bad i := by show bad ((i : Nat) : Int).toNat = _; rw [Int.toNat_natCast]
    rw [eP]
    have eb : bad i = (decide (ns[i] < 0) || (decide (many ≤ ns[i]) || (decide (0 < i) && decide (ns[i] ≤ ns.getD (i - 1) 0)))) := by show (decide (ns.getD i 0 < 0) || _) = _; rw [eg]
    rw [eb]
    by_cases a : ns[i] < 0
    · simp only [env0, ev_want, sz0, sz1, sz2, sz3, sz4, sz5, sz6, sz7, sz8, sz9, sz10, sz11, sz12, sz13, eVar, eC, eBin, eUn, eCall, aCons, aNil, eTup, eLst, eNew, nDisp, nCall, sSeq, sAsg, sRet, sRetN, sIf, sExpr, sNil, tOf, tAnd2, tOr2, tNot1, eNot1, ev_bind, ev_pure, go_ok, ev_ite, on1, on2, gN, gTup', gsCons, gsNil, boolB, addI, subI, negI, ltI, leI, gtI, geI, eqI, neI, List.map_cons, List.map_nil, List.cons_append, List.nil_append, List.length_cons, List.length_nil, Nat.reduceAdd, Nat.reduceSub, Nat.zero_add, Nat.add_zero, List.replicate_succ, List.replicate_zero, List.append_nil, List.getElem?_cons_succ, List.getElem?_cons_zero, List.set_cons_succ, List.set_cons_zero, Bool.not_true, Bool.not_false, if_true, if_false, ite_true, ite_false, Bool.false_eq_true, reduceIte, Option.some.injEq, Option.bind_some, xi, x0, a, decide_true, Bool.true_or]
    · by_cases b : many ≤ ns[i]
      · simp only [env0, ev_want, sz0, sz1, sz2, sz3, sz4, sz5, sz6, sz7, sz8, sz9, sz10, sz11, sz12, sz13, eVar, eC, eBin, eUn, eCall, aCons, aNil, eTup, eLst, eNew, nDisp, nCall, sSeq, sAsg, sRet, sRetN, sIf, sExpr, sNil, tOf, tAnd2, tOr2, tNot1, eNot1, ev_bind, ev_pure, go_ok, ev_ite, on1, on2, gN, gTup', gsCons, gsNil, boolB, addI, subI, negI, ltI, leI, gtI, geI, eqI, neI, List.map_cons, List.map_nil, List.cons_append, List.nil_append, List.length_cons, List.length_nil, Nat.reduceAdd, Nat.reduceSub, Nat.zero_add, Nat.add_zero, List.replicate_succ, List.replicate_zero, List.append_nil, List.getElem?_cons_succ, List.getElem?_cons_zero, List.set_cons_succ, List.set_cons_zero, Bool.not_true, Bool.not_false, if_true, if_false, ite_true, ite_false, Bool.false_eq_true, reduceIte, Option.some.injEq, Option.bind_some, xi, x0, a, b, decide_true, decide_false, Bool.true_or, Bool.false_or]
      · by_cases z : 0 < i
        · have zi : ((0 : Int) < (i : Nat)) := by omega
          have ei : ((i : Nat) : Int) - 1 = ((i - 1 : Nat) : Int) := by omega
          have xj : idxD (tI ns) (.int ((i - 1 : Nat) : Int)) S = .ok (.int (ns[i - 1]'(by omega))) S := idx_ok (xs := ns.map D.int) rfl (by rw [atI_nat' rfl, List.getElem?_map, List.getElem?_eq_getElem (by omega)]; rfl)
          have ej : ns.getD (i - 1) 0 = ns[i - 1]'(by omega) := by rw [List.getD_eq_getElem?_getD, List.getElem?_eq_getElem (by omega)]; rfl
          by_cases y : ns[i] ≤ ns[i - 1]'(by omega)
          · simp only [env0, ev_want, sz0, sz1, sz2, sz3, sz4, sz5, sz6, sz7, sz8, sz9, sz10, sz11, sz12, sz13, eVar, eC, eBin, eUn, eCall, aCons, aNil, eTup, eLst, eNew, nDisp, nCall, sSeq, sAsg, sRet, sRetN, sIf, sExpr, sNil, tOf, tAnd2, tOr2, tNot1, eNot1, ev_bind, ev_pure, go_ok, ev_ite, on1, on2, gN, gTup', gsCons, gsNil, boolB, addI, subI, negI, ltI, leI, gtI, geI, eqI, neI, List.map_cons, List.map_nil, List.cons_append, List.nil_append, List.length_cons, List.length_nil, Nat.reduceAdd, Nat.reduceSub, Nat.zero_add, Nat.add_zero, List.replicate_succ, List.replicate_zero, List.append_nil, List.getElem?_cons_succ, List.getElem?_cons_zero, List.set_cons_succ, List.set_cons_zero, Bool.not_true, Bool.not_false, if_true, if_false, ite_true, ite_false, Bool.false_eq_true, reduceIte, Option.some.injEq, Option.bind_some, xi, x0, a, b, z, zi, ei, xj, ej, y, decide_true, decide_false, Bool.true_or, Bool.false_or, Bool.true_and]
          · simp only [env0, ev_want, sz0, sz1, sz2, sz3, sz4, sz5, sz6, sz7, sz8, sz9, sz10, sz11, sz12, sz13, eVar, eC, eBin, eUn, eCall, aCons, aNil, eTup, eLst, eNew, nDisp, nCall, sSeq, sAsg, sRet, sRetN, sIf, sExpr, sNil, tOf, tAnd2, tOr2, tNot1, eNot1, ev_bind, ev_pure, go_ok, ev_ite, on1, on2, gN, gTup', gsCons, gsNil, boolB, addI, subI, negI, ltI, leI, gtI, geI, eqI, neI, List.map_cons, List.map_nil, List.cons_append, List.nil_append, List.length_cons, List.length_nil, Nat.reduceAdd, Nat.reduceSub, Nat.zero_add, Nat.add_zero, List.replicate_succ, List.replicate_zero, List.append_nil, List.getElem?_cons_succ, List.getElem?_cons_zero, List.set_cons_succ, List.set_cons_zero, Bool.not_true, Bool.not_false, if_true, if_false, ite_true, ite_false, Bool.false_eq_true, reduceIte, Option.some.injEq, Option.bind_some, xi, x0, a, b, z, zi, ei, xj, ej, y, decide_true, decide_false, Bool.true_or, Bool.false_or, Bool.true_and]
            exact ⟨_, rfl, rfl⟩
        · have zi : ¬ ((0 : Int) < (i : Nat)) := by omega
          simp only [env0, ev_want, sz0, sz1, sz2, sz3, sz4, sz5, sz6, sz7, sz8, sz9, sz10, sz11, sz12, sz13, eVar, eC, eBin, eUn, eCall, aCons, aNil, eTup, eLst, eNew, nDisp, nCall, sSeq, sAsg, sRet, sRetN, sIf, sExpr, sNil, tOf, tAnd2, tOr2, tNot1, eNot1, ev_bind, ev_pure, go_ok, ev_ite, on1, on2, gN, gTup', gsCons, gsNil, boolB, addI, subI, negI, ltI, leI, gtI, geI, eqI, neI, List.map_cons, List.map_nil, List.cons_append, List.nil_append, List.length_cons, List.length_nil, Nat.reduceAdd, Nat.reduceSub, Nat.zero_add, Nat.add_zero, List.replicate_succ, List.replicate_zero, List.append_nil, List.getElem?_cons_succ, List.getElem?_cons_zero, List.set_cons_succ, List.set_cons_zero, Bool.not_true, Bool.not_false, if_true, if_false, ite_true, ite_false, Bool.false_eq_true, reduceIte, Option.some.injEq, Option.bind_some, xi, x0, a, b, z, zi, decide_true, decide_false, Bool.true_or, Bool.false_or, Bool.false_and]
          exact ⟨_, rfl, rfl⟩
  · have e : sideP many first last ns = false := by
      rw [rangeD_nat, List.any_map] at h
      obtain ⟨i, hi, hp⟩ := List.any_eq_true.mp h
      have hi : i < ns.length := List.mem_range.mp hi
      have eg : ns.getD i 0 = ns[i] := by rw [List.getD_eq_getElem?_getD, List.getElem?_eq_getElem hi]; rfl
      have hp : bad ((i : Nat) : Int).toNat = true := hp
      rw [Int.toNat_natCast] at hp
      have hp : (decide (ns.getD i 0 < 0) || (decide (many ≤ ns.getD i 0) || (decide (0 < i) && decide (ns.getD i 0 ≤ ns.getD (i - 1) 0)))) = true := hp
      rw [eg] at hp
      simp only [Bool.or_eq_true, Bool.and_eq_true, decide_eq_true_eq] at hp
      unfold sideP
      rcases hp with hp | hp | ⟨h0, hp⟩
      · have : ¬ (∀ k ∈ ns, 0 ≤ k ∧ k < many) := fun z => by have := (z _ (List.getElem_mem hi)).1; omega
        simp [this]
      · have : ¬ (∀ k ∈ ns, 0 ≤ k ∧ k < many) := fun z => by have := (z _ (List.getElem_mem hi)).2; omega
        simp [this]
      · have ej : ns.getD (i - 1) 0 = ns[i - 1]'(by omega) := by rw [List.getD_eq_getElem?_getD, List.getElem?_eq_getElem (by omega)]; rfl
        rw [ej] at hp
        have : ¬ ns.Pairwise (· < ·) := fun z => by have := List.pairwise_iff_getElem.mp z (i - 1) i (by omega) hi (by omega); omega
        simp [this]
    rw [e]
    rfl
  · rw [rangeD_nat, List.any_map] at h
    have hh : ∀ i, i < ns.length → bad i = false := fun i hi => by
      have := List.any_eq_false.mp h i (List.mem_range.mpr hi)
      have : ¬ bad ((i : Nat) : Int).toNat = true := this
      rw [Int.toNat_natCast] at this
      simpa using this
    have hb : ∀ i (hi : i < ns.length), 0 ≤ ns[i] ∧ ns[i] < many ∧ (0 < i → ns.getD (i - 1) 0 < ns[i]) := fun i hi => by
      have eg : ns.getD i 0 = ns[i] := by rw [List.getD_eq_getElem?_getD, List.getElem?_eq_getElem hi]; rfl
      have z : (decide (ns.getD i 0 < 0) || (decide (many ≤ ns.getD i 0) || (decide (0 < i) && decide (ns.getD i 0 ≤ ns.getD (i - 1) 0)))) = false := hh i hi
      rw [eg] at z
      simp only [Bool.or_eq_false_iff, Bool.and_eq_false_iff, decide_eq_false_iff_not] at z
      obtain ⟨z1, z2, z3⟩ := z
      refine ⟨by omega, by omega, fun h0 => ?_⟩
      rcases z3 with z3 | z3
      · exact absurd h0 z3
      · omega
    have hin : ∀ k ∈ ns, 0 ≤ k ∧ k < many := fun k hk => by
      obtain ⟨i, hi, rfl⟩ := List.getElem_of_mem hk
      exact ⟨(hb i hi).1, (hb i hi).2.1⟩
    have hpw : ns.Pairwise (· < ·) := by
      rw [List.pairwise_iff_getElem]
      intro i j hi hj hij
      induction j with
      | zero => omega
      | succ j ih =>
        have s := (hb (j + 1) hj).2.2 (by omega)
        have ej : ns.getD (j + 1 - 1) 0 = ns[j]'(by omega) := by rw [List.getD_eq_getElem?_getD, Nat.add_sub_cancel, List.getElem?_eq_getElem (by omega)]; rfl
        rw [ej] at s
        by_cases e : i = j
        · subst e; exact s
        · exact Int.lt_trans (ih (by omega) (by omega)) s
    unfold sideP
    simp only [hpw, hin, decide_true, Bool.true_and, env0, ev_want, sz0, sz1, sz2, sz3, sz4, sz5, sz6, sz7, sz8, sz9, sz10, sz11, sz12, sz13, eVar, eC, eBin, eUn, eCall, aCons, aNil, eTup, eLst, eNew, nDisp, nCall, sSeq, sAsg, sRet, sRetN, sIf, sExpr, sNil, tOf, tAnd2, tOr2, tNot1, eNot1, ev_bind, ev_pure, go_ok, ev_ite, on1, on2, gN, gTup', gsCons, gsNil, boolB, addI, subI, negI, ltI, leI, gtI, geI, eqI, neI, List.map_cons, List.map_nil, List.cons_append, List.nil_append, List.length_cons, List.length_nil, Nat.reduceAdd, Nat.reduceSub, Nat.zero_add, Nat.add_zero, List.replicate_succ, List.replicate_zero, List.append_nil, List.getElem?_cons_succ, List.getElem?_cons_zero, List.set_cons_succ, List.set_cons_zero, Bool.not_true, Bool.not_false, if_true, if_false, ite_true, ite_false, Bool.false_eq_true, reduceIte, Option.some.injEq, Option.bind_some, eAnd2, h1, h2]
    have ht : decide (∀ k ∈ ns, 0 ≤ k ∧ k < many) = true := decide_eq_true hin
    rw [ht]
    by_cases f : first ∈ ns
    · simp only [f, decide_true, env0, ev_want, sz0, sz1, sz2, sz3, sz4, sz5, sz6, sz7, sz8, sz9, sz10, sz11, sz12, sz13, eVar, eC, eBin, eUn, eCall, aCons, aNil, eTup, eLst, eNew, nDisp, nCall, sSeq, sAsg, sRet, sRetN, sIf, sExpr, sNil, tOf, tAnd2, tOr2, tNot1, eNot1, ev_bind, ev_pure, go_ok, ev_ite, on1, on2, gN, gTup', gsCons, gsNil, boolB, addI, subI, negI, ltI, leI, gtI, geI, eqI, neI, List.map_cons, List.map_nil, List.cons_append, List.nil_append, List.length_cons, List.length_nil, Nat.reduceAdd, Nat.reduceSub, Nat.zero_add, Nat.add_zero, List.replicate_succ, List.replicate_zero, List.append_nil, List.getElem?_cons_succ, List.getElem?_cons_zero, List.set_cons_succ, List.set_cons_zero, Bool.not_true, Bool.not_false, if_true, if_false, ite_true, ite_false, Bool.false_eq_true, reduceIte, Option.some.injEq, Option.bind_some, Bool.true_and]
    · simp only [f, decide_false, env0, ev_want, sz0, sz1, sz2, sz3, sz4, sz5, sz6, sz7, sz8, sz9, sz10, sz11, sz12, sz13, eVar, eC, eBin, eUn, eCall, aCons, aNil, eTup, eLst, eNew, nDisp, nCall, sSeq, sAsg, sRet, sRetN, sIf, sExpr, sNil, tOf, tAnd2, tOr2, tNot1, eNot1, ev_bind, ev_pure, go_ok, ev_ite, on1, on2, gN, gTup', gsCons, gsNil, boolB, addI, subI, negI, ltI, leI, gtI, geI, eqI, neI, List.map_cons, List.map_nil, List.cons_append, List.nil_append, List.length_cons, List.length_nil, Nat.reduceAdd, Nat.reduceSub, Nat.zero_add, Nat.add_zero, List.replicate_succ, List.replicate_zero, List.append_nil, List.getElem?_cons_succ, List.getElem?_cons_zero, List.set_cons_succ, List.set_cons_zero, Bool.not_true, Bool.not_false, if_true, if_false, ite_true, ite_false, Bool.false_eq_true, reduceIte, Option.some.injEq, Option.bind_some, Bool.false_and, Bool.true_and]
end
end LW

set_option Elab.async false
set_option linter.all false
set_option maxRecDepth 100000
set_option maxHeartbeats 2000000
namespace LW
open PySem PySem.Spec L2 LP
set_option autoImplicit false
noncomputable section
theorem for_ok {gd : Store → Prop} {tg : GX} {kill : List Nat} {body : ST} {xs : List D} {ρ : DEnv} {S : Store} {r : R Fl} (I : Nat → DEnv → Store → Prop) (h0 : I 0 ρ S)
    (hs : ∀ i x ρ S, xs[i]? = some x → I i ρ S → gd S ∧ ∃ ρ1 ρ2 S', tg x ρ = some ρ1 ∧ body ρ1 S = .ok (.nx ρ2) S' ∧ I (i + 1) (dropE ρ2 kill) S') (hg : ∀ ρ S, I xs.length ρ S → gd S) (hk : ∀ ρ' S', I xs.length ρ' S' → R.ok (.nx ρ') S' = r) : forL gd tg kill body xs ρ S = r := by
  obtain ⟨ρ', S', e, h⟩ := forL_run I xs 0 ρ S h0 (fun i x ρ S hx hi => by rw [Nat.zero_add] at hi ⊢; exact hs i x ρ S hx hi) (fun ρ S hi => hg ρ S (by rw [Nat.zero_add] at hi; exact hi))
  rw [Nat.zero_add] at h
  rw [e]
  exact hk ρ' S' h
def lead (many : Int) (ns : List Int) (c : Int) : Bool := decide (stir c 1 % many ∈ ns) && !decide ((stir c 1 % many + 1 + stir c 1 / many % (many - 1)) % many ∈ ns)
def worth (many : Int) (ns cs : List Int) : Int := ((cs.filter (lead many ns)).map bound).sum
def pTie (ns : List Int) : D → Bool
  | .tup [.int a, .int b, .int _, .int _] => decide (a ∈ ns) && !decide (b ∈ ns)
  | _ => false
def fTie : D → D
  | .tup [.int _, .int _, .int c, .int _] => .int c
  | _ => .non
theorem ties_eq (many : Int) (ns cs : List Int) : ((cs.map (tie many)).filter (pTie ns)).map fTie = ((cs.filter (lead many ns)).map bound).map D.int := by
  induction cs with
  | nil => rfl
  | cons c cs ih =>
    have hp : pTie ns (tie many c) = lead many ns c := rfl
    rw [List.map_cons]
    by_cases q : lead many ns c = true
    · rw [List.filter_cons_of_pos (by rw [hp]; exact q), List.filter_cons_of_pos q, List.map_cons, List.map_cons, List.map_cons, ih]
      rfl
    · rw [List.filter_cons_of_neg (by rw [hp]; exact q), List.filter_cons_of_neg q, ih]
theorem tie_at {many c : Int} {S : Store} : idxD (tie many c) (.int 0) S = .ok (.int (stir c 1 % many)) S ∧ idxD (tie many c) (.int 1) S = .ok (.int ((stir c 1 % many + 1 + stir c 1 / many % (many - 1)) % many)) S ∧ idxD (tie many c) (.int 2) S = .ok (.int (bound c)) S :=
  ⟨idx_ok (xs := [_, _, _, _]) rfl (by rw [atI_nat' (k := 0) (j := 0) rfl]; rfl), idx_ok (xs := [_, _, _, _]) rfl (by rw [atI_nat' (k := 1) (j := 1) rfl]; rfl), idx_ok (xs := [_, _, _, _]) rfl (by rw [atI_nat' (k := 2) (j := 2) rfl]; rfl)⟩
theorem side_worth_ok {many : Int} (ns cs : List Int) (S : Store) : m_side_worth [.tup [.int many, .tup (cs.map (tie many))], tI ns] S = .ok (.int (worth many ns cs)) S := by
  refine gcF_self ?_ rfl
  have x1 : idxD (.tup [.int many, .tup (cs.map (tie many))]) (.int 1) S = .ok (.tup (cs.map (tie many))) S := idx_ok (xs := [_, _]) rfl (by rw [atI_nat' (k := 1) (j := 1) rfl]; rfl)
  simp only [b_side_worth, env0, ev_want, sz0, sz1, sz2, sz3, sz4, sz5, sz6, sz7, sz8, sz9, sz10, sz11, sz12, sz13, eVar, eC, eBin, eUn, eCall, aCons, aNil, eTup, eLst, eNew, nDisp, nCall, sSeq, sAsg, sRet, sRetN, sIf, sExpr, sNil, tOf, tAnd2, tOr2, tNot1, eNot1, ev_bind, ev_pure, go_ok, ev_ite, on1, on2, gN, gTup', gsCons, gsNil, boolB, addI, subI, negI, ltI, leI, gtI, geI, eqI, neI, List.map_cons, List.map_nil, List.cons_append, List.nil_append, List.length_cons, List.length_nil, Nat.reduceAdd, Nat.reduceSub, Nat.zero_add, Nat.add_zero, List.replicate_succ, List.replicate_zero, List.append_nil, List.getElem?_cons_succ, List.getElem?_cons_zero, List.set_cons_succ, List.set_cons_zero, Bool.not_true, Bool.not_false, if_true, if_false, ite_true, ite_false, Bool.false_eq_true, reduceIte, Option.some.injEq, Option.bind_some, nComp, itTup, x1]
  simp only [env0, ev_want, sz0, sz1, sz2, sz3, sz4, sz5, sz6, sz7, sz8, sz9, sz10, sz11, sz12, sz13, eVar, eC, eBin, eUn, eCall, aCons, aNil, eTup, eLst, eNew, nDisp, nCall, sSeq, sAsg, sRet, sRetN, sIf, sExpr, sNil, tOf, tAnd2, tOr2, tNot1, eNot1, ev_bind, ev_pure, go_ok, ev_ite, on1, on2, gN, gTup', gsCons, gsNil, boolB, addI, subI, negI, ltI, leI, gtI, geI, eqI, neI, List.map_cons, List.map_nil, List.cons_append, List.nil_append, List.length_cons, List.length_nil, Nat.reduceAdd, Nat.reduceSub, Nat.zero_add, Nat.add_zero, List.replicate_succ, List.replicate_zero, List.append_nil, List.getElem?_cons_succ, List.getElem?_cons_zero, List.set_cons_succ, List.set_cons_zero, Bool.not_true, Bool.not_false, if_true, if_false, ite_true, ite_false, Bool.false_eq_true, reduceIte, Option.some.injEq, Option.bind_some, dropE, go_go]
  refine comp_go (pTie ns) fTie trivial (fun x hx => ?_) ?_
  · obtain ⟨c, hc, rfl⟩ := List.mem_map.mp hx
    obtain ⟨t0, t1, t2⟩ := tie_at (many := many) (c := c) (S := S)
    refine ⟨_, rfl, ?_, fun _ => ?_⟩
    · have h1 := in_ok (x := tI ns) (ns := ns) (k := stir c 1 % many) (S := S) rfl
      have h2 := nin_ok (x := tI ns) (ns := ns) (k := (stir c 1 % many + 1 + stir c 1 / many % (many - 1)) % many) (S := S) rfl
      show _ = R.ok (lead many ns c) S
      unfold lead
      by_cases q : stir c 1 % many ∈ ns
      · simp only [env0, ev_want, sz0, sz1, sz2, sz3, sz4, sz5, sz6, sz7, sz8, sz9, sz10, sz11, sz12, sz13, eVar, eC, eBin, eUn, eCall, aCons, aNil, eTup, eLst, eNew, nDisp, nCall, sSeq, sAsg, sRet, sRetN, sIf, sExpr, sNil, tOf, tAnd2, tOr2, tNot1, eNot1, ev_bind, ev_pure, go_ok, ev_ite, on1, on2, gN, gTup', gsCons, gsNil, boolB, addI, subI, negI, ltI, leI, gtI, geI, eqI, neI, List.map_cons, List.map_nil, List.cons_append, List.nil_append, List.length_cons, List.length_nil, Nat.reduceAdd, Nat.reduceSub, Nat.zero_add, Nat.add_zero, List.replicate_succ, List.replicate_zero, List.append_nil, List.getElem?_cons_succ, List.getElem?_cons_zero, List.set_cons_succ, List.set_cons_zero, Bool.not_true, Bool.not_false, if_true, if_false, ite_true, ite_false, Bool.false_eq_true, reduceIte, Option.some.injEq, Option.bind_some, t0, t1, h1, h2, q, decide_true, Bool.true_and]
      · simp only [env0, ev_want, sz0, sz1, sz2, sz3, sz4, sz5, sz6, sz7, sz8, sz9, sz10, sz11, sz12, sz13, eVar, eC, eBin, eUn, eCall, aCons, aNil, eTup, eLst, eNew, nDisp, nCall, sSeq, sAsg, sRet, sRetN, sIf, sExpr, sNil, tOf, tAnd2, tOr2, tNot1, eNot1, ev_bind, ev_pure, go_ok, ev_ite, on1, on2, gN, gTup', gsCons, gsNil, boolB, addI, subI, negI, ltI, leI, gtI, geI, eqI, neI, List.map_cons, List.map_nil, List.cons_append, List.nil_append, List.length_cons, List.length_nil, Nat.reduceAdd, Nat.reduceSub, Nat.zero_add, Nat.add_zero, List.replicate_succ, List.replicate_zero, List.append_nil, List.getElem?_cons_succ, List.getElem?_cons_zero, List.set_cons_succ, List.set_cons_zero, Bool.not_true, Bool.not_false, if_true, if_false, ite_true, ite_false, Bool.false_eq_true, reduceIte, Option.some.injEq, Option.bind_some, t0, t1, h1, h2, q, decide_false, Bool.false_and]
    · simp only [env0, ev_want, sz0, sz1, sz2, sz3, sz4, sz5, sz6, sz7, sz8, sz9, sz10, sz11, sz12, sz13, eVar, eC, eBin, eUn, eCall, aCons, aNil, eTup, eLst, eNew, nDisp, nCall, sSeq, sAsg, sRet, sRetN, sIf, sExpr, sNil, tOf, tAnd2, tOr2, tNot1, eNot1, ev_bind, ev_pure, go_ok, ev_ite, on1, on2, gN, gTup', gsCons, gsNil, boolB, addI, subI, negI, ltI, leI, gtI, geI, eqI, neI, List.map_cons, List.map_nil, List.cons_append, List.nil_append, List.length_cons, List.length_nil, Nat.reduceAdd, Nat.reduceSub, Nat.zero_add, Nat.add_zero, List.replicate_succ, List.replicate_zero, List.append_nil, List.getElem?_cons_succ, List.getElem?_cons_zero, List.set_cons_succ, List.set_cons_zero, Bool.not_true, Bool.not_false, if_true, if_false, ite_true, ite_false, Bool.false_eq_true, reduceIte, Option.some.injEq, Option.bind_some, t2]
      rfl
  · rw [ties_eq]
    simp only [env0, ev_want, sz0, sz1, sz2, sz3, sz4, sz5, sz6, sz7, sz8, sz9, sz10, sz11, sz12, sz13, eVar, eC, eBin, eUn, eCall, aCons, aNil, eTup, eLst, eNew, nDisp, nCall, sSeq, sAsg, sRet, sRetN, sIf, sExpr, sNil, tOf, tAnd2, tOr2, tNot1, eNot1, ev_bind, ev_pure, go_ok, ev_ite, on1, on2, gN, gTup', gsCons, gsNil, boolB, addI, subI, negI, ltI, leI, gtI, geI, eqI, neI, List.map_cons, List.map_nil, List.cons_append, List.nil_append, List.length_cons, List.length_nil, Nat.reduceAdd, Nat.reduceSub, Nat.zero_add, Nat.add_zero, List.replicate_succ, List.replicate_zero, List.append_nil, List.getElem?_cons_succ, List.getElem?_cons_zero, List.set_cons_succ, List.set_cons_zero, Bool.not_true, Bool.not_false, if_true, if_false, ite_true, ite_false, Bool.false_eq_true, reduceIte, Option.some.injEq, Option.bind_some, sum_ok (x := .lst (((cs.filter (lead many ns)).map bound).map D.int)) (ns := (cs.filter (lead many ns)).map bound) rfl]
    rfl
def cut (ns : List Int) : List Int := cutD ns (some 2) (some 26)
theorem cut_map (ns : List Int) : cutD (ns.map D.int) (some 2) (some 26) = (cut ns).map D.int := by
  unfold cut cutD
  rw [List.length_map, List.map_take, List.map_drop]
theorem cut_len (ns : List Int) : (cut ns).length ≤ ns.length := by
  unfold cut cutD
  rw [List.length_take, List.length_drop]
  omega


abbrev env (head many : Int) (web : D) (first last : Int) (o4 o7 o8 o9 : Option D) : DEnv := [some (.loc 0), some (.int head), some (.int many), some web, o4, some (.int first), some (.int last), o7, o8, o9, none, none, none, none]
abbrev webD (many : Int) (cs : List Int) : D := .tup [.int many, .tup (cs.map (tie many))]
theorem worth_in {head many first last : Int} (N cs : List Int) (o4 : Option D) (S : Store) :
    (nComp (itTup (eBin idxD (eVar 3) (eC (.int 1)))) (gN 12) [12] (tAnd2 (tOf (eBin (inD false) (eBin idxD (eVar 12) (eC (.int 0))) (eVar 7))) (tOf (eBin (inD true) (eBin idxD (eVar 12) (eC (.int 1))) (eVar 7)))) (eBin idxD (eVar 12) (eC (.int 2))))
      (env head many (webD many cs) first last o4 (some (lI N)) none none) S = .ok (((cs.filter (lead many N)).map bound).map D.int) S := by
  have x1 : idxD (webD many cs) (.int 1) S = .ok (.tup (cs.map (tie many))) S := idx_ok (xs := [_, _]) rfl (by rw [atI_nat' (k := 1) (j := 1) rfl]; rfl)
  simp only [env0, ev_want, sz0, sz1, sz2, sz3, sz4, sz5, sz6, sz7, sz8, sz9, sz10, sz11, sz12, sz13, eVar, eC, eBin, eUn, eCall, aCons, aNil, eTup, eLst, eNew, nDisp, nCall, sSeq, sAsg, sRet, sRetN, sIf, sExpr, sNil, tOf, tAnd2, tOr2, tNot1, eNot1, ev_bind, ev_pure, go_ok, ev_ite, on1, on2, gN, gTup', gsCons, gsNil, boolB, addI, subI, negI, ltI, leI, gtI, geI, eqI, neI, List.map_cons, List.map_nil, List.cons_append, List.nil_append, List.length_cons, List.length_nil, Nat.reduceAdd, Nat.reduceSub, Nat.zero_add, Nat.add_zero, List.replicate_succ, List.replicate_zero, List.append_nil, List.getElem?_cons_succ, List.getElem?_cons_zero, List.set_cons_succ, List.set_cons_zero, Bool.not_true, Bool.not_false, if_true, if_false, ite_true, ite_false, Bool.false_eq_true, reduceIte, Option.some.injEq, Option.bind_some, nComp, itTup, x1]
  simp only [env0, ev_want, sz0, sz1, sz2, sz3, sz4, sz5, sz6, sz7, sz8, sz9, sz10, sz11, sz12, sz13, eVar, eC, eBin, eUn, eCall, aCons, aNil, eTup, eLst, eNew, nDisp, nCall, sSeq, sAsg, sRet, sRetN, sIf, sExpr, sNil, tOf, tAnd2, tOr2, tNot1, eNot1, ev_bind, ev_pure, go_ok, ev_ite, on1, on2, gN, gTup', gsCons, gsNil, boolB, addI, subI, negI, ltI, leI, gtI, geI, eqI, neI, List.map_cons, List.map_nil, List.cons_append, List.nil_append, List.length_cons, List.length_nil, Nat.reduceAdd, Nat.reduceSub, Nat.zero_add, Nat.add_zero, List.replicate_succ, List.replicate_zero, List.append_nil, List.getElem?_cons_succ, List.getElem?_cons_zero, List.set_cons_succ, List.set_cons_zero, Bool.not_true, Bool.not_false, if_true, if_false, ite_true, ite_false, Bool.false_eq_true, reduceIte, Option.some.injEq, Option.bind_some, dropE]
  rw [← ties_eq]
  refine compL_ok (pTie N) fTie trivial _ fun x hx => ?_
  obtain ⟨c, hc, rfl⟩ := List.mem_map.mp hx
  obtain ⟨t0, t1, t2⟩ := tie_at (many := many) (c := c) (S := S)
  refine ⟨_, rfl, ?_, fun _ => ?_⟩
  · have h1 := in_ok (x := lI N) (ns := N) (k := stir c 1 % many) (S := S) rfl
    have h2 := nin_ok (x := lI N) (ns := N) (k := (stir c 1 % many + 1 + stir c 1 / many % (many - 1)) % many) (S := S) rfl
    show _ = R.ok (lead many N c) S
    unfold lead
    by_cases q : stir c 1 % many ∈ N
    · simp only [env0, ev_want, sz0, sz1, sz2, sz3, sz4, sz5, sz6, sz7, sz8, sz9, sz10, sz11, sz12, sz13, eVar, eC, eBin, eUn, eCall, aCons, aNil, eTup, eLst, eNew, nDisp, nCall, sSeq, sAsg, sRet, sRetN, sIf, sExpr, sNil, tOf, tAnd2, tOr2, tNot1, eNot1, ev_bind, ev_pure, go_ok, ev_ite, on1, on2, gN, gTup', gsCons, gsNil, boolB, addI, subI, negI, ltI, leI, gtI, geI, eqI, neI, List.map_cons, List.map_nil, List.cons_append, List.nil_append, List.length_cons, List.length_nil, Nat.reduceAdd, Nat.reduceSub, Nat.zero_add, Nat.add_zero, List.replicate_succ, List.replicate_zero, List.append_nil, List.getElem?_cons_succ, List.getElem?_cons_zero, List.set_cons_succ, List.set_cons_zero, Bool.not_true, Bool.not_false, if_true, if_false, ite_true, ite_false, Bool.false_eq_true, reduceIte, Option.some.injEq, Option.bind_some, t0, t1, h1, h2, q, decide_true, Bool.true_and]
    · simp only [env0, ev_want, sz0, sz1, sz2, sz3, sz4, sz5, sz6, sz7, sz8, sz9, sz10, sz11, sz12, sz13, eVar, eC, eBin, eUn, eCall, aCons, aNil, eTup, eLst, eNew, nDisp, nCall, sSeq, sAsg, sRet, sRetN, sIf, sExpr, sNil, tOf, tAnd2, tOr2, tNot1, eNot1, ev_bind, ev_pure, go_ok, ev_ite, on1, on2, gN, gTup', gsCons, gsNil, boolB, addI, subI, negI, ltI, leI, gtI, geI, eqI, neI, List.map_cons, List.map_nil, List.cons_append, List.nil_append, List.length_cons, List.length_nil, Nat.reduceAdd, Nat.reduceSub, Nat.zero_add, Nat.add_zero, List.replicate_succ, List.replicate_zero, List.append_nil, List.getElem?_cons_succ, List.getElem?_cons_zero, List.set_cons_succ, List.set_cons_zero, Bool.not_true, Bool.not_false, if_true, if_false, ite_true, ite_false, Bool.false_eq_true, reduceIte, Option.some.injEq, Option.bind_some, t0, t1, h1, h2, q, decide_false, Bool.false_and]
  · simp only [env0, ev_want, sz0, sz1, sz2, sz3, sz4, sz5, sz6, sz7, sz8, sz9, sz10, sz11, sz12, sz13, eVar, eC, eBin, eUn, eCall, aCons, aNil, eTup, eLst, eNew, nDisp, nCall, sSeq, sAsg, sRet, sRetN, sIf, sExpr, sNil, tOf, tAnd2, tOr2, tNot1, eNot1, ev_bind, ev_pure, go_ok, ev_ite, on1, on2, gN, gTup', gsCons, gsNil, boolB, addI, subI, negI, ltI, leI, gtI, geI, eqI, neI, List.map_cons, List.map_nil, List.cons_append, List.nil_append, List.length_cons, List.length_nil, Nat.reduceAdd, Nat.reduceSub, Nat.zero_add, Nat.add_zero, List.replicate_succ, List.replicate_zero, List.append_nil, List.getElem?_cons_succ, List.getElem?_cons_zero, List.set_cons_succ, List.set_cons_zero, Bool.not_true, Bool.not_false, if_true, if_false, ite_true, ite_false, Bool.false_eq_true, reduceIte, Option.some.injEq, Option.bind_some, t2]
    rfl
def without (last : Int) (N : List Int) : List Int := N.filter fun k => !decide (k = last)
def whole (first last : Int) (N : List Int) : List Int := sortU ([first] ++ without last N)
theorem whole_in {head many first last : Int} (web : D) (N : List Int) (hN : N.length ≤ 8) (o4 o8 : Option D) (S : Store) :
    nSS (eLst (nCat (eLst (nDisp (aCons (eVar 5) aNil))) (eLst (nComp (itLst (eVar 7)) (gN 13) [13] (tOf (eBin neD (eVar 13) (eVar 6))) (eVar 13)))))
      (env head many web first last o4 (some (lI N)) o8 none) S = .ok ((whole first last N).map D.int) S := by
  have hlen : (without last N).length ≤ 8 := Nat.le_trans (List.length_filter_le _ _) hN
  have hcomp : (nComp (itLst (eVar 7)) (gN 13) [13] (tOf (eBin neD (eVar 13) (eVar 6))) (eVar 13)) (env head many web first last o4 (some (lI N)) o8 none) S = .ok ((without last N).map D.int) S := by
    simp only [env0, ev_want, sz0, sz1, sz2, sz3, sz4, sz5, sz6, sz7, sz8, sz9, sz10, sz11, sz12, sz13, eVar, eC, eBin, eUn, eCall, aCons, aNil, eTup, eLst, eNew, nDisp, nCall, sSeq, sAsg, sRet, sRetN, sIf, sExpr, sNil, tOf, tAnd2, tOr2, tNot1, eNot1, ev_bind, ev_pure, go_ok, ev_ite, on1, on2, gN, gTup', gsCons, gsNil, boolB, addI, subI, negI, ltI, leI, gtI, geI, eqI, neI, List.map_cons, List.map_nil, List.cons_append, List.nil_append, List.length_cons, List.length_nil, Nat.reduceAdd, Nat.reduceSub, Nat.zero_add, Nat.add_zero, List.replicate_succ, List.replicate_zero, List.append_nil, List.getElem?_cons_succ, List.getElem?_cons_zero, List.set_cons_succ, List.set_cons_zero, Bool.not_true, Bool.not_false, if_true, if_false, ite_true, ite_false, Bool.false_eq_true, reduceIte, Option.some.injEq, Option.bind_some, nComp, itLst, list_lst]
    simp only [env0, ev_want, sz0, sz1, sz2, sz3, sz4, sz5, sz6, sz7, sz8, sz9, sz10, sz11, sz12, sz13, eVar, eC, eBin, eUn, eCall, aCons, aNil, eTup, eLst, eNew, nDisp, nCall, sSeq, sAsg, sRet, sRetN, sIf, sExpr, sNil, tOf, tAnd2, tOr2, tNot1, eNot1, ev_bind, ev_pure, go_ok, ev_ite, on1, on2, gN, gTup', gsCons, gsNil, boolB, addI, subI, negI, ltI, leI, gtI, geI, eqI, neI, List.map_cons, List.map_nil, List.cons_append, List.nil_append, List.length_cons, List.length_nil, Nat.reduceAdd, Nat.reduceSub, Nat.zero_add, Nat.add_zero, List.replicate_succ, List.replicate_zero, List.append_nil, List.getElem?_cons_succ, List.getElem?_cons_zero, List.set_cons_succ, List.set_cons_zero, Bool.not_true, Bool.not_false, if_true, if_false, ite_true, ite_false, Bool.false_eq_true, reduceIte, Option.some.injEq, Option.bind_some, dropE]
    have e : (without last N).map D.int = (((N.map D.int).filter fun d => match d with | .int k => !decide (k = last) | _ => false).map fun d => d) := by
      rw [List.map_id', List.filter_map]
      rfl
    rw [e]
    refine compL_ok _ _ trivial _ fun x hx => ?_
    obtain ⟨k, hk, rfl⟩ := List.mem_map.mp hx
    refine ⟨_, rfl, ?_, fun _ => ?_⟩
    · simp only [env0, ev_want, sz0, sz1, sz2, sz3, sz4, sz5, sz6, sz7, sz8, sz9, sz10, sz11, sz12, sz13, eVar, eC, eBin, eUn, eCall, aCons, aNil, eTup, eLst, eNew, nDisp, nCall, sSeq, sAsg, sRet, sRetN, sIf, sExpr, sNil, tOf, tAnd2, tOr2, tNot1, eNot1, ev_bind, ev_pure, go_ok, ev_ite, on1, on2, gN, gTup', gsCons, gsNil, boolB, addI, subI, negI, ltI, leI, gtI, geI, eqI, neI, List.map_cons, List.map_nil, List.cons_append, List.nil_append, List.length_cons, List.length_nil, Nat.reduceAdd, Nat.reduceSub, Nat.zero_add, Nat.add_zero, List.replicate_succ, List.replicate_zero, List.append_nil, List.getElem?_cons_succ, List.getElem?_cons_zero, List.set_cons_succ, List.set_cons_zero, Bool.not_true, Bool.not_false, if_true, if_false, ite_true, ite_false, Bool.false_eq_true, reduceIte, Option.some.injEq, Option.bind_some]
    · simp only [env0, ev_want, sz0, sz1, sz2, sz3, sz4, sz5, sz6, sz7, sz8, sz9, sz10, sz11, sz12, sz13, eVar, eC, eBin, eUn, eCall, aCons, aNil, eTup, eLst, eNew, nDisp, nCall, sSeq, sAsg, sRet, sRetN, sIf, sExpr, sNil, tOf, tAnd2, tOr2, tNot1, eNot1, ev_bind, ev_pure, go_ok, ev_ite, on1, on2, gN, gTup', gsCons, gsNil, boolB, addI, subI, negI, ltI, leI, gtI, geI, eqI, neI, List.map_cons, List.map_nil, List.cons_append, List.nil_append, List.length_cons, List.length_nil, Nat.reduceAdd, Nat.reduceSub, Nat.zero_add, Nat.add_zero, List.replicate_succ, List.replicate_zero, List.append_nil, List.getElem?_cons_succ, List.getElem?_cons_zero, List.set_cons_succ, List.set_cons_zero, Bool.not_true, Bool.not_false, if_true, if_false, ite_true, ite_false, Bool.false_eq_true, reduceIte, Option.some.injEq, Option.bind_some]
  refine nSS_ok (x := lI ([first] ++ without last N)) (ns := [first] ++ without last N) ?_ rfl (by simp; omega)
  have hm : ∀ xs (S : Store), lstM (.lst xs) S = .ok xs S := fun _ _ => rfl
  simp only [eLst, nCat, ev_bind]
  simp only [env0, ev_want, sz0, sz1, sz2, sz3, sz4, sz5, sz6, sz7, sz8, sz9, sz10, sz11, sz12, sz13, eVar, eC, eBin, eUn, eCall, aCons, aNil, eTup, eLst, eNew, nDisp, nCall, sSeq, sAsg, sRet, sRetN, sIf, sExpr, sNil, tOf, tAnd2, tOr2, tNot1, eNot1, ev_bind, ev_pure, go_ok, ev_ite, on1, on2, gN, gTup', gsCons, gsNil, boolB, addI, subI, negI, ltI, leI, gtI, geI, eqI, neI, List.map_cons, List.map_nil, List.cons_append, List.nil_append, List.length_cons, List.length_nil, Nat.reduceAdd, Nat.reduceSub, Nat.zero_add, Nat.add_zero, List.replicate_succ, List.replicate_zero, List.append_nil, List.getElem?_cons_succ, List.getElem?_cons_zero, List.set_cons_succ, List.set_cons_zero, Bool.not_true, Bool.not_false, if_true, if_false, ite_true, ite_false, Bool.false_eq_true, reduceIte, Option.some.injEq, Option.bind_some, hcomp, hm, List.length_map]
  rw [ev_want (by rw [sizeLine_eq]; omega)]
  simp only [env0, ev_want, sz0, sz1, sz2, sz3, sz4, sz5, sz6, sz7, sz8, sz9, sz10, sz11, sz12, sz13, eVar, eC, eBin, eUn, eCall, aCons, aNil, eTup, eLst, eNew, nDisp, nCall, sSeq, sAsg, sRet, sRetN, sIf, sExpr, sNil, tOf, tAnd2, tOr2, tNot1, eNot1, ev_bind, ev_pure, go_ok, ev_ite, on1, on2, gN, gTup', gsCons, gsNil, boolB, addI, subI, negI, ltI, leI, gtI, geI, eqI, neI, List.map_cons, List.map_nil, List.cons_append, List.nil_append, List.length_cons, List.length_nil, Nat.reduceAdd, Nat.reduceSub, Nat.zero_add, Nat.add_zero, List.replicate_succ, List.replicate_zero, List.append_nil, List.getElem?_cons_succ, List.getElem?_cons_zero, List.set_cons_succ, List.set_cons_zero, Bool.not_true, Bool.not_false, if_true, if_false, ite_true, ite_false, Bool.false_eq_true, reduceIte, Option.some.injEq, Option.bind_some, List.map_append]
  rfl
theorem whole_len (first last : Int) (N : List Int) (hN : N.length ≤ 8) : (whole first last N).length ≤ 9 := by
  refine Nat.le_trans (sortU_len _) ?_
  rw [List.length_append]
  have : (without last N).length ≤ 8 := Nat.le_trans (List.length_filter_le _ _) hN
  show 1 + _ ≤ 9
  omega
theorem law_true : ∀ ns : List Int, ns.length ≤ 63 → (∀ z ∈ ns, PySem.Builtin.Int.intBits z ≤ 1048576) → ∃ S', m_law [.loc 0] [.ro (ns.map D.int)] = .ok (.bl true) S' := by
  intro ns hl _
  refine ⟨_, gcF_self ?_ rfl⟩
  generalize hS : [MO.ro (ns.map D.int)] = S
  have h0 : S[0]? = some (.ro (ns.map D.int)) := by rw [← hS]; rfl
  have hc := cell_ok 0 h0
  generalize hh : stir (ns.getD 0 0) 0 = head
  have hm2 : 2 ≤ 2 + head % 6 := by omega
  have hm7 : 2 + head % 6 ≤ 7 := by omega
  have hls : listOf (.loc 0) S = .ok (ns.map D.int) S := list_loc (.inr h0)
  have hsl : nSlL (eVar 0) (oSome (eC (.int 2))) (oSome (eC (.int 26))) [some (.loc 0), some (.int head), some (.int (2 + head % 6)), none, none, none, none, none, none, none, none, none, none, none] S = .ok ((cut ns).map D.int) S := by
    simp only [nSlL, oSome, env0, ev_want, sz0, sz1, sz2, sz3, sz4, sz5, sz6, sz7, sz8, sz9, sz10, sz11, sz12, sz13, eVar, eC, eBin, eUn, eCall, aCons, aNil, eTup, eLst, eNew, nDisp, nCall, sSeq, sAsg, sRet, sRetN, sIf, sExpr, sNil, tOf, tAnd2, tOr2, tNot1, eNot1, ev_bind, ev_pure, go_ok, ev_ite, on1, on2, gN, gTup', gsCons, gsNil, boolB, addI, subI, negI, ltI, leI, gtI, geI, eqI, neI, List.map_cons, List.map_nil, List.cons_append, List.nil_append, List.length_cons, List.length_nil, Nat.reduceAdd, Nat.reduceSub, Nat.zero_add, Nat.add_zero, List.replicate_succ, List.replicate_zero, List.append_nil, List.getElem?_cons_succ, List.getElem?_cons_zero, List.set_cons_succ, List.set_cons_zero, Bool.not_true, Bool.not_false, if_true, if_false, ite_true, ite_false, Bool.false_eq_true, reduceIte, Option.some.injEq, Option.bind_some, hls, cut_map]
  have hw := web_ok hm2 hm7 (cut ns) (Nat.le_trans (cut_len ns) hl) S
  have he := ends_ok hm2 head S
  have hc0 : m_law_cell [.loc 0, .int 0] S = .ok (.int (ns.getD 0 0)) S := hc
  simp only [b_law, env0, ev_want, sz0, sz1, sz2, sz3, sz4, sz5, sz6, sz7, sz8, sz9, sz10, sz11, sz12, sz13, eVar, eC, eBin, eUn, eCall, aCons, aNil, eTup, eLst, eNew, nDisp, nCall, sSeq, sAsg, sRet, sRetN, sIf, sExpr, sNil, tOf, tAnd2, tOr2, tNot1, eNot1, ev_bind, ev_pure, go_ok, ev_ite, on1, on2, gN, gTup', gsCons, gsNil, boolB, addI, subI, negI, ltI, leI, gtI, geI, eqI, neI, List.map_cons, List.map_nil, List.cons_append, List.nil_append, List.length_cons, List.length_nil, Nat.reduceAdd, Nat.reduceSub, Nat.zero_add, Nat.add_zero, List.replicate_succ, List.replicate_zero, List.append_nil, List.getElem?_cons_succ, List.getElem?_cons_zero, List.set_cons_succ, List.set_cons_zero, Bool.not_true, Bool.not_false, if_true, if_false, ite_true, ite_false, Bool.false_eq_true, reduceIte, Option.some.injEq, Option.bind_some, hc0, stir_ok, hh, modI, show (0:Int) < 6 by decide]
  generalize hmany : 2 + head % 6 = many at *
  simp only [env0, ev_want, sz0, sz1, sz2, sz3, sz4, sz5, sz6, sz7, sz8, sz9, sz10, sz11, sz12, sz13, eVar, eC, eBin, eUn, eCall, aCons, aNil, eTup, eLst, eNew, nDisp, nCall, sSeq, sAsg, sRet, sRetN, sIf, sExpr, sNil, tOf, tAnd2, tOr2, tNot1, eNot1, ev_bind, ev_pure, go_ok, ev_ite, on1, on2, gN, gTup', gsCons, gsNil, boolB, addI, subI, negI, ltI, leI, gtI, geI, eqI, neI, List.map_cons, List.map_nil, List.cons_append, List.nil_append, List.length_cons, List.length_nil, Nat.reduceAdd, Nat.reduceSub, Nat.zero_add, Nat.add_zero, List.replicate_succ, List.replicate_zero, List.append_nil, List.getElem?_cons_succ, List.getElem?_cons_zero, List.set_cons_succ, List.set_cons_zero, Bool.not_true, Bool.not_false, if_true, if_false, ite_true, ite_false, Bool.false_eq_true, reduceIte, Option.some.injEq, Option.bind_some, hsl, hw, he, sFor]
  have hm : ∀ xs (S : Store), lstM (.lst xs) S = .ok xs S := fun _ _ => rfl
  have hli : listN (.loc 0) S = .ok (ns.map D.int) S := hls
  simp only [env0, ev_want, sz0, sz1, sz2, sz3, sz4, sz5, sz6, sz7, sz8, sz9, sz10, sz11, sz12, sz13, eVar, eC, eBin, eUn, eCall, aCons, aNil, eTup, eLst, eNew, nDisp, nCall, sSeq, sAsg, sRet, sRetN, sIf, sExpr, sNil, tOf, tAnd2, tOr2, tNot1, eNot1, ev_bind, ev_pure, go_ok, ev_ite, on1, on2, gN, gTup', gsCons, gsNil, boolB, addI, subI, negI, ltI, leI, gtI, geI, eqI, neI, List.map_cons, List.map_nil, List.cons_append, List.nil_append, List.length_cons, List.length_nil, Nat.reduceAdd, Nat.reduceSub, Nat.zero_add, Nat.add_zero, List.replicate_succ, List.replicate_zero, List.append_nil, List.getElem?_cons_succ, List.getElem?_cons_zero, List.set_cons_succ, List.set_cons_zero, Bool.not_true, Bool.not_false, if_true, if_false, ite_true, ite_false, Bool.false_eq_true, reduceIte, Option.some.injEq, Option.bind_some, itNew, nCat, hli, hm, List.length_map]
  rw [ev_want (by rw [sizeLine_eq]; omega)]
  simp only [env0, ev_want, sz0, sz1, sz2, sz3, sz4, sz5, sz6, sz7, sz8, sz9, sz10, sz11, sz12, sz13, eVar, eC, eBin, eUn, eCall, aCons, aNil, eTup, eLst, eNew, nDisp, nCall, sSeq, sAsg, sRet, sRetN, sIf, sExpr, sNil, tOf, tAnd2, tOr2, tNot1, eNot1, ev_bind, ev_pure, go_ok, ev_ite, on1, on2, gN, gTup', gsCons, gsNil, boolB, addI, subI, negI, ltI, leI, gtI, geI, eqI, neI, List.map_cons, List.map_nil, List.cons_append, List.nil_append, List.length_cons, List.length_nil, Nat.reduceAdd, Nat.reduceSub, Nat.zero_add, Nat.add_zero, List.replicate_succ, List.replicate_zero, List.append_nil, List.getElem?_cons_succ, List.getElem?_cons_zero, List.set_cons_succ, List.set_cons_zero, Bool.not_true, Bool.not_false, if_true, if_false, ite_true, ite_false, Bool.false_eq_true, reduceIte, Option.some.injEq, Option.bind_some, dropE]
  generalize hfi : head / 7 % many = first
  generalize hla : ends head many = last
  refine for_go (I := fun k ρ S' => ρ = env head many (webD many (cut ns)) first last none none none none ∧ S' = S) ⟨rfl, rfl⟩ (fun i x ρ S' hx ⟨h1, h3⟩ => ?_) (fun _ _ _ => trivial) (fun ρ' S' ⟨e1, e2⟩ => ?_)
  · subst h1 h3
    obtain ⟨c, rfl⟩ : ∃ c : Int, x = .int c := by
      have := List.mem_of_getElem? hx
      rcases List.mem_cons.mp this with h | h
      · exact ⟨0, h⟩
      · obtain ⟨c, _, h⟩ := List.mem_map.mp h
        exact ⟨c, h.symm⟩
    have hN := numbers_len c many
    have hn := numbers_ok hm2 c S'
    generalize numbers c many = N at hN hn
    have wi := worth_in (head := head) (many := many) (first := first) (last := last) N (cut ns) (some (.int c)) S'
    have sw := side_worth_ok (many := many) N (cut ns) S'
    have si := sum_ok (x := .lst (((( cut ns).filter (lead many N)).map bound).map D.int)) (ns := ((cut ns).filter (lead many N)).map bound) (S := S') rfl
    have tu : ∀ ms : List Int, tupleD (lI ms) S' = .ok (tI ms) S' := fun _ => rfl
    have wh := whole_in (head := head) (first := first) (last := last) (many := many) (webD many (cut ns)) N hN (some (.int c)) (some (.int (worth many N (cut ns)))) S'
    have hW := whole_len first last N hN
    generalize whole first last N = Wh at hW wh
    obtain ⟨s1, l1, e1⟩ := spoilt_ok (many := many) N (by omega) c S'
    obtain ⟨s2, l2, e2⟩ := spoilt_ok (many := many) Wh hW c S'
    refine ⟨trivial, _, env head many (webD many (cut ns)) first last (some (.int c)) (some (lI N)) (some (.int (worth many N (cut ns)))) (some (lI Wh)), S', rfl, ?_, ⟨rfl, rfl⟩⟩
    have ew : (((cut ns).filter (lead many N)).map bound).sum = worth many N (cut ns) := rfl
    simp only [env0, ev_want, sz0, sz1, sz2, sz3, sz4, sz5, sz6, sz7, sz8, sz9, sz10, sz11, sz12, sz13, eVar, eC, eBin, eUn, eCall, aCons, aNil, eTup, eLst, eNew, nDisp, nCall, sSeq, sAsg, sRet, sRetN, sIf, sExpr, sNil, tOf, tAnd2, tOr2, tNot1, eNot1, ev_bind, ev_pure, go_ok, ev_ite, on1, on2, gN, gTup', gsCons, gsNil, boolB, addI, subI, negI, ltI, leI, gtI, geI, eqI, neI, List.map_cons, List.map_nil, List.cons_append, List.nil_append, List.length_cons, List.length_nil, Nat.reduceAdd, Nat.reduceSub, Nat.zero_add, Nat.add_zero, List.replicate_succ, List.replicate_zero, List.append_nil, List.getElem?_cons_succ, List.getElem?_cons_zero, List.set_cons_succ, List.set_cons_zero, Bool.not_true, Bool.not_false, if_true, if_false, ite_true, ite_false, Bool.false_eq_true, reduceIte, Option.some.injEq, Option.bind_some, hn, wi, si, ew, tu, sw, same_ok, decide_true, wh, e1, e2, sFor, itNew]
    simp only [env0, ev_want, sz0, sz1, sz2, sz3, sz4, sz5, sz6, sz7, sz8, sz9, sz10, sz11, sz12, sz13, eVar, eC, eBin, eUn, eCall, aCons, aNil, eTup, eLst, eNew, nDisp, nCall, sSeq, sAsg, sRet, sRetN, sIf, sExpr, sNil, tOf, tAnd2, tOr2, tNot1, eNot1, ev_bind, ev_pure, go_ok, ev_ite, on1, on2, gN, gTup', gsCons, gsNil, boolB, addI, subI, negI, ltI, leI, gtI, geI, eqI, neI, List.map_cons, List.map_nil, List.cons_append, List.nil_append, List.length_cons, List.length_nil, Nat.reduceAdd, Nat.reduceSub, Nat.zero_add, Nat.add_zero, List.replicate_succ, List.replicate_zero, List.append_nil, List.getElem?_cons_succ, List.getElem?_cons_zero, List.set_cons_succ, List.set_cons_zero, Bool.not_true, Bool.not_false, if_true, if_false, ite_true, ite_false, Bool.false_eq_true, reduceIte, Option.some.injEq, Option.bind_some, dropE]
    have inner : ∀ ms : List Int, ms.length < 64 → ∀ o4 o8 o9 : Option D, (sSeq (sAsg (eCall m_is_side (aCons (eVar 3) (aCons (eVar 5) (aCons (eVar 6) (aCons (eCall (on1 tupleD) (aCons (eVar 10) aNil)) aNil))))) (gN 11))
        (sIf (tOr2 (tNot1 (tOf (eUn (isiD "bool") (eVar 11)))) (tOf (eBin neD (eVar 11) (eCall m_law_is_side (aCons (eVar 10) (aCons (eVar 2) (aCons (eVar 5) (aCons (eVar 6) aNil)))))))) (sRet (eC (.bl false))) sNil))
        [some (.loc 0), some (.int head), some (.int many), some (webD many (cut ns)), o4, some (.int first), some (.int last), some (lI N), o8, o9, some (lI ms), none, none, none] S' =
        .ok (.nx [some (.loc 0), some (.int head), some (.int many), some (webD many (cut ns)), o4, some (.int first), some (.int last), some (lI N), o8, o9, some (lI ms), some (.bl (sideP many first last ms)), none, none]) S' := fun ms hms o4 o8 o9 => by
      have i1 := is_side_ok (many := many) (first := first) (last := last) (.tup ((cut ns).map (tie many))) ms hms S'
      have i2 := law_is_side_ok (many := many) (first := first) (last := last) ms hms S'
      have ib : isiD "bool" (.bl (sideP many first last ms)) S' = .ok (.bl true) S' := rfl
      have ne : neD (.bl (sideP many first last ms)) (.bl (sideP many first last ms)) S' = .ok (.bl false) S' := by
        cases sideP many first last ms <;> rfl
      simp only [env0, ev_want, sz0, sz1, sz2, sz3, sz4, sz5, sz6, sz7, sz8, sz9, sz10, sz11, sz12, sz13, eVar, eC, eBin, eUn, eCall, aCons, aNil, eTup, eLst, eNew, nDisp, nCall, sSeq, sAsg, sRet, sRetN, sIf, sExpr, sNil, tOf, tAnd2, tOr2, tNot1, eNot1, ev_bind, ev_pure, go_ok, ev_ite, on1, on2, gN, gTup', gsCons, gsNil, boolB, addI, subI, negI, ltI, leI, gtI, geI, eqI, neI, List.map_cons, List.map_nil, List.cons_append, List.nil_append, List.length_cons, List.length_nil, Nat.reduceAdd, Nat.reduceSub, Nat.zero_add, Nat.add_zero, List.replicate_succ, List.replicate_zero, List.append_nil, List.getElem?_cons_succ, List.getElem?_cons_zero, List.set_cons_succ, List.set_cons_zero, Bool.not_true, Bool.not_false, if_true, if_false, ite_true, ite_false, Bool.false_eq_true, reduceIte, Option.some.injEq, Option.bind_some, tu, i1, i2, ib, ne]
    refine for_ok (I := fun k ρ S'' => ρ = env head many (webD many (cut ns)) first last (some (.int c)) (some (lI N)) (some (.int (worth many N (cut ns)))) (some (lI Wh)) ∧ S'' = S') ⟨rfl, rfl⟩ (fun j x ρ S'' hx ⟨h1, h3⟩ => ?_) (fun _ _ _ => trivial) (fun ρ'' S'' ⟨f1, f2⟩ => ?_)
    · subst h1 h3
      obtain ⟨ms, hms, rfl⟩ : ∃ ms : List Int, ms.length < 64 ∧ x = lI ms := by
        have := List.mem_of_getElem? hx
        simp only [List.mem_cons, List.not_mem_nil, or_false] at this
        rcases this with h | h | h | h
        · exact ⟨N, by omega, h⟩
        · exact ⟨Wh, by omega, h⟩
        · exact ⟨s1, by omega, h⟩
        · exact ⟨s2, by omega, h⟩
      exact ⟨trivial, _, _, S'', rfl, inner ms hms _ _ _, ⟨rfl, rfl⟩⟩
    · subst f1 f2
      rfl
  · subst e1 e2
    simp only [env0, ev_want, sz0, sz1, sz2, sz3, sz4, sz5, sz6, sz7, sz8, sz9, sz10, sz11, sz12, sz13, eVar, eC, eBin, eUn, eCall, aCons, aNil, eTup, eLst, eNew, nDisp, nCall, sSeq, sAsg, sRet, sRetN, sIf, sExpr, sNil, tOf, tAnd2, tOr2, tNot1, eNot1, ev_bind, ev_pure, go_ok, ev_ite, on1, on2, gN, gTup', gsCons, gsNil, boolB, addI, subI, negI, ltI, leI, gtI, geI, eqI, neI, List.map_cons, List.map_nil, List.cons_append, List.nil_append, List.length_cons, List.length_nil, Nat.reduceAdd, Nat.reduceSub, Nat.zero_add, Nat.add_zero, List.replicate_succ, List.replicate_zero, List.append_nil, List.getElem?_cons_succ, List.getElem?_cons_zero, List.set_cons_succ, List.set_cons_zero, Bool.not_true, Bool.not_false, if_true, if_false, ite_true, ite_false, Bool.false_eq_true, reduceIte, Option.some.injEq, Option.bind_some]
end
end LW

set_option Elab.async false
open PySem PySem.W PyProof.Rows
set_option maxRecDepth 100000 in
set_option maxHeartbeats 0 in
theorem PySem.Challenge.cw_lamprota_k19_sides_holds : PySem.Challenge.rw_lamprota_k19_sides.Holds := by
  w_on; o_law; k_head; (case hw => w_witness2)
  k_fill
  refine LP.walk (l := PySem.Challenge.rw_lamprota_k19_sides) (k := 4) (fn := LW.m_law) rfl rfl ⟨rfl, by decide, by decide⟩ (fun w h Y => PySem.W.kIn_of Y) ?lpN ?lpF ?lpM
  case lpN => intro w; exact (by rfl)
  case lpM => exact LW.law_true
  case lpF =>
    intro w mg h KX G
    refine' LW.all_mk KX G ?a0 ?l0 ?x0 ?k0 ?a1 ?l1 ?x1 ?k1 ?a2 ?l2 ?x2 ?k2 ?a3 ?l3 ?x3 ?k3 ?a4 ?l4 ?x4 ?k4 ?a5 ?l5 ?x5 ?k5 ?a6 ?l6 ?x6 ?k6 ?a7 ?l7 ?x7 ?k7 ?a8 ?l8 ?x8 ?k8 ?a9 ?l9 ?x9 ?k9 ?a10 ?l10 ?x10 ?k10 ?a11 ?l11 ?x11 ?k11 ?z0 ?z1 ?z2 ?z3 ?z4 ?z5 ?z6 ?z7 ?z8 ?z9 ?z10 ?z11 ?z12 ?z13 ?z14 ?z15
    (case a0 => k_is)
    (case l0 => k_is)
    (case x0 => k_is)
    (case k0 => k_is)
    (case a1 => k_is)
    (case l1 => k_is)
    (case x1 => k_is)
    (case k1 => k_is)
    (case a2 => k_is)
    (case l2 => k_is)
    (case x2 => k_is)
    (case k2 => k_is)
    (case a3 => k_is)
    (case l3 => k_is)
    (case x3 => k_is)
    (case k3 => k_is)
    (case a4 => k_is)
    (case l4 => k_is)
    (case x4 => k_is)
    (case k4 => k_is)
    (case a5 => k_is)
    (case l5 => k_is)
    (case x5 => k_is)
    (case k5 => k_is)
    (case a6 => k_is)
    (case l6 => k_is)
    (case x6 => k_is)
    (case k6 => k_is)
    (case a7 => k_is)
    (case l7 => k_is)
    (case x7 => k_is)
    (case k7 => k_is)
    (case a8 => k_is)
    (case l8 => k_is)
    (case x8 => k_is)
    (case k8 => k_is)
    (case a9 => k_is)
    (case l9 => k_is)
    (case x9 => k_is)
    (case k9 => k_is)
    (case a10 => k_is)
    (case l10 => k_is)
    (case x10 => k_is)
    (case k10 => k_is)
    (case a11 => k_is)
    (case l11 => k_is)
    (case x11 => k_is)
    (case k11 => k_is)
    (case z0 => k_is)
    (case z1 => k_is)
    (case z2 => k_is)
    (case z3 => k_is)
    (case z4 => k_is)
    (case z5 => k_is)
    (case z6 => k_is)
    (case z7 => k_is)
    (case z8 => k_is)
    (case z9 => k_is)
    (case z10 => k_is)
    (case z11 => k_is)
    (case z12 => k_is)
    (case z13 => k_is)
    (case z14 => k_is)
    (case z15 => k_is)
