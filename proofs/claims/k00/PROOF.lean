import PyProof.Rows.All
import Wide.All
import OpenK.AllK
import Wide.FinOn
import HandS.ForMost
import HandS.HeadHook1
import HandS.TupAny
import HandS.Deep
import HandS.IsInst
import HandS.More
import HandS.WordsDict
import KE.KSortedM
import KE.GoesMore
import HandS.Zip
import HandS.Style
import HandS.Small
import HandS.Defaults
import HandS.IterVal
import HandS.HeadHook3
import KE.KRevSl
import HandS.Head0
import HandS.Head1
import HandS.Head2
import HandS.HeadEnd
import HandS.HeadHook2
import HandS.HeadHook4
import HandS.SetBool
import HandS.Strs
import HandS.SetFor
import PySem.Challenge.RW_missedmarks_k00_events_and_timetables_or
set_option Elab.async false
set_option linter.all false
set_option maxRecDepth 100000
set_option maxHeartbeats 4000000
set_option autoImplicit false
/-! Mp1: plain values, plain heaps, how they stand to the layer's. -/
namespace Mp
open PySem L2

/-- plain values: tuples by value, what can change by its number; cl: the script -/
inductive PV where
  | non | bl (b : Bool) | int (i : Int) | str (s : Str) | tup (xs : List PV) | ref (n : Nat) | cl (ns : List Int) | fn (n : Nat) (x : Str)
inductive Ob where
  | lst (xs : List PV)
  | dic (kvs : List (Key × PV))
  | ins (c : Str) (fs : List (Str × PV))
abbrev Mm := List Ob
abbrev Sg := List (Option PV)

def CL (K : PySem.W.Frag) (H : Hp) (a : Addr) (ns : List Int) : Prop :=
  (∃ o, H a = some (.frz o (.lst (ns.map V.int)))) ∨ ∀ H' : Hp, SqL K H' a (ns.map V.int)
theorem CL.sq {K : PySem.W.Frag} {H : Hp} {a : Addr} {ns : List Int} (h : CL K H a ns) : SqL K H a (ns.map V.int) := by
  rcases h with ⟨o, h⟩ | h
  · exact .inl (.inr ⟨o, h⟩)
  · exact h H

mutual
inductive RV (K : PySem.W.Frag) (r : List Addr) (H : Hp) : PV → V → Prop
  | non : RV K r H .non .non
  | bl (b : Bool) : RV K r H (.bl b) (.bl b)
  | int (i : Int) : RV K r H (.int i) (.int i)
  | str (s : Str) : RV K r H (.str s) (.str s)
  | tup {xs : List PV} {a : Addr} {vs : List V} : SqT K H a vs → RVs K r H xs vs → RV K r H (.tup xs) (.ref a)
  | ref {n : Nat} {a : Addr} : r[n]? = some a → RV K r H (.ref n) (.ref a)
  | cl {ns : List Int} {a : Addr} : CL K H a ns → RV K r H (.cl ns) (.ref a)
  | fn (n : Nat) (x : Str) : RV K r H (.fn n x) (.ref (He.ga K x))
inductive RVs (K : PySem.W.Frag) (r : List Addr) (H : Hp) : List PV → List V → Prop
  | nil : RVs K r H [] []
  | cons {x : PV} {xs : List PV} {v : V} {vs : List V} : RV K r H x v → RVs K r H xs vs → RVs K r H (x :: xs) (v :: vs)
end

/-- later states: more objects, tuples and locked things as they were -/
structure Ext0 (r r' : List Addr) (H H' : Hp) : Prop where
  pre : ∃ t, r' = r ++ t
  tups : ∀ a xs, H a = some (.tup xs) → H' a = some (.tup xs)
  frzs : ∀ a o u, H a = some (.frz o u) → H' a = some (.frz o u)
/-- .. and what is not tracked stands as it was; what is new was free -/
structure Ext (r r' : List Addr) (H H' : Hp) : Prop extends Ext0 r r' H H' where
  fresh : ∀ a, a ∈ r' → a ∉ r → H a = none
  oth : ∀ a o, a ∉ r → H a = some o → H' a = some o
  live : ∀ a o, H a = some o → ∃ o', H' a = some o'
theorem Ext.refl {r : List Addr} {H : Hp} : Ext r r H H := ⟨⟨⟨[], by simp⟩, fun _ _ h => h, fun _ _ _ h => h⟩, fun a h1 h2 => absurd h1 h2, fun _ _ _ h => h, fun _ o h => ⟨o, h⟩⟩
theorem Ext.trans {r1 r2 r3 : List Addr} {H1 H2 H3 : Hp} (a : Ext r1 r2 H1 H2) (b : Ext r2 r3 H2 H3) : Ext r1 r3 H1 H3 := by
  obtain ⟨t, e1⟩ := a.pre
  obtain ⟨u, e2⟩ := b.pre
  refine ⟨⟨⟨t ++ u, by rw [e2, e1, List.append_assoc]⟩, fun x xs h => b.tups x xs (a.tups x xs h), fun x o u h => b.frzs x o u (a.frzs x o u h)⟩, fun x h3 h1 => ?_, fun x o h1 h => ?_, fun x o h => ?_⟩
  · by_cases h2 : x ∈ r2
    · exact a.fresh x h2 h1
    · have q := b.fresh x h3 h2
      cases e : H1 x with
      | none => rfl
      | some o =>
        obtain ⟨o', e'⟩ := a.live x o e
        rw [e'] at q; cases q
  · refine b.oth x o (fun h2 => ?_) (a.oth x o h1 h)
    rw [a.fresh x h2 h1] at h; cases h
  · obtain ⟨o', e'⟩ := a.live x o h
    exact b.live x o' e'
theorem Ext0.at {r r' : List Addr} {H H' : Hp} (e : Ext0 r r' H H') {n : Nat} {a : Addr} (h : r[n]? = some a) : r'[n]? = some a := by
  obtain ⟨t, rfl⟩ := e.pre
  rw [List.getElem?_append_left (List.getElem?_eq_some_iff.mp h).1]
  exact h
theorem Ext.at {r r' : List Addr} {H H' : Hp} (e : Ext r r' H H') {n : Nat} {a : Addr} (h : r[n]? = some a) : r'[n]? = some a := by
  obtain ⟨t, rfl⟩ := e.pre
  rw [List.getElem?_append_left (List.getElem?_eq_some_iff.mp h).1]
  exact h
section
variable {K : PySem.W.Frag} {r r' : List Addr} {H H' : Hp}
theorem Ext0.rd (e : Ext0 r r' H H') {a : Addr} {xs : List V} (h : Rd H a (.tup xs)) : Rd H' a (.tup xs) := by
  rcases h with h | ⟨o, h⟩
  · exact .inl (e.tups a xs h)
  · exact .inr ⟨o, e.frzs a o _ h⟩
theorem Ext0.sqT (e : Ext0 r r' H H') {a : Addr} {xs : List V} (h : SqT K H a xs) : SqT K H' a xs := by
  rcases h with h | h
  · exact .inl (e.rd h)
  · exact .inr h
theorem Ext0.cl (e : Ext0 r r' H H') {a : Addr} {ns : List Int} (h : CL K H a ns) : CL K H' a ns := by
  rcases h with ⟨o, h⟩ | h
  · exact .inl ⟨o, e.frzs a o _ h⟩
  · exact .inr h
mutual
theorem RV.ext0 (e : Ext0 r r' H H') : ∀ {x : PV} {v : V}, RV K r H x v → RV K r' H' x v
  | _, _, .non => .non
  | _, _, .bl b => .bl b
  | _, _, .int b => .int b
  | _, _, .str b => .str b
  | _, _, .tup h hs => .tup (e.sqT h) (RVs.ext0 e hs)
  | _, _, .ref h => .ref (e.at h)
  | _, _, .cl h => .cl (e.cl h)
  | _, _, .fn n x => .fn n x
theorem RVs.ext0 (e : Ext0 r r' H H') : ∀ {x : List PV} {v : List V}, RVs K r H x v → RVs K r' H' x v
  | _, _, .nil => .nil
  | _, _, .cons h hs => .cons (RV.ext0 e h) (RVs.ext0 e hs)
end
theorem Ext.sqT (e : Ext r r' H H') {a : Addr} {xs : List V} (h : SqT K H a xs) : SqT K H' a xs := e.toExt0.sqT h
theorem Ext.cl (e : Ext r r' H H') {a : Addr} {ns : List Int} (h : CL K H a ns) : CL K H' a ns := e.toExt0.cl h
theorem RV.ext {x : PV} {v : V} (h : RV K r H x v) (e : Ext r r' H H') : RV K r' H' x v := RV.ext0 e.toExt0 h
theorem RVs.ext {x : List PV} {v : List V} (h : RVs K r H x v) (e : Ext r r' H H') : RVs K r' H' x v := RVs.ext0 e.toExt0 h
theorem RVs.length : ∀ {x : List PV} {v : List V}, RVs K r H x v → x.length = v.length
  | _, _, .nil => rfl
  | _, _, .cons _ hs => by simp [RVs.length hs]
theorem RVs.append : ∀ {x y : List PV} {v u : List V}, RVs K r H x v → RVs K r H y u → RVs K r H (x ++ y) (v ++ u)
  | _, _, _, _, .nil, h => h
  | _, _, _, _, .cons h hs, h' => .cons h (RVs.append hs h')
theorem RVs.get : ∀ {x : List PV} {v : List V} {i : Nat} {p : PV}, RVs K r H x v → x[i]? = some p → ∃ u, v[i]? = some u ∧ RV K r H p u
  | _, _, _, _, .nil, e => by simp at e
  | _, _, 0, _, .cons h _, e => by simp at e; subst e; exact ⟨_, rfl, h⟩
  | _, _, i + 1, p, .cons _ hs, e => by
    obtain ⟨u, h1, h2⟩ := RVs.get (i := i) hs (by simpa using e)
    exact ⟨u, by simpa using h1, h2⟩
theorem RVs.get' : ∀ {x : List PV} {v : List V} {i : Nat} {u : V}, RVs K r H x v → v[i]? = some u → ∃ p, x[i]? = some p ∧ RV K r H p u
  | _, _, _, _, .nil, e => by simp at e
  | _, _, 0, _, .cons h _, e => by simp at e; subst e; exact ⟨_, rfl, h⟩
  | _, _, i + 1, p, .cons _ hs, e => by
    obtain ⟨u, h1, h2⟩ := RVs.get' (i := i) hs (by simpa using e)
    exact ⟨u, by simpa using h1, h2⟩
theorem RVs.drop : ∀ {x : List PV} {v : List V} (n : Nat), RVs K r H x v → RVs K r H (x.drop n) (v.drop n)
  | _, _, 0, h => h
  | _, _, _ + 1, .nil => .nil
  | _, _, n + 1, .cons _ hs => RVs.drop n hs
theorem RVs.take : ∀ {x : List PV} {v : List V} (n : Nat), RVs K r H x v → RVs K r H (x.take n) (v.take n)
  | _, _, 0, h => .nil
  | _, _, _ + 1, .nil => .nil
  | _, _, n + 1, .cons h hs => .cons h (RVs.take n hs)
theorem RVs.set : ∀ {x : List PV} {v : List V} (n : Nat) {p : PV} {u : V}, RVs K r H x v → RV K r H p u → RVs K r H (x.set n p) (v.set n u)
  | _, _, _, _, _, .nil, _ => .nil
  | _, _, 0, _, _, .cons _ hs, h' => .cons h' hs
  | _, _, n + 1, _, _, .cons h hs, h' => .cons h (RVs.set n hs h')
theorem RVs.reverse : ∀ {x : List PV} {v : List V}, RVs K r H x v → RVs K r H x.reverse v.reverse
  | _, _, .nil => .nil
  | _, _, .cons h hs => by
    rw [List.reverse_cons, List.reverse_cons]
    exact RVs.append (RVs.reverse hs) (.cons h .nil)

/-! ### the heap -/
def RO (K : PySem.W.Frag) (r : List Addr) (H : Hp) (a : Addr) : Ob → Prop
  | .lst xs => ∃ vs, H a = some (.lst vs) ∧ RVs K r H xs vs
  | .dic kvs => ∃ vs, H a = some (.dK vs) ∧ vs.map (·.1) = kvs.map (·.1) ∧ RVs K r H (kvs.map (·.2)) (vs.map (·.2))
  | .ins c fs => ∃ dx vs, H a = some (.ins (He.ga K c) dx vs) ∧ vs.map (·.1) = fs.map (·.1) ∧ RVs K r H (fs.map (·.2)) (vs.map (·.2))
structure RH (K : PySem.W.Frag) (r : List Addr) (M : Mm) (H : Hp) : Prop where
  len : r.length = M.length
  nd : r.Nodup
  ob : ∀ (n : Nat) (a : Addr) (o : Ob), r[n]? = some a → M[n]? = some o → RO K r H a o
theorem RO.there {a : Addr} : ∀ {o : Ob}, RO K r H a o → ∃ ho, H a = some ho ∧ Mut (some ho)
  | .lst _, ⟨vs, h, _⟩ => ⟨_, h, trivial⟩
  | .dic _, ⟨vs, h, _⟩ => ⟨_, h, trivial⟩
  | .ins _ _, ⟨dx, vs, h, _⟩ => ⟨_, h, trivial⟩
theorem RO.ext (e : Ext0 r r' H H') {a : Addr} (h : H' a = H a) : ∀ {o : Ob}, RO K r H a o → RO K r' H' a o
  | .lst _, ⟨vs, h1, h2⟩ => ⟨vs, h.trans h1, RVs.ext0 e h2⟩
  | .dic _, ⟨vs, h1, h2, h3⟩ => ⟨vs, h.trans h1, h2, RVs.ext0 e h3⟩
  | .ins _ _, ⟨dx, vs, h1, h2, h3⟩ => ⟨dx, vs, h.trans h1, h2, RVs.ext0 e h3⟩
theorem RH.at {M : Mm} (h : RH K r M H) {n : Nat} {o : Ob} (e : M[n]? = some o) : ∃ a, r[n]? = some a ∧ RO K r H a o := by
  have h1 : n < r.length := by rw [h.len]; exact (List.getElem?_eq_some_iff.mp e).1
  exact ⟨r[n], List.getElem?_eq_getElem h1, h.ob n _ o (List.getElem?_eq_getElem h1) e⟩
theorem RH.there {M : Mm} (h : RH K r M H) {a : Addr} (m : a ∈ r) : ∃ ho, H a = some ho ∧ Mut (some ho) := by
  obtain ⟨n, hn, e⟩ := List.mem_iff_getElem.mp m
  have h1 : n < M.length := by rw [← h.len]; exact hn
  exact (h.ob n a M[n] (by rw [List.getElem?_eq_getElem hn, e]) (List.getElem?_eq_getElem h1)).there
/-- untracked things change -/
theorem RH.same {M : Mm} (h : RH K r M H) (e : Ext0 r r H H') (k : ∀ a ∈ r, H' a = H a) : RH K r M H' :=
  ⟨h.len, h.nd, fun n a o h1 h2 => (h.ob n a o h1 h2).ext e (k a (List.mem_of_getElem? h1))⟩
theorem ext_new {p : Addr} {o : HO} (hp : H p = none) (t : List Addr) (ht : t = [p] ∨ t = [] := by first | exact .inl rfl | exact .inr rfl) : Ext r (r ++ t) H (upd H p o) := by
  refine ⟨⟨⟨t, rfl⟩, fun a xs h => by rw [upd_ne (ne_of_none h hp)]; exact h, fun a o u h => by rw [upd_ne (ne_of_none h hp)]; exact h⟩, fun a h1 h2 => ?_, fun a o _ h => by rw [upd_ne (ne_of_none h hp)]; exact h, fun a o h => ⟨o, by rw [upd_ne (ne_of_none h hp)]; exact h⟩⟩
  rcases List.mem_append.mp h1 with h | h
  · exact absurd h h2
  · rcases ht with rfl | rfl
    · have : a = p := by simpa using h
      rw [this]; exact hp
    · cases h
theorem ext_new0 {p : Addr} {o : HO} (hp : H p = none) : Ext r r H (upd H p o) := by
  have := ext_new (r := r) (o := o) hp [] (.inr rfl)
  rwa [List.append_nil] at this
/-- a thing that is not tracked here is laid -/
theorem RH.other {M : Mm} (h : RH K r M H) {p : Addr} (o : HO) (hp : H p = none) : RH K r M (upd H p o) :=
  h.same (ext_new0 hp).toExt0 fun a m => by
    obtain ⟨ho, e, _⟩ := h.there m
    exact upd_ne (ne_of_none e hp)
/-- a new object -/
theorem RH.new {M : Mm} (h : RH K r M H) {p : Addr} {ho : HO} {o : Ob} (hp : H p = none) (q : RO K (r ++ [p]) (upd H p ho) p o) : RH K (r ++ [p]) (M ++ [o]) (upd H p ho) := by
  have np : p ∉ r := fun m => by
    obtain ⟨ho, e, _⟩ := h.there m
    rw [hp] at e; cases e
  refine ⟨by simp [h.len], ?_, fun n a o' h1 h2 => ?_⟩
  · rw [List.nodup_append]
    refine ⟨h.nd, by simp, fun a ha b hb => ?_⟩
    have : b = p := by simpa using hb
    subst this
    exact fun z => np (z ▸ ha)
  · by_cases hn : n < r.length
    · rw [List.getElem?_append_left hn] at h1
      rw [List.getElem?_append_left (by rw [← h.len]; exact hn)] at h2
      refine (h.ob n a o' h1 h2).ext (ext_new hp [p]).toExt0 (upd_ne fun z => ?_)
      subst z
      exact np (List.mem_of_getElem? h1)
    · have h3 : n = r.length := by
        have := (List.getElem?_eq_some_iff.mp h1).1
        simp at this
        omega
      subst h3
      rw [List.getElem?_append_right (Nat.le_refl _)] at h1
      rw [h.len, List.getElem?_append_right (Nat.le_refl _)] at h2
      simp at h1 h2
      subst h1; subst h2
      exact q
theorem ext_set {a : Addr} {o : HO} {ho : HO} (h : H a = some ho) (m : Mut (some ho)) (ma : a ∈ r) : Ext r r H (upd H a o) := by
  refine ⟨⟨⟨[], by simp⟩, fun b xs e => ?_, fun b q u e => ?_⟩, fun b h1 h2 => absurd h1 h2, fun b q hb e => ?_, fun b q e => ?_⟩
  · rw [upd_ne]; exact e
    intro z; subst z; rw [h] at e; cases e; exact m
  · rw [upd_ne]; exact e
    intro z; subst z; rw [h] at e; cases e; exact m
  · rw [upd_ne]; exact e
    intro z; subst z; exact hb ma
  · by_cases hb : b = a
    · subst hb; exact ⟨o, upd_same⟩
    · exact ⟨q, by rw [upd_ne hb]; exact e⟩
/-- an object changes -/
theorem RH.set {M : Mm} (h : RH K r M H) {n : Nat} {a : Addr} {ho : HO} {o : Ob} (ha : r[n]? = some a) (q : RO K r (upd H a ho) a o) : RH K r (M.set n o) (upd H a ho) := by
  obtain ⟨h0, e0, m0⟩ := h.there (List.mem_of_getElem? ha)
  refine ⟨by simp [h.len], h.nd, fun k b o' h1 h2 => ?_⟩
  by_cases hk : k = n
  · subst hk
    rw [ha] at h1; cases h1
    rw [List.getElem?_set_self (by rw [← h.len]; exact (List.getElem?_eq_some_iff.mp ha).1)] at h2
    cases h2
    exact q
  · rw [List.getElem?_set_ne (fun z => hk z.symm)] at h2
    refine (h.ob k b o' h1 h2).ext (ext_set e0 m0 (List.mem_of_getElem? ha)).toExt0 (upd_ne fun z => ?_)
    subst z
    exact hk (nodup_ixA h.nd h1 ha)
where
  nodup_ixA {N : List Addr} (hN : N.Nodup) {i j : Nat} {x : Addr} (a : N[i]? = some x) (b : N[j]? = some x) : i = j := by
    obtain ⟨h1, e1⟩ := List.getElem?_eq_some_iff.mp a
    obtain ⟨h2, e2⟩ := List.getElem?_eq_some_iff.mp b
    exact (List.getElem_inj hN).mp (e1.trans e2.symm)
/-- slots -/
structure RS (K : PySem.W.Frag) (r : List Addr) (H : Hp) (sg : Sg) (s : L2.St) : Prop where
  len : sg.length = s.length
  at_ : ∀ (i : Nat) (p : PV), sg[i]? = some (some p) → ∃ v : V, s[i]? = some (some v) ∧ RV K r H p v
theorem RS.ext {sg : Sg} {s : L2.St} (h : RS K r H sg s) (e : Ext r r' H H') : RS K r' H' sg s :=
  ⟨h.len, fun i p q => let ⟨v, h1, h2⟩ := h.at_ i p q; ⟨v, h1, h2.ext e⟩⟩
theorem RS.set {sg : Sg} {s : L2.St} (h : RS K r H sg s) (i : Nat) {p : PV} {v : V} (q : RV K r H p v) : RS K r H (sg.set i (some p)) (s.set i (some v)) :=
  ⟨by simp [h.len], fun j p' e => by
    by_cases hj : i = j
    · subst hj
      by_cases hl : i < sg.length
      · rw [List.getElem?_set_self hl] at e
        cases e
        exact ⟨v, List.getElem?_set_self (by rw [← h.len]; exact hl), q⟩
      · rw [List.getElem?_eq_none (by simpa using hl)] at e; cases e
    · rw [List.getElem?_set_ne hj] at e
      rw [List.getElem?_set_ne hj]
      exact h.at_ j p' e⟩
end
/-- what is wanted behind: any later state -/
def Post (K : PySem.W.Frag) (r : List Addr) (H : Hp) (z : PV) (M' : Mm) (Q : VK) : Prop := ∀ r' u H', Ext r r' H H' → RH K r' M' H' → RV K r' H' z u → Q u H'
end Mp

/-! Mp2: the plain program (IR) and its evaluator. -/
namespace Mp
open PySem L2

inductive Co where
  | eq | ne | lt | le | gt | ge | isin | notin | isN | isNN
  deriving DecidableEq
inductive Ty where
  | list | tuple | int | bool | str | dict
  deriving DecidableEq
inductive B where
  | len | int | abs | min2 | all | any | sum | tuple | list | sorted | ssort | min1 | max1 | dict
  deriving DecidableEq
inductive Mt where
  | append | pop0 | pop1 | extend | get1 | dpop2
  deriving DecidableEq
inductive Bo where
  | add | sub | mul | fdiv | mod | pow
  deriving DecidableEq
inductive Tg where
  | name (i : Nat) | tup (is : List Nat)
mutual
inductive E where
  | var (i : Nat) | con (v : PV)
  | bop (o : Bo) (a b : E) | neg (a : E)
  | cmp (o : Co) (a b : E) | chn (o1 o2 : Co) (a b c : E)
  | and (a b : E) | or (a b : E) | not (a : E) | ite (c a b : E)
  | tup (es : Es) | lst (es : Es) | dnew | dct (ks : List Key) (vs : Es)
  | idx (a i : E) | slc (fl fh : Bool) (a lo hi : E)
  | call (f : Nat) (es : Es)
  | blt (b : B) (es : Es) | mth (m : Mt) (o : E) (es : Es)
  | isi (a : E) (ts : List Ty)
  | fld (c f : Str) (o : E) | mc (c m : Str) (f : Nat) (o : E) (es : Es)
  | knot (tb : List (Str × List (Nat × Str))) (a : E) | kidx (tb : List (Str × List (Nat × Str))) (a : E) | callv (i : Nat) (fs : List (Nat × Str)) (es : Es) | rev (a : E)
  | lc (own : List Nat) (t : Tg) (it : It) (c e : E)
  | ssc (own : List Nat) (t : Tg) (it : It) (c e : E)
inductive Es where
  | nil | cons (e : E) (r : Es)
inductive It where
  | seq (e : E) | rng1 (a : E) | rng2 (a b : E) | rng3 (a b c : E) | enum (e : E) | zip (a b : E)
end
mutual
inductive S where
  | asg (t : Tg) (e : E) | sto (o i v : E) | exp (e : E) | ret (e : E)
  | iff (c : E) (a b : Ss) | for_ (t : Tg) (it : It) (b : Ss) | whl (c : E) (b : Ss)
  | pass | brk | cnt | stuck
  | fset (c f : Str) (o v : E) | faug (c f : Str) (o v : E)
inductive Ss where
  | nil | cons (s : S) (r : Ss)
end

abbrev R := Option (PV × Mm)
def bigN : Nat := 1000000

/-! ### values -/
def keyOf : PV → Option Key
  | .int i => some (.inl i)
  | .str s => some (.inr s)
  | _ => none
def getD (kvs : List (Key × PV)) (k : Key) : Option PV := (kvs.find? fun kv => decide (kv.1 = k)).map (·.2)
def putD (kvs : List (Key × PV)) (k : Key) (v : PV) : List (Key × PV) :=
  if (kvs.any fun kv => decide (kv.1 = k)) = true then kvs.map (fun kv => if kv.1 = k then (kv.1, v) else kv) else kvs ++ [(k, v)]
def lstAt (M : Mm) (n : Nat) : Option (List PV) :=
  match M[n]? with
  | some (.lst xs) => some xs
  | _ => none
def dicAt (M : Mm) (n : Nat) : Option (List (Key × PV)) :=
  match M[n]? with
  | some (.dic xs) => some xs
  | _ => none
def toD : Nat → Mm → PV → Option PyData
  | 0, _, _ => none
  | n + 1, M, .tup xs => (xs.mapM (toD n M)).map .tuple
  | n + 1, M, .ref k =>
    match M[k]? with
    | some (.lst xs) => (xs.mapM (toD n M)).map .list
    | _ => none
  | _ + 1, _, .non => some .none
  | _ + 1, _, .bl b => some (.bool b)
  | _ + 1, _, .int i => some (.int i)
  | _ + 1, _, .str s => some (.str s)
  | _ + 1, _, .cl ns => some (.list (ns.map .int))
  | _ + 1, _, .fn _ _ => none
def eqS : PV → PV → Option Bool
  | .non, .non => some true | .non, .int _ => some false | .int _, .non => some false | .non, .bl _ => some false | .bl _, .non => some false
  | .non, .str _ => some false | .str _, .non => some false
  | .int i, .int j => some (decide (i = j)) | .bl i, .bl j => some (decide (i = j)) | .str i, .str j => some (decide (i = j))
  | .int _, .str _ => some false | .str _, .int _ => some false | .bl _, .str _ => some false | .str _, .bl _ => some false
  | _, _ => none
def eqP (M : Mm) (x y : PV) : Option Bool :=
  match eqS x y with
  | some b => some b
  | none =>
    match toD 20 M x, toD 20 M y with
    | some d, some e => if SeqAt.shaped d && SeqAt.shaped e then some (PyData.eqv d e) else none
    | _, _ => none
def flatP : PV → Bool
  | .non => true | .bl _ => true | .int _ => true | .str _ => true | _ => false
def eqF : PV → PV → Bool
  | .non, .non => true
  | .bl i, .bl j => i == j | .int i, .int j => i == j | .str i, .str j => i == j
  | .bl a, .int j => (if a then 1 else 0) == j | .int i, .bl b => i == (if b then 1 else 0)
  | _, _ => false
def inP (x : PV) (xs : List PV) : Option Bool := if flatP x && xs.all flatP then some (xs.any fun y => eqF y x) else none
def sgn : PV → Option Nat
  | .str s => match s.cps.toList with | [c] => some c | _ => none
  | _ => none
def isIn (M : Mm) (x : PV) : PV → Option Bool
  | .tup xs => inP x xs
  | .str z => (sgn x).map fun c => decide (c ∈ z.cps.toList)
  | .ref n =>
    match M[n]? with
    | some (.lst xs) => inP x xs
    | some (.dic kvs) => (keyOf x).map fun k => (getD kvs k).isSome
    | _ => none
  | _ => none
def cmpP (M : Mm) : Co → PV → PV → Option Bool
  | .eq, x, y => eqP M x y
  | .ne, x, y => (eqP M x y).map (!·)
  | .lt, .int i, .int j => some (decide (i < j))
  | .le, .int i, .int j => some (decide (i ≤ j))
  | .gt, .int i, .int j => some (decide (j < i))
  | .ge, .int i, .int j => some (decide (j ≤ i))
  | .isin, x, y => isIn M x y
  | .notin, x, y => (isIn M x y).map (!·)
  | .isN, x, .non => some (match x with | .non => true | _ => false)
  | .isNN, x, .non => some (match x with | .non => false | _ => true)
  | _, _, _ => none
def mulOk (i j : Int) : Bool := (decide (-(2 ^ 64) < i) && decide (i < 2 ^ 64)) || (decide (-(2 ^ 64) < j) && decide (j < 2 ^ 64))
def bopP (M : Mm) : Bo → PV → PV → R
  | .add, .int i, .int j => some (.int (i + j), M)
  | .add, .str a, .str b => if a.length + b.length ≤ sizeLine then some (.str (a ++ b), M) else none
  | .add, .tup xs, .tup ys => if xs.length + ys.length ≤ sizeLine then some (.tup (xs ++ ys), M) else none
  | .add, .ref a, .ref b =>
    match lstAt M a, lstAt M b with
    | some xs, some ys => if xs.length + ys.length ≤ sizeLine then some (.ref M.length, M ++ [.lst (xs ++ ys)]) else none
    | _, _ => none
  | .sub, .int i, .int j => some (.int (i - j), M)
  | .mul, .int i, .int j => if mulOk i j then some (.int (i * j), M) else none
  | .mul, .ref a, .int j =>
    match lstAt M a with
    | some xs => if -(2 ^ 63) ≤ j ∧ j < 2 ^ 63 ∧ xs.length * j.toNat ≤ sizeLine then some (.ref M.length, M ++ [.lst (List.replicate j.toNat xs).flatten]) else none
    | _ => none
  | .fdiv, .int i, .int j => if 0 < j ∧ j < 1073741824 then some (.int (i / j), M) else none
  | .mod, .int i, .int j => if 0 < j then some (.int (i % j), M) else none
  | .pow, .int i, .int j => if 0 ≤ j ∧ j ≤ 1000000 ∧ i.natAbs < 2 ^ 64 then some (.int (i ^ j.toNat), M) else none
  | _, _, _ => none
def idxP (M : Mm) : PV → PV → Option PV
  | .tup xs, .int i => atI xs i
  | .cl ns, .int i => (atI ns i).map .int
  | .str z, .int i => if z.length ≤ sizeLine then (atI z.cps.toList i).map fun c => .str ⟨#[c]⟩ else none
  | .ref n, y =>
    match M[n]?, y with
    | some (.lst xs), .int i => atI xs i
    | some (.dic kvs), y => (keyOf y).bind (getD kvs)
    | _, _ => none
  | _, _ => none
def optI : Bool → PV → Option (Option Int)
  | false, .non => some none
  | true, .int i => some (some i)
  | _, _ => none
def cutP (xs : List PV) (lo hi : Option Int) : List PV := (xs.drop (HT.sIx xs.length 0 lo)).take (HT.sIx xs.length xs.length hi - HT.sIx xs.length 0 lo)
def slcP (fl fh : Bool) (M : Mm) (x lo hi : PV) : R :=
  match optI fl lo, optI fh hi with
  | some a, some b =>
    match x with
    | .tup xs => some (.tup (cutP xs a b), M)
    | .ref n =>
      match lstAt M n with
      | some xs => some (.ref M.length, M ++ [.lst (cutP xs a b)])
      | none => none
    | _ => none
  | _, _ => none
def tyOf (M : Mm) : PV → Option Ty
  | .bl _ => some .bool
  | .int _ => some .int
  | .str _ => some .str
  | .tup _ => some .tuple
  | .cl _ => some .list
  | .ref n =>
    match M[n]? with
    | some (.lst _) => some .list
    | some (.dic _) => some .dict
    | some (.ins _ _) => none
    | none => none
  | .non => none
  | .fn _ _ => none
@[simp] def insP (M : Mm) : PV → Bool
  | .ref n =>
    match M[n]? with
    | some (.ins _ _) => true
    | _ => false
  | .fn _ _ => true
  | _ => false
/-- the fields of an instance of the class c -/
def insAt (M : Mm) (c : Str) (n : Nat) : Option (List (Str × PV)) :=
  match M[n]? with
  | some (.ins d fs) => if d = c then some fs else none
  | _ => none
def putA (f : Str) (v : PV) : List (Str × PV) → List (Str × PV)
  | [] => [(f, v)]
  | (g, x) :: r => if g = f then (g, v) :: r else (g, x) :: putA f v r
def isTy (M : Mm) (x : PV) (t : Ty) : Bool :=
  match tyOf M x with
  | some u => u == t || (u == .bool && t == .int)
  | none => false
def intsOf : List PV → Option (List Int)
  | [] => some []
  | .int i :: r => (intsOf r).map (i :: ·)
  | _ => none
def blsOf : List PV → Option (List Bool)
  | [] => some []
  | .bl i :: r => (blsOf r).map (i :: ·)
  | _ => none
def insI (i : Int) : List Int → List Int
  | [] => [i]
  | j :: r => if i ≤ j then i :: j :: r else j :: insI i r
def sortI (ns : List Int) : List Int := ns.foldr insI []
def insU (i : Int) : List Int → List Int
  | [] => [i]
  | j :: r => if i < j then i :: j :: r else if i = j then j :: r else j :: insU i r
def usortI (ns : List Int) : List Int := ns.foldr insU []
def seqOf (M : Mm) : PV → Option (List PV)
  | .tup xs => some xs
  | .ref n => lstAt M n
  | .cl ns => some (ns.map .int)
  | _ => none
def keysI : List (Key × PV) → Option (List Int)
  | [] => some []
  | (.inl i, _) :: r => (keysI r).map (i :: ·)
  | _ => none
def bltP (M : Mm) : B → List PV → R
  | .len, [x] =>
    match x with
    | .str z => if z.length ≤ sizeLine then some (.int z.length, M) else none
    | .ref n =>
      match M[n]? with
      | some (.lst xs) => some (.int xs.length, M)
      | some (.dic xs) => some (.int xs.length, M)
      | _ => none
    | .tup xs => some (.int xs.length, M)
    | .cl ns => some (.int ns.length, M)
    | _ => none
  | .int, [.int i] => some (.int i, M)
  | .int, [.bl b] => some (.int (if b then 1 else 0), M)
  | .abs, [.int i] => some (.int (if i < 0 then -i else i), M)
  | .min2, [.int i, .int j] => some (.int (if j < i then j else i), M)
  | .all, [.ref n] => ((lstAt M n).bind blsOf).map fun bs => (.bl (bs.all id), M)
  | .any, [.ref n] => ((lstAt M n).bind blsOf).map fun bs => (.bl (bs.any id), M)
  | .sum, [.ref n] => ((lstAt M n).bind intsOf).map fun ns => (.int ns.sum, M)
  | .tuple, [.ref n] => (lstAt M n).map fun xs => (.tup xs, M)
  | .tuple, [.tup xs] => some (.tup xs, M)
  | .list, [x] => (seqOf M x).map fun xs => (.ref M.length, M ++ [.lst xs])
  | .sorted, [.ref n] =>
    match M[n]? with
    | some (.lst xs) => (intsOf xs).bind fun ns => if ns.length < 64 then some (.ref M.length, M ++ [.lst ((sortI ns).map .int)]) else none
    | some (.dic kvs) => (keysI kvs).bind fun ns => if ns.length < 64 then some (.ref M.length, M ++ [.lst ((sortI ns).map .int)]) else none
    | _ => none
  | .ssort, [.ref n] => ((lstAt M n).bind intsOf).bind fun ns => if ns.length < 64 then some (.ref M.length, M ++ [.lst ((usortI ns).map .int)]) else none
  | .dict, [.ref n] => (dicAt M n).map fun xs => (.ref M.length, M ++ [.dic xs])
  | _, _ => none
def mthP (M : Mm) : Mt → PV → List PV → R
  | .append, .ref n, [y] => (lstAt M n).bind fun xs => if xs.length < sizeLine then some (.non, M.set n (.lst (xs ++ [y]))) else none
  | .pop1, .ref n, [.int i] => (lstAt M n).bind fun xs => (ixN xs.length i).bind fun j => (xs[j]?).map fun y => (y, M.set n (.lst (xs.eraseIdx j)))
  | .get1, .ref n, [k] => (dicAt M n).bind fun kvs => (keyOf k).map fun k => ((getD kvs k).getD .non, M)
  | _, _, _ => none
def mtOk (M : Mm) : Mt → PV → Bool
  | .append, .ref n => (lstAt M n).isSome
  | .pop0, .ref n => (lstAt M n).isSome
  | .pop1, .ref n => (lstAt M n).isSome
  | .extend, .ref n => (lstAt M n).isSome
  | .get1, .ref n => (dicAt M n).isSome
  | .dpop2, .ref n => (dicAt M n).isSome
  | _, _ => false
def stoP (M : Mm) (o i v : PV) : Option Mm :=
  match o with
  | .ref n =>
    match M[n]?, i with
    | some (.lst xs), .int k => (ixN xs.length k).map fun j => M.set n (.lst (xs.set j v))
    | some (.dic kvs), i => (keyOf i).bind fun k => if kvs.length < sizeLine then some (M.set n (.dic (putD kvs k v))) else none
    | _, _ => none
  | _ => none
def setAll : List Nat → List PV → Sg → Option Sg
  | [], [], sg => some sg
  | i :: is, x :: xs, sg => setAll is xs (sg.set i (some x))
  | _, _, _ => none
def tgP : Tg → PV → Sg → Option Sg
  | .name i, x, sg => some (sg.set i (some x))
  | .tup is, .tup xs, sg => setAll is xs sg
  | _, _, _ => none
def wipeP (sg : Sg) : List Nat → Sg
  | [] => sg
  | v :: vs => (wipeP sg vs).set v none

/-! ### what is walked -/
inductive Src where
  | tup (xs : List PV) | lst (n : Nat) | cl (ns : List Int) | str (z : Str) | rng (lo : Int) (n : Nat) | rngc (lo c : Int) (n : Nat)
  | en (s : Src) | zip (s t : Src)
def Src.get (M : Mm) : Src → Nat → Option (Option PV)
  | .tup xs, i => some xs[i]?
  | .lst n, i => (lstAt M n).map fun xs => xs[i]?
  | .cl ns, i => some ((ns[i]?).map .int)
  | .str z, i => some ((z.cps[i]?).map fun c => .str ⟨#[c]⟩)
  | .rng lo n, i => some (if i < n then some (.int (lo + i)) else none)
  | .rngc lo c n, i => some (if i < n then some (.int (lo + i * c)) else none)
  | .en s, i => (s.get M i).map fun o => o.map fun x => .tup [.int i, x]
  | .zip s t, i =>
    match s.get M i, t.get M i with
    | some (some x), some (some y) => some (some (.tup [x, y]))
    | some none, some _ => some none
    | some (some _), some none => some none
    | _, _ => none
def srcOf (M : Mm) : PV → Option Src
  | .tup xs => some (.tup xs)
  | .ref n => (lstAt M n).map fun _ => .lst n
  | .cl ns => some (.cl ns)
  | .str z => some (.str z)
  | _ => none
def Src.isL : Src → Bool
  | .lst _ => true | .cl _ => true | _ => false
def Src.isT : Src → Bool
  | .tup _ => true | _ => false
def rngOk (i : Int) : Bool := decide (-(2 ^ 62) ≤ i) && decide (i < 2 ^ 62)

inductive Fl where
  | nx (sg : Sg) | brk (sg : Sg) | ct (sg : Sg) | ret (v : PV)

/-- a for's turns -/
def forL (s : Src) (bind : PV → Sg → Option Sg) (body : Sg → Mm → Option (Fl × Mm)) : Nat → Nat → Sg → Mm → Option (Fl × Mm)
  | 0, _, _, _ => none
  | m + 1, i, sg, M =>
    match s.get M i with
    | none => none
    | some none => some (.nx sg, M)
    | some (some x) =>
      match bind x sg with
      | none => none
      | some sg1 =>
        match body sg1 M with
        | none => none
        | some (.nx sg2, M2) => forL s bind body m (i + 1) sg2 M2
        | some (.ct sg2, M2) => forL s bind body m (i + 1) sg2 M2
        | some (.brk sg2, M2) => some (.nx sg2, M2)
        | some (.ret v, M2) => some (.ret v, M2)
def whlL (c : Sg → Mm → R) (body : Sg → Mm → Option (Fl × Mm)) : Nat → Sg → Mm → Option (Fl × Mm)
  | 0, _, _ => none
  | m + 1, sg, M =>
    match c sg M with
    | some (.bl true, M1) =>
      match body sg M1 with
      | none => none
      | some (.nx sg2, M2) => whlL c body m sg2 M2
      | some (.ct sg2, M2) => whlL c body m sg2 M2
      | some (.brk sg2, M2) => some (.nx sg2, M2)
      | some (.ret v, M2) => some (.ret v, M2)
    | some (.bl false, M1) => some (.nx sg, M1)
    | _ => none
/-- a comprehension's turns; the list being made stands at d -/
def lcL (s : Src) (bind : PV → Sg → Option Sg) (c e : Sg → Mm → R) (d : Nat) (sg : Sg) : Nat → Nat → Mm → Option Mm
  | 0, _, _ => none
  | m + 1, i, M =>
    match s.get M i with
    | none => none
    | some none => some M
    | some (some x) =>
      match bind x sg with
      | none => none
      | some sg1 =>
        match c sg1 M with
        | some (.bl true, M1) =>
          match e sg1 M1 with
          | none => none
          | some (y, M2) =>
            match lstAt M2 d with
            | none => none
            | some acc => if acc.length < sizeLine then lcL s bind c e d sg m (i + 1) (M2.set d (.lst (acc ++ [y]))) else none
        | some (.bl false, M1) => lcL s bind c e d sg m (i + 1) M1
        | _ => none
/-- a set comprehension of ints: what was met -/
def scL (s : Src) (bind : PV → Sg → Option Sg) (c e : Sg → Mm → R) (sg : Sg) : Nat → Nat → List Int → Mm → Option (List Int × Mm)
  | 0, _, _, _ => none
  | m + 1, i, acc, M =>
    match s.get M i with
    | none => none
    | some none => some (acc, M)
    | some (some x) =>
      match bind x sg with
      | none => none
      | some sg1 =>
        match c sg1 M with
        | some (.bl true, M1) =>
          match e sg1 M1 with
          | some (.int y, M2) => if acc.length < 60 then scL s bind c e sg m (i + 1) (acc ++ [y]) M2 else none
          | _ => none
        | some (.bl false, M1) => scL s bind c e sg m (i + 1) acc M1
        | _ => none

abbrev CF := Nat → List PV → Mm → R
mutual
def evE (cf : CF) : E → Sg → Mm → R
  | .var i, sg, M => match sg[i]? with | some (some v) => some (v, M) | _ => none
  | .con v, _, M => some (v, M)
  | .bop o a b, sg, M =>
    match evE cf a sg M with
    | some (x, M1) => match evE cf b sg M1 with | some (y, M2) => bopP M2 o x y | none => none
    | none => none
  | .neg a, sg, M => match evE cf a sg M with | some (.int i, M1) => some (.int (-i), M1) | _ => none
  | .cmp o a b, sg, M =>
    match evE cf a sg M with
    | some (x, M1) => match evE cf b sg M1 with | some (y, M2) => (cmpP M2 o x y).map fun k => (.bl k, M2) | none => none
    | none => none
  | .chn o1 o2 a b c, sg, M =>
    match evE cf a sg M with
    | some (x, M1) =>
      match evE cf b sg M1 with
      | some (y, M2) =>
        match cmpP M2 o1 x y with
        | some true => match evE cf c sg M2 with | some (z, M3) => (cmpP M3 o2 y z).map fun k => (.bl k, M3) | none => none
        | some false => some (.bl false, M2)
        | none => none
      | none => none
    | none => none
  | .and a b, sg, M => match evE cf a sg M with | some (.bl true, M1) => evE cf b sg M1 | some (.bl false, M1) => some (.bl false, M1) | _ => none
  | .or a b, sg, M => match evE cf a sg M with | some (.bl true, M1) => some (.bl true, M1) | some (.bl false, M1) => evE cf b sg M1 | _ => none
  | .not a, sg, M => match evE cf a sg M with | some (.bl k, M1) => some (.bl (!k), M1) | _ => none
  | .ite c a b, sg, M => match evE cf c sg M with | some (.bl true, M1) => evE cf a sg M1 | some (.bl false, M1) => evE cf b sg M1 | _ => none
  | .tup es, sg, M => match evEs cf es sg M with | some (xs, M1) => if xs.length ≤ sizeLine then some (.tup xs, M1) else none | none => none
  | .lst es, sg, M => match evEs cf es sg M with | some (xs, M1) => if xs.length ≤ sizeLine then some (.ref M1.length, M1 ++ [.lst xs]) else none | none => none
  | .dnew, _, M => some (.ref M.length, M ++ [.dic []])
  | .dct ks vs, sg, M =>
    match evEs cf vs sg (M ++ [.dic []]) with
    | some (xs, M1) =>
      if xs.length = ks.length ∧ ks.length ≤ 15 then
        match dicAt M1 M.length with
        | some [] => some (.ref M.length, M1.set M.length (.dic ((ks.zip xs).foldl (fun acc kv => putD acc kv.1 kv.2) [])))
        | _ => none
      else none
    | none => none
  | .idx a i, sg, M =>
    match evE cf a sg M with
    | some (x, M1) => match evE cf i sg M1 with | some (y, M2) => (idxP M2 x y).map fun v => (v, M2) | none => none
    | none => none
  | .slc fl fh a lo hi, sg, M =>
    match evE cf a sg M with
    | some (x, M1) =>
      match evE cf lo sg M1 with
      | some (y, M2) => match evE cf hi sg M2 with | some (z, M3) => slcP fl fh M3 x y z | none => none
      | none => none
    | none => none
  | .call f es, sg, M => match evEs cf es sg M with | some (xs, M1) => cf f xs M1 | none => none
  | .blt b es, sg, M => match evEs cf es sg M with | some (xs, M1) => bltP M1 b xs | none => none
  | .mth m o es, sg, M =>
    match evE cf o sg M with
    | some (x, M1) => if mtOk M1 m x then (match evEs cf es sg M1 with | some (xs, M2) => mthP M2 m x xs | none => none) else none
    | none => none
  | .isi a ts, sg, M => match evE cf a sg M with | some (x, M1) => if insP M1 x then none else some (.bl (ts.any (isTy M1 x)), M1) | none => none
  | .fld c f o, sg, M =>
    match evE cf o sg M with
    | some (.ref n, M1) => (insAt M1 c n).bind fun fs => (fs.lookup f).map fun v => (v, M1)
    | _ => none
  | .knot tb a, sg, M => match evE cf a sg M with | some (.str z, M1) => some (.bl (!(tb.any fun q => decide (q.1 = z))), M1) | _ => none
  | .kidx tb a, sg, M =>
    match evE cf a sg M with
    | some (.str z, M1) => (tb.find? fun q => decide (q.1 = z)).map fun q => (.tup (q.2.map fun p => .fn p.1 p.2), M1)
    | _ => none
  | .callv i fs es, sg, M =>
    match sg[i]? with
    | some (some (.fn n x)) => if (n, x) ∈ fs then (match evEs cf es sg M with | some (xs, M1) => cf n xs M1 | none => none) else none
    | _ => none
  | .rev a, sg, M => match evE cf a sg M with | some (.tup xs, M1) => some (.tup xs.reverse, M1) | _ => none
  | .mc c m f o es, sg, M =>
    match evE cf o sg M with
    | some (.ref n, M1) =>
      match insAt M1 c n with
      | some fs => if (fs.lookup m).isNone then (match evEs cf es sg M1 with | some (xs, M2) => cf f (.ref n :: xs) M2 | none => none) else none
      | none => none
    | _ => none
  | .lc own t it c e, sg, M =>
    match evI cf it sg M with
    | some (s, M1) => (lcL s (tgP t) (fun sg M => evE cf c sg M) (fun sg M => evE cf e sg M) M1.length (wipeP sg own) bigN 0 (M1 ++ [.lst []])).map fun M2 => (.ref M1.length, M2)
    | none => none
  | .ssc own t it c e, sg, M =>
    match evI cf it sg M with
    | some (s, M1) => (scL s (tgP t) (fun sg M => evE cf c sg M) (fun sg M => evE cf e sg M) (wipeP sg own) bigN 0 [] M1).map fun q => (.ref q.2.length, q.2 ++ [.lst ((usortI q.1).map .int)])
    | none => none
def evEs (cf : CF) : Es → Sg → Mm → Option (List PV × Mm)
  | .nil, _, M => some ([], M)
  | .cons e r, sg, M =>
    match evE cf e sg M with
    | some (x, M1) => match evEs cf r sg M1 with | some (xs, M2) => some (x :: xs, M2) | none => none
    | none => none
def evI (cf : CF) : It → Sg → Mm → Option (Src × Mm)
  | .seq e, sg, M => match evE cf e sg M with | some (x, M1) => (srcOf M1 x).map fun s => (s, M1) | none => none
  | .rng1 a, sg, M => match evE cf a sg M with | some (.int j, M1) => if rngOk j then some (.rng 0 j.toNat, M1) else none | _ => none
  | .rng2 a b, sg, M =>
    match evE cf a sg M with
    | some (.int i, M1) => match evE cf b sg M1 with | some (.int j, M2) => if rngOk i && rngOk j then some (.rng i (j - i).toNat, M2) else none | _ => none
    | _ => none
  | .rng3 _ _ _, _, _ => none
  | .enum e, sg, M =>
    match evE cf e sg M with
    | some (x, M1) => match srcOf M1 x with | some s => if s.isL || s.isT then some (.en s, M1) else none | none => none
    | none => none
  | .zip a b, sg, M =>
    match evE cf a sg M with
    | some (x, M1) =>
      match evE cf b sg M1 with
      | some (y, M2) =>
        match srcOf M2 x, srcOf M2 y with
        | some s, some t => if (s.isL && t.isL) || (s.isT && t.isT) then some (.zip s t, M2) else none
        | _, _ => none
      | none => none
    | none => none
end
mutual
def evS (cf : CF) : S → Sg → Mm → Option (Fl × Mm)
  | .asg t e, sg, M => match evE cf e sg M with | some (x, M1) => (tgP t x sg).map fun sg1 => (.nx sg1, M1) | none => none
  | .sto o i v, sg, M =>
    match evE cf v sg M with
    | some (x, M1) =>
      match evE cf o sg M1 with
      | some (y, M2) => match evE cf i sg M2 with | some (z, M3) => (stoP M3 y z x).map fun M4 => (.nx sg, M4) | none => none
      | none => none
    | none => none
  | .exp e, sg, M => match evE cf e sg M with | some (_, M1) => some (.nx sg, M1) | none => none
  | .ret e, sg, M => match evE cf e sg M with | some (x, M1) => some (.ret x, M1) | none => none
  | .iff c a b, sg, M => match evE cf c sg M with | some (.bl true, M1) => evSs cf a sg M1 | some (.bl false, M1) => evSs cf b sg M1 | _ => none
  | .for_ t it b, sg, M => match evI cf it sg M with | some (s, M1) => forL s (tgP t) (fun sg M => evSs cf b sg M) bigN 0 sg M1 | none => none
  | .whl c b, sg, M => whlL (fun sg M => evE cf c sg M) (fun sg M => evSs cf b sg M) bigN sg M
  | .pass, sg, M => some (.nx sg, M)
  | .brk, sg, M => some (.brk sg, M)
  | .cnt, sg, M => some (.ct sg, M)
  | .stuck, _, _ => none
  | .fset c f o v, sg, M =>
    match evE cf v sg M with
    | some (x, M1) =>
      match evE cf o sg M1 with
      | some (.ref n, M2) =>
        match insAt M2 c n with
        | some fs => if fs.length < 1000 then some (.nx sg, M2.set n (.ins c (putA f x fs))) else none
        | none => none
      | _ => none
    | none => none
  | .faug c f o v, sg, M =>
    match evE cf o sg M with
    | some (.ref n, M1) =>
      match insAt M1 c n with
      | some fs =>
        match fs.lookup f with
        | some (.int i) =>
          match evE cf v sg M1 with
          | some (.int j, M2) =>
            match insAt M2 c n with
            | some gs => if gs.length < 1000 then some (.nx sg, M2.set n (.ins c (putA f (.int (i + j)) gs))) else none
            | none => none
          | _ => none
        | _ => none
      | none => none
    | _ => none
def evSs (cf : CF) : Ss → Sg → Mm → Option (Fl × Mm)
  | .nil, sg, M => some (.nx sg, M)
  | .cons s r, sg, M =>
    match evS cf s sg M with
    | some (.nx sg1, M1) => evSs cf r sg1 M1
    | o => o
end
/-- a def: how many parameters, how many slots, its body -/
structure Df where
  np : Nat
  ns : Nat
  body : Ss
def runD (cf : CF) (d : Df) (xs : List PV) (M : Mm) : R :=
  if xs.length = d.np then
    match evSs cf d.body (xs.map some ++ List.replicate (d.ns - d.np) none) M with
    | some (.ret v, M1) => some (v, M1)
    | some (.nx _, M1) => some (.non, M1)
    | _ => none
  else none
/-- what a number stands for: a def, or a class with its __init__ -/
inductive Dx where
  | fn (d : Df) | mk (c : Str) (i : Nat)
def mkD (cf : CF) (c : Str) (i : Nat) (xs : List PV) (M : Mm) : R :=
  match cf i (.ref M.length :: xs) (M ++ [.ins c []]) with
  | some (.non, M1) => some (.ref M.length, M1)
  | _ => none
/-- the calls, to a depth -/
def cfN (tab : Nat → Option Dx) : Nat → CF
  | 0 => fun _ _ _ => none
  | k + 1 => fun f xs M =>
    match tab f with
    | some (.fn d) => runD (cfN tab k) d xs M
    | some (.mk c i) => mkD (cfN tab k) c i xs M
    | none => none
end Mp

/-! Mp3a: the judgements over the evaluator; names, constants, tests, displays. -/
namespace Mp
open PySem L2

def TEv (K : PySem.W.Frag) (f : Sg → Mm → R) : TE := fun s H Q => ∃ r sg M z M', RS K r H sg s ∧ RH K r M H ∧ f sg M = some (z, M') ∧ Post K r H z M' Q
def TTv (K : PySem.W.Frag) (f : Sg → Mm → R) : TT := fun s H Q => ∃ r sg M b M', RS K r H sg s ∧ RH K r M H ∧ f sg M = some (.bl b, M') ∧ ∀ r' H', Ext r r' H H' → RH K r' M' H' → Q b H'
def TAv (K : PySem.W.Frag) (f : Sg → Mm → Option (List PV × Mm)) : TA := fun s H Q => ∃ r sg M xs M', RS K r H sg s ∧ RH K r M H ∧ f sg M = some (xs, M') ∧ ∀ r' vs H', Ext r r' H H' → RH K r' M' H' → RVs K r' H' xs vs → Q vs H'
def XE (X : Cx) (cf : CF) (e : Expr) (i : E) : Prop := PE X e (TEv X.K (evE cf i))
def XT (X : Cx) (cf : CF) (e : Expr) (i : E) : Prop := PT X e (TTv X.K (evE cf i))
def XW (X : Cx) (cf : CF) (e : Expr) (i : E) : Prop := PW X e (TTv X.K (evE cf i))
def XA (X : Cx) (cf : CF) (es : List Expr) (i : Es) : Prop := PA X es (TAv X.K (evEs cf i))

theorem pe_imp {X : Cx} {e : Expr} {t t' : TE} (h : PE X e t) (k : ∀ s H Q, t' s H Q → t s H Q) : PE X e t' := ⟨fun pins s σ H Q I q => h.run pins s σ H Q I (k _ _ _ q)⟩
theorem pt_imp {X : Cx} {e : Expr} {t t' : TT} (h : PT X e t) (k : ∀ s H Q, t' s H Q → t s H Q) : PT X e t' := ⟨fun pins s σ H Q I q => h.run pins s σ H Q I (k _ _ _ q)⟩
theorem pw_imp {X : Cx} {e : Expr} {t t' : TT} (h : PW X e t) (k : ∀ s H Q, t' s H Q → t s H Q) : PW X e t' := ⟨fun wh pins s σ H Q I q => h.run wh pins s σ H Q I (k _ _ _ q)⟩
theorem pa_imp {X : Cx} {e : List Expr} {t t' : TA} (h : PA X e t) (k : ∀ s H Q, t' s H Q → t s H Q) : PA X e t' := ⟨fun p pins s σ H Q I q => h.run p pins s σ H Q I (k _ _ _ q)⟩

section
variable {K : PySem.W.Frag} {r : List Addr} {H : Hp} {M : Mm} {Q : VK} {z : PV} {u : V} {p a : Addr} {xs : List PV} {vs : List V}
theorem Post.here (q : Post K r H z M Q) (h : RH K r M H) (v : RV K r H z u) : Q u H := q r u H .refl h v
theorem Post.tup (q : Post K r H (.tup xs) M Q) (h : RH K r M H) (v : RVs K r H xs vs) (hp : H p = none) : Q (.ref p) (upd H p (.tup vs)) :=
  q r _ _ (ext_new0 hp) (h.other _ hp) (.tup (.inl (.inl upd_same)) (v.ext (ext_new0 hp)))
theorem Post.lst (q : Post K r H (.ref M.length) (M ++ [.lst xs]) Q) (h : RH K r M H) (v : RVs K r H xs vs) (hp : H p = none) : Q (.ref p) (upd H p (.lst vs)) :=
  q (r ++ [p]) _ _ (ext_new hp [p]) (h.new hp ⟨vs, upd_same, v.ext (ext_new hp [p])⟩) (.ref (by rw [← h.len]; simp))
theorem Post.set {n : Nat} (q : Post K r H z (M.set n (.lst xs)) Q) (h : RH K r M H) (ha : r[n]? = some a) (v : RVs K r H xs vs) (hz : RV K r H z u) : Q u (upd H a (.lst vs)) := by
  obtain ⟨h0, e0, m0⟩ := h.there (List.mem_of_getElem? ha)
  have e := ext_set (r := r) (o := .lst vs) e0 m0 (List.mem_of_getElem? ha)
  exact q r _ _ e (h.set ha ⟨vs, upd_same, v.ext e⟩) (hz.ext e)
theorem lst_of {n : Nat} (h : RH K r M H) (e : lstAt M n = some xs) : ∃ a vs, r[n]? = some a ∧ H a = some (.lst vs) ∧ RVs K r H xs vs := by
  unfold lstAt at e
  split at e
  · rename_i ys e1
    cases e
    obtain ⟨a, h1, vs, h2, h3⟩ := h.at e1
    exact ⟨a, vs, h1, h2, h3⟩
  · cases e
theorem RV.refAt {n : Nat} (v : RV K r H (.ref n) u) (ha : r[n]? = some a) : u = .ref a := by
  cases v with
  | ref h => rw [ha] at h; cases h; rfl
end

section
variable {X : Cx} {cf : CF} {e a b c : Expr} {es : List Expr} {i ia ib ic : E} {pos : Pos}
theorem xe_var (j : Nat) {x : Str} (hN : X.N[j]? = some x := by rfl) (hv : Vis X.env.scope x := by first | exact Or.inl rfl | exact Or.inr (Or.inl rfl) | exact Or.inr (Or.inr rfl)) (hd : (x == ("__debug__" : Str)) = false := by decide)
    (hcd : (x == ("__classdict__" : Str)) = false := by decide) : XE X cf (.Name x pos) (.var j) := by
  refine pe_imp (pe_var hN hv hd hcd) fun s H Q h => ?_
  obtain ⟨r, sg, M, z, M', hs, hh, e, q⟩ := h
  simp only [evE] at e
  split at e
  · rename_i v ev
    cases e
    obtain ⟨v, h1, h2⟩ := hs.at_ j z ev
    exact ⟨v, h1, q.here hh h2⟩
  · cases e
theorem xe_con {v : PV} {w : V} (h : PE X e (tC w)) (hv : ∀ r H, RV X.K r H v w) : XE X cf e (.con v) := by
  refine pe_imp h fun s H Q h => ?_
  obtain ⟨r, sg, M, z, M', hs, hh, e, q⟩ := h
  simp only [evE] at e
  cases e
  exact q.here hh (hv r H)
theorem xe_int {n : Int} {j : Nat} : XE X cf (.Constant (.int n) j pos) (.con (.int n)) := xe_con pe_int fun _ _ => .int n
theorem xe_bl {n : Bool} {j : Nat} : XE X cf (.Constant (.bool n) j pos) (.con (.bl n)) := xe_con pe_bl fun _ _ => .bl n
theorem xe_str {n : Str} {j : Nat} : XE X cf (.Constant (.str n) j pos) (.con (.str n)) := xe_con pe_str fun _ _ => .str n
theorem xe_non {j : Nat} : XE X cf (.Constant .none j pos) (.con .non) := xe_con pe_non fun _ _ => .non
/-- a module's text -/
theorem xe_gstr {x : Str} {n : Str} {t : Tok} (hg : Gl X x) (hm : X.mg x = some (.str n t)) (hd : (x == ("__debug__" : Str)) = false := by decide) : XE X cf (.Name x pos) (.con (.str n)) :=
  xe_con (pe_glob (v := .str n) hg hm ⟨_, rfl⟩ hd) fun _ _ => .str n

theorem xe_gstrE {x : Str} {n : Str} (hg : Gl X x) (hm : ∃ t, X.mg x = some (.str n t)) (hd : (x == ("__debug__" : Str)) = false := by decide) : XE X cf (.Name x pos) (.con (.str n)) :=
  let ⟨_, h⟩ := hm; xe_gstr hg h hd

/-! ### tests -/
theorem xt_val (h : XE X cf e i) (he : ∀ whole, isTrue e X.env whole = (do let v ← whole; standAt e.pos; holding [v] (truthy v)) := by intro _; rfl) : XT X cf e i := by
  refine pt_imp (pt_val h he) fun s H Q h => ?_
  obtain ⟨r, sg, M, b, M', hs, hh, e, q⟩ := h
  refine ⟨r, sg, M, _, M', hs, hh, e, fun r' u H' x h' v => ?_⟩
  cases v
  exact ⟨b, rfl, q r' H' x h'⟩
theorem xt_not (h : XT X cf a ia) : XT X cf (.UnaryOp .Not a pos) (.not ia) := by
  refine pt_imp (pt_not h) fun s H Q h => ?_
  obtain ⟨r, sg, M, b, M', hs, hh, e, q⟩ := h
  simp only [evE] at e
  split at e
  · rename_i k M1 e1
    cases e
    exact ⟨r, sg, M, k, _, hs, hh, e1, q⟩
  · cases e
theorem xe_not (h : XE X cf a ia) : XE X cf (.UnaryOp .Not a pos) (.not ia) := by
  refine pe_imp (pe_not h) fun s H Q h => ?_
  obtain ⟨r, sg, M, z, M', hs, hh, e, q⟩ := h
  simp only [evE] at e
  split at e
  · rename_i k M1 e1
    cases e
    refine ⟨r, sg, M, _, _, hs, hh, e1, fun r' u H' x h' v => ?_⟩
    cases v
    exact ⟨k, rfl, q r' _ H' x h' (.bl _)⟩
  · cases e
theorem and_inv {K : PySem.W.Frag} {sg : Sg} {M M' : Mm} {z : PV} (e : evE cf (.and ia ib) sg M = some (z, M')) :
    (∃ M1, evE cf ia sg M = some (.bl true, M1) ∧ evE cf ib sg M1 = some (z, M')) ∨ (evE cf ia sg M = some (.bl false, M') ∧ z = .bl false) := by
  simp only [evE] at e
  split at e
  · rename_i M1 e1; exact .inl ⟨M1, e1, e⟩
  · rename_i M1 e1; cases e; exact .inr ⟨e1, rfl⟩
  · cases e
theorem or_inv {sg : Sg} {M M' : Mm} {z : PV} (e : evE cf (.or ia ib) sg M = some (z, M')) :
    (∃ M1, evE cf ia sg M = some (.bl false, M1) ∧ evE cf ib sg M1 = some (z, M')) ∨ (evE cf ia sg M = some (.bl true, M') ∧ z = .bl true) := by
  simp only [evE] at e
  split at e
  · rename_i M1 e1; cases e; exact .inr ⟨e1, rfl⟩
  · rename_i M1 e1; exact .inl ⟨M1, e1, e⟩
  · cases e
theorem xw_and1 {o : BoolOp} (ho : o = .And) (h : XT X cf a ia) : XW X cf (.BoolOp o [a] pos) ia := by subst ho; exact pw_and1 h
theorem xw_or1 {o : BoolOp} (ho : o = .Or) (h : XT X cf a ia) : XW X cf (.BoolOp o [a] pos) ia := by subst ho; exact pw_or1 h
theorem xw_and {rest : List Expr} (h : XT X cf a ia) (h2 : XW X cf (.BoolOp .And (b :: rest) pos) ib) : XW X cf (.BoolOp .And (a :: b :: rest) pos) (.and ia ib) := by
  refine pw_imp (pw_and h h2) fun s H Q h => ?_
  obtain ⟨r, sg, M, z, M', hs, hh, e, q⟩ := h
  rcases and_inv (K := X.K) e with ⟨M1, e1, e2⟩ | ⟨e1, e2⟩
  · refine ⟨r, sg, M, _, _, hs, hh, e1, fun r' H' x h' => ?_⟩
    refine iteT ?_
    exact ⟨r', sg, M1, z, M', hs.ext x, h', e2, fun r2 H2 x2 h2 => q r2 H2 (x.trans x2) h2⟩
  · cases e2
    refine ⟨r, sg, M, _, _, hs, hh, e1, fun r' H' x h' => ?_⟩
    refine iteF ?_
    exact q r' H' x h'
theorem xw_or {rest : List Expr} (h : XT X cf a ia) (h2 : XW X cf (.BoolOp .Or (b :: rest) pos) ib) : XW X cf (.BoolOp .Or (a :: b :: rest) pos) (.or ia ib) := by
  refine pw_imp (pw_or h h2) fun s H Q h => ?_
  obtain ⟨r, sg, M, z, M', hs, hh, e, q⟩ := h
  rcases or_inv e with ⟨M1, e1, e2⟩ | ⟨e1, e2⟩
  · refine ⟨r, sg, M, _, _, hs, hh, e1, fun r' H' x h' => ?_⟩
    refine iteF ?_
    exact ⟨r', sg, M1, z, M', hs.ext x, h', e2, fun r2 H2 x2 h2 => q r2 H2 (x.trans x2) h2⟩
  · cases e2
    refine ⟨r, sg, M, _, _, hs, hh, e1, fun r' H' x h' => ?_⟩
    refine iteT ?_
    exact q r' H' x h'
theorem xt_w (h : XW X cf a ia) : XT X cf a ia := PW.pt h
theorem xe_one {op : BoolOp} (h : XE X cf a ia) : XE X cf (.BoolOp op [a] pos) ia := pe_one h
theorem xe_and {rest : List Expr} (h : XE X cf a ia) (h2 : XE X cf (.BoolOp .And (b :: rest) pos) ib) : XE X cf (.BoolOp .And (a :: b :: rest) pos) (.and ia ib) := by
  refine pe_imp (pe_and h h2) fun s H Q h => ?_
  obtain ⟨r, sg, M, z, M', hs, hh, e, q⟩ := h
  rcases and_inv (K := X.K) e with ⟨M1, e1, e2⟩ | ⟨e1, e2⟩
  · refine ⟨r, sg, M, _, _, hs, hh, e1, fun r' u H' x h' v => ?_⟩
    cases v
    refine ⟨true, rfl, ?_⟩
    refine iteT ?_
    exact ⟨r', sg, M1, z, M', hs.ext x, h', e2, fun r2 u2 H2 x2 h2 v2 => q r2 u2 H2 (x.trans x2) h2 v2⟩
  · cases e2
    refine ⟨r, sg, M, _, _, hs, hh, e1, fun r' u H' x h' v => ?_⟩
    cases v
    refine ⟨false, rfl, ?_⟩
    refine iteF ?_
    exact q r' _ H' x h' (.bl _)
theorem xe_or {rest : List Expr} (h : XE X cf a ia) (h2 : XE X cf (.BoolOp .Or (b :: rest) pos) ib) : XE X cf (.BoolOp .Or (a :: b :: rest) pos) (.or ia ib) := by
  refine pe_imp (pe_or h h2) fun s H Q h => ?_
  obtain ⟨r, sg, M, z, M', hs, hh, e, q⟩ := h
  rcases or_inv e with ⟨M1, e1, e2⟩ | ⟨e1, e2⟩
  · refine ⟨r, sg, M, _, _, hs, hh, e1, fun r' u H' x h' v => ?_⟩
    cases v
    refine ⟨false, rfl, ?_⟩
    refine iteF ?_
    exact ⟨r', sg, M1, z, M', hs.ext x, h', e2, fun r2 u2 H2 x2 h2 v2 => q r2 u2 H2 (x.trans x2) h2 v2⟩
  · cases e2
    refine ⟨r, sg, M, _, _, hs, hh, e1, fun r' u H' x h' v => ?_⟩
    cases v
    refine ⟨true, rfl, ?_⟩
    refine iteT ?_
    exact q r' _ H' x h' (.bl _)
theorem xe_if (hc : XT X cf c ic) (ha : XE X cf a ia) (hb : XE X cf b ib) : XE X cf (.IfExp c a b pos) (.ite ic ia ib) := by
  refine pe_imp (pe_ifExp hc ha hb) fun s H Q h => ?_
  obtain ⟨r, sg, M, z, M', hs, hh, e, q⟩ := h
  simp only [evE] at e
  split at e
  · rename_i M1 e1
    refine ⟨r, sg, M, _, _, hs, hh, e1, fun r' H' x h' => ?_⟩
    refine iteT ?_
    exact ⟨r', sg, M1, z, M', hs.ext x, h', e, fun r2 u2 H2 x2 h2 v2 => q r2 u2 H2 (x.trans x2) h2 v2⟩
  · rename_i M1 e1
    refine ⟨r, sg, M, _, _, hs, hh, e1, fun r' H' x h' => ?_⟩
    refine iteF ?_
    exact ⟨r', sg, M1, z, M', hs.ext x, h', e, fun r2 u2 H2 x2 h2 v2 => q r2 u2 H2 (x.trans x2) h2 v2⟩
  · cases e

/-! ### arguments, displays -/
theorem xa_nil : XA X cf [] .nil := by
  refine pa_imp pa_nil fun s H Q h => ?_
  obtain ⟨r, sg, M, xs, M', hs, hh, e, q⟩ := h
  simp only [evEs] at e
  cases e
  exact q r [] H .refl hh .nil
theorem evEs_cons {i : E} {j : Es} {sg : Sg} {M M' : Mm} {ys : List PV} (e : evEs cf (.cons i j) sg M = some (ys, M')) :
    ∃ x xs M1, evE cf i sg M = some (x, M1) ∧ evEs cf j sg M1 = some (xs, M') ∧ ys = x :: xs := by
  simp only [evEs] at e
  split at e
  · rename_i x M1 e1
    split at e
    · rename_i xs M2 e2
      cases e
      exact ⟨x, xs, M1, e1, e2, rfl⟩
    · cases e
  · cases e
theorem xa_cons {j : Es} (h : XE X cf e i) (h2 : XA X cf es j) (hs : starEach (e :: es) X.env = (false, eval e X.env) :: starEach es X.env := by rfl) : XA X cf (e :: es) (.cons i j) := by
  refine pa_imp (pa_cons h h2 hs) fun s H Q h => ?_
  obtain ⟨r, sg, M, ys, M', hs, hh, e, q⟩ := h
  obtain ⟨x, xs, M1, e1, e2, rfl⟩ := evEs_cons e
  exact ⟨r, sg, M, x, M1, hs, hh, e1, fun r1 u1 H1 x1 h1 v1 => ⟨r1, sg, M1, xs, M', hs.ext x1, h1, e2, fun r2 us H2 x2 h2 v2 => q r2 (u1 :: us) H2 (x1.trans x2) h2 (.cons (v1.ext x2) v2)⟩⟩
theorem xe_tup {k : Nat} {j : Es} (h : XA X cf es j) : XE X cf (.Tuple es k pos) (.tup j) := by
  refine pe_imp (pe_tup h) fun s H Q h => ?_
  obtain ⟨r, sg, M, z, M', hs, hh, e, q⟩ := h
  simp only [evE] at e
  split at e
  · rename_i xs M1 e1
    split at e
    · rename_i hl
      cases e
      refine ⟨r, sg, M, xs, _, hs, hh, e1, fun r1 vs H1 x1 h1 v1 => ⟨by rw [← v1.length]; exact hl, fun p hp => ?_⟩⟩
      exact Post.tup (fun r2 u2 H2 x2 h2 v2 => q r2 u2 H2 (x1.trans x2) h2 v2) h1 v1 hp
    · cases e
  · cases e
theorem xe_lst {j : Es} (h : XA X cf es j) : XE X cf (.List es pos) (.lst j) := by
  refine pe_imp (pe_lst h) fun s H Q h => ?_
  obtain ⟨r, sg, M, z, M', hs, hh, e, q⟩ := h
  simp only [evE] at e
  split at e
  · rename_i xs M1 e1
    split at e
    · rename_i hl
      cases e
      refine ⟨r, sg, M, xs, _, hs, hh, e1, fun r1 vs H1 x1 h1 v1 => ⟨by rw [← v1.length]; exact hl, fun p hp => ?_⟩⟩
      exact Post.lst (fun r2 u2 H2 x2 h2 v2 => q r2 u2 H2 (x1.trans x2) h2 v2) h1 v1 hp
    · cases e
  · cases e
end
end Mp

/-! Mp3b: operators, comparisons, subscripts, slices. -/
namespace Mp
open PySem L2

def ROp (K : PySem.W.Frag) (f : Mm → PV → PV → R) : R2 := fun x y H Q => ∃ r M a b z M', RH K r M H ∧ RV K r H a x ∧ RV K r H b y ∧ f M a b = some (z, M') ∧ Post K r H z M' Q
def RCm (K : PySem.W.Frag) (f : Mm → PV → PV → Option Bool) : R2 := fun x y H Q => ∃ r M a b k, RH K r M H ∧ RV K r H a x ∧ RV K r H b y ∧ f M a b = some k ∧ Q (.bl k) H

section
variable {X : Cx}
theorem opx_add : OpR X (binaryOp .Add) (ROp X.K fun M => bopP M .add) := by
  intro pins s σ H x y v u Q I rx ry h
  obtain ⟨r, M, a, b, z, M', hh, va, vb, e, q⟩ := h
  cases va with
  | int i =>
    cases vb with
    | int j => simp only [bopP] at e; cases e; exact op_add pins s σ H _ _ v u Q I rx ry ⟨i, j, rfl, rfl, q.here hh (.int _)⟩
    | _ => simp [bopP] at e
  | str i =>
    cases vb with
    | str j =>
      simp only [bopP] at e
      split at e
      · rename_i hl; cases e; exact op_add_str pins s σ H _ _ v u Q I rx ry ⟨i, j, rfl, rfl, hl, q.here hh (.str _)⟩
      · cases e
    | _ => simp [bopP] at e
  | @tup xs a1 vs ha hxs =>
    cases vb with
    | @tup ys a2 us hb hys =>
      simp only [bopP] at e
      split at e
      · rename_i hl
        cases e
        refine op_catA pins s σ H _ _ v u Q I rx ry ⟨a1, a2, vs, us, rfl, rfl, ha, hb, by rw [← hxs.length, ← hys.length]; exact hl, fun z => ?_, fun _ z => ?_, fun _ _ p hp => ?_⟩
        · subst z
          cases hxs
          exact q.here hh (.tup hb hys)
        · subst z
          cases hys
          rw [List.append_nil] at q
          exact q.here hh (.tup ha hxs)
        · exact q.tup hh (hxs.append hys) hp
      · cases e
    | _ => simp [bopP] at e
  | @ref n a1 hn =>
    cases vb with
    | @ref m a2 hm =>
      simp only [bopP] at e
      split at e
      · rename_i xs ys e1 e2
        split at e
        · rename_i hl
          cases e
          obtain ⟨b1, vs, g1, g2, g3⟩ := lst_of hh e1
          obtain ⟨b2, us, k1, k2, k3⟩ := lst_of hh e2
          rw [hn] at g1; cases g1
          rw [hm] at k1; cases k1
          exact op_cat pins s σ H _ _ v u Q I rx ry ⟨a1, a2, vs, us, rfl, rfl, g2, k2, by rw [← g3.length, ← k3.length]; exact hl, fun p hp => q.lst hh (g3.append k3) hp⟩
        · cases e
      · cases e
    | _ => simp [bopP] at e
  | _ => simp [bopP] at e
theorem opx_sub : OpR X (binaryOp .Sub) (ROp X.K fun M => bopP M .sub) := by
  intro pins s σ H x y v u Q I rx ry h
  obtain ⟨r, M, a, b, z, M', hh, va, vb, e, q⟩ := h
  cases va with
  | int i =>
    cases vb with
    | int j => simp only [bopP] at e; cases e; exact op_sub pins s σ H _ _ v u Q I rx ry ⟨i, j, rfl, rfl, q.here hh (.int _)⟩
    | _ => simp [bopP] at e
  | _ => simp [bopP] at e
theorem mulOk_C {i j : Int} (h : mulOk i j = true) : CMul i j := by
  unfold mulOk at h
  rcases Bool.or_eq_true_iff.mp h with h | h
  · obtain ⟨h1, h2⟩ := Bool.and_eq_true_iff.mp h; exact .inl ⟨of_decide_eq_true h1, of_decide_eq_true h2⟩
  · obtain ⟨h1, h2⟩ := Bool.and_eq_true_iff.mp h; exact .inr ⟨of_decide_eq_true h1, of_decide_eq_true h2⟩
theorem flat_rep {K : PySem.W.Frag} {r : List Addr} {H : Hp} {xs : List PV} {vs : List V} (h : RVs K r H xs vs) : ∀ n : Nat, RVs K r H (List.replicate n xs).flatten (List.replicate n vs).flatten
  | 0 => .nil
  | n + 1 => by
    rw [List.replicate_succ, List.replicate_succ, List.flatten_cons, List.flatten_cons]
    exact h.append (flat_rep h n)
theorem opx_mul : OpR X (binaryOp .Mult) (ROp X.K fun M => bopP M .mul) := by
  intro pins s σ H x y v u Q I rx ry h
  obtain ⟨r, M, a, b, z, M', hh, va, vb, e, q⟩ := h
  cases va with
  | int i =>
    cases vb with
    | int j =>
      simp only [bopP] at e
      split at e
      · rename_i hl; cases e; exact op_mul pins s σ H _ _ v u Q I rx ry ⟨i, j, rfl, rfl, mulOk_C hl, q.here hh (.int _)⟩
      · cases e
    | _ => simp [bopP] at e
  | @ref n a1 hn =>
    cases vb with
    | int j =>
      simp only [bopP] at e
      split at e
      · rename_i xs e1
        split at e
        · rename_i hl
          cases e
          obtain ⟨b1, vs, g1, g2, g3⟩ := lst_of hh e1
          rw [hn] at g1; cases g1
          exact op_rep pins s σ H _ _ v u Q I rx ry ⟨a1, j, vs, rfl, rfl, g2, hl.1, hl.2.1, by rw [← g3.length]; exact hl.2.2, fun p hp => q.lst hh (flat_rep g3 _) hp⟩
        · cases e
      · cases e
    | _ => simp [bopP] at e
  | _ => simp [bopP] at e
theorem opx_fdiv : OpR X (binaryOp .FloorDiv) (ROp X.K fun M => bopP M .fdiv) := by
  intro pins s σ H x y v u Q I rx ry h
  obtain ⟨r, M, a, b, z, M', hh, va, vb, e, q⟩ := h
  cases va with
  | int i =>
    cases vb with
    | int j =>
      simp only [bopP] at e
      split at e
      · rename_i hl; cases e; exact op_fdiv pins s σ H _ _ v u Q I rx ry ⟨i, j, rfl, rfl, hl, q.here hh (.int _)⟩
      · cases e
    | _ => simp [bopP] at e
  | _ => simp [bopP] at e
theorem opx_mod : OpR X (binaryOp .Mod) (ROp X.K fun M => bopP M .mod) := by
  intro pins s σ H x y v u Q I rx ry h
  obtain ⟨r, M, a, b, z, M', hh, va, vb, e, q⟩ := h
  cases va with
  | int i =>
    cases vb with
    | int j =>
      simp only [bopP] at e
      split at e
      · rename_i hl; cases e; exact op_mod pins s σ H _ _ v u Q I rx ry ⟨i, j, rfl, rfl, hl, q.here hh (.int _)⟩
      · cases e
    | _ => simp [bopP] at e
  | _ => simp [bopP] at e
theorem opx_pow : OpR X (binaryOp .Pow) (ROp X.K fun M => bopP M .pow) := by
  intro pins s σ H x y v u Q I rx ry h
  obtain ⟨r, M, a, b, z, M', hh, va, vb, e, q⟩ := h
  cases va with
  | int i =>
    cases vb with
    | int j =>
      simp only [bopP] at e
      split at e
      · rename_i hl; cases e; exact op_pow pins s σ H _ _ v u Q I rx ry ⟨i, j, rfl, rfl, hl, q.here hh (.int _)⟩
      · cases e
    | _ => simp [bopP] at e
  | _ => simp [bopP] at e

/-! ### == -/
mutual
theorem toD_dp {K : PySem.W.Frag} {r : List Addr} {H : Hp} {M : Mm} (hh : RH K r M H) : ∀ (n : Nat) {x : PV} {v : V} {d : PyData}, toD n M x = some d → RV K r H x v → Dp K H v d
  | 0, _, _, _, e, _ => by simp [toD] at e
  | n + 1, .non, _, _, e, h => by simp only [toD] at e; cases e; cases h; exact .non
  | n + 1, .bl b, _, _, e, h => by simp only [toD] at e; cases e; cases h; exact .bl _
  | n + 1, .int b, _, _, e, h => by simp only [toD] at e; cases e; cases h; exact .int _
  | n + 1, .str b, _, _, e, h => by simp only [toD] at e; cases e; cases h; exact .str _
  | n + 1, .tup xs, _, _, e, h => by
    simp only [toD] at e
    cases h with
    | tup h1 h2 =>
      obtain ⟨ds, e1, rfl⟩ := Option.map_eq_some_iff.mp e
      exact .tup h1 (toD_all hh n e1 h2)
  | n + 1, .cl ns, _, _, e, h => by
    simp only [toD] at e
    cases e
    cases h with
    | cl h => exact .lst h.sq (cl_all ns)
  | n + 1, .ref k, _, _, e, h => by
    simp only [toD] at e
    split at e
    · rename_i xs e0
      obtain ⟨ds, e1, rfl⟩ := Option.map_eq_some_iff.mp e
      obtain ⟨a, h1, vs, h2, h3⟩ := hh.at e0
      cases h with
      | ref h => rw [h1] at h; cases h; exact .lst (.inl (.inl h2)) (toD_all hh n e1 h3)
    · cases e
theorem cl_all {K : PySem.W.Frag} {H : Hp} : ∀ ns : List Int, DpAll K H (ns.map V.int) (ns.map PyData.int)
  | [] => .nil
  | n :: ns => .cons (.int n) (cl_all ns)
theorem toD_all {K : PySem.W.Frag} {r : List Addr} {H : Hp} {M : Mm} (hh : RH K r M H) (n : Nat) : ∀ {xs : List PV} {vs : List V} {ds : List PyData}, xs.mapM (toD n M) = some ds → RVs K r H xs vs → DpAll K H vs ds
  | [], _, _, e, h => by
    cases h
    have e' : some [] = some _ := e
    cases e'
    exact .nil
  | x :: xs, _, _, e, h => by
    cases h with
    | cons h hs =>
      rw [List.mapM_cons] at e
      cases e1 : toD n M x with
      | none => rw [e1] at e; cases e
      | some d =>
        rw [e1] at e
        cases e2 : xs.mapM (toD n M) with
        | none => rw [e2] at e; cases e
        | some ds =>
          rw [e2] at e
          cases e
          exact .cons (toD_dp hh n e1 h) (toD_all hh n e2 hs)
end
theorem eqS_ok {K : PySem.W.Frag} {r : List Addr} {H : Hp} {a b : PV} {x y : V} {k : Bool} (e : eqS a b = some k) (va : RV K r H a x) (vb : RV K r H b y) : scal x y = true ∧ decide (x = y) = k := by
  cases va <;> cases vb <;> simp [eqS] at e <;> subst e <;> simp [scal]
theorem opx_eq (hu : X.A.units + 64 < cLine) : OpR X (compareOp .Eq) (RCm X.K fun M => cmpP M .eq) := by
  intro pins s σ H x y v u Q I rx ry h
  obtain ⟨r, M, a, b, k, hh, va, vb, e, q⟩ := h
  simp only [cmpP, eqP] at e
  split at e
  · rename_i b e1
    cases e
    obtain ⟨h1, h2⟩ := eqS_ok e1 va vb
    exact op_eq pins s σ H x y v u Q I rx ry ⟨h1, by rw [h2]; exact q⟩
  · split at e
    · rename_i d1 d2 e1 e2
      split at e
      · rename_i hs
        cases e
        obtain ⟨s1, s2⟩ := Bool.and_eq_true_iff.mp hs
        exact op_eqD hu pins s σ H x y v u Q I rx ry ⟨_, _, toD_dp hh 20 e1 va, toD_dp hh 20 e2 vb, s1, s2, q⟩
      · cases e
    · cases e
theorem opx_ne (hu : X.A.units + 64 < cLine) : OpR X (compareOp .NotEq) (RCm X.K fun M => cmpP M .ne) := by
  intro pins s σ H x y v u Q I rx ry h
  obtain ⟨r, M, a, b, k, hh, va, vb, e, q⟩ := h
  simp only [cmpP] at e
  obtain ⟨k', e', rfl⟩ := Option.map_eq_some_iff.mp e
  clear e
  have e : eqP M a b = some k' := e'
  clear e'
  simp only [eqP] at e
  split at e
  · rename_i b e1
    have e := Option.some.inj e
    subst e
    obtain ⟨h1, h2⟩ := eqS_ok e1 va vb
    exact op_ne pins s σ H x y v u Q I rx ry ⟨h1, by rw [h2]; exact q⟩
  · split at e
    · rename_i d1 d2 e1 e2
      split at e
      · rename_i hs
        have e := Option.some.inj e
        subst e
        obtain ⟨s1, s2⟩ := Bool.and_eq_true_iff.mp hs
        exact op_neD hu pins s σ H x y v u Q I rx ry ⟨_, _, toD_dp hh 20 e1 va, toD_dp hh 20 e2 vb, s1, s2, q⟩
      · cases e
    · cases e
theorem cmpI {co : Co} {op : CmpOp} {g : Int → Int → Bool} (ho : OpR X (compareOp op) (rI0 fun i j => .bl (g i j))) (hc : ∀ M a b k, cmpP M co a b = some k → ∃ i j, a = .int i ∧ b = .int j ∧ k = g i j) : OpR X (compareOp op) (RCm X.K fun M => cmpP M co) := by
  intro pins s σ H x y v u Q I rx ry h
  obtain ⟨r, M, a, b, k, hh, va, vb, e, q⟩ := h
  obtain ⟨i, j, rfl, rfl, rfl⟩ := hc _ _ _ _ e
  cases va; cases vb
  exact ho pins s σ H _ _ v u Q I rx ry ⟨i, j, rfl, rfl, q⟩
theorem opx_lt : OpR X (compareOp .Lt) (RCm X.K fun M => cmpP M .lt) := cmpI op_lt fun M a b k e => by
  cases a <;> cases b <;> simp [cmpP] at e
  exact ⟨_, _, rfl, rfl, e.symm⟩
theorem opx_le : OpR X (compareOp .LtE) (RCm X.K fun M => cmpP M .le) := cmpI op_le fun M a b k e => by
  cases a <;> cases b <;> simp [cmpP] at e
  exact ⟨_, _, rfl, rfl, e.symm⟩
theorem opx_gt : OpR X (compareOp .Gt) (RCm X.K fun M => cmpP M .gt) := cmpI op_gt fun M a b k e => by
  cases a <;> cases b <;> simp [cmpP] at e
  exact ⟨_, _, rfl, rfl, e.symm⟩
theorem opx_ge : OpR X (compareOp .GtE) (RCm X.K fun M => cmpP M .ge) := cmpI op_ge fun M a b k e => by
  cases a <;> cases b <;> simp [cmpP] at e
  exact ⟨_, _, rfl, rfl, e.symm⟩
theorem opx_isN : OpR X (compareOp .Is) (RCm X.K fun M => cmpP M .isN) := by
  intro pins s σ H x y v u Q I rx ry h
  obtain ⟨r, M, a, b, k, hh, va, vb, e, q⟩ := h
  cases vb with
  | non =>
    refine op_isN pins s σ H x _ v u Q I rx ry ⟨rfl, ?_⟩
    cases va <;> simp [cmpP] at e <;> subst e <;> simpa using q
  | _ => cases a <;> simp [cmpP] at e
theorem opx_isNN : OpR X (compareOp .IsNot) (RCm X.K fun M => cmpP M .isNN) := by
  intro pins s σ H x y v u Q I rx ry h
  obtain ⟨r, M, a, b, k, hh, va, vb, e, q⟩ := h
  cases vb with
  | non =>
    refine op_notN pins s σ H x _ v u Q I rx ry ⟨rfl, ?_⟩
    cases va <;> simp [cmpP] at e <;> subst e <;> simpa using q
  | _ => cases a <;> simp [cmpP] at e

/-! ### in -/
theorem flat_ok {K : PySem.W.Frag} {r : List Addr} {H : Hp} {a : PV} {x : V} (va : RV K r H a x) : flatV x = flatP a := by cases va <;> rfl
theorem flat_all {K : PySem.W.Frag} {r : List Addr} {H : Hp} : ∀ {xs : List PV} {vs : List V}, RVs K r H xs vs → vs.all flatV = xs.all flatP
  | _, _, .nil => rfl
  | _, _, .cons h hs => by rw [List.all_cons, List.all_cons, flat_ok h, flat_all hs]
theorem eqF_ok {K : PySem.W.Frag} {r : List Addr} {H : Hp} {a b : PV} {x y : V} (va : RV K r H a x) (vb : RV K r H b y) : eqV x y = eqF a b := by
  cases va <;> cases vb <;> rfl
theorem any_ok {K : PySem.W.Frag} {r : List Addr} {H : Hp} {b : PV} {y : V} (vb : RV K r H b y) : ∀ {xs : List PV} {vs : List V}, RVs K r H xs vs → inV y vs = xs.any fun z => eqF z b
  | _, _, .nil => rfl
  | _, _, .cons h hs => by
    have := any_ok vb hs
    unfold inV at this ⊢
    rw [List.any_cons, List.any_cons, eqF_ok h vb, this]
theorem inP_ok {K : PySem.W.Frag} {r : List Addr} {H : Hp} {a : PV} {x : V} {xs : List PV} {vs : List V} {k : Bool} (va : RV K r H a x) (hs : RVs K r H xs vs) (e : inP a xs = some k) : flatV x = true ∧ vs.all flatV = true ∧ inV x vs = k := by
  unfold inP at e
  split at e
  · rename_i h
    cases e
    obtain ⟨h1, h2⟩ := Bool.and_eq_true_iff.mp h
    exact ⟨by rw [flat_ok va]; exact h1, by rw [flat_all hs]; exact h2, any_ok va hs⟩
  · cases e
theorem keyOf_ok {K : PySem.W.Frag} {r : List Addr} {H : Hp} {a : PV} {x : V} {k : Key} (va : RV K r H a x) (e : keyOf a = some k) : x = kV k := by
  cases va <;> simp [keyOf] at e <;> subst e <;> rfl
theorem getD_ok {K : PySem.W.Frag} {r : List Addr} {H : Hp} (k : Key) : ∀ {kvs : List (Key × PV)} {vs : List (Key × V)}, vs.map (·.1) = kvs.map (·.1) → RVs K r H (kvs.map (·.2)) (vs.map (·.2)) →
    (getD kvs k).isSome = (valV vs k).isSome ∧ ∀ p, getD kvs k = some p → ∃ v, valV vs k = some v ∧ RV K r H p v
  | [], [], _, _ => ⟨rfl, fun p e => by simp [getD] at e⟩
  | [], _ :: _, e, _ => by simp at e
  | _ :: _, [], e, _ => by simp at e
  | (k1, p1) :: kvs, (k2, v2) :: vs, e, h => by
    simp only [List.map_cons, List.cons.injEq] at e
    obtain ⟨e1, e2⟩ := e
    have e1 : k2 = k1 := e1
    subst e1
    cases h with
    | cons h hs =>
      obtain ⟨i1, i2⟩ := getD_ok k e2 hs
      by_cases hk : k2 = k
      · subst hk
        simp [getD, valV, List.find?_cons]
        exact h
      · have a1 : getD ((k2, p1) :: kvs) k = getD kvs k := by simp [getD, List.find?_cons, hk]
        have a2 : valV ((k2, v2) :: vs) k = valV vs k := by simp [valV, List.find?_cons, hk]
        rw [a1, a2]
        exact ⟨i1, i2⟩
theorem dic_of {K : PySem.W.Frag} {r : List Addr} {H : Hp} {M : Mm} {n : Nat} {kvs : List (Key × PV)} {a : Addr} (h : RH K r M H) (e : M[n]? = some (.dic kvs)) (ha : r[n]? = some a) :
    ∃ vs, H a = some (.dK vs) ∧ vs.map (·.1) = kvs.map (·.1) ∧ RVs K r H (kvs.map (·.2)) (vs.map (·.2)) := by
  obtain ⟨b, h1, vs, h2, h3, h4⟩ := h.at e
  rw [ha] at h1; cases h1
  exact ⟨vs, h2, h3, h4⟩
theorem sgn_ok {a : PV} {c : Nat} (e : sgn a = some c) : a = .str ⟨#[c]⟩ := by
  cases a with
  | str z =>
    simp only [sgn] at e
    split at e
    · rename_i c' e1
      cases e
      obtain ⟨cps⟩ := z
      have : cps = #[c] := by
        apply Array.ext'
        simpa using e1
      subst this
      rfl
    · cases e
  | _ => simp [sgn] at e
theorem in_core {pins : List (Addr × Obj)} {s : Shared} {σ : L2.St} {H : Hp} {x y : V} {v u : Value} {Q : VK} (neg : Bool) (hu : X.A.units + 1 < cLine) (I : Inv X pins σ H s) (rx : RelV x v) (ry : RelV y u)
    {r : List Addr} {M : Mm} {a b : PV} {k : Bool} (hh : RH X.K r M H) (va : RV X.K r H a x) (vb : RV X.K r H b y) (e : isIn M a b = some k) (q : Q (.bl (if neg then !k else k)) H) :
    wpAny (model X.prog X.w) X.A (compareOp (if neg then .NotIn else .In) v u) (EP X pins σ Q) X.xe s := by
  have seq : ∀ {p : Addr} {xs : List PV} {vs : List V}, y = .ref p → (SqL X.K H p vs ∨ SqT X.K H p vs) → RVs X.K r H xs vs → inP a xs = some k → wpAny (model X.prog X.w) X.A (compareOp (if neg then .NotIn else .In) v u) (EP X pins σ Q) X.xe s := fun {p xs vs} ey hq hs he => by
    obtain ⟨h1, h2, h3⟩ := inP_ok va hs he
    subst h3
    cases neg with
    | true => exact op_notIn_seq pins s σ H x y v u Q I rx ry ⟨p, vs, ey, hq, h1, h2, q⟩
    | false => exact op_in_seq pins s σ H x y v u Q I rx ry ⟨p, vs, ey, hq, h1, h2, q⟩
  cases vb with
  | @tup xs a1 vs ht hs => exact seq rfl (.inr ht) hs (by simpa [isIn] using e)
  | str z =>
    simp only [isIn] at e
    obtain ⟨c, e1, rfl⟩ := Option.map_eq_some_iff.mp e
    have := sgn_ok e1
    subst this
    cases va
    cases neg with
    | true => exact op_notIn_sign pins s σ H _ _ v u Q I rx ry ⟨c, z, rfl, rfl, q⟩
    | false => exact op_in_sign pins s σ H _ _ v u Q I rx ry ⟨c, z, rfl, rfl, q⟩
  | @ref n a1 hn =>
    simp only [isIn] at e
    split at e
    · rename_i xs e1
      obtain ⟨b1, g1, vs, g2, g3⟩ := hh.at e1
      rw [hn] at g1; cases g1
      exact seq rfl (.inl (.inl (.inl g2))) g3 e
    · rename_i kvs e1
      obtain ⟨key, e2, rfl⟩ := Option.map_eq_some_iff.mp e
      obtain ⟨vs, g2, g3, g4⟩ := dic_of hh e1 hn
      have := keyOf_ok va e2
      subst this
      obtain ⟨i1, _⟩ := getD_ok key g3 g4
      rw [i1] at q
      cases (show u = Value.ref a1 from ry)
      cases neg with
      | true => exact d_notIn hu I (DGet.k (k := key) g2) rx fun s' I' => ⟨.bl _, H, I', rfl, q⟩
      | false => exact d_in hu I (DGet.k (k := key) g2) rx fun s' I' => ⟨.bl _, H, I', rfl, q⟩
    · cases e
  | _ => simp [isIn] at e
theorem opx_in (hu : X.A.units + 64 < cLine) : OpR X (compareOp .In) (RCm X.K fun M => cmpP M .isin) := by
  intro pins s σ H x y v u Q I rx ry h
  obtain ⟨r, M, a, b, k, hh, va, vb, e, q⟩ := h
  simp only [cmpP] at e
  exact in_core false (by omega) I rx ry hh va vb e q
theorem opx_notin (hu : X.A.units + 64 < cLine) : OpR X (compareOp .NotIn) (RCm X.K fun M => cmpP M .notin) := by
  intro pins s σ H x y v u Q I rx ry h
  obtain ⟨r, M, a, b, k, hh, va, vb, e, q⟩ := h
  simp only [cmpP] at e
  obtain ⟨k', e', rfl⟩ := Option.map_eq_some_iff.mp e
  exact in_core true (by omega) I rx ry hh va vb e' q

/-! ### subscripts -/
theorem ix_dic (hu : X.A.units + 1 < cLine) : IxR X (fun x y H Q => ∃ a v, x = .ref a ∧ DGet H a y (some v) ∧ Q v H) := by
  intro value slice pins s σ H x y v u Q I rx ry h hs
  obtain ⟨a, z, rfl, g, q⟩ := h
  cases (show v = Value.ref a from rx)
  exact PyProof.Rows.tail_any (dict_typeIs I g) PySem.F.slot_dict_getitem.lookup (d_getItem hu I g ry fun w' s' I' rw' => ⟨z, H, I', rw', q⟩) hs
def RIx (K : PySem.W.Frag) : R2 := fun x y H Q => ∃ r M a b z, RH K r M H ∧ RV K r H a x ∧ RV K r H b y ∧ idxP M a b = some z ∧ ∀ u, RV K r H z u → Q u H
theorem atI_ok {K : PySem.W.Frag} {r : List Addr} {H : Hp} {xs : List PV} {vs : List V} {i : Int} {z : PV} (hs : RVs K r H xs vs) (e : atI xs i = some z) : ∃ v, atI vs i = some v ∧ RV K r H z v := by
  unfold atI at e ⊢
  rw [← hs.length]
  obtain ⟨j, e1, e2⟩ := Option.bind_eq_some_iff.mp e
  rw [e1]
  exact hs.get e2
theorem ixx (hu : X.A.units + 64 < cLine) : IxR X (RIx X.K) := by
  intro value slice pins s σ H x y v u Q I rx ry h hp
  obtain ⟨r, M, a, b, z, hh, va, vb, e, q⟩ := h
  cases va with
  | @tup xs a1 vs ht hs =>
    cases vb with
    | int i =>
      simp only [idxP] at e
      obtain ⟨w, h1, h2⟩ := atI_ok hs e
      exact ix_tup value slice pins s σ H _ _ v u Q I rx ry ⟨a1, vs, i, w, rfl, rfl, ht, h1, q w h2⟩ hp
    | _ => simp [idxP] at e
  | @cl ns a1 hc =>
    cases vb with
    | int i =>
      simp only [idxP] at e
      obtain ⟨w, h1, rfl⟩ := Option.map_eq_some_iff.mp e
      have : atI (ns.map V.int) i = some (V.int w) := by
        unfold atI at h1 ⊢
        rw [List.length_map]
        obtain ⟨j, e1, e2⟩ := Option.bind_eq_some_iff.mp h1
        rw [e1]
        show (ns.map V.int)[j]? = some (V.int w)
        rw [List.getElem?_map, e2]
        rfl
      exact ix_list value slice pins s σ H _ _ v u Q I rx ry ⟨a1, _, i, _, rfl, rfl, hc.sq, this, q _ (.int w)⟩ hp
    | _ => simp [idxP] at e
  | str zz =>
    cases vb with
    | int i =>
      simp only [idxP] at e
      split at e
      · rename_i hl
        obtain ⟨c, h1, rfl⟩ := Option.map_eq_some_iff.mp e
        exact ix_str value slice pins s σ H _ _ v u Q I rx ry ⟨zz, i, c, rfl, rfl, hl, h1, q _ (.str _)⟩ hp
      · cases e
    | _ => simp [idxP] at e
  | @ref n a1 hn =>
    simp only [idxP] at e
    split at e
    · rename_i xs i e1
      obtain ⟨b1, g1, vs, g2, g3⟩ := hh.at e1
      rw [hn] at g1; cases g1
      cases vb
      obtain ⟨w, h1, h2⟩ := atI_ok g3 e
      exact ix_list value slice pins s σ H _ _ v u Q I rx ry ⟨a1, vs, i, w, rfl, rfl, .inl (.inl g2), h1, q w h2⟩ hp
    · rename_i kvs _ e1
      obtain ⟨key, e2, e3⟩ := Option.bind_eq_some_iff.mp e
      obtain ⟨vs, g2, g3, g4⟩ := dic_of hh e1 hn
      have := keyOf_ok vb e2
      subst this
      obtain ⟨_, i2⟩ := getD_ok key g3 g4
      obtain ⟨w, w1, w2⟩ := i2 z e3
      exact ix_dic (by omega) value slice pins s σ H _ _ v u Q I rx ry ⟨a1, w, rfl, by rw [← w1]; exact DGet.k g2, q w w2⟩ hp
    · cases e
  | _ => simp [idxP] at e
end
end Mp

/-! Mp3c: expressions over operators; built-ins, methods, isinstance, dict displays. -/
namespace Mp
open PySem L2

section
variable {X : Cx} {cf : CF} {e a b c : Expr} {es : List Expr} {i ia ib ic : E} {pos : Pos}
theorem xe_bop {o : Operator} {bo : Bo} (ho : OpR X (binaryOp o) (ROp X.K fun M => bopP M bo)) (ha : XE X cf a ia) (hb : XE X cf b ib) : XE X cf (.BinOp a o b pos) (.bop bo ia ib) := by
  refine pe_imp (pe_op ho ha hb) fun s H Q h => ?_
  obtain ⟨r, sg, M, z, M', hs, hh, e, q⟩ := h
  simp only [evE] at e
  split at e
  · rename_i x M1 e1
    split at e
    · rename_i y M2 e2
      exact ⟨r, sg, M, x, M1, hs, hh, e1, fun r1 u1 H1 x1 h1 v1 => ⟨r1, sg, M1, y, M2, hs.ext x1, h1, e2, fun r2 u2 H2 x2 h2 v2 =>
        ⟨r2, M2, x, y, z, M', h2, v1.ext x2, v2, e, fun r3 u3 H3 x3 h3 v3 => q r3 u3 H3 (x1.trans (x2.trans x3)) h3 v3⟩⟩⟩
    · cases e
  · cases e
theorem xe_neg (ha : XE X cf a ia) : XE X cf (.UnaryOp .USub a pos) (.neg ia) := by
  refine pe_imp (pe_un un_neg ha) fun s H Q h => ?_
  obtain ⟨r, sg, M, z, M', hs, hh, e, q⟩ := h
  simp only [evE] at e
  split at e
  · rename_i k M1 e1
    cases e
    refine ⟨r, sg, M, _, _, hs, hh, e1, fun r1 u1 H1 x1 h1 v1 => ?_⟩
    cases v1
    exact ⟨k, rfl, q r1 _ H1 x1 h1 (.int _)⟩
  · cases e
theorem cmp_inv {o : Co} {sg : Sg} {M M' : Mm} {z : PV} (e : evE cf (.cmp o ia ib) sg M = some (z, M')) : ∃ x y M1 k, evE cf ia sg M = some (x, M1) ∧ evE cf ib sg M1 = some (y, M') ∧ cmpP M' o x y = some k ∧ z = .bl k := by
  simp only [evE] at e
  split at e
  · rename_i x M1 e1
    split at e
    · rename_i y M2 e2
      obtain ⟨k, e3, e4⟩ := Option.map_eq_some_iff.mp e
      cases e4
      exact ⟨x, y, M1, k, e1, e2, e3, rfl⟩
    · cases e
  · cases e
theorem xe_cmp {o : CmpOp} {co : Co} (ho : OpR X (compareOp o) (RCm X.K fun M => cmpP M co)) (ha : XE X cf a ia) (hb : XE X cf b ib) (hm : behindInMarks o b = false) : XE X cf (.Compare a [o] [b] pos) (.cmp co ia ib) := by
  refine pe_imp (pe_cmpR ho ha hb hm) fun s H Q h => ?_
  obtain ⟨r, sg, M, z, M', hs, hh, e, q⟩ := h
  obtain ⟨x, y, M1, k, e1, e2, e3, rfl⟩ := cmp_inv e
  exact ⟨r, sg, M, x, M1, hs, hh, e1, fun r1 u1 H1 x1 h1 v1 => ⟨r1, sg, M1, y, M', hs.ext x1, h1, e2, fun r2 u2 H2 x2 h2 v2 =>
    ⟨r2, M', x, y, k, h2, v1.ext x2, v2, e3, q r2 _ H2 (x1.trans x2) h2 (.bl k)⟩⟩⟩
theorem xt_cmp {o : CmpOp} {co : Co} (ho : OpR X (compareOp o) (RCm X.K fun M => cmpP M co)) (ha : XE X cf a ia) (hb : XE X cf b ib) (hm : behindInMarks o b = false) : XT X cf (.Compare a [o] [b] pos) (.cmp co ia ib) := by
  refine pt_imp (pt_cmpR ho ha hb hm) fun s H Q h => ?_
  obtain ⟨r, sg, M, z, M', hs, hh, e, q⟩ := h
  obtain ⟨x, y, M1, k, e1, e2, e3, e4⟩ := cmp_inv e
  cases e4
  exact ⟨r, sg, M, x, M1, hs, hh, e1, fun r1 u1 H1 x1 h1 v1 => ⟨r1, sg, M1, y, M', hs.ext x1, h1, e2, fun r2 u2 H2 x2 h2 v2 =>
    ⟨r2, M', x, y, z, h2, v1.ext x2, v2, e3, z, rfl, q r2 H2 (x1.trans x2) h2⟩⟩⟩
theorem xe_chn {o o' : CmpOp} {co co' : Co} (ho : OpR X (compareOp o) (RCm X.K fun M => cmpP M co)) (ho' : OpR X (compareOp o') (RCm X.K fun M => cmpP M co')) (ha : XE X cf a ia) (hb : XE X cf b ib) (hc : XE X cf c ic)
    (hm : lastMarks [o, o'] [b, c] = false := by with_unfolding_all rfl) : XE X cf (.Compare a [o, o'] [b, c] pos) (.chn co co' ia ib ic) := by
  refine pe_imp (pe_chain ho ho' ha hb hc hm) fun s H Q h => ?_
  obtain ⟨r, sg, M, z, M', hs, hh, e, q⟩ := h
  simp only [evE] at e
  split at e
  · rename_i x M1 e1
    split at e
    · rename_i y M2 e2
      refine ⟨r, sg, M, x, M1, hs, hh, e1, fun r1 u1 H1 x1 h1 v1 => ⟨r1, sg, M1, y, M2, hs.ext x1, h1, e2, fun r2 u2 H2 x2 h2 v2 => ?_⟩⟩
      split at e
      · rename_i e3
        refine ⟨r2, M2, x, y, true, h2, v1.ext x2, v2, e3, true, rfl, iteT ?_⟩
        split at e
        · rename_i w M3 e4
          obtain ⟨k, e5, e6⟩ := Option.map_eq_some_iff.mp e
          cases e6
          exact ⟨r2, sg, M2, w, M', hs.ext (x1.trans x2), h2, e4, fun r3 u3 H3 x3 h3 v3 => ⟨r3, M', y, w, k, h3, v2.ext x3, v3, e5, q r3 _ H3 (x1.trans (x2.trans x3)) h3 (.bl k)⟩⟩
        · cases e
      · rename_i e3
        cases e
        exact ⟨r2, _, x, y, false, h2, v1.ext x2, v2, e3, false, rfl, iteF (q r2 _ H2 (x1.trans x2) h2 (.bl false))⟩
      · cases e
    · cases e
  · cases e
theorem xt_chn {o o' : CmpOp} {co co' : Co} (ho : OpR X (compareOp o) (RCm X.K fun M => cmpP M co)) (ho' : OpR X (compareOp o') (RCm X.K fun M => cmpP M co')) (ha : XE X cf a ia) (hb : XE X cf b ib) (hc : XE X cf c ic)
    (hm : lastMarks [o, o'] [b, c] = false := by with_unfolding_all rfl) : XT X cf (.Compare a [o, o'] [b, c] pos) (.chn co co' ia ib ic) := by
  refine pt_imp (pt_chain ho ho' ha hb hc hm) fun s H Q h => ?_
  obtain ⟨r, sg, M, k0, M', hs, hh, e, q⟩ := h
  simp only [evE] at e
  split at e
  · rename_i x M1 e1
    split at e
    · rename_i y M2 e2
      refine ⟨r, sg, M, x, M1, hs, hh, e1, fun r1 u1 H1 x1 h1 v1 => ⟨r1, sg, M1, y, M2, hs.ext x1, h1, e2, fun r2 u2 H2 x2 h2 v2 => ?_⟩⟩
      split at e
      · rename_i e3
        refine ⟨r2, M2, x, y, true, h2, v1.ext x2, v2, e3, true, rfl, iteT ?_⟩
        split at e
        · rename_i w M3 e4
          obtain ⟨k, e5, e6⟩ := Option.map_eq_some_iff.mp e
          cases e6
          exact ⟨r2, sg, M2, w, M', hs.ext (x1.trans x2), h2, e4, fun r3 u3 H3 x3 h3 v3 => ⟨r3, M', y, w, _, h3, v2.ext x3, v3, e5, _, rfl, q r3 H3 (x1.trans (x2.trans x3)) h3⟩⟩
        · cases e
      · rename_i e3
        cases e
        exact ⟨r2, _, x, y, false, h2, v1.ext x2, v2, e3, false, rfl, iteF ⟨_, rfl, q r2 H2 (x1.trans x2) h2⟩⟩
      · cases e
    · cases e
  · cases e
theorem xe_idx (hu : X.A.units + 64 < cLine) (ha : XE X cf a ia) (hb : XE X cf b ib) (hp : PlainIx b) : XE X cf (.Subscript a b pos) (.idx ia ib) := by
  refine pe_imp (pe_ix (ixx hu) ha hb hp) fun s H Q h => ?_
  obtain ⟨r, sg, M, z, M', hs, hh, e, q⟩ := h
  simp only [evE] at e
  split at e
  · rename_i x M1 e1
    split at e
    · rename_i y M2 e2
      obtain ⟨k, e3, e4⟩ := Option.map_eq_some_iff.mp e
      cases e4
      exact ⟨r, sg, M, x, M1, hs, hh, e1, fun r1 u1 H1 x1 h1 v1 => ⟨r1, sg, M1, y, _, hs.ext x1, h1, e2, fun r2 u2 H2 x2 h2 v2 =>
        ⟨r2, _, x, y, z, h2, v1.ext x2, v2, e3, fun u v => q r2 u H2 (x1.trans x2) h2 v⟩⟩⟩
    · cases e
  · cases e

/-! ### slices -/
def TOv (K : PySem.W.Frag) (fl : Bool) (f : Sg → Mm → R) : TO := fun s H Q => ∃ r sg M z o M', RS K r H sg s ∧ RH K r M H ∧ f sg M = some (z, M') ∧ optI fl z = some o ∧ ∀ r' H', Ext r r' H H' → RH K r' M' H' → Q o H'
theorem po_imp {o : Option Expr} {t t' : TO} (h : PO X o t) (k : ∀ s H Q, t' s H Q → t s H Q) : PO X o t' := ⟨fun pins s σ H Q I q => h.run pins s σ H Q I (k _ _ _ q)⟩
def XO (X : Cx) (cf : CF) (o : Option Expr) (fl : Bool) (i : E) : Prop := PO X o (TOv X.K fl (evE cf i))
theorem xo0 : XO X cf none false (.con .non) := by
  refine po_imp po_none fun s H Q h => ?_
  obtain ⟨r, sg, M, z, o, M', hs, hh, e, eo, q⟩ := h
  simp only [evE] at e
  cases e
  simp only [optI] at eo
  cases eo
  exact q r H .refl hh
theorem xo1 (h : XE X cf e i) : XO X cf (some e) true i := by
  refine po_imp (po_some h) fun s H Q h => ?_
  obtain ⟨r, sg, M, z, o, M', hs, hh, e, eo, q⟩ := h
  refine ⟨r, sg, M, z, M', hs, hh, e, fun r1 u1 H1 x1 h1 v1 => ?_⟩
  cases v1 with
  | int k => simp only [optI] at eo; cases eo; exact ⟨k, rfl, q r1 H1 x1 h1⟩
  | _ => simp [optI] at eo
def RSl (K : PySem.W.Frag) (fl fh : Bool) : V → Option Int → Option Int → Hp → VK → Prop := fun x lo hi H Q => ∃ r M a pl ph z M', RH K r M H ∧ RV K r H a x ∧ optI fl pl = some lo ∧ optI fh ph = some hi ∧ slcP fl fh M a pl ph = some (z, M') ∧ Post K r H z M' Q
theorem cut_ok {K : PySem.W.Frag} {r : List Addr} {H : Hp} {xs : List PV} {vs : List V} (h : RVs K r H xs vs) (lo hi : Option Int) : RVs K r H (cutP xs lo hi) (cutV vs lo hi) := by
  unfold cutP cutV
  rw [h.length]
  exact (h.drop _).take _
theorem cut_all (vs : List V) (lo hi : Option Int) (h1 : HT.sIx vs.length 0 lo = 0) (h2 : HT.sIx vs.length vs.length hi = vs.length) : cutV vs lo hi = vs := by
  unfold cutV
  rw [h1, h2]
  simp
theorem slx {fl fh : Bool} : SlR X (RSl X.K fl fh) := by
  intro pins s σ H x v vl vu lo hi sl Q I rx hs pl pu h
  obtain ⟨r, M, a, p1, p2, z, M', hh, va, o1, o2, e, q⟩ := h
  simp only [slcP, o1, o2] at e
  cases va with
  | @tup xs a1 vs ht hxs =>
    simp only at e
    cases e
    refine sl_tupA pins s σ H _ v vl vu lo hi sl Q I rx hs pl pu ⟨a1, vs, rfl, ht, fun w => ?_, fun _ p hp => q.tup hh (cut_ok hxs lo hi) hp⟩
    have w2 := cut_ok hxs lo hi
    rw [cut_all vs lo hi w.1 w.2] at w2
    exact q.here hh (.tup ht w2)
  | @ref n a1 hn =>
    simp only at e
    split at e
    · rename_i xs e1
      cases e
      obtain ⟨b1, vs, g1, g2, g3⟩ := lst_of hh e1
      rw [hn] at g1; cases g1
      exact sl_list pins s σ H _ v vl vu lo hi sl Q I rx hs pl pu ⟨a1, vs, rfl, .inl (.inl g2), fun p hp => q.lst hh (cut_ok g3 lo hi) hp⟩
    · cases e
  | _ => simp at e
theorem slc_inv {fl fh : Bool} {sg : Sg} {M M' : Mm} {z : PV} (e : evE cf (.slc fl fh i ia ib) sg M = some (z, M')) : ∃ x y w M1 M2 M3, evE cf i sg M = some (x, M1) ∧ evE cf ia sg M1 = some (y, M2) ∧ evE cf ib sg M2 = some (w, M3) ∧ slcP fl fh M3 x y w = some (z, M') := by
  simp only [evE] at e
  split at e
  · rename_i x M1 e1
    split at e
    · rename_i y M2 e2
      split at e
      · rename_i w M3 e3; exact ⟨x, y, w, M1, M2, M3, e1, e2, e3, e⟩
      · cases e
    · cases e
  · cases e
theorem slcP_opt {fl fh : Bool} {M : Mm} {x y w : PV} {z : PV × Mm} (e : slcP fl fh M x y w = some z) : (∃ o, optI fl y = some o) ∧ ∃ o, optI fh w = some o := by
  unfold slcP at e
  split at e
  · rename_i a b e1 e2; exact ⟨⟨a, e1⟩, ⟨b, e2⟩⟩
  · cases e
theorem xe_slc {fl fh : Bool} {lo hi : Option Expr} {p2 : Pos} (h : XE X cf e i) (hl : XO X cf lo fl ia) (hu : XO X cf hi fh ib) : XE X cf (.Subscript e (.Slice lo hi none p2) pos) (.slc fl fh i ia ib) := by
  refine pe_imp (pe_slice (slx (fl := fl) (fh := fh)) h hl hu) fun s H Q h => ?_
  obtain ⟨r, sg, M, z, M', hs, hh, e, q⟩ := h
  obtain ⟨x, y, w, M1, M2, M3, e1, e2, e3, e4⟩ := slc_inv e
  obtain ⟨⟨o1, p1⟩, o2, p2⟩ := slcP_opt e4
  exact ⟨r, sg, M, x, M1, hs, hh, e1, fun r1 u1 H1 x1 h1 v1 => ⟨r1, sg, M1, y, o1, M2, hs.ext x1, h1, e2, p1, fun r2 H2 x2 h2 => ⟨r2, sg, M2, w, o2, M3, hs.ext (x1.trans x2), h2, e3, p2, fun r3 H3 x3 h3 =>
    ⟨r3, M3, x, y, w, z, M', h3, v1.ext (x2.trans x3), p1, p2, e4, fun r4 u4 H4 x4 h4 v4 => q r4 u4 H4 (x1.trans (x2.trans (x3.trans x4))) h4 v4⟩⟩⟩⟩

/-! ### built-ins -/
def RCl (K : PySem.W.Frag) (f : Mm → List PV → R) : List V → Hp → VK → Prop := fun vs H Q => ∃ r M xs z M', RH K r M H ∧ RVs K r H xs vs ∧ f M xs = some (z, M') ∧ Post K r H z M' Q
theorem xe_blt {bb : B} {x : Str} {id : String} {p : Pos} {j : Es} (hc : CallR X (.builtin id) (RCl X.K fun M => bltP M bb)) (hg : Gl X x) (hm : X.mg x = none) (hv : bootBuiltins x = some (.builtin id)) (ha : XA X cf (e :: es) j)
    (hn : x ≠ "__name__" := by decide) (hdb : (x == ("__debug__" : Str)) = false := by decide)
    (he : starEach (e :: es) X.env = (false, eval e X.env) :: starEach es X.env := by rfl) (hpl : (backTo pos (starEach es X.env)).any (·.1) = false := by rfl) : XE X cf (.Call (.Name x p) (e :: es) [] pos) (.blt bb j) := by
  refine pe_imp (pe_callB hc hg hm hv ha hn hdb he hpl) fun s H Q h => ?_
  obtain ⟨r, sg, M, z, M', hs, hh, e, q⟩ := h
  simp only [evE] at e
  split at e
  · rename_i xs M1 e1
    exact ⟨r, sg, M, xs, M1, hs, hh, e1, fun r1 us H1 x1 h1 v1 => ⟨r1, M1, xs, z, M', h1, v1, e, fun r2 u2 H2 x2 h2 v2 => q r2 u2 H2 (x1.trans x2) h2 v2⟩⟩
  · cases e
theorem xe_bty {bb : B} {x : Str} {T : String} {p : Pos} {j : Es} (hc : CallR X (.type T) (RCl X.K fun M => bltP M bb)) (hg : Gl X x) (hm : X.mg x = none) (hv : bootBuiltins x = some (.type T)) (ha : XA X cf (e :: es) j)
    (hn : x ≠ "__name__" := by decide) (hdb : (x == ("__debug__" : Str)) = false := by decide)
    (he : starEach (e :: es) X.env = (false, eval e X.env) :: starEach es X.env := by rfl) (hpl : (backTo pos (starEach es X.env)).any (·.1) = false := by rfl) : XE X cf (.Call (.Name x p) (e :: es) [] pos) (.blt bb j) := by
  refine pe_imp (pe_callTy hc hg hm hv ha hn hdb he hpl) fun s H Q h => ?_
  obtain ⟨r, sg, M, z, M', hs, hh, e, q⟩ := h
  simp only [evE] at e
  split at e
  · rename_i xs M1 e1
    exact ⟨r, sg, M, xs, M1, hs, hh, e1, fun r1 us H1 x1 h1 v1 => ⟨r1, M1, xs, z, M', h1, v1, e, fun r2 u2 H2 x2 h2 v2 => q r2 u2 H2 (x1.trans x2) h2 v2⟩⟩
  · cases e
theorem cl_len : CallR X (.builtin "len") (RCl X.K fun M => bltP M .len) := by
  intro pins s σ H vs us Q I rv h
  obtain ⟨r, M, xs, z, M', hh, hv, e, q⟩ := h
  cases hv with
  | nil => simp [bltP] at e
  | @cons x xs v vs hx hv =>
    cases hv with
    | cons _ _ => simp [bltP] at e
    | nil =>
      cases hx with
      | str zz =>
        simp only [bltP] at e
        split at e
        · rename_i hl; cases e; exact call_len_str pins s σ H _ us Q I rv ⟨zz, rfl, hl, q.here hh (.int _)⟩
        · cases e
      | @tup ys a vs ht hys =>
        simp only [bltP] at e
        cases e
        refine call_len_seq pins s σ H _ us Q I rv ⟨a, vs, rfl, .inr ht, ?_⟩
        rw [← hys.length]
        exact q.here hh (.int _)
      | @cl ns a hc =>
        simp only [bltP] at e
        cases e
        refine call_len_seq pins s σ H _ us Q I rv ⟨a, _, rfl, .inl hc.sq, ?_⟩
        rw [List.length_map]
        exact q.here hh (.int _)
      | @ref n a hn =>
        simp only [bltP] at e
        split at e
        · rename_i ys e1
          cases e
          obtain ⟨b1, g1, vs, g2, g3⟩ := hh.at e1
          rw [hn] at g1; cases g1
          refine call_len_seq pins s σ H _ us Q I rv ⟨a, vs, rfl, .inl (.inl (.inl g2)), ?_⟩
          rw [← g3.length]
          exact q.here hh (.int _)
        · rename_i ys e1
          cases e
          obtain ⟨vs, g2, g3, g4⟩ := dic_of hh e1 hn
          refine call_lenD pins s σ H _ us Q I rv ⟨a, vs, rfl, g2, ?_⟩
          have : vs.length = ys.length := by
            have := congrArg List.length g3
            simpa using this
          rw [this]
          exact q.here hh (.int _)
        · cases e
      | _ => simp [bltP] at e
theorem one_inv {bb : B} {K : PySem.W.Frag} {r : List Addr} {H : Hp} {xs : List PV} {vs : List V} (h : RVs K r H xs vs) {x : PV} (e : xs = [x]) : ∃ v, vs = [v] ∧ RV K r H x v := by
  subst e
  cases h with
  | cons h hs => cases hs; exact ⟨_, rfl, h⟩
theorem cl_int : CallR X (.type "int") (RCl X.K fun M => bltP M .int) := by
  intro pins s σ H vs us Q I rv h
  obtain ⟨r, M, xs, z, M', hh, hv, e, q⟩ := h
  cases hv with
  | nil => simp [bltP] at e
  | @cons x xs v vs hx hv =>
    cases hv with
    | cons _ _ => cases x <;> simp [bltP] at e
    | nil =>
      cases hx with
      | int k => simp only [bltP] at e; cases e; exact call_int1 pins s σ H _ us Q I rv (.inl ⟨k, rfl, q.here hh (.int _)⟩)
      | bl k => simp only [bltP] at e; cases e; exact call_int1 pins s σ H _ us Q I rv (.inr ⟨k, rfl, q.here hh (.int _)⟩)
      | _ => simp [bltP] at e
theorem cl_abs : CallR X (.builtin "abs") (RCl X.K fun M => bltP M .abs) := by
  intro pins s σ H vs us Q I rv h
  obtain ⟨r, M, xs, z, M', hh, hv, e, q⟩ := h
  cases hv with
  | nil => simp [bltP] at e
  | @cons x xs v vs hx hv =>
    cases hv with
    | cons _ _ => cases x <;> simp [bltP] at e
    | nil =>
      cases hx with
      | int k => simp only [bltP] at e; cases e; exact call_abs pins s σ H _ us Q I rv ⟨k, rfl, q.here hh (.int _)⟩
      | _ => simp [bltP] at e
theorem cl_min2 (hc : X.calm = true) : CallR X (.builtin "min") (RCl X.K fun M => bltP M .min2) := by
  intro pins s σ H vs us Q I rv h
  obtain ⟨r, M, xs, z, M', hh, hv, e, q⟩ := h
  match xs, hv, e with
  | [.int i, .int j], hv, e =>
    cases hv with
    | cons h1 hv2 =>
      cases hv2 with
      | cons h2 hv3 =>
        cases hv3
        cases h1
        cases h2
        simp only [bltP] at e
        obtain ⟨rfl, rfl⟩ := Prod.mk.inj (Option.some.inj e)
        exact call_min2 hc pins s σ H _ us Q I rv ⟨i, j, rfl, q.here hh (.int _)⟩
theorem bls_ok {K : PySem.W.Frag} {r : List Addr} {H : Hp} : ∀ {xs : List PV} {vs : List V} {bs : List Bool}, RVs K r H xs vs → blsOf xs = some bs → vs = bs.map V.bl
  | [], _, _, .nil, e => by simp [blsOf] at e; subst e; rfl
  | x :: xs, _, _, .cons h hs, e => by
    cases x with
    | bl b =>
      simp only [blsOf] at e
      obtain ⟨bs, e1, rfl⟩ := Option.map_eq_some_iff.mp e
      cases h
      rw [bls_ok hs e1]
      rfl
    | _ => simp [blsOf] at e
theorem ints_ok {K : PySem.W.Frag} {r : List Addr} {H : Hp} : ∀ {xs : List PV} {vs : List V} {bs : List Int}, RVs K r H xs vs → intsOf xs = some bs → vs = bs.map V.int
  | [], _, _, .nil, e => by simp [intsOf] at e; subst e; rfl
  | x :: xs, _, _, .cons h hs, e => by
    cases x with
    | int b =>
      simp only [intsOf] at e
      obtain ⟨bs, e1, rfl⟩ := Option.map_eq_some_iff.mp e
      cases h
      rw [ints_ok hs e1]
      rfl
    | _ => simp [intsOf] at e
theorem ints_rv {K : PySem.W.Frag} {r : List Addr} {H : Hp} : ∀ ns : List Int, RVs K r H (ns.map PV.int) (ns.map V.int)
  | [] => .nil
  | n :: ns => .cons (.int n) (ints_rv ns)
theorem cl_all_ (hc : X.calm = true) : CallR X (.builtin "all") (RCl X.K fun M => bltP M .all) := by
  intro pins s σ H vs us Q I rv h
  obtain ⟨r, M, xs, z, M', hh, hv, e, q⟩ := h
  match xs, hv, e with
  | [.ref n], hv, e =>
    obtain ⟨v, rfl, hv1⟩ := one_inv (bb := .all) hv rfl
    simp only [bltP] at e
    obtain ⟨bs, e1, e2⟩ := Option.map_eq_some_iff.mp e
    obtain ⟨ys, e3, e4⟩ := Option.bind_eq_some_iff.mp e1
    cases e2
    obtain ⟨a, ws, g1, g2, g3⟩ := lst_of hh e3
    have := hv1.refAt g1
    subst this
    rw [bls_ok g3 e4] at g2
    exact cr_all hc pins s σ H _ us Q I rv ⟨a, bs, rfl, .inl (.inl g2), q.here hh (.bl _)⟩
theorem cl_any_ (hc : X.calm = true) : CallR X (.builtin "any") (RCl X.K fun M => bltP M .any) := by
  intro pins s σ H vs us Q I rv h
  obtain ⟨r, M, xs, z, M', hh, hv, e, q⟩ := h
  match xs, hv, e with
  | [.ref n], hv, e =>
    obtain ⟨v, rfl, hv1⟩ := one_inv (bb := .all) hv rfl
    simp only [bltP] at e
    obtain ⟨bs, e1, e2⟩ := Option.map_eq_some_iff.mp e
    obtain ⟨ys, e3, e4⟩ := Option.bind_eq_some_iff.mp e1
    cases e2
    obtain ⟨a, ws, g1, g2, g3⟩ := lst_of hh e3
    have := hv1.refAt g1
    subst this
    rw [bls_ok g3 e4] at g2
    exact cr_any hc pins s σ H _ us Q I rv ⟨a, bs, rfl, .inl (.inl g2), q.here hh (.bl _)⟩
theorem cl_sum (hc : X.calm = true) : CallR X (.builtin "sum") (RCl X.K fun M => bltP M .sum) := by
  intro pins s σ H vs us Q I rv h
  obtain ⟨r, M, xs, z, M', hh, hv, e, q⟩ := h
  match xs, hv, e with
  | [.ref n], hv, e =>
    obtain ⟨v, rfl, hv1⟩ := one_inv (bb := .all) hv rfl
    simp only [bltP] at e
    obtain ⟨bs, e1, e2⟩ := Option.map_eq_some_iff.mp e
    obtain ⟨ys, e3, e4⟩ := Option.bind_eq_some_iff.mp e1
    cases e2
    obtain ⟨a, ws, g1, g2, g3⟩ := lst_of hh e3
    have := hv1.refAt g1
    subst this
    rw [ints_ok g3 e4] at g2
    exact cr_sum hc pins s σ H _ us Q I rv ⟨a, bs, rfl, .inl (.inl g2), q.here hh (.int _)⟩
theorem cl_tuple : CallR X (.type "tuple") (RCl X.K fun M => bltP M .tuple) := by
  intro pins s σ H vs us Q I rv h
  obtain ⟨r, M, xs, z, M', hh, hv, e, q⟩ := h
  match xs, hv, e with
  | [.ref n], hv, e =>
    obtain ⟨v, rfl, hv1⟩ := one_inv (bb := .all) hv rfl
    simp only [bltP] at e
    obtain ⟨ys, e3, e2⟩ := Option.map_eq_some_iff.mp e
    cases e2
    obtain ⟨a, ws, g1, g2, g3⟩ := lst_of hh e3
    have := hv1.refAt g1
    subst this
    exact call_tuple_of pins s σ H _ us Q I rv ⟨a, ws, rfl, .inl ⟨.inl (.inl g2), fun p hp => q.tup hh g3 hp⟩⟩
  | [.tup ys], hv, e =>
    obtain ⟨v, rfl, hv1⟩ := one_inv (bb := .all) hv rfl
    simp only [bltP] at e
    cases e
    cases hv1 with
    | @tup _ a ws ht hs => exact call_tuple_of pins s σ H _ us Q I rv ⟨a, ws, rfl, .inr ⟨ht, q.here hh (.tup ht hs)⟩⟩
theorem cl_list : CallR X (.type "list") (RCl X.K fun M => bltP M .list) := by
  intro pins s σ H vs us Q I rv h
  obtain ⟨r, M, xs, z, M', hh, hv, e, q⟩ := h
  match xs, hv, e with
  | [x], hv, e =>
    obtain ⟨v, rfl, hv1⟩ := one_inv (bb := .all) hv rfl
    simp only [bltP] at e
    obtain ⟨ys, e3, e2⟩ := Option.map_eq_some_iff.mp e
    cases e2
    cases hv1 with
    | @tup ws a vs ht hs => simp only [seqOf] at e3; cases e3; exact call_list_of pins s σ H _ us Q I rv ⟨a, vs, rfl, .inr ht, fun p hp => q.lst hh hs hp⟩
    | @ref n a hn =>
      simp only [seqOf] at e3
      obtain ⟨a', ws, g1, g2, g3⟩ := lst_of hh e3
      rw [hn] at g1; cases g1
      exact call_list_of pins s σ H _ us Q I rv ⟨a, ws, rfl, .inl (.inl (.inl g2)), fun p hp => q.lst hh g3 hp⟩
    | @cl ns a hc => simp only [seqOf] at e3; cases e3; exact call_list_of pins s σ H _ us Q I rv ⟨a, _, rfl, .inl hc.sq, fun p hp => q.lst hh (ints_rv ns) hp⟩
    | _ => simp [seqOf] at e3
theorem insI_perm (i : Int) : ∀ ns, (insI i ns).Perm (i :: ns)
  | [] => .refl _
  | j :: r => by
    unfold insI
    split
    · exact .refl _
    · exact ((insI_perm i r).cons j).trans (.swap i j r)
theorem sortI_perm : ∀ ns, (sortI ns).Perm ns
  | [] => .refl _
  | i :: r => (insI_perm i (sortI r)).trans ((sortI_perm r).cons i)
theorem insI_sorted (i : Int) : ∀ ns : List Int, ns.Pairwise (· ≤ ·) → (insI i ns).Pairwise (· ≤ ·)
  | [], _ => by simp [insI]
  | j :: r, h => by
    unfold insI
    rw [List.pairwise_cons] at h
    split
    · rename_i hij
      refine List.pairwise_cons.mpr ⟨fun y hy => ?_, List.pairwise_cons.mpr h⟩
      rcases List.mem_cons.mp hy with rfl | hy
      · exact hij
      · have := h.1 y hy; omega
    · rename_i hij
      refine List.pairwise_cons.mpr ⟨fun y hy => ?_, insI_sorted i r h.2⟩
      rcases List.mem_cons.mp ((insI_perm i r).mem_iff.mp hy) with rfl | hy
      · omega
      · exact h.1 y hy
theorem sortI_sorted : ∀ ns : List Int, (sortI ns).Pairwise (· ≤ ·)
  | [] => by simp [sortI]
  | i :: r => insI_sorted i _ (sortI_sorted r)
theorem sortI_uniq {ns ns' : List Int} (p : ns'.Perm ns) (s : ns'.Pairwise (· ≤ ·)) : ns' = sortI ns :=
  PySem.W.ksm_same (p.trans (sortI_perm ns).symm) s (sortI_sorted ns)
theorem keysI_ok : ∀ {kvs : List (Key × PV)} {ns : List Int}, keysI kvs = some ns → kvs.map (·.1) = ns.map Sum.inl
  | [], _, e => by simp [keysI] at e; subst e; rfl
  | (.inl i, v) :: r, _, e => by
    simp only [keysI] at e
    obtain ⟨ns, e1, rfl⟩ := Option.map_eq_some_iff.mp e
    simp [keysI_ok e1]
  | (.inr i, v) :: r, _, e => by simp [keysI] at e
theorem cl_sorted (hc : X.calm = true) : CallR X (.builtin "sorted") (RCl X.K fun M => bltP M .sorted) := by
  intro pins s σ H vs us Q I rv h
  obtain ⟨r, M, xs, z, M', hh, hv, e, q⟩ := h
  match xs, hv, e with
  | [.ref n], hv, e =>
    obtain ⟨v, rfl, hv1⟩ := one_inv (bb := .all) hv rfl
    simp only [bltP] at e
    split at e
    · rename_i ys e0
      obtain ⟨ns, e1, e2⟩ := Option.bind_eq_some_iff.mp e
      split at e2
      · rename_i hl
        cases e2
        obtain ⟨a, g1, ws, g2, g3⟩ := hh.at e0
        have := hv1.refAt g1
        subst this
        rw [ints_ok g3 e1] at g2
        refine cr_sorted pins s σ H _ us Q I rv ⟨a, ns, rfl, .inl (.inl g2), hl, fun ns' p pm so hp => ?_⟩
        rw [sortI_uniq pm so]
        exact q.lst hh (ints_rv _) hp
      · cases e2
    · rename_i kvs e0
      obtain ⟨ns, e1, e2⟩ := Option.bind_eq_some_iff.mp e
      split at e2
      · rename_i hl
        cases e2
        obtain ⟨a, g1, g⟩ := hh.at e0
        have := hv1.refAt g1
        subst this
        obtain ⟨ws, g2, g3, g4⟩ := g
        refine call_sortedDI hc pins s σ H _ us Q I rv ⟨a, ws, ns, rfl, .inl g2, by rw [g3]; exact keysI_ok e1, hl, fun ns' p pm so hp => ?_⟩
        rw [sortI_uniq pm so]
        exact q.lst hh (ints_rv _) hp
      · cases e2
    · cases e
end
end Mp

/-! MpEnum: enumerate over a tuple. -/
namespace Mp
open PySem L2
open PySem.Sem (wp)
open PySem.AutoSeq1 (wpAny_loadPart')

theorem meets_enum_newT (l : Addr) (items : Array Value) (n : Nat) (dct : Option Addr) (sl : Array (Option Value)) :
    Meets (Builtin.«enumerate.__new__» ⟨[.type "enumerate", .ref l], []⟩) (fun _ R s => s.heap.get? l = some { cls := .type "tuple", dict := dct, data := .seq items n, slots := sl } ∧
      R (.ok (.ret (.ref (s.heap.push { cls := .type "tuple_iterator", data := .fields #[.ref l, .int 0 0] }).objs.size)))
        { s with heap := (s.heap.push { cls := .type "tuple_iterator", data := .fields #[.ref l, .int 0 0] }).push { cls := .type "enumerate", data := .fields #[.none, .bool false, .ref s.heap.objs.size, rawInt 0, .none, .none] } }) :=
  .of_wp fun prog w A R s h => by
    obtain ⟨hp, g, d, tk, os⟩ := s
    obtain ⟨hl, h⟩ := h
    have hsub := sub_enumerate
    have hL : Heap.IsTuple (Shared.heap ⟨hp, g, d, tk, os⟩) l items := ⟨_, hl, rfl, n, rfl⟩
    wp_walk using wpAny_loadPart' hl
    refine wpAny_stack_any fun st => wpAny_pure ?_
    split
    · rename_i c _ _ _ _ _
      cases (c == Value.type "enumerate")
      · wp_walk using wpAny_loadPart' hl, wpAny_pyIter_tuple hL
        exact ⟨_, rfl, h⟩
      · wp_walk using wpAny_loadPart' hl, wpAny_pyIter_tuple hL
        exact ⟨_, rfl, h⟩
    · wp_walk using wpAny_loadPart' hl, wpAny_pyIter_tuple hL
      exact ⟨_, rfl, h⟩

theorem call_enum_tuple {prog : Program} {w : World} {A : Around} {E : Value → Shared → Prop} {s : Shared} {l : Addr} {items : Array Value} {Q : Value → Shared → Prop} (hL : s.heap.IsTuple l items)
    (h : ∀ h', IsEnum h' (s.heap.objs.size + 1) s.heap.objs.size 0 .none → h'.IsTupleIter s.heap.objs.size l 0 → h'.objs.size = s.heap.objs.size + 2 →
      (∀ b o, s.heap.get? b = some o → h'.get? b = some o) → Q (.ref (s.heap.objs.size + 1)) { s with heap := h' }) :
    wpAny (model prog w) A (call (.type "enumerate") [.ref l]) Q E s := by
  obtain ⟨⟨c, dct, dt, sl⟩, hl, hc, n, hd⟩ := hL
  replace hc : c = .type "tuple" := hc
  replace hd : dt = .seq items n := hd
  subst hc hd
  refine callType_new F.called_enumerate (by decide) (F.typeCall_enumerate_1 _) (F.newCall_enumerate_1 _) (fun obj => F.args_object_init_2 obj _) F.entry_enumerate_new
    (meets_enum_newT l items n dct sl) ⟨hl, ?_⟩
  have hz : (s.heap.push { cls := .type "tuple_iterator", data := .fields #[.ref l, .int 0 0] }).objs.size = s.heap.objs.size + 1 := Heap.size_push ..
  show _ ∧ _
  rw [hz]
  have he : IsEnum ((s.heap.push { cls := .type "tuple_iterator", data := .fields #[.ref l, .int 0 0] }).push
      { cls := .type "enumerate", data := .fields #[.none, .bool false, .ref s.heap.objs.size, rawInt 0, .none, .none] }) (s.heap.objs.size + 1) s.heap.objs.size 0 .none := by
    have := Heap.get?_push_size (s.heap.push { cls := .type "tuple_iterator", data := .fields #[.ref l, .int 0 0] })
      (o := { cls := .type "enumerate", data := .fields #[.none, .bool false, .ref s.heap.objs.size, rawInt 0, .none, .none] }) rfl
    rw [hz] at this; exact this
  refine ⟨⟨_, he, rfl⟩, h _ he ⟨_, Heap.get?_push_of_some _ (Heap.get?_push_size _ rfl), rfl, rfl⟩ (by rw [Heap.size_push, hz]) fun b o x => Heap.get?_push_of_some _ (Heap.get?_push_of_some _ x)⟩

def IteT (K : PySem.W.Frag) (a : Addr) : L2.It :=
  ⟨fun i H => ∃ (xs : List V) (x : V), SqT K H a xs ∧ xs[i]? = some x, fun i H v H' => ∃ T x, v = .ref T ∧ H T = none ∧ H' = upd H T (.tup [.int (i : Nat), x]) ∧ ∀ xs, SqT K H a xs → xs[i]? = some x, fun i H => ∃ xs : List V, SqT K H a xs ∧ xs.length ≤ i⟩
theorem turn_enumT {P : Program} {w : World} {K : PySem.W.Frag} {elts : List Expr} {kk : Nat} {tpos : Pos} (a e it : Addr) (hai : a ≠ it) (hae : e ≠ a) :
    Turn P w K (.Tuple elts kk tpos) (IteT K a) [e, it] e (fun i h => (∃ old, IsEnum h e it ((i : Nat) : Int) old) ∧ h.IsTupleIter it a i ∧ e ≠ it) where
  mem := by simp
  obj := fun i h st b hb => by
    obtain ⟨⟨old, he⟩, ⟨o, ho, hc, hd⟩, _⟩ := st
    have e' : b = e ∨ b = it := by simpa using hb
    rcases e' with z | z
    · rw [z]; exact ⟨_, he, fun v q => nomatch q⟩
    · rw [z]; exact ⟨o, ho, fun v q => by rw [hd] at q; cases q⟩
  keep := fun i h h' st k => let ⟨⟨old, he⟩, hi, hne⟩ := st; ⟨⟨old, k e (by simp) _ he⟩, hi.at fun o q => k it (by simp) o q, hne⟩
  item := by
    intro X hP hw hK hc i pins s σ H E I hf st hg
    subst hP hw hK
    obtain ⟨⟨old, he⟩, hit, hne⟩ := st
    obtain ⟨xs, x, hq, hx⟩ := hg
    obtain ⟨its, rv, p, hz⟩ := I.tuple hq
    obtain ⟨u, hu, ru⟩ := rv.get hx
    have hel : e < s.heap.objs.size := Heap.lt_size he
    have hil : it < s.heap.objs.size := by obtain ⟨_, q, _⟩ := hit; exact Heap.lt_size q
    have hsz : i < its.toArray.size := by
      have := (List.getElem?_eq_some_iff.mp hu).1
      simpa using this
    refine wpAny_pyNext_enum_itemD (Draws.tuple (A := X.A.in1) (I.ok.hd hc) it a hai its.toArray) he ⟨hit, p⟩ hsz hne (by simp [hne, hae]) fun y h' tk hy ho hit' hT hsz hk => ?_
    have hyu : y = u := by
      have : its.toArray[i]? = some u := by simpa using hu
      rw [this] at hy
      exact (Option.some.inj hy).symm
    subst hyu
    refine ⟨_, rfl, wpAny_letOwnedTupleGo_enum (s := { s with heap := h', toks := tk + 1 }) ho fun h'' he' sb => ?_⟩
    have hT2 : h''.get? s.heap.objs.size = some { cls := .type "tuple", data := .seq #[.int i tk, y] } := (sb.2 _ (Nat.ne_of_gt hel)).trans hT
    have new : ObjOk X.prog X.w (upd H s.heap.objs.size (.tup [.int (i : Nat), x])) h'' s.heap.objs.size (.tup [.int (i : Nat), x]) :=
      ⟨by show 2 ≤ sizeLine; decide, [.int i tk, y], .cons ⟨_, rfl⟩ (.cons ru .nil), ⟨_, hT2, rfl, _, rfl⟩⟩
    have I1 : Inv X pins σ (upd H s.heap.objs.size (.tup [.int (i : Nat), x])) { s with heap := h'', toks := tk + 1 } :=
      I.turnedNew (ch := [e, it]) (fun b ob hb q => (sb.2 b (fun z => hb (by simp [z]))).trans (hk b ob (fun z => hb (by simp [z])) (fun z => hb (by simp [z])) q)) hf (Nat.le_refl _) new
    refine ⟨.ref s.heap.objs.size, _, I1, rfl, ⟨_, x, rfl, I.hok.fresh (Nat.le_refl _), rfl, fun ys hy => by rw [I.tuple_inj hy hq]; exact hx⟩, ⟨⟨y, ?_⟩, hit'.1.at fun o q => (sb.2 it (Ne.symm hne)).trans q, hne⟩, fun b hb => ?_⟩
    · have e1 : ((i + 1 : Nat) : Int) = (i : Int) + 1 := by omega
      rw [e1]; exact he'
    · have hb' : b < s.heap.objs.size := by
        have e' : b = e ∨ b = it := by simpa using hb
        rcases e' with z | z
        · rw [z]; exact hel
        · rw [z]; exact hil
      rw [upd_ne (Nat.ne_of_lt hb')]
      exact (hf b hb).1
  done := by
    intro X hP hw hK hc i pins s σ H E I hf st hg
    subst hP hw hK
    obtain ⟨⟨old, he⟩, hit, hne⟩ := st
    obtain ⟨xs, hq, hx⟩ := hg
    obtain ⟨its, rv, p, hz⟩ := I.tuple hq
    obtain ⟨f0, f1, f2, f3, f4, f5⟩ := hf it (by simp)
    have hl := rv.length
    have hT : s.TypeIs (.ref e) "enumerate" := ⟨_, he, rfl⟩
    unfold pyNext
    refine wpAny_bind (wpAny_attempt (wpAny_callSpecial?_slot (name := Str.ofString "__next__") hT F.slot_enumerate_next
      (wpAny_call_entry F.slot_enumerate_next hT F.entry_enumerate_next ?_ (F.args_enumerate_next_1 _))))
    show wpAny _ _ (field (.ref e) 2 >>= _) _ _ _
    refine wpAny_bind (wpAny_field he rfl (x := .ref it) rfl ?_)
    refine wpAny_bind (PySem.wpAny_nextOf_tuple_end (I.ok.hd hc) hit (show s.heap.IsTuple a its.toArray from p) (by simp; omega) fun h' x he' hx' => ?_)
    obtain ⟨o, ho, hc⟩ := hx'
    refine wpAny_bind (wpAny_isInstance (T := "StopIteration") (b := true) ⟨o, ho, hc⟩ isSubtype_stop ?_)
    exact wpAny_pure ⟨rfl, I.turned (t' := s.toks) (fun b o hb q => he' b o hb q) f0 f1 f3 f4 f5⟩
  self := fun A i s Q E st h => let ⟨⟨_, he⟩, _⟩ := st; wpAny_pyIter_enum he h
def iEnumT (K : PySem.W.Frag) (ta : TA) : TI := fun σ H R => ta σ H fun vs H1 => ∃ a xs, vs = [.ref a] ∧ ((SqL K H1 a xs ∧ R (Ite K a) H1) ∨ (SqT K H1 a xs ∧ R (IteT K a) H1))
theorem pi_enumA {X : Cx} {e : Expr} {ta : TA} {p pos tpos : Pos} {elts : List Expr} {kk : Nat} (hg : Gl X "enumerate") (hm : X.mg "enumerate" = none) (ha : PA X [e] ta) (hs : starEach [e] X.env = [(false, eval e X.env)] := by rfl) :
    PI X (.Tuple elts kk tpos) (.Call (.Name "enumerate" p) [e] [] pos) (iEnumT X.K ta) := by
  refine ⟨fun pins s σ H R I h => ?_⟩
  refine PyProof.Rows.Call_ (ld_blt I hg hm PyProof.Rows.boot_enumerate (PyProof.Rows.callWith_type1 (thn (ha.run pos pins s σ H _ I h) fun us s1 ⟨vs, H1, I1, r1, q1⟩ => ?_) hs rfl))
  obtain ⟨a, xs, ex, q⟩ := q1
  subst ex
  cases r1 with
  | cons r rr =>
    cases rr
    cases r
    have fp : ∀ b, b ∈ [s1.heap.objs.size + 1, s1.heap.objs.size] → FpOk X pins H1 b := fun b hb => by
      have e' : b = s1.heap.objs.size + 1 ∨ b = s1.heap.objs.size := by simpa using hb
      have hle : s1.heap.objs.size ≤ b := by
        rcases e' with z | z
        · rw [z]; exact Nat.le_add_right _ _
        · rw [z]; exact Nat.le_refl _
      exact I1.fpOk hle (I1.hok.fresh hle)
    rcases q with ⟨hq, q⟩ | ⟨hq, q⟩
    · obtain ⟨its, rv, p', hz⟩ := I1.list hq
      refine call_enumerate_list p'.isList fun h' he hit hsz hk => wpAny_pyIter_enum he ?_
      have I2 : Inv X pins σ H1 { s1 with heap := h' } := I1.kept (t' := s1.toks) hk
      exact ⟨s1.heap.objs.size + 1, [s1.heap.objs.size + 1, s1.heap.objs.size], _, _, H1, rfl, I2, turn_enum a (s1.heap.objs.size + 1) s1.heap.objs.size, ⟨⟨.none, he⟩, hit, Nat.succ_ne_self _⟩, fp, q⟩
    · obtain ⟨its, rv, p', hz⟩ := I1.tuple hq
      have hlt : a < s1.heap.objs.size := by obtain ⟨o, ho, _⟩ := p'; exact Heap.lt_size ho
      refine call_enum_tuple (show s1.heap.IsTuple a its.toArray from p') fun h' he hit hsz hk => wpAny_pyIter_enum he ?_
      have I2 : Inv X pins σ H1 { s1 with heap := h' } := I1.kept (t' := s1.toks) hk
      exact ⟨s1.heap.objs.size + 1, [s1.heap.objs.size + 1, s1.heap.objs.size], _, _, H1, rfl, I2, turn_enumT a (s1.heap.objs.size + 1) s1.heap.objs.size (Nat.ne_of_lt hlt) (Nat.ne_of_gt (Nat.lt_succ_of_lt hlt)), ⟨⟨.none, he⟩, hit, Nat.succ_ne_self _⟩, fp, q⟩
end Mp

/-! Mp3d: targets, what is walked, loops, comprehensions. -/
namespace Mp
open PySem L2

/-! ### targets -/
def gsOf : List Nat → TGs
  | [] => gNil
  | i :: is => gCons (gName i) (gsOf is)
def gOf (K : PySem.W.Frag) : Tg → TG
  | .name i => gName i
  | .tup is => gTup K is.length (gsOf is)
def Tg.ixs : Tg → List Nat
  | .name i => [i]
  | .tup is => is
def XG (X : Cx) (tg : Expr) (t : Tg) : Prop := PG X tg (gOf X.K t)
theorem wipe_set1 (s : L2.St) (i : Nat) (x : Option V) : ∀ vs : List Nat, (wipe (s.set i x) vs).set i none = (wipe s vs).set i none
  | [] => by show (s.set i x).set i none = s.set i none; rw [List.set_set]
  | v :: vs => by
    show ((wipe (s.set i x) vs).set v none).set i none = ((wipe s vs).set v none).set i none
    by_cases h : v = i
    · subst h
      rw [List.set_set, List.set_set]
      exact wipe_set1 s v x vs
    · rw [List.set_comm _ _ h, List.set_comm _ _ h, wipe_set1 s i x vs]
theorem wipe_set (s : L2.St) (i : Nat) (x : Option V) : ∀ vs : List Nat, i ∈ vs → wipe (s.set i x) vs = wipe s vs
  | v :: vs, h => by
    show (wipe (s.set i x) vs).set v none = (wipe s vs).set v none
    rcases List.mem_cons.mp h with e | h
    · subst e; exact wipe_set1 s i x vs
    · rw [wipe_set s i x vs h]
theorem wipe_same (s : L2.St) : ∀ vs : List Nat, wipe (wipe s vs) vs = wipe s vs
  | [] => rfl
  | v :: vs => by
    show (wipe ((wipe s vs).set v none) vs).set v none = (wipe s vs).set v none
    rw [wipe_set1, wipe_same s vs]
section
variable {K : PySem.W.Frag} {r : List Addr} {H : Hp}
theorem gs_run {Q : L2.St → Hp → Prop} : ∀ {is : List Nat} {ps : List PV} {xs : List V} {sg sg' : Sg} {s : L2.St}, RS K r H sg s → RVs K r H ps xs → setAll is ps sg = some sg' →
    (∀ s', RS K r H sg' s' → (∀ vs, (∀ i ∈ is, i ∈ vs) → wipe s' vs = wipe s vs) → Q s' H) → gsOf is xs s H Q
  | [], [], _, sg, sg', s, hs, .nil, e, q => by
    simp only [setAll] at e
    cases e
    exact ⟨rfl, q s hs fun _ _ => rfl⟩
  | i :: is, p :: ps, _, sg, sg', s, hs, .cons h hr, e, q => by
    simp only [setAll] at e
    exact ⟨_, _, rfl, gs_run (hs.set i h) hr e fun s' h1 h2 => q s' h1 fun vs hv => by
      rw [h2 vs fun j hj => hv j (List.mem_cons_of_mem _ hj)]
      exact wipe_set s i _ vs (hv i List.mem_cons_self)⟩
  | [], _ :: _, _, _, _, _, _, _, e, _ => by simp [setAll] at e
  | _ :: _, [], _, _, _, _, _, _, e, _ => by simp [setAll] at e
theorem setAll_len : ∀ {is : List Nat} {ps : List PV} {sg sg' : Sg}, setAll is ps sg = some sg' → is.length = ps.length
  | [], [], _, _, _ => rfl
  | _ :: is, _ :: ps, sg, sg', e => by
    simp only [setAll] at e
    simp [setAll_len e]
  | [], _ :: _, _, _, e => by simp [setAll] at e
  | _ :: _, [], _, _, e => by simp [setAll] at e
theorem g_run {Q : L2.St → Hp → Prop} {t : Tg} {p : PV} {x : V} {sg sg' : Sg} {s : L2.St} (hs : RS K r H sg s) (h : RV K r H p x) (e : tgP t p sg = some sg')
    (q : ∀ s', RS K r H sg' s' → (∀ vs, (∀ i ∈ t.ixs, i ∈ vs) → wipe s' vs = wipe s vs) → Q s' H) : gOf K t x s H Q := by
  cases t with
  | name i =>
    simp only [tgP] at e
    cases e
    exact q _ (hs.set i h) fun vs hv => wipe_set s i _ vs (hv i (by simp [Tg.ixs]))
  | tup is =>
    cases h with
    | @tup ps a xs h1 h2 =>
      simp only [tgP] at e
      exact ⟨a, xs, rfl, h1, by rw [← h2.length, setAll_len e], gs_run hs h2 e q⟩
    | _ => simp [tgP] at e
theorem RS.wipe {sg : Sg} {s : L2.St} (h : RS K r H sg s) : ∀ vs : List Nat, RS K r H (wipeP sg vs) (L2.wipe s vs)
  | [] => h
  | v :: vs => by
    have ih := h.wipe vs
    refine ⟨by simp [wipeP, L2.wipe, ih.len], fun i p e => ?_⟩
    simp only [wipeP] at e
    show ∃ x, ((L2.wipe s vs).set v none)[i]? = some (some x) ∧ _
    by_cases hv : v = i
    · subst hv
      by_cases hl : v < (wipeP sg vs).length
      · rw [List.getElem?_set_self hl] at e; cases e
      · rw [List.getElem?_eq_none (by simpa using hl)] at e; cases e
    · rw [List.getElem?_set_ne hv] at e
      rw [List.getElem?_set_ne hv]
      exact ih.at_ i p e
end
section
variable {X : Cx} {pos : Pos}
theorem xg_name (i : Nat) {x : Str} (hN : X.N.Nodup) (hi : X.N[i]? = some x := by rfl) (hx : Loc X.env.scope x := by first | exact .inl rfl | exact .inr rfl)
    (hf : X.fn x = true ∨ X.env.scope.names.lookup x = some .local := by first | exact .inl rfl | exact .inr rfl | assumption) : XG X (.Name x pos) (.name i) := pg_name hN hi hx hf
def XGs (X : Cx) (es : List Expr) (is : List Nat) : Prop := PGs X es (gsOf is)
theorem xgs_nil : XGs X [] [] := pgs_nil
theorem xgs_cons {e : Expr} {es : List Expr} {i : Nat} {is : List Nat} (h : XG X e (.name i)) (h2 : XGs X es is)
    (hs : (assignEach (e :: es) X.env).map (·.2) = assign e X.env :: (assignEach es X.env).map (·.2) := by rfl) : XGs X (e :: es) (i :: is) := pgs_cons h h2 hs
theorem xg_tup {es : List Expr} {k : Nat} {is : List Nat} (hc : X.calm = true) (h : XGs X es is) (hn : (assignEach es X.env).length = is.length := by rfl) (hst : (assignEach es X.env).findIdx? (·.1) = none := by rfl) :
    XG X (.Tuple es k pos) (.tup is) := pg_tup hc h hn hst
end

/-! ### what is walked -/
def SrcOk (K : PySem.W.Frag) (r0 : List Addr) (H0 : Hp) (s : Src) (J : L2.It) : Prop :=
  ∀ r M H i, Ext r0 r H0 H → RH K r M H → (∀ x, s.get M i = some (some x) → J.go i H ∧ ∀ v H', J.yld i H v H' → Ext r r H H' ∧ RH K r M H' ∧ RV K r H' x v) ∧ (s.get M i = some none → J.stop i H)
def TIv (K : PySem.W.Frag) (f : Sg → Mm → Option (Src × Mm)) : TI := fun s H R => ∃ r sg M src M', RS K r H sg s ∧ RH K r M H ∧ f sg M = some (src, M') ∧ ∀ r' H' J, Ext r r' H H' → RH K r' M' H' → SrcOk K r' H' src J → R J H'
def XI (X : Cx) (cf : CF) (tg iter : Expr) (i : Mp.It) : Prop := PI X tg iter (TIv X.K (evI cf i))
section
variable {K : PySem.W.Frag} {r : List Addr} {H : Hp}
theorem src_tup {a : Addr} {xs : List PV} {vs : List V} (h : SqT K H a vs) (hs : RVs K r H xs vs) : SrcOk K r H (.tup xs) (Itt K a) := by
  intro r' M H' i x hh
  have h' := x.sqT h
  have hs' := hs.ext x
  refine ⟨fun p e => ?_, fun e => ?_⟩
  · simp only [Src.get, Option.some.injEq] at e
    obtain ⟨v, e1, e2⟩ := hs'.get e
    refine ⟨⟨vs, v, h', e1⟩, fun w H2 y => ?_⟩
    obtain ⟨rfl, y⟩ := y
    have := y vs h'
    rw [e1] at this; cases this
    exact ⟨.refl, hh, e2⟩
  · simp only [Src.get, Option.some.injEq] at e
    exact ⟨vs, h', by rw [← hs.length]; exact List.getElem?_eq_none_iff.mp e⟩
theorem src_lst {a : Addr} {n : Nat} (h : r[n]? = some a) : SrcOk K r H (.lst n) (Itl K a) := by
  intro r' M H' i x hh
  have h' := x.at h
  have key : ∀ o, Src.get M (.lst n) i = some o → ∃ xs vs, H' a = some (.lst vs) ∧ RVs K r' H' xs vs ∧ xs[i]? = o := fun o e => by
    simp only [Src.get] at e
    obtain ⟨xs, e1, e2⟩ := Option.map_eq_some_iff.mp e
    obtain ⟨b, vs, g1, g2, g3⟩ := lst_of hh e1
    rw [h'] at g1; cases g1
    exact ⟨xs, vs, g2, g3, e2⟩
  refine ⟨fun p e => ?_, fun e => ?_⟩
  · obtain ⟨xs, vs, g2, g3, e⟩ := key _ e
    obtain ⟨v, e1, e2⟩ := g3.get e
    refine ⟨⟨vs, v, .inl (.inl g2), e1⟩, fun w H2 y => ?_⟩
    obtain ⟨rfl, y⟩ := y
    have := y vs (.inl (.inl g2))
    rw [e1] at this; cases this
    exact ⟨.refl, hh, e2⟩
  · obtain ⟨xs, vs, g2, g3, e⟩ := key _ e
    exact ⟨vs, .inl (.inl g2), by rw [← g3.length]; exact List.getElem?_eq_none_iff.mp e⟩
theorem src_cl {a : Addr} {ns : List Int} (h : CL K H a ns) : SrcOk K r H (.cl ns) (Itl K a) := by
  intro r' M H' i x hh
  have h' := (x.cl h).sq
  refine ⟨fun p e => ?_, fun e => ?_⟩
  · simp only [Src.get, Option.some.injEq] at e
    obtain ⟨v, e1, rfl⟩ := Option.map_eq_some_iff.mp e
    have e1' : (ns.map V.int)[i]? = some (V.int v) := by rw [List.getElem?_map, e1]; rfl
    refine ⟨⟨_, _, h', e1'⟩, fun w H2 y => ?_⟩
    obtain ⟨rfl, y⟩ := y
    have := y _ h'
    rw [e1'] at this; cases this
    exact ⟨.refl, hh, .int v⟩
  · simp only [Src.get, Option.some.injEq] at e
    refine ⟨_, h', ?_⟩
    rw [List.length_map]
    exact List.getElem?_eq_none_iff.mp (Option.map_eq_none_iff.mp e)
theorem src_str {z : Str} : SrcOk K r H (.str z) (Its z) := by
  intro r' M H' i x hh
  refine ⟨fun p e => ?_, fun e => ?_⟩
  · simp only [Src.get, Option.some.injEq] at e
    obtain ⟨c, e1, rfl⟩ := Option.map_eq_some_iff.mp e
    refine ⟨(Array.getElem?_eq_some_iff.mp e1).1, fun w H2 y => ?_⟩
    obtain ⟨rfl, c', y, rfl⟩ := y
    rw [e1] at y; cases y
    exact ⟨.refl, hh, .str _⟩
  · simp only [Src.get, Option.some.injEq] at e
    exact Array.getElem?_eq_none_iff.mp (Option.map_eq_none_iff.mp e)
theorem src_rng {lo : Int} {n : Nat} : SrcOk K r H (.rng lo n) (Itr lo n) := by
  intro r' M H' i x hh
  refine ⟨fun p e => ?_, fun e => ?_⟩
  · simp only [Src.get, Option.some.injEq] at e
    split at e
    · rename_i hi
      cases e
      refine ⟨hi, fun w H2 y => ?_⟩
      obtain ⟨rfl, rfl⟩ := y
      exact ⟨.refl, hh, .int _⟩
    · cases e
  · simp only [Src.get, Option.some.injEq] at e
    split at e
    · cases e
    · rename_i hi; exact Nat.le_of_not_lt hi
theorem pair_rv {T : Addr} {p q : PV} {v u : V} {M : Mm} (hh : RH K r M H) (hT : H T = none) (h1 : RV K r H p v) (h2 : RV K r H q u) :
    Ext r r H (upd H T (.tup [v, u])) ∧ RH K r M (upd H T (.tup [v, u])) ∧ RV K r (upd H T (.tup [v, u])) (.tup [p, q]) (.ref T) := by
  have x := ext_new0 (r := r) (o := .tup [v, u]) hT
  exact ⟨x, hh.other _ hT, .tup (.inl (.inl upd_same)) (.cons (h1.ext x) (.cons (h2.ext x) .nil))⟩
/-- an item's reading and its end, over lists | tuples -/
theorem en_lst {a : Addr} {s : Src} (hs : SrcOk K r H s (Itl K a)) : SrcOk K r H (.en s) (Ite K a) := by
  intro r' M H' i x hh
  obtain ⟨h1, h2⟩ := hs r' M H' i x hh
  refine ⟨fun p e => ?_, fun e => ?_⟩
  · simp only [Src.get] at e
    obtain ⟨o, e1, e2⟩ := Option.map_eq_some_iff.mp e
    obtain ⟨y, rfl, rfl⟩ := Option.map_eq_some_iff.mp e2
    obtain ⟨g, k⟩ := h1 y e1
    refine ⟨g, fun w H2 z => ?_⟩
    obtain ⟨T, u, rfl, hT, rfl, z⟩ := z
    obtain ⟨_, _, k⟩ := k u H' ⟨rfl, z⟩
    exact pair_rv hh hT (.int _) k
  · simp only [Src.get] at e
    obtain ⟨o, e1, e2⟩ := Option.map_eq_some_iff.mp e
    have : o = none := by cases o with | none => rfl | some _ => simp at e2
    subst this
    exact h2 e1
theorem en_tup {a : Addr} {s : Src} (hs : SrcOk K r H s (Itt K a)) : SrcOk K r H (.en s) (IteT K a) := by
  intro r' M H' i x hh
  obtain ⟨h1, h2⟩ := hs r' M H' i x hh
  refine ⟨fun p e => ?_, fun e => ?_⟩
  · simp only [Src.get] at e
    obtain ⟨o, e1, e2⟩ := Option.map_eq_some_iff.mp e
    obtain ⟨y, rfl, rfl⟩ := Option.map_eq_some_iff.mp e2
    obtain ⟨g, k⟩ := h1 y e1
    refine ⟨g, fun w H2 z => ?_⟩
    obtain ⟨T, u, rfl, hT, rfl, z⟩ := z
    obtain ⟨_, _, k⟩ := k u H' ⟨rfl, z⟩
    exact pair_rv hh hT (.int _) k
  · simp only [Src.get] at e
    obtain ⟨o, e1, e2⟩ := Option.map_eq_some_iff.mp e
    have : o = none := by cases o with | none => rfl | some _ => simp at e2
    subst this
    exact h2 e1
theorem zip_inv {M : Mm} {s t : Src} {i : Nat} {o : Option PV} (e : Src.get M (.zip s t) i = some o) :
    (∃ x y, s.get M i = some (some x) ∧ t.get M i = some (some y) ∧ o = some (.tup [x, y])) ∨ (s.get M i = some none ∧ (∃ q, t.get M i = some q) ∧ o = none) ∨ ((∃ q, s.get M i = some (some q)) ∧ t.get M i = some none ∧ o = none) := by
  simp only [Src.get] at e
  split at e
  · rename_i x y e1 e2; cases e; exact .inl ⟨x, y, e1, e2, rfl⟩
  · rename_i y e1 e2; cases e; exact .inr (.inl ⟨e1, ⟨_, e2⟩, rfl⟩)
  · rename_i y e1 e2; cases e; exact .inr (.inr ⟨⟨_, e1⟩, e2, rfl⟩)
  · cases e
/-- a side of a zip: what a get tells of its list | tuple -/
def Side (SQ : Hp → List V → Prop) (K : PySem.W.Frag) (r0 : List Addr) (H0 : Hp) (s : Src) : Prop :=
  ∀ r M H i o, Ext r0 r H0 H → RH K r M H → s.get M i = some o → ∃ vs, SQ H vs ∧ (∀ x, o = some x → ∃ v, vs[i]? = some v ∧ RV K r H x v) ∧ (o = none → vs.length ≤ i)
theorem side_lst {a : Addr} {n : Nat} (h : r[n]? = some a) : Side (fun H => SqL K H a) K r H (.lst n) := by
  intro r' M H' i o x hh e
  simp only [Src.get] at e
  obtain ⟨xs, e1, rfl⟩ := Option.map_eq_some_iff.mp e
  obtain ⟨b, vs, g1, g2, g3⟩ := lst_of hh e1
  rw [x.at h] at g1; cases g1
  exact ⟨vs, .inl (.inl g2), fun p hp => g3.get hp, fun hp => by rw [← g3.length]; exact List.getElem?_eq_none_iff.mp hp⟩
theorem side_cl {a : Addr} {ns : List Int} (h : CL K H a ns) : Side (fun H => SqL K H a) K r H (.cl ns) := by
  intro r' M H' i o x hh e
  simp only [Src.get, Option.some.injEq] at e
  subst e
  refine ⟨_, (x.cl h).sq, fun p hp => ?_, fun hp => ?_⟩
  · obtain ⟨v, e1, rfl⟩ := Option.map_eq_some_iff.mp hp
    exact ⟨.int v, by rw [List.getElem?_map, e1]; rfl, .int v⟩
  · rw [List.length_map]
    exact List.getElem?_eq_none_iff.mp (Option.map_eq_none_iff.mp hp)
theorem side_tup {a : Addr} {xs : List PV} {vs : List V} (h : SqT K H a vs) (hs : RVs K r H xs vs) : Side (fun H => SqT K H a) K r H (.tup xs) := by
  intro r' M H' i o x hh e
  simp only [Src.get, Option.some.injEq] at e
  subst e
  exact ⟨vs, x.sqT h, fun p hp => (hs.ext x).get hp, fun hp => by rw [← hs.length]; exact List.getElem?_eq_none_iff.mp hp⟩
theorem zip_lst {a b : Addr} {s t : Src} (hs : Side (fun H => SqL K H a) K r H s) (ht : Side (fun H => SqL K H b) K r H t) : SrcOk K r H (.zip s t) (Itz K a b) := by
  intro r' M H' i x hh
  refine ⟨fun p e => ?_, fun e => ?_⟩
  · rcases zip_inv e with ⟨y, z, e1, e2, e3⟩ | ⟨_, _, e3⟩ | ⟨_, _, e3⟩ <;> cases e3
    obtain ⟨vs, g1, g2, _⟩ := hs r' M H' i _ x hh e1
    obtain ⟨us, k1, k2, _⟩ := ht r' M H' i _ x hh e2
    obtain ⟨v, v1, v2⟩ := g2 y rfl
    obtain ⟨u, u1, u2⟩ := k2 z rfl
    refine ⟨⟨vs, us, v, u, g1, k1, v1, u1⟩, fun w H2 q => ?_⟩
    obtain ⟨T, v', u', rfl, hT, rfl, q1, q2⟩ := q
    have := q1 vs g1; rw [v1] at this; cases this
    have := q2 us k1; rw [u1] at this; cases this
    exact pair_rv hh hT v2 u2
  · rcases zip_inv e with ⟨y, z, e1, e2, e3⟩ | ⟨e1, ⟨_, e2⟩, _⟩ | ⟨⟨_, e1⟩, e2, _⟩
    · cases e3
    · obtain ⟨vs, g1, _, g2⟩ := hs r' M H' i _ x hh e1
      obtain ⟨us, k1, _, _⟩ := ht r' M H' i _ x hh e2
      exact ⟨vs, us, g1, k1, .inl (g2 rfl)⟩
    · obtain ⟨vs, g1, _, _⟩ := hs r' M H' i _ x hh e1
      obtain ⟨us, k1, _, k2⟩ := ht r' M H' i _ x hh e2
      exact ⟨vs, us, g1, k1, .inr (k2 rfl)⟩
theorem zip_tup {a b : Addr} {s t : Src} (hs : Side (fun H => SqT K H a) K r H s) (ht : Side (fun H => SqT K H b) K r H t) : SrcOk K r H (.zip s t) (RZ.ItzT K a b) := by
  intro r' M H' i x hh
  refine ⟨fun p e => ?_, fun e => ?_⟩
  · rcases zip_inv e with ⟨y, z, e1, e2, e3⟩ | ⟨_, _, e3⟩ | ⟨_, _, e3⟩ <;> cases e3
    obtain ⟨vs, g1, g2, _⟩ := hs r' M H' i _ x hh e1
    obtain ⟨us, k1, k2, _⟩ := ht r' M H' i _ x hh e2
    obtain ⟨v, v1, v2⟩ := g2 y rfl
    obtain ⟨u, u1, u2⟩ := k2 z rfl
    refine ⟨⟨vs, us, v, u, g1, k1, v1, u1⟩, fun w H2 q => ?_⟩
    obtain ⟨T, v', u', rfl, hT, rfl, q1, q2⟩ := q
    have := q1 vs g1; rw [v1] at this; cases this
    have := q2 us k1; rw [u1] at this; cases this
    exact pair_rv hh hT v2 u2
  · rcases zip_inv e with ⟨y, z, e1, e2, e3⟩ | ⟨e1, ⟨_, e2⟩, _⟩ | ⟨⟨_, e1⟩, e2, _⟩
    · cases e3
    · obtain ⟨vs, g1, _, g2⟩ := hs r' M H' i _ x hh e1
      obtain ⟨us, k1, _, _⟩ := ht r' M H' i _ x hh e2
      exact ⟨vs, us, g1, k1, .inl (g2 rfl)⟩
    · obtain ⟨vs, g1, _, _⟩ := hs r' M H' i _ x hh e1
      obtain ⟨us, k1, _, k2⟩ := ht r' M H' i _ x hh e2
      exact ⟨vs, us, g1, k1, .inr (k2 rfl)⟩
end
section
variable {X : Cx} {cf : CF} {tg e e2 : Expr} {i j : E} {pos p : Pos}
theorem xi_seq (h : XE X cf e i) : XI X cf tg e (.seq i) := by
  refine ⟨fun pins s σ H R I q => ?_⟩
  obtain ⟨r, sg, M, src, M', hs, hh, ev, q⟩ := q
  simp only [evI] at ev
  split at ev
  · rename_i x M1 e1
    obtain ⟨s', e2, e3⟩ := Option.map_eq_some_iff.mp ev
    cases e3
    cases x with
    | tup xs =>
      simp only [srcOf] at e2; cases e2
      refine (pi_tup h).run pins s σ H R I ⟨r, sg, M, _, _, hs, hh, e1, fun r1 u H1 x1 h1 v => ?_⟩
      cases v with
      | @tup _ a vs ht hxs => exact ⟨a, rfl, ⟨vs, ht⟩, q r1 H1 _ x1 h1 (src_tup ht hxs)⟩
    | cl ns =>
      simp only [srcOf] at e2; cases e2
      refine (pi_list h).run pins s σ H R I ⟨r, sg, M, _, _, hs, hh, e1, fun r1 u H1 x1 h1 v => ?_⟩
      cases v with
      | @cl _ a hc => exact ⟨a, rfl, ⟨_, hc.sq⟩, q r1 H1 _ x1 h1 (src_cl hc)⟩
    | str z =>
      simp only [srcOf] at e2; cases e2
      refine (pi_str h).run pins s σ H R I ⟨r, sg, M, _, _, hs, hh, e1, fun r1 u H1 x1 h1 v => ?_⟩
      cases v
      exact ⟨z, rfl, q r1 H1 _ x1 h1 src_str⟩
    | ref n =>
      simp only [srcOf] at e2
      obtain ⟨xs, e3, e4⟩ := Option.map_eq_some_iff.mp e2
      cases e4
      refine (pi_list h).run pins s σ H R I ⟨r, sg, M, _, _, hs, hh, e1, fun r1 u H1 x1 h1 v => ?_⟩
      obtain ⟨a, vs, g1, g2, g3⟩ := lst_of h1 e3
      exact ⟨a, v.refAt g1, ⟨vs, .inl (.inl g2)⟩, q r1 H1 _ x1 h1 (src_lst g1)⟩
    | _ => simp [srcOf] at e2
  · cases ev
theorem rngOk_b {i : Int} (h : rngOk i = true) : -(2 ^ 62) ≤ i ∧ i < 2 ^ 62 := by
  obtain ⟨h1, h2⟩ := Bool.and_eq_true_iff.mp h
  exact ⟨of_decide_eq_true h1, of_decide_eq_true h2⟩
theorem xi_rng1 (hg : Gl X "range") (hm : X.mg "range" = none) (h : XE X cf e i) (hs : starEach [e] X.env = [(false, eval e X.env)] := by rfl) : XI X cf tg (.Call (.Name "range" p) [e] [] pos) (.rng1 i) := by
  refine ⟨fun pins s σ H R I q => ?_⟩
  obtain ⟨r, sg, M, src, M', hs', hh, ev, q⟩ := q
  simp only [evI] at ev
  split at ev
  · rename_i k M1 e1
    split at ev
    · rename_i hk
      cases ev
      obtain ⟨b1, b2⟩ := rngOk_b hk
      refine (pi_range1 hg hm (pa_cons h pa_nil hs) hs).run pins s σ H R I ⟨r, sg, M, _, _, hs', hh, e1, fun r1 u H1 x1 h1 v => ?_⟩
      cases v
      exact ⟨k, rfl, b1, b2, q r1 H1 _ x1 h1 src_rng⟩
    · cases ev
  · cases ev
theorem xi_rng2 (hg : Gl X "range") (hm : X.mg "range" = none) (h : XE X cf e i) (h2 : XE X cf e2 j) (hs : starEach [e, e2] X.env = (false, eval e X.env) :: starEach [e2] X.env := by rfl) (hs1 : starEach [e2] X.env = (false, eval e2 X.env) :: starEach [] X.env := by rfl)
    (hpl : (backTo pos (starEach [e2] X.env)).any (·.1) = false := by rfl) : XI X cf tg (.Call (.Name "range" p) [e, e2] [] pos) (.rng2 i j) := by
  refine ⟨fun pins s σ H R I q => ?_⟩
  obtain ⟨r, sg, M, src, M', hs', hh, ev, q⟩ := q
  simp only [evI] at ev
  split at ev
  · rename_i k M1 e1
    split at ev
    · rename_i l M2 e2
      split at ev
      · rename_i hk
        cases ev
        obtain ⟨k1, k2⟩ := Bool.and_eq_true_iff.mp hk
        obtain ⟨b1, b2⟩ := rngOk_b k1
        obtain ⟨b3, b4⟩ := rngOk_b k2
        refine (pi_range2 hg hm (pa_cons h (pa_cons h2 pa_nil hs1) hs) (by rw [hs, hs1]; rfl) (by rw [hs1]; rfl)).run pins s σ H R I ⟨r, sg, M, _, _, hs', hh, e1, fun r1 u H1 x1 h1 v => ⟨r1, sg, M1, _, _, hs'.ext x1, h1, e2, fun r2 u2 H2 x2 h2 v2 => ?_⟩⟩
        cases v
        cases v2
        exact ⟨k, l, rfl, ⟨b1, b2, b3, b4⟩, q r2 H2 _ (x1.trans x2) h2 src_rng⟩
      · cases ev
    · cases ev
  · cases ev
theorem xi_enum {elts : List Expr} {kk : Nat} {tpos : Pos} (hg : Gl X "enumerate") (hm : X.mg "enumerate" = none) (h : XE X cf e i) (hs : starEach [e] X.env = [(false, eval e X.env)] := by rfl) : XI X cf (.Tuple elts kk tpos) (.Call (.Name "enumerate" p) [e] [] pos) (.enum i) := by
  refine ⟨fun pins s σ H R I q => ?_⟩
  obtain ⟨r, sg, M, src, M', hs', hh, ev, q⟩ := q
  simp only [evI] at ev
  split at ev
  · rename_i x M1 e1
    split at ev
    · rename_i s' e2
      split at ev
      · rename_i hk
        cases ev
        refine (pi_enumA hg hm (pa_cons h pa_nil hs) hs).run pins s σ H R I ⟨r, sg, M, _, _, hs', hh, e1, fun r1 u H1 x1 h1 v => ?_⟩
        cases v with
        | @tup xs a vs ht hxs => simp only [srcOf] at e2; cases e2; exact ⟨a, vs, rfl, .inr ⟨ht, q r1 H1 _ x1 h1 (en_tup (src_tup ht hxs))⟩⟩
        | @cl ns a hc => simp only [srcOf] at e2; cases e2; exact ⟨a, _, rfl, .inl ⟨hc.sq, q r1 H1 _ x1 h1 (en_lst (src_cl hc))⟩⟩
        | @ref n a hn =>
          simp only [srcOf] at e2
          obtain ⟨xs, e3, e4⟩ := Option.map_eq_some_iff.mp e2
          cases e4
          obtain ⟨b, vs, g1, g2, g3⟩ := lst_of h1 e3
          rw [hn] at g1; cases g1
          exact ⟨a, vs, rfl, .inl ⟨.inl (.inl g2), q r1 H1 _ x1 h1 (en_lst (src_lst hn))⟩⟩
        | str z => simp only [srcOf] at e2; cases e2; simp [Src.isL, Src.isT] at hk
        | _ => simp [srcOf] at e2
      · cases ev
    · cases ev
  · cases ev
theorem side_of {K : PySem.W.Frag} {r : List Addr} {H : Hp} {M : Mm} {x : PV} {u : V} {s : Src} (hh : RH K r M H) (v : RV K r H x u) (e : srcOf M x = some s) :
    (s.isL = true → ∃ a vs, u = .ref a ∧ SqL K H a vs ∧ Side (fun H => SqL K H a) K r H s) ∧ (s.isT = true → ∃ a vs, u = .ref a ∧ SqT K H a vs ∧ Side (fun H => SqT K H a) K r H s) := by
  cases v with
  | @tup xs a vs ht hxs => simp only [srcOf] at e; cases e; exact ⟨fun z => by simp [Src.isL] at z, fun _ => ⟨a, vs, rfl, ht, side_tup ht hxs⟩⟩
  | @cl ns a hc => simp only [srcOf] at e; cases e; exact ⟨fun _ => ⟨a, _, rfl, hc.sq, side_cl hc⟩, fun z => by simp [Src.isT] at z⟩
  | @ref n a hn =>
    simp only [srcOf] at e
    obtain ⟨xs, e3, e4⟩ := Option.map_eq_some_iff.mp e
    cases e4
    obtain ⟨b, vs, g1, g2, g3⟩ := lst_of hh e3
    rw [hn] at g1; cases g1
    exact ⟨fun _ => ⟨a, vs, rfl, .inl (.inl g2), side_lst hn⟩, fun z => by simp [Src.isT] at z⟩
  | str z => simp only [srcOf] at e; cases e; exact ⟨fun z => by simp [Src.isL] at z, fun z => by simp [Src.isT] at z⟩
  | _ => simp [srcOf] at e
theorem xi_zip {elts : List Expr} {kk : Nat} {tpos : Pos} (hg : Gl X "zip") (hm : X.mg "zip" = none) (h : XE X cf e i) (h2 : XE X cf e2 j) (hs : starEach [e, e2] X.env = (false, eval e X.env) :: starEach [e2] X.env := by rfl) (hs1 : starEach [e2] X.env = (false, eval e2 X.env) :: starEach [] X.env := by rfl)
    (hpl : (backTo pos (starEach [e2] X.env)).any (·.1) = false := by rfl) : XI X cf (.Tuple elts kk tpos) (.Call (.Name "zip" p) [e, e2] [] pos) (.zip i j) := by
  refine ⟨fun pins s σ H R I q => ?_⟩
  obtain ⟨r, sg, M, src, M', hs', hh, ev, q⟩ := q
  simp only [evI] at ev
  split at ev
  · rename_i x M1 e1
    split at ev
    · rename_i y M2 e2
      split at ev
      · rename_i s1 s2 e3 e4
        split at ev
        · rename_i hk
          cases ev
          refine (RZ.pi_zipA hg hm (pa_cons h (pa_cons h2 pa_nil hs1) hs) hs hpl).run pins s σ H R I ⟨r, sg, M, _, _, hs', hh, e1, fun r1 u H1 x1 h1 v => ⟨r1, sg, M1, _, _, hs'.ext x1, h1, e2, fun r2 u2 H2 x2 h2 v2 => ?_⟩⟩
          obtain ⟨a1, a2⟩ := side_of h2 (v.ext x2) e3
          obtain ⟨b1, b2⟩ := side_of h2 v2 e4
          rcases Bool.or_eq_true_iff.mp hk with hk | hk
          · obtain ⟨k1, k2⟩ := Bool.and_eq_true_iff.mp hk
            obtain ⟨a, vs, rfl, ha, sa⟩ := a1 k1
            obtain ⟨b, us, rfl, hb, sb⟩ := b1 k2
            exact ⟨a, b, vs, us, rfl, .inl ⟨ha, hb, q r2 H2 _ (x1.trans x2) h2 (zip_lst sa sb)⟩⟩
          · obtain ⟨k1, k2⟩ := Bool.and_eq_true_iff.mp hk
            obtain ⟨a, vs, rfl, ha, sa⟩ := a2 k1
            obtain ⟨b, us, rfl, hb, sb⟩ := b2 k2
            exact ⟨a, b, vs, us, rfl, .inr ⟨ha, hb, q r2 H2 _ (x1.trans x2) h2 (zip_tup sa sb)⟩⟩
        · cases ev
      · cases ev
    · cases ev
  · cases ev
end
end Mp

/-! Mp3e: statements, loops, comprehensions. -/
namespace Mp
open PySem L2

def PostS (K : PySem.W.Frag) (r : List Addr) (H : Hp) (fl : Fl) (M' : Mm) (D : Ends) : Prop := ∀ r' H', Ext r r' H H' → RH K r' M' H' →
  match fl with
  | .nx sg => ∀ s', RS K r' H' sg s' → D.nx s' H'
  | .brk sg => ∀ s', RS K r' H' sg s' → D.bk s' H'
  | .ct sg => ∀ s', RS K r' H' sg s' → D.ct s' H'
  | .ret v => ∀ u, RV K r' H' v u → D.rt u H'
def TSv (K : PySem.W.Frag) (f : Sg → Mm → Option (Fl × Mm)) : TS := fun D s H => ∃ r sg M fl M', RS K r H sg s ∧ RH K r M H ∧ f sg M = some (fl, M') ∧ PostS K r H fl M' D
def XS (X : Cx) (cf : CF) (st : Stmt) (i : S) : Prop := PS X st (TSv X.K (evS cf i))
def XSs (X : Cx) (cf : CF) (sts : List Stmt) (i : Ss) : Prop := PSs X sts (TSv X.K (evSs cf i))
theorem ps_imp {X : Cx} {st : Stmt} {t t' : TS} (h : PS X st t) (k : ∀ D s H, t' D s H → t D s H) : PS X st t' := ⟨fun pins s σ H D I q => h.run pins s σ H D I (k _ _ _ q)⟩
theorem pss_imp {X : Cx} {st : List Stmt} {t t' : TS} (h : PSs X st t) (k : ∀ D s H, t' D s H → t D s H) : PSs X st t' := ⟨fun pins s σ H D I q => h.run pins s σ H D I (k _ _ _ q)⟩

section
variable {X : Cx} {cf : CF} {e a b c o tg iter : Expr} {st : Stmt} {sts sts2 : List Stmt} {i ia ib ic : E} {is : S} {iss iss2 : Ss} {pos : Pos}
theorem xs_ret (h : XE X cf e i) : XS X cf (.Return (some e) pos) (.ret i) := by
  refine ps_imp (ps_ret h) fun D s H q => ?_
  obtain ⟨r, sg, M, fl, M', hs, hh, ev, q⟩ := q
  simp only [evS] at ev
  split at ev
  · rename_i x M1 e1
    cases ev
    exact ⟨r, sg, M, x, _, hs, hh, e1, fun r1 u H1 x1 h1 v => q r1 H1 x1 h1 u v⟩
  · cases ev
theorem xs_retN : XS X cf (.Return none pos) (.ret (.con .non)) := by
  refine ps_imp ps_retN fun D s H q => ?_
  obtain ⟨r, sg, M, fl, M', hs, hh, ev, q⟩ := q
  simp only [evS, evE] at ev
  cases ev
  exact q r H .refl hh _ .non
theorem xs_pass : XS X cf (.Pass pos) .pass := by
  refine ps_imp ps_pass fun D s H q => ?_
  obtain ⟨r, sg, M, fl, M', hs, hh, ev, q⟩ := q
  simp only [evS] at ev
  cases ev
  exact q r H .refl hh s hs
theorem xs_brk : XS X cf (.Break pos) .brk := by
  refine ps_imp ps_break fun D s H q => ?_
  obtain ⟨r, sg, M, fl, M', hs, hh, ev, q⟩ := q
  simp only [evS] at ev
  cases ev
  exact q r H .refl hh s hs
theorem xs_cnt : XS X cf (.Continue pos) .cnt := by
  refine ps_imp ps_continue fun D s H q => ?_
  obtain ⟨r, sg, M, fl, M', hs, hh, ev, q⟩ := q
  simp only [evS] at ev
  cases ev
  exact q r H .refl hh s hs
theorem xs_stuck : XS X cf st .stuck := by
  refine ps_imp ps_never fun D s H q => ?_
  obtain ⟨r, sg, M, fl, M', hs, hh, ev, q⟩ := q
  simp only [evS] at ev
  cases ev
theorem xs_exp (h : XE X cf e i) (hw : swapsWith e none pos.line X.env = pure false := by rfl) : XS X cf (.Expr e pos) (.exp i) := by
  refine ps_imp (ps_expr h hw) fun D s H q => ?_
  obtain ⟨r, sg, M, fl, M', hs, hh, ev, q⟩ := q
  simp only [evS] at ev
  split at ev
  · rename_i x M1 e1
    cases ev
    exact ⟨r, sg, M, x, _, hs, hh, e1, fun r1 u H1 x1 h1 v => q r1 H1 x1 h1 s (hs.ext x1)⟩
  · cases ev
theorem asg_red {D : Ends} {s : L2.St} {H : Hp} {t : Tg} (q : TSv X.K (evS cf (.asg t i)) D s H) : tAsg (TEv X.K (evE cf i)) (gOf X.K t) D s H := by
  obtain ⟨r, sg, M, fl, M', hs, hh, ev, q⟩ := q
  simp only [evS] at ev
  split at ev
  · rename_i x M1 e1
    obtain ⟨sg1, e2, e3⟩ := Option.map_eq_some_iff.mp ev
    cases e3
    exact ⟨r, sg, M, x, _, hs, hh, e1, fun r1 u H1 x1 h1 v => g_run (hs.ext x1) v e2 fun s' h2 _ => q r1 H1 x1 h1 s' h2⟩
  · cases ev
theorem xs_asg {t : Tg} (h : XE X cf e i) (hg : XG X tg t) (h1 : swapsWithSole [tg] e pos.line X.env = pure false := by rfl) (h2 : swappedStores [tg] e X.env = pure none := by rfl)
    (h3 : (assignEach [tg] X.env).map (·.2) = [assign tg X.env] := by rfl) : XS X cf (.Assign [tg] e pos) (.asg t i) :=
  ps_imp (ps_asg h hg h1 h2 h3) fun D s H q => asg_red q
theorem xs_if (hc : XT X cf c ic) (ha : XSs X cf sts iss) (hb : XSs X cf sts2 iss2) : XS X cf (.If c sts sts2 pos) (.iff ic iss iss2) := by
  refine ps_imp (ps_if hc ha hb) fun D s H q => ?_
  obtain ⟨r, sg, M, fl, M', hs, hh, ev, q⟩ := q
  simp only [evS] at ev
  split at ev
  · rename_i M1 e1
    exact ⟨r, sg, M, _, _, hs, hh, e1, fun r1 H1 x1 h1 => iteT ⟨r1, sg, M1, fl, M', hs.ext x1, h1, ev, fun r2 H2 x2 h2 => q r2 H2 (x1.trans x2) h2⟩⟩
  · rename_i M1 e1
    exact ⟨r, sg, M, _, _, hs, hh, e1, fun r1 H1 x1 h1 => iteF ⟨r1, sg, M1, fl, M', hs.ext x1, h1, ev, fun r2 H2 x2 h2 => q r2 H2 (x1.trans x2) h2⟩⟩
  · cases ev
theorem xss_nil : XSs X cf [] .nil := by
  refine pss_imp pss_nil fun D s H q => ?_
  obtain ⟨r, sg, M, fl, M', hs, hh, ev, q⟩ := q
  simp only [evSs] at ev
  cases ev
  exact q r H .refl hh s hs
theorem xss_cons (h : XS X cf st is) (h2 : XSs X cf sts iss) : XSs X cf (st :: sts) (.cons is iss) := by
  refine pss_imp (pss_cons h h2) fun D s H q => ?_
  obtain ⟨r, sg, M, fl, M', hs, hh, ev, q⟩ := q
  simp only [evSs] at ev
  cases e1 : evS cf is sg M with
  | none => rw [e1] at ev; cases ev
  | some p =>
    obtain ⟨f1, M1⟩ := p
    rw [e1] at ev
    refine ⟨r, sg, M, f1, M1, hs, hh, e1, fun r1 H1 x1 h1 => ?_⟩
    cases f1 with
    | nx sg1 => exact fun s' h3 => ⟨r1, sg1, M1, fl, M', h3, h1, ev, fun r2 H2 x2 h2 => q r2 H2 (x1.trans x2) h2⟩
    | brk sg1 => cases ev; exact q r1 H1 x1 h1
    | ct sg1 => cases ev; exact q r1 H1 x1 h1
    | ret v => cases ev; exact q r1 H1 x1 h1

/-! ### loops -/
theorem xs_for {t : Tg} {it : Mp.It} (hp : PassesOwn (model X.prog X.w) X.A X.env X.xe) (hc : X.calm = true) (hi : XI X cf tg iter it) (hg : XG X tg t) (hb : XSs X cf sts iss)
    (hs : ∀ x, foldedSetIterable iter X.env x = pure x := by intro _; rfl) : XS X cf (.For tg iter sts [] pos) (.for_ t it iss) := by
  refine ps_imp (ps_for hp hc hi hg hb hs) fun D s H q => ?_
  obtain ⟨r, sg, M, fl, M', hs, hh, ev, q⟩ := q
  simp only [evS] at ev
  split at ev
  · rename_i src M1 e1
    refine ⟨r, sg, M, src, M1, hs, hh, e1, fun r1 H1 J x1 h1 ok => ?_⟩
    refine ⟨fun i m s H => ∃ r2 sg2 M2, Ext r1 r2 H1 H ∧ RS X.K r2 H sg2 s ∧ RH X.K r2 M2 H ∧ forL src (tgP t) (fun sg M => evSs cf iss sg M) m i sg2 M2 = some (fl, M'), ⟨bigN, r1, sg, M1, .refl, hs.ext x1, h1, ev⟩, ?_⟩
    rintro i m s2 H2 ⟨r2, sg2, M2, x2, hs2, h2, ev2⟩
    cases m with
    | zero => simp only [forL] at ev2; cases ev2
    | succ m =>
      simp only [forL] at ev2
      obtain ⟨o1, o2⟩ := ok r2 M2 H2 i x2 h2
      cases eg : src.get M2 i with
      | none => rw [eg] at ev2; cases ev2
      | some og =>
        rw [eg] at ev2
        cases og with
        | none => cases ev2; exact .inl ⟨o2 eg, q r2 H2 (x1.trans x2) h2 s2 hs2⟩
        | some x =>
          obtain ⟨g1, g2⟩ := o1 x eg
          refine .inr ⟨g1, fun s' H' => ∃ r3 sg3 M3, Ext r1 r3 H1 H' ∧ RS X.K r3 H' sg3 s' ∧ RH X.K r3 M3 H' ∧ forL src (tgP t) (fun sg M => evSs cf iss sg M) m (i + 1) sg3 M3 = some (fl, M'), fun s' H' ⟨r3, sg3, M3, k⟩ => ⟨m, Nat.lt_succ_self m, r3, sg3, M3, k⟩, fun v H3 y => ?_⟩
          obtain ⟨x3, h3, v3⟩ := g2 v H3 y
          simp only at ev2
          cases eb : tgP t x sg2 with
          | none => rw [eb] at ev2; cases ev2
          | some sg3 =>
            rw [eb] at ev2
            refine g_run (hs2.ext x3) v3 eb fun s4 hs4 _ => ?_
            simp only at ev2
            cases ec : evSs cf iss sg3 M2 with
            | none => rw [ec] at ev2; cases ev2
            | some p =>
              obtain ⟨f4, M4⟩ := p
              rw [ec] at ev2
              refine ⟨r2, sg3, M2, f4, M4, hs4, h3, ec, fun r5 H5 x5 h5 => ?_⟩
              cases f4 with
              | nx sg5 => exact fun s' k => ⟨r5, sg5, M4, (x2.trans x3).trans x5, k, h5, ev2⟩
              | ct sg5 => exact fun s' k => ⟨r5, sg5, M4, (x2.trans x3).trans x5, k, h5, ev2⟩
              | brk sg5 => cases ev2; exact fun s' k => q r5 H5 (x1.trans ((x2.trans x3).trans x5)) h5 s' k
              | ret w => cases ev2; exact fun u k => q r5 H5 (x1.trans ((x2.trans x3).trans x5)) h5 u k
  · cases ev
theorem xs_whl (hp : PassesOwn (model X.prog X.w) X.A X.env X.xe) (hc : XT X cf c ic) (hb : XSs X cf sts iss) : XS X cf (.While c sts [] pos) (.whl ic iss) := by
  refine ps_imp (ps_while hp hc hb) fun D s H q => ?_
  obtain ⟨r, sg, M, fl, M', hs, hh, ev, q⟩ := q
  simp only [evS] at ev
  refine ⟨fun m s H2 => ∃ r2 sg2 M2, Ext r r2 H H2 ∧ RS X.K r2 H2 sg2 s ∧ RH X.K r2 M2 H2 ∧ whlL (fun sg M => evE cf ic sg M) (fun sg M => evSs cf iss sg M) m sg2 M2 = some (fl, M'), ⟨bigN, r, sg, M, .refl, hs, hh, ev⟩, ?_⟩
  rintro m s2 H2 ⟨r2, sg2, M2, x2, hs2, h2, ev2⟩
  cases m with
  | zero => simp only [whlL] at ev2; cases ev2
  | succ m =>
    simp only [whlL] at ev2
    split at ev2
    · rename_i M3 e3
      refine ⟨r2, sg2, M2, _, _, hs2, h2, e3, fun r3 H3 x3 h3 => iteT ⟨fun s' H' => ∃ r4 sg4 M4, Ext r r4 H H' ∧ RS X.K r4 H' sg4 s' ∧ RH X.K r4 M4 H' ∧ whlL (fun sg M => evE cf ic sg M) (fun sg M => evSs cf iss sg M) m sg4 M4 = some (fl, M'), fun s' H' ⟨r4, sg4, M4, k⟩ => ⟨m, Nat.lt_succ_self m, r4, sg4, M4, k⟩, ?_⟩⟩
      cases ec : evSs cf iss sg2 M3 with
      | none => rw [ec] at ev2; cases ev2
      | some p =>
        obtain ⟨f4, M4⟩ := p
        rw [ec] at ev2
        refine ⟨r3, sg2, M3, f4, M4, hs2.ext x3, h3, ec, fun r5 H5 x5 h5 => ?_⟩
        cases f4 with
        | nx sg5 => exact fun s' k => ⟨r5, sg5, M4, (x2.trans x3).trans x5, k, h5, ev2⟩
        | ct sg5 => exact fun s' k => ⟨r5, sg5, M4, (x2.trans x3).trans x5, k, h5, ev2⟩
        | brk sg5 => cases ev2; exact fun s' k => q r5 H5 ((x2.trans x3).trans x5) h5 s' k
        | ret w => cases ev2; exact fun u k => q r5 H5 ((x2.trans x3).trans x5) h5 u k
    · rename_i M3 e3
      cases ev2
      exact ⟨r2, sg2, M2, _, _, hs2, h2, e3, fun r3 H3 x3 h3 => iteF (q r3 H3 (x2.trans x3) h3 s2 (hs2.ext x3))⟩
    · cases ev2

/-! ### comprehensions -/
def XTs (X : Cx) (cf : CF) (ifs : List Expr) (i : E) : Prop := PTs X ifs (TTv X.K (evE cf i))
theorem xts_nil : XTs X cf [] (.con (.bl true)) := by
  refine ⟨fun pins s σ H Q I q => pts_nil.run pins s σ H Q I ?_⟩
  obtain ⟨r, sg, M, b, M', hs, hh, e, q⟩ := q
  simp only [evE] at e
  cases e
  exact q r H .refl hh
theorem xts_one (h : XT X cf c ic) : XTs X cf [c] ic := pts_one h
theorem lc_red {K : PySem.W.Frag} {s : L2.St} {H : Hp} {Q : VK} {t : Tg} {it : Mp.It} {vs : List Nat} (ht : ∀ j ∈ t.ixs, j ∈ vs) (q : TEv K (evE cf (.lc vs t it ic i)) s H Q) :
    tLc (TIv K (evI cf it)) (gOf K t) (TTv K (evE cf ic)) (TEv K (evE cf i)) vs s H Q := by
  obtain ⟨r, sg, M, z, M', hs, hh, ev, q⟩ := q
  simp only [evE] at ev
  split at ev
  · rename_i src M1 e1
    obtain ⟨Mx, ev, ez⟩ := Option.map_eq_some_iff.mp ev
    cases ez
    refine ⟨r, sg, M, src, M1, hs, hh, e1, fun r1 H1 J x1 h1 ok D hD => ?_⟩
    have hx : Ext r1 (r1 ++ [D]) H1 (upd H1 D (.lst [])) := ext_new hD [D]
    have hn : RH K (r1 ++ [D]) (M1 ++ [.lst []]) (upd H1 D (.lst [])) := h1.new hD ⟨[], upd_same, .nil⟩
    have hd : (r1 ++ [D])[M1.length]? = some D := by rw [← h1.len]; simp
    refine ⟨fun k m H => ∃ r2 M2, Ext (r1 ++ [D]) r2 (upd H1 D (.lst [])) H ∧ RH K r2 M2 H ∧ lcL src (tgP t) (fun sg M => evE cf ic sg M) (fun sg M => evE cf i sg M) M1.length (wipeP sg vs) m k M2 = some M', ⟨bigN, r1 ++ [D], _, .refl, hn, ev⟩, ?_⟩
    rintro k m H2 ⟨r2, M2, x2, h2, ev2⟩
    cases m with
    | zero => simp only [lcL] at ev2; cases ev2
    | succ m =>
      simp only [lcL] at ev2
      obtain ⟨o1, o2⟩ := ok r2 M2 H2 k (hx.trans x2) h2
      have xs2 : Ext r r2 H H2 := x1.trans (hx.trans x2)
      cases eg : src.get M2 k with
      | none => rw [eg] at ev2; cases ev2
      | some og =>
        rw [eg] at ev2
        cases og with
        | none => cases ev2; exact .inl ⟨o2 eg, q r2 _ H2 xs2 h2 (.ref (x2.at hd))⟩
        | some x =>
          obtain ⟨g1, g2⟩ := o1 x eg
          refine .inr ⟨g1, fun H' => ∃ r3 M3, Ext (r1 ++ [D]) r3 (upd H1 D (.lst [])) H' ∧ RH K r3 M3 H' ∧ lcL src (tgP t) (fun sg M => evE cf ic sg M) (fun sg M => evE cf i sg M) M1.length (wipeP sg vs) m (k + 1) M3 = some M', fun H' ⟨r3, M3, w⟩ => ⟨m, Nat.lt_succ_self m, r3, M3, w⟩, fun v H3 y => ?_⟩
          obtain ⟨x3, h3, v3⟩ := g2 v H3 y
          simp only at ev2
          cases eb : tgP t x (wipeP sg vs) with
          | none => rw [eb] at ev2; cases ev2
          | some sg3 =>
            rw [eb] at ev2
            refine g_run (((hs.ext xs2).ext x3).wipe vs) v3 eb fun s4 hs4 hw => ⟨by rw [hw vs ht, wipe_same], ?_⟩
            simp only at ev2
            split at ev2
            · rename_i M4 e4
              refine ⟨r2, sg3, M2, _, _, hs4, h3, e4, fun r5 H5 x5 h5 => iteT ?_⟩
              cases e5 : evE cf i sg3 M4 with
              | none => rw [e5] at ev2; cases ev2
              | some p =>
                obtain ⟨y, M6⟩ := p
                rw [e5] at ev2
                refine ⟨r5, sg3, M4, y, M6, hs4.ext x5, h5, e5, fun r7 u7 H7 x7 h7 v7 => ?_⟩
                simp only at ev2
                cases e8 : lstAt M6 M1.length with
                | none => rw [e8] at ev2; cases ev2
                | some acc =>
                  rw [e8] at ev2
                  simp only at ev2
                  split at ev2
                  · rename_i hl
                    obtain ⟨a, ws, k1, k2, k3⟩ := lst_of h7 e8
                    have x27 : Ext (r1 ++ [D]) r7 (upd H1 D (.lst [])) H7 := ((x2.trans x3).trans x5).trans x7
                    rw [x27.at hd] at k1; cases k1
                    have xe := ext_set (r := r7) (o := .lst (ws ++ [u7])) k2 trivial (List.mem_of_getElem? (x27.at hd))
                    exact ⟨ws, k2, by rw [← k3.length]; exact hl, r7, _, x27.trans xe, h7.set (o := .lst (acc ++ [y])) (x27.at hd) ⟨_, upd_same, (k3.append (.cons v7 .nil)).ext xe⟩, ev2⟩
                  · cases ev2
            · rename_i M4 e4
              exact ⟨r2, sg3, M2, _, _, hs4, h3, e4, fun r5 H5 x5 h5 => iteF ⟨r5, M4, (x2.trans x3).trans x5, h5, ev2⟩⟩
            · cases ev2
  · cases ev
section
variable {elt : Expr} {ifs : List Expr} {scope : Scope} {own : List (Str × Nat)} {t : Tg} {it : Mp.It}
theorem xe_lc (hc : X.calm = true) (hN : X.N.Nodup) (hi : XI X cf tg iter it) (ok : BlkOk X.N X.env.scope scope own)
    (hg : ∀ (s : Shared) (H : Hp) (C : Addr) (cl : List (Str × Addr)) (fp : List Addr), XG (X.blk s H scope (compEnvC scope cl C X.env) fp) tg t) (ht : ∀ (s : Shared) (H : Hp) (C : Addr) (cl : List (Str × Addr)) (fp : List Addr), XTs (X.blk s H scope (compEnvC scope cl C X.env) fp) cf ifs ic)
    (he : ∀ (s : Shared) (H : Hp) (C : Addr) (cl : List (Str × Addr)) (fp : List Addr), XE (X.blk s H scope (compEnvC scope cl C X.env) fp) cf elt i) (hx : ∀ j ∈ t.ixs, j ∈ own.map (·.2)) (hs : ∀ x, foldedSetIterable iter X.env x = pure x := by intro _; rfl) :
    XE X cf (.ListComp elt [⟨tg, iter, ifs, 0⟩] scope pos) (.lc (own.map (·.2)) t it ic i) :=
  pe_imp (pe_lc (g := gOf X.K t) (tt := TTv X.K (evE cf ic)) (te := TEv X.K (evE cf i)) hc hN hi ok hg ht he hs) fun s H Q q => lc_red hx q
theorem xs_setLc {n : Nat} {y : Str} {py spos : Pos} (hc : X.calm = true) (hN : X.N.Nodup) (hy : X.N[n]? = some y) (hyl : X.env.scope.names.lookup y = some .local)
    (hsw : swapsWith (.ListComp elt [⟨tg, iter, ifs, 0⟩] scope pos) (some (.Name y py)) spos.line X.env = pure true) (hi : XI X cf tg iter it) (ok : BlkOk X.N X.env.scope scope own)
    (hg : ∀ (s : Shared) (H : Hp) (C : Addr) (cl : List (Str × Addr)) (fp : List Addr), XG (X.blk s H scope (compEnvC scope cl C X.env) fp) tg t) (ht : ∀ (s : Shared) (H : Hp) (C : Addr) (cl : List (Str × Addr)) (fp : List Addr), XTs (X.blk s H scope (compEnvC scope cl C X.env) fp) cf ifs ic)
    (he : ∀ (s : Shared) (H : Hp) (C : Addr) (cl : List (Str × Addr)) (fp : List Addr), XE (X.blk s H scope (compEnvC scope cl C X.env) fp) cf elt i) (hx : ∀ j ∈ t.ixs, j ∈ own.map (·.2)) (hs : ∀ x, foldedSetIterable iter X.env x = pure x := by intro _; rfl) :
    XS X cf (.Assign [.Name y py] (.ListComp elt [⟨tg, iter, ifs, 0⟩] scope pos) spos) (.asg (.name n) (.lc (own.map (·.2)) t it ic i)) := by
  refine ps_imp (ps_setLc (g := gOf X.K t) (tt := TTv X.K (evE cf ic)) (te := TEv X.K (evE cf i)) hc hN hy hyl hsw hi ok hg ht he hs) fun D s H q => ?_
  have := asg_red (X := X) (t := .name n) q
  exact lc_red hx this
end
end
end Mp

/-! Mp3f: stores, methods, dict displays, isinstance, calls, defs. -/
namespace Mp
open PySem L2

def RSt (K : PySem.W.Frag) : TSet := fun o i v H Q => ∃ r M po pi pv M', RH K r M H ∧ RV K r H po o ∧ RV K r H pi i ∧ RV K r H pv v ∧ stoP M po pi pv = some M' ∧ ∀ r' H', Ext r r' H H' → RH K r' M' H' → Q H'
theorem putM_ok {K : PySem.W.Frag} {r : List Addr} {H : Hp} {k : Key} {p : PV} {v : V} (h : RV K r H p v) : ∀ {kvs : List (Key × PV)} {vs : List (Key × V)}, vs.map (·.1) = kvs.map (·.1) → RVs K r H (kvs.map (·.2)) (vs.map (·.2)) →
    (vs.map fun kv => if kv.1 = k then (kv.1, v) else kv).map (·.1) = (kvs.map fun kv => if kv.1 = k then (kv.1, p) else kv).map (·.1) ∧
      RVs K r H ((kvs.map fun kv => if kv.1 = k then (kv.1, p) else kv).map (·.2)) ((vs.map fun kv => if kv.1 = k then (kv.1, v) else kv).map (·.2))
  | [], [], _, _ => ⟨rfl, .nil⟩
  | [], _ :: _, e, _ => by simp at e
  | _ :: _, [], e, _ => by simp at e
  | (k1, p1) :: kvs, (k2, v2) :: vs, e, hs => by
    simp only [List.map_cons, List.cons.injEq] at e
    obtain ⟨e1, e2⟩ := e
    have e1 : k2 = k1 := e1
    subst e1
    cases hs with
    | cons h1 hs =>
      obtain ⟨i1, i2⟩ := putM_ok (k := k) h e2 hs
      by_cases hk : k2 = k
      · subst hk
        simp only [List.map_cons, if_pos]
        exact ⟨by rw [i1], .cons h i2⟩
      · simp only [List.map_cons, if_neg hk]
        exact ⟨by rw [i1], .cons h1 i2⟩
theorem putD_ok {K : PySem.W.Frag} {r : List Addr} {H : Hp} (k : Key) {p : PV} {v : V} {kvs : List (Key × PV)} {vs : List (Key × V)} (h : RV K r H p v) (e : vs.map (·.1) = kvs.map (·.1)) (hs : RVs K r H (kvs.map (·.2)) (vs.map (·.2))) :
    (putK vs k v).map (·.1) = (putD kvs k p).map (·.1) ∧ RVs K r H ((putD kvs k p).map (·.2)) ((putK vs k v).map (·.2)) := by
  have ea : (vs.any fun kv => decide (kv.1 = k)) = (kvs.any fun kv => decide (kv.1 = k)) := by
    have h1 : (vs.any fun kv => decide (kv.1 = k)) = (vs.map (·.1)).any fun q => decide (q = k) := by rw [List.any_map]; rfl
    have h2 : (kvs.any fun kv => decide (kv.1 = k)) = (kvs.map (·.1)).any fun q => decide (q = k) := by rw [List.any_map]; rfl
    rw [h1, h2, e]
  unfold putK putD
  rw [ea]
  split
  · exact putM_ok h e hs
  · refine ⟨by simp [e], ?_⟩
    rw [List.map_append, List.map_append]
    exact hs.append (.cons h .nil)
section
variable {X : Cx} {cf : CF} {e a b c o tg iter : Expr} {es : List Expr} {st : Stmt} {sts sts2 : List Stmt} {i ia ib ic io : E} {is : S} {iss iss2 : Ss} {pos : Pos}
theorem setx (hu : X.A.units + 64 < cLine) : PSet X (RSt X.K) := by
  intro pins s σ H o i v ov iv u Q I ro ri rv h
  obtain ⟨r, M, po, pi, pv, M', hh, vo, vi, vv, e, q⟩ := h
  cases vo with
  | @ref n a1 hn =>
    simp only [stoP] at e
    split at e
    · rename_i xs k e1
      obtain ⟨j, e2, e3⟩ := Option.map_eq_some_iff.mp e
      subst e3
      obtain ⟨b1, g1, vs, g2, g3⟩ := hh.at e1
      rw [hn] at g1; cases g1
      cases vi
      refine set_list pins s σ H _ _ v ov iv u Q I ro ri rv ⟨a1, vs, k, j, rfl, rfl, g2, by rw [← g3.length]; exact e2, ?_⟩
      have x := ext_set (r := r) (o := .lst (vs.set j v)) g2 trivial (List.mem_of_getElem? hn)
      exact q r _ x (hh.set hn ⟨_, upd_same, (g3.set j vv).ext x⟩)
    · rename_i _ kvs e1
      obtain ⟨k, e2, e3⟩ := Option.bind_eq_some_iff.mp e
      split at e3
      · rename_i hl
        cases e3
        obtain ⟨vs, g2, g3, g4⟩ := dic_of hh e1 hn
        have := keyOf_ok vi e2
        subst this
        obtain ⟨p1, p2⟩ := putD_ok k vv g3 g4
        have x := ext_set (r := r) (o := .dK (putK vs k v)) g2 trivial (List.mem_of_getElem? hn)
        refine set_dict (by omega) pins s σ H _ _ v ov iv u Q I ro ri rv ⟨a1, _, rfl, DPut.k (k := k) g2 ?_, q r _ x (hh.set (o := .dic (putD kvs k pv)) hn ⟨_, upd_same, p1, p2.ext x⟩)⟩
        have := congrArg List.length g3
        simp only [List.length_map] at this
        omega
      · cases e3
    · cases e
  | _ => simp [stoP] at e
theorem xs_sto (hu : X.A.units + 64 < cLine) (hv : XE X cf e i) (ho : XE X cf a ia) (hi : XE X cf b ib) {spos : Pos}
    (ha : ∀ v, assign (.Subscript a b pos) X.env v = (do
      let ov ← holding [v] (eval a X.env)
      let iv ← holding [v, ov] (eval b X.env)
      standAt pos
      holding [v, ov, iv] (setItem ov iv v)
      release [v, ov, iv] []) := by intro _; rfl)
    (h1 : swapsWithSole [.Subscript a b pos] e spos.line X.env = pure false := by rfl) (h2 : swappedStores [.Subscript a b pos] e X.env = pure none := by rfl)
    (h3 : (assignEach [.Subscript a b pos] X.env).map (·.2) = [assign (.Subscript a b pos) X.env] := by rfl) : XS X cf (.Assign [.Subscript a b pos] e spos) (.sto ia ib i) := by
  refine ps_imp (ps_asg hv (pg_sub ho hi (setx hu) ha) h1 h2 h3) fun D s H q => ?_
  obtain ⟨r, sg, M, fl, M', hs, hh, ev, q⟩ := q
  simp only [evS] at ev
  split at ev
  · rename_i x M1 e1
    split at ev
    · rename_i y M2 e2
      split at ev
      · rename_i z M3 e3
        obtain ⟨M4, e4, e5⟩ := Option.map_eq_some_iff.mp ev
        cases e5
        exact ⟨r, sg, M, x, M1, hs, hh, e1, fun r1 u1 H1 x1 h1 v1 => ⟨r1, sg, M1, y, M2, hs.ext x1, h1, e2, fun r2 u2 H2 x2 h2 v2 => ⟨r2, sg, M2, z, M3, hs.ext (x1.trans x2), h2, e3, fun r3 u3 H3 x3 h3 v3 =>
          ⟨r3, M3, y, z, x, _, h3, v2.ext x3, v3, v1.ext (x2.trans x3), e4, fun r4 H4 x4 h4 => q r4 H4 (x1.trans (x2.trans (x3.trans x4))) h4 s (hs.ext (x1.trans (x2.trans (x3.trans x4))))⟩⟩⟩⟩
      · cases ev
    · cases ev
  · cases ev

/-! ### two and three names at once -/
theorem tup_inv {j : Es} {sg : Sg} {M M' : Mm} {z : PV} (ev : evE cf (.tup j) sg M = some (z, M')) : ∃ xs, evEs cf j sg M = some (xs, M') ∧ z = .tup xs := by
  simp only [evE] at ev
  split at ev
  · rename_i xs M1 e1
    split at ev
    · cases ev; exact ⟨xs, e1, rfl⟩
    · cases ev
  · cases ev
theorem xs_par2 {m n : Nat} {x y : Str} {px py pt : Pos} {kt k2 pt2} {j : Es} (hc : X.calm = true) (hN : X.N.Nodup) (hi : X.N[m]? = some x) (hj : X.N[n]? = some y) (hij : m ≠ n)
    (hx : X.env.scope.names.lookup x = some .local) (hy : X.env.scope.names.lookup y = some .local) (ha : XA X cf [a, b] j)
    (hw : swappedStores [.Tuple [.Name x px, .Name y py] kt pt] (.Tuple [a, b] k2 pt2) X.env = pure (some [x, y]))
    (hs : swapsWithSole [.Tuple [.Name x px, .Name y py] kt pt] (.Tuple [a, b] k2 pt2) pos.line X.env = pure false := by rfl) :
    XS X cf (.Assign [.Tuple [.Name x px, .Name y py] kt pt] (.Tuple [a, b] k2 pt2) pos) (.asg (.tup [m, n]) (.tup j)) := by
  refine ps_imp (ps_par hc hN hi hj hij hx hy ha hw hs) fun D s H q => ?_
  obtain ⟨r, sg, M, fl, M', hs, hh, ev, q⟩ := q
  simp only [evS] at ev
  split at ev
  · rename_i z M1 e1
    obtain ⟨xs, e1', rfl⟩ := tup_inv e1
    obtain ⟨sg1, e2, e3⟩ := Option.map_eq_some_iff.mp ev
    cases e3
    refine ⟨r, sg, M, xs, _, hs, hh, e1', fun r1 vs H1 x1 h1 v1 => ?_⟩
    match xs, v1, e2 with
    | [p1, p2], .cons w1 (.cons w2 .nil), e2 =>
      simp only [tgP, setAll] at e2
      cases e2
      exact ⟨_, _, rfl, q r1 H1 x1 h1 _ (((hs.ext x1).set m w1).set n w2)⟩
  · cases ev
theorem xs_par3 {m n l : Nat} {x y z : Str} {px py pz pt : Pos} {kt k2 pt2} {j : Es} (hc : X.calm = true) (hN : X.N.Nodup) (hi : X.N[m]? = some x) (hj : X.N[n]? = some y) (hl : X.N[l]? = some z) (hij : m ≠ n) (hil : m ≠ l) (hjl : n ≠ l)
    (hx : X.env.scope.names.lookup x = some .local) (hy : X.env.scope.names.lookup y = some .local) (hz : X.env.scope.names.lookup z = some .local) (ha : XA X cf [a, b, c] j)
    (hw : swappedStores [.Tuple [.Name x px, .Name y py, .Name z pz] kt pt] (.Tuple [a, b, c] k2 pt2) X.env = pure (some [x, y, z]))
    (hs : swapsWithSole [.Tuple [.Name x px, .Name y py, .Name z pz] kt pt] (.Tuple [a, b, c] k2 pt2) pos.line X.env = pure false := by rfl) :
    XS X cf (.Assign [.Tuple [.Name x px, .Name y py, .Name z pz] kt pt] (.Tuple [a, b, c] k2 pt2) pos) (.asg (.tup [m, n, l]) (.tup j)) := by
  refine ps_imp (ps_par3 hc hN hi hj hl hij hil hjl hx hy hz ha hw hs) fun D s H q => ?_
  obtain ⟨r, sg, M, fl, M', hs, hh, ev, q⟩ := q
  simp only [evS] at ev
  split at ev
  · rename_i z M1 e1
    obtain ⟨xs, e1', rfl⟩ := tup_inv e1
    obtain ⟨sg1, e2, e3⟩ := Option.map_eq_some_iff.mp ev
    cases e3
    refine ⟨r, sg, M, xs, _, hs, hh, e1', fun r1 vs H1 x1 h1 v1 => ?_⟩
    match xs, v1, e2 with
    | [p1, p2, p3], .cons w1 (.cons w2 (.cons w3 .nil)), e2 =>
      simp only [tgP, setAll] at e2
      cases e2
      exact ⟨_, _, _, rfl, q r1 H1 x1 h1 _ ((((hs.ext x1).set m w1).set n w2).set l w3)⟩
  · cases ev

/-! ### dicts -/
theorem Post.dic {K : PySem.W.Frag} {r : List Addr} {H : Hp} {M : Mm} {Q : VK} {p : Addr} (q : Post K r H (.ref M.length) (M ++ [.dic []]) Q) (h : RH K r M H) (hp : H p = none) : Q (.ref p) (upd H p (.dK [])) :=
  q (r ++ [p]) _ _ (ext_new hp [p]) (h.new hp ⟨[], upd_same, rfl, .nil⟩) (.ref (by rw [← h.len]; simp))
theorem xe_dnew : XE X cf (.Dict [] [] pos) .dnew := by
  refine pe_imp pe_dnewK fun s H Q h => ?_
  obtain ⟨r, sg, M, z, M', hs, hh, e, q⟩ := h
  simp only [evE] at e
  cases e
  exact fun p hp => q.dic hh hp
/-- the pairs of a written dict -/
def TPv (K : PySem.W.Frag) (ks : List Key) (f : Sg → Mm → Option (List PV × Mm)) : L2.St → Hp → (List (V × V) → Hp → Prop) → Prop := fun s H Q => ∃ r sg M xs M', RS K r H sg s ∧ RH K r M H ∧ f sg M = some (xs, M') ∧
  ∀ r' vs H', Ext r r' H H' → RH K r' M' H' → RVs K r' H' xs vs → Q ((ks.map kV).zip vs) H'
structure XP (X : Cx) (cf : CF) (pos : Pos) (ks : List (Option Expr)) (vs : List Expr) (trs : List (TE × TE)) (keys : List Key) (j : Es) : Prop where
  pp : PPs X pos ks vs trs
  len : keys.length = vs.length
  red : ∀ s H Q, TPv X.K keys (evEs cf j) s H Q → tPairs trs s H Q
theorem xp_nil : XP X cf pos [] [] [] [] .nil := ⟨pps_nil, rfl, fun s H Q h => by
  obtain ⟨r, sg, M, xs, M', hs, hh, e, q⟩ := h
  simp only [evEs] at e
  cases e
  exact q r [] H .refl hh .nil⟩
theorem xp_str {k : Str} {jj : Nat} {kp : Pos} {ks : List (Option Expr)} {vs : List Expr} {trs : List (TE × TE)} {keys : List Key} {j : Es} (h : XE X cf e i) (hr : XP X cf pos ks vs trs keys j) :
    XP X cf pos (some (.Constant (.str k) jj kp) :: ks) (e :: vs) ((tC (.str k), TEv X.K (evE cf i)) :: trs) (.inr k :: keys) (.cons i j) := ⟨pps_cons pe_str h hr.pp, by simp [hr.len], fun s H Q h => by
  obtain ⟨r, sg, M, ys, M', hs, hh, e, q⟩ := h
  obtain ⟨x, xs, M1, e1, e2, rfl⟩ := evEs_cons e
  refine ⟨r, sg, M, x, M1, hs, hh, e1, fun r1 u1 H1 x1 h1 v1 => hr.red _ _ _ ⟨r1, sg, M1, xs, M', hs.ext x1, h1, e2, fun r2 us H2 x2 h2 v2 => ?_⟩⟩
  exact q r2 (u1 :: us) H2 (x1.trans x2) h2 (.cons (v1.ext x2) v2)⟩
theorem fold_ok {K : PySem.W.Frag} {r : List Addr} {H : Hp} : ∀ {ks : List Key} {xs : List PV} {vs : List V} {kvs : List (Key × PV)} {ws : List (Key × V)}, RVs K r H xs vs → ws.map (·.1) = kvs.map (·.1) → RVs K r H (kvs.map (·.2)) (ws.map (·.2)) →
    (mergeK ws (ks.zip vs)).map (·.1) = ((ks.zip xs).foldl (fun acc kv => putD acc kv.1 kv.2) kvs).map (·.1) ∧ RVs K r H (((ks.zip xs).foldl (fun acc kv => putD acc kv.1 kv.2) kvs).map (·.2)) ((mergeK ws (ks.zip vs)).map (·.2))
  | [], _, _, _, _, _, e, h => by simpa [mergeK] using ⟨e, h⟩
  | _ :: _, [], _, _, _, .nil, e, h => by simpa [mergeK] using ⟨e, h⟩
  | k :: ks, x :: xs, _, kvs, ws, .cons (v := v) h1 hs, e, h => by
    obtain ⟨p1, p2⟩ := putD_ok k h1 e h
    have := fold_ok (ks := ks) hs p1 p2
    simpa [mergeK] using this
theorem xe_dct {ks : List (Option Expr)} {vs : List Expr} {trs : List (TE × TE)} {keys : List Key} {j : Es} (h : XP X cf pos ks vs trs keys j) (hall : ks.all (·.isSome) = true) (hl : ks.length = vs.length) (h0 : ks ≠ []) (h15 : ks.length ≤ 15) :
    XE X cf (.Dict ks vs pos) (.dct keys j) := by
  refine pe_imp (pe_disp h.pp hall hl h0 h15) fun s H Q q => ?_
  obtain ⟨r, sg, M, z, M', hs, hh, e, q⟩ := q
  simp only [evE] at e
  intro p hp
  have x0 := ext_new (r := r) (o := .dK []) hp [p]
  have hn : RH X.K (r ++ [p]) (M ++ [.dic []]) (upd H p (.dK [])) := hh.new hp ⟨[], upd_same, rfl, .nil⟩
  have hd : (r ++ [p])[M.length]? = some p := by rw [← hh.len]; simp
  split at e
  · rename_i xs M1 e1
    split at e
    · rename_i hk
      split at e
      · rename_i e2
        cases e
        refine h.red _ _ _ ⟨r ++ [p], sg, _, xs, M1, hs.ext x0, hn, e1, fun r1 ws H1 x1 h1 v1 => ?_⟩
        have g2 : M1[M.length]? = some (.dic []) := by
          unfold dicAt at e2
          split at e2
          · rename_i kv e3; cases e2; exact e3
          · cases e2
        obtain ⟨vs', k2, k3, _⟩ := dic_of h1 g2 (x1.at hd)
        have k3' : vs' = [] := by simpa using k3
        subst k3'
        obtain ⟨p1, p2⟩ := fold_ok (ks := keys) (kvs := []) (ws := []) v1 rfl .nil
        have x2 := ext_set (r := r1) (o := .dK (mergeK [] (keys.zip ws))) k2 trivial (List.mem_of_getElem? (x1.at hd))
        refine ⟨k2, keys.zip ws, ?_, ?_, q r1 _ _ (x0.trans (x1.trans x2)) (h1.set (x1.at hd) ⟨_, upd_same, p1, p2.ext x2⟩) (.ref (x1.at hd))⟩
        · rw [List.zip_map_left]
          rfl
        · rw [List.length_zip]; have := hk.2; omega
      · cases e
    · cases e
  · cases e

/-! ### methods -/
theorem mth_inv {m : Mt} {j : Es} {sg : Sg} {M M' : Mm} {z : PV} (ev : evE cf (.mth m io j) sg M = some (z, M')) : ∃ x xs M1 M2, evE cf io sg M = some (x, M1) ∧ mtOk M1 m x = true ∧ evEs cf j sg M1 = some (xs, M2) ∧ mthP M2 m x xs = some (z, M') := by
  simp only [evE] at ev
  split at ev
  · rename_i x M1 e1
    split at ev
    · rename_i hk
      split at ev
      · rename_i xs M2 e2; exact ⟨x, xs, M1, M2, e1, hk, e2, ev⟩
      · cases ev
    · cases ev
  · cases ev
/-- a method's rule by values -/
def RMt (K : PySem.W.Frag) (m : Mt) : V → List V → Hp → VK → Prop := fun x vs H Q => ∃ r M p ps z M', RH K r M H ∧ RV K r H p x ∧ RVs K r H ps vs ∧ mthP M m p ps = some (z, M') ∧ Post K r H z M' Q
theorem mt_red {T : String} {m : Mt} {j : Es} {ta : TA} {s : L2.St} {H : Hp} {Q : VK} (hT : ∀ K r M H x v, RH K r M H → RV K r H x v → mtOk M m x = true → tyV K T v H) (hta : ∀ s H Q, TAv X.K (evEs cf j) s H Q → ta s H Q)
    (q : TEv X.K (evE cf (.mth m io j)) s H Q) : tBM X.K T (RMt X.K m) (TEv X.K (evE cf io)) ta s H Q := by
  obtain ⟨r, sg, M, z, M', hs, hh, ev, q⟩ := q
  obtain ⟨x, xs, M1, M2, e1, hk, e2, e3⟩ := mth_inv ev
  exact ⟨r, sg, M, x, M1, hs, hh, e1, fun r1 u1 H1 x1 h1 v1 => ⟨hT _ _ _ _ _ _ h1 v1 hk, hta _ _ _ ⟨r1, sg, M1, xs, M2, hs.ext x1, h1, e2, fun r2 us H2 x2 h2 v2 => ⟨r2, M2, x, xs, z, M', h2, v1.ext x2, v2, e3, fun r3 u3 H3 x3 h3 v3 => q r3 u3 H3 (x1.trans (x2.trans x3)) h3 v3⟩⟩⟩⟩
theorem tyL {m : Mt} (hm : ∀ M x, mtOk M m x = true → ∃ n xs, x = .ref n ∧ lstAt M n = some xs) : ∀ K r M H x v, RH K r M H → RV K r H x v → mtOk M m x = true → tyV K "list" v H := fun K r M H x v hh hv hk => by
  obtain ⟨n, xs, rfl, e⟩ := hm M x hk
  obtain ⟨a, vs, g1, g2, g3⟩ := lst_of hh e
  have := hv.refAt g1
  subst this
  exact .inl ⟨rfl, vs, .inl (.inl g2)⟩
theorem mtx_append : MtR X "list.append" (RMt X.K .append) := by
  intro pins s σ H x vs v us Q I rx rs h
  obtain ⟨r, M, p, ps, z, M', hh, hv, hs, e, q⟩ := h
  match p, ps, hv, hs, e with
  | .ref n, [y], hv, .cons hy .nil, e =>
    simp only [mthP] at e
    obtain ⟨l, e5, e6⟩ := Option.bind_eq_some_iff.mp e
    split at e6
    · rename_i hl
      obtain ⟨rfl, rfl⟩ := Prod.mk.inj (Option.some.inj e6)
      obtain ⟨a, ws, g1, g2, g3⟩ := lst_of hh e5
      have := hv.refAt g1
      subst this
      exact mt_append pins s σ H _ _ v us Q I rx rs ⟨a, ws, _, rfl, rfl, g2, by rw [← g3.length]; exact hl, q.set hh g1 (g3.append (.cons hy .nil)) .non⟩
    · cases e6
theorem RVs.erase {K : PySem.W.Frag} {r : List Addr} {H : Hp} : ∀ {x : List PV} {v : List V} (n : Nat), RVs K r H x v → RVs K r H (x.eraseIdx n) (v.eraseIdx n)
  | _, _, _, .nil => .nil
  | _, _, 0, .cons _ hs => hs
  | _, _, n + 1, .cons h hs => .cons h (RVs.erase n hs)
theorem mtx_pop1 : MtR X "list.pop" (RMt X.K .pop1) := by
  intro pins s σ H x vs v us Q I rx rs h
  obtain ⟨r, M, p, ps, z, M', hh, hv, hs, e, q⟩ := h
  match p, ps, hv, hs, e with
  | .ref n, [.int i], hv, .cons hy .nil, e =>
    cases hy
    simp only [mthP] at e
    obtain ⟨l, e5, e6⟩ := Option.bind_eq_some_iff.mp e
    obtain ⟨j, e7, e8⟩ := Option.bind_eq_some_iff.mp e6
    obtain ⟨y, e9, e10⟩ := Option.map_eq_some_iff.mp e8
    obtain ⟨rfl, rfl⟩ := Prod.mk.inj e10
    obtain ⟨a, ws, g1, g2, g3⟩ := lst_of hh e5
    have := hv.refAt g1
    subst this
    obtain ⟨w, w1, w2⟩ := g3.get e9
    obtain ⟨k1, k2, k3, k4⟩ := ixN_seq e7
    have hz : l.length ≤ sizeLine := by
      have := (I.hok a _ g2).1
      rw [g3.length]; exact this
    have h24 : sizeLine = 16777216 := rfl
    refine mt_popAt pins s σ H _ _ v us Q I rx rs ⟨a, ws, i, j, w, rfl, rfl, g2, by omega, by omega, by rw [← g3.length]; exact k1, w1, q.set hh g1 (g3.erase j) w2⟩
theorem xe_append {apos cpos : Pos} (ho : XE X cf o io) (h : XE X cf e i) (hbase : attributeBase o "append" X.env (eval o X.env) = eval o X.env := by rfl)
    (hfew : ((backTo cpos (starEach [e] X.env)).all (fun x => !x.1) && (backToKw cpos (keywordEach [] X.env)).all (fun x => x.1.isSome)
      && decide ([e].length + ([] : List Keyword).length + (if ([] : List Keyword).isEmpty then 0 else 1) < 30)) = true := by rfl)
    (hline : (apos.endLine == cpos.line) = true := by rfl) (hs : starEach [e] X.env = (false, eval e X.env) :: starEach [] X.env := by rfl) (hplain : (backTo cpos (starEach [] X.env)).any (·.1) = false := by rfl) :
    XE X cf (.Call (.Attribute o "append" apos) [e] [] cpos) (.mth .append io (.cons i .nil)) :=
  pe_imp (pe_bm PySem.F.plainAttrs_list PySem.F.slot_list_append PySem.F.type_list_append mtx_append ho (xa_cons h xa_nil hs) hbase hfew hline hs hplain) fun s H Q q =>
    mt_red (tyL fun M x hk => by cases x <;> simp [mtOk] at hk; obtain ⟨xs, e⟩ := Option.isSome_iff_exists.mp hk; exact ⟨_, xs, rfl, e⟩) (fun _ _ _ q => q) q
theorem xe_pop1 {apos cpos : Pos} (ho : XE X cf o io) (h : XE X cf e i) (hbase : attributeBase o "pop" X.env (eval o X.env) = eval o X.env := by rfl)
    (hfew : ((backTo cpos (starEach [e] X.env)).all (fun x => !x.1) && (backToKw cpos (keywordEach [] X.env)).all (fun x => x.1.isSome)
      && decide ([e].length + ([] : List Keyword).length + (if ([] : List Keyword).isEmpty then 0 else 1) < 30)) = true := by rfl)
    (hline : (apos.endLine == cpos.line) = true := by rfl) (hs : starEach [e] X.env = (false, eval e X.env) :: starEach [] X.env := by rfl) (hplain : (backTo cpos (starEach [] X.env)).any (·.1) = false := by rfl) :
    XE X cf (.Call (.Attribute o "pop" apos) [e] [] cpos) (.mth .pop1 io (.cons i .nil)) :=
  pe_imp (pe_bm PySem.F.plainAttrs_list PySem.F.slot_list_pop PySem.F.type_list_pop mtx_pop1 ho (xa_cons h xa_nil hs) hbase hfew hline hs hplain) fun s H Q q =>
    mt_red (tyL fun M x hk => by cases x <;> simp [mtOk] at hk; obtain ⟨xs, e⟩ := Option.isSome_iff_exists.mp hk; exact ⟨_, xs, rfl, e⟩) (fun _ _ _ q => q) q
end
end Mp

/-! Mp3g: isinstance, calls of defs, defs. -/
namespace Mp
open PySem L2

/-! ### isinstance -/
def tyS : Ty → String
  | .list => "list" | .tuple => "tuple" | .int => "int" | .bool => "bool" | .str => "str" | .dict => "dict"
theorem kit_tys (u t : Ty) : kitB (tyS u) (tyS t) = some (u == t || (u == .bool && t == .int)) := by
  cases u <;> cases t <;> decide +kernel
theorem kit_non (t : Ty) : kitB "NoneType" (tyS t) = some false := by
  cases t <;> decide +kernel
theorem tyx {K : PySem.W.Frag} {r : List Addr} {H : Hp} {M : Mm} {x : PV} {v : V} (hh : RH K r M H) (h : RV K r H x v) (hx : ∀ n, x = .ref n → ∃ o, M[n]? = some o) (ni : insP M x = false) : ∃ T : String, TyX K H v (.type T) ∧ ∀ t, kitB T (tyS t) = some (isTy M x t) := by
  cases h with
  | non => exact ⟨"NoneType", .base .non, fun t => by rw [kit_non]; rfl⟩
  | bl b => exact ⟨"bool", .base (.bl b), fun t => kit_tys .bool t⟩
  | int b => exact ⟨"int", .base (.int b), fun t => kit_tys .int t⟩
  | str b => exact ⟨"str", .base (.str b), fun t => kit_tys .str t⟩
  | @tup xs a vs ht hs =>
    refine ⟨"tuple", ?_, fun t => kit_tys .tuple t⟩
    rcases ht with (ht | ⟨o, ht⟩) | ⟨o, its, n, h1, h2, _⟩
    · exact .base (.tup ht)
    · exact .fTuple ht
    · exact .kTuple h1 h2
  | @cl ns a hc =>
    refine ⟨"list", ?_, fun t => kit_tys .list t⟩
    rcases hc with ⟨o, hc⟩ | hc
    · exact .base (.frz hc)
    · rcases hc (fun _ => none) with (z | ⟨o, z⟩) | ⟨o, its, n, h1, h2, _⟩
      · cases z
      · cases z
      · exact .kList h1 h2
  | @ref n a hn =>
    obtain ⟨o, ho⟩ := hx n rfl
    have q := hh.ob n a o hn ho
    cases o with
    | lst xs =>
      obtain ⟨vs, g, _⟩ := q
      refine ⟨"list", .base (.lst g), fun t => ?_⟩
      rw [show isTy M (.ref n) t = (Ty.list == t || (Ty.list == .bool && t == .int)) by simp [isTy, tyOf, ho]]
      exact kit_tys .list t
    | dic xs =>
      obtain ⟨vs, g, _⟩ := q
      refine ⟨"dict", .base (.dK g), fun t => ?_⟩
      rw [show isTy M (.ref n) t = (Ty.dict == t || (Ty.dict == .bool && t == .int)) by simp [isTy, tyOf, ho]]
      exact kit_tys .dict t
    | ins c fs => simp [ho] at ni
  | fn n x => simp at ni
theorem ref_in {K : PySem.W.Frag} {r : List Addr} {H : Hp} {M : Mm} {x : PV} {v : V} (hh : RH K r M H) (h : RV K r H x v) : ∀ n, x = .ref n → ∃ o, M[n]? = some o := fun n e => by
  subst e
  cases h with
  | ref hn =>
    have : n < M.length := by rw [← hh.len]; exact (List.getElem?_eq_some_iff.mp hn).1
    exact ⟨_, List.getElem?_eq_getElem this⟩
theorem kitAny_tys {K : PySem.W.Frag} {T : String} {f : Ty → Bool} (h : ∀ t, kitB T (tyS t) = some (f t)) : ∀ ts : List Ty, PySem.W.kitAny K (.type T) (ts.map fun t => Value.type (tyS t)) = some (ts.any f)
  | [] => kitAny_nil
  | t :: ts => kitAny_cons (kit_ty (h t)) (fun hb => by rw [List.any_cons, hb, Bool.false_or]; exact kitAny_tys h ts) (fun hb => by rw [List.any_cons, hb, Bool.true_or])
theorem cls_tys : ∀ ts : List Ty, Paired ClsV (ts.map fun t => V.ty (tyS t)) (ts.map fun t => Value.type (tyS t))
  | [] => .nil
  | t :: ts => .cons (.ty _) (cls_tys ts)
section
variable {X : Cx} {cf : CF} {e a b : Expr} {es : List Expr} {i ia : E} {pos p : Pos}
theorem xe_isi1 {t : Ty} (hg : Gl X "isinstance") (hm : X.mg "isinstance" = none) (ha : XE X cf a ia) (hb : PE X b (tC (.ty (tyS t))))
    (he : starEach [a, b] X.env = (false, eval a X.env) :: starEach [b] X.env := by rfl) (he2 : starEach [b] X.env = (false, eval b X.env) :: starEach [] X.env := by rfl) (hpl : (backTo pos (starEach [b] X.env)).any (·.1) = false := by rfl) :
    XE X cf (.Call (.Name "isinstance" p) [a, b] [] pos) (.isi ia [t]) := by
  refine pe_imp (pe_callB call_isi hg hm (by decide +kernel) (pa_cons ha (pa_cons hb pa_nil he2) he) (by decide) (by decide) he hpl) fun s H Q h => ?_
  obtain ⟨r, sg, M, z, M', hs, hh, ev, q⟩ := h
  simp only [evE] at ev
  split at ev
  · rename_i x M1 e1
    split at ev
    · cases ev
    rename_i ni
    have ni := eq_false_of_ne_true ni
    cases ev
    refine ⟨r, sg, M, x, _, hs, hh, e1, fun r1 u1 H1 x1 h1 v1 => ?_⟩
    obtain ⟨T, ty, k⟩ := tyx h1 v1 (ref_in h1 v1) ni
    refine ⟨u1, .ty (tyS t), _, _, _, rfl, .ty _, ty, kit_ty (k t), q r1 _ H1 x1 h1 ?_⟩
    rw [List.any_cons, List.any_nil, Bool.or_false]
    exact .bl _
  · cases ev
theorem xe_isiT {ts : List Ty} {k : Nat} {tp : Pos} {tes : List Expr} {tt : TA} (hg : Gl X "isinstance") (hm : X.mg "isinstance" = none) (ha : XE X cf a ia) (hb : PA X tes tt) (hl : ts.length ≤ 100) (htt : ∀ s H Q, Q (ts.map fun t => V.ty (tyS t)) H → tt s H Q)
    (he : starEach [a, .Tuple tes k tp] X.env = (false, eval a X.env) :: starEach [.Tuple tes k tp] X.env := by rfl) (he2 : starEach [.Tuple tes k tp] X.env = (false, eval (.Tuple tes k tp) X.env) :: starEach [] X.env := by rfl) (hpl : (backTo pos (starEach [.Tuple tes k tp] X.env)).any (·.1) = false := by rfl) :
    XE X cf (.Call (.Name "isinstance" p) [a, .Tuple tes k tp] [] pos) (.isi ia ts) := by
  refine pe_imp (pe_callB call_isiT hg hm (by decide +kernel) (pa_cons ha (pa_cons (pe_tup hb) pa_nil he2) he) (by decide) (by decide) he hpl) fun s H Q h => ?_
  obtain ⟨r, sg, M, z, M', hs, hh, ev, q⟩ := h
  simp only [evE] at ev
  split at ev
  · rename_i x M1 e1
    split at ev
    · cases ev
    rename_i ni
    have ni := eq_false_of_ne_true ni
    cases ev
    refine ⟨r, sg, M, x, _, hs, hh, e1, fun r1 u1 H1 x1 h1 v1 => htt _ _ _ ⟨?_, fun tp hp => ?_⟩⟩
    · have : sizeLine = 16777216 := rfl
      rw [List.length_map, this]; omega
    · have x2 := ext_new0 (r := r1) (o := .tup (ts.map fun t => V.ty (tyS t))) hp
      have h2 := h1.other (.tup (ts.map fun t => V.ty (tyS t))) hp
      obtain ⟨T, ty, k⟩ := tyx h2 (v1.ext x2) (ref_in h2 (v1.ext x2)) ni
      exact ⟨u1, tp, _, _, _, _, rfl, upd_same, cls_tys ts, ty, kitAny_tys k ts, q r1 _ _ (x1.trans x2) h2 (.bl _)⟩
  · cases ev
theorem pe_tyN {x : Str} {t : Ty} (hg : Gl X x) (hm : X.mg x = none) (hv : bootBuiltins x = some (.type (tyS t))) (hn : x ≠ "__name__" := by decide) (hd : (x == ("__debug__" : Str)) = false := by decide) : PE X (.Name x pos) (tC (.ty (tyS t))) := pe_bltn hg hm hv rfl hn hd

/-! ### calls of defs -/
def spEv (K : PySem.W.Frag) (cf : CF) (n np : Nat) : Sp := fun vs H Q _ => vs.length = np ∧ ∃ r M xs z M', RH K r M H ∧ RVs K r H xs vs ∧ cf n xs M = some (z, M') ∧ Post K r H z M' Q
def gK (us ws : List Value) : List Value := if us.isEmpty then ws else []
def gKV (us ws : List V) : List V := if us.isEmpty then ws else []
structure Own (P : Program) (w : World) (K : PySem.W.Frag) (mg : Str → Option Value) (base : Heap) (A : Around) (cf : CF) (x : Str) (n : Nat) (ps : List Str) (kw : Bool) : Prop where
  ex : ∃ k f fd, FnOk P w K mg base CX0 k f fd ps (spEv K cf n ps.length) ∧ Room k A ∧ mg x = some (.ref f) ∧ PySem.W.keepIn K (.ref f) = true ∧ Binds K fd ps [] ∧ (kw = true → KBinds K fd ps ps gK gKV)
  len : ∀ xs M z, cf n xs M = some z → xs.length = ps.length
structure Nm where
  x : Str
  ps : List Str
  kw : Bool
/-- every def of the program, to a depth -/
def Calls (P : Program) (w : World) (K : PySem.W.Frag) (mg : Str → Option Value) (base : Heap) (names : List Nm) (cf : CF) (k : Nat) : Prop :=
  ∀ (n : Nat) (nm : Nm), names[n]? = some nm → (∃ f fd, FnOk P w K mg base CX0 k f fd nm.ps (spEv K cf n nm.ps.length) ∧ mg nm.x = some (.ref f) ∧ PySem.W.keepIn K (.ref f) = true ∧ Binds K fd nm.ps [] ∧ (nm.kw = true → KBinds K fd nm.ps nm.ps gK gKV)) ∧
    ∀ xs M z, cf n xs M = some z → xs.length = nm.ps.length
theorem Calls.own {P : Program} {w : World} {K : PySem.W.Frag} {mg : Str → Option Value} {base : Heap} {names : List Nm} {cf : CF} {k : Nat} (C : Calls P w K mg base names cf k) {A : Around} (hr : Room k A) {n : Nat} {x : Str} {ps : List Str} {kw : Bool} (h : names[n]? = some ⟨x, ps, kw⟩) :
    Own P w K mg base A cf x n ps kw := by
  obtain ⟨⟨f, fd, h1, h2, h3, h4, h5⟩, hl⟩ := C n _ h
  exact ⟨⟨k, f, fd, h1, hr, h2, h3, h4, h5⟩, hl⟩
theorem call_red {n : Nat} {np : Nat} {j : Es} {ta : TA} {s : L2.St} {H : Hp} {Q : VK} {E : L2.XK} (hl : ∀ xs M z, cf n xs M = some z → xs.length = np) (hta : ∀ s H Q, TAv X.K (evEs cf j) s H Q → ta s H Q) (q : TEv X.K (evE cf (.call n j)) s H Q) : ta s H fun vs H1 => spEv X.K cf n np vs H1 Q E := by
  obtain ⟨r, sg, M, z, M', hs, hh, ev, q⟩ := q
  simp only [evE] at ev
  split at ev
  · rename_i xs M1 e1
    exact hta _ _ _ ⟨r, sg, M, xs, M1, hs, hh, e1, fun r1 us H1 x1 h1 v1 => ⟨by rw [← v1.length]; exact hl _ _ _ ev, r1, M1, xs, z, M', h1, v1, ev, fun r2 u2 H2 x2 h2 v2 => q r2 u2 H2 (x1.trans x2) h2 v2⟩⟩
  · cases ev
theorem xe_call {x : Str} {n : Nat} {ps : List Str} {kw : Bool} {j : Es} (O : Own X.prog X.w X.K X.mg X.base X.A cf x n ps kw) (hg : Gl X x) (ha : XA X cf (e :: es) j)
    (hdb : (x == ("__debug__" : Str)) = false := by decide) (he : starEach (e :: es) X.env = (false, eval e X.env) :: starEach es X.env := by rfl) (hpl : (backTo pos (starEach es X.env)).any (·.1) = false := by rfl) :
    XE X cf (.Call (.Name x p) (e :: es) [] pos) (.call n j) := by
  obtain ⟨k, f, fd, F, hr, hm, hk, hb, _⟩ := O.ex
  refine pe_imp (pe_call F hr hg hm hk hb .nil pass0 ha hdb he hpl) fun s H Q q => ?_
  have := call_red (E := E0) (np := ps.length) O.len (fun _ _ _ q => q) q
  unfold tCall
  simp only [List.append_nil]
  exact this
theorem xe_call0 {x : Str} {n : Nat} {ps : List Str} {kw : Bool} (O : Own X.prog X.w X.K X.mg X.base X.A cf x n ps kw) (hg : Gl X x)
    (hdb : (x == ("__debug__" : Str)) = false := by decide) : XE X cf (.Call (.Name x p) [] [] pos) (.call n .nil) := by
  obtain ⟨k, f, fd, F, hr, hm, hk, hb, _⟩ := O.ex
  refine pe_imp (pe_call0 F hr hg hm hk hb .nil pass0 hdb) fun s H Q q => ?_
  have := call_red (E := E0) (np := ps.length) (ta := tNil) O.len (fun s H Q q => by
    obtain ⟨r, sg, M, xs, M', hs, hh, ev, q⟩ := q
    simp only [evEs] at ev
    cases ev
    exact q r [] H .refl hh .nil) q
  exact this
/-- keywords alone, in the parameters' order -/
def XK (X : Cx) (cf : CF) (ks : List Keyword) (i : Es) : Prop := PK X ks (TAv X.K (evEs cf i))
theorem pk_imp {ks : List Keyword} {t t' : TA} (h : PK X ks t) (k : ∀ s H Q, t' s H Q → t s H Q) : PK X ks t' := ⟨fun p pins s σ H Q I q => h.run p pins s σ H Q I (k _ _ _ q)⟩
theorem xk_nil : XK X cf [] .nil := by
  refine pk_imp pk_nil fun s H Q h => ?_
  obtain ⟨r, sg, M, xs, M', hs, hh, e, q⟩ := h
  simp only [evEs] at e
  cases e
  exact q r [] H .refl hh .nil
theorem xk_cons {nm : Option Str} {kp : Pos} {ks : List Keyword} {j : Es} (h : XE X cf e i) (h2 : XK X cf ks j) : XK X cf (⟨nm, e, kp⟩ :: ks) (.cons i j) := by
  refine pk_imp (pk_cons h h2) fun s H Q h => ?_
  obtain ⟨r, sg, M, ys, M', hs, hh, e, q⟩ := h
  obtain ⟨x, xs, M1, e1, e2, rfl⟩ := evEs_cons e
  exact ⟨r, sg, M, x, M1, hs, hh, e1, fun r1 u1 H1 x1 h1 v1 => ⟨r1, sg, M1, xs, M', hs.ext x1, h1, e2, fun r2 us H2 x2 h2 v2 => q r2 (u1 :: us) H2 (x1.trans x2) h2 (.cons (v1.ext x2) v2)⟩⟩
theorem xe_callK0 {x : Str} {n : Nat} {ps : List Str} {kws : List Keyword} {j : Es} (O : Own X.prog X.w X.K X.mg X.base X.A cf x n ps true) (hg : Gl X x) (hkw : XK X cf kws j)
    (hall : (backToKw pos (keywordEach kws X.env)).all (·.1.isSome) = true := by rfl) (hks : (backToKw pos (keywordEach kws X.env)).filterMap (·.1) = ps := by rfl)
    (hdb : (x == ("__debug__" : Str)) = false := by decide) (hpl : ((backTo pos (starEach [] X.env)).any (·.1) || (backToKw pos (keywordEach kws X.env)).any (·.1.isNone)) = false := by rfl) :
    XE X cf (.Call (.Name x p) [] kws pos) (.call n j) := by
  obtain ⟨k, f, fd, F, hr, hm, hk, _, hb⟩ := O.ex
  refine ⟨fun pins s σ H Q I h => ?_⟩
  have h' := call_red (E := E0) (np := ps.length) O.len (fun _ _ _ q => q) h
  refine PySem.wpAny_Call_Name_kw (ld_glob I hg hm ?_ hdb)
  refine PySem.W.callWith_KW0 (h₀ := X.base) I.ok.mod.kin hk hall ?_ hpl
  refine thn (hkw.run pos pins s σ H _ I h') fun ws s2 ⟨zs, H2, I2, rz, q2⟩ => ⟨I2.kIn, ?_⟩
  rw [hks]
  have := run_fnk (ks := ps) (us := []) (vs := []) F hr (hb rfl) pass0 I2 .nil rz q2
  exact this

/-! ### a def -/
theorem rs_start {K : PySem.W.Frag} {r : List Addr} {H : Hp} {N : List Str} {xs : List PV} {vs : List V} {m : Nat} (h : RVs K r H xs vs) (hm : m = N.length - vs.length) : RS K r H (xs.map some ++ List.replicate m none) (L2.start N vs) := by
  subst hm
  refine ⟨by simp [L2.start, h.length], fun i p e => ?_⟩
  by_cases hi : i < xs.length
  · rw [List.getElem?_append_left (by simpa using hi), List.getElem?_map] at e
    obtain ⟨q, e1, e2⟩ := Option.map_eq_some_iff.mp e
    cases e2
    obtain ⟨v, v1, v2⟩ := h.get e1
    refine ⟨v, ?_, v2⟩
    unfold L2.start
    rw [List.getElem?_append_left (by rw [List.length_map, ← h.length]; exact hi), List.getElem?_map, v1]
    rfl
  · rw [List.getElem?_append_right (by simpa using hi)] at e
    rw [List.getElem?_replicate] at e
    split at e <;> cases e
theorem def_ok {P : Program} {w : World} {K : PySem.W.Frag} {mg : Str → Option Value} {base : Heap} {x qual : Str} {params : Arguments} {sts : List Stmt} {sc : Scope} {f : Addr} {fd : FuncData} {N ps : List Str} {k n : Nat} {cf cf' : CF} {d : Df} (F : FunD K x qual params sts sc [] [] f fd) (S : FnScope N ps sc)
    (h1 : d.np = ps.length) (h2 : d.ns = N.length) (hcf : ∀ xs M, cf' n xs M = runD cf d xs M)
    (body : ∀ (cdv : Value) (A : Around) (outer : List Env) (s : Shared) (H : Hp) (E : L2.XK), Room k (A.deeper (PyProof.Rows.envOfC qual sc s.heap.objs.size f cdv)) → XSs (cxOf CX0 P w K mg base N qual sc f cdv A outer s H E).nox cf sts d.body) :
    FnOk P w K mg base CX0 (k + 1) f fd ps (spEv K cf' n ps.length) := by
  refine F.ok S (fun vs H Q E h => h.1) fun cdv A outer s H vs Q E hr h => ⟨_, PSs.nox (body cdv A outer s H E hr), ?_⟩
  obtain ⟨hl, r, M, xs, z, M', hh, hv, ev, q⟩ := h
  rw [hcf] at ev
  unfold runD at ev
  split at ev
  · rename_i hx
    cases e1 : evSs cf d.body (xs.map some ++ List.replicate (d.ns - d.np) none) M with
    | none => rw [e1] at ev; cases ev
    | some o =>
      obtain ⟨fl, M1⟩ := o
      rw [e1] at ev
      refine ⟨r, _, M, fl, M1, rs_start hv (by rw [h2, h1, hl]), hh, e1, fun r1 H1 x1 h1 => ?_⟩
      cases fl with
      | ret v => cases ev; exact fun u hu => q r1 u H1 x1 h1 hu
      | nx sg => cases ev; exact fun s' _ => q r1 _ H1 x1 h1 .non
      | brk sg => cases ev
      | ct sg => cases ev
  · cases ev
theorem fn_zero {P : Program} {w : World} {K : PySem.W.Frag} {mg : Str → Option Value} {base : Heap} {f : Addr} {fd : FuncData} {ps : List Str} {k n : Nat} : FnOk P w K mg base CX0 k f fd ps (spEv K (fun _ _ _ => none) n ps.length) :=
  ⟨fun vs H Q E h => h.1, fun A outer s H args us vs Q E _ _ _ _ h => by
    obtain ⟨_, r, M, xs, z, M', _, _, ev, _⟩ := h
    cases ev⟩
theorem kbinds {K : PySem.W.Frag} {x qual : Str} {params : Arguments} {body : List Stmt} {scope : Scope} {f : Addr} {fd : FuncData} {ps : List Str} (F : FunD K x qual params body scope [] [] f fd) (hp : ps ≠ [])
    (h : ∀ (kV doc pm : Value) (an : Option Addr) (cdv ct : Value) (ws : List Value), ws.length = ps.length → bindArgs (PySem.W.fnOf x qual params body scope .none kV doc pm an cdv ct) ⟨[], ps.zip ws⟩ = pure (ps.zip ws)) : KBinds K fd ps ps gK gKV := by
  obtain ⟨oc, od, dV, kV, doc, pm, an, cdv, ct, osl, rfl, lk, hcd, hD, hK⟩ := F.ex
  rcases hD with ⟨_, rfl⟩ | ⟨e, _⟩
  · refine ⟨fun s us ws _ hl => ?_, fun {vs us zs ws} r1 r2 => ?_⟩
    · cases us with
      | nil => exact .of_eq (h kV doc pm an cdv ct ws hl)
      | cons u us =>
        have : (gK (u :: us) ws).length = 0 := rfl
        rw [this] at hl
        exact absurd (List.length_eq_zero_iff.mp hl.symm) hp
    · cases r1 with
      | nil => exact r2
      | cons _ _ => exact .nil
  · exact absurd rfl e
theorem runD_len {d : Df} {xs : List PV} {M : Mm} {z : PV × Mm} (h : runD cf d xs M = some z) : xs.length = d.np := by
  unfold runD at h
  split at h
  · assumption
  · cases h
end
end Mp

/-! Mp3h: instances: fields, methods, making. -/
namespace Mp
open PySem L2

theorem ins_of {K : PySem.W.Frag} {r : List Addr} {H : Hp} {M : Mm} {n : Nat} {c : Str} {fs : List (Str × PV)} (h : RH K r M H) (e : insAt M c n = some fs) :
    ∃ a dx vs, r[n]? = some a ∧ H a = some (.ins (He.ga K c) dx vs) ∧ vs.map (·.1) = fs.map (·.1) ∧ RVs K r H (fs.map (·.2)) (vs.map (·.2)) ∧ M[n]? = some (.ins c fs) := by
  unfold insAt at e
  split at e
  · rename_i d gs e1
    split at e
    · rename_i hd
      cases e
      subst hd
      obtain ⟨a, h1, dx, vs, h2, h3, h4⟩ := h.at e1
      exact ⟨a, dx, vs, h1, h2, h3, h4, e1⟩
    · cases e
  · cases e
section
variable {K : PySem.W.Frag} {r : List Addr} {H : Hp}
theorem look_rel {f : Str} : ∀ {fs : List (Str × PV)} {vs : List (Str × V)}, vs.map (·.1) = fs.map (·.1) → RVs K r H (fs.map (·.2)) (vs.map (·.2)) →
    (∀ v, fs.lookup f = some v → ∃ u, vs.lookup f = some u ∧ RV K r H v u) ∧ (fs.lookup f = none → vs.lookup f = none)
  | [], [], _, _ => ⟨(fun v h => by cases h), fun _ => rfl⟩
  | [], _ :: _, h, _ => by simp at h
  | _ :: _, [], h, _ => by simp at h
  | (g, x) :: fs, (g', y) :: vs, h, hv => by
    simp only [List.map_cons, List.cons.injEq] at h
    obtain ⟨h1, h2⟩ := h
    subst h1
    cases hv with
    | cons hx hs =>
      obtain ⟨i1, i2⟩ := look_rel (f := f) h2 hs
      by_cases e : f = g'
      · have b : (f == g') = true := beq_iff_eq.mpr e
        simp only [List.lookup_cons, b]
        exact ⟨fun v q => by cases q; exact ⟨y, rfl, hx⟩, fun q => by cases q⟩
      · have b : (f == g') = false := beq_eq_false_iff_ne.mpr e
        simp only [List.lookup_cons, b]
        exact ⟨i1, i2⟩
theorem put_rel {f : Str} {x : PV} {u : V} (hx : RV K r H x u) : ∀ {fs : List (Str × PV)} {vs : List (Str × V)}, vs.map (·.1) = fs.map (·.1) → RVs K r H (fs.map (·.2)) (vs.map (·.2)) →
    (putF f u vs).map (·.1) = (putA f x fs).map (·.1) ∧ RVs K r H ((putA f x fs).map (·.2)) ((putF f u vs).map (·.2))
  | [], [], _, _ => ⟨rfl, .cons hx .nil⟩
  | [], _ :: _, h, _ => by simp at h
  | _ :: _, [], h, _ => by simp at h
  | (g, z) :: fs, (g', y) :: vs, h, hv => by
    simp only [List.map_cons, List.cons.injEq] at h
    obtain ⟨h1, h2⟩ := h
    subst h1
    cases hv with
    | cons hy hs =>
      by_cases e : g' = f
      · simp only [putF, putA, if_pos e, List.map_cons]
        exact ⟨by rw [h2], .cons hx hs⟩
      · obtain ⟨i1, i2⟩ := put_rel (f := f) hx h2 hs
        simp only [putF, putA, if_neg e, List.map_cons]
        exact ⟨by rw [i1], .cons hy i2⟩
end
section
variable {X : Cx} {cf : CF} {e a b o value : Expr} {es : List Expr} {i io ia iv : E} {pos pos' p tpos apos : Pos} {c f m : Str}
theorem xe_fld (he : XE X cf e i) (k : Cls X.K (He.ga X.K c)) (n : NoAttr X.K (He.ga X.K c) f) (hb : attributeBase e f X.env (eval e X.env) = eval e X.env := by rfl) : XE X cf (.Attribute e f pos) (.fld c f i) := by
  refine pe_imp (pe_fld he hb) fun s H Q h => ?_
  obtain ⟨r, sg, M, z, M', hs, hh, ev, q⟩ := h
  simp only [evE] at ev
  split at ev
  · rename_i nn M1 e1
    obtain ⟨fs, e2, e3⟩ := Option.bind_eq_some_iff.mp ev
    obtain ⟨v, e4, e5⟩ := Option.map_eq_some_iff.mp e3
    cases e5
    refine ⟨r, sg, M, .ref nn, _, hs, hh, e1, fun r1 u1 H1 x1 h1 v1 => ?_⟩
    obtain ⟨a, dx, vs, g1, g2, g3, g4, _⟩ := ins_of h1 e2
    cases v1 with
    | ref hn =>
      rw [g1] at hn; cases hn
      obtain ⟨u, k1, k2⟩ := (look_rel (f := f) g3 g4).1 _ e4
      exact ⟨_, _, dx, vs, u, rfl, g2, k, n, k1, q r1 u H1 x1 h1 k2⟩
  · cases ev
theorem xs_fset (ha : XE X cf o io) (hv : XE X cf value iv) (k : Cls X.K (He.ga X.K c)) (n : NoAttr X.K (He.ga X.K c) f) (hs : swapsWith value (some (.Attribute o f pos')) pos.line X.env = pure false := by rfl) :
    XS X cf (.Assign [.Attribute o f pos'] value pos) (.fset c f io iv) := by
  refine ps_imp (ps_fld ha hv hs) fun D s H q => ?_
  obtain ⟨r, sg, M, fl, M', hs, hh, ev, q⟩ := q
  simp only [evS] at ev
  split at ev
  · rename_i x M1 e1
    split at ev
    · rename_i nn M2 e2
      split at ev
      · rename_i fs e3
        split at ev
        · rename_i hl
          cases ev
          refine ⟨r, sg, M, x, _, hs, hh, e1, fun r1 u1 H1 x1 h1 v1 => ⟨r1, sg, M1, .ref nn, _, hs.ext x1, h1, e2, fun r2 u2 H2 x2 h2 v2 => ?_⟩⟩
          obtain ⟨a, dx, vs, g1, g2, g3, g4, g5⟩ := ins_of h2 e3
          cases v2 with
          | ref hn =>
            rw [g1] at hn; cases hn
            have hlen : vs.length = fs.length := by have := congrArg List.length g3; simpa using this
            refine ⟨_, _, dx, vs, rfl, g2, k, n, by rw [hlen]; exact hl, ?_⟩
            have x3 := ext_set (r := r2) (o := .ins (He.ga X.K c) dx (putF f u1 vs)) g2 trivial (List.mem_of_getElem? g1)
            obtain ⟨p1, p2⟩ := put_rel (f := f) (v1.ext x2) g3 g4
            exact q r2 _ (x1.trans (x2.trans x3)) (h2.set g1 ⟨dx, _, upd_same, p1, p2.ext x3⟩) s (hs.ext (x1.trans (x2.trans x3)))
        · cases ev
      · cases ev
    · cases ev
  · cases ev
theorem xs_faug (ha : XE X cf o io) (hv : XE X cf value iv) (k : Cls X.K (He.ga X.K c)) (n : NoAttr X.K (He.ga X.K c) f) : XS X cf (.AugAssign (.Attribute o f tpos) .Add value pos) (.faug c f io iv) := by
  refine ps_imp (ps_fldaug ha hv in_add) fun D s H q => ?_
  obtain ⟨r, sg, M, fl, M', hs, hh, ev, q⟩ := q
  simp only [evS] at ev
  split at ev
  · rename_i nn M1 e1
    split at ev
    · rename_i fs e2
      split at ev
      · rename_i ii e3
        split at ev
        · rename_i jj M2 e4
          split at ev
          · rename_i gs e5
            split at ev
            · rename_i hl
              cases ev
              refine ⟨r, sg, M, .ref nn, _, hs, hh, e1, fun r1 u1 H1 x1 h1 v1 => ?_⟩
              obtain ⟨a, dx, vs, g1, g2, g3, g4, g5⟩ := ins_of h1 e2
              cases v1 with
              | ref hn =>
                rw [g1] at hn; cases hn
                obtain ⟨u, k1, k2⟩ := (look_rel (f := f) g3 g4).1 _ e3
                cases k2
                refine ⟨_, _, dx, vs, _, rfl, g2, k, n, k1, r1, sg, M1, .int jj, _, hs.ext x1, h1, e4, fun r2 u2 H2 x2 h2 v2 => ?_⟩
                cases v2
                obtain ⟨a', dx', vs', g1', g2', g3', g4', g5'⟩ := ins_of h2 e5
                have ea := x2.at g1
                rw [g1'] at ea; cases ea
                have hlen : vs'.length = gs.length := by have := congrArg List.length g3'; simpa using this
                refine ⟨ii, jj, rfl, rfl, dx', vs', g2', by rw [hlen]; exact hl, ?_⟩
                have x3 := ext_set (r := r2) (o := .ins (He.ga X.K c) dx' (putF f (.int (ii + jj)) vs')) g2' trivial (List.mem_of_getElem? g1')
                obtain ⟨p1, p2⟩ := put_rel (K := X.K) (r := r2) (H := H2) (f := f) (x := .int (ii + jj)) (.int _) g3' g4'
                exact q r2 _ (x1.trans (x2.trans x3)) (h2.set g1' ⟨dx', _, upd_same, p1, p2.ext x3⟩) s (hs.ext (x1.trans (x2.trans x3)))
            · cases ev
          · cases ev
        · cases ev
      · cases ev
    · cases ev
  · cases ev
/-- a method of the class c -/
structure OwnM (P : Program) (w : World) (K : PySem.W.Frag) (mg : Str → Option Value) (base : Heap) (A : Around) (cf : CF) (c m : Str) (n : Nat) (ps : List Str) : Prop where
  ex : ∃ k f fd, FnOk P w K mg base CX0 k f fd ps (spEv K cf n ps.length) ∧ Room k A ∧ Meth K (He.ga K c) m f ∧ Binds K fd ps []
  cl : Cls K (He.ga K c)
  len : ∀ xs M z, cf n xs M = some z → xs.length = ps.length
theorem mc_red {n : Nat} {np : Nat} {j : Es} {ta : TA} {s : L2.St} {H : Hp} {Q : VK} {E : L2.XK} (hl : ∀ xs M z, cf n xs M = some z → xs.length = np) (hta : ∀ s H Q, TAv X.K (evEs cf j) s H Q → ta s H Q) (q : TEv X.K (evE cf (.mc c m n io j)) s H Q) :
    TEv X.K (evE cf io) s H fun x H1 => ∃ a dx fs, x = .ref a ∧ H1 a = some (.ins (He.ga X.K c) dx fs) ∧ fs.lookup m = none ∧ ta s H1 fun vs H2 => spEv X.K cf n np (x :: vs) H2 Q E := by
  obtain ⟨r, sg, M, z, M', hs, hh, ev, q⟩ := q
  simp only [evE] at ev
  split at ev
  · rename_i nn M1 e1
    split at ev
    · rename_i fs e2
      split at ev
      · rename_i e3
        split at ev
        · rename_i xs M2 e4
          refine ⟨r, sg, M, .ref nn, _, hs, hh, e1, fun r1 u1 H1 x1 h1 v1 => ?_⟩
          obtain ⟨a, dx, vs, g1, g2, g3, g4, g5⟩ := ins_of h1 e2
          cases v1 with
          | ref hn =>
            rw [g1] at hn; cases hn
            refine ⟨_, dx, vs, rfl, g2, (look_rel (f := m) g3 g4).2 (by simpa using e3), hta _ _ _ ⟨r1, sg, M1, xs, M2, hs.ext x1, h1, e4, fun r2 us H2 x2 h2 v2 => ?_⟩⟩
            have vv : RVs X.K r2 H2 (.ref nn :: xs) (.ref _ :: us) := .cons (.ref (x2.at g1)) v2
            exact ⟨by rw [← vv.length]; exact hl _ _ _ ev, r2, M2, _, z, M', h2, vv, ev, fun r3 u3 H3 x3 h3 v3 => q r3 u3 H3 (x1.trans (x2.trans x3)) h3 v3⟩
        · cases ev
      · cases ev
    · cases ev
  · cases ev
theorem xe_mc {n : Nat} {ps : List Str} {j : Es} {pl : Sem Bool} (O : OwnM X.prog X.w X.K X.mg X.base X.A cf c m n ps) (ho : XE X cf o io) (ha : XA X cf (e :: es) j)
    (hst : starEach (e :: es) X.env = (false, eval e X.env) :: starEach es X.env := by rfl) (hpl : (backTo pos (starEach es X.env)).any (·.1) = false := by rfl)
    (ht : eval (.Call (.Attribute o m apos) (e :: es) [] pos) X.env = (do
      let ov ← eval o X.env
      standAt apos.atName
      let (f, first) ← holding [ov] (getMethod ov m pl)
      callWith pos f first (backTo pos (starEach (e :: es) X.env)) (backToKw pos (keywordEach [] X.env))) := by rfl) :
    XE X cf (.Call (.Attribute o m apos) (e :: es) [] pos) (.mc c m n io j) := by
  obtain ⟨k, f, fd, F, hr, hm, hb⟩ := O.ex
  refine pe_imp (pe_meth ho O.cl hm F hr hb .nil pass0 ha hst hpl ht) fun s H Q q => ?_
  have := mc_red (E := E0) (np := ps.length) O.len (fun _ _ _ q => q) q
  unfold tMeth
  simp only [List.append_nil]
  exact this
theorem xe_mc0 {n : Nat} {ps : List Str} {pl : Sem Bool} (O : OwnM X.prog X.w X.K X.mg X.base X.A cf c m n ps) (ho : XE X cf o io)
    (ht : eval (.Call (.Attribute o m apos) [] [] pos) X.env = (do
      let ov ← eval o X.env
      standAt apos.atName
      let (f, first) ← holding [ov] (getMethod ov m pl)
      callWith pos f first (backTo pos (starEach [] X.env)) (backToKw pos (keywordEach [] X.env))) := by rfl) :
    XE X cf (.Call (.Attribute o m apos) [] [] pos) (.mc c m n io .nil) := by
  obtain ⟨k, f, fd, F, hr, hm, hb⟩ := O.ex
  refine pe_imp (pe_meth0 ho O.cl hm F hr hb .nil pass0 ht) fun s H Q q => ?_
  have := mc_red (E := E0) (np := ps.length) (ta := tNil) O.len (fun s H Q q => by
    obtain ⟨r, sg, M, xs, M', hs, hh, ev, q⟩ := q
    simp only [evEs] at ev
    cases ev
    exact q r [] H .refl hh .nil) q
  unfold tMeth
  simp only [List.append_nil]
  exact this
/-- a class that is called -/
structure OwnC (P : Program) (w : World) (K : PySem.W.Frag) (mg : Str → Option Value) (base : Heap) (A : Around) (cf : CF) (c : Str) (n : Nat) (ps : List Str) : Prop where
  ex : (∀ xs M, cf n xs M = none) ∨ ∃ k f fd i cf', FnOk P w K mg base CX0 k f fd ("self" :: ps) (spEv K cf' i (ps.length + 1)) ∧ Room (k + 1) A ∧ Mk K (He.ga K c) f ∧ mg c = some (.ref (He.ga K c)) ∧ Binds K fd ("self" :: ps) [] ∧ (∀ xs M, cf n xs M = mkD cf' c i xs M) ∧ ∀ xs M z, cf' i xs M = some z → xs.length = ps.length + 1
theorem make_red {n i np : Nat} {cf' : CF} {j : Es} {ta : TA} {s : L2.St} {H : Hp} {Q : VK} {E : L2.XK} (hcf : ∀ xs M, cf n xs M = mkD cf' c i xs M) (hl : ∀ xs M z, cf' i xs M = some z → xs.length = np + 1) (hta : ∀ s H Q, TAv X.K (evEs cf j) s H Q → ta s H Q) (q : TEv X.K (evE cf (.call n j)) s H Q) :
    ta s H fun vs H1 => ∀ x dx, H1 x = none → H1 dx = none → dx ≠ x → spEv X.K cf' i (np + 1) (.ref x :: vs) (upd (upd H1 dx (.own x)) x (.ins (He.ga X.K c) dx [])) (fun v H2 => v = .non ∧ Q (.ref x) H2) E := by
  obtain ⟨r, sg, M, z, M', hs, hh, ev, q⟩ := q
  simp only [evE] at ev
  split at ev
  · rename_i xs M1 e1
    rw [hcf] at ev
    unfold mkD at ev
    split at ev
    · rename_i M2 e2
      cases ev
      refine hta _ _ _ ⟨r, sg, M, xs, M1, hs, hh, e1, fun r1 us H1 x1 h1 v1 x dx hx hd ne => ?_⟩
      have xa := ext_new0 (r := r1) (o := .own x) hd
      have ha := h1.other (.own x) hd
      have hx2 : (upd H1 dx (.own x)) x = none := by rw [upd_ne (Ne.symm ne)]; exact hx
      have xb := ext_new (r := r1) (o := .ins (He.ga X.K c) dx []) hx2 [x]
      have hb := ha.new (o := .ins c []) hx2 (ho := .ins (He.ga X.K c) dx []) ⟨dx, [], upd_same, rfl, .nil⟩
      have vx : RV X.K (r1 ++ [x]) (upd (upd H1 dx (.own x)) x (.ins (He.ga X.K c) dx [])) (.ref M1.length) (.ref x) := .ref (by rw [← h1.len]; simp)
      have vv : RVs X.K (r1 ++ [x]) (upd (upd H1 dx (.own x)) x (.ins (He.ga X.K c) dx [])) (.ref M1.length :: xs) (.ref x :: us) := .cons vx ((v1.ext xa).ext xb)
      refine ⟨by rw [← vv.length]; exact hl _ _ _ e2, _, _, _, .non, M', hb, vv, e2, fun r2 u2 H2 x2 h2 v2 => ?_⟩
      cases v2
      exact ⟨rfl, q r2 _ H2 (x1.trans (xa.trans (xb.trans x2))) h2 (vx.ext x2)⟩
    · cases ev
  · cases ev
theorem xe_make {x : Str} {n : Nat} {ps : List Str} {j : Es} (O : OwnC X.prog X.w X.K X.mg X.base X.A cf x n ps) (hg : Gl X x) (ha : XA X cf (e :: es) j)
    (hdb : (x == ("__debug__" : Str)) = false := by decide) (he : starEach (e :: es) X.env = (false, eval e X.env) :: starEach es X.env := by rfl) (hpl : (backTo pos (starEach es X.env)).any (·.1) = false := by rfl) :
    XE X cf (.Call (.Name x p) (e :: es) [] pos) (.call n j) := by
  rcases O.ex with z | ⟨k, f, fd, i, cf', F, hr, hM, hm, hb, hcf, hl⟩
  · refine ⟨fun pins s σ H Q I h => ?_⟩
    obtain ⟨r, sg, M, z', M', hs, hh, ev, q⟩ := h
    simp only [evE] at ev
    split at ev
    · rw [z] at ev; cases ev
    · cases ev
  · refine pe_imp (pe_make hM F hr hg hm hb .nil pass0 ha hdb he hpl) fun s H Q q => ?_
    have := make_red (E := E0) hcf hl (fun _ _ _ q => q) q
    unfold tMake
    simp only [List.append_nil]
    exact this
theorem xe_make0 {x : Str} {n : Nat} {ps : List Str} (O : OwnC X.prog X.w X.K X.mg X.base X.A cf x n ps) (hg : Gl X x) (hdb : (x == ("__debug__" : Str)) = false := by decide) :
    XE X cf (.Call (.Name x p) [] [] pos) (.call n .nil) := by
  rcases O.ex with z | ⟨k, f, fd, i, cf', F, hr, hM, hm, hb, hcf, hl⟩
  · refine ⟨fun pins s σ H Q I h => ?_⟩
    obtain ⟨r, sg, M, z', M', hs, hh, ev, q⟩ := h
    simp only [evE] at ev
    split at ev
    · rw [z] at ev; cases ev
    · cases ev
  · refine pe_imp (pe_make0 hM F hr hg hm hb .nil pass0 hdb) fun s H Q q => ?_
    have := make_red (E := E0) (ta := tNil) hcf hl (fun s H Q q => by
      obtain ⟨r, sg, M, xs, M', hs, hh, ev, q⟩ := q
      simp only [evEs] at ev
      cases ev
      exact q r [] H .refl hh .nil) q
    unfold tMake
    simp only [List.append_nil]
    exact this
end
end Mp

/-! MpK: a dict of the top with text keys and tuples of defs; defs as values. -/
namespace Mp
open PySem L2

/-- the dict of the top by the name d: text keys, each with a tuple of defs -/
structure KTab (K : PySem.W.Frag) (w : World) (d : Str) (tb : List (Str × List (Nat × Str))) : Prop where
  dict : ∃ es n, KDict K w (He.ga K d) es n
  miss : ∀ z, (tb.any fun q => decide (q.1 = z)) = false → PySem.W.nsIn K (He.ga K d) z = some none
  hit : ∀ z q, (tb.find? fun q => decide (q.1 = z)) = some q → ∃ t, PySem.W.nsIn K (He.ga K d) z = some (some (.ref t)) ∧ ∀ H, SqT K H t (q.2.map fun p => V.ref (He.ga K p.2))
theorem rvs_fn {K : PySem.W.Frag} {r : List Addr} {H : Hp} : ∀ fs : List (Nat × Str), RVs K r H (fs.map fun p => .fn p.1 p.2) (fs.map fun p => V.ref (He.ga K p.2))
  | [] => .nil
  | p :: fs => .cons (.fn p.1 p.2) (rvs_fn fs)
section
variable {X : Cx} {cf : CF} {e a b : Expr} {es : List Expr} {i ia : E} {pos p gp : Pos} {d : Str} {tb : List (Str × List (Nat × Str))}
theorem xe_knot (D : KTab X.K X.w d tb) (ha : XE X cf a ia) (hg : Gl X d) (hm : X.mg d = some (.ref (He.ga X.K d))) (hmk : behindInMarks .NotIn (.Name d gp) = false := by rfl) (hd : (d == ("__debug__" : Str)) = false := by decide) :
    XE X cf (.Compare a [.NotIn] [.Name d gp] pos) (.knot tb ia) := by
  obtain ⟨es, n, KD⟩ := D.dict
  refine pe_imp (pe_cmpR (op_notIn_kd KD) ha (pe_glob (v := .ref (He.ga X.K d)) hg hm rfl hd) hmk) fun s H Q h => ?_
  obtain ⟨r, sg, M, z, M', hs, hh, ev, q⟩ := h
  simp only [evE] at ev
  split at ev
  · rename_i zs M1 e1
    cases ev
    refine ⟨r, sg, M, .str zs, _, hs, hh, e1, fun r1 u1 H1 x1 h1 v1 => ?_⟩
    cases v1
    cases hb : tb.any fun q => decide (q.1 = zs) with
    | false =>
      refine ⟨zs, none, rfl, rfl, D.miss zs hb, ?_⟩
      have := q r1 (.bl true) H1 x1 h1 (by rw [hb]; exact .bl _)
      exact this
    | true =>
      have hf : ∃ q, (tb.find? fun q => decide (q.1 = zs)) = some q := by
        cases hf : tb.find? fun q => decide (q.1 = zs) with
        | some q => exact ⟨q, rfl⟩
        | none =>
          rw [List.find?_eq_none] at hf
          obtain ⟨q, h1, h2⟩ := List.any_eq_true.mp hb
          exact absurd h2 (hf q h1)
      obtain ⟨q0, hf⟩ := hf
      obtain ⟨t, ht, _⟩ := D.hit zs q0 hf
      refine ⟨zs, _, rfl, rfl, ht, ?_⟩
      exact q r1 (.bl false) H1 x1 h1 (by rw [hb]; exact .bl _)
  · cases ev
theorem xt_knot (D : KTab X.K X.w d tb) (ha : XE X cf a ia) (hg : Gl X d) (hm : X.mg d = some (.ref (He.ga X.K d))) (hmk : behindInMarks .NotIn (.Name d gp) = false := by rfl) (hd : (d == ("__debug__" : Str)) = false := by decide) :
    XT X cf (.Compare a [.NotIn] [.Name d gp] pos) (.knot tb ia) := by
  obtain ⟨es, n, KD⟩ := D.dict
  refine pt_imp (pt_cmpR (op_notIn_kd KD) ha (pe_glob (v := .ref (He.ga X.K d)) hg hm rfl hd) hmk) fun s H Q h => ?_
  obtain ⟨r, sg, M, bb, M', hs, hh, ev, q⟩ := h
  simp only [evE] at ev
  split at ev
  · rename_i zs M1 e1
    cases ev
    refine ⟨r, sg, M, .str zs, _, hs, hh, e1, fun r1 u1 H1 x1 h1 v1 => ?_⟩
    cases v1
    cases hb : tb.any fun q => decide (q.1 = zs) with
    | false =>
      rw [hb] at q
      exact ⟨zs, none, rfl, rfl, D.miss zs hb, _, rfl, q r1 H1 x1 h1⟩
    | true =>
      have hf : ∃ q, (tb.find? fun q => decide (q.1 = zs)) = some q := by
        cases hf : tb.find? fun q => decide (q.1 = zs) with
        | some q => exact ⟨q, rfl⟩
        | none =>
          rw [List.find?_eq_none] at hf
          obtain ⟨q, h1, h2⟩ := List.any_eq_true.mp hb
          exact absurd h2 (hf q h1)
      obtain ⟨q0, hf⟩ := hf
      obtain ⟨t, ht, _⟩ := D.hit zs q0 hf
      rw [hb] at q
      exact ⟨zs, _, rfl, rfl, ht, _, rfl, q r1 H1 x1 h1⟩
  · cases ev
theorem xe_kidx (D : KTab X.K X.w d tb) (ha : XE X cf a ia) (hg : Gl X d) (hm : X.mg d = some (.ref (He.ga X.K d))) (hp : PlainIx a) (hd : (d == ("__debug__" : Str)) = false := by decide) :
    XE X cf (.Subscript (.Name d gp) a pos) (.kidx tb ia) := by
  obtain ⟨es, n, KD⟩ := D.dict
  refine pe_imp (pe_ix ix_kdict (pe_glob (v := .ref (He.ga X.K d)) hg hm rfl hd) ha hp) fun s H Q h => ?_
  obtain ⟨r, sg, M, z, M', hs, hh, ev, q⟩ := h
  simp only [evE] at ev
  split at ev
  · rename_i zs M1 e1
    obtain ⟨q0, hf, e2⟩ := Option.map_eq_some_iff.mp ev
    cases e2
    refine ⟨r, sg, M, .str zs, _, hs, hh, e1, fun r1 u1 H1 x1 h1 v1 => ?_⟩
    cases v1
    obtain ⟨t, ht, hq⟩ := D.hit zs q0 hf
    exact ⟨_, zs, .ref t, rfl, rfl, ⟨es, n, _, KD.at_, KD.lit, ht, rfl⟩, q r1 _ H1 x1 h1 (.tup (hq H1) (rvs_fn _))⟩
  · cases ev
/-- a def as a value -/
structure OwnF (P : Program) (w : World) (K : PySem.W.Frag) (mg : Str → Option Value) (base : Heap) (A : Around) (cf : CF) (n : Nat) (x : Str) : Prop where
  ex : ∃ k fd ps, FnOk P w K mg base CX0 k (He.ga K x) fd ps (spEv K cf n ps.length) ∧ Room k A ∧ PySem.W.keepIn K (.ref (He.ga K x)) = true ∧ Binds K fd ps [] ∧ ∀ xs M z, cf n xs M = some z → xs.length = ps.length
theorem xe_callv {v : Str} {k : Nat} {fs : List (Nat × Str)} {j : Es} (O : ∀ q ∈ fs, OwnF X.prog X.w X.K X.mg X.base X.A cf q.1 q.2) (ha : XA X cf (e :: es) j) (hN : X.N[k]? = some v) (hv : Vis X.env.scope v)
    (hd : (v == ("__debug__" : Str)) = false := by decide) (hcd : (v == ("__classdict__" : Str)) = false := by decide)
    (he : starEach (e :: es) X.env = (false, eval e X.env) :: starEach es X.env := by rfl) (hpl : (backTo pos (starEach es X.env)).any (·.1) = false := by rfl) :
    XE X cf (.Call (.Name v p) (e :: es) [] pos) (.callv k fs j) := by
  refine ⟨fun pins s σ H Q I h => ?_⟩
  obtain ⟨r, sg, M, z, M', hs, hh, ev, q⟩ := h
  simp only [evE] at ev
  split at ev
  · rename_i n x e1
    split at ev
    · rename_i hm
      split at ev
      · rename_i xs M1 e2
        obtain ⟨kk, fd, ps, F, hr, hk, hb, hl⟩ := (O _ hm).ex
        have FR := FnOk.raw F hb .nil
        refine (ItX.pe_callV FR hr hk pass0 hN hv ha hd hcd he hpl).run pins s σ H Q I ⟨?_, ?_⟩
        · obtain ⟨u, h1, h2⟩ := hs.at_ k _ e1
          cases h2
          exact h1
        · refine ⟨r, sg, M, xs, M1, hs, hh, e2, fun r1 us H1 x1 h1 v1 => ?_⟩
          simp only [List.append_nil]
          exact ⟨by rw [← v1.length]; exact hl _ _ _ ev, r1, M1, xs, z, M', h1, v1, ev, fun r2 u2 H2 x2 h2 v2 => q r2 u2 H2 (x1.trans x2) h2 v2⟩
      · cases ev
    · cases ev
  · cases ev
end
end Mp

/-! MpRev: t[::-1] of a tuple. -/
namespace Mp
open PySem PySem.Spec PyProof.Rows L2
section
variable {prog : Program} {w : World} {A : Around} {E : Value → Shared → Prop} {s : Shared}
theorem fm_congr {α β : Type} {f g : α → Option β} : ∀ {l : List α}, (∀ x ∈ l, f x = g x) → l.filterMap f = l.filterMap g
  | [], _ => rfl
  | a :: l, h => by
    rw [List.filterMap_cons, List.filterMap_cons, h a (by simp), fm_congr (l := l) fun x hx => h x (by simp [hx])]
theorem rv_adjust (n : Nat) : Builtin.Slice.sliceAdjust none none (-1) (n : Int) = ((n : Int) - 1, -1) := by
  unfold Builtin.Slice.sliceAdjust
  simp
theorem rv_places (n : Nat) : Builtin.Slice.slicePlaces ((n : Int) - 1) (-1) (-1) = n := by
  unfold Builtin.Slice.slicePlaces
  have h1 : ¬ ((-1 : Int) > 0) := by omega
  simp only [h1, if_false]
  split
  · simp
  · omega
theorem rv_applied {sl : Addr} {va vb vc : Value} {n : Nat} {Q : Int × Int × Nat → Shared → Prop} (hx : s.heap.IsSliceOf sl va vb vc) (pa : IsPart va none) (pb : IsPart vb none) (pc : IsPart vc (some (-1)))
    (h : Q ((n : Int) - 1, -1, n) s) : wpAny (model prog w) A (Builtin.Slice.sliceApplied (.ref sl) (pure (n : Int))) Q E s := by
  obtain ⟨o, h1, _, h3⟩ := id hx
  unfold Builtin.Slice.sliceApplied Builtin.Slice.sliceFields
  refine wpAny_bind (wpAny_bind (wpAny_field h1 h3 (x := va) rfl (wpAny_bind (wpAny_field h1 h3 (x := vb) rfl (wpAny_bind (wpAny_field h1 h3 (x := vc) rfl (wpAny_pure ?_)))))))
  refine wpAny_bind (HT.slicePart_ pc ?_)
  show wpAny _ _ (if ((-1 : Int) == 0) = true then _ else _) _ _ s
  rw [if_neg (by decide)]
  refine wpAny_bind (HT.slicePart_ pa (wpAny_bind (HT.slicePart_ pb (wpAny_bind (wpAny_pure ?_)))))
  show wpAny _ _ (match Builtin.Slice.sliceAdjust none none (-1) (n : Int) with | (x, y) => pure (x, (-1 : Int), Builtin.Slice.slicePlaces x y (-1))) _ _ s
  rw [rv_adjust n]
  show wpAny _ _ (pure ((n : Int) - 1, (-1 : Int), Builtin.Slice.slicePlaces ((n : Int) - 1) (-1) (-1))) _ _ s
  rw [rv_places]
  exact wpAny_pure h
theorem rv_pick (its : List Value) : ((List.range its.toArray.size).filterMap fun (m : Nat) => its.toArray[((its.toArray.size : Int) - 1 + (m : Int) * (-1)).toNat]?).toArray = its.reverse.toArray := by
  congr 1
  apply List.ext_getElem?
  intro i
  have hmap : ((List.range its.toArray.size).filterMap fun (m : Nat) => its.toArray[((its.toArray.size : Int) - 1 + (m : Int) * (-1)).toNat]?) = (List.range its.length).filterMap fun m => its.reverse[m]? := by
    have hsz : its.toArray.size = its.length := by simp
    rw [hsz]
    apply fm_congr
    intro m hm
    have hm : m < its.length := by simpa using hm
    have e : ((its.length : Int) - 1 + (m : Int) * (-1)).toNat = its.length - 1 - m := by omega
    rw [e, List.getElem?_reverse hm]
    simp
  rw [hmap]
  have hid : ∀ l : List Value, (List.range l.length).filterMap (fun m => l[m]?) = l := by
    intro l
    induction l with
    | nil => rfl
    | cons a l ih =>
      rw [List.length_cons, List.range_succ_eq_map, List.filterMap_cons]
      simp only [List.getElem?_cons_zero]
      rw [List.filterMap_map]
      congr 1
  have := hid its.reverse
  rw [List.length_reverse] at this
  rw [this]
theorem rv_get {t sl : Addr} {its : List Value} {va vb vc : Value} {Q : Value → Shared → Prop} (ht : IsTup s.heap t its.toArray) (hx : s.heap.IsSliceOf sl va vb vc) (pa : IsPart va none) (pb : IsPart vb none) (pc : IsPart vc (some (-1)))
    (h : Q (.ref s.heap.objs.size) { s with heap := s.heap.push { cls := .type "tuple", data := .seq its.reverse.toArray } }) (hz : its.length ≤ sizeLine) :
    wpAny (model prog w) A (getItem (.ref t) (.ref sl)) Q E s := by
  have hk : sizeOk (.seq its.reverse.toArray) := by
    show its.reverse.toArray.size ≤ sizeLine
    simpa using hz
  obtain ⟨o, h1, h2, h3⟩ := id hx
  have hT : s.TypeIs (.ref sl) "slice" := ⟨o, h1, h2⟩
  unfold getItem
  try with_reducible refine wpAny_holding ?_
  first | refine wpAny_bind (wpAny_pure ?_) | skip
  refine wpAny_bind (wpAny_sequenceKey ht.typeIs (by decide) ?_)
  refine wpAny_bind (wpAny_callSpecial?_slot (name := Str.ofString "__getitem__") ht.typeIs PyProof.Rows.slot_tuple_getitem (wpAny_call_entry PyProof.Rows.slot_tuple_getitem ht.typeIs entry_tuple_getitem ?_ (args_tuple_getitem _ _)))
  show wpAny _ _ (Builtin.Tuple.tupleItemsOf (.ref t) >>= _) _ _ s
  refine wpAny_bind (tupleItemsOf_ ht (wpAny_bind (wpAny_typeOf hT ?_)))
  rw [if_pos (by decide)]
  refine wpAny_bind (rv_applied hx pa pb pc ?_)
  have hno : ¬ ((((its.toArray.size : Int) - 1) == 0 && (-1 : Int) == 1 && its.toArray.size == its.toArray.size) = true) := by
    simp
  show wpAny _ _ (if (((its.toArray.size : Int) - 1) == 0 && (-1 : Int) == 1 && its.toArray.size == its.toArray.size) = true then _ else _) _ _ s
  rw [if_neg hno, rv_pick]
  first
    | exact wpAny_bind (m := Builtin.Tuple.tupleExact _) (wpAny_newObj_type (wpAny_pure ⟨_, rfl, wpAny_pure h⟩) hk)
    | exact wpAny_bind (m := Builtin.Tuple.tupleExact _) (wpAny_newObj_type (wpAny_bind (wpAny_pure (wpAny_pure ⟨_, rfl, wpAny_pure h⟩))) hk)
    | exact wpAny_bind (wpAny_bind (m := Builtin.Tuple.tupleExact _) (wpAny_newObj_type (wpAny_pure (wpAny_pure ⟨_, rfl, wpAny_pure h⟩)) hk))
    | exact wpAny_bind (wpAny_bind (m := Builtin.Tuple.tupleExact _) (wpAny_newObj_type (wpAny_pure ⟨_, rfl, wpAny_pure h⟩) hk))
end
section
variable {X : Cx} {cf : CF} {e : Expr} {i : E}
def tRevT (K : PySem.W.Frag) (te : TE) : TE := fun σ H Q => te σ H fun x H1 => ∃ a xs, x = .ref a ∧ SqT K H1 a xs ∧ ∀ p, H1 p = none → Q (.ref p) (upd H1 p (.tup xs.reverse))
theorem pe_revT {te : TE} {k : Nat} {p1 p2 p3 pos : Pos} (he : PE X e te) : PE X (.Subscript e (.Slice none none (some (.UnaryOp .USub (.Constant (.int 1) k p1) p2)) p3) pos) (tRevT X.K te) := by
  refine ⟨fun pins s σ H Q I h => ?_⟩
  refine Subscript_ (thn (he.run pins s σ H _ I h) fun v sa ⟨x, Ha, Ia, ra, a, xs, ex, hx, q⟩ => ?_)
  subst ex
  cases ra
  have st : PO X (some (.UnaryOp .USub (.Constant (.int 1) k p1) p2)) (tPart (tUn (rU fun i => .int (-i)) (tC (.int 1)))) := po_some (pe_un un_neg pe_int)
  refine wpAny_Slice (thn (po_none.run pins sa σ Ha (fun o H2 => o = none ∧ H2 = Ha) Ia ⟨rfl, rfl⟩) fun va sb ⟨oa, Hb, Ib, pa, ea, eb⟩ => ?_)
  subst ea eb
  refine thn (po_none.run pins sb σ Hb (fun o H2 => o = none ∧ H2 = Hb) Ib ⟨rfl, rfl⟩) fun vb sc ⟨ob, Hc, Ic, pb, eb, ec⟩ => ?_
  subst eb ec
  refine thn (st.run pins sc σ Hc (fun o H2 => o = some (-1) ∧ H2 = Hc) Ic ⟨1, rfl, -1, rfl, rfl, rfl⟩) fun vc sd ⟨oc, Hd, Id, pc, ec, ed⟩ => ?_
  subst ec ed
  have Ie : Inv X pins σ Hd { sd with heap := sd.heap.push { cls := .type "slice", data := .fields #[va, vb, vc] } } := Id.kept (t' := sd.toks) fun b ob q => Heap.get?_push_of_some _ q
  obtain ⟨its, r, ht, hz⟩ := Ie.tuple hx
  have hlen := r.length
  show wpAny (model X.prog X.w) X.A (subscriptTail e (.Slice none none (some (.UnaryOp .USub (.Constant (.int 1) k p1) p2)) p3) (.ref a) (.ref sd.heap.objs.size)) (EP X pins σ Q) X.xe { sd with heap := sd.heap.push { cls := .type "slice", data := .fields #[va, vb, vc] } }
  refine tail_any (ops := [.ref a, .ref sd.heap.objs.size]) ht.typeIs PyProof.Rows.slot_tuple_getitem.lookup ?_ (by with_unfolding_all rfl)
  refine rv_get ht (Heap.IsSliceOf.new _ va vb vc) pa pb pc ?_ (by rw [← hlen]; exact hz)
  refine ⟨.ref _, _, Ie.laid (t' := sd.toks) (o := .tup xs.reverse) (fun b ob q => Heap.get?_push_of_some _ q) (Nat.le_refl _) ?_, rfl, q _ (Ie.hok.fresh (Nat.le_refl _))⟩
  exact ⟨by rw [List.length_reverse]; exact hz, _, r.reverse, IsTup.new _ _⟩
theorem xe_rev {k : Nat} {p1 p2 p3 pos : Pos} (he : XE X cf e i) : XE X cf (.Subscript e (.Slice none none (some (.UnaryOp .USub (.Constant (.int 1) k p1) p2)) p3) pos) (.rev i) := by
  refine pe_imp (pe_revT he) fun s H Q h => ?_
  obtain ⟨r, sg, M, z, M', hs, hh, ev, q⟩ := h
  simp only [evE] at ev
  split at ev
  · rename_i xs M1 e1
    cases ev
    refine ⟨r, sg, M, .tup xs, _, hs, hh, e1, fun r1 u1 H1 x1 h1 v1 => ?_⟩
    cases v1 with
    | tup ht hv => exact ⟨_, _, rfl, ht, fun p hp => (show Post X.K r1 H1 (.tup xs.reverse) M' Q from fun r2 u2 H2 x2 h2 v2 => q r2 u2 H2 (x1.trans x2) h2 v2).tup h1 hv.reverse hp⟩
  · cases ev
end
end Mp

/-! Mp3i: d.get(k); what every name of the program stands for, to a depth. -/
namespace Mp
open PySem L2
inductive Kd where
  | fn | me (c : Str) | mk
structure Nx where
  kd : Kd
  x : Str
  ps : List Str
  kw : Bool
def Calls2 (P : Program) (w : World) (K : PySem.W.Frag) (mg : Str → Option Value) (base : Heap) (names : List Nx) (cf : CF) (k : Nat) : Prop :=
  ∀ (n : Nat) (nm : Nx), names[n]? = some nm →
    match nm.kd with
    | .fn => (∃ fd, FnOk P w K mg base CX0 k (He.ga K nm.x) fd nm.ps (spEv K cf n nm.ps.length) ∧ mg nm.x = some (.ref (He.ga K nm.x)) ∧ PySem.W.keepIn K (.ref (He.ga K nm.x)) = true ∧ Binds K fd nm.ps [] ∧ (nm.kw = true → KBinds K fd nm.ps nm.ps gK gKV)) ∧
        ∀ xs M z, cf n xs M = some z → xs.length = nm.ps.length
    | .me c => (∃ f fd, FnOk P w K mg base CX0 k f fd nm.ps (spEv K cf n nm.ps.length) ∧ Meth K (He.ga K c) nm.x f ∧ Binds K fd nm.ps []) ∧ Cls K (He.ga K c) ∧ ∀ xs M z, cf n xs M = some z → xs.length = nm.ps.length
    | .mk => (∀ xs M, cf n xs M = none) ∨ ∃ k' f fd i cf', k' + 1 ≤ k ∧ FnOk P w K mg base CX0 k' f fd ("self" :: nm.ps) (spEv K cf' i (nm.ps.length + 1)) ∧ Mk K (He.ga K nm.x) f ∧ mg nm.x = some (.ref (He.ga K nm.x)) ∧ Binds K fd ("self" :: nm.ps) [] ∧ (∀ xs M, cf n xs M = mkD cf' nm.x i xs M) ∧ ∀ xs M z, cf' i xs M = some z → xs.length = nm.ps.length + 1
section
variable {P : Program} {w : World} {K : PySem.W.Frag} {mg : Str → Option Value} {base : Heap} {names : List Nx} {cf : CF} {k : Nat} {A : Around} {n : Nat} {x c : Str} {ps : List Str} {kw : Bool}
theorem Calls2.own (C : Calls2 P w K mg base names cf k) (hr : Room k A) (h : names[n]? = some ⟨.fn, x, ps, kw⟩) : Own P w K mg base A cf x n ps kw := by
  obtain ⟨⟨fd, h1, h2, h3, h4, h5⟩, hl⟩ := C n _ h
  exact ⟨⟨k, _, fd, h1, hr, h2, h3, h4, h5⟩, hl⟩
theorem Calls2.ownF (C : Calls2 P w K mg base names cf k) (hr : Room k A) (h : names[n]? = some ⟨.fn, x, ps, kw⟩) : OwnF P w K mg base A cf n x := by
  obtain ⟨⟨fd, h1, h2, h3, h4, h5⟩, hl⟩ := C n _ h
  exact ⟨k, fd, ps, h1, hr, h3, h4, hl⟩
theorem Calls2.ownM (C : Calls2 P w K mg base names cf k) (hr : Room k A) (h : names[n]? = some ⟨.me c, x, ps, kw⟩) : OwnM P w K mg base A cf c x n ps := by
  obtain ⟨⟨f, fd, h1, h2, h3⟩, hc, hl⟩ := C n _ h
  exact ⟨⟨k, f, fd, h1, hr, h2, h3⟩, hc, hl⟩
theorem Calls2.ownC (C : Calls2 P w K mg base names cf k) (hr : Room k A) (h : names[n]? = some ⟨.mk, x, ps, kw⟩) : OwnC P w K mg base A cf x n ps := by
  rcases C n _ h with z | ⟨k', f, fd, i, cf', hk, h1, h2, h3, h4, h5, h6⟩
  · exact ⟨.inl z⟩
  · exact ⟨.inr ⟨k', f, fd, i, cf', h1, hr.mono hk, h2, h3, h4, h5, h6⟩⟩
end
section
variable {X : Cx} {cf : CF} {e o : Expr} {i io : E} {apos cpos : Pos}
theorem xe_get1 (hu : X.A.units + 64 < cLine) (ho : XE X cf o io) (h : XE X cf e i) (m : M1 X o "get" apos e cpos) : XE X cf (.Call (.Attribute o "get" apos) [e] [] cpos) (.mth .get1 io (.cons i .nil)) := by
  refine pe_imp (pe_dget1 (by omega) ho h m) fun s H Q q => ?_
  obtain ⟨r, sg, M, z, M', hs, hh, ev, q⟩ := q
  simp only [evE, evEs] at ev
  split at ev
  · rename_i x M1 e1
    split at ev
    · rename_i hk
      split at ev
      · rename_i xs M2 e2
        split at e2
        · rename_i y N3 e3
          simp only [Option.some.injEq, Prod.mk.injEq] at e2
          obtain ⟨ex, eM⟩ := e2
          subst ex
          subst eM
          cases x <;> simp [mtOk] at hk
          rename_i n
          obtain ⟨kvs0, hk0⟩ := Option.isSome_iff_exists.mp hk
          refine ⟨r, sg, M, .ref n, M1, hs, hh, e1, fun r1 u1 H1 x1 h1 v1 => ?_⟩
          have d0 : M1[n]? = some (.dic kvs0) := by
            unfold dicAt at hk0
            split at hk0
            · rename_i q; cases hk0; exact q
            · cases hk0
          cases v1 with
          | @ref _ a hn =>
            obtain ⟨vs0, g1, _, _⟩ := dic_of h1 d0 hn
            refine ⟨a, rfl, .inl ⟨vs0, .inl g1⟩, r1, sg, M1, y, N3, hs.ext x1, h1, e3, fun r2 u2 H2 x2 h2 v2 => ?_⟩
            simp only [mthP] at ev
            obtain ⟨kvs, e4, e5⟩ := Option.bind_eq_some_iff.mp ev
            obtain ⟨k, e6, e7⟩ := Option.map_eq_some_iff.mp e5
            cases e7
            have d1 : M'[n]? = some (.dic kvs) := by
              unfold dicAt at e4
              split at e4
              · rename_i q; cases e4; exact q
              · cases e4
            obtain ⟨vs, g2, g3, g4⟩ := dic_of h2 d1 (x2.at hn)
            have hu2 := keyOf_ok v2 e6
            subst hu2
            obtain ⟨s1, s2⟩ := getD_ok k g3 g4
            refine ⟨valV vs k, DGet.k (k := k) g2, ?_⟩
            cases hg : getD kvs k with
            | some p =>
              obtain ⟨v, w1, w2⟩ := s2 p hg
              rw [w1]
              exact q r2 v H2 (x1.trans x2) h2 (by rw [hg]; exact w2)
            | none =>
              rw [hg] at s1
              have w1 : valV vs k = none := by
                cases hv : valV vs k with
                | none => rfl
                | some v => rw [hv] at s1; cases s1
              rw [w1]
              exact q r2 .non H2 (x1.trans x2) h2 (by rw [hg]; exact .non)
        · cases e2
      · cases ev
    · cases ev
  · cases ev
end
end Mp

/-! MpHead: tables of the top, read off the head. -/
namespace Mp
open PySem L2
def tabOk (K : PySem.W.Frag) (d : Str) (tb : List (Str × List (Nat × Str))) : Bool := tb.all fun q =>
  match PySem.W.nsIn K (He.ga K d) q.1 with
  | some (some (.ref t)) =>
    match K.lookup t with
    | some ⟨.type c, _, .seq its _, _⟩ => decide (c = "tuple") && (decide (its.toList = q.2.map fun p => Value.ref (He.ga K p.2)) && decide (its.size ≤ 1000))
    | _ => false
  | _ => false
def exAll (es : List (PySem.W.Frag → Bool)) (K : PySem.W.Frag) : Bool := es.all fun e => e K
theorem bAll {es : List (PySem.W.Frag → Bool)} {K : PySem.W.Frag} (h : exAll es K = true) (i : Nat) {e : PySem.W.Frag → Bool} (hi : es[i]? = some e) : e K = true :=
  List.all_eq_true.mp h e (List.mem_of_getElem? hi)
theorem sayTab {fa : List He.Fa} {fn : List He.DefD} {ts : List He.Tab} {w : World} {K : PySem.W.Frag} (c : He.SaysT fa fn ts w K) (i : Nat) {t : He.Tab} (h : ts[i]? = some t) : He.dicW K (t.1 K) = some (He.keysIn w.params t.2) := by
  have e : ts.map (fun t => He.dicW K (t.1 K)) = ts.map fun t => some (He.keysIn w.params t.2) := congrArg (fun z : He.AlT => z.2) c
  have e2 := congrArg (fun l => l[i]?) e
  simp only [List.getElem?_map, h, Option.map_some, Option.some.injEq] at e2
  exact e2
theorem keys_of {P : Params} {z : Str} : ∀ {l : List DictEntry} {ks : List Str}, l.map He.keyOf = He.keysIn P ks → z ∉ ks → l.find? (·.key.isStr z) = none ∧ l.any (·.refKey) = false
  | [], _, _, _ => ⟨rfl, rfl⟩
  | e :: l, [], h, _ => by cases h
  | e :: l, k :: ks, h, hz => by
    have h1 : He.keyOf e :: l.map He.keyOf = some (k, PyData.keyHash P k) :: He.keysIn P ks := h
    injection h1 with h2 h3
    obtain ⟨i1, i2⟩ := keys_of (z := z) h3 (fun q => hz (by simp [q]))
    unfold He.keyOf at h2
    split at h2
    · rename_i x t q
      have h4 := Option.some.inj h2
      obtain ⟨h5, h6⟩ := Prod.mk.inj h4
      have hx : (e.key.isStr z) = false := by
        rw [q]
        show (x == z) = false
        rw [h5]
        exact beq_eq_false_iff_ne.mpr fun y => hz (by simp [y])
      have hr : e.refKey = false := by
        simp [DictEntry.refKey, q, Value.isRef]
      exact ⟨by rw [List.find?_cons, hx]; exact i1, by rw [List.any_cons, hr, i2]; rfl⟩
    · cases h2
theorem find_any {z : Str} {tb : List (Str × List (Nat × Str))} (h : (tb.any fun q => decide (q.1 = z)) = false) : z ∉ tb.map (·.1) := by
  intro hm
  obtain ⟨q, h1, h2⟩ := List.mem_map.mp hm
  have : (tb.any fun q => decide (q.1 = z)) = true := List.any_eq_true.mpr ⟨q, h1, decide_eq_true h2⟩
  rw [h] at this; cases this
theorem vals_refs {K : PySem.W.Frag} : ∀ fs : List (Nat × Str), Vals (fs.map fun p => V.ref (He.ga K p.2)) (fs.map fun p => Value.ref (He.ga K p.2))
  | [] => .nil
  | p :: fs => .cons rfl (vals_refs fs)
theorem ktab_of {K : PySem.W.Frag} {w : World} {d : Str} {tb : List (Str × List (Nat × Str))} (h1 : He.dicW K (He.ga K d) = some (He.keysIn w.params (tb.map (·.1)))) (h2 : tabOk K d tb = true) : KTab K w d tb := by
  obtain ⟨es, n, KD⟩ := He.dicW_ok h1
  have hk : es.toList.map He.keyOf = He.keysIn w.params (tb.map (·.1)) := by
    unfold He.dicW at h1
    rw [KD.at_] at h1
    simp only at h1
    split at h1
    · exact Option.some.inj h1
    · cases h1
  refine ⟨⟨es, n, KD⟩, fun z hz => ?_, fun z q hq => ?_⟩
  · obtain ⟨i1, i2⟩ := keys_of hk (find_any hz)
    unfold PySem.W.nsIn
    rw [KD.at_]
    simp only [i1, i2]
    rfl
  · have hm := List.mem_of_find?_eq_some hq
    have hz : q.1 = z := by have := List.find?_some hq; simpa using this
    have hb := List.all_eq_true.mp h2 q hm
    subst hz
    cases e1 : PySem.W.nsIn K (He.ga K d) q.1 with
    | none => rw [e1] at hb; cases hb
    | some o =>
      cases o with
      | none => rw [e1] at hb; cases hb
      | some u =>
        cases u with
        | ref t =>
          rw [e1] at hb
          refine ⟨t, rfl, fun H => .inr ?_⟩
          simp only at hb
          split at hb
          · rename_i c dd its nn sl e2
            obtain ⟨b1, b2⟩ := Bool.and_eq_true_iff.mp hb
            obtain ⟨b3, b4⟩ := Bool.and_eq_true_iff.mp b2
            have c1 := of_decide_eq_true b1
            have c2 := of_decide_eq_true b3
            have c3 := of_decide_eq_true b4
            refine ⟨_, its, nn, e2, by rw [c1], rfl, by have : sizeLine = 16777216 := rfl; omega, ?_⟩
            rw [c2]
            exact vals_refs _
          · cases hb
        | _ => rw [e1] at hb; cases hb
end Mp

/-! MpSet: set comprehensions of ints, set(list of ints), each sorted at once. -/
namespace Mp
open PySem L2 PyProof.Rows

/-- the set that a comprehension fills, in general: Ob D st what stands at D; one more is taken in by ad -/
structure SetKind (X : Cx) where
  Sn : Type
  Ob : Addr → Sn → HO
  zero : Sn
  ad : V → Sn → Sn → Prop
  new : ∀ (H : Hp) (h : Heap) (D : Addr), h.get? D = some { cls := .type "set", dict := none, data := .set #[] 0 (.fresh 0 0 (!X.w.params.followText "set-order")) } → ObjOk X.prog X.w H h D (Ob D zero)
  add : ∀ (Y : Cx), Y.prog = X.prog → Y.w = X.w → ∀ (pins : List (Addr × Obj)) (sg : L2.St) (H : Hp) (s : Shared) (D : Addr) (a b : Sn) (y : V) (u : Value) (Q : Value → Shared → Prop) (E : Value → Shared → Prop), L2.Inv Y pins sg H s → H D = some (Ob D a) → ad y a b → RelV y u →
    (∀ s', L2.Inv Y pins sg (upd H D (Ob D b)) s' → Q .none s') → wpAny (model Y.prog Y.w) Y.A (call (.builtin "set.add") [.ref D, u]) Q E s

def tScG {X : Cx} (S : SetKind X) (wi : TI) (g : TG) (tt : TT) (te : TE) (vs : List Nat) : TE := fun sg H Q => wi sg H fun J H1 => ∀ D, H1 D = none → ∃ W : Nat → Nat → Hp → Prop, (∃ m, W 0 m (upd H1 D (S.Ob D S.zero))) ∧ ∀ i m H, W i m H →
  (J.stop i H ∧ Q (.ref D) H) ∨ (J.go i H ∧ ∃ Nx : Hp → Prop, (∀ H', Nx H' → ∃ m', m' < m ∧ W (i + 1) m' H') ∧ ∀ x H', J.yld i H x H' → g x (wipe sg vs) H' fun s2 H2 => wipe s2 vs = wipe sg vs ∧ tt s2 H2 fun b H3 =>
    if b = true then te s2 H3 fun y H4 => ∃ a b, H4 D = some (S.Ob D a) ∧ S.ad y a b ∧ Nx (upd H4 D (S.Ob D b)) else Nx H3)
section
variable {X : Cx}
theorem sc_run (S : SetKind X) {pins : List (Addr × Obj)} {s : Shared} {sg : L2.St} {H : Hp} {Q : VK} {elt tg iter : Expr} {ifs : List Expr} {scope : Scope} {own : List (Str × Nat)} {pos pos' : Pos} {wi : TI} {g : TG} {tt : TT} {te : TE} {use : Option (Value → Sem Unit)} {Qf : Value → Shared → Prop}
    (hc : X.calm = true) (hN : X.N.Nodup) (I : L2.Inv X pins sg H s) (hi : PI X tg iter wi) (ok : BlkOk X.N X.env.scope scope own)
    (hg : ∀ (s : Shared) (H : Hp) (C : Addr) (cl : List (Str × Addr)) (fp : List Addr), PG (X.blk s H scope (compEnvC scope cl C X.env) fp) tg g) (ht : ∀ (s : Shared) (H : Hp) (C : Addr) (cl : List (Str × Addr)) (fp : List Addr), PTs (X.blk s H scope (compEnvC scope cl C X.env) fp) ifs tt)
    (he : ∀ (s : Shared) (H : Hp) (C : Addr) (cl : List (Str × Addr)) (fp : List Addr), PE (X.blk s H scope (compEnvC scope cl C X.env) fp) elt te) (hs : ∀ x, foldedSetIterable iter X.env x = pure x)
    (h : tScG S wi g tt te (own.map (·.2)) sg H Q)
    (back : ∀ D C s' m H', L2.Inv X pins sg H' s' → Q (.ref D) H' → s'.heap.Ns C m → FpOk X pins H' C → compPost (model X.prog X.w) X.A X.xe use Qf (.ref D) C (.ok .next) s') :
    wpAny (model X.prog X.w) X.A (comprehension (.SetComp elt [⟨tg, iter, ifs, 0⟩] scope pos) scope X.env pos' (newSet (.type "set")) false (eval iter X.env) use) Qf X.xe s := by
  have free : ∀ y ∈ scope.names, y.2 = .free → ∃ c, X.env.cells.lookup y.1 = some c := fun y hy e =>
    (ok.free y hy e).elim (fun k => I.ok.has _ (.inl k)) (fun k => I.ok.has _ (.inr k))
  refine wpAny_comprehension_free (use := use) rfl hs (closure_ok free) ok.kind (fun y hy e => by rw [ok.uniq y hy, e]) (thn (hi.run pins s sg H _ I h) fun xv sA hx => thn hx fun itv sB hB => ?_)
  obtain ⟨it, fp, tn, J, HB, eB, IB, T, stB, fB, q⟩ := hB
  subst eB
  refine PpSet.newSet_ok (newEnv_comp ?_)
  generalize eD : sB.heap.objs.size = D
  obtain ⟨W, ⟨m0, w0⟩, turn⟩ := q D (IB.hok.fresh (Nat.le_of_eq eD))
  generalize eC : ({ sB with heap := sB.heap.push { cls := .type "set", dict := none, data := .set #[] 0 (.fresh 0 0 (!X.w.params.followText "set-order")) } } : Shared) = sC
  have hC : sC.heap = sB.heap.push { cls := .type "set", dict := none, data := .set #[] 0 (.fresh 0 0 (!X.w.params.followText "set-order")) } := by rw [← eC]
  generalize eH : upd HB D (S.Ob D S.zero) = HC at w0
  have IC : L2.Inv X pins sg HC sC := by
    rw [← eC, ← eH]
    refine IB.laid (t' := sB.toks) (fun b o e => Heap.get?_push_of_some _ e) (Nat.le_of_eq eD) (S.new _ _ _ ?_)
    rw [← eD]
    exact Heap.get?_push_size _ rfl
  have fC : ∀ b ∈ fp, FpOk X pins HC b ∧ b < sC.heap.objs.size := fun b hb => by
    have lt : b < sB.heap.objs.size := by
      obtain ⟨o, e, _⟩ := T.obj _ _ stB b hb
      exact Heap.lt_size e
    refine ⟨⟨?_, (fB b hb).2⟩, by rw [hC, Heap.size_push]; exact Nat.lt_succ_of_lt lt⟩
    rw [← eH, upd_ne (by rw [← eD]; exact Nat.ne_of_lt lt)]
    exact (fB b hb).1
  have stC : tn 0 sC.heap := T.keep _ _ _ stB fun b _ o e => by rw [hC]; exact Heap.get?_push_of_some _ e
  have IE := block_start IC ok hN fC
  have pg := hg sC HC sC.heap.objs.size (cellsFrom (sC.heap.objs.size + 1) scope.names (cloFrom X.env.cells scope.names [])) fp
  have pt := ht sC HC sC.heap.objs.size (cellsFrom (sC.heap.objs.size + 1) scope.names (cloFrom X.env.cells scope.names [])) fp
  have pe := he sC HC sC.heap.objs.size (cellsFrom (sC.heap.objs.size + 1) scope.names (cloFrom X.env.cells scope.names [])) fp
  show codeAny _ _ (.compStart (.SetComp elt [⟨tg, iter, ifs, 0⟩] scope pos) 0 (.ref it) (.ref D) (compEnvC scope (cellsFrom (sC.heap.objs.size + 1) scope.names (cloFrom X.env.cells scope.names [])) sC.heap.objs.size X.env)) (compPost (model X.prog X.w) X.A X.xe use Qf (.ref D) sC.heap.objs.size) { sC with heap := pushCells (sC.heap.push { cls := .type "dict", data := .dict #[] }) scope.names }
  generalize eE : compEnvC scope (cellsFrom (sC.heap.objs.size + 1) scope.names (cloFrom X.env.cells scope.names [])) sC.heap.objs.size X.env = ce at IE pg pt pe ⊢
  have loc : ce.locals = sC.heap.objs.size := by subst eE; rfl
  generalize eF : ({ sC with heap := pushCells (sC.heap.push { cls := .type "dict", data := .dict #[] }) scope.names } : Shared) = sF at IE ⊢
  have stF : tn 0 sF.heap := T.keep _ _ _ stC fun b _ o e => by rw [← eF]; exact pushCells_keeps _ _ _ _ (Heap.get?_push_of_some _ e)
  have fpk : ∀ {s5 : L2.St} {H5 : Hp} {u5 : Shared}, L2.Inv (X.blk sC HC scope ce fp) [] s5 H5 u5 → (∀ b ∈ fp, H5 b = none) → ∀ b ∈ fp, FpOk (X.blk sC HC scope ce fp) [] H5 b := fun J5 n5 b hb =>
    ⟨n5 b hb, (J5.ok.exf b hb).1, J5.ok.exfs b hb, .inl hb, fun x c e => (J5.ok.exf b hb).2 x c e, fun p hp => absurd (show p ∈ ([] : List (Addr × Obj)) ++ [] from hp) (by simp)⟩
  have loop : codeAny (model X.prog X.w) X.A (.compLoop (.SetComp elt [⟨tg, iter, ifs, 0⟩] scope pos) 0 (.ref it) (.ref D) ce) (compPost (model X.prog X.w) X.A X.xe use Qf (.ref D) sC.heap.objs.size) sF := by
    refine PpSet.compLoopS_any (fun n u5 => ∃ i H5, L2.Inv (X.blk sC HC scope ce fp) [] (wipe sg (own.map (·.2))) H5 u5 ∧ tn i u5.heap ∧ (∀ b ∈ fp, H5 b = none) ∧ W i n H5) ?_ m0 ⟨0, HC, IE, stF, fun b hb => (fC b hb).1.1, w0⟩
    rintro n u5 ⟨i, H5, J5, st5, n5, w5⟩
    rcases turn i n H5 w5 with ⟨stop, qq⟩ | ⟨go, Nx, hNx, step⟩
    · refine thnF (T.done (X.blk sC HC scope ce fp) rfl rfl rfl hc i [] u5 _ H5 (fun _ _ => False) J5 (fpk J5 n5) st5 stop) fun r u6 ⟨hr, J6⟩ => ?_
      subst hr
      have J7 : L2.Inv X pins sg H5 u6 := IC.call' (ch := fp) J6.os J6.base J6.hok J6.bare fun b hb => ⟨(fC b hb).1.2.2.2.1, (fC b hb).1.2.1, (fC b hb).1.2.2.2.2.1, (fC b hb).1.2.2.2.2.2⟩
      have nC : H5 sC.heap.objs.size = none := loc ▸ (show H5 ce.locals = none from J6.free)
      obtain ⟨m, hn, _⟩ := J6.loc
      have hn : u6.heap.Ns ce.locals m := hn
      rw [loc] at hn
      exact back D sC.heap.objs.size u6 m H5 J7 qq hn (IC.fpOk (Nat.le_refl _) nC)
    · refine thnF (T.item (X.blk sC HC scope ce fp) rfl rfl rfl hc i [] u5 _ H5 (fun _ _ => False) J5 (fpk J5 n5) st5 go) fun r u6 ⟨v6, hr, h6⟩ => ?_
      subst hr
      refine thnF h6 fun _ u7 ⟨x, H7, J7, r7, y7, st7, n7⟩ => ?_
      have J7' := J7.pinned (fpk J7 n7) (T.obj _ _ st7)
      refine thnF (pg.run _ u7 _ H7 x v6 _ J7' r7 (step x H7 y7)) fun _ u8 ⟨s8, H8, J8, hw8, q8⟩ => ?_
      refine thnF (pt.run _ u8 s8 H8 _ J8 q8) fun b u9 ⟨H9, J9, q9⟩ => ?_
      have fin : ∀ {uz : Shared} {Hz : Hp}, L2.Inv (X.blk sC HC scope ce fp) ([] ++ pinsAt fp u7.heap) s8 Hz uz → Nx Hz → ∃ m, m < n ∧ ∃ i H5, L2.Inv (X.blk sC HC scope ce fp) [] (wipe sg (own.map (·.2))) H5 uz ∧ tn i uz.heap ∧ (∀ b ∈ fp, H5 b = none) ∧ W i m H5 := fun {uz Hz} Jz nx => by
        obtain ⟨m', hm, w'⟩ := hNx Hz nx
        have pin : ∀ b ∈ fp, ∀ o, u7.heap.get? b = some o → uz.heap.get? b = some o ∧ Hz b = none := fun b hb o e =>
          let z := Jz.pin (b, o) (List.mem_append_right _ (List.mem_append_right _ (mem_pinsAt hb e)))
          ⟨z.1, z.2.1⟩
        refine ⟨m', hm, i + 1, Hz, (Jz.unpinned (pins := [])).weak (by rw [← hw8, wipe_length]) (fun j v e => ?_), T.keep _ _ _ st7 fun b hb o e => (pin b hb o e).1, fun b hb => ?_, w'⟩
        · rw [← hw8] at e
          exact (wipe_some e).1
        · obtain ⟨o, e, _⟩ := T.obj _ _ st7 b hb
          exact (pin b hb o e).2
      cases b with
      | false =>
        simp only [Bool.false_eq_true, if_false] at q9 ⊢
        exact fin J9 q9
      | true =>
        simp only [if_true] at q9 ⊢
        refine thnF (pe.run _ u9 s8 H9 _ J9 q9) fun z uA ⟨yv, HA, JA, rA, a1, b1, hA, hd, nx⟩ => ?_
        exact S.add (X.blk sC HC scope ce fp) rfl rfl _ _ _ _ D a1 b1 yv z _ _ JA hA hd rA fun uB JB => fin JB nx
  exact PpSet.codeAny_compStart_set loop (T.self X.A 0 _ _ _ stF loop)
theorem pe_scG (S : SetKind X) {elt tg iter : Expr} {ifs : List Expr} {scope : Scope} {own : List (Str × Nat)} {pos : Pos} {wi : TI} {g : TG} {tt : TT} {te : TE} (hc : X.calm = true) (hN : X.N.Nodup) (hi : PI X tg iter wi) (ok : BlkOk X.N X.env.scope scope own)
    (hg : ∀ (s : Shared) (H : Hp) (C : Addr) (cl : List (Str × Addr)) (fp : List Addr), PG (X.blk s H scope (compEnvC scope cl C X.env) fp) tg g) (ht : ∀ (s : Shared) (H : Hp) (C : Addr) (cl : List (Str × Addr)) (fp : List Addr), PTs (X.blk s H scope (compEnvC scope cl C X.env) fp) ifs tt)
    (he : ∀ (s : Shared) (H : Hp) (C : Addr) (cl : List (Str × Addr)) (fp : List Addr), PE (X.blk s H scope (compEnvC scope cl C X.env) fp) elt te) (hs : ∀ x, foldedSetIterable iter X.env x = pure x := by intro _; rfl) :
    PE X (.SetComp elt [⟨tg, iter, ifs, 0⟩] scope pos) (tScG S wi g tt te (own.map (·.2))) := by
  refine ⟨fun pins s sg H Q I h => ?_⟩
  rw [PpSet.eval_SetComp]
  refine sc_run S hc hN I hi ok hg ht he hs h fun D C s' m H' I' q hn f => ⟨m, hn, fun h'' sb => ?_⟩
  obtain ⟨f0, f1, f2, f3, f4, f5⟩ := f
  exact ⟨.ref D, H', I'.turned (t' := s'.toks) (fun b o hb e => (sb.2 b hb).trans e) f0 f1 f3 f4 f5, rfl, q⟩

/-! ### ints -/
def setInts (X : Cx) : SetKind X where
  Sn := (Int → Bool) × Nat
  Ob := fun D st => SetO X.w D st.1 st.2
  zero := (fun _ => false, 0)
  ad := fun y a b => ∃ c, y = .int c ∧ a.2 + 1 < scanBound ∧ b = ((fun j => a.1 j || decide (j = c)), if a.1 c = true then a.2 else a.2 + 1)
  new := fun H h D ho => setO_new ((setR_new_at (ns := []) ho).congr fun j => by simp)
  add := fun Y e1 e2 pins sg H s D a b y u Q E I hD hd ru q => by
    obtain ⟨P, w, K, mg, base, A, N, s0, H0, env, outer, stack, ex, fn, calm, pn, xe⟩ := Y
    cases e1
    cases e2
    obtain ⟨c, rfl, room, rfl⟩ := hd
    obtain ⟨tk, rfl⟩ := ru
    have R := setO_get I hD
    refine setR_add R room fun h' sb new => ?_
    have he : ∃ u, h'.get? D = some u := by
      have ⟨o, _, _, _, ho, _⟩ := new
      exact ⟨o, ho⟩
    exact q _ (I.write (e := D) (t' := s.toks + 1) (by rw [hD]; trivial) (.inl rfl) (fun b u hb hu => (sb.2 b hb).trans hu) he (setO_new new))
end
/-- strictly sorted lists of the same members are one -/
theorem uniq_lt : ∀ {a b : List Int}, a.Pairwise (· < ·) → b.Pairwise (· < ·) → (∀ k, k ∈ a ↔ k ∈ b) → a = b
  | [], [], _, _, _ => rfl
  | [], y :: ys, _, _, h => absurd ((h y).mpr List.mem_cons_self) (by simp)
  | x :: xs, [], _, _, h => absurd ((h x).mp List.mem_cons_self) (by simp)
  | x :: xs, y :: ys, ha, hb, h => by
    rw [List.pairwise_cons] at ha hb
    have exy : x = y := by
      have h1 := (h x).mp List.mem_cons_self
      have h2 := (h y).mpr List.mem_cons_self
      rcases List.mem_cons.mp h1 with e | h1
      · exact e
      · rcases List.mem_cons.mp h2 with e | h2
        · exact e.symm
        · have := hb.1 x h1; have := ha.1 y h2; omega
    subst exy
    rw [uniq_lt ha.2 hb.2 fun k => ?_]
    constructor
    · intro hk
      rcases List.mem_cons.mp ((h k).mp (List.mem_cons_of_mem _ hk)) with e | h'
      · subst e; have := ha.1 k hk; omega
      · exact h'
    · intro hk
      rcases List.mem_cons.mp ((h k).mpr (List.mem_cons_of_mem _ hk)) with e | h'
      · subst e; have := hb.1 k hk; omega
      · exact h'
theorem insU_mem (i k : Int) : ∀ ns : List Int, k ∈ insU i ns ↔ k = i ∨ k ∈ ns
  | [] => by simp [insU]
  | j :: r => by
    unfold insU
    split
    · simp
    · split
      · rename_i e; subst e; simp
      · rw [List.mem_cons, insU_mem i k r, List.mem_cons]
        constructor
        · rintro (h | h | h)
          · exact .inr (.inl h)
          · exact .inl h
          · exact .inr (.inr h)
        · rintro (h | h | h)
          · exact .inr (.inl h)
          · exact .inl h
          · exact .inr (.inr h)
theorem usortI_mem (k : Int) : ∀ ns : List Int, k ∈ usortI ns ↔ k ∈ ns
  | [] => by simp [usortI]
  | i :: r => by
    show k ∈ insU i (usortI r) ↔ _
    rw [insU_mem, usortI_mem k r, List.mem_cons]
theorem insU_lt (i : Int) : ∀ ns : List Int, ns.Pairwise (· < ·) → (insU i ns).Pairwise (· < ·)
  | [], _ => by simp [insU]
  | j :: r, h => by
    rw [List.pairwise_cons] at h
    unfold insU
    split
    · rename_i hij
      refine List.pairwise_cons.mpr ⟨fun y hy => ?_, List.pairwise_cons.mpr h⟩
      rcases List.mem_cons.mp hy with rfl | hy
      · exact hij
      · have := h.1 y hy; omega
    · split
      · exact List.pairwise_cons.mpr h
      · rename_i h1 h2
        refine List.pairwise_cons.mpr ⟨fun y hy => ?_, insU_lt i r h.2⟩
        rcases (insU_mem i y r).mp hy with rfl | hy
        · omega
        · exact h.1 y hy
theorem usortI_lt : ∀ ns : List Int, (usortI ns).Pairwise (· < ·)
  | [] => by simp [usortI]
  | i :: r => insU_lt i _ (usortI_lt r)
theorem usortI_uniq {ns ms : List Int} {S : Int → Bool} (hS : ∀ k, S k = true ↔ k ∈ ns) (p : ms.Pairwise (· < ·)) (m : ∀ k, k ∈ ms ↔ S k = true) : ms = usortI ns :=
  uniq_lt p (usortI_lt ns) fun k => by rw [m, hS, usortI_mem]
section
variable {X : Cx} {cf : CF} {i ic : E} {pos p : Pos} {elt tg iter : Expr} {ifs : List Expr} {scope : Scope} {own : List (Str × Nat)} {t : Tg} {it : Mp.It}
/-- an object that is not tracked changes -/
theorem RH.off {K : PySem.W.Frag} {r : List Addr} {M : Mm} {H : Hp} {D : Addr} {ho o : HO} (h : RH K r M H) (hD : H D = some ho) (hm : Mut (some ho)) (nd : D ∉ r) : RH K r M (upd H D o) := by
  refine h.same ⟨⟨[], by simp⟩, fun b xs e => ?_, fun b q u e => ?_⟩ fun a ha => upd_ne fun z => nd (z ▸ ha)
  · rw [upd_ne]; exact e
    intro z; subst z; rw [hD] at e; cases e; exact hm
  · rw [upd_ne]; exact e
    intro z; subst z; rw [hD] at e; cases e; exact hm
theorem Ext.off {r r' : List Addr} {H H' : Hp} {D : Addr} {o : HO} (e : Ext r r' H H') (hD : H D = none) : Ext r r' H (upd H' D o) := by
  have ne : ∀ {b : Addr} {q : HO}, H b = some q → b ≠ D := fun {b q} h z => by subst z; rw [hD] at h; cases h
  exact ⟨⟨e.pre, fun b xs h => by rw [upd_ne (ne h)]; exact e.tups b xs h, fun b q u h => by rw [upd_ne (ne h)]; exact e.frzs b q u h⟩, e.fresh, fun b q hb h => by rw [upd_ne (ne h)]; exact e.oth b q hb h, fun b q h => by
    obtain ⟨o', h'⟩ := e.live b q h
    exact ⟨o', by rw [upd_ne (ne h)]; exact h'⟩⟩
theorem Ext.nin {r r' : List Addr} {H H' : Hp} {D : Addr} {o : HO} (e : Ext r r' H H') (nd : D ∉ r) (hD : H D = some o) : D ∉ r' := fun h => by
  rw [e.fresh D h nd] at hD; cases hD
theorem scL_len {src : Src} {b : PV → Sg → Option Sg} {c e : Sg → Mm → R} {sg : Sg} {acc' : List Int} {Mz : Mm} : ∀ (m : Nat) {k : Nat} {acc : List Int} {M : Mm}, scL src b c e sg m k acc M = some (acc', Mz) → acc'.length ≤ 60 ∨ acc'.length ≤ acc.length
  | 0, _, _, _, h => by simp only [scL] at h; cases h
  | m + 1, k, acc, M, h => by
    simp only [scL] at h
    split at h
    · cases h
    · cases h; exact .inr (Nat.le_refl _)
    · split at h
      · cases h
      · split at h
        · split at h
          · split at h
            · rcases scL_len m h with q | q
              · exact .inl q
              · simp at q; left; omega
            · cases h
          · cases h
        · exact scL_len m h
        · cases h
theorem sc_red {s : L2.St} {H : Hp} {Q : VK} {vs : List Nat} (ht : ∀ j ∈ t.ixs, j ∈ vs) (q : TEv X.K (evE cf (.ssc vs t it ic i)) s H Q) :
    tScG (setInts X) (TIv X.K (evI cf it)) (gOf X.K t) (TTv X.K (evE cf ic)) (TEv X.K (evE cf i)) vs s H fun x H' => ∃ (a : Addr) (S : Int → Bool) (n : Nat), [x] = [V.ref a] ∧ H' a = some (SetO X.w a S n) ∧ n < 64 ∧
      ∀ (ns : List Int) (p : Addr), ns.Pairwise (· < ·) → (∀ k : Int, k ∈ ns ↔ S k = true) → ns.length = n → H' p = none → Q (.ref p) (upd H' p (.lst (ns.map V.int))) := by
  obtain ⟨r, sg, M, z, M', hs, hh, ev, q⟩ := q
  simp only [evE] at ev
  split at ev
  · rename_i src M1 e1
    obtain ⟨Mx, ev', ez⟩ := Option.map_eq_some_iff.mp ev
    clear ev
    obtain ⟨acc', Mz⟩ := Mx
    cases ez
    refine ⟨r, sg, M, src, M1, hs, hh, e1, fun r1 H1 J x1 h1 ok D hD => ?_⟩
    have npD : D ∉ r1 := fun m => by
      obtain ⟨ho, e, _⟩ := h1.there m
      rw [hD] at e; cases e
    refine ⟨fun k m H => ∃ r2 M2 acc S n, Ext r1 r2 H1 H ∧ RH X.K r2 M2 H ∧ D ∉ r2 ∧ H D = some (SetO X.w D S n) ∧ n ≤ acc.length ∧ (∀ j, S j = true ↔ j ∈ acc) ∧ scL src (tgP t) (fun sg M => evE cf ic sg M) (fun sg M => evE cf i sg M) (wipeP sg vs) m k acc M2 = some (acc', Mz),
      ⟨bigN, r1, M1, [], fun _ => false, 0, ext_new0 hD, h1.other _ hD, npD, upd_same, Nat.le_refl _, fun j => by simp, ev'⟩, ?_⟩
    rintro k m H2 ⟨r2, M2, acc, S, n, x2, h2, nd2, hD2, hn2, hS2, ev2⟩
    cases m with
    | zero => simp only [scL] at ev2; cases ev2
    | succ m =>
      simp only [scL] at ev2
      obtain ⟨o1, o2⟩ := ok r2 M2 H2 k x2 h2
      have xs2 : Ext r r2 H H2 := x1.trans x2
      cases eg : src.get M2 k with
      | none => rw [eg] at ev2; cases ev2
      | some og =>
        rw [eg] at ev2
        cases og with
        | none =>
          simp only at ev2
          obtain ⟨rfl, rfl⟩ := Prod.mk.inj (Option.some.inj ev2)
          have h60 : acc.length < 64 := by
            rcases scL_len _ ev' with h | h
            · omega
            · have : acc.length ≤ 0 := h
              omega
          refine .inl ⟨o2 eg, D, S, n, rfl, hD2, by omega, fun ns p pw mm _ hp => ?_⟩
          rw [usortI_uniq hS2 pw mm]
          have xq := ext_new (r := r2) (o := .lst ((usortI acc).map V.int)) hp [p]
          exact q (r2 ++ [p]) _ _ (xs2.trans xq) (h2.new hp ⟨_, upd_same, ints_rv _⟩) (.ref (by rw [← h2.len]; simp))
        | some x =>
          obtain ⟨g1, g2⟩ := o1 x eg
          refine .inr ⟨g1, fun H => ∃ r2 M2 acc S n, Ext r1 r2 H1 H ∧ RH X.K r2 M2 H ∧ D ∉ r2 ∧ H D = some (SetO X.w D S n) ∧ n ≤ acc.length ∧ (∀ j, S j = true ↔ j ∈ acc) ∧ scL src (tgP t) (fun sg M => evE cf ic sg M) (fun sg M => evE cf i sg M) (wipeP sg vs) m (k + 1) acc M2 = some (acc', Mz), fun H' w => ⟨m, Nat.lt_succ_self m, w⟩, fun v H3 y => ?_⟩
          obtain ⟨x3, h3, v3⟩ := g2 v H3 y
          have hD3 := x3.oth D _ nd2 hD2
          simp only at ev2
          cases eb : tgP t x (wipeP sg vs) with
          | none => rw [eb] at ev2; cases ev2
          | some sg3 =>
            rw [eb] at ev2
            refine g_run (((hs.ext xs2).ext x3).wipe vs) v3 eb fun s4 hs4 hw => ⟨by rw [hw vs ht, wipe_same], ?_⟩
            simp only at ev2
            split at ev2
            · rename_i M4 e4
              refine ⟨r2, sg3, M2, _, _, hs4, h3, e4, fun r5 H5 x5 h5 => iteT ?_⟩
              have nd5 := x5.nin nd2 hD3
              have hD5 := x5.oth D _ nd2 hD3
              split at ev2
              · rename_i y M6 e5
                split at ev2
                · rename_i hl
                  refine ⟨r5, sg3, M4, _, M6, hs4.ext x5, h5, e5, fun r7 u7 H7 x7 h7 v7 => ?_⟩
                  have nd7 := x7.nin nd5 hD5
                  have hD7 := x7.oth D _ nd5 hD5
                  cases v7
                  have x17 : Ext r1 r7 H1 H7 := x2.trans (x3.trans (x5.trans x7))
                  refine ⟨(S, n), _, hD7, ⟨y, rfl, by show n + 1 < 4096; omega, rfl⟩, r7, M6, acc ++ [y], _, _, x17.off hD, h7.off hD7 trivial nd7, nd7, upd_same, ?_, fun j => ?_, ev2⟩
                  · show (if S y = true then n else n + 1) ≤ _
                    rw [List.length_append]
                    split
                    · omega
                    · simp; omega
                  · show (S j || decide (j = y)) = true ↔ _
                    rw [Bool.or_eq_true, hS2, decide_eq_true_eq, List.mem_append]
                    simp
                · cases ev2
              · cases ev2
            · rename_i M4 e4
              refine ⟨r2, sg3, M2, _, _, hs4, h3, e4, fun r5 H5 x5 h5 => iteF ⟨r5, M4, acc, S, n, x2.trans (x3.trans x5), h5, x5.nin nd2 hD3, x5.oth D _ nd2 hD3, hn2, hS2, ev2⟩⟩
            · cases ev2
  · cases ev
theorem xe_ssc (hc : X.calm = true) (hN : X.N.Nodup) {p1 p2 : Pos} (hgs : Gl X "sorted") (hms : X.mg "sorted" = none) (hi : XI X cf tg iter it) (ok : BlkOk X.N X.env.scope scope own)
    (hg : ∀ (s : Shared) (H : Hp) (C : Addr) (cl : List (Str × Addr)) (fp : List Addr), XG (X.blk s H scope (compEnvC scope cl C X.env) fp) tg t) (ht : ∀ (s : Shared) (H : Hp) (C : Addr) (cl : List (Str × Addr)) (fp : List Addr), XTs (X.blk s H scope (compEnvC scope cl C X.env) fp) cf ifs ic)
    (he : ∀ (s : Shared) (H : Hp) (C : Addr) (cl : List (Str × Addr)) (fp : List Addr), XE (X.blk s H scope (compEnvC scope cl C X.env) fp) cf elt i) (hx : ∀ j ∈ t.ixs, j ∈ own.map (·.2)) (hs : ∀ x, foldedSetIterable iter X.env x = pure x := by intro _; rfl)
    (he1 : starEach [.SetComp elt [⟨tg, iter, ifs, 0⟩] scope pos] X.env = (false, eval (.SetComp elt [⟨tg, iter, ifs, 0⟩] scope pos) X.env) :: starEach [] X.env := by rfl) (hpl : (backTo p2 (starEach [] X.env)).any (·.1) = false := by rfl) :
    XE X cf (.Call (.Name "sorted" p1) [.SetComp elt [⟨tg, iter, ifs, 0⟩] scope pos] [] p2) (.ssc (own.map (·.2)) t it ic i) :=
  pe_imp (pe_callB (cr_sortedSet hc) hgs hms (by decide +kernel) (pa_cons (pe_scG (setInts X) (g := gOf X.K t) (tt := TTv X.K (evE cf ic)) (te := TEv X.K (evE cf i)) hc hN hi ok hg ht he hs) pa_nil he1) (by decide) (by decide) he1 hpl) fun s H Q q => sc_red hx q
end
end Mp

/-! MpSet2: sorted(set(list of ints)). -/
namespace Mp
open PySem L2 PyProof.Rows
open PySem.Sem (wp)

section
variable {P : Program} {w : World} {A : Around} {E : Value → Shared → Prop} {s : Shared}
set_option maxHeartbeats 8000000 in
theorem call_set_ints {l : Addr} {items : Array Value} (ns : List Int) {Q : Value → Shared → Prop} (hh : A.handled = none) (hl : s.heap.IsList l items) (hit : IntsAre items.toList ns) (hb : ns.length + 1 < scanBound)
    (h : ∀ (h' : Heap) (tk c : Nat), SetR w h' s.heap.objs.size (fun j => decide (j ∈ ns)) c → c ≤ ns.length → (∀ b o, s.heap.get? b = some o → h'.get? b = some o) → Q (.ref s.heap.objs.size) { s with heap := h', toks := tk }) :
    wpAny (model P w) A (call (.type "set") [.ref l]) Q E s := by
  have isz : items.size = ns.length := by
    have q := IntsAre.length hit
    rw [Array.length_toList] at q
    exact q
  obtain ⟨c, tl, hmro⟩ := F.called_set.mro
  have hmade := F.called_set.made
  have hsub := F.called_set.sub
  refine wpAny_call (codeAny_of_tree ?_)
  show wpAny _ _ (callAny (.type "set") _) _ _ _
  refine wpAny_pure ⟨Code.quiet_builtin _ (by decide +kernel), codeAny_builtin F.entry_type_call ?_⟩
  rw [Around.under_plain (weight_type_call_type "set" [.ref l] []) rfl]
  have h1 := F.called_set.notType
  have h2 := F.called_set.canCreate
  have hct := F.typeCall_set_1 (.ref l)
  repeat (any_goals (first | assumption | wp_step))
  generalize eN : ({ cls := .type "set", dict := none, data := .set #[] 0 (.fresh 0 0 (!w.params.followText "set-order")) } : Obj) = new
  refine codeAny_mono (code_set_led1 (.ref l) (E := E) (Q₁ := fun obj s₁ => obj = .ref s.heap.objs.size ∧ s₁ = { s with heap := s.heap.push new }) ⟨rfl, by rw [← eN]⟩) fun r s₁ hr => ?_
  cases r with
  | error e => exact hr
  | ok fl =>
    cases fl with
    | ret obj =>
      obtain ⟨rfl, rfl⟩ := hr
      have hS : (s.heap.push new).get? s.heap.objs.size = some new := Heap.get?_push_size _ (by rw [← eN]; rfl)
      have hT : Shared.TypeIs { s with heap := s.heap.push new } (.ref s.heap.objs.size) "set" := ⟨_, hS, by rw [← eN]⟩
      have hli := F.called_set.init.lookup
      have hbi := F.called_set.init.bind (.ref s.heap.objs.size)
      repeat (any_goals (first | assumption | wp_step))
      refine codeAny_mono (codeAny_call_builtin (R := wants (fun r s₂ => r = .none ∧ ∃ h' tk c, s₂ = { s with heap := h', toks := tk } ∧ SetR w h' s.heap.objs.size (fun j => decide (j ∈ ns)) c ∧ c ≤ ns.length ∧
          (∀ b o, s.heap.get? b = some o → h'.get? b = some o)) E) F.called_set.init.plain F.entry_set_init (check_set_init_1 hT ?_)) fun r₂ s₂ hr₂ => ?_
      · obtain ⟨ol, hol, hcl, nl, hdl⟩ := hl
        obtain ⟨ocls, odict, odata, oslots⟩ := ol
        simp only at hcl hdl
        subst hcl; subst hdl
        have hol' : (s.heap.push new).get? l = some { cls := .type "list", dict := odict, data := .seq items nl, slots := oslots } := Heap.get?_push_of_some _ hol
        have hsls := F.sub_list_set
        have hslf := F.sub_list_frozenset
        have hne : (Value.type "list" == Value.type "dict") = false := by decide
        have hl1 : (s.heap.push new).IsList l items := ⟨_, hol', rfl, nl, rfl⟩
        subst eN
        unfold Builtin.«set.__init__» noKeywords Builtin.Frozenset.updateFrom
        generalize hPI : pyIter = PI
        wp_walk
        subst hPI
        refine wpAny_pyIter_list hl1 ?_
        refine wpAny_bind (wpAny_runValue ?_)
        have hlS : l < s.heap.objs.size := Heap.lt_size hol
        have hh3 : A.in1.in1.in1.handled = none := by simp [hh]
        have sz : (s.heap.push { cls := .type "set", dict := none, data := .set #[] 0 (.fresh 0 0 (!w.params.followText "set-order")) }).objs.size = s.heap.objs.size + 1 := Heap.size_push ..
        have nI : l ≠ (s.heap.push { cls := .type "set", dict := none, data := .set #[] 0 (.fresh 0 0 (!w.params.followText "set-order")) }).objs.size := by rw [sz]; exact Nat.ne_of_lt (Nat.lt_succ_of_lt hlS)
        have nS : s.heap.objs.size ∉ [(s.heap.push { cls := .type "set", dict := none, data := .set #[] 0 (.fresh 0 0 (!w.params.followText "set-order")) }).objs.size, l] := by
          rw [sz]; simp only [List.mem_cons, List.not_mem_nil, or_false, not_or]
          exact ⟨Nat.ne_of_lt (Nat.lt_succ_self _), Nat.ne_of_gt hlS⟩
        have val : ∀ (i : Nat) (v : Value), items[i]? = some v → ∃ k t, ns[i]? = some k ∧ v = .int k t := fun i v hv => by
          have hi : i < ns.length := by rw [← isz]; exact (Array.getElem?_eq_some_iff.mp hv).1
          obtain ⟨t, e⟩ := PyProof.Rows.IntsAre.int_at hit i v (by rw [Array.getElem?_toList]; exact hv)
          refine ⟨ns[i], t, List.getElem?_eq_getElem hi, ?_⟩
          rw [e, List.getD_eq_getElem?_getD, List.getElem?_eq_getElem hi] <;> rfl
        refine set_update_ints ((Walks.list hh3 _ l nI items).toS) s.heap.objs.size nS ns isz hb val (items.size - 0) 0 _ (by omega) (Nat.zero_le _) ⟨⟨_, Heap.get?_push_size _ rfl, rfl, rfl⟩, (hl1.push _)⟩ ?hStart ?hEnd
        case hStart =>
          have hget : ((s.heap.push { cls := .type "set", dict := none, data := .set #[] 0 (.fresh 0 0 (!w.params.followText "set-order")) }).push { cls := .type "list_iterator", data := .fields #[.ref l, .int 0 0] }).get? s.heap.objs.size = some { cls := .type "set", dict := none, data := .set #[] 0 (.fresh 0 0 (!w.params.followText "set-order")) } := Heap.get?_push_of_some _ hS
          exact ⟨0, Nat.le_refl 0, setR_new_at hget⟩
        case hEnd =>
          intro s' c' hm hc' hS'
          obtain ⟨h', g2, d', tk', os'⟩ := s'
          cases (show g2 = s.gens from hm.gens)
          cases (show d' = s.drawn from hm.drawn)
          cases (show os' = s.os from hm.os)
          show wpAny _ _ _ _ _ _
          refine wpAny_pure ?_
          show wpAny _ _ (ret Value.none) _ _ _
          rw [isz] at hc'
          refine wpAny_pure ⟨rfl, h', tk', c', rfl, hS', hc', fun b o e => ?_⟩
          have b0 : b < s.heap.objs.size := Heap.lt_size e
          refine hm.heap b o ?_ (Heap.get?_push_of_some _ (Heap.get?_push_of_some _ e))
          simp only [List.mem_cons, List.not_mem_nil, or_false, not_or]
          exact ⟨Nat.ne_of_lt b0, by rw [sz]; exact Nat.ne_of_lt (Nat.lt_succ_of_lt b0)⟩
      · cases r₂ with
        | error e => exact hr₂
        | ok fl =>
          cases fl with
          | ret z =>
            obtain ⟨rfl, h', tk, c, rfl, q1, q2, q3⟩ := hr₂
            repeat (any_goals (first | assumption | wp_step))
            exact h h' tk c q1 q2 q3
          | _ => exact hr₂.elim
    | _ => exact hr.elim
end
section
variable {X : Cx} {cf : CF} {i : E} {e : Expr} {p1 p2 p3 p4 : Pos}
def rSetI (K : PySem.W.Frag) (w : World) : List V → Hp → VK → Prop := fun xs H Q => ∃ (l : Addr) (ns : List Int), xs = [V.ref l] ∧ SqL K H l (ns.map V.int) ∧ ns.length < 64 ∧ ∀ (a : Addr) (c : Nat), H a = none → c ≤ ns.length → Q (.ref a) (upd H a (SetO w a (fun j => decide (j ∈ ns)) c))
theorem cr_setI (hc : X.calm = true) : CallR X (.type "set") (rSetI X.K X.w) := by
  intro pins s sg H xs us Q I r h
  obtain ⟨l, ns, rfl, hq, hl, q⟩ := h
  cases r with
  | cons r rr =>
    cases rr
    cases r
    obtain ⟨its, rv, p, hz⟩ := I.list hq
    refine call_set_ints ns (I.ok.hd hc) p.isList (ints_of_vals rv) (by unfold scanBound; omega) fun h' tk c R hcn k => ?_
    exact ⟨.ref _, upd H s.heap.objs.size (SetO X.w s.heap.objs.size (fun j => decide (j ∈ ns)) c), I.laid (t' := tk) k (Nat.le_refl _) (setO_new R), rfl, q _ c (I.hok.fresh (Nat.le_refl _)) hcn⟩
theorem xe_ssort (hc : X.calm = true) (hgs : Gl X "sorted") (hms : X.mg "sorted" = none) (hgt : Gl X "set") (hmt : X.mg "set" = none) (h : XE X cf e i)
    (he0 : starEach [e] X.env = (false, eval e X.env) :: starEach [] X.env := by rfl)
    (he1 : starEach [.Call (.Name "set" p3) [e] [] p4] X.env = (false, eval (.Call (.Name "set" p3) [e] [] p4) X.env) :: starEach [] X.env := by rfl) (hpl : (backTo p2 (starEach [] X.env)).any (·.1) = false := by rfl) (hpl4 : (backTo p4 (starEach [] X.env)).any (·.1) = false := by rfl) :
    XE X cf (.Call (.Name "sorted" p1) [.Call (.Name "set" p3) [e] [] p4] [] p2) (.blt .ssort (.cons i .nil)) := by
  refine pe_imp (pe_callB (cr_sortedSet hc) hgs hms (by decide +kernel) (pa_cons (pe_callTy (cr_setI hc) hgt hmt (by decide +kernel) (pa_cons h pa_nil he0) (by decide) (by decide) he0 hpl4) pa_nil he1) (by decide) (by decide) he1 hpl) fun s H Q q => ?_
  obtain ⟨r, sg, M, z, M', hs, hh, ev, q⟩ := q
  simp only [evE] at ev
  split at ev
  · rename_i xs M1 e1
    obtain ⟨x, ys, M2, e2, e3, rfl⟩ := evEs_cons e1
    simp only [evEs] at e3
    cases e3
    cases x with
    | ref n =>
      simp only [bltP] at ev
      obtain ⟨ns, e4, e5⟩ := Option.bind_eq_some_iff.mp ev
      obtain ⟨l, e6, e7⟩ := Option.bind_eq_some_iff.mp e4
      split at e5
      · rename_i hl
        obtain ⟨rfl, rfl⟩ := Prod.mk.inj (Option.some.inj e5)
        refine ⟨r, sg, M, _, _, hs, hh, e2, fun r1 u1 H1 x1 h1 v1 => ?_⟩
        obtain ⟨a, ws, g1, g2, g3⟩ := lst_of h1 e6
        have := v1.refAt g1
        subst this
        rw [ints_ok g3 e7] at g2
        refine ⟨a, ns, rfl, .inl (.inl g2), hl, fun b c hb hcn => ⟨b, _, c, rfl, upd_same, by omega, fun ms p pw mm _ hp => ?_⟩⟩
        rw [usortI_uniq (ns := ns) (fun k => by simp) pw mm]
        have y1 := ext_new0 (r := r1) (o := SetO X.w b (fun j => decide (j ∈ ns)) c) hb
        have h2 := h1.other (SetO X.w b (fun j => decide (j ∈ ns)) c) hb
        have y2 := ext_new (r := r1) (o := .lst ((usortI ns).map V.int)) hp [p]
        exact q (r1 ++ [p]) _ _ (x1.trans (y1.trans y2)) (h2.new hp ⟨_, upd_same, ints_rv _⟩) (.ref (by rw [← h2.len]; simp))
      · cases e5
    | _ => simp [bltP] at ev
  · cases ev
end
end Mp

/-! the defs of the program, position-free (printed by gen2.py) -/
namespace Mp
open PySem L2
abbrev i_is_number : Nat := 0
abbrev i_is_count : Nat := 1
abbrev i_is_key : Nat := 2
abbrev i_is_event : Nat := 3
abbrev i_is_timetable : Nat := 4
abbrev i_l_box : Nat := 5
abbrev i_l_take : Nat := 6
abbrev i_l_of : Nat := 7
abbrev i_l_same : Nat := 8
abbrev i_l_event : Nat := 9
abbrev i_l_moved : Nat := 10
abbrev i_l_table : Nat := 11
abbrev i_l_ended : Nat := 12
abbrev i_l_lots : Nat := 13
abbrev i_l_beside : Nat := 14
abbrev i_l_fit : Nat := 15
abbrev i_l_drawn : Nat := 16
abbrev i_l_is_plain : Nat := 17
abbrev i_l_is_name : Nat := 18
abbrev i_l_is_row : Nat := 19
abbrev i_l_is_whole : Nat := 20
abbrev i_l_bent : Nat := 21
abbrev i_l_right : Nat := 22
abbrev i_law : Nat := 23
abbrev i_Course_init : Nat := 24
abbrev i_Course_can : Nat := 25
abbrev i_Course_go : Nat := 26
abbrev i_mk_Course : Nat := 27
def tb_LOOKS : List (Str × List (Nat × Str)) := [("put", [(2, "is_key"), (0, "is_number")]), ("drop", [(2, "is_key")]), ("join", [(1, "is_count")]), ("read", [(1, "is_count"), (1, "is_count")]), ("save", [(1, "is_count")]), ("load", [(1, "is_count"), (1, "is_count")]), ("wait", [])]
def ir_is_number : Df := ⟨1, 1, (.cons (.ret (.and (.isi (.var 0) [.int]) (.not (.isi (.var 0) [.bool])))) .nil)⟩
def ir_is_count : Df := ⟨1, 1, (.cons (.ret (.and (.call i_is_number (.cons (.var 0) .nil)) (.cmp .ge (.var 0) (.con (.int 0))))) .nil)⟩
def e1_is_key : E := (.cmp .isin (.var 1) (.con (.str "abcdefghijklmnopqrstuvwxyz")))
def ir_is_key : Df := ⟨1, 2, (.cons (.ret (.and (.isi (.var 0) [.str]) (.and (.chn .lt .lt (.con (.int 0)) (.blt .len (.cons (.var 0) .nil)) (.con (.int 9))) (.blt .all (.cons (.lc [1] (.name 1) (.seq (.var 0)) (.con (.bl true)) e1_is_key) .nil))))) .nil)⟩
def e1_is_event : E := (.callv 2 [(1, "is_count"), (2, "is_key"), (0, "is_number")] (.cons (.var 3) .nil))
def ir_is_event : Df := ⟨1, 4, (.cons (.iff (.or (.not (.isi (.var 0) [.tuple])) (.or (.cmp .eq (.blt .len (.cons (.var 0) .nil)) (.con (.int 0))) (.or (.not (.isi (.idx (.var 0) (.con (.int 0))) [.str])) (.knot tb_LOOKS (.idx (.var 0) (.con (.int 0))))))) (.cons (.ret (.con (.bl false))) .nil) .nil) (.cons (.asg (.name 1) (.kidx tb_LOOKS (.idx (.var 0) (.con (.int 0))))) (.cons (.ret (.and (.cmp .eq (.blt .len (.cons (.var 0) .nil)) (.bop .add (.blt .len (.cons (.var 1) .nil)) (.con (.int 1)))) (.blt .all (.cons (.lc [2, 3] (.tup [2, 3]) (.zip (.var 1) (.slc true false (.var 0) (.con (.int 1)) (.con .non))) (.con (.bl true)) e1_is_event) .nil)))) .nil)))⟩
def b1_is_timetable : Ss := (.cons (.iff (.not (.mc "Course" "can" i_Course_can (.var 1) (.cons (.var 2) .nil))) (.cons (.ret (.con (.bl false))) .nil) .nil) (.cons (.exp (.mc "Course" "go" i_Course_go (.var 1) (.cons (.var 2) .nil))) .nil))
def ir_is_timetable : Df := ⟨1, 3, (.cons (.iff (.or (.not (.isi (.var 0) [.tuple])) (.not (.blt .all (.cons (.lc [2] (.name 2) (.seq (.var 0)) (.con (.bl true)) (.call i_is_event (.cons (.var 2) .nil))) .nil)))) (.cons (.ret (.con (.bl false))) .nil) .nil) (.cons (.asg (.name 1) (.call i_mk_Course .nil)) (.cons (.for_ (.name 2) (.seq (.var 0)) b1_is_timetable) (.cons (.ret (.con (.bl true))) .nil))))⟩
def ir_l_box : Df := ⟨2, 4, (.cons (.asg (.name 2) (.ite (.cmp .lt (.var 1) (.blt .len (.cons (.var 0) .nil))) (.idx (.var 0) (.var 1)) (.con (.int 0)))) (.cons (.asg (.name 3) (.bop .mod (.blt .int (.cons (.bop .mul (.bop .add (.bop .add (.bop .mod (.blt .int (.cons (.var 2) .nil)) (.con (.int 2305843009213693921))) (.bop .mul (.con (.int 41177)) (.var 1))) (.con (.int 53))) (.con (.int 38923))) .nil)) (.con (.int 2147483563)))) (.cons (.ret (.lst (.cons (.bop .mul (.blt .abs (.cons (.var 2) .nil)) (.blt .int (.cons (.cmp .ge (.blt .abs (.cons (.var 2) .nil)) (.bop .pow (.con (.int 10)) (.con (.int 18)))) .nil))) (.cons (.var 3) (.cons (.con (.int 0)) .nil))))) .nil)))⟩
def ir_l_take : Df := ⟨2, 5, (.cons (.iff (.cmp .gt (.idx (.var 0) (.con (.int 0))) (.con (.int 0))) (.cons (.asg (.name 2) (.bop .mod (.blt .int (.cons (.idx (.var 0) (.con (.int 0))) .nil)) (.var 1))) (.cons (.sto (.var 0) (.con (.int 0)) (.bop .fdiv (.idx (.var 0) (.con (.int 0))) (.var 1))) (.cons (.ret (.var 2)) .nil))) .nil) (.cons (.sto (.var 0) (.con (.int 2)) (.bop .add (.idx (.var 0) (.con (.int 2))) (.con (.int 1)))) (.cons (.asg (.name 3) (.bop .mod (.blt .int (.cons (.bop .pow (.bop .add (.idx (.var 0) (.con (.int 1))) (.bop .mul (.con (.int 51749)) (.idx (.var 0) (.con (.int 2))))) (.con (.int 3))) .nil)) (.con (.int 2147483549)))) (.cons (.asg (.name 4) (.bop .add (.bop .mod (.blt .int (.cons (.var 3) .nil)) (.con (.int 30011))) (.con (.int 17)))) (.cons (.ret (.bop .mod (.blt .int (.cons (.bop .fdiv (.bop .mod (.blt .int (.cons (.bop .add (.bop .mul (.var 3) (.var 4)) (.bop .mul (.idx (.var 0) (.con (.int 2))) (.con (.int 7039)))) .nil)) (.con (.int 2147483629))) (.con (.int 32))) .nil)) (.var 1))) .nil)))))⟩
def ir_l_of : Df := ⟨2, 2, (.cons (.ret (.idx (.var 1) (.call i_l_take (.cons (.var 0) (.cons (.blt .len (.cons (.var 1) .nil)) .nil))))) .nil)⟩
def e1_l_same : E := (.call i_l_same (.cons (.var 2) (.cons (.var 3) .nil)))
def ir_l_same : Df := ⟨2, 4, (.cons (.iff (.isi (.var 1) [.list, .tuple]) (.cons (.iff (.cmp .ne (.isi (.var 0) [.list]) (.isi (.var 1) [.list])) (.cons (.ret (.con (.bl false))) .nil) .nil) (.cons (.iff (.cmp .ne (.isi (.var 0) [.tuple]) (.isi (.var 1) [.tuple])) (.cons (.ret (.con (.bl false))) .nil) .nil) (.cons (.ret (.and (.cmp .eq (.blt .len (.cons (.var 0) .nil)) (.blt .len (.cons (.var 1) .nil))) (.blt .all (.cons (.lc [2, 3] (.tup [2, 3]) (.zip (.var 0) (.var 1)) (.con (.bl true)) e1_l_same) .nil)))) .nil))) .nil) (.cons (.iff (.or (.cmp .isN (.var 1) (.con .non)) (.isi (.var 1) [.bool, .str])) (.cons (.ret (.and (.cmp .eq (.var 0) (.var 1)) (.and (.cmp .eq (.isi (.var 0) [.bool]) (.isi (.var 1) [.bool])) (.cmp .eq (.cmp .isN (.var 0) (.con .non)) (.cmp .isN (.var 1) (.con .non)))))) .nil) .nil) (.cons (.ret (.and (.isi (.var 0) [.int]) (.and (.not (.isi (.var 0) [.bool])) (.cmp .eq (.var 0) (.var 1))))) .nil)))⟩
def ir_l_event : Df := ⟨5, 9, (.cons (.asg (.tup [5, 6, 7]) (.tup (.cons (.idx (.var 4) (.call i_l_take (.cons (.var 0) (.cons (.blt .len (.cons (.var 4) .nil)) .nil)))) (.cons (.call i_l_take (.cons (.var 0) (.cons (.var 2) .nil))) (.cons (.call i_l_of (.cons (.var 0) (.cons (.var 3) .nil))) .nil))))) (.cons (.iff (.cmp .eq (.var 5) (.con (.str "p"))) (.cons (.ret (.tup (.cons (.con (.str "put")) (.cons (.var 7) (.cons (.call i_l_take (.cons (.var 0) (.cons (.con (.int 9)) .nil))) .nil))))) .nil) .nil) (.cons (.iff (.cmp .isin (.var 5) (.tup (.cons (.con (.str "d")) (.cons (.con (.str "w")) .nil)))) (.cons (.ret (.ite (.cmp .eq (.var 5) (.con (.str "d"))) (.tup (.cons (.con (.str "drop")) (.cons (.var 7) .nil))) (.tup (.cons (.con (.str "wait")) .nil)))) .nil) .nil) (.cons (.iff (.cmp .eq (.var 5) (.con (.str "j"))) (.cons (.ret (.tup (.cons (.con (.str "join")) (.cons (.var 6) .nil)))) .nil) .nil) (.cons (.iff (.cmp .eq (.var 5) (.con (.str "l"))) (.cons (.ret (.ite (.cmp .ne (.idx (.var 1) (.con (.str "copies"))) (.lst .nil)) (.tup (.cons (.con (.str "load")) (.cons (.var 6) (.cons (.call i_l_take (.cons (.var 0) (.cons (.blt .len (.cons (.idx (.var 1) (.con (.str "copies"))) .nil)) .nil))) .nil)))) (.con .non))) .nil) .nil) (.cons (.iff (.cmp .notin (.var 6) (.idx (.var 1) (.con (.str "seats")))) (.cons (.ret (.tup (.cons (.con (.str "join")) (.cons (.var 6) .nil)))) .nil) .nil) (.cons (.iff (.cmp .eq (.var 5) (.con (.str "s"))) (.cons (.ret (.tup (.cons (.con (.str "save")) (.cons (.var 6) .nil)))) .nil) .nil) (.cons (.asg (.name 8) (.bop .sub (.idx (.var 1) (.con (.str "many"))) (.idx (.idx (.var 1) (.con (.str "seats"))) (.var 6)))) (.cons (.ret (.ite (.cmp .gt (.var 8) (.con (.int 0))) (.tup (.cons (.con (.str "read")) (.cons (.var 6) (.cons (.bop .add (.bop .add (.idx (.idx (.var 1) (.con (.str "seats"))) (.var 6)) (.con (.int 1))) (.call i_l_take (.cons (.var 0) (.cons (.var 8) .nil)))) .nil)))) (.con .non))) .nil)))))))))⟩
def ir_l_moved : Df := ⟨2, 3, (.cons (.asg (.name 2) (.idx (.var 1) (.con (.int 0)))) (.cons (.iff (.cmp .isin (.var 2) (.tup (.cons (.con (.str "put")) (.cons (.con (.str "drop")) .nil)))) (.cons (.sto (.var 0) (.con (.str "many")) (.bop .add (.idx (.var 0) (.con (.str "many"))) (.con (.int 1)))) .nil) (.cons (.iff (.cmp .eq (.var 2) (.con (.str "join"))) (.cons (.sto (.idx (.var 0) (.con (.str "seats"))) (.idx (.var 1) (.con (.int 1))) (.con (.int 0))) .nil) (.cons (.iff (.cmp .eq (.var 2) (.con (.str "read"))) (.cons (.sto (.idx (.var 0) (.con (.str "seats"))) (.idx (.var 1) (.con (.int 1))) (.idx (.var 1) (.con (.int 2)))) .nil) (.cons (.iff (.cmp .eq (.var 2) (.con (.str "save"))) (.cons (.exp (.mth .append (.idx (.var 0) (.con (.str "copies"))) (.cons (.idx (.idx (.var 0) (.con (.str "seats"))) (.idx (.var 1) (.con (.int 1)))) .nil))) .nil) (.cons (.iff (.cmp .eq (.var 2) (.con (.str "load"))) (.cons (.sto (.idx (.var 0) (.con (.str "seats"))) (.idx (.var 1) (.con (.int 1))) (.idx (.idx (.var 0) (.con (.str "copies"))) (.idx (.var 1) (.con (.int 2))))) .nil) .nil) .nil)) .nil)) .nil)) .nil)) .nil))⟩
def b1_l_table : Ss := (.cons (.asg (.name 9) (.call i_l_event (.cons (.var 0) (.cons (.var 7) (.cons (.var 3) (.cons (.var 4) (.cons (.var 5) .nil))))))) (.cons (.asg (.name 10) (.and (.cmp .isNN (.var 9) (.con .non)) (.and (.cmp .isin (.idx (.var 9) (.con (.int 0))) (.tup (.cons (.con (.str "put")) (.cons (.con (.str "drop")) .nil)))) (.cmp .ge (.idx (.var 7) (.con (.str "many"))) (.var 2))))) (.cons (.iff (.and (.cmp .isNN (.var 9) (.con .non)) (.and (.not (.var 10)) (.or (.cmp .ne (.idx (.var 9) (.con (.int 0))) (.con (.str "save"))) (.cmp .lt (.blt .len (.cons (.idx (.var 7) (.con (.str "copies"))) .nil)) (.con (.int 3)))))) (.cons (.exp (.call i_l_moved (.cons (.var 7) (.cons (.var 9) .nil)))) (.cons (.exp (.mth .append (.var 6) (.cons (.var 9) .nil))) .nil)) .nil) .nil)))
def ir_l_table : Df := ⟨6, 11, (.cons (.asg (.tup [6, 7]) (.tup (.cons (.lst .nil) (.cons (.dct [.inr "seats", .inr "copies", .inr "many"] (.cons .dnew (.cons (.lst .nil) (.cons (.con (.int 0)) .nil)))) .nil)))) (.cons (.for_ (.name 8) (.rng1 (.var 1)) b1_l_table) (.cons (.ret (.blt .tuple (.cons (.var 6) .nil))) .nil)))⟩
def c1_l_ended : E := (.cmp .lt (.idx (.idx (.var 1) (.con (.str "seats"))) (.var 3)) (.idx (.var 1) (.con (.str "many"))))
def e2_l_ended : E := (.tup (.cons (.con (.str "read")) (.cons (.var 3) (.cons (.idx (.var 1) (.con (.str "many"))) .nil))))
def b3_l_ended : Ss := (.cons (.exp (.call i_l_moved (.cons (.var 1) (.cons (.var 2) .nil)))) .nil)
def ir_l_ended : Df := ⟨1, 4, (.cons (.asg (.name 1) (.dct [.inr "seats", .inr "copies", .inr "many"] (.cons .dnew (.cons (.lst .nil) (.cons (.con (.int 0)) .nil))))) (.cons (.for_ (.name 2) (.seq (.var 0)) b3_l_ended) (.cons (.ret (.bop .add (.var 0) (.blt .tuple (.cons (.lc [3] (.name 3) (.seq (.blt .sorted (.cons (.idx (.var 1) (.con (.str "seats"))) .nil))) c1_l_ended e2_l_ended) .nil)))) .nil)))⟩
def e1_l_lots : E := (.ite (.cmp .eq (.var 7) (.con (.str "p"))) (.tup (.cons (.con (.str "put")) (.cons (.var 4) (.cons (.call i_l_take (.cons (.var 0) (.cons (.con (.int 9)) .nil))) .nil)))) (.tup (.cons (.con (.str "drop")) (.cons (.var 4) .nil))))
def b2_l_lots : Ss := (.cons (.asg (.name 5) (.idx (.lst (.cons (.con (.str "pd")) (.cons (.con (.str "pd")) (.cons (.con (.str "ppd")) (.cons (.con (.str "pdpd")) (.cons (.con (.str "dpd")) (.cons (.con (.str "pdp")) .nil))))))) (.call i_l_take (.cons (.var 0) (.cons (.con (.int 6)) .nil))))) (.cons (.asg (.name 6) (.lc [7] (.name 7) (.seq (.var 5)) (.con (.bl true)) e1_l_lots)) (.cons (.iff (.cmp .le (.bop .add (.blt .sum (.cons (.lc [8] (.name 8) (.seq (.var 3)) (.con (.bl true)) (.blt .len (.cons (.var 8) .nil))) .nil)) (.blt .len (.cons (.var 6) .nil))) (.var 1)) (.cons (.exp (.mth .append (.var 3) (.cons (.var 6) .nil))) .nil) .nil) .nil)))
def ir_l_lots : Df := ⟨3, 9, (.cons (.asg (.name 3) (.lst .nil)) (.cons (.for_ (.name 4) (.seq (.var 2)) b2_l_lots) (.cons (.ret (.var 3)) .nil)))⟩
def b1_l_beside : Ss := (.cons (.asg (.name 5) (.bop .sub (.idx (.var 1) (.con (.str "many"))) (.idx (.idx (.var 1) (.con (.str "seats"))) (.var 4)))) (.cons (.iff (.and (.cmp .gt (.var 5) (.con (.int 0))) (.cmp .eq (.call i_l_take (.cons (.var 0) (.cons (.con (.int 2)) .nil))) (.con (.int 0)))) (.cons (.exp (.mth .append (.var 3) (.cons (.tup (.cons (.con (.str "read")) (.cons (.var 4) (.cons (.bop .add (.bop .add (.idx (.idx (.var 1) (.con (.str "seats"))) (.var 4)) (.con (.int 1))) (.call i_l_take (.cons (.var 0) (.cons (.var 5) .nil)))) .nil)))) .nil))) .nil) .nil) .nil))
def ir_l_beside : Df := ⟨3, 7, (.cons (.asg (.name 3) (.lst .nil)) (.cons (.for_ (.name 4) (.rng1 (.var 2)) b1_l_beside) (.cons (.asg (.tup [6, 4]) (.tup (.cons (.call i_l_take (.cons (.var 0) (.cons (.con (.int 11)) .nil))) (.cons (.call i_l_take (.cons (.var 0) (.cons (.var 2) .nil))) .nil)))) (.cons (.iff (.cmp .eq (.var 6) (.con (.int 0))) (.cons (.exp (.mth .append (.var 3) (.cons (.tup (.cons (.con (.str "wait")) .nil)) .nil))) .nil) .nil) (.cons (.iff (.and (.cmp .eq (.var 6) (.con (.int 1))) (.cmp .lt (.blt .len (.cons (.idx (.var 1) (.con (.str "copies"))) .nil)) (.con (.int 3)))) (.cons (.exp (.mth .append (.var 3) (.cons (.tup (.cons (.con (.str "save")) (.cons (.var 4) .nil))) .nil))) .nil) .nil) (.cons (.iff (.and (.cmp .eq (.var 6) (.con (.int 2))) (.cmp .ne (.idx (.var 1) (.con (.str "copies"))) (.lst .nil))) (.cons (.exp (.mth .append (.var 3) (.cons (.tup (.cons (.con (.str "load")) (.cons (.var 4) (.cons (.call i_l_take (.cons (.var 0) (.cons (.blt .len (.cons (.idx (.var 1) (.con (.str "copies"))) .nil)) .nil))) .nil)))) .nil))) .nil) .nil) (.cons (.iff (.cmp .eq (.var 6) (.con (.int 3))) (.cons (.exp (.mth .append (.var 3) (.cons (.tup (.cons (.con (.str "join")) (.cons (.var 4) .nil))) .nil))) .nil) .nil) (.cons (.ret (.var 3)) .nil))))))))⟩
def b1_l_fit : Ss := (.cons (.iff (.cmp .lt (.bop .add (.bop .add (.blt .len (.cons (.var 6) .nil)) (.var 9)) (.var 2)) (.var 3)) (.cons (.exp (.call i_l_moved (.cons (.var 5) (.cons (.var 7) .nil)))) (.cons (.exp (.mth .append (.var 6) (.cons (.var 7) .nil))) .nil)) .nil) .nil)
def b2_l_fit : Ss := (.cons (.asg (.name 8) (.idx (.var 4) (.call i_l_take (.cons (.var 0) (.cons (.blt .len (.cons (.var 4) .nil)) .nil))))) (.cons (.exp (.mth .append (.var 6) (.cons (.mth .pop1 (.var 8) (.cons (.con (.int 0)) .nil)) .nil))) (.cons (.exp (.call i_l_moved (.cons (.var 5) (.cons (.idx (.var 6) (.neg (.con (.int 1)))) .nil)))) (.cons (.asg (.name 4) (.lc [11] (.name 11) (.seq (.var 4)) (.cmp .ne (.var 11) (.lst .nil)) (.var 11))) (.cons (.asg (.name 9) (.blt .sum (.cons (.lc [11] (.name 11) (.seq (.var 4)) (.con (.bl true)) (.blt .len (.cons (.var 11) .nil))) .nil))) (.cons (.for_ (.name 7) (.seq (.call i_l_beside (.cons (.var 0) (.cons (.var 5) (.cons (.var 2) .nil))))) b1_l_fit) .nil))))))
def b3_l_fit : Ss := (.cons (.exp (.call i_l_moved (.cons (.var 5) (.cons (.var 7) .nil)))) .nil)
def e4_l_fit : E := (.tup (.cons (.con (.str "join")) (.cons (.var 10) .nil)))
def ir_l_fit : Df := ⟨4, 12, (.cons (.asg (.name 4) (.call i_l_lots (.cons (.var 0) (.cons (.var 1) (.cons (.slc false true (.lst (.cons (.con (.str "a")) (.cons (.con (.str "b")) (.cons (.con (.str "cc")) .nil)))) (.con .non) (.bop .sub (.bop .fdiv (.var 1) (.con (.int 2))) (.blt .int (.cons (.cmp .eq (.var 2) (.con (.int 3))) .nil)))) .nil))))) (.cons (.asg (.tup [5, 6]) (.tup (.cons (.dct [.inr "seats", .inr "copies", .inr "many"] (.cons .dnew (.cons (.lst .nil) (.cons (.con (.int 0)) .nil)))) (.cons (.lc [10] (.name 10) (.rng1 (.var 2)) (.con (.bl true)) e4_l_fit) .nil)))) (.cons (.for_ (.name 7) (.seq (.var 6)) b3_l_fit) (.cons (.whl (.cmp .ne (.var 4) (.lst .nil)) b2_l_fit) (.cons (.ret (.call i_l_ended (.cons (.blt .tuple (.cons (.var 6) .nil)) .nil))) .nil)))))⟩
def ir_l_drawn : Df := ⟨2, 5, (.cons (.iff (.cmp .eq (.call i_l_take (.cons (.var 0) (.cons (.con (.int 2)) .nil))) (.con (.int 0))) (.cons (.ret (.call i_l_fit (.cons (.var 0) (.cons (.var 1) (.cons (.bop .add (.con (.int 1)) (.call i_l_take (.cons (.var 0) (.cons (.con (.int 3)) .nil)))) (.cons (.con (.int 15)) .nil)))))) .nil) .nil) (.cons (.asg (.name 2) (.slc false true (.lst (.cons (.con (.str "a")) (.cons (.con (.str "b")) (.cons (.con (.str "cc")) (.cons (.con (.str "abc")) .nil))))) (.con .non) (.bop .add (.con (.int 2)) (.call i_l_take (.cons (.var 0) (.cons (.con (.int 3)) .nil)))))) (.cons (.asg (.name 3) (.call i_l_of (.cons (.var 0) (.cons (.lst (.cons (.con (.str "ppdddrrrsl")) (.cons (.con (.str "pdddrrrwwj")) (.cons (.con (.str "ppddrrrrrsllw")) .nil)))) .nil)))) (.cons (.asg (.name 4) (.call i_l_table (.cons (.var 0) (.cons (.bop .add (.con (.int 7)) (.call i_l_take (.cons (.var 0) (.cons (.con (.int 6)) .nil)))) (.cons (.var 1) (.cons (.bop .add (.con (.int 1)) (.call i_l_take (.cons (.var 0) (.cons (.con (.int 4)) .nil)))) (.cons (.var 2) (.cons (.var 3) .nil)))))))) (.cons (.ret (.ite (.cmp .gt (.call i_l_take (.cons (.var 0) (.cons (.con (.int 4)) .nil))) (.con (.int 0))) (.call i_l_ended (.cons (.var 4) .nil)) (.var 4))) .nil)))))⟩
def ir_l_is_plain : Df := ⟨1, 1, (.cons (.ret (.and (.isi (.var 0) [.int]) (.not (.isi (.var 0) [.bool])))) .nil)⟩
def ir_l_is_name : Df := ⟨1, 3, (.cons (.asg (.name 1) (.con (.str "abcdefghijklmnopqrstuvwxyz"))) (.cons (.ret (.and (.isi (.var 0) [.str]) (.and (.chn .le .le (.con (.int 1)) (.blt .len (.cons (.var 0) .nil)) (.con (.int 8))) (.cmp .eq (.lc [2] (.name 2) (.seq (.var 0)) (.cmp .notin (.var 2) (.var 1)) (.var 2)) (.lst .nil))))) .nil))⟩
def e1_l_is_row : E := (.and (.call i_l_is_plain (.cons (.var 4) .nil)) (.cmp .ge (.var 4) (.con (.int 0))))
def ir_l_is_row : Df := ⟨1, 5, (.cons (.iff (.or (.not (.isi (.var 0) [.tuple])) (.or (.cmp .eq (.var 0) (.tup .nil)) (.not (.isi (.idx (.var 0) (.con (.int 0))) [.str])))) (.cons (.ret (.con (.bl false))) .nil) .nil) (.cons (.asg (.tup [1, 2]) (.tup (.cons (.idx (.var 0) (.con (.int 0))) (.cons (.slc true false (.var 0) (.con (.int 1)) (.con .non)) .nil)))) (.cons (.iff (.cmp .eq (.var 1) (.con (.str "put"))) (.cons (.ret (.and (.cmp .eq (.blt .len (.cons (.var 2) .nil)) (.con (.int 2))) (.and (.call i_l_is_name (.cons (.idx (.var 2) (.con (.int 0))) .nil)) (.call i_l_is_plain (.cons (.idx (.var 2) (.con (.int 1))) .nil))))) .nil) .nil) (.cons (.iff (.cmp .eq (.var 1) (.con (.str "drop"))) (.cons (.ret (.and (.cmp .eq (.blt .len (.cons (.var 2) .nil)) (.con (.int 1))) (.call i_l_is_name (.cons (.idx (.var 2) (.con (.int 0))) .nil)))) .nil) .nil) (.cons (.asg (.name 3) (.dct [.inr "join", .inr "save", .inr "read", .inr "load", .inr "wait"] (.cons (.con (.int 1)) (.cons (.con (.int 1)) (.cons (.con (.int 2)) (.cons (.con (.int 2)) (.cons (.con (.int 0)) .nil))))))) (.cons (.iff (.cmp .ne (.mth .get1 (.var 3) (.cons (.var 1) .nil)) (.blt .len (.cons (.var 2) .nil))) (.cons (.ret (.con (.bl false))) .nil) .nil) (.cons (.ret (.blt .all (.cons (.lc [4] (.name 4) (.seq (.var 2)) (.con (.bl true)) e1_l_is_row) .nil))) .nil)))))))⟩
def b1_l_is_whole : Ss := (.cons (.iff (.and (.cmp .isin (.idx (.var 2) (.con (.int 0))) (.tup (.cons (.con (.str "read")) (.cons (.con (.str "save")) .nil)))) (.cmp .notin (.idx (.var 2) (.con (.int 1))) (.idx (.var 1) (.con (.str "seats"))))) (.cons (.ret (.con (.bl false))) .nil) .nil) (.cons (.iff (.and (.cmp .eq (.idx (.var 2) (.con (.int 0))) (.con (.str "read"))) (.not (.chn .lt .le (.idx (.idx (.var 1) (.con (.str "seats"))) (.idx (.var 2) (.con (.int 1)))) (.idx (.var 2) (.con (.int 2))) (.idx (.var 1) (.con (.str "many")))))) (.cons (.ret (.con (.bl false))) .nil) .nil) (.cons (.iff (.and (.cmp .eq (.idx (.var 2) (.con (.int 0))) (.con (.str "load"))) (.cmp .ge (.idx (.var 2) (.con (.int 2))) (.blt .len (.cons (.idx (.var 1) (.con (.str "copies"))) .nil)))) (.cons (.ret (.con (.bl false))) .nil) .nil) (.cons (.exp (.call i_l_moved (.cons (.var 1) (.cons (.var 2) .nil)))) .nil))))
def ir_l_is_whole : Df := ⟨1, 3, (.cons (.iff (.or (.not (.isi (.var 0) [.tuple])) (.not (.blt .all (.cons (.lc [2] (.name 2) (.seq (.var 0)) (.con (.bl true)) (.call i_l_is_row (.cons (.var 2) .nil))) .nil)))) (.cons (.ret (.con (.bl false))) .nil) .nil) (.cons (.asg (.name 1) (.dct [.inr "seats", .inr "copies", .inr "many"] (.cons .dnew (.cons (.lst .nil) (.cons (.con (.int 0)) .nil))))) (.cons (.for_ (.name 2) (.seq (.var 0)) b1_l_is_whole) (.cons (.ret (.con (.bl true))) .nil))))⟩
def ir_l_bent : Df := ⟨2, 8, (.cons (.asg (.tup [2, 3]) (.tup (.cons (.call i_l_take (.cons (.var 0) (.cons (.blt .len (.cons (.var 1) .nil)) .nil))) (.cons (.call i_l_take (.cons (.var 0) (.cons (.con (.int 9)) .nil))) .nil)))) (.cons (.asg (.name 4) (.idx (.var 1) (.var 2))) (.cons (.asg (.name 5) (.call i_l_take (.cons (.var 0) (.cons (.blt .len (.cons (.var 4) .nil)) .nil)))) (.cons (.asg (.name 6) (.lst (.cons (.con (.bl true)) (.cons (.neg (.con (.int 1))) (.cons (.con (.int 0)) (.cons (.con (.int 1)) (.cons (.con (.int 2)) (.cons (.con (.int 7)) (.cons (.con (.str "a")) (.cons (.con (.str "A")) (.cons (.con (.str "")) (.cons (.con (.str "abcdefghi")) (.cons (.con (.str "put")) (.cons (.con (.str "wait")) (.cons (.con .non) (.cons (.tup .nil) (.cons (.lst (.cons (.con (.int 0)) .nil)) (.cons (.bop .pow (.con (.int 10)) (.con (.int 12))) .nil)))))))))))))))))) (.cons (.asg (.name 6) (.bop .add (.var 6) (.lst (.cons (.con (.str "a1")) (.cons (.con (.str "a b")) (.cons (.con (.str "a_b")) (.cons (.con (.str "12")) (.cons (.con (.str " a")) .nil)))))))) (.cons (.iff (.cmp .lt (.var 3) (.con (.int 2))) (.cons (.ret (.bop .add (.slc false true (.var 1) (.con .non) (.var 2)) (.slc true false (.var 1) (.bop .add (.var 2) (.con (.int 1))) (.con .non)))) .nil) .nil) (.cons (.iff (.cmp .eq (.var 3) (.con (.int 2))) (.cons (.ret (.bop .add (.bop .add (.slc false true (.var 1) (.con .non) (.var 2)) (.slc true true (.var 1) (.var 2) (.bop .add (.var 2) (.con (.int 1))))) (.slc true false (.var 1) (.var 2) (.con .non)))) .nil) .nil) (.cons (.iff (.cmp .eq (.var 3) (.con (.int 3))) (.cons (.ret (.bop .add (.bop .add (.slc false true (.var 1) (.con .non) (.var 2)) (.rev (.slc true true (.var 1) (.var 2) (.bop .add (.var 2) (.con (.int 2)))))) (.slc true false (.var 1) (.bop .add (.var 2) (.con (.int 2))) (.con .non)))) .nil) .nil) (.cons (.iff (.cmp .eq (.var 3) (.con (.int 4))) (.cons (.ret (.call i_l_of (.cons (.var 0) (.cons (.lst (.cons (.blt .list (.cons (.var 1) .nil)) (.cons (.bop .add (.bop .add (.slc false true (.var 1) (.con .non) (.var 2)) (.tup (.cons (.blt .list (.cons (.var 4) .nil)) .nil))) (.slc true false (.var 1) (.bop .add (.var 2) (.con (.int 1))) (.con .non))) (.cons (.bop .add (.var 1) (.tup (.cons (.tup .nil) .nil))) (.cons (.tup (.cons (.var 1) .nil)) .nil))))) .nil)))) .nil) .nil) (.cons (.iff (.cmp .eq (.var 3) (.con (.int 5))) (.cons (.ret (.bop .add (.bop .add (.slc false true (.var 1) (.con .non) (.var 2)) (.tup (.cons (.bop .add (.var 4) (.tup (.cons (.con (.int 0)) .nil))) .nil))) (.slc true false (.var 1) (.bop .add (.var 2) (.con (.int 1))) (.con .non)))) .nil) .nil) (.cons (.asg (.name 7) (.bop .add (.bop .add (.slc false true (.var 4) (.con .non) (.var 5)) (.tup (.cons (.call i_l_of (.cons (.var 0) (.cons (.var 6) .nil))) .nil))) (.slc true false (.var 4) (.bop .add (.var 5) (.con (.int 1))) (.con .non)))) (.cons (.ret (.bop .add (.bop .add (.slc false true (.var 1) (.con .non) (.var 2)) (.tup (.cons (.var 7) .nil))) (.slc true false (.var 1) (.bop .add (.var 2) (.con (.int 1))) (.con .non)))) .nil))))))))))))⟩
def b1_l_right : Ss := (.cons (.iff (.not (.call i_l_same (.cons (.lst (.cons (.call i_is_event (.cons (.var 6) .nil)) (.cons (.call i_is_event (.cons (.var 6) .nil)) .nil))) (.cons (.bop .mul (.lst (.cons (.call i_l_is_row (.cons (.var 6) .nil)) .nil)) (.con (.int 2))) .nil)))) (.cons (.ret (.con (.bl false))) .nil) .nil) .nil)
def b2_l_right : Ss := (.cons (.asg (.name 5) (.call i_l_is_whole (.cons (.var 4) .nil))) (.cons (.iff (.not (.call i_l_same (.cons (.lst (.cons (.call i_is_timetable (.cons (.var 4) .nil)) (.cons (.call i_is_timetable (.cons (.var 4) .nil)) .nil))) (.cons (.lst (.cons (.var 5) (.cons (.var 5) .nil))) .nil)))) (.cons (.ret (.con (.bl false))) .nil) .nil) (.cons (.for_ (.name 6) (.seq (.ite (.isi (.var 4) [.tuple, .list]) (.var 4) (.lst (.cons (.var 4) .nil)))) b1_l_right) .nil)))
def e3_l_right : E := (.call i_l_bent (.cons (.var 0) (.cons (.var 2) .nil)))
def b4_l_right : Ss := (.cons (.asg (.name 2) (.call i_l_drawn (.cons (.var 0) (.cons (.con (.int 6)) .nil)))) (.cons (.asg (.name 3) (.lst (.cons (.var 2) (.cons (.slc false true (.var 2) (.con .non) (.call i_l_take (.cons (.var 0) (.cons (.bop .add (.blt .len (.cons (.var 2) .nil)) (.con (.int 1))) .nil)))) (.cons (.tup .nil) (.cons (.con .non) (.cons (.con (.bl true)) (.cons (.con (.int 0)) (.cons (.con (.str "wait")) (.cons (.tup (.cons (.tup .nil) .nil)) (.cons (.tup (.cons (.tup (.cons (.con (.str "wait")) .nil)) .nil)) .nil))))))))))) (.cons (.asg (.name 3) (.bop .add (.var 3) (.lst (.cons (.lst (.cons (.tup (.cons (.con (.str "wait")) .nil)) .nil)) (.cons (.tup (.cons (.tup (.cons (.con (.str "drop")) (.cons (.con (.str "a1")) .nil))) .nil)) (.cons (.tup (.cons (.tup (.cons (.con (.str "drop")) (.cons (.con (.str "a b")) .nil))) .nil)) (.cons (.tup (.cons (.tup (.cons (.con (.str "put")) (.cons (.con (.str "x9")) (.cons (.con (.int 0)) .nil)))) .nil)) .nil))))))) (.cons (.asg (.name 3) (.bop .add (.var 3) (.lc [7] (.name 7) (.rng1 (.con (.int 14))) (.cmp .ne (.var 2) (.tup .nil)) e3_l_right))) (.cons (.for_ (.name 4) (.seq (.var 3)) b2_l_right) .nil)))))
def ir_l_right : Df := ⟨1, 8, (.cons (.for_ (.name 1) (.rng1 (.con (.int 3))) b4_l_right) (.cons (.ret (.con (.bl true))) .nil))⟩
def e1_law : E := (.call i_l_right (.cons (.call i_l_box (.cons (.var 0) (.cons (.var 1) .nil))) .nil))
def ir_law : Df := ⟨1, 2, (.cons (.ret (.blt .all (.cons (.lc [1] (.name 1) (.rng1 (.bop .add (.con (.int 1)) (.blt .min2 (.cons (.con (.int 2)) (.cons (.blt .len (.cons (.var 0) .nil)) .nil))))) (.con (.bl true)) e1_law) .nil))) .nil)⟩
def ir_Course_init : Df := ⟨1, 1, (.cons (.fset "Course" "own_many" (.var 0) (.con (.int 0))) (.cons (.fset "Course" "own_places" (.var 0) .dnew) (.cons (.fset "Course" "own_copies" (.var 0) (.lst .nil)) .nil)))⟩
def ir_Course_can : Df := ⟨2, 4, (.cons (.iff (.cmp .isin (.idx (.var 1) (.con (.int 0))) (.tup (.cons (.con (.str "put")) (.cons (.con (.str "drop")) (.cons (.con (.str "join")) (.cons (.con (.str "wait")) .nil)))))) (.cons (.ret (.con (.bl true))) .nil) .nil) (.cons (.asg (.tup [2, 3]) (.slc false true (.var 1) (.con .non) (.con (.int 2)))) (.cons (.iff (.cmp .eq (.var 2) (.con (.str "read"))) (.cons (.ret (.and (.cmp .isin (.var 3) (.fld "Course" "own_places" (.var 0))) (.chn .lt .le (.idx (.fld "Course" "own_places" (.var 0)) (.var 3)) (.idx (.var 1) (.con (.int 2))) (.fld "Course" "own_many" (.var 0))))) .nil) .nil) (.cons (.iff (.cmp .eq (.var 2) (.con (.str "save"))) (.cons (.ret (.cmp .isin (.var 3) (.fld "Course" "own_places" (.var 0)))) .nil) .nil) (.cons (.ret (.cmp .lt (.idx (.var 1) (.con (.int 2))) (.blt .len (.cons (.fld "Course" "own_copies" (.var 0)) .nil)))) .nil)))))⟩
def ir_Course_go : Df := ⟨2, 4, (.cons (.iff (.cmp .eq (.idx (.var 1) (.con (.int 0))) (.con (.str "wait"))) (.cons (.ret (.con .non)) .nil) .nil) (.cons (.asg (.tup [2, 3]) (.slc false true (.var 1) (.con .non) (.con (.int 2)))) (.cons (.iff (.cmp .isin (.var 2) (.tup (.cons (.con (.str "put")) (.cons (.con (.str "drop")) .nil)))) (.cons (.faug "Course" "own_many" (.var 0) (.con (.int 1))) .nil) (.cons (.iff (.cmp .eq (.var 2) (.con (.str "join"))) (.cons (.sto (.fld "Course" "own_places" (.var 0)) (.var 3) (.con (.int 0))) .nil) (.cons (.iff (.cmp .eq (.var 2) (.con (.str "read"))) (.cons (.sto (.fld "Course" "own_places" (.var 0)) (.var 3) (.idx (.var 1) (.con (.int 2)))) .nil) (.cons (.iff (.cmp .eq (.var 2) (.con (.str "save"))) (.cons (.exp (.mth .append (.fld "Course" "own_copies" (.var 0)) (.cons (.idx (.fld "Course" "own_places" (.var 0)) (.var 3)) .nil))) .nil) (.cons (.sto (.fld "Course" "own_places" (.var 0)) (.var 3) (.idx (.fld "Course" "own_copies" (.var 0)) (.idx (.var 1) (.con (.int 2))))) .nil)) .nil)) .nil)) .nil)) .nil)))⟩
def tab : Nat → Option Dx
  | 0 => some (.fn ir_is_number)
  | 1 => some (.fn ir_is_count)
  | 2 => some (.fn ir_is_key)
  | 3 => some (.fn ir_is_event)
  | 4 => some (.fn ir_is_timetable)
  | 5 => some (.fn ir_l_box)
  | 6 => some (.fn ir_l_take)
  | 7 => some (.fn ir_l_of)
  | 8 => some (.fn ir_l_same)
  | 9 => some (.fn ir_l_event)
  | 10 => some (.fn ir_l_moved)
  | 11 => some (.fn ir_l_table)
  | 12 => some (.fn ir_l_ended)
  | 13 => some (.fn ir_l_lots)
  | 14 => some (.fn ir_l_beside)
  | 15 => some (.fn ir_l_fit)
  | 16 => some (.fn ir_l_drawn)
  | 17 => some (.fn ir_l_is_plain)
  | 18 => some (.fn ir_l_is_name)
  | 19 => some (.fn ir_l_is_row)
  | 20 => some (.fn ir_l_is_whole)
  | 21 => some (.fn ir_l_bent)
  | 22 => some (.fn ir_l_right)
  | 23 => some (.fn ir_law)
  | 24 => some (.fn ir_Course_init)
  | 25 => some (.fn ir_Course_can)
  | 26 => some (.fn ir_Course_go)
  | 27 => some (.mk "Course" 24)
  | _ => none
end Mp
/-! Mr: the evaluator, rule by rule. -/
namespace Mp
open PySem L2
section
variable {cf : CF} {sg sg1 sg2 : Sg} {M M1 M2 M3 : Mm} {e a b c : E} {es : Es} {x y z v : PV} {xs ys : List PV} {s : S} {ss ss2 : Ss} {i f : Nat} {w : Option (Fl × Mm)} {q : R}
theorem es_nil : evEs cf .nil sg M = some ([], M) := by rw [evEs]
theorem es_cons (h : evE cf e sg M = some (x, M1)) (h2 : evEs cf es sg M1 = some (xs, M2)) : evEs cf (.cons e es) sg M = some (x :: xs, M2) := by rw [evEs, h]; simp only [h2]
theorem es_one (h : evE cf e sg M = some (x, M1)) : evEs cf (.cons e .nil) sg M = some ([x], M1) := es_cons h es_nil
theorem e_var (h : sg[i]? = some (some v)) : evE cf (.var i) sg M = some (v, M) := by rw [evE, h]
theorem e_con : evE cf (.con v) sg M = some (v, M) := by rw [evE]
theorem e_call (h : evEs cf es sg M = some (xs, M1)) (h2 : cf f xs M1 = q) : evE cf (.call f es) sg M = q := by rw [evE, h]; exact h2
theorem e_blt {b : B} (h : evEs cf es sg M = some (xs, M1)) (h2 : bltP M1 b xs = q) : evE cf (.blt b es) sg M = q := by rw [evE, h]; exact h2
theorem e_lst (h : evEs cf es sg M = some (xs, M1)) (hl : xs.length ≤ 10000) : evE cf (.lst es) sg M = some (.ref M1.length, M1 ++ [Ob.lst xs]) := by
  rw [evE, h]; simp only []; rw [if_pos (by have : sizeLine = 16777216 := rfl; omega)]
theorem e_tup (h : evEs cf es sg M = some (xs, M1)) (hl : xs.length ≤ 10000) : evE cf (.tup es) sg M = some (.tup xs, M1) := by
  rw [evE, h]; simp only []; rw [if_pos (by have : sizeLine = 16777216 := rfl; omega)]
theorem e_bop {o : Bo} (h : evE cf a sg M = some (x, M1)) (h2 : evE cf b sg M1 = some (y, M2)) (h3 : bopP M2 o x y = q) : evE cf (.bop o a b) sg M = q := by rw [evE, h]; simp only [h2]; exact h3
theorem e_cmp {o : Co} {k : Bool} (h : evE cf a sg M = some (x, M1)) (h2 : evE cf b sg M1 = some (y, M2)) (h3 : cmpP M2 o x y = some k) : evE cf (.cmp o a b) sg M = some (.bl k, M2) := by rw [evE, h]; simp only [h2, h3]; rfl
theorem e_idx (h : evE cf a sg M = some (x, M1)) (h2 : evE cf b sg M1 = some (y, M2)) (h3 : idxP M2 x y = some z) : evE cf (.idx a b) sg M = some (z, M2) := by rw [evE, h]; simp only [h2, h3]; rfl
theorem e_not {k : Bool} (h : evE cf a sg M = some (.bl k, M1)) : evE cf (.not a) sg M = some (.bl (!k), M1) := by rw [evE, h]
theorem e_andT (h : evE cf a sg M = some (.bl true, M1)) (h2 : evE cf b sg M1 = q) : evE cf (.and a b) sg M = q := by rw [evE, h]; exact h2
theorem e_andF (h : evE cf a sg M = some (.bl false, M1)) : evE cf (.and a b) sg M = some (.bl false, M1) := by rw [evE, h]
theorem e_orF (h : evE cf a sg M = some (.bl false, M1)) (h2 : evE cf b sg M1 = q) : evE cf (.or a b) sg M = q := by rw [evE, h]; exact h2
theorem e_orT (h : evE cf a sg M = some (.bl true, M1)) : evE cf (.or a b) sg M = some (.bl true, M1) := by rw [evE, h]
theorem e_iteT (h : evE cf c sg M = some (.bl true, M1)) (h2 : evE cf a sg M1 = q) : evE cf (.ite c a b) sg M = q := by rw [evE, h]; exact h2
theorem e_iteF (h : evE cf c sg M = some (.bl false, M1)) (h2 : evE cf b sg M1 = q) : evE cf (.ite c a b) sg M = q := by rw [evE, h]; exact h2
theorem e_isi {ts : List Ty} {k : Bool} (h : evE cf a sg M = some (x, M1)) (h2 : ts.any (isTy M1 x) = k) (h3 : insP M1 x = false) : evE cf (.isi a ts) sg M = some (.bl k, M1) := by rw [evE, h]; simp only [h2, h3]; rfl
theorem e_fld {c f : Str} {n : Nat} {fs : List (Str × PV)} (h : evE cf a sg M = some (.ref n, M1)) (h2 : insAt M1 c n = some fs) (h3 : fs.lookup f = some v) : evE cf (.fld c f a) sg M = some (v, M1) := by rw [evE, h]; simp only [h2, h3, Option.bind_some, Option.map_some]
theorem e_mc {c m : Str} {n : Nat} {fs : List (Str × PV)} (h : evE cf a sg M = some (.ref n, M1)) (h2 : insAt M1 c n = some fs) (h3 : fs.lookup m = none) (h4 : evEs cf es sg M1 = some (xs, M2)) (h5 : cf f (.ref n :: xs) M2 = q) : evE cf (.mc c m f a es) sg M = q := by rw [evE, h]; simp only [h2, h3, h4]; exact h5
theorem s_fset {c f : Str} {n : Nat} {fs : List (Str × PV)} (h : evE cf b sg M = some (x, M1)) (h2 : evE cf a sg M1 = some (.ref n, M2)) (h3 : insAt M2 c n = some fs) (h4 : fs.length < 1000) : evS cf (.fset c f a b) sg M = some (.nx sg, M2.set n (.ins c (putA f x fs))) := by rw [evS, h]; simp only [h2, h3]; rw [if_pos h4]
theorem s_sto (h : evE cf c sg M = some (x, M1)) (h2 : evE cf a sg M1 = some (y, M2)) (h3 : evE cf b sg M2 = some (z, M3)) {M4 : Mm} (h4 : stoP M3 y z x = some M4) : evS cf (.sto a b c) sg M = some (.nx sg, M4) := by rw [evS, h]; simp only [h2, h3, h4]; rfl
theorem s_asg {t : Tg} (h : evE cf e sg M = some (x, M1)) (h2 : tgP t x sg = some sg1) : evS cf (.asg t e) sg M = some (.nx sg1, M1) := by rw [evS, h]; simp only [h2]; rfl
theorem s_exp (h : evE cf e sg M = some (x, M1)) : evS cf (.exp e) sg M = some (.nx sg, M1) := by rw [evS, h]
theorem s_ret (h : evE cf e sg M = some (x, M1)) : evS cf (.ret e) sg M = some (.ret x, M1) := by rw [evS, h]
theorem s_ifT (h : evE cf c sg M = some (.bl true, M1)) (h2 : evSs cf ss sg M1 = w) : evS cf (.iff c ss ss2) sg M = w := by rw [evS, h]; exact h2
theorem s_ifF (h : evE cf c sg M = some (.bl false, M1)) (h2 : evSs cf ss2 sg M1 = w) : evS cf (.iff c ss ss2) sg M = w := by rw [evS, h]; exact h2
theorem ss_nil : evSs cf .nil sg M = some (.nx sg, M) := by rw [evSs]
theorem ss_cons (h : evS cf s sg M = some (.nx sg1, M1)) (h2 : evSs cf ss sg1 M1 = w) : evSs cf (.cons s ss) sg M = w := by rw [evSs, h]; exact h2
theorem ss_ret (h : evE cf e sg M = some (x, M1)) : evSs cf (.cons (.ret e) ss) sg M = some (.ret x, M1) := by rw [evSs, s_ret h]
theorem ss_if (h : evS cf (.iff c ss ss2) sg M = some (.ret x, M1)) {r : Ss} : evSs cf (.cons (.iff c ss ss2) r) sg M = some (.ret x, M1) := by rw [evSs, h]
theorem run_ret {d : Df} (hl : xs.length = d.np) (h : evSs cf d.body (xs.map some ++ List.replicate (d.ns - d.np) none) M = some (.ret v, M1)) : runD cf d xs M = some (v, M1) := by
  rw [runD, if_pos hl, h]
theorem run_nx {d : Df} (hl : xs.length = d.np) (h : evSs cf d.body (xs.map some ++ List.replicate (d.ns - d.np) none) M = some (.nx sg1, M1)) : runD cf d xs M = some (.non, M1) := by
  rw [runD, if_pos hl, h]
end
end Mp

/-! Ml1: laws of the evaluator over the drawing defs. -/
namespace Mp
open PySem L2

theorem str_inj {a b : String} : (Str.ofString a = Str.ofString b) ↔ a = b := by
  rw [Str.ofString_eq_toList, Str.ofString_eq_toList]
  constructor
  · intro h
    have h1 : (a.toList.map Char.toNat) = (b.toList.map Char.toNat) := by
      have := congrArg (fun s : Str => s.cps.toList) h
      simpa using this
    have h2 : a.toList = b.toList := by
      have inj : ∀ {x y : List Char}, x.map Char.toNat = y.map Char.toNat → x = y := by
        intro x
        induction x with
        | nil => intro y h; cases y with | nil => rfl | cons _ _ => simp at h
        | cons c cs ih =>
          intro y h
          cases y with
          | nil => simp at h
          | cons d ds =>
            simp only [List.map_cons, List.cons.injEq] at h
            rw [ih h.2, Char.toNat_inj.mp h.1]
      exact inj h1
    exact String.toList_inj.mp h2
  · intro h; rw [h]

@[simp] theorem str_eq {a b : String} : (Str.ofString a = Str.ofString b) = (a = b) := propext str_inj
@[simp] theorem str_beq {a b : String} : (Str.ofString a == Str.ofString b) = (a == b) := by
  by_cases h : a = b
  · subst h; rw [beq_self_eq_true, beq_self_eq_true]
  · have : ¬ Str.ofString a = Str.ofString b := fun e => h (str_inj.mp e)
    rw [beq_eq_false_iff_ne.mpr this, beq_eq_false_iff_ne.mpr h]
/-- the box of draws at b: a rest of digits, a seed, how many draws (at most k) -/
def Bx (M : Mm) (b : Nat) (k : Int) : Prop := ∃ d s c : Int, M[b]? = some (.lst [.int d, .int s, .int c]) ∧ 0 ≤ d ∧ 0 ≤ s ∧ s < 2147483563 ∧ 0 ≤ c ∧ c ≤ k
theorem take_ok (cf : CF) {M : Mm} {b : Nat} {k n : Int} (h : Bx M b k) (hk : k < 1000000000000) (hn : 0 < n) (hn2 : n < 1000000000) :
    ∃ (r : Int) (l : List PV), 0 ≤ r ∧ r < n ∧ runD cf ir_l_take [.ref b, .int n] M = some (.int r, M.set b (.lst l)) ∧ Bx (M.set b (.lst l)) b (k + 1) := by
  obtain ⟨d, s, c, hb, h1, h2, h3, h4, h5⟩ := h
  have hlt : b < M.length := (List.getElem?_eq_some_iff.mp hb).1
  have hn3 : n < 1073741824 := by omega
  by_cases hd : 0 < d
  · refine ⟨d % n, [.int (d / n), .int s, .int c], Int.emod_nonneg _ (by omega), Int.emod_lt_of_pos _ hn, ?_, d / n, s, c, by simp [hlt], Int.ediv_nonneg h1 (by omega), h2, h3, h4, by omega⟩
    simp [runD, ir_l_take, evSs, evS, evE, evEs, hb, idxP, atI, ixN, cmpP, hd, bltP, bopP, tgP, stoP, hn, hn3, lstAt]
  · have hset : ∀ x, (M.set b x)[b]? = some x := fun x => by simp [hlt]
    have hc : (s + 51749 * (c + 1)).natAbs < 2 ^ 64 := by omega
    have m1 : mulOk 51749 (c + 1) = true := by simp [mulOk]
    have m2 : ∀ x : Int, mulOk (x % 2147483549) (x % 2147483549 % 30011 + 17) = true := fun x => by
      have q1 := Int.emod_nonneg x (show (2147483549 : Int) ≠ 0 by decide)
      have q2 := Int.emod_lt_of_pos x (show (0 : Int) < 2147483549 by decide)
      simp only [mulOk, Bool.or_eq_true, Bool.and_eq_true, decide_eq_true_eq]
      omega
    have m3 : mulOk (c + 1) 7039 = true := by simp [mulOk]
    refine ⟨(((s + 51749 * (c + 1)) ^ 3 % 2147483549 * ((s + 51749 * (c + 1)) ^ 3 % 2147483549 % 30011 + 17) + (c + 1) * 7039) % 2147483629 / 32) % n, [.int d, .int s, .int (c + 1)], Int.emod_nonneg _ (by omega), Int.emod_lt_of_pos _ hn, ?_, d, s, c + 1, by simp [hlt], h1, h2, h3, by omega, by omega⟩
    simp [runD, ir_l_take, evSs, evS, evE, evEs, hb, idxP, atI, ixN, cmpP, hd, bltP, bopP, tgP, stoP, hn, lstAt, hset, hn3, hc, m1, m2, m3]

/-! ### frames -/
/-- M' is M but for the places in S, and longer -/
structure Frm (S : List Nat) (M M' : Mm) : Prop where
  len : M.length ≤ M'.length
  at_ : ∀ i, i ∉ S → i < M.length → M'[i]? = M[i]?
theorem Frm.refl {S : List Nat} {M : Mm} : Frm S M M := ⟨Nat.le_refl _, fun _ _ _ => rfl⟩
theorem Frm.trans {S : List Nat} {M M1 M2 : Mm} (a : Frm S M M1) (b : Frm S M1 M2) : Frm S M M2 :=
  ⟨Nat.le_trans a.len b.len, fun i h1 h2 => (b.at_ i h1 (Nat.lt_of_lt_of_le h2 a.len)).trans (a.at_ i h1 h2)⟩
theorem Frm.mono {S S' : List Nat} {M M1 : Mm} (a : Frm S M M1) (h : ∀ i ∈ S, i ∈ S') : Frm S' M M1 := ⟨a.len, fun i h1 h2 => a.at_ i (fun z => h1 (h i z)) h2⟩
theorem Frm.get {S : List Nat} {M M1 : Mm} (a : Frm S M M1) {i : Nat} {o : Ob} (h : M[i]? = some o) (hs : i ∉ S) : M1[i]? = some o := by
  rw [a.at_ i hs (List.getElem?_eq_some_iff.mp h).1, h]
theorem Frm.set {M : Mm} {i : Nat} {o : Ob} {S : List Nat} (h : i ∈ S) : Frm S M (M.set i o) :=
  ⟨by simp, fun j hj _ => List.getElem?_set_ne (fun z => hj (by rw [← z]; exact h))⟩
theorem Frm.app {M : Mm} {L : List Ob} {S : List Nat} : Frm S M (M ++ L) := ⟨by simp, fun j _ h => List.getElem?_append_left h⟩
theorem Frm.lt {S : List Nat} {M M1 : Mm} (a : Frm S M M1) {i : Nat} (h : i < M.length) : i < M1.length := Nat.lt_of_lt_of_le h a.len
theorem lt_of {M : Mm} {i : Nat} {o : Ob} (h : M[i]? = some o) : i < M.length := (List.getElem?_eq_some_iff.mp h).1
theorem Bx.frm {S : List Nat} {M M1 : Mm} {b : Nat} {k k' : Int} (h : Bx M b k) (a : Frm S M M1) (hs : b ∉ S) (hk : k ≤ k') : Bx M1 b k' := by
  obtain ⟨d, s, c, hb, h1, h2, h3, h4, h5⟩ := h
  exact ⟨d, s, c, a.get hb hs, h1, h2, h3, h4, by omega⟩

/-! ### events and what they do -/
inductive Ev where
  | put (k : Str) (v : Int) | drop (k : Str) | join (r : Int) | read (r u : Int) | save (r : Int) | load (r c : Int) | wait
def Ev.pv : Ev → PV
  | .put k v => .tup [.str "put", .str k, .int v]
  | .drop k => .tup [.str "drop", .str k]
  | .join r => .tup [.str "join", .int r]
  | .read r u => .tup [.str "read", .int r, .int u]
  | .save r => .tup [.str "save", .int r]
  | .load r c => .tup [.str "load", .int r, .int c]
  | .wait => .tup [.str "wait"]
/-- places of readers, of copies, how many entries -/
structure Ws where
  seats : List (Key × PV)
  copies : List PV
  many : Int
def Ws.step (w : Ws) : Ev → Option Ws
  | .put _ _ => some { w with many := w.many + 1 }
  | .drop _ => some { w with many := w.many + 1 }
  | .join r => some { w with seats := putD w.seats (.inl r) (.int 0) }
  | .read r u => some { w with seats := putD w.seats (.inl r) (.int u) }
  | .save r => (getD w.seats (.inl r)).map fun v => { w with copies := w.copies ++ [v] }
  | .load r c => (atI w.copies c).map fun v => { w with seats := putD w.seats (.inl r) v }
  | .wait => some w
def wdic (s c : Nat) (m : Int) : Ob := .dic [(.inr "seats", .ref s), (.inr "copies", .ref c), (.inr "many", .int m)]
structure WAt (M : Mm) (w s c : Nat) (ws : Ws) : Prop where
  w_ : M[w]? = some (wdic s c ws.many)
  s_ : M[s]? = some (.dic ws.seats)
  c_ : M[c]? = some (.lst ws.copies)
  ne : w ≠ s
theorem WAt.ne2 {M : Mm} {w s c : Nat} {ws : Ws} (h : WAt M w s c ws) : w ≠ c ∧ s ≠ c := by
  constructor
  · intro e; subst e; have := h.w_; rw [h.c_] at this; cases this
  · intro e; subst e; have := h.s_; rw [h.c_] at this; cases this
theorem WAt.frm {S : List Nat} {M M1 : Mm} {w s c : Nat} {ws : Ws} (h : WAt M w s c ws) (a : Frm S M M1) (hw : w ∉ S) (hs : s ∉ S) (hc : c ∉ S) : WAt M1 w s c ws :=
  ⟨a.get h.w_ hw, a.get h.s_ hs, a.get h.c_ hc, h.ne⟩
theorem moved_ok (cf : CF) {M : Mm} {w s c : Nat} {ws ws' : Ws} {e : Ev} (h : WAt M w s c ws) (he : ws.step e = some ws') (h1 : ws.seats.length < 1000) (h2 : ws.copies.length < 1000) :
    ∃ M', runD cf ir_l_moved [.ref w, e.pv] M = some (.non, M') ∧ WAt M' w s c ws' ∧ Frm [w, s, c] M M' ∧ M'.length = M.length := by
  obtain ⟨nwc, nsc⟩ := h.ne2
  have hw := h.w_
  have hs := h.s_
  have hc := h.c_
  have ne := h.ne
  have lw := lt_of hw
  have ls := lt_of hs
  have lc := lt_of hc
  have z1 : ws.seats.length < 16777216 := by omega
  have z2 : ws.copies.length < 16777216 := by omega
  have s1 : ∀ x, (M.set w x)[s]? = M[s]? := fun x => List.getElem?_set_ne ne
  have s2 : ∀ x, (M.set w x)[c]? = M[c]? := fun x => List.getElem?_set_ne nwc
  unfold wdic at hw
  cases e with
  | put k v =>
    simp only [Ws.step] at he
    cases he
    refine ⟨M.set w (wdic s c (ws.many + 1)), ?_, ⟨by simp [lw], by rw [List.getElem?_set_ne ne]; exact hs, by rw [List.getElem?_set_ne nwc]; exact hc, ne⟩, Frm.set (by simp), by simp⟩
    simp [runD, ir_l_moved, Ev.pv, evSs, evS, evE, evEs, tgP, idxP, atI, ixN, cmpP, isIn, inP, flatP, eqF, str_inj, hw, keyOf, getD, stoP, putD, bopP, wdic, sizeLine]
  | drop k =>
    simp only [Ws.step] at he
    cases he
    refine ⟨M.set w (wdic s c (ws.many + 1)), ?_, ⟨by simp [lw], by rw [List.getElem?_set_ne ne]; exact hs, by rw [List.getElem?_set_ne nwc]; exact hc, ne⟩, Frm.set (by simp), by simp⟩
    simp [runD, ir_l_moved, Ev.pv, evSs, evS, evE, evEs, tgP, idxP, atI, ixN, cmpP, isIn, inP, flatP, eqF, str_inj, hw, keyOf, getD, stoP, putD, bopP, wdic, sizeLine]
  | join r =>
    simp only [Ws.step] at he
    cases he
    refine ⟨M.set s (.dic (putD ws.seats (.inl r) (.int 0))), ?_, ⟨by rw [List.getElem?_set_ne (Ne.symm ne)]; exact h.w_, by simp [ls], by rw [List.getElem?_set_ne nsc]; exact hc, ne⟩, Frm.set (by simp), by simp⟩
    simp [runD, ir_l_moved, Ev.pv, evSs, evS, evE, evEs, tgP, idxP, atI, ixN, cmpP, isIn, inP, flatP, eqF, eqP, eqS, str_inj, hw, hs, keyOf, getD, stoP, bopP, sizeLine, z1]
  | read r u =>
    simp only [Ws.step] at he
    cases he
    refine ⟨M.set s (.dic (putD ws.seats (.inl r) (.int u))), ?_, ⟨by rw [List.getElem?_set_ne (Ne.symm ne)]; exact h.w_, by simp [ls], by rw [List.getElem?_set_ne nsc]; exact hc, ne⟩, Frm.set (by simp), by simp⟩
    simp [runD, ir_l_moved, Ev.pv, evSs, evS, evE, evEs, tgP, idxP, atI, ixN, cmpP, isIn, inP, flatP, eqF, eqP, eqS, str_inj, hw, hs, keyOf, getD, stoP, bopP, sizeLine, z1]
  | save r =>
    simp only [Ws.step] at he
    obtain ⟨v, hv, he⟩ := Option.map_eq_some_iff.mp he
    subst he
    refine ⟨M.set c (.lst (ws.copies ++ [v])), ?_, ⟨by rw [List.getElem?_set_ne (Ne.symm nwc)]; exact h.w_, by rw [List.getElem?_set_ne (Ne.symm nsc)]; exact hs, by simp [lc], ne⟩, Frm.set (by simp), by simp⟩
    have hv' : (List.find? (fun kv => decide (kv.1 = Sum.inl r)) ws.seats).map (·.2) = some v := hv
    obtain ⟨kv, hk1, hk2⟩ := Option.map_eq_some_iff.mp hv'
    simp [runD, ir_l_moved, Ev.pv, evSs, evS, evE, evEs, tgP, idxP, atI, ixN, cmpP, isIn, inP, flatP, eqF, eqP, eqS, str_inj, hw, hs, hc, keyOf, getD, mthP, mtOk, lstAt, bopP, sizeLine, z2, hk1, hk2]
  | load r cc =>
    simp only [Ws.step] at he
    obtain ⟨v, hv, he⟩ := Option.map_eq_some_iff.mp he
    subst he
    refine ⟨M.set s (.dic (putD ws.seats (.inl r) v)), ?_, ⟨by rw [List.getElem?_set_ne (Ne.symm ne)]; exact h.w_, by simp [ls], by rw [List.getElem?_set_ne nsc]; exact hc, ne⟩, Frm.set (by simp), by simp⟩
    have hix : idxP M (.ref c) (.int cc) = some v := by simp only [idxP, hc]; exact hv
    have hi0 : idxP M (.ref w) (.str "seats") = some (.ref s) := by simp [idxP, hw, keyOf, getD]
    have hi1 : idxP M (.ref w) (.str "copies") = some (.ref c) := by simp [idxP, hw, keyOf, getD, str_inj]
    have hj : ∀ (l : List PV) (j : Nat) (x : PV), l[j]? = some x → idxP M (.tup l) (.int (j : Nat)) = some x := fun l j x e => by
      have q := (List.getElem?_eq_some_iff.mp e).1
      have e' : ixN l.length (j : Nat) = some j := by simp [ixN, q]
      show (ixN l.length (j : Nat)).bind (fun j => l[j]?) = some x
      rw [e']; exact e
    have j0 : ∀ l x, idxP M (.tup (x :: l)) (.int 0) = some x := fun l x => hj _ 0 x rfl
    have j1 : ∀ l x y, idxP M (.tup (y :: x :: l)) (.int 1) = some x := fun l x y => hj _ 1 x rfl
    have j2 : ∀ l x y z, idxP M (.tup (z :: y :: x :: l)) (.int 2) = some x := fun l x y z => hj _ 2 x rfl
    simp [runD, ir_l_moved, Ev.pv, evSs, evS, evE, evEs, tgP, j0, j1, j2, hi0, hi1, hix, cmpP, isIn, inP, flatP, eqF, eqP, eqS, str_inj, hs, keyOf, stoP, sizeLine, z1]
  | wait =>
    simp only [Ws.step] at he
    cases he
    refine ⟨M, ?_, h, .refl, rfl⟩
    simp [runD, ir_l_moved, Ev.pv, evSs, evS, evE, evEs, tgP, idxP, atI, ixN, cmpP, isIn, inP, flatP, eqF, eqP, eqS, str_inj, sizeLine]
end Mp

/-! Ml2: loops by invariants; of, event. -/
namespace Mp
open PySem L2

theorem forL_inv {src : Src} {bind : PV → Sg → Option Sg} {body : Sg → Mm → Option (Fl × Mm)} (I : Nat → Sg → Mm → Prop) {n : Nat}
    (turn : ∀ i sg M, i < n → I i sg M → ∃ x sg1 sg2 M2, src.get M i = some (some x) ∧ bind x sg = some sg1 ∧ body sg1 M = some (.nx sg2, M2) ∧ I (i + 1) sg2 M2)
    (stop : ∀ sg M, I n sg M → src.get M n = some none) : ∀ (m i : Nat) (sg : Sg) (M : Mm), n - i < m → i ≤ n → I i sg M → ∃ sg' M', forL src bind body m i sg M = some (.nx sg', M') ∧ I n sg' M'
  | 0, _, _, _, h, _, _ => by omega
  | m + 1, i, sg, M, h, hi, hI => by
    by_cases e : i = n
    · subst e
      exact ⟨sg, M, by simp only [forL, stop sg M hI], hI⟩
    · obtain ⟨x, sg1, sg2, M2, h1, h2, h3, h4⟩ := turn i sg M (by omega) hI
      obtain ⟨sg', M', h5, h6⟩ := forL_inv I turn stop m (i + 1) sg2 M2 (by omega) (by omega) h4
      exact ⟨sg', M', by simp only [forL, h1, h2, h3, h5], h6⟩
theorem for_inv {src : Src} {bind : PV → Sg → Option Sg} {body : Sg → Mm → Option (Fl × Mm)} (I : Nat → Sg → Mm → Prop) {n : Nat} {sg : Sg} {M : Mm} (hn : n < 100000) (h0 : I 0 sg M)
    (turn : ∀ i sg M, i < n → I i sg M → ∃ x sg1 sg2 M2, src.get M i = some (some x) ∧ bind x sg = some sg1 ∧ body sg1 M = some (.nx sg2, M2) ∧ I (i + 1) sg2 M2)
    (stop : ∀ sg M, I n sg M → src.get M n = some none) : ∃ sg' M', forL src bind body bigN 0 sg M = some (.nx sg', M') ∧ I n sg' M' :=
  forL_inv I turn stop bigN 0 sg M (by unfold bigN; omega) (Nat.zero_le _) h0
theorem lcL_inv {src : Src} {bind : PV → Sg → Option Sg} {c e : Sg → Mm → R} {d : Nat} {sg : Sg} (I : Nat → Mm → Prop) {n : Nat}
    (turn : ∀ i M, i < n → I i M → ∃ x sg1, src.get M i = some (some x) ∧ bind x sg = some sg1 ∧ ((∃ M1 y M2 acc, c sg1 M = some (.bl true, M1) ∧ e sg1 M1 = some (y, M2) ∧ lstAt M2 d = some acc ∧ acc.length < 16777216 ∧ I (i + 1) (M2.set d (.lst (acc ++ [y])))) ∨ (∃ M1, c sg1 M = some (.bl false, M1) ∧ I (i + 1) M1)))
    (stop : ∀ M, I n M → src.get M n = some none) : ∀ (m i : Nat) (M : Mm), n - i < m → i ≤ n → I i M → ∃ M', lcL src bind c e d sg m i M = some M' ∧ I n M'
  | 0, _, _, h, _, _ => by omega
  | m + 1, i, M, h, hi, hI => by
    by_cases e1 : i = n
    · subst e1
      exact ⟨M, by simp only [lcL, stop M hI], hI⟩
    · obtain ⟨x, sg1, h1, h2, h3⟩ := turn i M (by omega) hI
      rcases h3 with ⟨M1, y, M2, acc, k1, k2, k3, k4, k5⟩ | ⟨M1, k1, k2⟩
      · obtain ⟨M', h5, h6⟩ := lcL_inv I turn stop m (i + 1) _ (by omega) (by omega) k5
        exact ⟨M', by simp only [lcL, h1, h2, k1, k2, k3]; rw [if_pos (show acc.length < sizeLine from k4)]; exact h5, h6⟩
      · obtain ⟨M', h5, h6⟩ := lcL_inv I turn stop m (i + 1) M1 (by omega) (by omega) k2
        exact ⟨M', by simp only [lcL, h1, h2, k1, h5], h6⟩
theorem lc_inv {src : Src} {bind : PV → Sg → Option Sg} {c e : Sg → Mm → R} {d : Nat} {sg : Sg} (I : Nat → Mm → Prop) {n : Nat} {M : Mm} (hn : n < 100000) (h0 : I 0 M)
    (turn : ∀ i M, i < n → I i M → ∃ x sg1, src.get M i = some (some x) ∧ bind x sg = some sg1 ∧ ((∃ M1 y M2 acc, c sg1 M = some (.bl true, M1) ∧ e sg1 M1 = some (y, M2) ∧ lstAt M2 d = some acc ∧ acc.length < 16777216 ∧ I (i + 1) (M2.set d (.lst (acc ++ [y])))) ∨ (∃ M1, c sg1 M = some (.bl false, M1) ∧ I (i + 1) M1)))
    (stop : ∀ M, I n M → src.get M n = some none) : ∃ M', lcL src bind c e d sg bigN 0 M = some M' ∧ I n M' :=
  lcL_inv I turn stop bigN 0 M (by unfold bigN; omega) (Nat.zero_le _) h0

/-! ### what the calls do -/
def HT (cf : CF) : Prop := ∀ (M : Mm) (b : Nat) (k n : Int), Bx M b k → k < 1000000000000 → 0 < n → n < 1000000000 →
  ∃ (r : Int) (l : List PV), 0 ≤ r ∧ r < n ∧ cf i_l_take [.ref b, .int n] M = some (.int r, M.set b (.lst l)) ∧ Bx (M.set b (.lst l)) b (k + 1)
theorem ht (j : Nat) : HT (cfN tab (j + 1)) := fun M b k n h hk h1 h2 => take_ok (cfN tab j) h hk h1 h2
def HO (cf : CF) : Prop := ∀ (M : Mm) (b n : Nat) (k : Int) (xs : List PV), Bx M b k → k < 1000000000000 → M[n]? = some (.lst xs) → n ≠ b → xs ≠ [] → xs.length < 1000 →
  ∃ (x : PV) (l : List PV), x ∈ xs ∧ cf i_l_of [.ref b, .ref n] M = some (x, M.set b (.lst l)) ∧ Bx (M.set b (.lst l)) b (k + 1)
theorem of_ok {cf : CF} (T : HT cf) {M : Mm} {b n : Nat} {k : Int} {xs : List PV} (h : Bx M b k) (hk : k < 1000000000000) (hx : M[n]? = some (.lst xs)) (ne : n ≠ b) (h0 : xs ≠ []) (hl : xs.length < 1000) :
    ∃ (x : PV) (l : List PV), x ∈ xs ∧ runD cf ir_l_of [.ref b, .ref n] M = some (x, M.set b (.lst l)) ∧ Bx (M.set b (.lst l)) b (k + 1) := by
  have hp : 0 < xs.length := List.length_pos_iff.mpr h0
  obtain ⟨r, l, r0, r1, e, B⟩ := T M b k xs.length h hk (by omega) (by omega)
  have hr : r.toNat < xs.length := by omega
  refine ⟨xs[r.toNat], l, List.getElem_mem hr, ?_, B⟩
  have e2 : (M.set b (.lst l))[n]? = some (.lst xs) := by rw [List.getElem?_set_ne (Ne.symm ne)]; exact hx
  have e3 : idxP (M.set b (.lst l)) (.ref n) (.int r) = some xs[r.toNat] := by
    simp only [idxP, e2, atI, ixN, if_pos r0, if_pos r1]
    exact List.getElem?_eq_getElem hr
  simp [runD, ir_l_of, evSs, evS, evE, evEs, bltP, hx, e, e3]
theorem ho (j : Nat) : HO (cfN tab (j + 2)) := fun M b n k xs h hk hx ne h0 hl => of_ok (ht j) h hk hx ne h0 hl

/-! ### an event -/
structure WsOk (ws : Ws) (n : Nat) : Prop where
  m0 : 0 ≤ ws.many
  m1 : ws.many ≤ n
  seats : ∀ kv ∈ ws.seats, ∃ p v : Int, kv = (.inl p, .int v) ∧ 0 ≤ p ∧ p ≤ 3 ∧ 0 ≤ v
  copies : ∀ x ∈ ws.copies, ∃ v : Int, x = .int v ∧ 0 ≤ v
  sl : ws.seats.length ≤ n
  cl : ws.copies.length ≤ n
def KeyOk (k : Str) : Prop := ∃ s : String, s ∈ ["a", "b", "cc", "abc"] ∧ k = Str.ofString s
def EvOk : Ev → Prop
  | .put k v => KeyOk k ∧ 0 ≤ v ∧ v ≤ 8
  | .drop k => KeyOk k
  | .join r => 0 ≤ r ∧ r ≤ 3
  | .read r u => 0 ≤ r ∧ r ≤ 3 ∧ 0 ≤ u
  | .save r => 0 ≤ r ∧ r ≤ 3
  | .load r c => 0 ≤ r ∧ r ≤ 3 ∧ 0 ≤ c
  | .wait => True
theorem getD_mem {kvs : List (Key × PV)} {k : Key} {v : PV} (h : getD kvs k = some v) : (k, v) ∈ kvs := by
  unfold getD at h
  obtain ⟨kv, h1, h2⟩ := Option.map_eq_some_iff.mp h
  have h3 := List.mem_of_find?_eq_some h1
  have h4 := List.find?_some h1
  simp at h4
  rw [← h2, ← h4]; exact h3
theorem putD_len (kvs : List (Key × PV)) (k : Key) (v : PV) : (putD kvs k v).length ≤ kvs.length + 1 := by
  unfold putD; split <;> simp
theorem putD_mem {kvs : List (Key × PV)} {k : Key} {v : PV} {x : Key × PV} (h : x ∈ putD kvs k v) : x ∈ kvs ∨ x = (k, v) := by
  unfold putD at h
  split at h
  · obtain ⟨y, h1, h2⟩ := List.mem_map.mp h
    split at h2
    · rename_i e; right; rw [← h2, e]
    · left; rw [← h2]; exact h1
  · rcases List.mem_append.mp h with h | h
    · exact .inl h
    · right; simpa using h
theorem step_ok {ws ws' : Ws} {n : Nat} {e : Ev} (h : WsOk ws n) (he : EvOk e) (hs : ws.step e = some ws') : WsOk ws' (n + 1) := by
  obtain ⟨m0, m1, hse, hco, sl, cl⟩ := h
  have put : ∀ (p v : Int), 0 ≤ p → p ≤ 3 → 0 ≤ v → WsOk { ws with seats := putD ws.seats (.inl p) (.int v) } (n + 1) := fun p v h1 h2 h3 =>
    ⟨m0, by show ws.many ≤ _; omega, fun kv hk => (putD_mem hk).elim (hse kv) (fun z => ⟨p, v, z, h1, h2, h3⟩), hco, Nat.le_trans (putD_len _ _ _) (by omega), by show ws.copies.length ≤ _; omega⟩
  cases e with
  | put k v => simp only [Ws.step] at hs; cases hs; exact ⟨by show 0 ≤ ws.many + 1; omega, by show ws.many + 1 ≤ _; omega, hse, hco, by show ws.seats.length ≤ _; omega, by show ws.copies.length ≤ _; omega⟩
  | drop k => simp only [Ws.step] at hs; cases hs; exact ⟨by show 0 ≤ ws.many + 1; omega, by show ws.many + 1 ≤ _; omega, hse, hco, by show ws.seats.length ≤ _; omega, by show ws.copies.length ≤ _; omega⟩
  | join r => simp only [Ws.step] at hs; cases hs; exact put r 0 he.1 he.2 (by omega)
  | read r u => simp only [Ws.step] at hs; cases hs; exact put r u he.1 he.2.1 he.2.2
  | save r =>
    simp only [Ws.step] at hs
    obtain ⟨v, h1, h2⟩ := Option.map_eq_some_iff.mp hs
    subst h2
    obtain ⟨p, i, e, _, _, hi⟩ := hse _ (getD_mem h1)
    cases e
    exact ⟨m0, by show ws.many ≤ _; omega, hse, fun x hx => (List.mem_append.mp hx).elim (hco x) (fun z => ⟨i, by simpa using z, hi⟩), by show ws.seats.length ≤ _; omega, by show (ws.copies ++ _).length ≤ _; simp; omega⟩
  | load r c =>
    simp only [Ws.step] at hs
    obtain ⟨v, h1, h2⟩ := Option.map_eq_some_iff.mp hs
    subst h2
    have hm : v ∈ ws.copies := by
      unfold atI at h1
      obtain ⟨j, _, h3⟩ := Option.bind_eq_some_iff.mp h1
      exact List.mem_of_getElem? h3
    obtain ⟨i, rfl, hi⟩ := hco v hm
    exact put r i he.1 he.2.1 hi
  | wait => simp only [Ws.step] at hs; cases hs; exact ⟨m0, by omega, hse, hco, by omega, by omega⟩
end Mp

/-! Ml2b: values as data. -/
namespace Mp
open PySem L2

theorem mapM_some {α β : Type} {f : α → Option β} {g : α → β} : ∀ {xs : List α}, (∀ x ∈ xs, f x = some (g x)) → xs.mapM f = some (xs.map g)
  | [], _ => rfl
  | x :: xs, h => by
    rw [List.mapM_cons, h x (by simp), mapM_some (xs := xs) (fun y hy => h y (by simp [hy]))]
    rfl
def fd : PV → PyData
  | .bl b => .bool b | .int i => .int i | .str s => .str s | _ => .none
/-- a flat value whose text is good -/
def FlOk : PV → Prop
  | .non => True | .bl _ => True | .int _ => True | .str s => PyData.canLay0 (.str s) = true | _ => False
theorem toD_flat {k : Nat} {M : Mm} {x : PV} (h : FlOk x) : toD (k + 1) M x = some (fd x) := by
  cases x <;> first | rfl | exact h.elim
theorem lay_flat {x : PV} (h : FlOk x) : PyData.canLay0 (fd x) = true ∧ PyData.depth (fd x) = 0 := by
  cases x <;> first | exact h.elim | exact ⟨h, rfl⟩ | exact ⟨rfl, rfl⟩
theorem layAll {xs : List PyData} : (∀ x ∈ xs, PyData.canLay0 x = true) → PyData.canLayAll0 xs = true := by
  intro h
  induction xs with
  | nil => rfl
  | cons x xs ih => rw [PyData.canLayAll0, h x (by simp), ih (fun y hy => h y (by simp [hy]))]; rfl
theorem depAll {xs : List PyData} {n : Nat} : (∀ x ∈ xs, PyData.depth x ≤ n) → PyData.depthAll xs ≤ n := by
  intro h
  induction xs with
  | nil => exact Nat.zero_le _
  | cons x xs ih => rw [PyData.depthAll]; exact Nat.max_le.mpr ⟨h x (by simp), ih (fun y hy => h y (by simp [hy]))⟩
/-- x reads as d, and d is good -/
structure Rd (k : Nat) (M : Mm) (x : PV) (d : PyData) : Prop where
  to : toD k M x = some d
  lay : PyData.canLay0 d = true
  dep : PyData.depth d < k
theorem Rd.flat {k : Nat} {M : Mm} {x : PV} (h : FlOk x) : Rd (k + 1) M x (fd x) := ⟨toD_flat h, (lay_flat h).1, by rw [(lay_flat h).2]; omega⟩
theorem Rd.tup {k : Nat} {M : Mm} {xs : List PV} {g : PV → PyData} (h : ∀ x ∈ xs, Rd k M x (g x)) (hk : 0 < k) : Rd (k + 1) M (.tup xs) (.tuple (xs.map g)) :=
  ⟨by simp only [toD]; rw [mapM_some (fun x hx => (h x hx).to)]; rfl,
   by rw [PyData.canLay0]; exact layAll (by intro y hy; obtain ⟨x, hx, rfl⟩ := List.mem_map.mp hy; exact (h x hx).lay),
   by rw [PyData.depth]; have := depAll (xs := xs.map g) (n := k - 1) (by intro y hy; obtain ⟨x, hx, rfl⟩ := List.mem_map.mp hy; have := (h x hx).dep; omega); omega⟩
theorem Rd.lst {k : Nat} {M : Mm} {n : Nat} {xs : List PV} {g : PV → PyData} (hn : M[n]? = some (.lst xs)) (h : ∀ x ∈ xs, Rd k M x (g x)) (hk : 0 < k) : Rd (k + 1) M (.ref n) (.list (xs.map g)) :=
  ⟨by simp only [toD, hn]; rw [mapM_some (fun x hx => (h x hx).to)]; rfl,
   by rw [PyData.canLay0]; exact layAll (by intro y hy; obtain ⟨x, hx, rfl⟩ := List.mem_map.mp hy; exact (h x hx).lay),
   by rw [PyData.depth]; have := depAll (xs := xs.map g) (n := k - 1) (by intro y hy; obtain ⟨x, hx, rfl⟩ := List.mem_map.mp hy; have := (h x hx).dep; omega); omega⟩
theorem Rd.up {k : Nat} {M : Mm} : ∀ {x : PV} {d : PyData}, Rd k M x d → Rd (k + 1) M x d := by
  suffices h : ∀ (k : Nat) (x : PV) (d : PyData), toD k M x = some d → toD (k + 1) M x = some d from
    fun {x d} q => ⟨h _ _ _ q.to, q.lay, Nat.lt_succ_of_lt q.dep⟩
  have mm : ∀ (k : Nat), (∀ (x : PV) (d : PyData), toD k M x = some d → toD (k + 1) M x = some d) → ∀ (xs : List PV) (ds : List PyData), xs.mapM (toD k M) = some ds → xs.mapM (toD (k + 1) M) = some ds := by
    intro k ih xs
    induction xs with
    | nil => intro ds h; exact h
    | cons x xs ih2 =>
      intro ds h
      rw [List.mapM_cons] at h ⊢
      obtain ⟨d, h1, h2⟩ := Option.bind_eq_some_iff.mp h
      obtain ⟨es, h3, h4⟩ := Option.bind_eq_some_iff.mp h2
      rw [ih _ _ h1, ih2 _ h3]
      exact h4
  intro k
  induction k with
  | zero => intro x d h; cases x <;> cases h
  | succ k ih =>
    intro x d h
    cases x with
    | tup xs =>
      simp only [toD] at h ⊢
      obtain ⟨ds, h1, h2⟩ := Option.map_eq_some_iff.mp h
      rw [mm k ih _ _ h1]; exact congrArg some h2
    | ref n =>
      simp only [toD] at h ⊢
      cases e : M[n]? with
      | none => rw [e] at h; cases h
      | some o =>
        cases o with
        | dic _ => rw [e] at h; cases h
        | ins _ _ => rw [e] at h; cases h
        | lst xs =>
          rw [e] at h
          obtain ⟨ds, h1, h2⟩ := Option.map_eq_some_iff.mp h
          show Option.map _ _ = _
          rw [mm k ih _ _ h1]; exact congrArg some h2
    | _ => exact h
theorem Rd.le {k j : Nat} {M : Mm} {x : PV} {d : PyData} (h : Rd k M x d) (hj : k ≤ j) : Rd j M x d := by
  induction hj with
  | refl => exact h
  | step _ ih => exact ih.up
theorem Rd.shaped {k : Nat} {M : Mm} {x : PV} {d : PyData} (h : Rd k M x d) (hk : k ≤ 20) : toD 20 M x = some d ∧ SeqAt.shaped d = true := by
  have h' := h.le hk
  refine ⟨h'.to, ?_⟩
  unfold SeqAt.shaped
  rw [h'.lay]
  have := h'.dep
  simp; omega
mutual
theorem eqv_refl : ∀ (d : PyData), PyData.canLay0 d = true → PyData.eqv d d = true
  | .none, _ => by simp [PyData.eqv]
  | .bool b, _ => by simp [PyData.eqv]
  | .int i, _ => by simp [PyData.eqv]
  | .str s, _ => by simp [PyData.eqv]
  | .list xs, h => by rw [PyData.canLay0] at h; rw [PyData.eqv]; exact eqvAll_refl xs h
  | .tuple xs, h => by rw [PyData.canLay0] at h; rw [PyData.eqv]; exact eqvAll_refl xs h
  | .dict _, h => by simp [PyData.canLay0] at h
theorem eqvAll_refl : ∀ (xs : List PyData), PyData.canLayAll0 xs = true → PyData.eqvAll xs xs = true
  | [], _ => by simp [PyData.eqvAll]
  | x :: xs, h => by
    rw [PyData.canLayAll0, Bool.and_eq_true] at h
    rw [PyData.eqvAll, eqv_refl x h.1, eqvAll_refl xs h.2]; rfl
end
theorem eqP_refl {j : Nat} {M : Mm} {x y : PV} {d : PyData} (hx : Rd j M x d) (hy : Rd j M y d) (hj : j ≤ 20) (hs : eqS x y = none) : eqP M x y = some true := by
  simp only [eqP, hs, (hx.shaped hj).1, (hy.shaped hj).1, (hx.shaped hj).2]
  simp [eqv_refl d hx.lay]
theorem eqP_nil {j : Nat} {M : Mm} {n m : Nat} {xs : List PV} {g : PV → PyData} (hn : M[n]? = some (.lst xs)) (hm : M[m]? = some (.lst [])) (h : ∀ x ∈ xs, Rd j M x (g x)) (h0 : 0 < j) (hj : j < 20) :
    eqP M (.ref n) (.ref m) = some xs.isEmpty := by
  have a := (Rd.lst hn h h0).shaped (by omega)
  have b := (Rd.lst (k := 1) (g := fd) hm (by simp) (by omega)).shaped (by omega)
  simp only [eqP, eqS, a.1, b.1, a.2, b.2]
  cases xs <;> simp [PyData.eqv, PyData.eqvAll]
@[simp] theorem eqP_str {M : Mm} {a b : Str} : eqP M (.str a) (.str b) = some (decide (a = b)) := rfl
@[simp] theorem eqP_int {M : Mm} {a b : Int} : eqP M (.int a) (.int b) = some (decide (a = b)) := rfl
@[simp] theorem eqP_bl {M : Mm} {a b : Bool} : eqP M (.bl a) (.bl b) = some (decide (a = b)) := rfl
end Mp

/-! Ml3: a drawn event. -/
namespace Mp
open PySem L2

def Strs (M : Mm) (n : Nat) (P : Str → Prop) : Prop := ∃ ks : List Str, M[n]? = some (.lst (ks.map .str)) ∧ ks ≠ [] ∧ ks.length < 1000 ∧ ∀ k ∈ ks, P k
def HE (cf : CF) : Prop := ∀ (M : Mm) (b w s c nn : Nat) (k f : Int) (ws : Ws) (n : Nat) (z : Str), Bx M b k → k < 900000000000 → WAt M w s c ws → WsOk ws n → n < 100000 → b ≠ w → b ≠ s → b ≠ c → nn ≠ b → Strs M nn KeyOk → 1 ≤ f → f ≤ 4 → 0 < z.length → z.length < 1000 →
  ∃ (v : PV) (M' : Mm), cf i_l_event [.ref b, .ref w, .int f, .ref nn, .str z] M = some (v, M') ∧ Frm [b] M M' ∧ Bx M' b (k + 5) ∧ (v = .non ∨ ∃ e ws', v = e.pv ∧ EvOk e ∧ ws.step e = some ws')
theorem event_ok {cf : CF} (T : HT cf) (O : HO cf) {M : Mm} {b w s c nn : Nat} {k f : Int} {ws : Ws} {n : Nat} {z : Str} (h : Bx M b k) (hk : k < 900000000000) (hw : WAt M w s c ws) (ho : WsOk ws n) (hn : n < 100000) (n1 : b ≠ w) (n2 : b ≠ s) (n3 : b ≠ c) (n4 : nn ≠ b) (hq : Strs M nn KeyOk) (f1 : 1 ≤ f) (f2 : f ≤ 4) (z1 : 0 < z.length) (z2 : z.length < 1000) :
    ∃ (v : PV) (M' : Mm), runD cf ir_l_event [.ref b, .ref w, .int f, .ref nn, .str z] M = some (v, M') ∧ Frm [b] M M' ∧ Bx M' b (k + 5) ∧ (v = .non ∨ ∃ e ws', v = e.pv ∧ EvOk e ∧ ws.step e = some ws') := by
  obtain ⟨ks, q1, q2, q3, q4⟩ := hq
  obtain ⟨r1, l1, a1, a2, e1, B1⟩ := T M b k z.length h (by omega) (by omega) (by omega)
  have g1 : Frm [b] M (M.set b (.lst l1)) := Frm.set (by simp)
  generalize eM1 : M.set b (.lst l1) = M1 at e1 B1 g1
  obtain ⟨r2, l2, b1, b2, e2, B2⟩ := T M1 b (k + 1) f B1 (by omega) (by omega) (by omega)
  have g2 : Frm [b] M (M1.set b (.lst l2)) := g1.trans (Frm.set (by simp))
  generalize eM2 : M1.set b (.lst l2) = M2 at e2 B2 g2
  obtain ⟨x3, l3, c1, e3, B3⟩ := O M2 b nn (k + 1 + 1) (ks.map .str) B2 (by omega) (g2.get q1 (by simpa using n4)) n4 (by simpa using q2) (by simpa using q3)
  have g3 : Frm [b] M (M2.set b (.lst l3)) := g2.trans (Frm.set (by simp))
  generalize eM3 : M2.set b (.lst l3) = M3 at e3 B3 g3
  obtain ⟨key, ck, rfl⟩ := List.mem_map.mp c1
  have hkey := q4 key ck
  have W3 : WAt M3 w s c ws := hw.frm g3 (by simpa using n1.symm) (by simpa using n2.symm) (by simpa using n3.symm)
  -- the sign that was drawn
  have hlz : z.cps.toList.length = z.length := by simp [Str.length]
  have hr : r1.toNat < z.cps.toList.length := by omega
  generalize ech : z.cps.toList[r1.toNat] = ch
  have hix : idxP M1 (.str z) (.int r1) = some (.str ⟨#[ch]⟩) := by
    have : atI z.cps.toList r1 = some ch := by
      simp only [atI, ixN, if_pos a1]
      rw [if_pos (by rw [hlz]; exact a2)]
      show z.cps.toList[r1.toNat]? = some ch
      rw [List.getElem?_eq_getElem hr, ech]
    simp only [idxP, this]
    rw [if_pos (show z.length ≤ sizeLine by have : sizeLine = 16777216 := rfl; omega)]
    rfl
  generalize (⟨#[ch]⟩ : Str) = wy at hix
  have hlen : bltP M .len [.str z] = some (.int z.length, M) := by
    simp only [bltP]; rw [if_pos (show z.length ≤ sizeLine by have : sizeLine = 16777216 := rfl; omega)]
  have hwd := W3.w_
  unfold wdic at hwd
  have hsd := W3.s_
  have hcd := W3.c_
  have iS : ∀ {N : Mm}, Frm [b] M3 N → idxP N (.ref w) (.str "seats") = some (.ref s) := fun {N} fr => by
    have := fr.get hwd (by simpa using n1.symm)
    simp [idxP, this, keyOf, getD]
  have iC : ∀ {N : Mm}, Frm [b] M3 N → idxP N (.ref w) (.str "copies") = some (.ref c) := fun {N} fr => by
    have := fr.get hwd (by simpa using n1.symm)
    simp [idxP, this, keyOf, getD]
  have iM : ∀ {N : Mm}, Frm [b] M3 N → idxP N (.ref w) (.str "many") = some (.int ws.many) := fun {N} fr => by
    have := fr.get hwd (by simpa using n1.symm)
    simp [idxP, this, keyOf, getD]
  by_cases hp : wy = "p"
  · obtain ⟨r4, l4, d1, d2, e4, B4⟩ := T M3 b (k + 1 + 1 + 1) 9 B3 (by omega) (by omega) (by omega)
    refine ⟨(Ev.put key r4).pv, M3.set b (.lst l4), ?_, g3.trans (Frm.set (by simp)), B4.frm (S := []) .refl (by simp) (by omega), .inr ⟨.put key r4, _, rfl, ⟨hkey, d1, by omega⟩, rfl⟩⟩
    simp [runD, ir_l_event, evSs, evS, evE, evEs, tgP, setAll, hlen, e1, hix, e2, e3, hp, cmpP, eqP, eqS, e4, Ev.pv, sizeLine]
  by_cases hd : wy = "d"
  · refine ⟨(Ev.drop key).pv, M3, ?_, g3, B3.frm (S := []) .refl (by simp) (by omega), .inr ⟨.drop key, _, rfl, hkey, rfl⟩⟩
    simp [runD, ir_l_event, evSs, evS, evE, evEs, tgP, setAll, hlen, e1, hix, e2, e3, hd, cmpP, eqP, eqS, isIn, inP, flatP, eqF, Ev.pv, sizeLine]
  by_cases hww : wy = "w"
  · refine ⟨Ev.wait.pv, M3, ?_, g3, B3.frm (S := []) .refl (by simp) (by omega), .inr ⟨.wait, _, rfl, trivial, rfl⟩⟩
    simp [runD, ir_l_event, evSs, evS, evE, evEs, tgP, setAll, hlen, e1, hix, e2, e3, hww, cmpP, eqP, eqS, isIn, inP, flatP, eqF, Ev.pv, sizeLine]
  have hin : (Str.ofString "d" == wy || Str.ofString "w" == wy) = false := by
    rw [beq_eq_false_iff_ne.mpr (Ne.symm hd), beq_eq_false_iff_ne.mpr (Ne.symm hww)]; rfl
  have hdd : (Str.ofString "d" == wy) = false := beq_eq_false_iff_ne.mpr (Ne.symm hd)
  have hdw : (Str.ofString "w" == wy) = false := beq_eq_false_iff_ne.mpr (Ne.symm hww)
  by_cases hj : wy = "j"
  · refine ⟨(Ev.join r2).pv, M3, ?_, g3, B3.frm (S := []) .refl (by simp) (by omega), .inr ⟨.join r2, _, rfl, ⟨b1, by omega⟩, rfl⟩⟩
    simp [runD, ir_l_event, evSs, evS, evE, evEs, tgP, setAll, hlen, e1, hix, e2, e3, hj, cmpP, eqP, eqS, isIn, inP, flatP, eqF, Ev.pv, sizeLine]
  by_cases hl : wy = "l"
  · have fA : Frm [b] M3 (M3 ++ [.lst []]) := Frm.app
    have q1 := iC (.refl : Frm [b] M3 M3)
    have q2 := iC fA
    have q3 : (M3 ++ [.lst []])[c]? = some (.lst ws.copies) := fA.get hcd (by simpa using n3.symm)
    have q4 : (M3 ++ [.lst []])[M3.length]? = some (.lst []) := by simp
    have q5 := eqP_nil (j := 1) (g := fd) q3 q4 (by intro x hx; obtain ⟨v, rfl, _⟩ := ho.copies x hx; exact Rd.flat trivial) (by omega) (by omega)
    by_cases hne : ws.copies = []
    · refine ⟨.non, M3 ++ [.lst []], ?_, g3.trans fA, B3.frm (S := []) .app (by simp) (by omega), .inl rfl⟩
      rw [hne] at q5
      simp [runD, ir_l_event, evSs, evS, evE, evEs, tgP, setAll, hlen, e1, hix, e2, e3, hl, cmpP, isIn, inP, flatP, eqF, sizeLine, q1, q2, q5]
    · have hpos : 0 < ws.copies.length := List.length_pos_iff.mpr hne
      have hcl := ho.cl
      obtain ⟨r4, l4, d1, d2, e4, B4⟩ := T (M3 ++ [.lst []]) b (k + 1 + 1 + 1) ws.copies.length (B3.frm (S := []) .app (by simp) (by omega)) (by omega) (by omega) (by omega)
      have hst : (atI ws.copies r4) = some (ws.copies[r4.toNat]'(by omega)) := by
        simp only [atI, ixN, if_pos d1, if_pos d2]
        exact List.getElem?_eq_getElem (by omega)
      refine ⟨(Ev.load r2 r4).pv, _, ?_, (g3.trans fA).trans (Frm.set (by simp)), B4.frm (S := []) .refl (by simp) (by omega), .inr ⟨.load r2 r4, _, rfl, ⟨b1, by omega, d1⟩, by simp only [Ws.step, hst]; rfl⟩⟩
      have q5' : eqP (M3 ++ [.lst []]) (.ref c) (.ref M3.length) = some false := by rw [q5]; cases hh : ws.copies with | nil => exact absurd hh hne | cons _ _ => rfl
      have hlc : bltP (M3 ++ [.lst []]) .len [.ref c] = some (.int ws.copies.length, M3 ++ [.lst []]) := by simp only [bltP, q3]
      simp [runD, ir_l_event, evSs, evS, evE, evEs, tgP, setAll, hlen, e1, hix, e2, e3, hl, cmpP, isIn, inP, flatP, eqF, sizeLine, q1, q2, q5', hlc, e4, Ev.pv]
  have p1 := iS (.refl : Frm [b] M3 M3)
  have p2 := iM (.refl : Frm [b] M3 M3)
  have hpf : eqP M3 (.str wy) (.str "p") = some false := by simp [eqP, eqS, hp]
  have hjf : eqP M3 (.str wy) (.str "j") = some false := by simp [eqP, eqS, hj]
  have hlf : eqP M3 (.str wy) (.str "l") = some false := by simp [eqP, eqS, hl]
  have hni : isIn M3 (.int r2) (.ref s) = some (getD ws.seats (.inl r2)).isSome := by simp only [isIn, hsd, keyOf]; rfl
  cases hg : getD ws.seats (.inl r2) with
  | none =>
    rw [hg] at hni
    refine ⟨(Ev.join r2).pv, M3, ?_, g3, B3.frm (S := []) .refl (by simp) (by omega), .inr ⟨.join r2, _, rfl, ⟨b1, by omega⟩, rfl⟩⟩
    simp [runD, ir_l_event, evSs, evS, evE, evEs, tgP, setAll, hlen, e1, hix, e2, e3, cmpP, hpf, hjf, hlf, isIn, inP, flatP, eqF, hdd, hdw, sizeLine, p1, Ev.pv]
    simp [isIn, hsd, keyOf, hg]
  | some v =>
    rw [hg] at hni
    obtain ⟨p, v', e', _, _, hv0⟩ := ho.seats _ (getD_mem hg)
    cases e'
    by_cases hs : wy = "s"
    · refine ⟨(Ev.save r2).pv, M3, ?_, g3, B3.frm (S := []) .refl (by simp) (by omega), .inr ⟨.save r2, _, rfl, ⟨b1, by omega⟩, by simp only [Ws.step, hg]; rfl⟩⟩
      simp [runD, ir_l_event, evSs, evS, evE, evEs, tgP, setAll, hlen, e1, hix, e2, e3, cmpP, hs, isIn, inP, flatP, eqF, sizeLine, p1, Ev.pv, eqP, eqS, hsd, keyOf, hg]
    have hsf : eqP M3 (.str wy) (.str "s") = some false := by simp [eqP, eqS, hs]
    have p3 : idxP M3 (.ref s) (.int r2) = some (.int v') := by simp only [idxP, hsd, keyOf]; exact hg
    by_cases hgap : 0 < ws.many - v'
    · have hm1 := ho.m1
      obtain ⟨r4, l4, d1, d2, e4, B4⟩ := T M3 b (k + 1 + 1 + 1) (ws.many - v') B3 (by omega) (by omega) (by omega)
      refine ⟨(Ev.read r2 (v' + 1 + r4)).pv, _, ?_, g3.trans (Frm.set (by simp)), B4.frm (S := []) .refl (by simp) (by omega), .inr ⟨.read r2 (v' + 1 + r4), _, rfl, ⟨b1, by omega, by omega⟩, rfl⟩⟩
      have hgap' : v' < ws.many := by omega
      simp [runD, ir_l_event, evSs, evS, evE, evEs, tgP, setAll, hlen, e1, hix, e2, e3, cmpP, hpf, hjf, hlf, hsf, isIn, inP, flatP, eqF, hdd, hdw, sizeLine, p1, p2, p3, Ev.pv, hsd, keyOf, hg, bopP, hgap, hgap', e4]
    · refine ⟨.non, M3, ?_, g3, B3.frm (S := []) .refl (by simp) (by omega), .inl rfl⟩
      have hgap' : ¬ v' < ws.many := by omega
      simp [runD, ir_l_event, evSs, evS, evE, evEs, tgP, setAll, hlen, e1, hix, e2, e3, cmpP, hpf, hjf, hlf, hsf, isIn, inP, flatP, eqF, hdd, hdw, sizeLine, p1, p2, p3, Ev.pv, hsd, keyOf, hg, bopP, hgap, hgap']
theorem he (j : Nat) : HE (cfN tab (j + 3)) := fun M b w s c nn k f ws n z h hk hw ho hn n1 n2 n3 n4 hq f1 f2 z1 z2 => event_ok (ht (j + 1)) (Mp.ho j) h hk hw ho hn n1 n2 n3 n4 hq f1 f2 z1 z2
end Mp

/-! Ml4: the drawn table. -/
namespace Mp
open PySem L2

theorem Frm.comp {S T : List Nat} {M0 M M' : Mm} (a : Frm S M0 M) (b : Frm T M M') (h : ∀ i ∈ T, i ∈ S ∨ M0.length ≤ i) : Frm S M0 M' :=
  ⟨Nat.le_trans a.len b.len, fun i h1 h2 => by
    rw [b.at_ i (fun z => (h i z).elim h1 (fun q => absurd h2 (by omega))) (Nat.lt_of_lt_of_le h2 a.len)]
    exact a.at_ i h1 h2⟩
theorem Frm.wr {S : List Nat} {M0 M : Mm} {j : Nat} {x : Ob} (a : Frm S M0 M) (h : M0.length ≤ j) : Frm S M0 (M.set j x) :=
  a.comp (Frm.set (S := [j]) (by simp)) (by simp; exact .inr h)
theorem Frm.wr2 {S : List Nat} {M0 M : Mm} {L : List Ob} (a : Frm S M0 M) : Frm S M0 (M ++ L) := a.trans .app
def Ws.run (ws : Ws) : List Ev → Option Ws
  | [] => some ws
  | e :: es => (ws.step e).bind fun w => w.run es
theorem Ws.run_app {ws1 ws2 : Ws} {es : List Ev} {e : Ev} : ∀ {ws : Ws}, ws.run es = some ws1 → ws1.step e = some ws2 → ws.run (es ++ [e]) = some ws2 := by
  induction es with
  | nil => intro ws h1 h2; cases h1; simp [Ws.run, h2]
  | cons a es ih =>
    intro ws h1 h2
    obtain ⟨w, h3, h4⟩ := Option.bind_eq_some_iff.mp h1
    show (ws.step a).bind _ = _
    rw [h3]; exact ih h4 h2
def w0 : Ws := ⟨[], [], 0⟩
theorem w0_ok : WsOk w0 0 := ⟨by decide, by decide, by simp [w0], by simp [w0], by decide, by decide⟩
theorem WsOk.mono {ws : Ws} {n m : Nat} (h : WsOk ws n) (hm : n ≤ m) : WsOk ws m := ⟨h.m0, by have := h.m1; omega, h.seats, h.copies, Nat.le_trans h.sl hm, Nat.le_trans h.cl hm⟩
abbrev wE : E := (.dct [.inr "seats", .inr "copies", .inr "many"] (.cons .dnew (.cons (.lst .nil) (.cons (.con (.int 0)) .nil))))
theorem wE_ok (cf : CF) (sg : Sg) (M : Mm) : ∃ M', evE cf wE sg M = some (.ref M.length, M') ∧ WAt M' M.length (M.length + 1) (M.length + 2) w0 ∧ Frm [] M M' ∧ M'.length = M.length + 3 := by
  refine ⟨M ++ [wdic (M.length + 1) (M.length + 2) 0, .dic [], .lst []], ?_, ⟨?_, ?_, ?_, by omega⟩, Frm.app, by simp⟩
  · have h1 : dicAt (M ++ [Ob.dic []] ++ [Ob.dic []] ++ [Ob.lst []]) M.length = some [] := by simp [dicAt]
    have h2 : (M ++ [Ob.dic []] ++ [Ob.dic []] ++ [Ob.lst []]).set M.length (wdic (M.length + 1) (M.length + 2) 0) = M ++ [wdic (M.length + 1) (M.length + 2) 0, .dic [], .lst []] := by simp
    rw [← h2]
    simp [evE, evEs, sizeLine, dicAt, putD, wdic]
  · simp [w0]
  · simp [w0]
  · simp [w0]
def Ev.word : Ev → Str
  | .put _ _ => "put" | .drop _ => "drop" | .join _ => "join" | .read _ _ => "read" | .save _ => "save" | .load _ _ => "load" | .wait => "wait"
def Ev.rest : Ev → List PV
  | .put k v => [.str k, .int v] | .drop k => [.str k] | .join r => [.int r] | .read r u => [.int r, .int u] | .save r => [.int r] | .load r c => [.int r, .int c] | .wait => []
theorem Ev.pv_eq (e : Ev) : e.pv = .tup (.str e.word :: e.rest) := by cases e <;> rfl
/-- a drawn table -/
structure TbOk (es : List Ev) (n : Nat) : Prop where
  run : ∃ ws, w0.run es = some ws ∧ WsOk ws n
  len : es.length ≤ n
  ok : ∀ e ∈ es, EvOk e
theorem TbOk.nil : TbOk [] 0 := ⟨⟨w0, rfl, w0_ok⟩, Nat.le_refl _, by simp⟩
theorem TbOk.mono {es : List Ev} {n m : Nat} (h : TbOk es n) (hm : n ≤ m) : TbOk es m := ⟨by obtain ⟨ws, a, b⟩ := h.run; exact ⟨ws, a, b.mono hm⟩, Nat.le_trans h.len hm, h.ok⟩
/-- a table being made: found at nf, the state at w -/
structure Mkg (M : Mm) (nf w s c : Nat) (es : List Ev) (ws : Ws) (n : Nat) : Prop where
  f_ : M[nf]? = some (.lst (es.map Ev.pv))
  w_ : WAt M w s c ws
  run : w0.run es = some ws
  len : es.length ≤ n
  wok : WsOk ws n
  ok : ∀ e ∈ es, EvOk e
  ne : nf ≠ w
theorem Mkg.ne2 {M : Mm} {nf w s c : Nat} {es : List Ev} {ws : Ws} {n : Nat} (h : Mkg M nf w s c es ws n) : nf ≠ s := by
  intro e; subst e; have := h.w_.s_; rw [h.f_] at this; cases this
theorem Mkg.mono {M : Mm} {nf w s c : Nat} {es : List Ev} {ws : Ws} {n m : Nat} (h : Mkg M nf w s c es ws n) (hm : n ≤ m) : Mkg M nf w s c es ws m := ⟨h.f_, h.w_, h.run, Nat.le_trans h.len hm, h.wok.mono hm, h.ok, h.ne⟩
theorem Mkg.frm {S : List Nat} {M M' : Mm} {nf w s c : Nat} {es : List Ev} {ws : Ws} {n : Nat} (h : Mkg M nf w s c es ws n) (a : Frm S M M') (h1 : nf ∉ S) (h2 : w ∉ S) (h3 : s ∉ S) (h4 : c ∉ S) : Mkg M' nf w s c es ws n := ⟨a.get h.f_ h1, h.w_.frm a h2 h3 h4, h.run, h.len, h.wok, h.ok, h.ne⟩
def HM (cf : CF) : Prop := ∀ (M : Mm) (w s c : Nat) (ws ws' : Ws) (e : Ev), WAt M w s c ws → ws.step e = some ws' → ws.seats.length < 1000 → ws.copies.length < 1000 →
  ∃ M', cf i_l_moved [.ref w, e.pv] M = some (.non, M') ∧ WAt M' w s c ws' ∧ Frm [w, s, c] M M' ∧ M'.length = M.length
theorem hm (j : Nat) : HM (cfN tab (j + 1)) := fun M w s c ws ws' e h1 h2 h3 h4 => moved_ok (cfN tab j) h1 h2 h3 h4
/-- moved and append, in either order -/
theorem go_ok {cf : CF} (H : HM cf) {M : Mm} {nf w s c : Nat} {es : List Ev} {ws ws' : Ws} {n : Nat} {e : Ev} (h : Mkg M nf w s c es ws n) (hn : n < 500) (he : EvOk e) (hs : ws.step e = some ws') (hc : nf ≠ c) :
    ∃ M1 M2, cf i_l_moved [.ref w, e.pv] M = some (.non, M1) ∧ mtOk M1 .append (.ref nf) = true ∧ mthP M1 .append (.ref nf) [e.pv] = some (.non, M2) ∧ Mkg M2 nf w s c (es ++ [e]) ws' (n + 1) ∧ Frm [nf, w, s, c] M M2 := by
  obtain ⟨M1, e1, W1, f1, l1⟩ := H M w s c ws ws' e h.w_ hs (by have := h.wok.sl; omega) (by have := h.wok.cl; omega)
  have hf : M1[nf]? = some (.lst (es.map Ev.pv)) := f1.get h.f_ (by simp [h.ne, h.ne2, hc])
  have hl : (es.map Ev.pv).length < 16777216 := by have := h.len; simp; omega
  refine ⟨M1, M1.set nf (.lst (es.map Ev.pv ++ [e.pv])), e1, by simp [mtOk, lstAt, hf], ?_, ⟨?_, ?_, Ws.run_app h.run hs, ?_, step_ok h.wok he hs, ?_, h.ne⟩, ?_⟩
  · simp only [mthP, lstAt, hf]
    show (if _ then _ else _) = _
    rw [if_pos (show _ < sizeLine from hl)]
  · rw [List.map_append]; simp [lt_of hf]
  · exact W1.frm (S := [nf]) (Frm.set (by simp)) (by simp [h.ne.symm]) (by simp [h.ne2.symm]) (by simp [hc.symm])
  · simp; exact h.len
  · intro x hx
    rcases List.mem_append.mp hx with hx | hx
    · exact h.ok x hx
    · simp at hx; subst hx; exact he
  · exact (f1.mono (by simp +contextual)).trans (Frm.set (by simp))

def HTb (cf : CF) : Prop := ∀ (M : Mm) (b nn : Nat) (k f many most : Int) (z : Str), Bx M b k → k < 800000000000 → nn ≠ b → Strs M nn KeyOk → 1 ≤ f → f ≤ 4 → 0 < z.length → z.length < 1000 → 0 ≤ many → many ≤ 12 →
  ∃ (es : List Ev) (M' : Mm), cf i_l_table [.ref b, .int many, .int most, .int f, .ref nn, .str z] M = some (.tup (es.map Ev.pv), M') ∧ Frm [b] M M' ∧ Bx M' b (k + 60) ∧ TbOk es 12
theorem table_ok {cf : CF} (HEv : HE cf) (H : HM cf) {M : Mm} {b nn : Nat} {k f many most : Int} {z : Str} (h : Bx M b k) (hk : k < 800000000000) (n4 : nn ≠ b) (hq : Strs M nn KeyOk) (f1 : 1 ≤ f) (f2 : f ≤ 4) (z1 : 0 < z.length) (z2 : z.length < 1000) (m1 : 0 ≤ many) (m2 : many ≤ 12) :
    ∃ (es : List Ev) (M' : Mm), runD cf ir_l_table [.ref b, .int many, .int most, .int f, .ref nn, .str z] M = some (.tup (es.map Ev.pv), M') ∧ Frm [b] M M' ∧ Bx M' b (k + 60) ∧ TbOk es 12 := by
  have hbl : b < M.length := by obtain ⟨_, _, _, hb, _⟩ := h; exact lt_of hb
  have hnl : nn < M.length := by obtain ⟨_, hb, _⟩ := hq; exact lt_of hb
  obtain ⟨Mw, e1, W1, f1', l1⟩ := wE_ok cf ([some (.ref b), some (.int many), some (.int most), some (.int f), some (.ref nn), some (.str z), none, none, none, none, none]) (M ++ [.lst []])
  have f2' : Frm [] M Mw := Frm.trans .app f1'
  have fd1 : Mw[M.length]? = some (.lst []) := f1'.get (by simp) (by simp)
  simp only [List.length_append, List.length_singleton] at W1 e1 l1
  generalize hw_ : M.length + 1 = w at W1 e1
  generalize hs_ : w + 1 = s at W1
  generalize hc_ : w + 2 = c at W1
  generalize hf_ : M.length = nf at *
  let I : Nat → Sg → Mm → Prop := fun i sg N => ∃ o8 o9 o10 es ws, sg = [some (.ref b), some (.int many), some (.int most), some (.int f), some (.ref nn), some (.str z), some (.ref nf), some (.ref w), o8, o9, o10] ∧ Mkg N nf w s c es ws i ∧ Bx N b (k + 5 * i) ∧ Frm [b] M N
  obtain ⟨sg', M', e2, o8, o9, o10, es, ws, hsg, K, B, F⟩ := for_inv (src := .rng 0 many.toNat) (bind := tgP (.name 8)) (body := fun sg M => evSs cf b1_l_table sg M) I (n := many.toNat) (sg := [some (.ref b), some (.int many), some (.int most), some (.int f), some (.ref nn), some (.str z), some (.ref nf), some (.ref w), none, none, none]) (M := Mw) (by omega)
    ⟨none, none, none, [], w0, rfl, ⟨fd1, W1, rfl, Nat.le_refl _, w0_ok, by simp, by omega⟩, h.frm f2' (by simp) (by omega), f2'.mono (by simp)⟩
    (by
      intro i sg N hi hI
      obtain ⟨o8, o9, o10, es, ws, rfl, K, B, F⟩ := hI
      refine ⟨.int (0 + i), [some (.ref b), some (.int many), some (.int most), some (.int f), some (.ref nn), some (.str z), some (.ref nf), some (.ref w), some (.int (0 + i)), o9, o10], ?_⟩
      obtain ⟨v, N1, e3, F1, B1, hv⟩ := HEv N b w s c nn (k + 5 * i) f ws i z B (by omega) K.w_ K.wok (by omega) (by omega) (by omega) (by omega) n4 (by obtain ⟨ks, q, q'⟩ := hq; exact ⟨ks, F.get q (by simpa using n4), q'⟩) f1 f2 z1 z2
      have K1 : Mkg N1 nf w s c es ws i := K.frm F1 (by simp; omega) (by simp; omega) (by simp; omega) (by simp; omega)
      have iM : idxP N1 (.ref w) (.str "many") = some (.int ws.many) := by
        have := K1.w_.w_; simp [idxP, this, keyOf, getD, wdic]
      have iC : idxP N1 (.ref w) (.str "copies") = some (.ref c) := by
        have := K1.w_.w_; simp [idxP, this, keyOf, getD, wdic]
      have hlc : bltP N1 .len [.ref c] = some (.int ws.copies.length, N1) := by simp only [bltP, K1.w_.c_]
      have B2 : ∀ {N2 : Mm}, Frm [nf, w, s, c] N1 N2 → Bx N2 b (k + 5 * (i + 1 : Nat)) := fun fr => B1.frm fr (by simp; omega) (by omega)
      have F2 : ∀ {N2 : Mm}, Frm [nf, w, s, c] N1 N2 → Frm [b] M N2 := fun fr => (F.trans F1).comp fr (by simp; omega)
      have src : (Src.rng 0 many.toNat).get N i = some (some (.int (0 + i))) := by simp [Src.get, hi]
      rcases hv with rfl | ⟨e, ws', rfl, heo, hst⟩
      · refine ⟨[some (.ref b), some (.int many), some (.int most), some (.int f), some (.ref nn), some (.str z), some (.ref nf), some (.ref w), some (.int (0 + i)), some .non, some (.bl false)], N1, src, rfl, ?_, _, _, _, es, ws, rfl, K1.mono (by omega), B2 .refl, F2 .refl⟩
        simp [b1_l_table, evSs, evS, evE, evEs, tgP, e3, cmpP]
      · obtain ⟨Na, Nb, g1, g2, g3, g4, g5⟩ := go_ok H K1 (by omega) heo hst (by omega)
        have full : ∃ x, isIn N1 (.str e.word) (.tup [.str "put", .str "drop"]) = some x := by simp [isIn, inP, flatP]
        obtain ⟨x, hx⟩ := full
        have ix0 : idxP N1 e.pv (.int 0) = some (.str e.word) := by rw [e.pv_eq]; simp [idxP, atI, ixN]
        rw [e.pv_eq] at e3 g1 g3 ix0
        generalize e.word = ew at *
        generalize e.rest = er at *
        by_cases go : (x && decide (most ≤ ws.many)) = false ∧ (ew ≠ "save" ∨ (ws.copies.length : Int) < 3)
        · refine ⟨[some (.ref b), some (.int many), some (.int most), some (.int f), some (.ref nn), some (.str z), some (.ref nf), some (.ref w), some (.int (0 + i)), some (.tup (.str ew :: er)), some (.bl false)], Nb, src, rfl, ?_, _, _, _, es ++ [e], ws', rfl, g4, B2 g5, F2 g5⟩
          obtain ⟨ga, gb⟩ := go
          cases x with
          | false => 
            by_cases hsv : ew = "save"
            · have h3 : (ws.copies.length : Int) < 3 := gb.resolve_left (fun q => q hsv)
              subst hsv
              simp [b1_l_table, evSs, evS, evE, evEs, tgP, e3, ix0, cmpP, hx, iC, hlc, h3, g1, g2, g3, sizeLine]
            · simp [b1_l_table, evSs, evS, evE, evEs, tgP, e3, ix0, cmpP, hx, hsv, iC, hlc, g1, g2, g3, sizeLine]
          | true =>
            simp at ga
            have ga' : ¬ most ≤ ws.many := by omega
            by_cases hsv : ew = "save"
            · have h3 : (ws.copies.length : Int) < 3 := gb.resolve_left (fun q => q hsv)
              subst hsv
              simp [b1_l_table, evSs, evS, evE, evEs, tgP, e3, ix0, cmpP, hx, iC, iM, hlc, h3, ga', g1, g2, g3, sizeLine]
            · simp [b1_l_table, evSs, evS, evE, evEs, tgP, e3, ix0, cmpP, hx, hsv, iC, iM, hlc, ga', g1, g2, g3, sizeLine]
        · refine ⟨[some (.ref b), some (.int many), some (.int most), some (.int f), some (.ref nn), some (.str z), some (.ref nf), some (.ref w), some (.int (0 + i)), some (.tup (.str ew :: er)), some (.bl (x && decide (most ≤ ws.many)))], N1, src, rfl, ?_, _, _, _, es, ws, rfl, K1.mono (by omega), B2 .refl, F2 .refl⟩
          by_cases hsv : ew = "save" ∧ ¬ (ws.copies.length : Int) < 3
          · obtain ⟨h1, h2⟩ := hsv
            subst h1
            cases x <;> by_cases hmm : most ≤ ws.many <;> simp [b1_l_table, evSs, evS, evE, evEs, tgP, e3, ix0, cmpP, hx, iC, iM, hlc, h2, hmm, sizeLine]
          · have hxx : x = true ∧ most ≤ ws.many := by
              cases x with
              | false => exact absurd ⟨rfl, (Classical.em (ew = "save")).elim (fun q => .inr (Classical.byContradiction fun z => hsv ⟨q, z⟩)) .inl⟩ go
              | true =>
                refine ⟨rfl, Classical.byContradiction fun zz => go ⟨by simp; omega, (Classical.em (ew = "save")).elim (fun q => .inr (Classical.byContradiction fun z => hsv ⟨q, z⟩)) .inl⟩⟩
            obtain ⟨rfl, hmm⟩ := hxx
            simp [b1_l_table, evSs, evS, evE, evEs, tgP, e3, ix0, cmpP, hx, iC, iM, hlc, hmm, sizeLine])
    (by intro sg N _; simp [Src.get])
  refine ⟨es, M', ?_, F, B.frm (S := []) .refl (by simp) (by omega), ⟨⟨ws, K.run, K.wok.mono (by omega)⟩, by have := K.len; omega, K.ok⟩⟩
  subst hsg
  have hro : rngOk many = true := by simp [rngOk]; omega
  have hfin := K.f_
  have hE : ∀ (q : E) (sg0 : Sg), evE cf q sg0 (M ++ [.lst []]) = some (.ref w, Mw) → evE cf (.tup (.cons (.lst .nil) (.cons q .nil))) sg0 M = some (.tup [.ref nf, .ref w], Mw) := by
    intro q sg0 hq; simp [evE, evEs, hq, sizeLine, hf_]
  have hT : evE cf (.blt .tuple (.cons (.var 6) .nil)) [some (.ref b), some (.int many), some (.int most), some (.int f), some (.ref nn), some (.str z), some (.ref nf), some (.ref w), o8, o9, o10] M' = some (.tup (es.map Ev.pv), M') := by
    simp [evE, evEs, bltP, lstAt, hfin]
  simp [runD, ir_l_table, evSs, evS, hE wE _ e1, evI, tgP, setAll, evE.eq_1, hro, e2, hT]
theorem htb (j : Nat) : HTb (cfN tab (j + 4)) := fun M b nn k f many most z h hk n4 hq f1 f2 z1 z2 m1 m2 => table_ok (he j) (hm (j + 2)) h hk n4 hq f1 f2 z1 z2 m1 m2
end Mp

/-! Ml5: the table that is ended. -/
namespace Mp
open PySem L2

theorem Ws.run_append {es fs : List Ev} : ∀ {ws : Ws}, ws.run (es ++ fs) = (ws.run es).bind fun w => w.run fs := by
  induction es with
  | nil => intro ws; rfl
  | cons a es ih =>
    intro ws
    show (ws.step a).bind _ = ((ws.step a).bind _).bind _
    cases ws.step a with
    | none => rfl
    | some w => exact ih
theorem run_ok {es : List Ev} : ∀ {ws ws' : Ws} {n : Nat}, WsOk ws n → (∀ e ∈ es, EvOk e) → ws.run es = some ws' → WsOk ws' (n + es.length) := by
  induction es with
  | nil => intro ws ws' n h _ e; cases e; exact h
  | cons a es ih =>
    intro ws ws' n h ho e
    obtain ⟨w, h1, h2⟩ := Option.bind_eq_some_iff.mp e
    have := ih (step_ok h (ho a (by simp)) h1) (fun x hx => ho x (by simp [hx])) h2
    exact this.mono (by simp; omega)
theorem run_reads {rs : List Ev} : ∀ {ws : Ws}, (∀ r ∈ rs, ∃ p u, r = .read p u) → ∃ ws', ws.run rs = some ws' := by
  induction rs with
  | nil => intro ws _; exact ⟨ws, rfl⟩
  | cons a rs ih =>
    intro ws h
    obtain ⟨p, u, rfl⟩ := h a (by simp)
    exact ih (fun r hr => h r (by simp [hr]))
theorem insI_mem {i j : Int} {ns : List Int} : j ∈ insI i ns → j = i ∨ j ∈ ns := by
  induction ns with
  | nil => intro h; simpa [insI] using h
  | cons a ns ih =>
    intro h
    unfold insI at h
    split at h
    · simpa using h
    · rcases List.mem_cons.mp h with h | h
      · exact .inr (by simp [h])
      · exact (ih h).imp id (fun q => by simp [q])
theorem sortI_mem {j : Int} {ns : List Int} : j ∈ sortI ns → j ∈ ns := by
  induction ns with
  | nil => intro h; exact h
  | cons a ns ih => intro h; exact (insI_mem h).elim (fun q => by simp [q]) (fun q => by simp [ih q])
theorem insI_len {i : Int} {ns : List Int} : (insI i ns).length = ns.length + 1 := by
  induction ns with
  | nil => rfl
  | cons a ns ih => unfold insI; split <;> simp [ih]
theorem sortI_len {ns : List Int} : (sortI ns).length = ns.length := by
  induction ns with
  | nil => rfl
  | cons a ns ih => show (insI a (sortI ns)).length = _; rw [insI_len, ih]; rfl
theorem keysI_some {kvs : List (Key × PV)} (h : ∀ kv ∈ kvs, ∃ p v : Int, kv = (.inl p, .int v) ∧ 0 ≤ p ∧ p ≤ 3 ∧ 0 ≤ v) : ∃ ns, keysI kvs = some ns ∧ ns.length = kvs.length ∧ ∀ p ∈ ns, 0 ≤ p ∧ p ≤ 3 ∧ ∃ v : Int, getD kvs (.inl p) = some (.int v) := by
  have key : ∀ kvs' : List (Key × PV), (∀ kv ∈ kvs', kv ∈ kvs) → ∃ ns, keysI kvs' = some ns ∧ ns.length = kvs'.length ∧ ∀ p ∈ ns, 0 ≤ p ∧ p ≤ 3 ∧ ∃ v : Int, getD kvs (.inl p) = some (.int v) := by
    intro kvs'
    induction kvs' with
    | nil => intro _; exact ⟨[], rfl, rfl, by simp⟩
    | cons kv r ih =>
      intro hs
      obtain ⟨ns, h1, h2, h3⟩ := ih (fun x hx => hs x (by simp [hx]))
      obtain ⟨p, v, rfl, a, b, c⟩ := h kv (hs kv (by simp))
      refine ⟨p :: ns, by simp [keysI, h1], by simp [h2], ?_⟩
      intro q hq
      rcases List.mem_cons.mp hq with rfl | hq
      · refine ⟨a, b, ?_⟩
        cases hg : getD kvs (.inl q) with
        | some w => obtain ⟨_, v', e, _⟩ := h _ (getD_mem hg); cases e; exact ⟨v', rfl⟩
        | none =>
          exfalso
          unfold getD at hg
          rw [Option.map_eq_none_iff, List.find?_eq_none] at hg
          exact hg (.inl q, .int v) (hs (.inl q, .int v) (by simp)) (by simp)
      · exact h3 q hq
  exact key kvs (fun _ h => h)

def HEn (cf : CF) : Prop := ∀ (M : Mm) (es : List Ev), TbOk es 26 → ∃ (es' : List Ev) (M' : Mm), cf i_l_ended [.tup (es.map Ev.pv)] M = some (.tup (es'.map Ev.pv), M') ∧ Frm [] M M' ∧ TbOk es' 52
theorem ended_ok {cf : CF} (H : HM cf) {M : Mm} {es : List Ev} (h : TbOk es 26) : ∃ (es' : List Ev) (M' : Mm), runD cf ir_l_ended [.tup (es.map Ev.pv)] M = some (.tup (es'.map Ev.pv), M') ∧ Frm [] M M' ∧ TbOk es' 52 := by
  obtain ⟨wsE, hrun, hwE⟩ := h.run
  obtain ⟨Mw, e1, W1, f1, l1⟩ := wE_ok cf [some (.tup (es.map Ev.pv)), none, none, none] M
  generalize hw_ : M.length = w at *
  generalize hs_ : w + 1 = s at *
  generalize hc_ : w + 2 = c at *
  let I : Nat → Sg → Mm → Prop := fun i sg N => ∃ o2 ws, sg = [some (.tup (es.map Ev.pv)), some (.ref w), o2, none] ∧ w0.run (es.take i) = some ws ∧ WAt N w s c ws ∧ Frm [] M N
  have hlen := h.len
  obtain ⟨sg', M1, e2, o2, ws, hsg, R, W, F⟩ := for_inv (src := .tup (es.map Ev.pv)) (bind := tgP (.name 2)) (body := fun sg M => evSs cf b3_l_ended sg M) I (n := es.length) (sg := [some (.tup (es.map Ev.pv)), some (.ref w), none, none]) (M := Mw) (by omega)
    ⟨none, w0, rfl, rfl, W1, f1⟩
    (by
      intro i sg N hi hI
      obtain ⟨o2, ws, rfl, R, W, F⟩ := hI
      have hsp : es.take (i + 1) = es.take i ++ [es[i]] := by rw [List.take_succ_eq_append_getElem hi]
      have hall : w0.run (es.take (i + 1) ++ es.drop (i + 1)) = some wsE := by rw [List.take_append_drop]; exact hrun
      rw [Ws.run_append, hsp, Ws.run_append, R] at hall
      obtain ⟨ws1, q1, q2⟩ := Option.bind_eq_some_iff.mp hall
      obtain ⟨ws2, q3, q4⟩ := Option.bind_eq_some_iff.mp (show (ws.step es[i]).bind (fun w => w.run []) = some ws1 from q1)
      cases q4
      have hwo := run_ok w0_ok (fun e he => h.ok e (List.mem_of_mem_take he)) R
      have hl2 : (es.take i).length ≤ i := by simp; omega
      obtain ⟨N1, e3, W3, f3, l3⟩ := H N w s c ws ws1 es[i] W q3 (by have := hwo.sl; omega) (by have := hwo.cl; omega)
      refine ⟨es[i].pv, [some (.tup (es.map Ev.pv)), some (.ref w), some es[i].pv, none], [some (.tup (es.map Ev.pv)), some (.ref w), some es[i].pv, none], N1, ?_, rfl, ?_, some es[i].pv, ws1, rfl, ?_, W3, F.comp f3 (by simp; omega)⟩
      · simp [Src.get, hi]
      · simp [b3_l_ended, evSs, evS, evE, evEs, e3]
      · rw [hsp, Ws.run_append, R]; show (ws.step es[i]).bind _ = _; rw [q3]; rfl)
    (by intro sg N _; simp [Src.get])
  rw [List.take_length] at R
  have hww : ws = wsE := Option.some.inj (R.symm.trans hrun)
  subst hww
  subst hsg
  obtain ⟨ns, k1, k2, k3⟩ := keysI_some hwE.seats
  have hnl : ns.length < 64 := by have := hwE.sl; omega
  have iS : ∀ {N : Mm}, WAt N w s c ws → idxP N (.ref w) (.str "seats") = some (.ref s) := fun {N} q => by
    have := q.w_; simp [idxP, this, keyOf, getD, wdic]
  have iM : ∀ {N : Mm}, WAt N w s c ws → idxP N (.ref w) (.str "many") = some (.int ws.many) := fun {N} q => by
    have := q.w_; simp [idxP, this, keyOf, getD, wdic]
  have hsl : (sortI ns).length ≤ 26 := by have := hwE.sl; rw [sortI_len]; omega
  let J : Nat → Mm → Prop := fun i N => ∃ rs : List Ev, N[M1.length + 1]? = some (.lst (rs.map Ev.pv)) ∧ rs.length ≤ i ∧ (∀ r ∈ rs, EvOk r ∧ ∃ p u, r = .read p u) ∧ Frm [] (M1 ++ [.lst ((sortI ns).map .int)]) N
  obtain ⟨M3, e4, rs, r1, r2, r3, F3⟩ := lc_inv (src := .lst M1.length) (bind := tgP (.name 3)) (c := fun sg M => evE cf c1_l_ended sg M) (e := fun sg M => evE cf e2_l_ended sg M) (d := M1.length + 1) (sg := [some (.tup (es.map Ev.pv)), some (.ref w), o2, none]) J (n := (sortI ns).length) (M := M1 ++ [.lst ((sortI ns).map .int)] ++ [.lst []]) (by omega)
    ⟨[], by simp, Nat.le_refl _, by simp, .app⟩
    (by
      intro i N hi hI
      obtain ⟨rs, r1, r2, r3, F3⟩ := hI
      have F4 : Frm [] M1 N := Frm.trans .app F3
      have W4 := W.frm F4 (by simp) (by simp) (by simp)
      have hL : N[M1.length]? = some (.lst ((sortI ns).map .int)) := F3.get (by simp) (by simp)
      obtain ⟨p0, p3, v, hv⟩ := k3 _ (sortI_mem (List.getElem_mem hi))
      generalize hp : (sortI ns)[i] = p at *
      have iV : idxP N (.ref s) (.int p) = some (.int v) := by simp only [idxP, W4.s_, keyOf]; exact hv
      refine ⟨.int p, [some (.tup (es.map Ev.pv)), some (.ref w), o2, some (.int p)], by simp [Src.get, lstAt, hL, hi, hp], rfl, ?_⟩
      by_cases hlt : v < ws.many
      · refine .inl ⟨N, (Ev.read p ws.many).pv, N, rs.map Ev.pv, ?_, ?_, by simp [lstAt, r1], by simp; omega, rs ++ [.read p ws.many], ?_, by simp; omega, ?_, F3.wr (by simp)⟩
        · simp [c1_l_ended, evE, iS W4, iM W4, iV, cmpP, hlt]
        · simp [e2_l_ended, evE, evEs, iM W4, Ev.pv, sizeLine]
        · simp [lt_of r1]
        · intro r hr
          rcases List.mem_append.mp hr with hr | hr
          · exact r3 r hr
          · simp at hr; subst hr; exact ⟨⟨p0, p3, hwE.m0⟩, _, _, rfl⟩
      · refine .inr ⟨N, ?_, rs, r1, by omega, r3, F3⟩
        simp [c1_l_ended, evE, iS W4, iM W4, iV, cmpP, hlt])
    (by
      intro N hI
      obtain ⟨rs, r1, r2, r3, F3⟩ := hI
      have hL : N[M1.length]? = some (.lst ((sortI ns).map .int)) := F3.get (by simp) (by simp)
      simp [Src.get, lstAt, hL])
  have hrs : rs.length ≤ 26 := by omega
  obtain ⟨ws', hr'⟩ := run_reads (ws := ws) (fun r hr => (r3 r hr).2)
  refine ⟨es ++ rs, M3, ?_, (F.trans .app).trans F3, ⟨⟨ws', by rw [Ws.run_append, R]; exact hr', (run_ok hwE (fun r hr => (r3 r hr).1) hr').mono (by omega)⟩, by simp; omega, ?_⟩⟩
  · have hsrt : bltP M1 .sorted [.ref s] = some (.ref M1.length, M1 ++ [.lst ((sortI ns).map .int)]) := by
      simp [bltP, W.s_, k1, hnl]
    have hso : srcOf (M1 ++ [.lst ((sortI ns).map .int)]) (.ref M1.length) = some (.lst M1.length) := by simp [srcOf, lstAt]
    have hLC : evE cf (.lc [3] (.name 3) (.seq (.blt .sorted (.cons (.idx (.var 1) (.con (.str "seats"))) .nil))) c1_l_ended e2_l_ended) [some (.tup (es.map Ev.pv)), some (.ref w), o2, none] M1 = some (.ref (M1.length + 1), M3) := by
      have hI : evI cf (.seq (.blt .sorted (.cons (.idx (.var 1) (.con (.str "seats"))) .nil))) [some (.tup (es.map Ev.pv)), some (.ref w), o2, none] M1 = some (.lst M1.length, M1 ++ [.lst ((sortI ns).map .int)]) := by
        simp [evI, evE, evEs, iS W, hsrt, hso]
      have hwp : wipeP [some (PV.tup (es.map Ev.pv)), some (.ref w), o2, none] [3] = [some (.tup (es.map Ev.pv)), some (.ref w), o2, none] := rfl
      rw [evE, hI]
      simp only [hwp, List.length_append, List.length_singleton, e4]
      rfl
    have hT : evE cf (.bop .add (.var 0) (.blt .tuple (.cons (.lc [3] (.name 3) (.seq (.blt .sorted (.cons (.idx (.var 1) (.con (.str "seats"))) .nil))) c1_l_ended e2_l_ended) .nil))) [some (.tup (es.map Ev.pv)), some (.ref w), o2, none] M1 = some (.tup ((es ++ rs).map Ev.pv), M3) := by
      generalize E.lc [3] (.name 3) (.seq (.blt .sorted (.cons (.idx (.var 1) (.con (.str "seats"))) .nil))) c1_l_ended e2_l_ended = q at hLC
      have hsz : es.length + rs.length ≤ 16777216 := by omega
      simp [evE, evEs, hLC, bltP, lstAt, r1, bopP, sizeLine, hsz]
    have hS : srcOf Mw (.tup (es.map Ev.pv)) = some (.tup (es.map Ev.pv)) := rfl
    generalize hb : b3_l_ended = bd at e2
    simp [runD, ir_l_ended, hb, evSs, evS, e1, evI, tgP, evE.eq_1, hS, e2, hT]
  · intro e he
    rcases List.mem_append.mp he with he | he
    · exact h.ok e he
    · exact (r3 e he).1
theorem hen (j : Nat) : HEn (cfN tab (j + 2)) := fun M es h => ended_ok (hm j) h
end Mp

/-! Ml6: comprehensions that leave memory alone; lots. -/
namespace Mp
open PySem L2

theorem lc_pure {src : Src} {bind : PV → Sg → Option Sg} {c e : Sg → Mm → R} {sg : Sg} {M1 : Mm} {xs : List PV} (p : PV → Bool) (g : PV → PV)
    (hs : ∀ acc i, src.get (M1 ++ [.lst acc]) i = some xs[i]?)
    (h : ∀ x ∈ xs, ∀ acc, ∃ sg1, bind x sg = some sg1 ∧ c sg1 (M1 ++ [.lst acc]) = some (.bl (p x), M1 ++ [.lst acc]) ∧ (p x = true → e sg1 (M1 ++ [.lst acc]) = some (g x, M1 ++ [.lst acc]))) (hl : xs.length < 100000) :
    lcL src bind c e M1.length sg bigN 0 (M1 ++ [.lst []]) = some (M1 ++ [.lst ((xs.filter p).map g)]) := by
  obtain ⟨M', h1, h2⟩ := lc_inv (src := src) (bind := bind) (c := c) (e := e) (d := M1.length) (sg := sg) (fun i N => N = M1 ++ [.lst (((xs.take i).filter p).map g)]) (n := xs.length) (M := M1 ++ [.lst []]) hl (by simp)
    (by
      intro i N hi hN
      subst hN
      obtain ⟨sg1, q1, q2, q3⟩ := h xs[i] (List.getElem_mem hi) (((xs.take i).filter p).map g)
      refine ⟨xs[i], sg1, by rw [hs, List.getElem?_eq_getElem hi], q1, ?_⟩
      have hsp : xs.take (i + 1) = xs.take i ++ [xs[i]] := by rw [List.take_succ_eq_append_getElem hi]
      cases hp : p xs[i] with
      | true =>
        rw [hp] at q2
        refine .inl ⟨_, _, _, ((xs.take i).filter p).map g, q2, q3 hp, by simp [lstAt], ?_, ?_⟩
        · have := List.length_filter_le p (xs.take i)
          have h2 : (xs.take i).length ≤ i := by simp; omega
          simp; omega
        · rw [hsp, List.filter_append, List.map_append]; simp [hp]
      | false =>
        rw [hp] at q2
        refine .inr ⟨_, q2, ?_⟩
        rw [hsp, List.filter_append, List.map_append]; simp [hp])
    (by intro N hN; subst hN; rw [hs]; simp)
  rw [List.take_length] at h2
  rw [h1, h2]
def lenAt (M : Mm) (r : Nat) : Nat := match M[r]? with | some (.lst xs) => xs.length | _ => 0
def PD : Ev → Prop
  | .put _ _ => True | .drop _ => True | _ => False
/-- lists of puts and drops, all at once in a list -/
structure Lots (M : Mm) (nl : Nat) (rs : List Nat) : Prop where
  at_ : M[nl]? = some (.lst (rs.map .ref))
  el : ∀ r ∈ rs, ∃ es : List Ev, M[r]? = some (.lst (es.map Ev.pv)) ∧ es ≠ [] ∧ es.length < 1000 ∧ ∀ e ∈ es, EvOk e ∧ PD e
theorem intsOf_map {α : Type} (f : α → Int) : ∀ xs : List α, intsOf (xs.map fun x => PV.int (f x)) = some (xs.map f)
  | [] => rfl
  | x :: xs => by simp [intsOf, intsOf_map f xs]
theorem sum_cast (f : Nat → Nat) : ∀ xs : List Nat, (xs.map fun r => ((f r : Nat) : Int)).sum = ((xs.map f).sum : Nat)
  | [] => rfl
  | x :: xs => by simp [sum_cast f xs]
/-- the lengths summed up -/
theorem sum_ok (cf : CF) {sg : Sg} {M : Mm} {nl i v : Nat} {rs : List Nat} (h : M[nl]? = some (.lst (rs.map .ref))) (hr : ∀ r ∈ rs, ∃ xs, M[r]? = some (.lst xs)) (hl : rs.length < 1000) (hi : sg[i]? = some (some (.ref nl))) (hv : v < sg.length) :
    evE cf (.blt .sum (.cons (.lc [v] (.name v) (.seq (.var i)) (.con (.bl true)) (.blt .len (.cons (.var v) .nil))) .nil)) sg M = some (.int (rs.map (lenAt M)).sum, M ++ [.lst (rs.map fun r => .int (lenAt M r))]) := by
  have hlc := lc_pure (src := .lst nl) (bind := tgP (.name v)) (c := fun sg M => evE cf (.con (.bl true)) sg M) (e := fun sg M => evE cf (.blt .len (.cons (.var v) .nil)) sg M) (sg := wipeP sg [v]) (M1 := M) (xs := rs.map .ref) (fun _ => true) (fun x => match x with | .ref r => .int (lenAt M r) | x => x)
    (by
      intro acc i
      have : (M ++ [Ob.lst acc])[nl]? = some (.lst (rs.map .ref)) := (Frm.app (S := [])).get h (by simp)
      simp [Src.get, lstAt, this])
    (by
      intro x hx acc
      obtain ⟨r, hr1, rfl⟩ := List.mem_map.mp hx
      obtain ⟨xs, hxs⟩ := hr r hr1
      have : (M ++ [Ob.lst acc])[r]? = some (.lst xs) := (Frm.app (S := [])).get hxs (by simp)
      refine ⟨_, rfl, by simp [evE], fun _ => ?_⟩
      have hgv : ((wipeP sg [v]).set v (some (.ref r)))[v]? = some (some (.ref r)) := by simp [wipeP, hv]
      simp [evE, evEs, hgv, bltP, this, lenAt, hxs])
    (by simp; omega)
  have hI : evI cf (.seq (.var i)) sg M = some (.lst nl, M) := by simp [evI, evE, hi, srcOf, lstAt, h]
  have hE : evE cf (.lc [v] (.name v) (.seq (.var i)) (.con (.bl true)) (.blt .len (.cons (.var v) .nil))) sg M = some (.ref M.length, M ++ [.lst (rs.map fun r => .int (lenAt M r))]) := by
    rw [evE, hI]
    have hfl : (rs.map PV.ref).filter (fun _ => true) = rs.map .ref := List.filter_eq_self.mpr (by simp)
    simp only [hlc, hfl, List.map_map]
    rfl
  generalize E.lc [v] (.name v) (.seq (.var i)) (.con (.bl true)) (.blt .len (.cons (.var v) .nil)) = q at hE
  have h3 : intsOf (rs.map fun r => PV.int (lenAt M r)) = some (rs.map fun r => ((lenAt M r : Nat) : Int)) := intsOf_map _ _
  simp [evE, evEs, hE, bltP, lstAt, h3, sum_cast]
theorem lenAt_frm {S : List Nat} {M M' : Mm} (a : Frm S M M') {r : Nat} {xs : List PV} (h : M[r]? = some (.lst xs)) (hs : r ∉ S) : lenAt M' r = lenAt M r := by
  unfold lenAt; rw [a.get h hs, h]

def HLo (cf : CF) : Prop := ∀ (M : Mm) (b nn : Nat) (k : Int) (ks : List Str), Bx M b k → k < 700000000000 → nn ≠ b → M[nn]? = some (.lst (ks.map .str)) → ks.length ≤ 4 → (∀ x ∈ ks, KeyOk x) →
  ∃ (nl : Nat) (rs : List Nat) (M' : Mm), cf i_l_lots [.ref b, .int 6, .ref nn] M = some (.ref nl, M') ∧ Frm [b] M M' ∧ Bx M' b (k + 60) ∧ Lots M' nl rs ∧ rs.length ≤ 4 ∧ (∀ r ∈ rs, M.length ≤ r ∧ r < M'.length) ∧ (rs.map (lenAt M')).sum ≤ 6 ∧ M.length ≤ nl ∧ nl < M'.length
theorem lots_ok {cf : CF} (T : HT cf) {M : Mm} {b nn : Nat} {k : Int} {ks : List Str} (h : Bx M b k) (hk : k < 700000000000) (n4 : nn ≠ b) (hq : M[nn]? = some (.lst (ks.map .str))) (kl : ks.length ≤ 4) (ho : ∀ x ∈ ks, KeyOk x) :
    ∃ (nl : Nat) (rs : List Nat) (M' : Mm), runD cf ir_l_lots [.ref b, .int 6, .ref nn] M = some (.ref nl, M') ∧ Frm [b] M M' ∧ Bx M' b (k + 60) ∧ Lots M' nl rs ∧ rs.length ≤ 4 ∧ (∀ r ∈ rs, M.length ≤ r ∧ r < M'.length) ∧ (rs.map (lenAt M')).sum ≤ 6 ∧ M.length ≤ nl ∧ nl < M'.length := by
  have hbl : b < M.length := by obtain ⟨_, _, _, hb, _⟩ := h; exact lt_of hb
  let I : Nat → Sg → Mm → Prop := fun i sg N => ∃ o4 o5 o6 rs, sg = [some (.ref b), some (.int 6), some (.ref nn), some (.ref M.length), o4, o5, o6, none, none] ∧ Frm [b] M N ∧ Bx N b (k + 15 * i) ∧ Lots N M.length rs ∧ rs.length ≤ i ∧ (∀ r ∈ rs, M.length < r ∧ r < N.length) ∧ (rs.map (lenAt N)).sum ≤ 6
  obtain ⟨sg', M', e2, o4, o5, o6, rs, hsg, F, B, L, rl, rb, rsum⟩ := for_inv (src := .lst nn) (bind := tgP (.name 4)) (body := fun sg M => evSs cf b2_l_lots sg M) I (n := ks.length) (sg := [some (.ref b), some (.int 6), some (.ref nn), some (.ref M.length), none, none, none, none, none]) (M := M ++ [.lst []]) (by omega)
    ⟨none, none, none, [], rfl, .app, h.frm (S := []) .app (by simp) (by omega), ⟨by simp, by simp⟩, by simp, by simp, by simp⟩
    (by
      intro i sg N hi hI
      obtain ⟨o4, o5, o6, rs, rfl, F, B, L, rl, rb, rsum⟩ := hI
      have hnnN : N[nn]? = some (.lst (ks.map .str)) := F.get hq (by simpa using n4)
      have hko : KeyOk ks[i] := ho _ (List.getElem_mem hi)
      generalize hkw : ks[i] = wd at hko
      have src : (Src.lst nn).get N i = some (some (.str wd)) := by simp [Src.get, lstAt, hnnN, hi, hkw]
      let six : List PV := [.str "pd", .str "pd", .str "ppd", .str "pdpd", .str "dpd", .str "pdp"]
      have hbn := F.lt hbl
      obtain ⟨r1, l1, a1, a2, e1, B1⟩ := T (N ++ [Ob.lst six]) b (k + 15 * i) 6 (B.frm (S := []) .app (by simp) (by omega)) (by omega) (by omega) (by omega)
      have g1 : Frm [b] N ((N ++ [Ob.lst six]).set b (Ob.lst l1)) := Frm.trans .app (Frm.set (by simp))
      have hsixl : N.length < ((N ++ [Ob.lst six]).set b (Ob.lst l1)).length := by simp
      have hsix : ((N ++ [Ob.lst six]).set b (Ob.lst l1))[N.length]? = some (.lst six) := by rw [List.getElem?_set_ne (by omega)]; simp
      generalize eN1 : (N ++ [Ob.lst six]).set b (Ob.lst l1) = N1 at *
      have hz : ∃ z : Str, atI six r1 = some (.str z) ∧ 0 < z.length ∧ z.length ≤ 4 := by
        have : r1 = 0 ∨ r1 = 1 ∨ r1 = 2 ∨ r1 = 3 ∨ r1 = 4 ∨ r1 = 5 := by omega
        rcases this with rfl | rfl | rfl | rfl | rfl | rfl
        · exact ⟨"pd", rfl, by decide, by decide⟩
        · exact ⟨"pd", rfl, by decide, by decide⟩
        · exact ⟨"ppd", rfl, by decide, by decide⟩
        · exact ⟨"pdpd", rfl, by decide, by decide⟩
        · exact ⟨"dpd", rfl, by decide, by decide⟩
        · exact ⟨"pdp", rfl, by decide, by decide⟩
      obtain ⟨z, hz1, hz2, hz3⟩ := hz
      have hzi : idxP N1 (.ref N.length) (.int r1) = some (.str z) := by simp only [idxP, hsix]; exact hz1
      -- the comprehension
      have hzs : z.cps.size = z.length := rfl
      let J : Nat → Mm → Prop := fun j N2 => ∃ es : List Ev, N2[N1.length]? = some (.lst (es.map Ev.pv)) ∧ es.length = j ∧ (∀ e ∈ es, EvOk e ∧ PD e) ∧ Bx N2 b (k + 15 * i + 1 + j) ∧ Frm [b] N1 N2
      obtain ⟨N2, e4, es, c1, c2, c3, B2, F2⟩ := lc_inv (src := .str z) (bind := tgP (.name 7)) (c := fun sg M => evE cf (.con (.bl true)) sg M) (e := fun sg M => evE cf e1_l_lots sg M) (d := N1.length) (sg := [some (.ref b), some (.int 6), some (.ref nn), some (.ref M.length), some (.str wd), some (.str z), o6, none, none]) J (n := z.length) (M := N1 ++ [.lst []]) (by omega)
        ⟨[], by simp, rfl, by simp, B1.frm (S := []) .app (by simp) (by omega), .app⟩
        (by
          intro j N2 hj hJ
          obtain ⟨es, c1, c2, c3, B2, F2⟩ := hJ
          have hj' : j < z.cps.size := hj
          generalize hch : (⟨#[z.cps[j]]⟩ : Str) = ch
          refine ⟨.str ch, [some (.ref b), some (.int 6), some (.ref nn), some (.ref M.length), some (.str wd), some (.str z), o6, some (.str ch), none], by simp [Src.get, hj', hch], rfl, ?_⟩
          by_cases hcp : ch = "p"
          · obtain ⟨r5, l5, d1, d2, e5, B5⟩ := T N2 b _ 9 B2 (by omega) (by omega) (by omega)
            have g5 : Frm [b] N2 (N2.set b (.lst l5)) := Frm.set (by simp)
            have hne : N1.length ≠ b := by have := g1.len; omega
            have c1' := g5.get c1 (by simpa using hne)
            refine .inl ⟨N2, (Ev.put wd r5).pv, N2.set b (.lst l5), es.map Ev.pv, by simp [evE], ?_, by simp [lstAt, c1'], by simp; omega, es ++ [.put wd r5], ?_, by simp; omega, ?_, ?_, ?_⟩
            · subst hcp
              simp [e1_l_lots, evE, evEs, cmpP, e5, Ev.pv, sizeLine]
            · simp [lt_of c1]
            · intro e he
              rcases List.mem_append.mp he with he | he
              · exact c3 e he
              · simp at he; subst he; exact ⟨⟨hko, d1, by omega⟩, trivial⟩
            · exact B5.frm (S := [N1.length]) (Frm.set (by simp)) (by simp; omega) (by omega)
            · exact (F2.trans g5).wr (Nat.le_refl _)
          · refine .inl ⟨N2, (Ev.drop wd).pv, N2, es.map Ev.pv, by simp [evE], ?_, by simp [lstAt, c1], by simp; omega, es ++ [.drop wd], ?_, by simp; omega, ?_, ?_, ?_⟩
            · simp [e1_l_lots, evE, evEs, cmpP, hcp, Ev.pv, sizeLine]
            · simp [lt_of c1]
            · intro e he
              rcases List.mem_append.mp he with he | he
              · exact c3 e he
              · simp at he; subst he; exact ⟨hko, trivial⟩
            · have hne : N1.length ≠ b := by have := g1.len; omega
              exact B2.frm (S := [N1.length]) (Frm.set (by simp)) (by simp; omega) (by omega)
            · exact F2.wr (Nat.le_refl _))
        (by intro N2 _; simp [Src.get, hzs])
      have F3 : Frm [b] N N2 := g1.trans F2
      have F4 : Frm [b] N (N2 ++ [.lst (rs.map fun r => .int (lenAt N2 r))]) := F3.trans .app
      have Lat := F3.get L.at_ (by simp; omega)
      have hel : ∀ r ∈ rs, ∃ es : List Ev, N2[r]? = some (.lst (es.map Ev.pv)) ∧ es ≠ [] ∧ es.length < 1000 ∧ ∀ e ∈ es, EvOk e ∧ PD e := by
        intro r hr
        obtain ⟨es', q1, q2⟩ := L.el r hr
        exact ⟨es', F3.get q1 (by have := rb r hr; simp; omega), q2⟩
      have hsum : rs.map (lenAt N2) = rs.map (lenAt N) := List.map_congr_left (by
        intro r hr
        obtain ⟨es', q1, _⟩ := L.el r hr
        exact lenAt_frm F3 q1 (by have := rb r hr; simp; omega))
      have hne1 : N1.length ≠ b := by have := g1.len; omega
      have hML : M.length < N.length := by have := lt_of L.at_; exact this
      have e6 := sum_ok cf (sg := [some (.ref b), some (.int 6), some (.ref nn), some (.ref M.length), some (.str wd), some (.str z), some (.ref N1.length), none, none]) (i := 3) (v := 8) Lat (fun r hr => by obtain ⟨es', q1, _⟩ := hel r hr; exact ⟨_, q1⟩) (by omega) rfl (by simp)
      have hI6 : evE cf (.lc [7] (.name 7) (.seq (.var 5)) (.con (.bl true)) e1_l_lots) [some (.ref b), some (.int 6), some (.ref nn), some (.ref M.length), some (.str wd), some (.str z), o6, none, none] N1 = some (.ref N1.length, N2) := by
        rw [evE]
        have : evI cf (.seq (.var 5)) [some (.ref b), some (.int 6), some (.ref nn), some (.ref M.length), some (.str wd), some (.str z), o6, none, none] N1 = some (.str z, N1) := by simp [evI, evE, srcOf]
        rw [this]
        have hwp : wipeP [some (PV.ref b), some (.int 6), some (.ref nn), some (.ref M.length), some (.str wd), some (.str z), o6, none, none] [7] = [some (.ref b), some (.int 6), some (.ref nn), some (.ref M.length), some (.str wd), some (.str z), o6, none, none] := rfl
        simp only [hwp, e4]; rfl
      have e5 : evE cf (.idx (.lst (.cons (.con (.str "pd")) (.cons (.con (.str "pd")) (.cons (.con (.str "ppd")) (.cons (.con (.str "pdpd")) (.cons (.con (.str "dpd")) (.cons (.con (.str "pdp")) .nil))))))) (.call i_l_take (.cons (.var 0) (.cons (.con (.int 6)) .nil)))) [some (.ref b), some (.int 6), some (.ref nn), some (.ref M.length), some (.str wd), o5, o6, none, none] N = some (.str z, N1) := by
        have e1' : cf i_l_take [.ref b, .int 6] (N ++ [.lst [.str "pd", .str "pd", .str "ppd", .str "pdpd", .str "dpd", .str "pdp"]]) = some (.int r1, N1) := e1
        simp [evE, evEs, sizeLine, e1', hzi]
      generalize hN3 : N2 ++ [.lst (rs.map fun r => .int (lenAt N2 r))] = N3 at *
      have hN23 : Frm [] N2 N3 := by rw [← hN3]; exact .app
      have c1'' : N3[N1.length]? = some (.lst (es.map Ev.pv)) := hN23.get c1 (by simp)
      have Lat3 : N3[M.length]? = some (.lst (rs.map .ref)) := hN23.get Lat (by simp)
      have hN1N3 : N1.length < N3.length := lt_of c1''
      refine ⟨.str wd, [some (.ref b), some (.int 6), some (.ref nn), some (.ref M.length), some (.str wd), o5, o6, none, none], ?_⟩
      have hN3l : N.length ≤ N3.length := F4.len
      by_cases hle : (rs.map (lenAt N)).sum + es.length ≤ 6
      · refine ⟨[some (.ref b), some (.int 6), some (.ref nn), some (.ref M.length), some (.str wd), some (.str z), some (.ref N1.length), none, none], N3.set M.length (.lst (rs.map .ref ++ [.ref N1.length])), src, rfl, ?_, some (.str wd), some (.str z), some (.ref N1.length), rs ++ [N1.length], rfl, (F.trans F4).wr (Nat.le_refl _), ?_, ⟨?_, ?_⟩, by simp; omega, ?_, ?_⟩
        · have hle' : ((rs.map (lenAt N2)).sum : Int) + (es.length : Int) ≤ 6 := by rw [hsum]; omega
          have hc : evE cf (.cmp .le (.bop .add (.blt .sum (.cons (.lc [8] (.name 8) (.seq (.var 3)) (.con (.bl true)) (.blt .len (.cons (.var 8) .nil))) .nil)) (.blt .len (.cons (.var 6) .nil))) (.var 1)) [some (.ref b), some (.int 6), some (.ref nn), some (.ref M.length), some (.str wd), some (.str z), some (.ref N1.length), none, none] N2 = some (.bl true, N3) := by
            generalize E.blt .sum (.cons (.lc [8] (.name 8) (.seq (.var 3)) (.con (.bl true)) (.blt .len (.cons (.var 8) .nil))) .nil) = q at e6
            simp [evE, evEs, e6, bltP, c1'', bopP, cmpP, hle']
          have hap : evE cf (.mth .append (.var 3) (.cons (.var 6) .nil)) [some (.ref b), some (.int 6), some (.ref nn), some (.ref M.length), some (.str wd), some (.str z), some (.ref N1.length), none, none] N3 = some (.non, N3.set M.length (.lst (rs.map .ref ++ [.ref N1.length]))) := by
            have : rs.length < 16777216 := by omega
            simp [evE, evEs, mtOk, mthP, lstAt, Lat3, sizeLine, this]
          simp [b2_l_lots, evSs, evS, tgP, e5, hI6, hc, hap]
        · exact (B2.frm hN23 (by simp) (by show _ ≤ (k + 15 * i + 14); omega)).frm (S := [M.length]) (Frm.set (by simp)) (by simp; omega) (by omega)
        · simp [lt_of Lat3]
        · intro r hr
          have hr' : r ≠ M.length ∧ ∃ es : List Ev, N3[r]? = some (.lst (es.map Ev.pv)) ∧ es ≠ [] ∧ es.length < 1000 ∧ ∀ e ∈ es, EvOk e ∧ PD e := by
            rcases List.mem_append.mp hr with hr | hr
            · obtain ⟨es', q1, q2⟩ := hel r hr
              exact ⟨by have := rb r hr; omega, es', hN23.get q1 (by simp), q2⟩
            · simp at hr; subst hr
              refine ⟨by have := g1.len; omega, es, c1'', ?_, by omega, c3⟩
              intro e0; rw [e0] at c2; simp at c2; omega
          obtain ⟨h1, es', q1, q2⟩ := hr'
          exact ⟨es', by rw [List.getElem?_set_ne (Ne.symm h1)]; exact q1, q2⟩
        · intro r hr
          rcases List.mem_append.mp hr with hr | hr
          · have := rb r hr; simp; omega
          · simp at hr; subst hr; have := g1.len; simp; omega
        · have h1 : ∀ r ∈ rs, lenAt (N3.set M.length (.lst (rs.map .ref ++ [.ref N1.length]))) r = lenAt N r := by
            intro r hr
            obtain ⟨es', q1, _⟩ := L.el r hr
            have q2 := F4.get q1 (by have := rb r hr; simp; omega)
            unfold lenAt
            rw [List.getElem?_set_ne (by have := rb r hr; omega), q1, q2]
          have h2 : lenAt (N3.set M.length (.lst (rs.map .ref ++ [.ref N1.length]))) N1.length = es.length := by
            unfold lenAt
            rw [List.getElem?_set_ne (by have := g1.len; omega), c1'']; simp
          rw [List.map_append, List.map_congr_left h1]
          simp [h2]; omega
      · refine ⟨[some (.ref b), some (.int 6), some (.ref nn), some (.ref M.length), some (.str wd), some (.str z), some (.ref N1.length), none, none], N3, src, rfl, ?_, some (.str wd), some (.str z), some (.ref N1.length), rs, rfl, F.trans F4, B2.frm hN23 (by simp) (by omega), ⟨Lat3, ?_⟩, by omega, ?_, ?_⟩
        · have hle' : ¬ ((rs.map (lenAt N2)).sum : Int) + (es.length : Int) ≤ 6 := by rw [hsum]; omega
          have hc : evE cf (.cmp .le (.bop .add (.blt .sum (.cons (.lc [8] (.name 8) (.seq (.var 3)) (.con (.bl true)) (.blt .len (.cons (.var 8) .nil))) .nil)) (.blt .len (.cons (.var 6) .nil))) (.var 1)) [some (.ref b), some (.int 6), some (.ref nn), some (.ref M.length), some (.str wd), some (.str z), some (.ref N1.length), none, none] N2 = some (.bl false, N3) := by
            generalize E.blt .sum (.cons (.lc [8] (.name 8) (.seq (.var 3)) (.con (.bl true)) (.blt .len (.cons (.var 8) .nil))) .nil) = q at e6
            simp [evE, evEs, e6, bltP, c1'', bopP, cmpP, hle']
          simp [b2_l_lots, evSs, evS, tgP, e5, hI6, hc]
        · intro r hr
          obtain ⟨es', q1, q2⟩ := hel r hr
          exact ⟨es', hN23.get q1 (by simp), q2⟩
        · intro r hr; have := rb r hr; omega
        · have h1 : ∀ r ∈ rs, lenAt N3 r = lenAt N r := by
            intro r hr
            obtain ⟨es', q1, _⟩ := L.el r hr
            exact lenAt_frm F4 q1 (by have := rb r hr; simp; omega)
          rw [List.map_congr_left h1]; exact rsum)
    (by
      intro sg N hI
      obtain ⟨o4, o5, o6, rs, rfl, F, B, L, rl, rb, rsum⟩ := hI
      have hnnN : N[nn]? = some (.lst (ks.map .str)) := F.get hq (by simpa using n4)
      simp [Src.get, lstAt, hnnN])
  subst hsg
  refine ⟨M.length, rs, M', ?_, F, B.frm (S := []) .refl (by simp) (by omega), L, by omega, fun r hr => by have := rb r hr; omega, rsum, Nat.le_refl _, lt_of L.at_⟩
  have hS : srcOf (M ++ [.lst []]) (.ref nn) = some (.lst nn) := by
    have : (M ++ [Ob.lst []])[nn]? = some (.lst (ks.map .str)) := (Frm.app (S := [])).get hq (by simp)
    simp [srcOf, lstAt, this]
  generalize hb : b2_l_lots = bd at e2
  simp [runD, ir_l_lots, hb, evSs, evS, evI, tgP, evE, evEs, sizeLine, hS, e2]
theorem hlo (j : Nat) : HLo (cfN tab (j + 2)) := fun M b nn k ks h hk n4 hq kl ho => lots_ok (ht j) h hk n4 hq kl ho
end Mp

/-! Ml7: beside. -/
namespace Mp
open PySem L2

theorem getD_isSome {kvs : List (Key × PV)} {k : Key} : (getD kvs k).isSome = true ↔ ∃ v, (k, v) ∈ kvs := by
  constructor
  · intro h; obtain ⟨v, hv⟩ := Option.isSome_iff_exists.mp h; exact ⟨v, getD_mem hv⟩
  · rintro ⟨v, hv⟩
    cases hg : getD kvs k with
    | some _ => rfl
    | none =>
      unfold getD at hg
      rw [Option.map_eq_none_iff, List.find?_eq_none] at hg
      exact absurd (by simp) (hg (k, v) hv)
theorem getD_put {kvs : List (Key × PV)} {k k' : Key} {v : PV} (h : k' = k ∨ (getD kvs k').isSome = true) : (getD (putD kvs k v) k').isSome = true := by
  rw [getD_isSome] at h ⊢
  unfold putD
  split
  · rename_i ha
    rcases h with rfl | ⟨v', hv'⟩
    · rw [List.any_eq_true] at ha
      obtain ⟨⟨a, u⟩, h1, h2⟩ := ha
      simp at h2; subst h2
      exact ⟨v, List.mem_map.mpr ⟨(a, u), h1, by simp⟩⟩
    · by_cases e : k' = k
      · exact ⟨v, List.mem_map.mpr ⟨(k', v'), hv', by simp [e]⟩⟩
      · exact ⟨v', List.mem_map.mpr ⟨(k', v'), hv', by simp [e]⟩⟩
  · rcases h with rfl | ⟨v', hv'⟩
    · exact ⟨v, by simp⟩
    · exact ⟨v', by simp [hv']⟩
def EvFit (ws : Ws) : Ev → Prop
  | .save r => (getD ws.seats (.inl r)).isSome = true
  | .load _ c => 0 ≤ c ∧ c < ws.copies.length
  | _ => True
theorem fit_step {ws : Ws} {e : Ev} (h : EvFit ws e) : ∃ ws', ws.step e = some ws' := by
  cases e with
  | save r => obtain ⟨v, hv⟩ := Option.isSome_iff_exists.mp h; exact ⟨_, by simp only [Ws.step, hv]; rfl⟩
  | load r c =>
    have hst : (atI ws.copies c) = some (ws.copies[c.toNat]'(by have := h.2; have := h.1; omega)) := by
      simp only [atI, ixN, if_pos h.1, if_pos h.2]
      exact List.getElem?_eq_getElem (by have := h.2; have := h.1; omega)
    exact ⟨_, by simp only [Ws.step, hst]; rfl⟩
  | _ => exact ⟨_, rfl⟩
def Joined (f : Int) (ws : Ws) : Prop := ∀ p : Int, 0 ≤ p → p < f → (getD ws.seats (.inl p)).isSome = true
theorem step_grow {ws ws' : Ws} {e : Ev} (h : ws.step e = some ws') : (∀ p, (getD ws.seats (.inl p)).isSome = true → (getD ws'.seats (.inl p)).isSome = true) ∧ ws.copies.length ≤ ws'.copies.length := by
  cases e with
  | put k v => cases h; exact ⟨fun p q => q, Nat.le_refl _⟩
  | drop k => cases h; exact ⟨fun p q => q, Nat.le_refl _⟩
  | join r => cases h; exact ⟨fun p q => getD_put (.inr q), Nat.le_refl _⟩
  | read r u => cases h; exact ⟨fun p q => getD_put (.inr q), Nat.le_refl _⟩
  | save r => obtain ⟨v, h1, rfl⟩ := Option.map_eq_some_iff.mp h; exact ⟨fun p q => q, by simp⟩
  | load r c => obtain ⟨v, h1, rfl⟩ := Option.map_eq_some_iff.mp h; exact ⟨fun p q => getD_put (.inr q), Nat.le_refl _⟩
  | wait => cases h; exact ⟨fun p q => q, Nat.le_refl _⟩
theorem fit_keep {ws ws' : Ws} {e e' : Ev} (h : ws.step e = some ws') (hf : EvFit ws e') : EvFit ws' e' := by
  obtain ⟨g1, g2⟩ := step_grow h
  cases e' with
  | save r => exact g1 r hf
  | load r c => exact ⟨hf.1, by have := hf.2; omega⟩
  | _ => trivial
theorem Joined.step {f : Int} {ws ws' : Ws} {e : Ev} (h : Joined f ws) (hs : ws.step e = some ws') : Joined f ws' := fun p a b => (step_grow hs).1 p (h p a b)

def HB (cf : CF) : Prop := ∀ (M : Mm) (b w s c : Nat) (k f : Int) (ws : Ws) (n : Nat), Bx M b k → k < 600000000000 → WAt M w s c ws → WsOk ws n → n < 100000 → b ≠ w → b ≠ s → b ≠ c → 1 ≤ f → f ≤ 4 → Joined f ws →
  ∃ (evs : List Ev) (M' : Mm), cf i_l_beside [.ref b, .ref w, .int f] M = some (.ref M.length, M') ∧ M'[M.length]? = some (.lst (evs.map Ev.pv)) ∧ evs.length ≤ 10 ∧ (∀ e ∈ evs, EvOk e ∧ EvFit ws e) ∧ Frm [b] M M' ∧ Bx M' b (k + 20)
theorem beside_ok {cf : CF} (T : HT cf) {M : Mm} {b w s c : Nat} {k f : Int} {ws : Ws} {n : Nat} (h : Bx M b k) (hk : k < 600000000000) (hw : WAt M w s c ws) (ho : WsOk ws n) (hn : n < 100000) (n1 : b ≠ w) (n2 : b ≠ s) (n3 : b ≠ c) (f1 : 1 ≤ f) (f2 : f ≤ 4) (jo : Joined f ws) :
    ∃ (evs : List Ev) (M' : Mm), runD cf ir_l_beside [.ref b, .ref w, .int f] M = some (.ref M.length, M') ∧ M'[M.length]? = some (.lst (evs.map Ev.pv)) ∧ evs.length ≤ 10 ∧ (∀ e ∈ evs, EvOk e ∧ EvFit ws e) ∧ Frm [b] M M' ∧ Bx M' b (k + 20) := by
  have hbl : b < M.length := by obtain ⟨_, _, _, hb, _⟩ := h; exact lt_of hb
  have wl := lt_of hw.w_
  have sl := lt_of hw.s_
  have cl := lt_of hw.c_
  generalize hm_ : M.length = m at *
  have iS : ∀ {N : Mm}, WAt N w s c ws → idxP N (.ref w) (.str "seats") = some (.ref s) := fun {N} q => by
    have := q.w_; simp [idxP, this, keyOf, getD, wdic]
  have iM : ∀ {N : Mm}, WAt N w s c ws → idxP N (.ref w) (.str "many") = some (.int ws.many) := fun {N} q => by
    have := q.w_; simp [idxP, this, keyOf, getD, wdic]
  have iC : ∀ {N : Mm}, WAt N w s c ws → idxP N (.ref w) (.str "copies") = some (.ref c) := fun {N} q => by
    have := q.w_; simp [idxP, this, keyOf, getD, wdic]
  let I : Nat → Sg → Mm → Prop := fun i sg N => ∃ (o4 o5 : Option PV) (evs : List Ev), sg = [some (.ref b), some (.ref w), some (.int f), some (.ref m), o4, o5, none] ∧ N[m]? = some (.lst (evs.map Ev.pv)) ∧ evs.length ≤ i ∧ (∀ e ∈ evs, EvOk e ∧ EvFit ws e) ∧ Frm [b] M N ∧ Bx N b (k + 2 * i)
  obtain ⟨sg', N, e2, o4, o5, evs, hsg, A, al, ao, F, B⟩ := for_inv (src := .rng 0 f.toNat) (bind := tgP (.name 4)) (body := fun sg M => evSs cf b1_l_beside sg M) I (n := f.toNat) (sg := [some (.ref b), some (.ref w), some (.int f), some (.ref m), none, none, none]) (M := M ++ [.lst []]) (by omega)
    ⟨none, none, [], rfl, by simp [← hm_], by simp, by simp, .app, h.frm (S := []) .app (by simp) (by omega)⟩
    (by
      intro i sg N hi hI
      obtain ⟨o4, o5, evs, rfl, A, al, ao, F, B⟩ := hI
      have W := hw.frm F (by simpa using n1.symm) (by simpa using n2.symm) (by simpa using n3.symm)
      obtain ⟨v0, hv0⟩ := Option.isSome_iff_exists.mp (jo (0 + i) (by omega) (by omega))
      obtain ⟨_, v, e', _, _, hvn⟩ := ho.seats _ (getD_mem hv0)
      cases e'
      have hm1 := ho.m1
      refine ⟨.int (0 + i), [some (.ref b), some (.ref w), some (.int f), some (.ref m), some (.int (0 + i)), o5, none], ?_⟩
      have src : (Src.rng 0 f.toNat).get N i = some (some (.int (0 + i))) := by simp [Src.get, hi]
      generalize hp : (0 + (i : Int)) = p at *
      have iV : ∀ {N : Mm}, WAt N w s c ws → idxP N (.ref s) (.int p) = some (.int v) := fun {N} q => by simp only [idxP, q.s_, keyOf]; exact hv0
      by_cases hg : v < ws.many
      · obtain ⟨r1, l1, a1, a2, e1, B1⟩ := T N b _ 2 B (by omega) (by omega) (by omega)
        have g1 : Frm [b] M (N.set b (.lst l1)) := F.trans (Frm.set (by simp))
        have A1 : (N.set b (.lst l1))[m]? = some (.lst (evs.map Ev.pv)) := by rw [List.getElem?_set_ne (by omega)]; exact A
        generalize N.set b (Ob.lst l1) = N1 at *
        have W1 := hw.frm g1 (by simpa using n1.symm) (by simpa using n2.symm) (by simpa using n3.symm)
        by_cases hr : r1 = 0
        · obtain ⟨r3, l3, c1, c2, e3, B3⟩ := T N1 b _ (ws.many - v) B1 (by omega) (by omega) (by omega)
          have g3 : Frm [b] M (N1.set b (.lst l3)) := g1.trans (Frm.set (by simp))
          have A3 : (N1.set b (.lst l3))[m]? = some (.lst (evs.map Ev.pv)) := by rw [List.getElem?_set_ne (by omega)]; exact A1
          generalize N1.set b (Ob.lst l3) = N3 at *
          refine ⟨[some (.ref b), some (.ref w), some (.int f), some (.ref m), some (.int p), some (.int (ws.many - v)), none], N3.set m (.lst (evs.map Ev.pv ++ [(Ev.read p (v + 1 + r3)).pv])), src, rfl, ?_, some (.int p), some (.int (ws.many - v)), evs ++ [.read p (v + 1 + r3)], rfl, ?_, by simp; omega, ?_, g3.wr (by omega), ?_⟩
          · have hll : evs.length < 16777216 := by omega
            have hmt : mtOk N1 .append (.ref m) = true := by simp [mtOk, lstAt, A1]
            have hmp : mthP N3 .append (.ref m) [(Ev.read p (v + 1 + r3)).pv] = some (.non, N3.set m (.lst (evs.map Ev.pv ++ [(Ev.read p (v + 1 + r3)).pv]))) := by simp [mthP, lstAt, A3, sizeLine, hll]
            simp only [Ev.pv] at hmp ⊢
            simp [b1_l_beside, evSs, evS, evE, evEs, tgP, iS W, iM W, iV W, iS W1, iV W1, bopP, cmpP, hg, e1, hr, hmt, e3, sizeLine, hmp]
          · simp [lt_of A3]
          · intro e he
            rcases List.mem_append.mp he with he | he
            · exact ao e he
            · simp at he; subst he; exact ⟨⟨by omega, by omega, by omega⟩, trivial⟩
          · exact B3.frm (S := [m]) (Frm.set (by simp)) (by simp; omega) (by omega)
        · refine ⟨[some (.ref b), some (.ref w), some (.int f), some (.ref m), some (.int p), some (.int (ws.many - v)), none], N1, src, rfl, ?_, some (.int p), some (.int (ws.many - v)), evs, rfl, A1, by omega, ao, g1, B1.frm (S := []) .refl (by simp) (by omega)⟩
          simp [b1_l_beside, evSs, evS, evE, evEs, tgP, iS W, iM W, iV W, iS W1, iV W1, bopP, cmpP, hg, e1, hr]
      · refine ⟨[some (.ref b), some (.ref w), some (.int f), some (.ref m), some (.int p), some (.int (ws.many - v)), none], N, src, rfl, ?_, some (.int p), some (.int (ws.many - v)), evs, rfl, A, by omega, ao, F, B.frm (S := []) .refl (by simp) (by omega)⟩
        simp [b1_l_beside, evSs, evS, evE, evEs, tgP, iS W, iM W, iV W, bopP, cmpP, hg])
    (by intro sg N _; simp [Src.get])
  subst hsg
  obtain ⟨way, l1, a1, a2, e3, B1⟩ := T N b _ 11 B (by omega) (by omega) (by omega)
  have g1 : Frm [b] M (N.set b (.lst l1)) := F.trans (Frm.set (by simp))
  have A1 : (N.set b (.lst l1))[m]? = some (.lst (evs.map Ev.pv)) := by rw [List.getElem?_set_ne (by omega)]; exact A
  generalize N.set b (Ob.lst l1) = N1 at *
  obtain ⟨p, l2, b1, b2, e4, B2⟩ := T N1 b _ f B1 (by omega) (by omega) (by omega)
  have g2 : Frm [b] M (N1.set b (.lst l2)) := g1.trans (Frm.set (by simp))
  have A2 : (N1.set b (.lst l2))[m]? = some (.lst (evs.map Ev.pv)) := by rw [List.getElem?_set_ne (by omega)]; exact A1
  generalize N1.set b (Ob.lst l2) = N2 at *
  have W2 := hw.frm g2 (by simpa using n1.symm) (by simpa using n2.symm) (by simpa using n3.symm)
  have hro : rngOk f = true := by simp [rngOk]; omega
  have hll : evs.length < 16777216 := by omega
  have hmt : ∀ {N3 : Mm}, N3[m]? = some (.lst (evs.map Ev.pv)) → mtOk N3 .append (.ref m) = true := fun q => by simp [mtOk, lstAt, q]
  have hmp : ∀ {N3 : Mm} (e : Ev), N3[m]? = some (.lst (evs.map Ev.pv)) → mthP N3 .append (.ref m) [e.pv] = some (.non, N3.set m (.lst (evs.map Ev.pv ++ [e.pv]))) := fun e q => by simp [mthP, lstAt, q, sizeLine, hll]
  have fin : ∀ {N3 : Mm} (e : Ev), N3[m]? = some (.lst (evs.map Ev.pv)) → Frm [b] M N3 → Bx N3 b (k + 20) → EvOk e → EvFit ws e → runD cf ir_l_beside [.ref b, .ref w, .int f] M = some (.ref m, N3.set m (.lst (evs.map Ev.pv ++ [e.pv]))) →
      ∃ (evs : List Ev) (M' : Mm), runD cf ir_l_beside [.ref b, .ref w, .int f] M = some (.ref m, M') ∧ M'[m]? = some (.lst (evs.map Ev.pv)) ∧ evs.length ≤ 10 ∧ (∀ e ∈ evs, EvOk e ∧ EvFit ws e) ∧ Frm [b] M M' ∧ Bx M' b (k + 20) := by
    intro N3 e q1 q2 q3 q4 q5 q6
    refine ⟨evs ++ [e], _, q6, by simp [lt_of q1], by simp; omega, ?_, q2.wr (by omega), q3.frm (S := [m]) (Frm.set (by simp)) (by simp; omega) (by omega)⟩
    intro x hx
    rcases List.mem_append.mp hx with hx | hx
    · exact ao x hx
    · simp at hx; subst hx; exact ⟨q4, q5⟩
  have B20 : Bx N2 b (k + 20) := B2.frm (S := []) .refl (by simp) (by omega)
  have plain : runD cf ir_l_beside [.ref b, .ref w, .int f] M = some (.ref m, N2) → ∃ (evs : List Ev) (M' : Mm), runD cf ir_l_beside [.ref b, .ref w, .int f] M = some (.ref m, M') ∧ M'[m]? = some (.lst (evs.map Ev.pv)) ∧ evs.length ≤ 10 ∧ (∀ e ∈ evs, EvOk e ∧ EvFit ws e) ∧ Frm [b] M M' ∧ Bx M' b (k + 20) := fun q =>
    ⟨evs, N2, q, A2, by omega, ao, g2, B20⟩
  generalize hbd : b1_l_beside = bd at e2
  by_cases w0_ : way = 0
  · refine fin .wait A2 g2 B20 trivial trivial ?_
    have := hmp .wait A2
    simp only [Ev.pv] at this ⊢
    simp [runD, ir_l_beside, hbd, evSs, evS, evI, evE, evEs, tgP, setAll, sizeLine, hm_, hro, e2, e3, e4, cmpP, w0_, hmt A2, this]
  by_cases w1_ : way = 1
  · by_cases hc3 : (ws.copies.length : Int) < 3
    · refine fin (.save p) A2 g2 B20 ⟨b1, by omega⟩ (jo p b1 b2) ?_
      have := hmp (.save p) A2
      simp only [Ev.pv] at this ⊢
      simp [runD, ir_l_beside, hbd, evSs, evS, evI, evE, evEs, tgP, setAll, sizeLine, hm_, hro, e2, e3, e4, cmpP, w1_, hmt A2, this, iC W2, bltP, W2.c_, hc3]
    · refine plain ?_
      simp [runD, ir_l_beside, hbd, evSs, evS, evI, evE, evEs, tgP, setAll, sizeLine, hm_, hro, e2, e3, e4, cmpP, w1_, iC W2, bltP, W2.c_, hc3]
  by_cases w2_ : way = 2
  · have fA : Frm [] N2 (N2 ++ [.lst []]) := Frm.app
    have W3 := W2.frm fA (by simp) (by simp) (by simp)
    have q4 : (N2 ++ [.lst []])[N2.length]? = some (.lst []) := by simp
    have q5 := eqP_nil (j := 1) (g := fd) W3.c_ q4 (by intro x hx; obtain ⟨v, rfl, _⟩ := ho.copies x hx; exact Rd.flat trivial) (by omega) (by omega)
    have A3 := fA.get A2 (by simp)
    have g3 : Frm [b] M (N2 ++ [.lst []]) := g2.trans .app
    have B3 := B2.frm fA (by simp) (Int.le_refl _)
    by_cases hne : ws.copies = []
    · refine ⟨evs, N2 ++ [.lst []], ?_, A3, by omega, ao, g3, B3.frm (S := []) .refl (by simp) (by omega)⟩
      rw [hne] at q5
      simp [runD, ir_l_beside, hbd, evSs, evS, evI, evE, evEs, tgP, setAll, sizeLine, hm_, hro, e2, e3, e4, cmpP, w2_, iC W2, q5]
    · have hpos : 0 < ws.copies.length := List.length_pos_iff.mpr hne
      have hcl := ho.cl
      have q5' : eqP (N2 ++ [.lst []]) (.ref c) (.ref N2.length) = some false := by rw [q5]; cases hh : ws.copies with | nil => exact absurd hh hne | cons _ _ => rfl
      have hlc : bltP (N2 ++ [.lst []]) .len [.ref c] = some (.int ws.copies.length, N2 ++ [.lst []]) := by simp only [bltP, W3.c_]
      have iC3 := iC W3
      generalize hN3 : N2 ++ [Ob.lst []] = N3 at *
      obtain ⟨r4, l4, d1, d2, e5, B4⟩ := T N3 b _ ws.copies.length B3 (by omega) (by omega) (by omega)
      have g4 : Frm [b] M (N3.set b (.lst l4)) := g3.trans (Frm.set (by simp))
      have A4 : (N3.set b (.lst l4))[m]? = some (.lst (evs.map Ev.pv)) := by rw [List.getElem?_set_ne (by omega)]; exact A3
      refine fin (.load p r4) A4 g4 (B4.frm (S := []) .refl (by simp) (by omega)) ⟨b1, by omega, d1⟩ ⟨d1, d2⟩ ?_
      have := hmp (.load p r4) A4
      simp only [Ev.pv] at this ⊢
      simp [runD, ir_l_beside, hbd, evSs, evS, evI, evE, evEs, tgP, setAll, sizeLine, hm_, hro, e2, e3, e4, cmpP, w2_, iC W2, hN3, q5', iC3, hlc, e5, hmt A3, this]
  by_cases w3_ : way = 3
  · refine fin (.join p) A2 g2 B20 ⟨b1, by omega⟩ trivial ?_
    have := hmp (.join p) A2
    simp only [Ev.pv] at this ⊢
    simp [runD, ir_l_beside, hbd, evSs, evS, evI, evE, evEs, tgP, setAll, sizeLine, hm_, hro, e2, e3, e4, cmpP, w3_, hmt A2, this]
  refine plain ?_
  simp [runD, ir_l_beside, hbd, evSs, evS, evI, evE, evEs, tgP, setAll, sizeLine, hm_, hro, e2, e3, e4, cmpP, w0_, w1_, w2_, w3_]
theorem hb (j : Nat) : HB (cfN tab (j + 2)) := fun M b w s c k f ws n h hk hw ho hn n1 n2 n3 f1 f2 jo => beside_ok (ht j) h hk hw ho hn n1 n2 n3 f1 f2 jo
end Mp

/-! Ml8: fit. -/
namespace Mp
open PySem L2

theorem lay_str (s : String) : PyData.canLay0 (.str (Str.ofString s)) = true := by
  rw [PyData.canLay0, PyData.strOk, Str.ofString_eq_toList]
  simp only [Array.all_eq_true', List.mem_toArray, List.mem_map, decide_eq_true_eq]
  rintro x ⟨c, _, rfl⟩
  have := c.valid
  rcases this with h | ⟨_, h⟩
  · have : c.toNat < 0xd800 := h
    omega
  · exact h
theorem key_fl {k : Str} (h : KeyOk k) : FlOk (.str k) := by
  obtain ⟨s, hs, rfl⟩ := h
  simp at hs
  rcases hs with rfl | rfl | rfl | rfl <;> exact lay_str _
theorem ev_fl {e : Ev} (h : EvOk e) : ∀ x ∈ PV.str e.word :: e.rest, FlOk x := by
  cases e <;> simp [Ev.word, Ev.rest, FlOk]
  all_goals first | exact lay_str _ | exact ⟨lay_str _, key_fl h.1⟩ | exact ⟨lay_str _, key_fl h⟩
theorem ev_rd {M : Mm} {e : Ev} (h : EvOk e) : Rd 2 M e.pv (.tuple ((.str e.word :: e.rest).map fd)) := by
  rw [e.pv_eq]; exact Rd.tup (fun x hx => Rd.flat (ev_fl h x hx)) (by omega)
/-- what x reads as -/
def dOf (j : Nat) (M : Mm) (x : PV) : PyData := (toD j M x).getD .none
theorem Rd.g {j : Nat} {M : Mm} {x : PV} {d : PyData} (h : Rd j M x d) : Rd j M x (dOf j M x) := by
  have : dOf j M x = d := by unfold dOf; rw [h.to]; rfl
  rw [this]; exact h
theorem whl_inv {c : Sg → Mm → R} {body : Sg → Mm → Option (Fl × Mm)} (I : Nat → Sg → Mm → Prop) (P : Sg → Mm → Prop)
    (turn : ∀ m sg M, I m sg M → (∃ M1, c sg M = some (.bl false, M1) ∧ P sg M1) ∨ (∃ M1 sg2 M2 m', c sg M = some (.bl true, M1) ∧ body sg M1 = some (.nx sg2, M2) ∧ m' < m ∧ I m' sg2 M2)) : ∀ (fuel m : Nat) (sg : Sg) (M : Mm), m < fuel → I m sg M → ∃ sg' M', whlL c body fuel sg M = some (.nx sg', M') ∧ P sg' M'
  | 0, _, _, _, h, _ => by omega
  | fuel + 1, m, sg, M, h, hI => by
    rcases turn m sg M hI with ⟨M1, h1, h2⟩ | ⟨M1, sg2, M2, m', h1, h2, h3, h4⟩
    · exact ⟨sg, M1, by simp only [whlL, h1], h2⟩
    · obtain ⟨sg', M', h5, h6⟩ := whl_inv I P turn fuel m' sg2 M2 (by omega) h4
      exact ⟨sg', M', by simp only [whlL, h1, h2, h5], h6⟩
theorem sum_lt {f g : Nat → Nat} {rs : List Nat} (h : ∀ r ∈ rs, g r ≤ f r) {r0 : Nat} (hr : r0 ∈ rs) (h0 : g r0 + 1 ≤ f r0) : (rs.map g).sum + 1 ≤ (rs.map f).sum := by
  induction rs with
  | nil => cases hr
  | cons a rs ih =>
    have ha := h a (by simp)
    have hle : (rs.map g).sum ≤ (rs.map f).sum := by
      have : ∀ rs : List Nat, (∀ r ∈ rs, g r ≤ f r) → (rs.map g).sum ≤ (rs.map f).sum := by
        intro rs; induction rs with
        | nil => intro _; simp
        | cons b rs ih => intro h; simp; have := h b (by simp); have := ih (fun r hr => h r (by simp [hr])); omega
      exact this rs (fun r hr => h r (by simp [hr]))
    simp only [List.map_cons, List.sum_cons]
    rcases List.mem_cons.mp hr with rfl | hr
    · omega
    · have := ih (fun r hr => h r (by simp [hr])) hr
      omega
theorem sum_filter {f : Nat → Nat} {rs : List Nat} : ((rs.filter fun r => decide (f r ≠ 0)).map f).sum = (rs.map f).sum := by
  induction rs with
  | nil => rfl
  | cons a rs ih =>
    by_cases h : f a = 0
    · rw [List.filter_cons_of_neg (by simp [h]), ih]; simp [h]
    · rw [List.filter_cons_of_pos (by simp [h])]; simp only [List.map_cons, List.sum_cons, ih]

/-- how things stand while a fitting table is made -/
structure Ft (M0 N : Mm) (b : Nat) (f : Int) (nl : Nat) (rs : List Nat) (nf w s c : Nat) (es : List Ev) (ws : Ws) : Prop where
  k : Mkg N nf w s c es ws es.length
  jo : Joined f ws
  la : N[nl]? = some (.lst (rs.map .ref))
  el : ∀ r ∈ rs, ∃ es : List Ev, N[r]? = some (.lst (es.map Ev.pv)) ∧ es.length < 1000 ∧ ∀ e ∈ es, EvOk e ∧ PD e
  fr : Frm [b] M0 N
  bl : b < M0.length
  lo : M0.length ≤ nf ∧ M0.length ≤ w ∧ M0.length ≤ s ∧ M0.length ≤ c ∧ M0.length ≤ nl
  nb : nl ≠ nf ∧ nl ≠ w ∧ nl ≠ s ∧ nl ≠ c
  rb : ∀ r ∈ rs, M0.length ≤ r ∧ r ≠ nf ∧ r ≠ w ∧ r ≠ s ∧ r ≠ c
  cn : nf ≠ c
  rl : rs.length ≤ 4
theorem Ft.frm {M0 N N' : Mm} {b : Nat} {f : Int} {nl : Nat} {rs : List Nat} {nf w s c : Nat} {es : List Ev} {ws : Ws} (h : Ft M0 N b f nl rs nf w s c es ws) (a : Frm [b] N N') : Ft M0 N' b f nl rs nf w s c es ws := by
  have hb := h.bl
  have hl := h.lo
  refine ⟨h.k.frm a (by simp; omega) (by simp; omega) (by simp; omega) (by simp; omega), h.jo, a.get h.la (by simp; omega), ?_, h.fr.trans a, h.bl, h.lo, h.nb, h.rb, h.cn, h.rl⟩
  intro r hr
  obtain ⟨es', q1, q2⟩ := h.el r hr
  have := h.rb r hr
  exact ⟨es', a.get q1 (by simp; omega), q2⟩
theorem Ft.lenAt {M0 N N' : Mm} {b : Nat} {f : Int} {nl : Nat} {rs : List Nat} {nf w s c : Nat} {es : List Ev} {ws : Ws} (h : Ft M0 N b f nl rs nf w s c es ws) (a : Frm [b] N N') : ∀ r ∈ rs, Mp.lenAt N' r = Mp.lenAt N r := by
  intro r hr
  obtain ⟨es', q1, q2⟩ := h.el r hr
  have := h.rb r hr
  have := h.bl
  exact lenAt_frm a q1 (by simp; omega)
theorem Ft.step {M0 N N' : Mm} {b : Nat} {f : Int} {nl : Nat} {rs : List Nat} {nf w s c : Nat} {es : List Ev} {ws ws' : Ws} {e : Ev} (h : Ft M0 N b f nl rs nf w s c es ws) (a : Frm [nf, w, s, c] N N') (hs : ws.step e = some ws') (k' : Mkg N' nf w s c (es ++ [e]) ws' (es.length + 1)) : Ft M0 N' b f nl rs nf w s c (es ++ [e]) ws' := by
  have hb := h.bl
  have hl := h.lo
  refine ⟨by simpa using k', h.jo.step hs, a.get h.la (by have := h.nb; simp; omega), ?_, h.fr.comp a (by simp; omega), h.bl, h.lo, h.nb, h.rb, h.cn, h.rl⟩
  intro r hr
  obtain ⟨es', q1, q2⟩ := h.el r hr
  have := h.rb r hr
  exact ⟨es', a.get q1 (by simp; omega), q2⟩
theorem pd_step {ws : Ws} {e : Ev} (h : PD e) : ∃ ws', ws.step e = some ws' := by cases e <;> first | exact h.elim | exact ⟨_, rfl⟩

/-- the first three lines of a turn -/
theorem fit_pop {cf : CF} (T : HT cf) (H : HM cf) {M0 N : Mm} {b : Nat} {f : Int} {nl : Nat} {rs : List Nat} {nf w s c : Nat} {es : List Ev} {ws : Ws} {k : Int} {o7 o8 o9 : Option PV}
    (h : Ft M0 N b f nl rs nf w s c es ws) (hne : rs ≠ []) (hz : ∀ r ∈ rs, lenAt N r ≠ 0) (B : Bx N b k) (hk : k < 600000000000) (hes : es.length < 100) :
    ∃ (r0 : Nat) (N1 N3 N4 : Mm) (e : Ev) (ws' : Ws),
      evE cf (.idx (.var 4) (.call i_l_take (.cons (.var 0) (.cons (.blt .len (.cons (.var 4) .nil)) .nil)))) [some (.ref b), some (.int 6), some (.int f), some (.int 15), some (.ref nl), some (.ref w), some (.ref nf), o7, o8, o9, none, none] N = some (.ref r0, N1) ∧
      evE cf (.mth .append (.var 6) (.cons (.mth .pop1 (.var 8) (.cons (.con (.int 0)) .nil)) .nil)) [some (.ref b), some (.int 6), some (.int f), some (.int 15), some (.ref nl), some (.ref w), some (.ref nf), o7, some (.ref r0), o9, none, none] N1 = some (.non, N3) ∧
      evE cf (.call i_l_moved (.cons (.var 5) (.cons (.idx (.var 6) (.neg (.con (.int 1)))) .nil))) [some (.ref b), some (.int 6), some (.int f), some (.int 15), some (.ref nl), some (.ref w), some (.ref nf), o7, some (.ref r0), o9, none, none] N3 = some (.non, N4) ∧
      Ft M0 N4 b f nl rs nf w s c (es ++ [e]) ws' ∧ (rs.map (lenAt N4)).sum + 1 ≤ (rs.map (lenAt N)).sum ∧ Bx N4 b (k + 1) := by
  have hb := h.bl
  have hl := h.lo
  have hrl := h.rl
  have hpos : 0 < rs.length := List.length_pos_iff.mpr hne
  obtain ⟨x, l1, a1, a2, e1, B1⟩ := T N b k rs.length B (by omega) (by omega) (by omega)
  have g1 : Frm [b] N (N.set b (.lst l1)) := Frm.set (by simp)
  have F1 := h.frm g1
  have L1 := h.lenAt g1
  generalize N.set b (Ob.lst l1) = N1 at *
  have hxl : x.toNat < rs.length := by omega
  generalize hr0 : rs[x.toNat] = r0
  have hr : r0 ∈ rs := by rw [← hr0]; exact List.getElem_mem hxl
  have hix : idxP N1 (.ref nl) (.int x) = some (.ref r0) := by
    simp only [idxP, F1.la, atI, ixN]
    simp [a1, a2, hxl, hr0]
  obtain ⟨es0, q1, q2, q3⟩ := F1.el r0 hr
  have hrb := h.rb r0 hr
  cases es0 with
  | nil => exfalso; apply hz r0 hr; rw [← L1 r0 hr]; unfold lenAt; rw [q1]; rfl
  | cons e es0 =>
    obtain ⟨ws', hst⟩ := pd_step (ws := ws) (q3 e (by simp)).2
    have heo := (q3 e (by simp)).1
    have F1k := F1.k
    have hnr0 : nl ≠ r0 := by
      intro ee; have := F1.la; rw [ee, q1] at this
      cases hh : rs with
      | nil => exact hne hh
      | cons a b =>
        rw [hh] at this; simp at this; rw [e.pv_eq] at this; cases this.1
    -- pop, append, moved
    have g2 : Frm [r0] N1 (N1.set r0 (.lst (es0.map Ev.pv))) := Frm.set (by simp)
    have Mk2 : Mkg (N1.set r0 (.lst (es0.map Ev.pv))) nf w s c es ws es.length := F1k.frm g2 (by simp; omega) (by simp; omega) (by simp; omega) (by simp; omega)
    have q1' : (N1.set r0 (.lst (es0.map Ev.pv)))[r0]? = some (.lst (es0.map Ev.pv)) := by simp [lt_of q1]
    have hpop : mthP N1 .pop1 (.ref r0) [.int 0] = some (e.pv, N1.set r0 (.lst (es0.map Ev.pv))) := by
      simp [mthP, lstAt, q1, ixN]
    have hpo : mtOk N1 .pop1 (.ref r0) = true := by simp [mtOk, lstAt, q1]
    have hao : mtOk N1 .append (.ref nf) = true := by simp [mtOk, lstAt, F1k.f_]
    have f02 : Frm [b] M0 (N1.set r0 (.lst (es0.map Ev.pv))) := F1.fr.wr (by omega)
    have B2 : Bx (N1.set r0 (.lst (es0.map Ev.pv))) b (k + 1) := B1.frm g2 (by simp; omega) (by omega)
    generalize hN2 : N1.set r0 (.lst (es0.map Ev.pv)) = N2 at *
    have hesl : es.length < 16777216 := by omega
    have hap : mthP N2 .append (.ref nf) [e.pv] = some (.non, N2.set nf (.lst (es.map Ev.pv ++ [e.pv]))) := by
      simp [mthP, lstAt, Mk2.f_, sizeLine, hesl]
    have g3 : Frm [nf] N2 (N2.set nf (.lst (es.map Ev.pv ++ [e.pv]))) := Frm.set (by simp)
    have hf3 : (N2.set nf (.lst (es.map Ev.pv ++ [e.pv])))[nf]? = some (.lst (es.map Ev.pv ++ [e.pv])) := by simp [lt_of Mk2.f_]
    have W3 : WAt (N2.set nf (.lst (es.map Ev.pv ++ [e.pv]))) w s c ws := Mk2.w_.frm g3 (by simp [Mk2.ne.symm]) (by simp [Mk2.ne2.symm]) (by simp [h.cn.symm])
    generalize hN3 : N2.set nf (.lst (es.map Ev.pv ++ [e.pv])) = N3 at *
    have hlast : idxP N3 (.ref nf) (.int (-1)) = some e.pv := by
      have e1 : ixN (es.map Ev.pv ++ [e.pv]).length (-1) = some es.length := by
        simp [ixN]; omega
      simp only [idxP, hf3, atI, e1]
      simp
    obtain ⟨N4, e4, W4, f4, l4⟩ := H N3 w s c ws ws' e W3 hst (by have := F1k.wok.sl; omega) (by have := F1k.wok.cl; omega)
    have hf4 : N4[nf]? = some (.lst ((es ++ [e]).map Ev.pv)) := by
      rw [List.map_append]; exact f4.get hf3 (by simp [F1k.ne, F1k.ne2, h.cn])
    have g24 : Frm [nf, w, s, c] N2 N4 := (g3.mono (by simp)).trans (f4.mono (by simp +contextual))
    refine ⟨r0, N1, N3, N4, e, ws', ?_, ?_, ?_, ⟨⟨hf4, W4, Ws.run_app F1k.run hst, by simp, by simpa using step_ok F1k.wok heo hst, ?_, F1k.ne⟩, h.jo.step hst, ?_, ?_, f02.comp g24 (by simp; omega), h.bl, h.lo, h.nb, h.rb, h.cn, h.rl⟩, ?_, ?_⟩
    · have hlen : bltP N .len [.ref nl] = some (.int rs.length, N) := by simp [bltP, h.la]
      simp [evE, evEs, hlen, e1, hix]
    · simp [evE, evEs, hao, hpo, hpop, hap]
    · simp [evE, evEs, hlast, e4]
    · intro z hz'
      rcases List.mem_append.mp hz' with hz' | hz'
      · exact F1k.ok z hz'
      · simp at hz'; subst hz'; exact heo
    · have := g2.get F1.la (by simpa using hnr0)
      exact g24.get this (by have := h.nb; simp; omega)
    · intro r hr'
      have hrb' := h.rb r hr'
      by_cases er : r = r0
      · subst er
        exact ⟨es0, g24.get q1' (by simp; omega), by simp at q2; omega, fun e he => q3 e (by simp [he])⟩
      · obtain ⟨es', u1, u2⟩ := F1.el r hr'
        exact ⟨es', g24.get (g2.get u1 (by simpa using er)) (by simp; omega), u2⟩
    · refine sum_lt ?_ hr ?_
      · intro r hr'
        have hrb' := h.rb r hr'
        rw [← L1 r hr']
        by_cases er : r = r0
        · subst er
          unfold lenAt
          rw [g24.get q1' (by simp; omega), q1]; simp
        · obtain ⟨es', u1, u2⟩ := F1.el r hr'
          unfold lenAt
          rw [g24.get (g2.get u1 (by simpa using er)) (by simp; omega), u1]; exact Nat.le_refl _
      · rw [← L1 r0 hr]
        unfold lenAt
        rw [g24.get q1' (by simp; omega), q1]; simp
    · exact B2.frm g24 (by simp; omega) (by omega)
/-- the lists that are not spent -/
theorem fit_filter (cf : CF) {M0 N : Mm} {b : Nat} {f : Int} {nl : Nat} {rs : List Nat} {nf w s c : Nat} {es : List Ev} {ws : Ws} {o7 o8 o9 : Option PV}
    (h : Ft M0 N b f nl rs nf w s c es ws) :
    ∃ (rs' : List Nat) (N' : Mm),
      evE cf (.lc [11] (.name 11) (.seq (.var 4)) (.cmp .ne (.var 11) (.lst .nil)) (.var 11)) [some (.ref b), some (.int 6), some (.int f), some (.int 15), some (.ref nl), some (.ref w), some (.ref nf), o7, o8, o9, none, none] N = some (.ref N.length, N') ∧
      Ft M0 N' b f N.length rs' nf w s c es ws ∧ (rs'.map (lenAt N')).sum = (rs.map (lenAt N)).sum ∧ (∀ r ∈ rs', lenAt N' r ≠ 0) ∧ Frm [] N N' := by
  have hb := h.bl
  have hl := h.lo
  have hrl := h.rl
  let nz : Nat → Bool := fun r => decide (lenAt N r ≠ 0)
  let sg0 : Sg := [some (.ref b), some (.int 6), some (.int f), some (.int 15), some (.ref nl), some (.ref w), some (.ref nf), o7, o8, o9, none, none]
  let J : Nat → Mm → Prop := fun j N' => N'[N.length]? = some (.lst (((rs.take j).filter nz).map .ref)) ∧ Frm [] N N'
  obtain ⟨N', e4, r1, F3⟩ := lc_inv (src := .lst nl) (bind := tgP (.name 11)) (c := fun sg M => evE cf (.cmp .ne (.var 11) (.lst .nil)) sg M) (e := fun sg M => evE cf (.var 11) sg M) (d := N.length) (sg := sg0) J (n := rs.length) (M := N ++ [.lst []]) (by omega)
    ⟨by simp, .app⟩
    (by
      intro j N2 hj hJ
      obtain ⟨r1, F3⟩ := hJ
      have hla := F3.get h.la (by simp)
      have hr : rs[j] ∈ rs := List.getElem_mem hj
      have hsp : rs.take (j + 1) = rs.take j ++ [rs[j]] := by rw [List.take_succ_eq_append_getElem hj]
      generalize hrr : rs[j] = r at *
      obtain ⟨es', q1, q2, q3⟩ := h.el r hr
      have q1' := F3.get q1 (by simp)
      have q1'' : (N2 ++ [Ob.lst []])[r]? = some (.lst (es'.map Ev.pv)) := (Frm.app (S := [])).get q1' (by simp)
      have q5 := eqP_nil (j := 2) (g := dOf 2 (N2 ++ [Ob.lst []])) q1'' (show (N2 ++ [Ob.lst []])[N2.length]? = some (.lst []) by simp) (by
        intro x hx
        obtain ⟨e, he, rfl⟩ := List.mem_map.mp hx
        exact (ev_rd (q3 e he).1).g) (by omega) (by omega)
      refine ⟨.ref r, [some (.ref b), some (.int 6), some (.int f), some (.int 15), some (.ref nl), some (.ref w), some (.ref nf), o7, o8, o9, none, some (.ref r)], by simp [Src.get, lstAt, hla, hj, hrr], rfl, ?_⟩
      have r1' : (N2 ++ [Ob.lst []])[N.length]? = some (.lst (((rs.take j).filter nz).map .ref)) := (Frm.app (S := [])).get r1 (by simp)
      have F4 : Frm [] N (N2 ++ [Ob.lst []]) := F3.trans .app
      cases es' with
      | nil =>
        have hnz : nz r = false := by simp [nz, lenAt, q1]
        refine .inr ⟨N2 ++ [Ob.lst []], ?_, ?_, F4⟩
        · simp [evE, evEs, sizeLine, cmpP, q5]
        · rw [hsp, List.filter_append]; simp [hnz]; exact r1'
      | cons e es' =>
        have hnz : nz r = true := by simp [nz, lenAt, q1]
        refine .inl ⟨N2 ++ [Ob.lst []], .ref r, N2 ++ [Ob.lst []], ((rs.take j).filter nz).map .ref, ?_, ?_, by simp [lstAt, r1'], ?_, ?_, F4.wr (Nat.le_refl _)⟩
        · simp [evE, evEs, sizeLine, cmpP, q5]
        · simp [evE]
        · have := List.length_filter_le nz (rs.take j)
          have h2 : (rs.take j).length ≤ j := by simp; omega
          rw [List.length_map]; omega
        · rw [hsp, List.filter_append, List.map_append, List.getElem?_set_self (lt_of r1')]; simp [hnz])
    (by
      intro N2 hJ
      obtain ⟨r1, F3⟩ := hJ
      have hla := F3.get h.la (by simp)
      simp [Src.get, lstAt, hla])
  rw [List.take_length] at r1
  have F3b : Frm [b] N N' := F3.mono (by simp)
  have F' := h.frm F3b
  have L' := h.lenAt F3b
  have hsub : ∀ r ∈ rs.filter nz, r ∈ rs := fun r hr => (List.mem_filter.mp hr).1
  have hNl := lt_of h.k.f_
  have hNw := lt_of h.k.w_.w_
  have hNs := lt_of h.k.w_.s_
  have hNc := lt_of h.k.w_.c_
  have hM := h.fr.len
  refine ⟨rs.filter nz, N', ?_, ⟨F'.k, F'.jo, r1, fun r hr => F'.el r (hsub r hr), F'.fr, h.bl, by omega, by omega, fun r hr => h.rb r (hsub r hr), h.cn, Nat.le_trans (List.length_filter_le _ _) hrl⟩, ?_, ?_, F3⟩
  · rw [evE]
    have hI : evI cf (.seq (.var 4)) sg0 N = some (.lst nl, N) := by simp [evI, evE, sg0, srcOf, lstAt, h.la]
    have hwp : wipeP sg0 [11] = sg0 := rfl
    show (match evI cf (.seq (.var 4)) sg0 N with | some (s, M1) => _ | none => none) = _
    rw [hI]
    exact congrArg (Option.map fun M2 => (PV.ref N.length, M2)) e4
  · rw [List.map_congr_left (fun r hr => L' r (hsub r hr))]
    exact sum_filter
  · intro r hr
    rw [L' r (hsub r hr)]
    have := (List.mem_filter.mp hr).2
    simpa [nz] using this
end Mp

/-! Ml9: a turn of fit, fit, drawn. -/
namespace Mp
open PySem L2

abbrev fitS (b : Nat) (f : Int) (nl w nf : Nat) (o7 o8 o9 : Option PV) : Sg := [some (.ref b), some (.int 6), some (.int f), some (.int 15), some (.ref nl), some (.ref w), some (.ref nf), o7, o8, o9, none, none]
theorem fit_beside {cf : CF} (HBs : HB cf) (H : HM cf) {M0 N : Mm} {b : Nat} {f : Int} {nl : Nat} {rs : List Nat} {nf w s c : Nat} {es : List Ev} {ws : Ws} {k rest : Int} {o7 o8 : Option PV}
    (h : Ft M0 N b f nl rs nf w s c es ws) (B : Bx N b k) (hk : k < 600000000000) (f1 : 1 ≤ f) (f2 : f ≤ 4) (hr : 0 ≤ rest) (hes : es.length + rest ≤ 15) :
    ∃ (es' : List Ev) (ws' : Ws) (N' : Mm) (o7' : Option PV),
      evS cf (.for_ (.name 7) (.seq (.call i_l_beside (.cons (.var 0) (.cons (.var 5) (.cons (.var 2) .nil))))) b1_l_fit) (fitS b f nl w nf o7 o8 (some (.int rest))) N = some (.nx (fitS b f nl w nf o7' o8 (some (.int rest))), N') ∧
      Ft M0 N' b f nl rs nf w s c es' ws' ∧ es'.length + rest ≤ 15 ∧ Bx N' b (k + 20) ∧ (∀ r ∈ rs, lenAt N' r = lenAt N r) := by
  have hb := h.bl
  have hl := h.lo
  obtain ⟨evs, N1, e1, A1, al, ao, F1, B1⟩ := HBs N b w s c k f ws es.length B hk h.k.w_ h.k.wok (by omega) (by omega) (by omega) (by omega) f1 f2 h.jo
  have h1 := h.frm F1
  have L1 := h.lenAt F1
  have hNl := lt_of h.k.f_
  have hNw := lt_of h.k.w_.w_
  have hNs := lt_of h.k.w_.s_
  have hNc := lt_of h.k.w_.c_
  generalize hm_ : N.length = m at *
  let I : Nat → Sg → Mm → Prop := fun i sg N' => ∃ (o7' : Option PV) (es' : List Ev) (ws' : Ws), sg = fitS b f nl w nf o7' o8 (some (.int rest)) ∧ Ft M0 N' b f nl rs nf w s c es' ws' ∧ es'.length + rest ≤ 15 ∧ N'[m]? = some (.lst (evs.map Ev.pv)) ∧ (∀ e ∈ evs, EvOk e ∧ EvFit ws' e) ∧ Bx N' b (k + 20) ∧ (∀ r ∈ rs, lenAt N' r = lenAt N r)
  obtain ⟨sg', N', e2, o7', es', ws', hsg, F, hle, A, ao', B', L'⟩ := for_inv (src := .lst m) (bind := tgP (.name 7)) (body := fun sg M => evSs cf b1_l_fit sg M) I (n := evs.length) (sg := fitS b f nl w nf o7 o8 (some (.int rest))) (M := N1) (by omega)
    ⟨o7, es, ws, rfl, h1, hes, A1, ao, B1, L1⟩
    (by
      intro i sg N2 hi hI
      obtain ⟨o7', es', ws', rfl, F, hle, A, ao', B', L'⟩ := hI
      obtain ⟨he1, he2⟩ := ao' evs[i] (List.getElem_mem hi)
      have src : (Src.lst m).get N2 i = some (some evs[i].pv) := by simp [Src.get, lstAt, A, hi]
      generalize evs[i] = e at *
      obtain ⟨ws2, hst⟩ := fit_step he2
      obtain ⟨Na, Nb, g1, g2, g3, g4, g5⟩ := go_ok H F.k (by omega) he1 hst F.cn
      have hlen : bltP N2 .len [.ref nf] = some (.int es'.length, N2) := by simp [bltP, F.k.f_]
      refine ⟨e.pv, fitS b f nl w nf (some e.pv) o8 (some (.int rest)), ?_⟩
      by_cases hc : (es'.length : Int) + rest + f < 15
      · refine ⟨fitS b f nl w nf (some e.pv) o8 (some (.int rest)), Nb, src, rfl, ?_, some e.pv, es' ++ [e], ws2, rfl, F.step g5 hst g4, by simp; omega, g5.get A (by simp; omega), fun x hx => ⟨(ao' x hx).1, fit_keep hst (ao' x hx).2⟩, B'.frm g5 (by simp; omega) (by omega), ?_⟩
        · simp [b1_l_fit, evSs, evS, evE, evEs, hlen, bopP, cmpP, hc, g1, g2, g3]
        · intro r hr'
          obtain ⟨es0, q1, _⟩ := F.el r hr'
          have := F.rb r hr'
          rw [← L' r hr']
          exact lenAt_frm g5 q1 (by simp; omega)
      · refine ⟨fitS b f nl w nf (some e.pv) o8 (some (.int rest)), N2, src, rfl, ?_, some e.pv, es', ws', rfl, F, hle, A, ao', B', L'⟩
        simp [b1_l_fit, evSs, evS, evE, evEs, hlen, bopP, cmpP, hc])
    (by
      intro sg N2 hI
      obtain ⟨o7', es', ws', rfl, F, hle, A, ao', B', L'⟩ := hI
      simp [Src.get, lstAt, A])
  subst hsg
  refine ⟨es', ws', N', o7', ?_, F, hle, B', L'⟩
  have hS : srcOf N1 (.ref m) = some (.lst m) := by simp [srcOf, lstAt, A1]
  generalize hbd : b1_l_fit = bd at e2
  simp [evS, evI, evE, evEs, e1, hS, e2]
theorem fit_turn {cf : CF} (T : HT cf) (HBs : HB cf) (H : HM cf) {M0 N : Mm} {b : Nat} {f : Int} {nl : Nat} {rs : List Nat} {nf w s c : Nat} {es : List Ev} {ws : Ws} {k : Int} {o7 o8 o9 : Option PV}
    (h : Ft M0 N b f nl rs nf w s c es ws) (hne : rs ≠ []) (hz : ∀ r ∈ rs, lenAt N r ≠ 0) (B : Bx N b k) (hk : k < 500000000000) (f1 : 1 ≤ f) (f2 : f ≤ 4) (hes : es.length + (rs.map (lenAt N)).sum ≤ 15) :
    ∃ (nl' : Nat) (rs' : List Nat) (es' : List Ev) (ws' : Ws) (N' : Mm) (o7' o8' o9' : Option PV),
      evSs cf b2_l_fit (fitS b f nl w nf o7 o8 o9) N = some (.nx (fitS b f nl' w nf o7' o8' o9'), N') ∧
      Ft M0 N' b f nl' rs' nf w s c es' ws' ∧ (∀ r ∈ rs', lenAt N' r ≠ 0) ∧ es'.length + (rs'.map (lenAt N')).sum ≤ 15 ∧ (rs'.map (lenAt N')).sum < (rs.map (lenAt N)).sum ∧ Bx N' b (k + 30) := by
  obtain ⟨r0, N1, N3, N4, e, ws1, p1, p2, p3, F4, s4, B4⟩ := fit_pop T H (o7 := o7) (o8 := o8) (o9 := o9) h hne hz B (by omega) (by omega)
  obtain ⟨rs', N5, p4, F5, s5, z5, g5⟩ := fit_filter cf (o7 := o7) (o8 := some (.ref r0)) (o9 := o9) F4
  have B5 := B4.frm g5 (by simp) (Int.le_refl _)
  have p5 := sum_ok cf (sg := fitS b f N4.length w nf o7 (some (.ref r0)) o9) (i := 4) (v := 11) F5.la (fun r hr => by obtain ⟨es', q1, _⟩ := F5.el r hr; exact ⟨_, q1⟩) (by have := F5.rl; omega) rfl (by simp)
  have g6 : Frm [b] N5 (N5 ++ [.lst (rs'.map fun r => .int (lenAt N5 r))]) := .app
  have F6 := F5.frm g6
  have L6 := F5.lenAt g6
  have B6 : Bx (N5 ++ [.lst (rs'.map fun r => .int (lenAt N5 r))]) b (k + 1) := B5.frm (S := []) .app (by simp) (Int.le_refl _)
  generalize hN6 : N5 ++ [.lst (rs'.map fun r => .int (lenAt N5 r))] = N6 at *
  obtain ⟨es', ws', N', o7', p6, F7, hle, B7, L7⟩ := fit_beside HBs H (rest := (rs'.map (lenAt N5)).sum) (o7 := o7) (o8 := some (.ref r0)) F6 B6 (by omega) f1 f2 (by omega) (by simp; omega)
  have hlen : (rs'.map (lenAt N')).sum = (rs'.map (lenAt N5)).sum := by
    rw [List.map_congr_left (fun r hr => (L7 r hr).trans (L6 r hr))]
  refine ⟨N4.length, rs', es', ws', N', o7', some (.ref r0), some (.int (rs'.map (lenAt N5)).sum), ?_, F7, ?_, by rw [hlen]; omega, by rw [hlen]; omega, B7.frm (S := []) .refl (by simp) (by omega)⟩
  · generalize hf_ : S.for_ (.name 7) (.seq (.call i_l_beside (.cons (.var 0) (.cons (.var 5) (.cons (.var 2) .nil))))) b1_l_fit = fo at p6
    simp only [b2_l_fit, hf_, evSs]
    rw [evS, p1]
    simp only [tgP, Option.map_some, List.set]
    rw [evS, p2]
    simp only
    rw [evS, p3]
    simp only
    rw [evS, p4]
    simp only [tgP, Option.map_some, List.set]
    rw [evS, p5]
    simp only [tgP, Option.map_some, List.set, p6]
  · intro r hr
    rw [L7 r hr, L6 r hr]; exact z5 r hr
theorem run_joins {es : List Ev} : ∀ {ws ws' : Ws}, ws.run es = some ws' → (∀ p, (getD ws.seats (.inl p)).isSome = true → (getD ws'.seats (.inl p)).isSome = true) ∧ ∀ r, Ev.join r ∈ es → (getD ws'.seats (.inl r)).isSome = true := by
  induction es with
  | nil => intro ws ws' h; cases h; exact ⟨fun _ q => q, by simp⟩
  | cons e es ih =>
    intro ws ws' h
    obtain ⟨w, h1, h2⟩ := Option.bind_eq_some_iff.mp h
    obtain ⟨a, b⟩ := ih h2
    refine ⟨fun p q => a p ((step_grow h1).1 p q), ?_⟩
    intro r hr
    rcases List.mem_cons.mp hr with rfl | hr
    · cases h1; exact a r (getD_put (.inl rfl))
    · exact b r hr
end Mp

/-! Ml10: fit, drawn. -/
namespace Mp
open PySem L2

def joins (n : Nat) : List Ev := (List.range n).map fun (i : Nat) => Ev.join (0 + (i : Int))
theorem joins_ok {n : Nat} (h : n ≤ 4) : ∀ e ∈ joins n, EvOk e := by
  intro e he
  obtain ⟨i, hi, rfl⟩ := List.mem_map.mp he
  have := List.mem_range.mp hi
  exact ⟨by omega, by omega⟩
def HF (cf : CF) : Prop := ∀ (M : Mm) (b : Nat) (k f : Int), Bx M b k → k < 400000000000 → 1 ≤ f → f ≤ 3 → 
  ∃ (es : List Ev) (M' : Mm), cf i_l_fit [.ref b, .int 6, .int f, .int 15] M = some (.tup (es.map Ev.pv), M') ∧ Frm [b] M M' ∧ Bx M' b (k + 400) ∧ TbOk es 52
theorem fit_ok {cf : CF} (T : HT cf) (HL : HLo cf) (HBs : HB cf) (H : HM cf) (HN : HEn cf) {M : Mm} {b : Nat} {k f : Int} (h : Bx M b k) (hk : k < 400000000000) (f1 : 1 ≤ f) (f2 : f ≤ 3) :
    ∃ (es : List Ev) (M' : Mm), runD cf ir_l_fit [.ref b, .int 6, .int f, .int 15] M = some (.tup (es.map Ev.pv), M') ∧ Frm [b] M M' ∧ Bx M' b (k + 400) ∧ TbOk es 52 := by
  have hbl : b < M.length := by obtain ⟨_, _, _, hb, _⟩ := h; exact lt_of hb
  let sg0 : Sg := [some (.ref b), some (.int 6), some (.int f), some (.int 15), none, none, none, none, none, none, none, none]
  let abc : List PV := [.str "a", .str "b", .str "cc"]
  -- the names
  have eN0 : ∃ ks : List Str, evE cf (.slc false true (.lst (.cons (.con (.str "a")) (.cons (.con (.str "b")) (.cons (.con (.str "cc")) .nil)))) (.con .non) (.bop .sub (.bop .fdiv (.var 1) (.con (.int 2))) (.blt .int (.cons (.cmp .eq (.var 2) (.con (.int 3))) .nil)))) sg0 M = some (.ref (M.length + 1), M ++ [Ob.lst abc] ++ [Ob.lst (ks.map .str)]) ∧ ks.length ≤ 4 ∧ ∀ x ∈ ks, KeyOk x := by
    by_cases hf : f = 3
    · refine ⟨["a", "b"], ?_, by decide, by intro x hx; simp at hx; rcases hx with rfl | rfl <;> exact ⟨_, by simp, rfl⟩⟩
      have hc2 : cutP abc none (some 2) = (([("a" : Str), "b"] : List Str).map PV.str) := rfl
      simp [evE, evEs, sg0, sizeLine, bopP, cmpP, bltP, hf, slcP, optI, lstAt]
      exact ⟨rfl, hc2⟩
    · refine ⟨["a", "b", "cc"], ?_, by decide, by intro x hx; simp at hx; rcases hx with rfl | rfl | rfl <;> exact ⟨_, by simp, rfl⟩⟩
      have hc3 : cutP abc none (some 3) = (([("a" : Str), "b", "cc"] : List Str).map PV.str) := rfl
      simp [evE, evEs, sg0, sizeLine, bopP, cmpP, bltP, hf, slcP, optI, lstAt]
      exact ⟨rfl, hc3⟩
  obtain ⟨ks, eN, kl4, kok⟩ := eN0
  have gA : Frm [b] M (M ++ [Ob.lst abc] ++ [Ob.lst (ks.map .str)]) := Frm.trans .app .app
  have hA : (M ++ [Ob.lst abc] ++ [Ob.lst (ks.map .str)])[M.length + 1]? = some (.lst (ks.map .str)) := by
    rw [List.getElem?_append_right (by simp)]; simp
  have BA : Bx (M ++ [Ob.lst abc] ++ [Ob.lst (ks.map .str)]) b k := h.frm (S := []) (Frm.trans .app .app) (by simp) (Int.le_refl _)
  generalize hMa : M ++ [Ob.lst abc] ++ [Ob.lst (ks.map .str)] = Ma at *
  obtain ⟨nl, rs, Mb, eL, FL, BL, L, rl, rb, rsum, nl1, nl2⟩ := HL Ma b (M.length + 1) k ks BA (by omega) (by omega) hA kl4 kok
  have gB : Frm [b] M Mb := gA.trans FL
  have hMaM : M.length ≤ Ma.length := gA.len
  have hMbM : Ma.length ≤ Mb.length := FL.len
  -- the state, the joins
  let sg1 : Sg := [some (.ref b), some (.int 6), some (.int f), some (.int 15), some (.ref nl), none, none, none, none, none, none, none]
  obtain ⟨Mc, e1, W1, fc, lc⟩ := wE_ok cf sg1 Mb
  have hlc := lc_pure (src := .rng 0 f.toNat) (bind := tgP (.name 10)) (c := fun sg M => evE cf (.con (.bl true)) sg M) (e := fun sg M => evE cf e4_l_fit sg M) (sg := sg1) (M1 := Mc) (xs := (List.range f.toNat).map fun (i : Nat) => PV.int (0 + (i : Int))) (fun _ => true) (fun x => .tup [.str "join", x])
    (by
      intro acc i
      by_cases hi : i < f.toNat
      · simp [Src.get, hi]
      · simp [Src.get, hi])
    (by
      intro x hx acc
      refine ⟨_, rfl, by simp [evE], fun _ => ?_⟩
      simp [e4_l_fit, evE, evEs, sg1, sizeLine])
    (by simp; omega)
  have hfl : ((List.range f.toNat).map fun (i : Nat) => PV.int (0 + (i : Int))).filter (fun _ => true) = ((List.range f.toNat).map fun (i : Nat) => PV.int (0 + (i : Int))) := List.filter_eq_self.mpr (by simp)
  rw [hfl, List.map_map] at hlc
  have hjp : ((List.range f.toNat).map ((fun x => PV.tup [.str "join", x]) ∘ fun (i : Nat) => PV.int (0 + (i : Int)))) = (joins f.toNat).map Ev.pv := by simp [joins, Ev.pv, Function.comp_def]
  rw [hjp] at hlc
  have hro : rngOk f = true := by simp [rngOk]; omega
  have eLC : evE cf (.lc [10] (.name 10) (.rng1 (.var 2)) (.con (.bl true)) e4_l_fit) sg1 Mc = some (.ref Mc.length, Mc ++ [.lst ((joins f.toNat).map Ev.pv)]) := by
    rw [evE]
    have hI : evI cf (.rng1 (.var 2)) sg1 Mc = some (.rng 0 f.toNat, Mc) := by simp [evI, evE, sg1, hro]
    rw [hI]
    exact congrArg (Option.map fun M2 => (PV.ref Mc.length, M2)) hlc
  have eT : evE cf (.tup (.cons wE (.cons (.lc [10] (.name 10) (.rng1 (.var 2)) (.con (.bl true)) e4_l_fit) .nil))) sg1 Mb = some (.tup [.ref Mb.length, .ref Mc.length], Mc ++ [.lst ((joins f.toNat).map Ev.pv)]) := by
    generalize E.lc [10] (.name 10) (.rng1 (.var 2)) (.con (.bl true)) e4_l_fit = q at eLC
    generalize wE = q2 at e1
    simp [evE, evEs, e1, eLC, sizeLine]
  have hnf : (Mc ++ [Ob.lst ((joins f.toNat).map Ev.pv)])[Mc.length]? = some (.lst ((joins f.toNat).map Ev.pv)) := by simp
  have fd_ : Frm [] Mc (Mc ++ [Ob.lst ((joins f.toNat).map Ev.pv)]) := .app
  have W2 := W1.frm fd_ (by simp) (by simp) (by simp)
  have gD : Frm [] Mb (Mc ++ [Ob.lst ((joins f.toNat).map Ev.pv)]) := fc.trans .app
  generalize hMd : Mc ++ [Ob.lst ((joins f.toNat).map Ev.pv)] = Md at *
  have hMcl : Mc.length = Mb.length + 3 := lc
  generalize hnf_ : Mc.length = nf at *
  generalize hw_ : Mb.length = w at *
  generalize hs_ : w + 1 = s at *
  generalize hc_ : w + 2 = c at *
  -- joined
  have hjl : (joins f.toNat).length = f.toNat := by simp [joins]
  have hjo := joins_ok (n := f.toNat) (by omega)
  let I : Nat → Sg → Mm → Prop := fun i sg N => ∃ (o7 : Option PV) (ws : Ws), sg = fitS b f nl w nf o7 none none ∧ w0.run ((joins f.toNat).take i) = some ws ∧ WAt N w s c ws ∧ Frm [w, s, c] Md N
  obtain ⟨sg', Me, e2, o7, ws, hsg, R, We, Fe⟩ := for_inv (src := .lst nf) (bind := tgP (.name 7)) (body := fun sg M => evSs cf b3_l_fit sg M) I (n := f.toNat) (sg := fitS b f nl w nf none none none) (M := Md) (by omega)
    ⟨none, w0, rfl, rfl, W2, .refl⟩
    (by
      intro i sg N hi hI
      obtain ⟨o7, ws, rfl, R, W, F⟩ := hI
      have hi' : i < (joins f.toNat).length := by omega
      have hsp : (joins f.toNat).take (i + 1) = (joins f.toNat).take i ++ [(joins f.toNat)[i]] := by rw [List.take_succ_eq_append_getElem hi']
      have hjn : (joins f.toNat)[i] = .join (0 + i) := by simp [joins]
      have hN := F.get hnf (by simp; omega)
      have hwo := run_ok w0_ok (fun e he => hjo e (List.mem_of_mem_take he)) R
      have hl2 : ((joins f.toNat).take i).length ≤ i := by simp; omega
      obtain ⟨N1, e3, W3, f3, l3⟩ := H N w s c ws _ (.join (0 + i)) W rfl (by have := hwo.sl; omega) (by have := hwo.cl; omega)
      refine ⟨(Ev.join (0 + i)).pv, fitS b f nl w nf (some (Ev.join (0 + i)).pv) none none, fitS b f nl w nf (some (Ev.join (0 + i)).pv) none none, N1, ?_, rfl, ?_, _, _, rfl, ?_, W3, F.trans f3⟩
      · simp [Src.get, lstAt, hN, hi', hjn]
      · generalize (Ev.join (0 + i)).pv = jp at e3 ⊢
        simp [b3_l_fit, evSs, evS, evE, evEs, e3]
      · rw [hsp, Ws.run_append, R, hjn]; rfl)
    (by
      intro sg N hI
      obtain ⟨o7, ws, rfl, R, W, F⟩ := hI
      have hN := F.get hnf (by simp; omega)
      simp [Src.get, lstAt, hN, hjl])
  rw [show (joins f.toNat).take f.toNat = joins f.toNat from List.take_of_length_le (by omega)] at R
  subst hsg
  have hJ : Joined f ws := fun p p0 p1 => (run_joins R).2 p (List.mem_map.mpr ⟨p.toNat, List.mem_range.mpr (by omega), by congr 1; omega⟩)
  have hwo := run_ok w0_ok hjo R
  have FtE : Ft M Me b f nl rs nf w s c (joins f.toNat) ws := by
    refine ⟨⟨Fe.get hnf (by simp; omega), We, R, Nat.le_refl _, hwo.mono (by omega), hjo, by omega⟩, hJ, Fe.get (gD.get L.at_ (by simp)) (by simp; omega), ?_, (gB.trans (gD.mono (by simp))).comp Fe (by simp; omega), hbl, by omega, by omega, ?_, by omega, rl⟩
    · intro r hr
      obtain ⟨es', q1, q2, q3⟩ := L.el r hr
      have := rb r hr
      exact ⟨es', Fe.get (gD.get q1 (by simp)) (by simp; omega), q3⟩
    · intro r hr
      have := rb r hr
      omega
  have hlens : ∀ r ∈ rs, lenAt Me r = lenAt Mb r := by
    intro r hr
    obtain ⟨es', q1, q2, q3⟩ := L.el r hr
    have := rb r hr
    rw [lenAt_frm Fe (gD.get q1 (by simp)) (by simp; omega), lenAt_frm gD q1 (by simp)]
  have hnz : ∀ r ∈ rs, lenAt Me r ≠ 0 := by
    intro r hr
    rw [hlens r hr]
    obtain ⟨es', q1, q2, q3⟩ := L.el r hr
    unfold lenAt; rw [q1]
    simpa using q2
  have BE : Bx Me b (k + 60) := (BL.frm gD (by simp) (Int.le_refl _)).frm Fe (by simp; omega) (Int.le_refl _)
  -- the while
  let P : Sg → Mm → Prop := fun sg N => ∃ (nl : Nat) (rs : List Nat) (es : List Ev) (ws : Ws) (o7 o8 o9 : Option PV), sg = fitS b f nl w nf o7 o8 o9 ∧ Ft M N b f nl rs nf w s c es ws ∧ es.length ≤ 15 ∧ Bx N b (k + 300)
  let J : Nat → Sg → Mm → Prop := fun m sg N => ∃ (nl : Nat) (rs : List Nat) (es : List Ev) (ws : Ws) (o7 o8 o9 : Option PV), sg = fitS b f nl w nf o7 o8 o9 ∧ Ft M N b f nl rs nf w s c es ws ∧ (∀ r ∈ rs, lenAt N r ≠ 0) ∧ es.length + m ≤ 15 ∧ m = (rs.map (lenAt N)).sum ∧ m ≤ 6 ∧ Bx N b (k + 300 - 30 * m)
  obtain ⟨sg', M1, eW, nl', rs', es, wsF, o7', o8', o9', hsg, FtF, hes, BF⟩ := whl_inv (c := fun sg M => evE cf (.cmp .ne (.var 4) (.lst .nil)) sg M) (body := fun sg M => evSs cf b2_l_fit sg M) J P
    (by
      intro m sg N hJ
      obtain ⟨nl, rs, es, ws, o7, o8, o9, rfl, F, hz, hle, hm, hm8, B⟩ := hJ
      have fA : Frm [b] N (N ++ [.lst []]) := .app
      have F1 := F.frm fA
      have L1 := F.lenAt fA
      have B1 : Bx (N ++ [.lst []]) b (k + 300 - 30 * m) := B.frm (S := []) .app (by simp) (Int.le_refl _)
      have q5 := eqP_nil (j := 3) (g := dOf 3 (N ++ [Ob.lst []])) F1.la (show (N ++ [Ob.lst []])[N.length]? = some (.lst []) by simp) (by
        intro x hx
        obtain ⟨r, hr, rfl⟩ := List.mem_map.mp hx
        obtain ⟨es0, u1, u2, u3⟩ := F1.el r hr
        exact (Rd.lst (k := 2) (g := dOf 2 (N ++ [Ob.lst []])) u1 (by
          intro y hy
          obtain ⟨e, he, rfl⟩ := List.mem_map.mp hy
          exact (ev_rd (u3 e he).1).g) (by omega)).g) (by omega) (by omega)
      by_cases hne : rs = []
      · refine .inl ⟨N ++ [.lst []], ?_, nl, rs, es, ws, o7, o8, o9, rfl, F1, by omega, B1.frm (S := []) .refl (by simp) (by omega)⟩
        rw [hne] at q5
        simp [evE, evEs, sizeLine, cmpP, q5]
      · have hz1 : ∀ r ∈ rs, lenAt (N ++ [.lst []]) r ≠ 0 := fun r hr => by rw [L1 r hr]; exact hz r hr
        have hsm : (rs.map (lenAt (N ++ [.lst []]))).sum = m := by rw [List.map_congr_left L1, hm]
        obtain ⟨nl', rs', es', ws', N', o7', o8', o9', t1, t2, t3, t4, t5, t6⟩ := fit_turn T HBs H (o7 := o7) (o8 := o8) (o9 := o9) F1 hne hz1 B1 (by omega) f1 (by omega) (by rw [hsm]; exact hle)
        rw [hsm] at t5
        refine .inr ⟨N ++ [.lst []], _, N', _, ?_, t1, t5, nl', rs', es', ws', o7', o8', o9', rfl, t2, t3, t4, rfl, by omega, t6.frm (S := []) .refl (by simp) (by omega)⟩
        have q5' : eqP (N ++ [.lst []]) (.ref nl) (.ref N.length) = some false := by
          rw [q5]; cases hh : rs with | nil => exact absurd hh hne | cons _ _ => rfl
        simp [evE, evEs, sizeLine, cmpP, q5'])
    bigN (rs.map (lenAt Me)).sum (fitS b f nl w nf o7 none none) Me (by rw [List.map_congr_left hlens]; unfold bigN; omega)
    ⟨nl, rs, joins f.toNat, ws, o7, none, none, rfl, FtE, hnz, by rw [List.map_congr_left hlens]; omega, rfl, by rw [List.map_congr_left hlens]; omega, BE.frm (S := []) .refl (by simp) (by rw [List.map_congr_left hlens]; omega)⟩
  subst hsg
  have hTb : TbOk es 26 := ⟨⟨wsF, FtF.k.run, FtF.k.wok.mono (by omega)⟩, by omega, FtF.k.ok⟩
  obtain ⟨es', M2, eE, gE, hTb'⟩ := HN M1 es hTb
  refine ⟨es', M2, ?_, FtF.fr.trans (gE.mono (by simp)), BF.frm gE (by simp) (by omega), hTb'⟩
  have hret : evE cf (.call i_l_ended (.cons (.blt .tuple (.cons (.var 6) .nil)) .nil)) (fitS b f nl' w nf o7' o8' o9') M1 = some (.tup (es'.map Ev.pv), M2) := by
    simp [evE, evEs, bltP, lstAt, FtF.k.f_, eE]
  have hcall : evE cf (.call i_l_lots (.cons (.var 0) (.cons (.var 1) (.cons (.slc false true (.lst (.cons (.con (.str "a")) (.cons (.con (.str "b")) (.cons (.con (.str "cc")) .nil)))) (.con .non) (.bop .sub (.bop .fdiv (.var 1) (.con (.int 2))) (.blt .int (.cons (.cmp .eq (.var 2) (.con (.int 3))) .nil)))) .nil)))) sg0 M = some (.ref nl, Mb) := by
    generalize E.slc false true (.lst (.cons (.con (.str "a")) (.cons (.con (.str "b")) (.cons (.con (.str "cc")) .nil)))) (.con .non) (.bop .sub (.bop .fdiv (.var 1) (.con (.int 2))) (.blt .int (.cons (.cmp .eq (.var 2) (.con (.int 3))) .nil))) = q at eN
    have eN2 : evE cf q [some (.ref b), some (.int 6), some (.int f), some (.int 15), none, none, none, none, none, none, none, none] M = some (.ref (M.length + 1), Ma) := eN
    show evE cf _ [some (.ref b), some (.int 6), some (.int f), some (.int 15), none, none, none, none, none, none, none, none] M = _
    simp [evE, evEs, eN2, eL]
  have hS : srcOf Md (.ref nf) = some (.lst nf) := by simp [srcOf, lstAt, hnf]
  have hfor : evS cf (.for_ (.name 7) (.seq (.var 6)) b3_l_fit) (fitS b f nl w nf none none none) Md = some (.nx (fitS b f nl w nf o7 none none), Me) := by
    generalize hb3 : b3_l_fit = bd at e2
    simp [evS, evI, evE, hS, e2]
  have hwhl : evS cf (.whl (.cmp .ne (.var 4) (.lst .nil)) b2_l_fit) (fitS b f nl w nf o7 none none) Me = some (.nx (fitS b f nl' w nf o7' o8' o9'), M1) := by
    rw [evS]; exact eW
  show (if _ then _ else _) = _
  rw [if_pos (show [PV.ref b, PV.int 6, PV.int f, PV.int 15].length = ir_l_fit.np from rfl)]
  show (match evSs cf ir_l_fit.body sg0 M with | some (.ret v, M1) => _ | some (.nx _, M1) => _ | _ => _) = _
  simp only [ir_l_fit, evSs]
  rw [evS, hcall]
  simp only [tgP, Option.map_some]
  rw [evS]
  rw [show sg0.set 4 (some (.ref nl)) = sg1 from rfl, eT]
  simp only [tgP, setAll, Option.map_some]
  rw [show (sg1.set 5 (some (.ref w))).set 6 (some (.ref nf)) = fitS b f nl w nf none none none from rfl, hfor]
  simp only [hwhl]
  rw [evS, hret]
theorem hf (j : Nat) : HF (cfN tab (j + 3)) := fun M b k f h hk f1 f2 => fit_ok (ht (j + 1)) (hlo j) (hb j) (hm (j + 1)) (hen j) h hk f1 f2
def HD (cf : CF) : Prop := ∀ (M : Mm) (b : Nat) (k : Int), Bx M b k → k < 300000000000 →
  ∃ (es : List Ev) (M' : Mm), cf i_l_drawn [.ref b, .int 6] M = some (.tup (es.map Ev.pv), M') ∧ Frm [b] M M' ∧ Bx M' b (k + 500) ∧ TbOk es 52
theorem drawn_ok {cf : CF} (T : HT cf) (O : HO cf) (HFt : HF cf) (Tb : HTb cf) (HN : HEn cf) {M : Mm} {b : Nat} {k : Int} (h : Bx M b k) (hk : k < 300000000000) :
    ∃ (es : List Ev) (M' : Mm), runD cf ir_l_drawn [.ref b, .int 6] M = some (.tup (es.map Ev.pv), M') ∧ Frm [b] M M' ∧ Bx M' b (k + 500) ∧ TbOk es 52 := by
  have hbl : b < M.length := by obtain ⟨_, _, _, hb, _⟩ := h; exact lt_of hb
  obtain ⟨r1, l1, a1, a2, e1, B1⟩ := T M b k 2 h (by omega) (by omega) (by omega)
  have g1 : Frm [b] M (M.set b (Ob.lst l1)) := Frm.set (by simp)
  generalize M.set b (Ob.lst l1) = M1 at *
  obtain ⟨r2, l2, b1, b2, e2, B2⟩ := T M1 b _ 3 B1 (by omega) (by omega) (by omega)
  have g2 : Frm [b] M (M1.set b (Ob.lst l2)) := g1.trans (Frm.set (by simp))
  by_cases hr : r1 = 0
  · generalize M1.set b (Ob.lst l2) = M2 at *
    obtain ⟨es, M3, e3, g3, B3, hT⟩ := HFt M2 b _ (1 + r2) B2 (by omega) (by omega) (by omega)
    refine ⟨es, M3, ?_, g2.trans g3, B3.frm (S := []) .refl (by simp) (by omega), hT⟩
    simp [runD, ir_l_drawn, evSs, evS, evE, evEs, e1, cmpP, hr, e2, bopP, e3]
  · let abc : List PV := [.str "a", .str "b", .str "cc", .str "abc"]
    clear e2 B2 g2
    obtain ⟨r2, l2, b1, b2, e2, B2⟩ := T (M1 ++ [Ob.lst abc]) b _ 3 (B1.frm (S := []) .app (by simp) (Int.le_refl _)) (by omega) (by omega) (by omega)
    have g2 : Frm [b] M ((M1 ++ [Ob.lst abc]).set b (Ob.lst l2)) := (g1.trans .app).trans (Frm.set (by simp))
    have hM1 := g1.len
    have hab : ((M1 ++ [Ob.lst abc]).set b (Ob.lst l2))[M1.length]? = some (.lst abc) := by rw [List.getElem?_set_ne (by omega)]; simp
    generalize hM2 : (M1 ++ [Ob.lst abc]).set b (Ob.lst l2) = M2 at *
    have hcut : ∃ ks : List Str, cutP abc none (some (2 + r2)) = ks.map .str ∧ ks ≠ [] ∧ ks.length < 1000 ∧ ∀ k ∈ ks, KeyOk k := by
      have : r2 = 0 ∨ r2 = 1 ∨ r2 = 2 := by omega
      rcases this with rfl | rfl | rfl
      · refine ⟨["a", "b"], rfl, by simp, by decide, ?_⟩
        intro x hx; simp at hx; rcases hx with rfl | rfl <;> exact ⟨_, by simp, rfl⟩
      · refine ⟨["a", "b", "cc"], rfl, by simp, by decide, ?_⟩
        intro x hx; simp at hx; rcases hx with rfl | rfl | rfl <;> exact ⟨_, by simp, rfl⟩
      · refine ⟨["a", "b", "cc", "abc"], rfl, by simp, by decide, ?_⟩
        intro x hx; simp at hx; rcases hx with rfl | rfl | rfl | rfl <;> exact ⟨_, by simp, rfl⟩
    obtain ⟨ks, hcut, hks⟩ := hcut
    have hslc : slcP false true M2 (.ref M1.length) .non (.int (2 + r2)) = some (.ref M2.length, M2 ++ [.lst (ks.map .str)]) := by
      simp only [slcP, optI, lstAt, hab, hcut]
    have g3 : Frm [b] M (M2 ++ [.lst (ks.map .str)]) := g2.trans .app
    have hnn : (M2 ++ [.lst (ks.map .str)])[M2.length]? = some (.lst (ks.map .str)) := by simp
    have B3 : Bx (M2 ++ [.lst (ks.map .str)]) b (k + 1 + 1) := B2.frm (S := []) .app (by simp) (Int.le_refl _)
    have hM2l : M.length ≤ M2.length := g2.len
    generalize hM3 : M2 ++ [Ob.lst (ks.map PV.str)] = M3 at *
    generalize hnn_ : M2.length = nn at *
    -- the words
    let wds : List PV := [.str "ppdddrrrsl", .str "pdddrrrwwj", .str "ppddrrrrrsllw"]
    have hwl : (M3 ++ [Ob.lst wds])[M3.length]? = some (.lst wds) := by simp
    have hM3l : M.length ≤ M3.length := g3.len
    obtain ⟨zz, l4, hz, e4, B4⟩ := O (M3 ++ [Ob.lst wds]) b M3.length _ wds (B3.frm (S := []) .app (by simp) (Int.le_refl _)) (by omega) hwl (by omega) (by simp [wds]) (by decide)
    have hz' : ∃ z : Str, zz = .str z ∧ 0 < z.length ∧ z.length < 1000 := by
      simp [wds] at hz
      rcases hz with rfl | rfl | rfl <;> exact ⟨_, rfl, by decide, by decide⟩
    obtain ⟨z, rfl, z1, z2⟩ := hz'
    have g4 : Frm [b] M ((M3 ++ [Ob.lst wds]).set b (Ob.lst l4)) := (g3.trans .app).trans (Frm.set (by simp))
    have hnn4 : ((M3 ++ [Ob.lst wds]).set b (Ob.lst l4))[nn]? = some (.lst (ks.map .str)) := by
      rw [List.getElem?_set_ne (by omega)]; exact (Frm.app (S := [])).get hnn (by simp)
    generalize hM4 : (M3 ++ [Ob.lst wds]).set b (Ob.lst l4) = M4 at *
    obtain ⟨r5, l5, c1, c2, e5, B5⟩ := T M4 b _ 6 B4 (by omega) (by omega) (by omega)
    have g5 : Frm [b] M (M4.set b (Ob.lst l5)) := g4.trans (Frm.set (by simp))
    have hnn5 : (M4.set b (Ob.lst l5))[nn]? = some (.lst (ks.map .str)) := by rw [List.getElem?_set_ne (by omega)]; exact hnn4
    generalize hM5 : M4.set b (Ob.lst l5) = M5 at *
    obtain ⟨r6, l6, d1, d2, e6, B6⟩ := T M5 b _ 4 B5 (by omega) (by omega) (by omega)
    have g6 : Frm [b] M (M5.set b (Ob.lst l6)) := g5.trans (Frm.set (by simp))
    have hnn6 : (M5.set b (Ob.lst l6))[nn]? = some (.lst (ks.map .str)) := by rw [List.getElem?_set_ne (by omega)]; exact hnn5
    generalize hM6 : M5.set b (Ob.lst l6) = M6 at *
    obtain ⟨es, M7, e7, g7, B7, hT⟩ := Tb M6 b nn _ (1 + r6) (7 + r5) 6 z B6 (by omega) (by omega) ⟨ks, hnn6, hks⟩ (by omega) (by omega) z1 z2 (by omega) (by omega)
    obtain ⟨r8, l8, f1, f2, e8, B8⟩ := T M7 b _ 4 B7 (by omega) (by omega) (by omega)
    have g8 : Frm [b] M (M7.set b (Ob.lst l8)) := (g6.trans g7).trans (Frm.set (by simp))
    generalize hM8 : M7.set b (Ob.lst l8) = M8 at *
    have e2' : cf i_l_take [.ref b, .int 3] (M1 ++ [.lst [.str "a", .str "b", .str "cc", .str "abc"]]) = some (.int r2, M2) := e2
    have e4' : cf i_l_of [.ref b, .ref M3.length] (M3 ++ [.lst [.str "ppdddrrrsl", .str "pdddrrrwwj", .str "ppddrrrrrsllw"]]) = some (.str z, M4) := e4
    by_cases h8 : 0 < r8
    · obtain ⟨es', M9, e9, g9, hT9⟩ := HN M8 es (hT.mono (by omega))
      refine ⟨es', M9, ?_, g8.trans (g9.mono (by simp)), B8.frm g9 (by simp) (by omega), hT9⟩
      simp [runD, ir_l_drawn, evSs, evS, evE, evEs, e1, cmpP, hr, e2', hslc, e4', e5, e6, e7, e8, h8, bopP, tgP, sizeLine, e9]
    · refine ⟨es, M8, ?_, g8, B8.frm (S := []) .refl (by simp) (by omega), hT.mono (by omega)⟩
      simp [runD, ir_l_drawn, evSs, evS, evE, evEs, e1, cmpP, hr, e2', hslc, e4', e5, e6, e7, e8, h8, bopP, tgP, sizeLine]
theorem hd (j : Nat) : HD (cfN tab (j + 5)) := fun M b k h hk => drawn_ok (ht (j + 3)) (ho (j + 2)) (hf (j + 1)) (htb j) (hen (j + 2)) h hk
end Mp

/-! Mk1: all of a comprehension of truths; loops that may return; good values. -/
namespace Mp
open PySem L2

@[simp] theorem ty_beq (a b : Ty) : (a == b) = decide (a = b) := rfl
theorem set_same' {N : Mm} {i : Nat} {o : Ob} (h : N[i]? = some o) : N.set i o = N := by
  apply List.ext_getElem?
  intro j
  by_cases e : i = j
  · subst e; rw [List.getElem?_set_self (lt_of h), h]
  · rw [List.getElem?_set_ne e]
theorem get_last {M : Mm} {a : Ob} : (M ++ [a])[M.length]? = some a := by simp
theorem at0 {x : PV} {l : List PV} : atI (x :: l) 0 = some x := by
  unfold atI ixN; rw [if_pos (by omega), if_pos (by simp only [List.length_cons]; omega)]; rfl
theorem at1 {x y : PV} {l : List PV} : atI (x :: y :: l) 1 = some y := by
  unfold atI ixN; rw [if_pos (by omega), if_pos (by simp only [List.length_cons]; omega)]; rfl
theorem at2 {x y z : PV} {l : List PV} : atI (x :: y :: z :: l) 2 = some z := by
  unfold atI ixN; rw [if_pos (by omega), if_pos (by simp only [List.length_cons]; omega)]; rfl
theorem Frm.comp' {S T : List Nat} {M0 M M' : Mm} (a : Frm S M0 M) (b : Frm T M M') (h : ∀ i ∈ T, i ∈ S ∨ M0.length ≤ i) : Frm S M0 M' :=
  ⟨Nat.le_trans a.len b.len, fun i h1 h2 => by
    rw [b.at_ i (fun z => (h i z).elim h1 (fun q => absurd h2 (by omega))) (Nat.lt_of_lt_of_le h2 a.len)]
    exact a.at_ i h1 h2⟩
theorem Frm.wr' {S : List Nat} {M0 M : Mm} {j : Nat} {x : Ob} (a : Frm S M0 M) (h : M0.length ≤ j) : Frm S M0 (M.set j x) :=
  a.comp' (Frm.set (S := [j]) (by simp)) (by simp; exact .inr h)
theorem e_chnT {cf : CF} {sg : Sg} {M M1 M2 M3 : Mm} {a b c : E} {x y z : PV} {o1 o2 : Co} {k : Bool} (h : evE cf a sg M = some (x, M1)) (h2 : evE cf b sg M1 = some (y, M2)) (h3 : cmpP M2 o1 x y = some true) (h4 : evE cf c sg M2 = some (z, M3)) (h5 : cmpP M3 o2 y z = some k) : evE cf (.chn o1 o2 a b c) sg M = some (.bl k, M3) := by
  rw [evE, h]; simp only [h2, h3, h4, h5]; rfl
theorem e_chnF {cf : CF} {sg : Sg} {M M1 M2 : Mm} {a b c : E} {x y : PV} {o1 o2 : Co} (h : evE cf a sg M = some (x, M1)) (h2 : evE cf b sg M1 = some (y, M2)) (h3 : cmpP M2 o1 x y = some false) : evE cf (.chn o1 o2 a b c) sg M = some (.bl false, M2) := by
  rw [evE, h]; simp only [h2, h3]
theorem blsOf_map : ∀ bs : List Bool, blsOf (bs.map .bl) = some bs
  | [] => rfl
  | b :: bs => by simp [blsOf, blsOf_map bs]
/-- all of truths that are made one by one -/
theorem all_lc {cf : CF} {own : List Nat} {t : Tg} {it : It} {e : E} {sg : Sg} {M M1 : Mm} {s : Src} (n : Nat) (bv : Nat → Bool) (hI : evI cf it sg M = some (s, M1)) (hn : n < 10000) (F0 : Frm [] M M1)
    (turn : ∀ i N, i < n → Frm [] M1 N → ∃ x sg1 N', s.get N i = some (some x) ∧ tgP t x (wipeP sg own) = some sg1 ∧ evE cf e sg1 N = some (.bl (bv i), N') ∧ Frm [] N N')
    (stop : ∀ N, Frm [] M1 N → s.get N n = some none) :
    ∃ M', evE cf (.blt .all (.cons (.lc own t it (.con (.bl true)) e) .nil)) sg M = some (.bl ((List.range n).all bv), M') ∧ Frm [] M M' := by
  obtain ⟨M2, e1, c1, F1⟩ := lc_inv (src := s) (bind := tgP t) (c := fun sg M => evE cf (.con (.bl true)) sg M) (e := fun sg M => evE cf e sg M) (d := M1.length) (sg := wipeP sg own) (fun i N => N[M1.length]? = some (.lst (((List.range i).map bv).map .bl)) ∧ Frm [] M1 N) (n := n) (M := M1 ++ [Ob.lst []]) (by omega)
    ⟨by simp, .app⟩
    (by
      intro i N hi hI
      obtain ⟨c1, F1⟩ := hI
      obtain ⟨x, sg1, N', q1, q2, q3, q4⟩ := turn i N hi F1
      have c2 := q4.get c1 (by simp)
      refine ⟨x, sg1, q1, q2, .inl ⟨N, .bl (bv i), N', ((List.range i).map bv).map .bl, e_con, q3, by simp only [lstAt, c2], by simp; omega, ?_, (F1.trans q4).wr' (Nat.le_refl _)⟩⟩
      rw [List.getElem?_set_self (lt_of c2), List.range_succ]
      simp)
    (by intro N hI; exact stop N hI.2)
  refine ⟨M2, ?_, F0.trans F1⟩
  have hE : evE cf (.lc own t it (.con (.bl true)) e) sg M = some (.ref M1.length, M2) := by
    rw [evE, hI]
    simp only [e1]
    rfl
  refine e_blt (es_one hE) ?_
  simp only [bltP, lstAt, c1, Option.bind_some, blsOf_map, Option.map_some]
  simp [List.all_map]
/-- a for that goes on as long as its turns say; the first that says no hands back v -/
theorem forL_till {src : Src} {bind : PV → Sg → Option Sg} {body : Sg → Mm → Option (Fl × Mm)} (I : Nat → Sg → Mm → Prop) (R : Mm → Prop) (ok : Nat → Bool) (v : PV) {n : Nat}
    (turn : ∀ i sg M, i < n → I i sg M → ∃ x sg1, src.get M i = some (some x) ∧ bind x sg = some sg1 ∧ ((ok i = true ∧ ∃ sg2 M2, body sg1 M = some (.nx sg2, M2) ∧ I (i + 1) sg2 M2) ∨ (ok i = false ∧ ∃ M2, body sg1 M = some (.ret v, M2) ∧ R M2)))
    (stop : ∀ sg M, I n sg M → src.get M n = some none) : ∀ (m i : Nat) (sg : Sg) (M : Mm), n - i < m → i ≤ n → I i sg M →
      ((∀ j, i ≤ j → j < n → ok j = true) ∧ ∃ sg' M', forL src bind body m i sg M = some (.nx sg', M') ∧ I n sg' M') ∨ ((∃ j, i ≤ j ∧ j < n ∧ ok j = false) ∧ ∃ M', forL src bind body m i sg M = some (.ret v, M') ∧ R M')
  | 0, _, _, _, h, _, _ => by omega
  | m + 1, i, sg, M, h, hi, hI => by
    by_cases e : i = n
    · subst e
      exact .inl ⟨fun j h1 h2 => by omega, sg, M, by simp only [forL, stop sg M hI], hI⟩
    · obtain ⟨x, sg1, h1, h2, h3⟩ := turn i sg M (by omega) hI
      rcases h3 with ⟨k1, sg2, M2, k2, k3⟩ | ⟨k1, M2, k2, k3⟩
      · rcases forL_till I R ok v turn stop m (i + 1) sg2 M2 (by omega) (by omega) k3 with ⟨a1, sg', M', a2, a3⟩ | ⟨⟨j, a1, a2, a3⟩, M', a4, a5⟩
        · refine .inl ⟨fun j h4 h5 => ?_, sg', M', by simp only [forL, h1, h2, k2, a2], a3⟩
          by_cases hj : j = i
          · rw [hj]; exact k1
          · exact a1 j (by omega) h5
        · exact .inr ⟨⟨j, by omega, a2, a3⟩, M', by simp only [forL, h1, h2, k2, a4], a5⟩
      · exact .inr ⟨⟨i, Nat.le_refl _, by omega, k1⟩, M2, by simp only [forL, h1, h2, k2], k3⟩

/-! ### good values -/
def Gd (b : List Nat) : Nat → Mm → PV → Prop
  | 0 => fun _ _ => False
  | k + 1 => fun M x =>
    match x with
    | .non => True
    | .bl _ => True
    | .int _ => True
    | .str s => s.length < 1000 ∧ PyData.canLay0 (.str s) = true
    | .tup xs => xs.length < 500 ∧ ∀ x ∈ xs, Gd b k M x
    | .ref n => n ∉ b ∧ ∃ xs, M[n]? = some (.lst xs) ∧ xs.length < 500 ∧ ∀ x ∈ xs, Gd b k M x
    | _ => False
theorem Gd.frm {b : List Nat} {M M' : Mm} (a : Frm b M M') : ∀ {k : Nat} {x : PV}, Gd b k M x → Gd b k M' x
  | 0, _, h => h.elim
  | k + 1, x, h => by
    cases x with
    | tup xs => exact ⟨h.1, fun x hx => (h.2 x hx).frm a⟩
    | ref n =>
      obtain ⟨h1, xs, h2, h3, h4⟩ := h
      exact ⟨h1, xs, a.get h2 h1, h3, fun x hx => (h4 x hx).frm a⟩
    | cl _ => exact h.elim
    | fn _ _ => exact h.elim
    | _ => exact h
theorem Gd.up {b : List Nat} {k : Nat} {M : Mm} : ∀ {x : PV}, Gd b k M x → Gd b (k + 1) M x := by
  induction k with
  | zero => intro x h; exact h.elim
  | succ k ih =>
    intro x h
    cases x with
    | tup xs => exact ⟨h.1, fun x hx => ih (h.2 x hx)⟩
    | ref n =>
      obtain ⟨h1, xs, h2, h3, h4⟩ := h
      exact ⟨h1, xs, h2, h3, fun x hx => ih (h4 x hx)⟩
    | cl _ => exact h.elim
    | fn _ _ => exact h.elim
    | _ => exact h
theorem Gd.le {b : List Nat} {k j : Nat} {M : Mm} {x : PV} (h : Gd b k M x) (hj : k ≤ j) : Gd b j M x := by
  induction hj with
  | refl => exact h
  | step _ ih => exact ih.up
theorem Gd.nins {b : List Nat} {k : Nat} {M : Mm} {x : PV} (h : Gd b k M x) : insP M x = false := by
  cases k with
  | zero => exact h.elim
  | succ k =>
    cases x with
    | ref n =>
      obtain ⟨h1, xs, h2, h3, h4⟩ := h
      simp [h2]
    | fn _ _ => exact h.elim
    | _ => rfl
/-- a good value reads as data -/
theorem Gd.rd {b : List Nat} {M : Mm} : ∀ {k : Nat} {x : PV}, Gd b k M x → ∃ d, Rd (k + 1) M x d
  | 0, _, h => h.elim
  | k + 1, x, h => by
    cases x with
    | non => exact ⟨_, Rd.flat (x := .non) trivial⟩
    | bl v => exact ⟨_, Rd.flat (x := .bl v) trivial⟩
    | int v => exact ⟨_, Rd.flat (x := .int v) trivial⟩
    | str s => exact ⟨_, Rd.flat (x := .str s) h.2⟩
    | tup xs =>
      refine ⟨_, Rd.tup (g := fun x => (toD (k + 1) M x).getD .none) (fun x hx => ?_) (by omega)⟩
      obtain ⟨d, hd⟩ := (h.2 x hx).rd
      rw [hd.to]; exact hd
    | ref n =>
      obtain ⟨h1, xs, h2, h3, h4⟩ := h
      refine ⟨_, Rd.lst (g := fun x => (toD (k + 1) M x).getD .none) h2 (fun x hx => ?_) (by omega)⟩
      obtain ⟨d, hd⟩ := (h4 x hx).rd
      rw [hd.to]; exact hd
    | cl _ => exact h.elim
    | fn _ _ => exact h.elim
/-- is it the empty tuple -/
theorem eq_unit {b : List Nat} {k : Nat} {M : Mm} {xs : List PV} (h : Gd b k M (.tup xs)) (hk : k < 18) : eqP M (.tup xs) (.tup []) = some xs.isEmpty := by
  obtain ⟨d, hd⟩ := h.rd
  have a := hd.shaped (by omega)
  have c : Rd 2 M (.tup []) (.tuple []) := Rd.tup (k := 1) (g := fd) (by simp) (by omega)
  have e := c.shaped (by omega)
  simp only [eqP, eqS, a.1, e.1, a.2, e.2]
  have hdt : ∃ ds, d = .tuple ds ∧ ds.length = xs.length := by
    have := hd.to
    simp only [toD] at this
    obtain ⟨ds, q1, q2⟩ := Option.map_eq_some_iff.mp this
    refine ⟨ds, q2.symm, ?_⟩
    clear q2 this a e hd h
    induction xs generalizing ds with
    | nil => simp at q1; subst q1; rfl
    | cons x xs ih =>
      rw [List.mapM_cons] at q1
      obtain ⟨d1, _, q3⟩ := Option.bind_eq_some_iff.mp q1
      obtain ⟨es, q4, q5⟩ := Option.bind_eq_some_iff.mp q3
      cases q5
      simp [ih es q4]
  obtain ⟨ds, rfl, hl⟩ := hdt
  cases xs with
  | nil => cases ds with
    | nil => simp [PyData.eqv, PyData.eqvAll]
    | cons _ _ => simp at hl
  | cons x xs => cases ds with
    | nil => simp at hl
    | cons _ _ => simp [PyData.eqv, PyData.eqvAll]
end Mp

/-! Mk2: is_number, is_count, is_key; is_plain, is_name; what they tell. -/
namespace Mp
open PySem L2

def abc26 : Str := "abcdefghijklmnopqrstuvwxyz"
def letB (c : Nat) : Bool := decide (c ∈ abc26.cps.toList)
def numB : PV → Bool
  | .int _ => true | _ => false
def cntB : PV → Bool
  | .int i => decide (0 ≤ i) | _ => false
def keyB : PV → Bool
  | .str s => decide (0 < s.length) && decide (s.length < 9) && s.cps.toList.all letB
  | _ => false
/-- a def of one argument that tells the truth f -/
def Tells (cf : CF) (n : Nat) (b : List Nat) (k : Nat) (f : PV → Bool) : Prop := ∀ (M : Mm) (x : PV), Gd b k M x → ∃ M', cf n [x] M = some (.bl (f x), M') ∧ Frm [] M M'
theorem num_ok {cf : CF} {b : List Nat} {k : Nat} {M : Mm} {x : PV} (h : Gd b k M x) : runD cf ir_is_number [x] M = some (.bl (numB x), M) := by
  cases k with
  | zero => exact h.elim
  | succ k =>
    cases x with
    | ref n =>
      obtain ⟨_, xs, h2, _⟩ := h
      simp [runD, ir_is_number, evSs, evS, evE, isTy, tyOf, h2, numB]
    | cl _ => exact h.elim
    | fn _ _ => exact h.elim
    | _ => simp [runD, ir_is_number, evSs, evS, evE, isTy, tyOf, numB]
theorem t_num (j : Nat) (b : List Nat) (k : Nat) : Tells (cfN tab (j + 1)) i_is_number b k numB := fun M x h => ⟨M, num_ok (cf := cfN tab j) h, .refl⟩
theorem plain_ok {cf : CF} {b : List Nat} {k : Nat} {M : Mm} {x : PV} (h : Gd b k M x) : runD cf ir_l_is_plain [x] M = some (.bl (numB x), M) := by
  cases k with
  | zero => exact h.elim
  | succ k =>
    cases x with
    | ref n =>
      obtain ⟨_, xs, h2, _⟩ := h
      simp [runD, ir_l_is_plain, evSs, evS, evE, isTy, tyOf, h2, numB]
    | cl _ => exact h.elim
    | fn _ _ => exact h.elim
    | _ => simp [runD, ir_l_is_plain, evSs, evS, evE, isTy, tyOf, numB]
theorem t_plain (j : Nat) (b : List Nat) (k : Nat) : Tells (cfN tab (j + 1)) i_l_is_plain b k numB := fun M x h => ⟨M, plain_ok (cf := cfN tab j) h, .refl⟩
theorem cnt_ok {cf : CF} {b : List Nat} {k : Nat} (N : Tells cf i_is_number b k numB) {M : Mm} {x : PV} (h : Gd b k M x) : ∃ M', runD cf ir_is_count [x] M = some (.bl (cntB x), M') ∧ Frm [] M M' := by
  obtain ⟨M', e, F⟩ := N M x h
  refine ⟨M', ?_, F⟩
  cases x with
  | int i => simp only [numB] at e; simp [runD, ir_is_count, evSs, evS, evE, evEs, e, cmpP, cntB]
  | _ => simp only [numB] at e; simp [runD, ir_is_count, evSs, evS, evE, evEs, e, cntB]
theorem t_cnt (j : Nat) (b : List Nat) (k : Nat) : Tells (cfN tab (j + 2)) i_is_count b k cntB := fun M x h => cnt_ok (t_num j b k) h
theorem range_all {α : Type} (l : List α) (f : α → Bool) (g : Nat → Bool) (h : ∀ i (hi : i < l.length), g i = f l[i]) : (List.range l.length).all g = l.all f := by
  apply Bool.eq_iff_iff.mpr
  rw [List.all_eq_true, List.all_eq_true]
  constructor
  · intro q x hx
    obtain ⟨i, hi, rfl⟩ := List.mem_iff_getElem.mp hx
    rw [← h i hi]; exact q i (by simpa using hi)
  · intro q i hi
    have hi' : i < l.length := by simpa using hi
    rw [h i hi']; exact q _ (List.getElem_mem hi')
theorem key_ok {cf : CF} {b : List Nat} {k : Nat} {M : Mm} {x : PV} (h : Gd b k M x) : ∃ M', runD cf ir_is_key [x] M = some (.bl (keyB x), M') ∧ Frm [] M M' := by
  cases k with
  | zero => exact h.elim
  | succ k =>
    cases x with
    | str s =>
      have hsl : s.length ≤ 16777216 := by have := h.1; omega
      have hlen : bltP M .len [.str s] = some (.int s.length, M) := by
        simp only [bltP]; rw [if_pos (show s.length ≤ sizeLine by have : sizeLine = 16777216 := rfl; omega)]
      have hiso : evE cf (.isi (.var 0) [.str]) [some (.str s), none] M = some (.bl true, M) := e_isi (e_var rfl) (by simp [isTy, tyOf]) rfl
      have hL : evE cf (.blt .len (.cons (.var 0) .nil)) [some (.str s), none] M = some (.int s.length, M) := e_blt (es_one (e_var rfl)) hlen
      by_cases h1 : 0 < s.length ∧ s.length < 9
      · have hch : evE cf (.chn .lt .lt (.con (.int 0)) (.blt .len (.cons (.var 0) .nil)) (.con (.int 9))) [some (.str s), none] M = some (.bl true, M) := by
          exact e_chnT e_con hL (congrArg some (decide_eq_true (by omega))) e_con (congrArg some (decide_eq_true (by omega)))
        have hI : evI cf (.seq (.var 0)) [some (.str s), none] M = some (.str s, M) := by rw [evI, e_var (v := .str s) rfl]; rfl
        obtain ⟨M', e, F⟩ := all_lc (cf := cf) (own := [1]) (t := .name 1) (e := e1_is_key) (sg := [some (.str s), none]) s.cps.size (fun i => letB (s.cps.toList.getD i 0)) hI (by have : s.cps.size = s.length := rfl; omega) .refl
          (by
            intro i N hi _
            refine ⟨.str ⟨#[s.cps[i]]⟩, [some (.str s), some (.str ⟨#[s.cps[i]]⟩)], N, by simp [Src.get, hi], rfl, ?_, .refl⟩
            have hg : s.cps.toList.getD i 0 = s.cps[i] := by simp [hi]
            unfold e1_is_key
            refine e_cmp (e_var rfl) e_con ?_
            simp only [cmpP, isIn, sgn, Option.map_some, hg]
            rfl)
          (by intro N _; simp [Src.get])
        have hall : (List.range s.cps.size).all (fun i => letB (s.cps.toList.getD i 0)) = s.cps.toList.all letB := by
          have := range_all s.cps.toList letB (fun i => letB (s.cps.toList.getD i 0)) (fun i hi => by rw [List.getD_eq_getElem?_getD, List.getElem?_eq_getElem hi]; rfl)
          simpa using this
        rw [hall] at e
        refine ⟨M', ?_, F⟩
        have hk : keyB (.str s) = s.cps.toList.all letB := by
          show (decide (0 < s.length) && decide (s.length < 9) && s.cps.toList.all letB) = _
          rw [decide_eq_true h1.1, decide_eq_true h1.2]
          rfl
        rw [hk]
        exact run_ret rfl (ss_ret (e_andT hiso (e_andT hch e)))
      · have hch : evE cf (.chn .lt .lt (.con (.int 0)) (.blt .len (.cons (.var 0) .nil)) (.con (.int 9))) [some (.str s), none] M = some (.bl false, M) := by
          by_cases a1 : (0 : Int) < (s.length : Int)
          · exact e_chnT e_con hL (congrArg some (decide_eq_true a1)) e_con (congrArg some (decide_eq_false (by omega)))
          · exact e_chnF e_con hL (congrArg some (decide_eq_false a1))
        refine ⟨M, ?_, .refl⟩
        have hk : keyB (.str s) = false := by
          simp only [keyB]
          by_cases a1 : 0 < s.length
          · have a2 : ¬ s.length < 9 := fun q => h1 ⟨a1, q⟩
            simp [a2]
          · simp [a1]
        rw [hk]
        exact run_ret rfl (ss_ret (e_andT hiso (e_andF hch)))
    | ref n =>
      obtain ⟨_, xs, h2, _⟩ := h
      exact ⟨M, run_ret rfl (ss_ret (e_andF (e_isi (k := false) (e_var rfl) (by simp [isTy, tyOf, h2]) (by simp [h2])))), .refl⟩
    | cl _ => exact h.elim
    | fn _ _ => exact h.elim
    | _ => exact ⟨M, run_ret rfl (ss_ret (e_andF (e_isi (k := false) (e_var rfl) (by simp [isTy, tyOf]) rfl))), .refl⟩
theorem t_key (j : Nat) (b : List Nat) (k : Nat) : Tells (cfN tab (j + 1)) i_is_key b k keyB := fun M x h => key_ok (cf := cfN tab j) h
end Mp

/-! Mk3: is_event. -/
namespace Mp
open PySem L2

def evtB : PV → Bool
  | .tup (.str w :: r) =>
    if w = "put" then (match r with | [k, v] => keyB k && numB v | _ => false)
    else if w = "drop" then (match r with | [k] => keyB k | _ => false)
    else if w = "join" then (match r with | [a] => cntB a | _ => false)
    else if w = "read" then (match r with | [a, c] => cntB a && cntB c | _ => false)
    else if w = "save" then (match r with | [a] => cntB a | _ => false)
    else if w = "load" then (match r with | [a, c] => cntB a && cntB c | _ => false)
    else if w = "wait" then (match r with | [] => true | _ => false)
    else false
  | _ => false
def fn3 : List (Nat × Str) := [(1, "is_count"), (2, "is_key"), (0, "is_number")]
def zall (gs : List (PV → Bool)) (r : List PV) : Bool := decide (r.length = gs.length) && (List.range gs.length).all fun i => (gs.getD i fun _ => false) (r.getD i .non)
theorem cut1 {x : PV} {r : List PV} : cutP (x :: r) (some 1) none = r := by
  have h1 : HT.sIx (x :: r).length 0 (some 1) = 1 := by
    unfold HT.sIx
    simp
  have h2 : HT.sIx (x :: r).length (x :: r).length none = (x :: r).length := rfl
  unfold cutP
  rw [h1, h2]
  simp
theorem tests_ok {cf : CF} {b : List Nat} {k : Nat} {M : Mm} {w : Str} {r : List PV} (hr : ∀ x ∈ r, Gd b k M x) (hl : r.length < 1000) (fs : List (Nat × Str)) (gs : List (PV → Bool)) (he : fs.length = gs.length) (hf : ∀ q ∈ fs, q ∈ fn3)
    (ht : ∀ i (h : i < fs.length), Tells cf fs[i].1 b k (gs.getD i fun _ => false)) (h10 : fs.length < 10) :
    ∃ M', evE cf (.and (.cmp .eq (.blt .len (.cons (.var 0) .nil)) (.bop .add (.blt .len (.cons (.var 1) .nil)) (.con (.int 1)))) (.blt .all (.cons (.lc [2, 3] (.tup [2, 3]) (.zip (.var 1) (.slc true false (.var 0) (.con (.int 1)) (.con .non))) (.con (.bl true)) e1_is_event) .nil)))
      [some (.tup (.str w :: r)), some (.tup (fs.map fun p => .fn p.1 p.2)), none, none] M = some (.bl (zall gs r), M') ∧ Frm [] M M' := by
  have hlen : evE cf (.cmp .eq (.blt .len (.cons (.var 0) .nil)) (.bop .add (.blt .len (.cons (.var 1) .nil)) (.con (.int 1)))) [some (.tup (.str w :: r)), some (.tup (fs.map fun p => .fn p.1 p.2)), none, none] M = some (.bl (decide (r.length = gs.length)), M) := by
    refine e_cmp (e_blt (es_one (e_var rfl)) rfl) (e_bop (e_blt (es_one (e_var rfl)) rfl) e_con rfl) ?_
    simp only [cmpP, eqP, eqS, List.length_cons, List.length_map, he]
    congr 1
    apply Bool.eq_iff_iff.mpr
    simp only [decide_eq_true_eq]
    omega
  by_cases hq : r.length = gs.length
  · rw [decide_eq_true hq] at hlen
    have hI : evI cf (.zip (.var 1) (.slc true false (.var 0) (.con (.int 1)) (.con .non))) [some (.tup (.str w :: r)), some (.tup (fs.map fun p => .fn p.1 p.2)), none, none] M = some (.zip (.tup (fs.map fun p => .fn p.1 p.2)) (.tup r), M) := by
      have hs : evE cf (.slc true false (.var 0) (.con (.int 1)) (.con .non)) [some (.tup (.str w :: r)), some (.tup (fs.map fun p => .fn p.1 p.2)), none, none] M = some (.tup r, M) := by
        rw [evE, e_var (v := .tup (.str w :: r)) rfl]
        simp only [e_con, slcP, optI, cut1]
      rw [evI, e_var (v := .tup (fs.map fun p => .fn p.1 p.2)) rfl]
      simp only [hs, srcOf, Src.isL, Src.isT]
      rfl
    obtain ⟨M', e, F⟩ := all_lc (cf := cf) (own := [2, 3]) (t := .tup [2, 3]) (e := e1_is_event) (sg := [some (.tup (.str w :: r)), some (.tup (fs.map fun p => .fn p.1 p.2)), none, none]) gs.length (fun i => (gs.getD i fun _ => false) (r.getD i .non)) hI (by omega) .refl
      (by
        intro i N hi FN
        have hi1 : i < fs.length := by omega
        have hi2 : i < r.length := by omega
        have hgr : r.getD i .non = r[i] := by rw [List.getD_eq_getElem?_getD, List.getElem?_eq_getElem hi2]; rfl
        obtain ⟨N', e, F⟩ := ht i hi1 N r[i] ((hr _ (List.getElem_mem hi2)).frm (FN.mono (by simp)))
        refine ⟨.tup [.fn fs[i].1 fs[i].2, r[i]], [some (.tup (.str w :: r)), some (.tup (fs.map fun p => .fn p.1 p.2)), some (.fn fs[i].1 fs[i].2), some r[i]], N', by simp [Src.get, hi1, hi2], rfl, ?_, F⟩
        unfold e1_is_event
        rw [evE]
        simp only [List.getElem?_cons_succ, List.getElem?_cons_zero]
        have hmem : (fs[i].1, fs[i].2) ∈ [(1, ("is_count" : Str)), (2, "is_key"), (0, "is_number")] := hf _ (List.getElem_mem hi1)
        rw [if_pos hmem]
        simp only [es_one (e_var (cf := cf) (sg := [some (.tup (.str w :: r)), some (.tup (fs.map fun p => .fn p.1 p.2)), some (.fn fs[i].1 fs[i].2), some r[i]]) (M := N) (i := 3) (v := r[i]) rfl)]
        rw [hgr]
        exact e)
      (by
        intro N _
        have h1 : (fs.map fun p => PV.fn p.1 p.2)[gs.length]? = none := by simp [he]
        have h2 : r[gs.length]? = none := by simp [hq]
        simp only [Src.get, h1, h2])
    refine ⟨M', ?_, F⟩
    have hz : zall gs r = (List.range gs.length).all fun i => (gs.getD i fun _ => false) (r.getD i .non) := by
      unfold zall; rw [decide_eq_true hq]; rfl
    rw [hz]
    exact e_andT hlen e
  · rw [decide_eq_false hq] at hlen
    refine ⟨M, ?_, .refl⟩
    have hz : zall gs r = false := by unfold zall; rw [decide_eq_false hq]; rfl
    rw [hz]
    exact e_andF hlen
theorem sne {a b : String} (h : a ≠ b) : ¬ (Str.ofString a = Str.ofString b) := fun q => h (str_inj.mp q)
theorem event_ok' {cf : CF} {b : List Nat} {k : Nat} (N : Tells cf i_is_number b k numB) (Ct : Tells cf i_is_count b k cntB) (Ky : Tells cf i_is_key b k keyB) {M : Mm} {x : PV} (h : Gd b (k + 1) M x) :
    ∃ M', runD cf ir_is_event [x] M = some (.bl (evtB x), M') ∧ Frm [] M M' := by
  have isi0 : ∀ bb, ([Ty.tuple].any (isTy M x)) = bb → evE cf (.isi (.var 0) [.tuple]) [some x, none, none, none] M = some (.bl bb, M) := fun bb q => e_isi (e_var rfl) q h.nins
  have no : [Ty.tuple].any (isTy M x) = false → evtB x = false → ∃ M', runD cf ir_is_event [x] M = some (.bl (evtB x), M') ∧ Frm [] M M' := by
    intro q q2
    rw [q2]
    exact ⟨M, run_ret rfl (ss_if (s_ifT (e_orT (e_not (k := false) (isi0 _ q))) (ss_ret e_con))), .refl⟩
  cases x with
  | tup xs =>
    have hi := isi0 true (by simp [isTy, tyOf])
    cases xs with
    | nil =>
      refine ⟨M, ?_, .refl⟩
      have hc : evE cf (.cmp .eq (.blt .len (.cons (.var 0) .nil)) (.con (.int 0))) [some (.tup []), none, none, none] M = some (.bl true, M) := e_cmp (e_blt (es_one (e_var rfl)) rfl) e_con rfl
      exact run_ret rfl (ss_if (s_ifT (e_orF (e_not (k := true) hi) (e_orT hc)) (ss_ret e_con)))
    | cons y r =>
      have hy : Gd b k M y := h.2 y (by simp)
      have hr : ∀ x ∈ r, Gd b k M x := fun x hx => h.2 x (by simp [hx])
      have hl : r.length < 1000 := by have := h.1; simp at this; omega
      have hc : evE cf (.cmp .eq (.blt .len (.cons (.var 0) .nil)) (.con (.int 0))) [some (.tup (y :: r)), none, none, none] M = some (.bl false, M) := by
        refine e_cmp (e_blt (es_one (e_var rfl)) rfl) e_con ?_
        exact congrArg some (decide_eq_false (by simp only [List.length_cons]; omega))
      have hix : evE cf (.idx (.var 0) (.con (.int 0))) [some (.tup (y :: r)), none, none, none] M = some (y, M) := e_idx (e_var rfl) e_con at0
      by_cases hs : ∃ w, y = .str w
      · obtain ⟨w, rfl⟩ := hs
        have hst : evE cf (.isi (.idx (.var 0) (.con (.int 0))) [.str]) [some (.tup (.str w :: r)), none, none, none] M = some (.bl true, M) := e_isi hix (by simp [isTy, tyOf]) rfl
        -- one of the words
        have yes : ∀ (fs : List (Nat × Str)) (gs : List (PV → Bool)), (tb_LOOKS.find? fun q => decide (q.1 = w)) = some (w, fs) → fs.length = gs.length → (∀ q ∈ fs, q ∈ fn3) → (∀ i (h : i < fs.length), Tells cf fs[i].1 b k (gs.getD i fun _ => false)) → fs.length < 10 → evtB (.tup (.str w :: r)) = zall gs r →
            ∃ M', runD cf ir_is_event [.tup (.str w :: r)] M = some (.bl (evtB (.tup (.str w :: r))), M') ∧ Frm [] M M' := by
          intro fs gs hf he hm ht h10 hz
          rw [hz]
          obtain ⟨M', e, F⟩ := tests_ok (cf := cf) (w := w) hr hl fs gs he hm ht h10
          refine ⟨M', ?_, F⟩
          have hkn : evE cf (.knot tb_LOOKS (.idx (.var 0) (.con (.int 0)))) [some (.tup (.str w :: r)), none, none, none] M = some (.bl false, M) := by
            rw [evE, hix]
            have : (tb_LOOKS.any fun q => decide (q.1 = w)) = true := List.any_eq_true.mpr ⟨_, List.mem_of_find?_eq_some hf, by simp⟩
            simp only [this]
            rfl
          have hki : evE cf (.kidx tb_LOOKS (.idx (.var 0) (.con (.int 0)))) [some (.tup (.str w :: r)), none, none, none] M = some (.tup (fs.map fun p => .fn p.1 p.2), M) := by
            rw [evE, hix]
            simp only [hf]
            rfl
          have e' := e
          exact run_ret rfl (ss_cons (s_ifF (e_orF (e_not (k := true) hi) (e_orF hc (e_orF (e_not (k := true) hst) hkn))) ss_nil) (ss_cons (s_asg hki rfl) (ss_ret e')))
        by_cases h1 : w = "put"
        · subst h1
          exact yes [(2, "is_key"), (0, "is_number")] [keyB, numB] (by simp [tb_LOOKS]) rfl (by simp [fn3]) (by
            intro i hi
            match i, hi with
            | 0, _ => exact Ky
            | 1, _ => exact N) (by decide) (by
            match r with
            | [] => rfl
            | [_] => rfl
            | [a, c] => simp [evtB, zall, List.range_succ]
            | _ :: _ :: _ :: _ => simp [evtB, zall])
        by_cases h2 : w = "drop"
        · subst h2
          exact yes [(2, "is_key")] [keyB] (by simp [tb_LOOKS]) rfl (by simp [fn3]) (by
            intro i hi
            match i, hi with
            | 0, _ => exact Ky
          ) (by decide) (by
            match r with
            | [] => rfl
            | [a] => simp [evtB, zall, List.range_succ]
            | _ :: _ :: _ => simp [evtB, zall])
        by_cases h3 : w = "join"
        · subst h3
          exact yes [(1, "is_count")] [cntB] (by simp [tb_LOOKS]) rfl (by simp [fn3]) (by
            intro i hi
            match i, hi with
            | 0, _ => exact Ct
          ) (by decide) (by
            match r with
            | [] => rfl
            | [a] => simp [evtB, zall, List.range_succ]
            | _ :: _ :: _ => simp [evtB, zall])
        by_cases h4 : w = "read"
        · subst h4
          exact yes [(1, "is_count"), (1, "is_count")] [cntB, cntB] (by simp [tb_LOOKS]) rfl (by simp [fn3]) (by
            intro i hi
            match i, hi with
            | 0, _ => exact Ct
            | 1, _ => exact Ct
          ) (by decide) (by
            match r with
            | [] => rfl
            | [_] => rfl
            | [a, c] => simp [evtB, zall, List.range_succ]
            | _ :: _ :: _ :: _ => simp [evtB, zall])
        by_cases h5 : w = "save"
        · subst h5
          exact yes [(1, "is_count")] [cntB] (by simp [tb_LOOKS]) rfl (by simp [fn3]) (by
            intro i hi
            match i, hi with
            | 0, _ => exact Ct
          ) (by decide) (by
            match r with
            | [] => rfl
            | [a] => simp [evtB, zall, List.range_succ]
            | _ :: _ :: _ => simp [evtB, zall])
        by_cases h6 : w = "load"
        · subst h6
          exact yes [(1, "is_count"), (1, "is_count")] [cntB, cntB] (by simp [tb_LOOKS]) rfl (by simp [fn3]) (by
            intro i hi
            match i, hi with
            | 0, _ => exact Ct
            | 1, _ => exact Ct
          ) (by decide) (by
            match r with
            | [] => rfl
            | [_] => rfl
            | [a, c] => simp [evtB, zall, List.range_succ]
            | _ :: _ :: _ :: _ => simp [evtB, zall])
        by_cases h7 : w = "wait"
        · subst h7
          exact yes [] [] (by simp [tb_LOOKS]) rfl (by simp [fn3]) (by intro i hi; simp at hi) (by decide) (by
            match r with
            | [] => simp [evtB, zall]
            | _ :: _ => simp [evtB, zall])
        refine ⟨M, ?_, .refl⟩
        have hkn : evE cf (.knot tb_LOOKS (.idx (.var 0) (.con (.int 0)))) [some (.tup (.str w :: r)), none, none, none] M = some (.bl true, M) := by
          rw [evE, hix]
          have : (tb_LOOKS.any fun q => decide (q.1 = w)) = false := by
            simp [tb_LOOKS, Ne.symm h1, Ne.symm h2, Ne.symm h3, Ne.symm h4, Ne.symm h5, Ne.symm h6, Ne.symm h7]
          simp only [this]
          rfl
        have hz : evtB (.tup (.str w :: r)) = false := by simp [evtB, h1, h2, h3, h4, h5, h6, h7]
        rw [hz]
        exact run_ret rfl (ss_if (s_ifT (e_orF (e_not (k := true) hi) (e_orF hc (e_orF (e_not (k := true) hst) hkn))) (ss_ret e_con)))
      · have hst : evE cf (.isi (.idx (.var 0) (.con (.int 0))) [.str]) [some (.tup (y :: r)), none, none, none] M = some (.bl false, M) := by
          refine e_isi hix ?_ hy.nins
          cases k with
          | zero => exact hy.elim
          | succ k =>
            cases y with
            | str w => exact absurd ⟨w, rfl⟩ hs
            | ref n => obtain ⟨_, xs, h2, _⟩ := hy; simp [isTy, tyOf, h2]
            | cl _ => exact hy.elim
            | fn _ _ => exact hy.elim
            | _ => simp [isTy, tyOf]
        refine ⟨M, ?_, .refl⟩
        have hz : evtB (.tup (y :: r)) = false := by
          cases y <;> first | rfl | exact absurd ⟨_, rfl⟩ hs
        rw [hz]
        exact run_ret rfl (ss_if (s_ifT (e_orF (e_not (k := true) hi) (e_orF hc (e_orT (e_not (k := false) hst)))) (ss_ret e_con)))
  | ref n =>
    obtain ⟨_, xs, h2, _⟩ := h
    exact no (by simp [isTy, tyOf, h2]) rfl
  | cl _ => exact h.elim
  | fn _ _ => exact h.elim
  | _ => exact no (by simp [isTy, tyOf]) rfl
theorem t_evt (j : Nat) (b : List Nat) (k : Nat) : Tells (cfN tab (j + 3)) i_is_event b (k + 1) evtB := fun M x h => event_ok' (t_num (j + 1) b k) (t_cnt j b k) (t_key (j + 1) b k) h
end Mp

/-! Mk4: the law's own reading of a row: is_name, is_row. -/
namespace Mp
open PySem L2

theorem flt_inv {cf : CF} {own : List Nat} {t : Tg} {it : It} {c e : E} {sg : Sg} {M : Mm} {s : Src} (xs : List PV) (p : PV → Bool) (hI : evI cf it sg M = some (s, M)) (hn : xs.length < 10000) (hs : ∀ N i, s.get N i = some xs[i]?)
    (turn : ∀ x ∈ xs, ∀ N, ∃ sg1, tgP t x (wipeP sg own) = some sg1 ∧ evE cf c sg1 N = some (.bl (p x), N) ∧ evE cf e sg1 N = some (x, N)) :
    evE cf (.lc own t it c e) sg M = some (.ref M.length, M ++ [Ob.lst (xs.filter p)]) := by
  obtain ⟨M', h1, h2⟩ := lc_inv (src := s) (bind := tgP t) (c := fun sg M => evE cf c sg M) (e := fun sg M => evE cf e sg M) (d := M.length) (sg := wipeP sg own) (fun i N => N = M ++ [Ob.lst ((xs.take i).filter p)]) (n := xs.length) (M := M ++ [Ob.lst []]) (by omega) (by simp)
    (by
      intro i N hi hN
      subst hN
      obtain ⟨sg1, q1, q2, q3⟩ := turn xs[i] (List.getElem_mem hi) (M ++ [Ob.lst ((xs.take i).filter p)])
      refine ⟨xs[i], sg1, by rw [hs, List.getElem?_eq_getElem hi], q1, ?_⟩
      have hsp : xs.take (i + 1) = xs.take i ++ [xs[i]] := by rw [List.take_succ_eq_append_getElem hi]
      cases hp : p xs[i] with
      | true =>
        rw [hp] at q2
        refine .inl ⟨_, _, _, (xs.take i).filter p, q2, q3, by simp [lstAt], ?_, ?_⟩
        · have := List.length_filter_le p (xs.take i)
          have h2 : (xs.take i).length ≤ i := by simp; omega
          omega
        · rw [hsp, List.filter_append]; simp [hp]
      | false =>
        rw [hp] at q2
        refine .inr ⟨_, q2, ?_⟩
        rw [hsp, List.filter_append]; simp [hp])
    (by intro N hN; rw [hs]; simp)
  rw [List.take_length] at h2
  subst h2
  rw [evE, hI]
  simp only [h1]
  rfl
theorem name_ok {cf : CF} {b : List Nat} {k : Nat} {M : Mm} {x : PV} (h : Gd b k M x) : ∃ M', runD cf ir_l_is_name [x] M = some (.bl (keyB x), M') ∧ Frm [] M M' := by
  cases k with
  | zero => exact h.elim
  | succ k =>
    have isi0 : ∀ bb, ([Ty.str].any (isTy M x)) = bb → evE cf (.isi (.var 0) [.str]) [some x, some (.str abc26), none] M = some (.bl bb, M) := fun bb q => e_isi (e_var rfl) q h.nins
    have no : [Ty.str].any (isTy M x) = false → keyB x = false → ∃ M', runD cf ir_l_is_name [x] M = some (.bl (keyB x), M') ∧ Frm [] M M' := by
      intro q q2
      rw [q2]
      exact ⟨M, run_ret rfl (ss_cons (s_asg e_con rfl) (ss_ret (e_andF (isi0 _ q)))), .refl⟩
    cases x with
    | str s =>
      have hi := isi0 true (by simp [isTy, tyOf])
      have hsl : s.length < 1000 := h.1
      have hlen : bltP M .len [.str s] = some (.int s.length, M) := by
        simp only [bltP]; rw [if_pos (show s.length ≤ sizeLine by have : sizeLine = 16777216 := rfl; omega)]
      have hL : evE cf (.blt .len (.cons (.var 0) .nil)) [some (.str s), some (.str abc26), none] M = some (.int s.length, M) := e_blt (es_one (e_var rfl)) hlen
      by_cases h1 : 0 < s.length ∧ s.length < 9
      · have hch : evE cf (.chn .le .le (.con (.int 1)) (.blt .len (.cons (.var 0) .nil)) (.con (.int 8))) [some (.str s), some (.str abc26), none] M = some (.bl true, M) :=
          e_chnT e_con hL (congrArg some (decide_eq_true (by omega))) e_con (congrArg some (decide_eq_true (by omega)))
        have hI : evI cf (.seq (.var 0)) [some (.str s), some (.str abc26), none] M = some (.str s, M) := by rw [evI, e_var (v := .str s) rfl]; rfl
        have hlc := flt_inv (cf := cf) (own := [2]) (t := .name 2) (c := .cmp .notin (.var 2) (.var 1)) (e := .var 2) (sg := [some (.str s), some (.str abc26), none]) (M := M) (s.cps.toList.map fun c => .str ⟨#[c]⟩) (fun x => match x with | .str z => !(letB (z.cps.getD 0 0)) | _ => false) hI (by simp; have : s.cps.size = s.length := rfl; omega)
          (by intro N i; simp [Src.get])
          (by
            intro x hx N
            obtain ⟨c, hc, rfl⟩ := List.mem_map.mp hx
            refine ⟨[some (.str s), some (.str abc26), some (.str ⟨#[c]⟩)], rfl, e_cmp (e_var rfl) (e_var rfl) ?_, e_var rfl⟩
            simp only [cmpP, isIn, sgn, Option.map_some]
            rfl)
        generalize hys : ((s.cps.toList.map fun c => PV.str ⟨#[c]⟩).filter fun x => match x with | .str z => !(letB (z.cps.getD 0 0)) | _ => false) = ys at hlc
        have hemp : ys.isEmpty = s.cps.toList.all letB := by
          rw [← hys]
          generalize s.cps.toList = l
          apply Bool.eq_iff_iff.mpr
          simp [List.isEmpty_iff, List.filter_eq_nil_iff, List.filter_map]
        have hfl : ∀ y ∈ ys, FlOk y := by
          intro y hy
          rw [← hys] at hy
          obtain ⟨c, hc, rfl⟩ := List.mem_map.mp (List.mem_filter.mp hy).1
          have hok := h.2
          show PyData.canLay0 (.str ⟨#[c]⟩) = true
          rw [PyData.canLay0, PyData.strOk] at hok ⊢
          rw [Array.all_eq_true'] at hok ⊢
          intro x hx
          simp at hx
          subst hx
          exact hok x (by simpa using hc)
        have q1 : (M ++ [Ob.lst ys] ++ [Ob.lst []])[M.length]? = some (.lst ys) := by rw [List.getElem?_append_left (by simp)]; simp
        have q2 : (M ++ [Ob.lst ys] ++ [Ob.lst []])[(M ++ [Ob.lst ys]).length]? = some (.lst []) := get_last
        have q5 := eqP_nil (j := 1) (g := fd) q1 q2 (fun x hx => Rd.flat (hfl x hx)) (by omega) (by omega)
        refine ⟨M ++ [Ob.lst ys] ++ [Ob.lst []], ?_, Frm.trans .app .app⟩
        have hk : keyB (.str s) = ys.isEmpty := by
          show (decide (0 < s.length) && decide (s.length < 9) && s.cps.toList.all letB) = _
          rw [decide_eq_true h1.1, decide_eq_true h1.2, hemp]
          rfl
        rw [hk]
        exact run_ret rfl (ss_cons (s_asg e_con rfl) (ss_ret (e_andT hi (e_andT hch (e_cmp hlc (e_lst es_nil (by simp)) q5)))))
      · have hch : evE cf (.chn .le .le (.con (.int 1)) (.blt .len (.cons (.var 0) .nil)) (.con (.int 8))) [some (.str s), some (.str abc26), none] M = some (.bl false, M) := by
          by_cases a1 : (1 : Int) ≤ (s.length : Int)
          · exact e_chnT e_con hL (congrArg some (decide_eq_true a1)) e_con (congrArg some (decide_eq_false (by omega)))
          · exact e_chnF e_con hL (congrArg some (decide_eq_false a1))
        refine ⟨M, ?_, .refl⟩
        have hk : keyB (.str s) = false := by
          show (decide (0 < s.length) && decide (s.length < 9) && s.cps.toList.all letB) = _
          by_cases a1 : 0 < s.length
          · rw [decide_eq_false (show ¬ s.length < 9 from fun q => h1 ⟨a1, q⟩)]; simp
          · rw [decide_eq_false a1]; simp
        rw [hk]
        exact run_ret rfl (ss_cons (s_asg e_con rfl) (ss_ret (e_andT hi (e_andF hch))))
    | ref n =>
      obtain ⟨_, xs, h2, _⟩ := h
      exact no (by simp [isTy, tyOf, h2]) rfl
    | cl _ => exact h.elim
    | fn _ _ => exact h.elim
    | _ => exact no (by simp [isTy, tyOf]) rfl
theorem e_mth {cf : CF} {sg : Sg} {M M1 M2 : Mm} {o : E} {es : Es} {m : Mt} {x : PV} {xs : List PV} {q : R} (h : evE cf o sg M = some (x, M1)) (hk : mtOk M1 m x = true) (h2 : evEs cf es sg M1 = some (xs, M2)) (h3 : mthP M2 m x xs = q) : evE cf (.mth m o es) sg M = q := by
  rw [evE, h]; simp only [hk, h2]; exact h3
theorem t_name (j : Nat) (b : List Nat) (k : Nat) : Tells (cfN tab (j + 1)) i_l_is_name b k keyB := fun M x h => name_ok (cf := cfN tab j) h
def szs : List (Key × PV) := [(.inr "join", .int 1), (.inr "save", .int 1), (.inr "read", .int 2), (.inr "load", .int 2), (.inr "wait", .int 0)]
theorem szs_ok (cf : CF) (sg : Sg) (M : Mm) : evE cf (.dct [.inr "join", .inr "save", .inr "read", .inr "load", .inr "wait"] (.cons (.con (.int 1)) (.cons (.con (.int 1)) (.cons (.con (.int 2)) (.cons (.con (.int 2)) (.cons (.con (.int 0)) .nil)))))) sg M = some (.ref M.length, M ++ [Ob.dic szs]) := by
  simp [evE, evEs, dicAt, putD, szs]
theorem row_ok {cf : CF} {b : List Nat} {k : Nat} (hk : k < 16) (Nm : Tells cf i_l_is_name b k keyB) (Pl : Tells cf i_l_is_plain b k numB) {M : Mm} {x : PV} (h : Gd b (k + 1) M x) :
    ∃ M', runD cf ir_l_is_row [x] M = some (.bl (evtB x), M') ∧ Frm [] M M' := by
  have isi0 : ∀ bb, ([Ty.tuple].any (isTy M x)) = bb → evE cf (.isi (.var 0) [.tuple]) [some x, none, none, none, none] M = some (.bl bb, M) := fun bb q => e_isi (e_var rfl) q h.nins
  have no : [Ty.tuple].any (isTy M x) = false → evtB x = false → ∃ M', runD cf ir_l_is_row [x] M = some (.bl (evtB x), M') ∧ Frm [] M M' := by
    intro q q2
    rw [q2]
    exact ⟨M, run_ret rfl (ss_if (s_ifT (e_orT (e_not (k := false) (isi0 _ q))) (ss_ret e_con))), .refl⟩
  cases x with
  | tup xs =>
    have hi := isi0 true (by simp [isTy, tyOf])
    have hu : evE cf (.cmp .eq (.var 0) (.tup .nil)) [some (.tup xs), none, none, none, none] M = some (.bl xs.isEmpty, M) := e_cmp (e_var rfl) (e_tup es_nil (by simp)) (eq_unit h (by omega))
    cases xs with
    | nil => exact ⟨M, run_ret rfl (ss_if (s_ifT (e_orF (e_not (k := true) hi) (e_orT hu)) (ss_ret e_con))), .refl⟩
    | cons y r =>
      have hy : Gd b k M y := h.2 y (by simp)
      have hr : ∀ x ∈ r, Gd b k M x := fun x hx => h.2 x (by simp [hx])
      have hl : r.length < 1000 := by have := h.1; simp at this; omega
      have hix : ∀ o1 o2, evE cf (.idx (.var 0) (.con (.int 0))) [some (.tup (y :: r)), o1, o2, none, none] M = some (y, M) := fun _ _ => e_idx (e_var rfl) e_con at0
      by_cases hs : ∃ w, y = .str w
      · obtain ⟨w, rfl⟩ := hs
        have hst : evE cf (.isi (.idx (.var 0) (.con (.int 0))) [.str]) [some (.tup (.str w :: r)), none, none, none, none] M = some (.bl true, M) := e_isi (hix _ _) (by simp [isTy, tyOf]) rfl
        have hsl : evE cf (.slc true false (.var 0) (.con (.int 1)) (.con .non)) [some (.tup (.str w :: r)), none, none, none, none] M = some (.tup r, M) := by
          rw [evE, e_var (v := .tup (.str w :: r)) rfl]
          simp only [e_con, slcP, optI, cut1]
        have hwr : evS cf (.asg (.tup [1, 2]) (.tup (.cons (.idx (.var 0) (.con (.int 0))) (.cons (.slc true false (.var 0) (.con (.int 1)) (.con .non)) .nil)))) [some (.tup (.str w :: r)), none, none, none, none] M = some (.nx [some (.tup (.str w :: r)), some (.str w), some (.tup r), none, none], M) :=
          s_asg (e_tup (es_cons (hix _ _) (es_one hsl)) (by simp)) rfl
        have hgo : ∀ (z : PV × Mm), evSs cf (.cons (.iff (.cmp .eq (.var 1) (.con (.str "put"))) (.cons (.ret (.and (.cmp .eq (.blt .len (.cons (.var 2) .nil)) (.con (.int 2))) (.and (.call i_l_is_name (.cons (.idx (.var 2) (.con (.int 0))) .nil)) (.call i_l_is_plain (.cons (.idx (.var 2) (.con (.int 1))) .nil))))) .nil) .nil) (.cons (.iff (.cmp .eq (.var 1) (.con (.str "drop"))) (.cons (.ret (.and (.cmp .eq (.blt .len (.cons (.var 2) .nil)) (.con (.int 1))) (.call i_l_is_name (.cons (.idx (.var 2) (.con (.int 0))) .nil)))) .nil) .nil) (.cons (.asg (.name 3) (.dct [.inr "join", .inr "save", .inr "read", .inr "load", .inr "wait"] (.cons (.con (.int 1)) (.cons (.con (.int 1)) (.cons (.con (.int 2)) (.cons (.con (.int 2)) (.cons (.con (.int 0)) .nil))))))) (.cons (.iff (.cmp .ne (.mth .get1 (.var 3) (.cons (.var 1) .nil)) (.blt .len (.cons (.var 2) .nil))) (.cons (.ret (.con (.bl false))) .nil) .nil) (.cons (.ret (.blt .all (.cons (.lc [4] (.name 4) (.seq (.var 2)) (.con (.bl true)) e1_l_is_row) .nil))) .nil))))) [some (.tup (.str w :: r)), some (.str w), some (.tup r), none, none] M = some (.ret z.1, z.2) → runD cf ir_l_is_row [.tup (.str w :: r)] M = some z := by
          intro z q
          exact run_ret rfl (ss_cons (s_ifF (e_orF (e_not (k := true) hi) (e_orF hu (e_not (k := true) hst))) ss_nil) (ss_cons hwr q))
        have len_eq : ∀ (N : Mm) (o3 o4 : Option PV) (m : Int), evE cf (.cmp .eq (.blt .len (.cons (.var 2) .nil)) (.con (.int m))) [some (.tup (.str w :: r)), some (.str w), some (.tup r), o3, o4] N = some (.bl (decide ((r.length : Int) = m)), N) := fun N o3 o4 m => e_cmp (e_blt (es_one (e_var rfl)) rfl) e_con rfl
        have eqw : ∀ (N : Mm) (o3 o4 : Option PV) (z : Str), evE cf (.cmp .eq (.var 1) (.con (.str z))) [some (.tup (.str w :: r)), some (.str w), some (.tup r), o3, o4] N = some (.bl (decide (w = z)), N) := fun N o3 o4 z => e_cmp (e_var rfl) e_con rfl
        by_cases h1 : w = "put"
        · have e1 := eqw M none none "put"
          rw [decide_eq_true h1] at e1
          by_cases hq : (r.length : Int) = 2
          · have e2 := len_eq M none none 2
            rw [decide_eq_true hq] at e2
            obtain ⟨a, c, rfl⟩ : ∃ a c, r = [a, c] := by
              match r, hq with
              | [a, c], _ => exact ⟨a, c, rfl⟩
              | [], hq => simp at hq
              | [_], hq => simp at hq
              | _ :: _ :: _ :: _, hq => simp at hq; omega
            · obtain ⟨N1, n1, F1⟩ := Nm M a (hr a (by simp))
              obtain ⟨N2, n2, F2⟩ := Pl N1 c ((hr c (by simp)).frm (F1.mono (by simp)))
              have ea : evE cf (.call i_l_is_name (.cons (.idx (.var 2) (.con (.int 0))) .nil)) [some (.tup [.str w, a, c]), some (.str w), some (.tup [a, c]), none, none] M = some (.bl (keyB a), N1) := e_call (es_one (e_idx (e_var rfl) e_con at0)) n1
              have ec : evE cf (.call i_l_is_plain (.cons (.idx (.var 2) (.con (.int 1))) .nil)) [some (.tup [.str w, a, c]), some (.str w), some (.tup [a, c]), none, none] N1 = some (.bl (numB c), N2) := e_call (es_one (e_idx (e_var rfl) e_con at1)) n2
              have hz : evtB (.tup [.str w, a, c]) = (keyB a && numB c) := by simp [evtB, h1]
              rw [hz]
              cases hka : keyB a with
              | true =>
                rw [hka] at ea
                exact ⟨N2, hgo (.bl (numB c), N2) (ss_if (s_ifT e1 (ss_ret (e_andT e2 (e_andT ea ec))))), F1.trans F2⟩
              | false =>
                rw [hka] at ea
                exact ⟨N1, hgo (.bl false, N1) (ss_if (s_ifT e1 (ss_ret (e_andT e2 (e_andF ea))))), F1⟩
          · have e2 := len_eq M none none 2
            rw [decide_eq_false hq] at e2
            have hz : evtB (.tup (.str w :: r)) = false := by
              match r, hq with
              | [], _ => simp [evtB, h1]
              | [_], _ => simp [evtB, h1]
              | [_, _], hq => exact absurd rfl hq
              | _ :: _ :: _ :: _, _ => simp [evtB, h1]
            rw [hz]
            exact ⟨M, hgo (.bl false, M) (ss_if (s_ifT e1 (ss_ret (e_andF e2)))), .refl⟩
        have e1 := eqw M none none "put"
        rw [decide_eq_false h1] at e1
        by_cases h2 : w = "drop"
        · have e3 := eqw M none none "drop"
          rw [decide_eq_true h2] at e3
          by_cases hq : (r.length : Int) = 1
          · have e2 := len_eq M none none 1
            rw [decide_eq_true hq] at e2
            obtain ⟨a, rfl⟩ : ∃ a, r = [a] := by
              match r, hq with
              | [a], _ => exact ⟨a, rfl⟩
              | [], hq => simp at hq
              | _ :: _ :: _, hq => simp at hq; omega
            · obtain ⟨N1, n1, F1⟩ := Nm M a (hr a (by simp))
              have ea : evE cf (.call i_l_is_name (.cons (.idx (.var 2) (.con (.int 0))) .nil)) [some (.tup [.str w, a]), some (.str w), some (.tup [a]), none, none] M = some (.bl (keyB a), N1) := e_call (es_one (e_idx (e_var rfl) e_con at0)) n1
              have hz : evtB (.tup [.str w, a]) = keyB a := by simp [evtB, h2]
              rw [hz]
              exact ⟨N1, hgo (.bl (keyB a), N1) (ss_cons (s_ifF e1 ss_nil) (ss_if (s_ifT e3 (ss_ret (e_andT e2 ea))))), F1⟩
          · have e2 := len_eq M none none 1
            rw [decide_eq_false hq] at e2
            have hz : evtB (.tup (.str w :: r)) = false := by
              match r, hq with
              | [], _ => simp [evtB, h2]
              | [_], hq => exact absurd rfl hq
              | _ :: _ :: _, _ => simp [evtB, h2]
            rw [hz]
            exact ⟨M, hgo (.bl false, M) (ss_cons (s_ifF e1 ss_nil) (ss_if (s_ifT e3 (ss_ret (e_andF e2))))), .refl⟩
        have e3 := eqw M none none "drop"
        rw [decide_eq_false h2] at e3
        -- by the sizes
        have hdic : (M ++ [Ob.dic szs])[M.length]? = some (.dic szs) := get_last
        have hget : evE cf (.mth .get1 (.var 3) (.cons (.var 1) .nil)) [some (.tup (.str w :: r)), some (.str w), some (.tup r), some (.ref M.length), none] (M ++ [Ob.dic szs]) = some ((getD szs (.inr w)).getD .non, M ++ [Ob.dic szs]) :=
          e_mth (x := .ref M.length) (e_var rfl) (by simp only [mtOk, dicAt, hdic]; rfl) (es_one (e_var rfl)) (by simp only [mthP, dicAt, hdic, Option.bind_some, keyOf, Option.map_some])
        have hlen2 : evE cf (.blt .len (.cons (.var 2) .nil)) [some (.tup (.str w :: r)), some (.str w), some (.tup r), some (.ref M.length), none] (M ++ [Ob.dic szs]) = some (.int r.length, M ++ [Ob.dic szs]) := e_blt (es_one (e_var rfl)) rfl
        have F0 : Frm [] M (M ++ [Ob.dic szs]) := .app
        have bad : eqP (M ++ [Ob.dic szs]) ((getD szs (.inr w)).getD .non) (.int r.length) = some false → evtB (.tup (.str w :: r)) = false → ∃ M', runD cf ir_l_is_row [.tup (.str w :: r)] M = some (.bl (evtB (.tup (.str w :: r))), M') ∧ Frm [] M M' := by
          intro q q2
          rw [q2]
          refine ⟨M ++ [Ob.dic szs], hgo (.bl false, M ++ [Ob.dic szs]) (ss_cons (s_ifF e1 ss_nil) (ss_cons (s_ifF e3 ss_nil) (ss_cons (s_asg (szs_ok cf _ M) rfl) (ss_if (s_ifT (e_cmp hget hlen2 (by simp only [cmpP, q]; rfl)) (ss_ret e_con)))))), F0⟩
        have fine : eqP (M ++ [Ob.dic szs]) ((getD szs (.inr w)).getD .non) (.int r.length) = some true → evtB (.tup (.str w :: r)) = r.all cntB → ∃ M', runD cf ir_l_is_row [.tup (.str w :: r)] M = some (.bl (evtB (.tup (.str w :: r))), M') ∧ Frm [] M M' := by
          intro q q2
          have hI : evI cf (.seq (.var 2)) [some (.tup (.str w :: r)), some (.str w), some (.tup r), some (.ref M.length), none] (M ++ [Ob.dic szs]) = some (.tup r, M ++ [Ob.dic szs]) := by rw [evI, e_var (v := .tup r) rfl]; rfl
          obtain ⟨M', e, F⟩ := all_lc (cf := cf) (own := [4]) (t := .name 4) (e := e1_l_is_row) (sg := [some (.tup (.str w :: r)), some (.str w), some (.tup r), some (.ref M.length), none]) r.length (fun i => cntB (r.getD i .non)) hI (by omega) .refl
            (by
              intro i N hi FN
              have hg : r.getD i .non = r[i] := by rw [List.getD_eq_getElem?_getD, List.getElem?_eq_getElem hi]; rfl
              obtain ⟨N', n1, F1⟩ := Pl N r[i] ((hr _ (List.getElem_mem hi)).frm ((F0.trans FN).mono (by simp)))
              refine ⟨r[i], [some (.tup (.str w :: r)), some (.str w), some (.tup r), some (.ref M.length), some r[i]], N', by simp [Src.get, hi], rfl, ?_, F1⟩
              rw [hg]
              unfold e1_l_is_row
              have ep : evE cf (.call i_l_is_plain (.cons (.var 4) .nil)) [some (.tup (.str w :: r)), some (.str w), some (.tup r), some (.ref M.length), some r[i]] N = some (.bl (numB r[i]), N') := e_call (es_one (e_var rfl)) n1
              generalize r[i] = y at *
              cases y with
              | int v => exact e_andT ep (e_cmp (e_var rfl) e_con rfl)
              | _ => exact e_andF ep)
            (by intro N _; simp [Src.get])
          rw [range_all r cntB _ (fun i hi => by rw [List.getD_eq_getElem?_getD, List.getElem?_eq_getElem hi]; rfl)] at e
          rw [q2]
          exact ⟨M', hgo (.bl _, M') (ss_cons (s_ifF e1 ss_nil) (ss_cons (s_ifF e3 ss_nil) (ss_cons (s_asg (szs_ok cf _ M) rfl) (ss_cons (s_ifF (e_cmp hget hlen2 (by simp only [cmpP, q]; rfl)) ss_nil) (ss_ret e))))), F0.trans F⟩
        by_cases h3 : w = "join"
        · have hg : getD szs (.inr w) = some (.int 1) := by rw [h3]; simp [szs, getD]
          by_cases hq : (1 : Int) = r.length
          · exact fine (by rw [hg]; exact congrArg some (decide_eq_true hq)) (by
                match r, hq with
                | [a], _ => simp [evtB, h3]
                | [], hq => simp at hq
                | _ :: _ :: _, hq => simp at hq; omega)
          · exact bad (by rw [hg]; exact congrArg some (decide_eq_false hq)) (by
                match r, hq with
                | [a], hq => exact absurd rfl hq
                | [], _ => simp [evtB, h3]
                | _ :: _ :: _, _ => simp [evtB, h3])
        by_cases h4 : w = "save"
        · have hg : getD szs (.inr w) = some (.int 1) := by rw [h4]; simp [szs, getD]
          by_cases hq : (1 : Int) = r.length
          · exact fine (by rw [hg]; exact congrArg some (decide_eq_true hq)) (by
                match r, hq with
                | [a], _ => simp [evtB, h4]
                | [], hq => simp at hq
                | _ :: _ :: _, hq => simp at hq; omega)
          · exact bad (by rw [hg]; exact congrArg some (decide_eq_false hq)) (by
                match r, hq with
                | [a], hq => exact absurd rfl hq
                | [], _ => simp [evtB, h4]
                | _ :: _ :: _, _ => simp [evtB, h4])
        by_cases h5 : w = "read"
        · have hg : getD szs (.inr w) = some (.int 2) := by rw [h5]; simp [szs, getD]
          by_cases hq : (2 : Int) = r.length
          · exact fine (by rw [hg]; exact congrArg some (decide_eq_true hq)) (by
                match r, hq with
                | [a, c], _ => simp [evtB, h5]
                | [], hq => simp at hq
                | [_], hq => simp at hq
                | _ :: _ :: _ :: _, hq => simp at hq; omega)
          · exact bad (by rw [hg]; exact congrArg some (decide_eq_false hq)) (by
                match r, hq with
                | [a, c], hq => exact absurd rfl hq
                | [], _ => simp [evtB, h5]
                | [_], _ => simp [evtB, h5]
                | _ :: _ :: _ :: _, _ => simp [evtB, h5])
        by_cases h6 : w = "load"
        · have hg : getD szs (.inr w) = some (.int 2) := by rw [h6]; simp [szs, getD]
          by_cases hq : (2 : Int) = r.length
          · exact fine (by rw [hg]; exact congrArg some (decide_eq_true hq)) (by
                match r, hq with
                | [a, c], _ => simp [evtB, h6]
                | [], hq => simp at hq
                | [_], hq => simp at hq
                | _ :: _ :: _ :: _, hq => simp at hq; omega)
          · exact bad (by rw [hg]; exact congrArg some (decide_eq_false hq)) (by
                match r, hq with
                | [a, c], hq => exact absurd rfl hq
                | [], _ => simp [evtB, h6]
                | [_], _ => simp [evtB, h6]
                | _ :: _ :: _ :: _, _ => simp [evtB, h6])
        by_cases h7 : w = "wait"
        · have hg : getD szs (.inr w) = some (.int 0) := by rw [h7]; simp [szs, getD]
          by_cases hq : (0 : Int) = r.length
          · exact fine (by rw [hg]; exact congrArg some (decide_eq_true hq)) (by
                match r, hq with
                | [], _ => simp [evtB, h7]
                | _ :: _, hq => simp at hq; omega)
          · exact bad (by rw [hg]; exact congrArg some (decide_eq_false hq)) (by
                match r, hq with
                | [], hq => exact absurd rfl hq
                | _ :: _, _ => simp [evtB, h7])
        have hg : getD szs (.inr w) = none := by simp [szs, getD, Ne.symm h3, Ne.symm h4, Ne.symm h5, Ne.symm h6, Ne.symm h7]
        exact bad (by rw [hg]; rfl) (by simp [evtB, h1, h2, h3, h4, h5, h6, h7])
      · have hst : evE cf (.isi (.idx (.var 0) (.con (.int 0))) [.str]) [some (.tup (y :: r)), none, none, none, none] M = some (.bl false, M) := by
          refine e_isi (hix _ _) ?_ hy.nins
          cases k with
          | zero => exact hy.elim
          | succ k =>
            cases y with
            | str w => exact absurd ⟨w, rfl⟩ hs
            | ref n => obtain ⟨_, xs, h2, _⟩ := hy; simp [isTy, tyOf, h2]
            | cl _ => exact hy.elim
            | fn _ _ => exact hy.elim
            | _ => simp [isTy, tyOf]
        have hz : evtB (.tup (y :: r)) = false := by
          cases y <;> first | rfl | exact absurd ⟨_, rfl⟩ hs
        rw [hz]
        exact ⟨M, run_ret rfl (ss_if (s_ifT (e_orF (e_not (k := true) hi) (e_orF hu (e_not (k := false) hst))) (ss_ret e_con))), .refl⟩
  | ref n =>
    obtain ⟨_, xs, h2, _⟩ := h
    exact no (by simp [isTy, tyOf, h2]) rfl
  | cl _ => exact h.elim
  | fn _ _ => exact h.elim
  | _ => exact no (by simp [isTy, tyOf]) rfl
theorem t_row (j : Nat) (b : List Nat) (k : Nat) (hk : k < 16) : Tells (cfN tab (j + 2)) i_l_is_row b (k + 1) evtB := fun M x h => row_ok hk (t_name j b k) (t_plain j b k) h
end Mp

/-! Mk5: rows that are events; the course. -/
namespace Mp
open PySem L2

def EvG : Ev → Prop
  | .put k _ => keyB (.str k) = true | .drop k => keyB (.str k) = true | .join r => 0 ≤ r | .read r u => 0 ≤ r ∧ 0 ≤ u | .save r => 0 ≤ r | .load r c => 0 ≤ r ∧ 0 ≤ c | .wait => True
theorem cnt_of {x : PV} (h : cntB x = true) : ∃ i : Int, x = .int i ∧ 0 ≤ i := by
  cases x <;> simp [cntB] at h; exact ⟨_, rfl, h⟩
theorem num_of {x : PV} (h : numB x = true) : ∃ i : Int, x = .int i := by
  cases x <;> simp [numB] at h; exact ⟨_, rfl⟩
theorem key_of {x : PV} (h : keyB x = true) : ∃ s, x = .str s ∧ keyB (.str s) = true := by
  cases x with
  | str s => exact ⟨s, rfl, h⟩
  | _ => cases h
theorem ev_of {x : PV} (h : evtB x = true) : ∃ e : Ev, x = e.pv ∧ EvG e := by
  cases x with
  | tup xs =>
    match xs, h with
    | [], h => cases h
    | .str w :: r, h =>
      simp only [evtB] at h
      split at h
      · rename_i hw; subst hw
        split at h
        · rename_i k v
          rw [Bool.and_eq_true] at h
          obtain ⟨s, rfl, hs⟩ := key_of h.1
          obtain ⟨i, rfl⟩ := num_of h.2
          exact ⟨.put s i, rfl, hs⟩
        · cases h
      split at h
      · rename_i hw; subst hw
        split at h
        · obtain ⟨s, rfl, hs⟩ := key_of h
          exact ⟨.drop s, rfl, hs⟩
        · cases h
      split at h
      · rename_i hw; subst hw
        split at h
        · obtain ⟨i, rfl, hi⟩ := cnt_of h
          exact ⟨.join i, rfl, hi⟩
        · cases h
      split at h
      · rename_i hw; subst hw
        split at h
        · rw [Bool.and_eq_true] at h
          obtain ⟨i, rfl, hi⟩ := cnt_of h.1
          obtain ⟨j, rfl, hj⟩ := cnt_of h.2
          exact ⟨.read i j, rfl, hi, hj⟩
        · cases h
      split at h
      · rename_i hw; subst hw
        split at h
        · obtain ⟨i, rfl, hi⟩ := cnt_of h
          exact ⟨.save i, rfl, hi⟩
        · cases h
      split at h
      · rename_i hw; subst hw
        split at h
        · rw [Bool.and_eq_true] at h
          obtain ⟨i, rfl, hi⟩ := cnt_of h.1
          obtain ⟨j, rfl, hj⟩ := cnt_of h.2
          exact ⟨.load i j, rfl, hi, hj⟩
        · cases h
      split at h
      · rename_i hw; subst hw
        split at h
        · exact ⟨.wait, rfl, trivial⟩
        · cases h
      · cases h
    | .non :: _, h => cases h
    | .bl _ :: _, h => cases h
    | .int _ :: _, h => cases h
    | .tup _ :: _, h => cases h
    | .ref _ :: _, h => cases h
    | .cl _ :: _, h => cases h
    | .fn _ _ :: _, h => cases h
  | _ => cases h
theorem evs_of : ∀ {xs : List PV}, xs.all evtB = true → ∃ es : List Ev, xs = es.map Ev.pv ∧ ∀ e ∈ es, EvG e
  | [], _ => ⟨[], rfl, by simp⟩
  | x :: xs, h => by
    rw [List.all_cons, Bool.and_eq_true] at h
    obtain ⟨e, rfl, he⟩ := ev_of h.1
    obtain ⟨es, rfl, hes⟩ := evs_of h.2
    exact ⟨e :: es, rfl, fun y hy => (List.mem_cons.mp hy).elim (fun z => z ▸ he) (hes y)⟩
def canB (ws : Ws) : Ev → Bool
  | .read r u => (match getD ws.seats (.inl r) with | some (.int s) => decide (s < u) && decide (u ≤ ws.many) | _ => false)
  | .save r => (getD ws.seats (.inl r)).isSome
  | .load _ c => decide (c < (ws.copies.length : Int))
  | _ => true
structure WsI (ws : Ws) (n : Nat) : Prop where
  s_ : ∀ kv ∈ ws.seats, ∃ v : Int, kv.2 = .int v
  c_ : ∀ x ∈ ws.copies, ∃ v : Int, x = .int v
  sl : ws.seats.length ≤ n
  cl : ws.copies.length ≤ n
theorem w0_i : WsI w0 0 := ⟨by simp [w0], by simp [w0], by simp [w0], by simp [w0]⟩
theorem atI_some {xs : List PV} {c : Int} (h0 : 0 ≤ c) (h1 : c < (xs.length : Int)) : ∃ x, atI xs c = some x ∧ x ∈ xs := by
  have hc : c.toNat < xs.length := by omega
  refine ⟨xs[c.toNat], ?_, List.getElem_mem hc⟩
  simp only [atI, ixN, if_pos h0, if_pos h1]
  exact List.getElem?_eq_getElem hc
theorem can_step {ws : Ws} {n : Nat} {e : Ev} (hw : WsI ws n) (h : canB ws e = true) (hg : EvG e) : ∃ ws', ws.step e = some ws' ∧ WsI ws' (n + 1) := by
  obtain ⟨h1, h2, h3, h4⟩ := hw
  have put : ∀ (p : Int) (v : PV), (∃ i : Int, v = .int i) → WsI { ws with seats := putD ws.seats (.inl p) v } (n + 1) := fun p v hv =>
    ⟨fun kv hk => (putD_mem hk).elim (h1 kv) (fun z => by obtain ⟨i, rfl⟩ := hv; exact ⟨i, by rw [z]⟩), h2, Nat.le_trans (putD_len _ _ _) (by omega), by show ws.copies.length ≤ _; omega⟩
  cases e with
  | put k v => exact ⟨_, rfl, h1, h2, by show ws.seats.length ≤ _; omega, by show ws.copies.length ≤ _; omega⟩
  | drop k => exact ⟨_, rfl, h1, h2, by show ws.seats.length ≤ _; omega, by show ws.copies.length ≤ _; omega⟩
  | join r => exact ⟨_, rfl, put r _ ⟨0, rfl⟩⟩
  | read r u => exact ⟨_, rfl, put r _ ⟨u, rfl⟩⟩
  | save r =>
    simp only [canB] at h
    obtain ⟨v, hv⟩ := Option.isSome_iff_exists.mp h
    obtain ⟨i, hi⟩ := h1 _ (getD_mem hv)
    refine ⟨{ ws with copies := ws.copies ++ [v] }, by simp only [Ws.step, hv]; rfl, h1, fun x hx => ?_, by show ws.seats.length ≤ _; omega, by show (ws.copies ++ _).length ≤ _; simp; omega⟩
    rcases List.mem_append.mp hx with hx | hx
    · exact h2 x hx
    · exact ⟨i, by simp at hx; rw [hx]; exact hi⟩
  | load r c =>
    simp only [canB, decide_eq_true_eq] at h
    obtain ⟨x, hx, hm⟩ := atI_some hg.2 h
    exact ⟨_, by simp only [Ws.step, hx]; rfl, put r x (h2 x hm)⟩
  | wait => exact ⟨_, rfl, h1, h2, by omega, by omega⟩
/-! ### the course -/
def cfld (p c : Nat) (m : Int) : List (Str × PV) := [("own_many", .int m), ("own_places", .ref p), ("own_copies", .ref c)]
structure CAt (M : Mm) (o p c : Nat) (ws : Ws) : Prop where
  o_ : M[o]? = some (.ins "Course" (cfld p c ws.many))
  p_ : M[p]? = some (.dic ws.seats)
  c_ : M[c]? = some (.lst ws.copies)
theorem CAt.ne {M : Mm} {o p c : Nat} {ws : Ws} (h : CAt M o p c ws) : o ≠ p ∧ o ≠ c ∧ p ≠ c := by
  refine ⟨?_, ?_, ?_⟩
  · intro e; subst e; have := h.o_; rw [h.p_] at this; cases this
  · intro e; subst e; have := h.o_; rw [h.c_] at this; cases this
  · intro e; subst e; have := h.p_; rw [h.c_] at this; cases this
theorem CAt.frm {S : List Nat} {M M1 : Mm} {o p c : Nat} {ws : Ws} (h : CAt M o p c ws) (a : Frm S M M1) (h1 : o ∉ S) (h2 : p ∉ S) (h3 : c ∉ S) : CAt M1 o p c ws := ⟨a.get h.o_ h1, a.get h.p_ h2, a.get h.c_ h3⟩
theorem CAt.f1 {M : Mm} {o p c : Nat} {ws : Ws} (h : CAt M o p c ws) (cf : CF) {sg : Sg} {i : Nat} (hi : sg[i]? = some (some (.ref o))) :
    evE cf (.fld "Course" "own_many" (.var i)) sg M = some (.int ws.many, M) ∧ evE cf (.fld "Course" "own_places" (.var i)) sg M = some (.ref p, M) ∧ evE cf (.fld "Course" "own_copies" (.var i)) sg M = some (.ref c, M) := by
  have hin : insAt M "Course" o = some (cfld p c ws.many) := by simp [insAt, h.o_]
  refine ⟨e_fld (e_var hi) hin ?_, e_fld (e_var hi) hin ?_, e_fld (e_var hi) hin ?_⟩ <;> simp [cfld, List.lookup]
theorem mk_ok (j : Nat) (M : Mm) : ∃ M', cfN tab (j + 2) i_mk_Course [] M = some (.ref M.length, M') ∧ CAt M' M.length (M.length + 1) (M.length + 2) w0 ∧ Frm [] M M' := by
  refine ⟨M ++ [.ins "Course" (cfld (M.length + 1) (M.length + 2) 0), .dic [], .lst []], ?_, ⟨by simp [w0], by simp [w0], by simp [w0]⟩, .app⟩
  show mkD (cfN tab (j + 1)) "Course" 24 [] M = _
  have hrun : cfN tab (j + 1) 24 [.ref M.length] (M ++ [.ins "Course" []]) = some (.non, M ++ [.ins "Course" (cfld (M.length + 1) (M.length + 2) 0), .dic [], .lst []]) := by
    show runD (cfN tab j) ir_Course_init [.ref M.length] (M ++ [.ins "Course" []]) = _
    simp [runD, ir_Course_init, evSs, evS, evE, evEs, insAt, putA, cfld, sizeLine]
  simp only [mkD, hrun]
theorem can_ok (cf : CF) {M : Mm} {o p c n : Nat} {ws : Ws} {e : Ev} (h : CAt M o p c ws) (hw : WsI ws n) : runD cf ir_Course_can [.ref o, e.pv] M = some (.bl (canB ws e), M) := by
  obtain ⟨f1, f2, f3⟩ := h.f1 cf (sg := [some (.ref o), some e.pv, none, none]) (i := 0) rfl
  have j0 : ∀ L l x, idxP L (.tup (x :: l)) (.int 0) = some x := fun L l x => at0
  have j2 : ∀ L l x y z, idxP L (.tup (x :: y :: z :: l)) (.int 2) = some z := fun L l x y z => at2
  cases e with
  | put k v => simp [runD, ir_Course_can, evSs, evS, evE, evEs, Ev.pv, j0, cmpP, isIn, inP, flatP, eqF, sizeLine, canB]
  | drop k => simp [runD, ir_Course_can, evSs, evS, evE, evEs, Ev.pv, j0, cmpP, isIn, inP, flatP, eqF, sizeLine, canB]
  | join k => simp [runD, ir_Course_can, evSs, evS, evE, evEs, Ev.pv, j0, cmpP, isIn, inP, flatP, eqF, sizeLine, canB]
  | wait => simp [runD, ir_Course_can, evSs, evS, evE, evEs, Ev.pv, j0, cmpP, isIn, inP, flatP, eqF, sizeLine, canB]
  | save r =>
    have hcut : cutP [.str "save", .int r] none (some 2) = [.str "save", .int r] := rfl
    have hin : insAt M "Course" o = some (cfld p c ws.many) := by simp [insAt, h.o_]
    simp [runD, ir_Course_can, evSs, evS, evE, evEs, Ev.pv, j0, cmpP, isIn, inP, flatP, eqF, sizeLine, canB, slcP, optI, hcut, tgP, setAll, hin, cfld, List.lookup, h.p_, keyOf]
  | load r cc =>
    have hcut : cutP [.str "load", .int r, .int cc] none (some 2) = [.str "load", .int r] := rfl
    have hin : insAt M "Course" o = some (cfld p c ws.many) := by simp [insAt, h.o_]
    simp [runD, ir_Course_can, evSs, evS, evE, evEs, Ev.pv, j0, j2, cmpP, isIn, inP, flatP, eqF, sizeLine, canB, slcP, optI, hcut, tgP, setAll, hin, cfld, List.lookup, h.c_, bltP]
  | read r u =>
    have hcut : cutP [.str "read", .int r, .int u] none (some 2) = [.str "read", .int r] := rfl
    have hin : insAt M "Course" o = some (cfld p c ws.many) := by simp [insAt, h.o_]
    cases hg : getD ws.seats (.inl r) with
    | none =>
      simp [runD, ir_Course_can, evSs, evS, evE, evEs, Ev.pv, j0, j2, cmpP, isIn, inP, flatP, eqF, sizeLine, canB, slcP, optI, hcut, tgP, setAll, hin, cfld, List.lookup, h.p_, keyOf, hg]
    | some v =>
      obtain ⟨i, hi⟩ := hw.s_ _ (getD_mem hg)
      have hi : v = .int i := hi
      subst hi
      have hix : idxP M (.ref p) (.int r) = some (.int i) := by simp only [idxP, h.p_, keyOf]; exact hg
      by_cases h1 : i < u
      · simp [runD, ir_Course_can, evSs, evS, evE, evEs, Ev.pv, j0, j2, cmpP, isIn, inP, flatP, eqF, sizeLine, canB, slcP, optI, hcut, tgP, setAll, hin, cfld, List.lookup, h.p_, keyOf, hg, hix, h1]
      · simp [runD, ir_Course_can, evSs, evS, evE, evEs, Ev.pv, j0, j2, cmpP, isIn, inP, flatP, eqF, sizeLine, canB, slcP, optI, hcut, tgP, setAll, hin, cfld, List.lookup, h.p_, keyOf, hg, hix, h1]
end Mp

/-! Mk6: is_timetable and is_whole tell the same. -/
namespace Mp
open PySem L2

theorem go_ok' (cf : CF) {M : Mm} {o p c n : Nat} {ws ws' : Ws} {e : Ev} (h : CAt M o p c ws) (he : ws.step e = some ws') (hw : WsI ws n) (hn : n < 900) :
    ∃ M', runD cf ir_Course_go [.ref o, e.pv] M = some (.non, M') ∧ CAt M' o p c ws' ∧ Frm [o, p, c] M M' := by
  obtain ⟨n1, n2, n3⟩ := h.ne
  have lo := lt_of h.o_
  have lp := lt_of h.p_
  have lc := lt_of h.c_
  have z1 : ws.seats.length < 16777216 := by have := hw.sl; omega
  have z2 : ws.copies.length < 16777216 := by have := hw.cl; omega
  have hin : insAt M "Course" o = some (cfld p c ws.many) := by simp [insAt, h.o_]
  have j0 : ∀ L l x, idxP L (.tup (x :: l)) (.int 0) = some x := fun L l x => at0
  have j2 : ∀ L l x y z, idxP L (.tup (x :: y :: z :: l)) (.int 2) = some z := fun L l x y z => at2
  cases e with
  | put k v =>
    simp only [Ws.step] at he
    cases he
    have hcut : cutP [.str "put", .str k, .int v] none (some 2) = [.str "put", .str k] := rfl
    refine ⟨M.set o (.ins "Course" (cfld p c (ws.many + 1))), ?_, ⟨by simp [lo], by rw [List.getElem?_set_ne n1]; exact h.p_, by rw [List.getElem?_set_ne n2]; exact h.c_⟩, Frm.set (by simp)⟩
    simp [runD, ir_Course_go, evSs, evS, evE, evEs, Ev.pv, j0, cmpP, isIn, inP, flatP, eqF, sizeLine, slcP, optI, hcut, tgP, setAll, hin, cfld, List.lookup, putA]
  | drop k =>
    simp only [Ws.step] at he
    cases he
    have hcut : cutP [.str "drop", .str k] none (some 2) = [.str "drop", .str k] := rfl
    refine ⟨M.set o (.ins "Course" (cfld p c (ws.many + 1))), ?_, ⟨by simp [lo], by rw [List.getElem?_set_ne n1]; exact h.p_, by rw [List.getElem?_set_ne n2]; exact h.c_⟩, Frm.set (by simp)⟩
    simp [runD, ir_Course_go, evSs, evS, evE, evEs, Ev.pv, j0, cmpP, isIn, inP, flatP, eqF, sizeLine, slcP, optI, hcut, tgP, setAll, hin, cfld, List.lookup, putA]
  | join r =>
    simp only [Ws.step] at he
    cases he
    have hcut : cutP [.str "join", .int r] none (some 2) = [.str "join", .int r] := rfl
    refine ⟨M.set p (.dic (putD ws.seats (.inl r) (.int 0))), ?_, ⟨by rw [List.getElem?_set_ne (Ne.symm n1)]; exact h.o_, by simp [lp], by rw [List.getElem?_set_ne n3]; exact h.c_⟩, Frm.set (by simp)⟩
    simp [runD, ir_Course_go, evSs, evS, evE, evEs, Ev.pv, j0, cmpP, isIn, inP, flatP, eqF, sizeLine, slcP, optI, hcut, tgP, setAll, hin, cfld, List.lookup, stoP, h.p_, keyOf, z1]
  | read r u =>
    simp only [Ws.step] at he
    cases he
    have hcut : cutP [.str "read", .int r, .int u] none (some 2) = [.str "read", .int r] := rfl
    refine ⟨M.set p (.dic (putD ws.seats (.inl r) (.int u))), ?_, ⟨by rw [List.getElem?_set_ne (Ne.symm n1)]; exact h.o_, by simp [lp], by rw [List.getElem?_set_ne n3]; exact h.c_⟩, Frm.set (by simp)⟩
    simp [runD, ir_Course_go, evSs, evS, evE, evEs, Ev.pv, j0, j2, cmpP, isIn, inP, flatP, eqF, sizeLine, slcP, optI, hcut, tgP, setAll, hin, cfld, List.lookup, stoP, h.p_, keyOf, z1]
  | save r =>
    simp only [Ws.step] at he
    obtain ⟨v, hv, he⟩ := Option.map_eq_some_iff.mp he
    subst he
    have hcut : cutP [.str "save", .int r] none (some 2) = [.str "save", .int r] := rfl
    have hix : idxP M (.ref p) (.int r) = some v := by simp only [idxP, h.p_, keyOf]; exact hv
    refine ⟨M.set c (.lst (ws.copies ++ [v])), ?_, ⟨by rw [List.getElem?_set_ne (Ne.symm n2)]; exact h.o_, by rw [List.getElem?_set_ne (Ne.symm n3)]; exact h.p_, by simp [lc]⟩, Frm.set (by simp)⟩
    simp [runD, ir_Course_go, evSs, evS, evE, evEs, Ev.pv, j0, cmpP, isIn, inP, flatP, eqF, sizeLine, slcP, optI, hcut, tgP, setAll, hin, cfld, List.lookup, mthP, mtOk, lstAt, h.c_, hix, z2]
  | load r cc =>
    simp only [Ws.step] at he
    obtain ⟨v, hv, he⟩ := Option.map_eq_some_iff.mp he
    subst he
    have hcut : cutP [.str "load", .int r, .int cc] none (some 2) = [.str "load", .int r] := rfl
    have hix : idxP M (.ref c) (.int cc) = some v := by simp only [idxP, h.c_]; exact hv
    refine ⟨M.set p (.dic (putD ws.seats (.inl r) v)), ?_, ⟨by rw [List.getElem?_set_ne (Ne.symm n1)]; exact h.o_, by simp [lp], by rw [List.getElem?_set_ne n3]; exact h.c_⟩, Frm.set (by simp)⟩
    simp [runD, ir_Course_go, evSs, evS, evE, evEs, Ev.pv, j0, j2, cmpP, isIn, inP, flatP, eqF, sizeLine, slcP, optI, hcut, tgP, setAll, hin, cfld, List.lookup, stoP, h.p_, keyOf, z1, hix]
  | wait =>
    simp only [Ws.step] at he
    cases he
    refine ⟨M, ?_, h, .refl⟩
    simp [runD, ir_Course_go, evSs, evS, evE, evEs, Ev.pv, j0, cmpP]
/-- can the event at i come -/
def okE (es : List Ev) (i : Nat) : Bool := match w0.run (es.take i) with | some ws => canB ws (es.getD i .wait) | none => false
theorem run_next {es : List Ev} {i : Nat} {ws ws' : Ws} (hi : i < es.length) (h : w0.run (es.take i) = some ws) (hs : ws.step es[i] = some ws') : w0.run (es.take (i + 1)) = some ws' := by
  rw [List.take_succ_eq_append_getElem hi]
  exact Ws.run_app h hs
def HCa (cf : CF) : Prop := ∀ (M : Mm) (o p c n : Nat) (ws : Ws) (e : Ev), CAt M o p c ws → WsI ws n → cf i_Course_can [.ref o, e.pv] M = some (.bl (canB ws e), M)
theorem hca (j : Nat) : HCa (cfN tab (j + 1)) := fun M o p c n ws e h hw => can_ok (cfN tab j) h hw
def HGo (cf : CF) : Prop := ∀ (M : Mm) (o p c n : Nat) (ws ws' : Ws) (e : Ev), CAt M o p c ws → ws.step e = some ws' → WsI ws n → n < 900 → ∃ M', cf i_Course_go [.ref o, e.pv] M = some (.non, M') ∧ CAt M' o p c ws' ∧ Frm [o, p, c] M M'
theorem hgo (j : Nat) : HGo (cfN tab (j + 1)) := fun M o p c n ws ws' e h hs hw hn => go_ok' (cfN tab j) h hs hw hn
def HMk (cf : CF) : Prop := ∀ M : Mm, ∃ M', cf i_mk_Course [] M = some (.ref M.length, M') ∧ CAt M' M.length (M.length + 1) (M.length + 2) w0 ∧ Frm [] M M'
theorem hmk (j : Nat) : HMk (cfN tab (j + 2)) := fun M => mk_ok j M
theorem okE_at {es : List Ev} {i : Nat} {ws : Ws} (hi : i < es.length) (h : w0.run (es.take i) = some ws) : okE es i = canB ws es[i] := by
  unfold okE
  rw [h]
  have : es.getD i .wait = es[i] := by rw [List.getD_eq_getElem?_getD, List.getElem?_eq_getElem hi]; rfl
  simp only [this]
theorem course_ok {cf : CF} (Ca : HCa cf) (Go : HGo cf) (Mk : HMk cf) {M : Mm} {es : List Ev} (hg : ∀ e ∈ es, EvG e) (hl : es.length < 800) :
    ∃ M', evSs cf (.cons (.asg (.name 1) (.call i_mk_Course .nil)) (.cons (.for_ (.name 2) (.seq (.var 0)) b1_is_timetable) (.cons (.ret (.con (.bl true))) .nil))) [some (.tup (es.map Ev.pv)), none, none] M = some (.ret (.bl ((List.range es.length).all (okE es))), M') ∧ Frm [] M M' := by
  obtain ⟨M1, e1, C1, F1⟩ := Mk M
  let I : Nat → Sg → Mm → Prop := fun i sg N => ∃ o2 ws, sg = [some (.tup (es.map Ev.pv)), some (.ref M.length), o2] ∧ w0.run (es.take i) = some ws ∧ WsI ws i ∧ CAt N M.length (M.length + 1) (M.length + 2) ws ∧ Frm [] M N
  have key := forL_till (src := .tup (es.map Ev.pv)) (bind := tgP (.name 2)) (body := fun sg M => evSs cf b1_is_timetable sg M) I (fun N => Frm [] M N) (okE es) (.bl false) (n := es.length)
    (by
      intro i sg N hi hI
      obtain ⟨o2, ws, rfl, R, W, C, F⟩ := hI
      refine ⟨es[i].pv, [some (.tup (es.map Ev.pv)), some (.ref M.length), some es[i].pv], by simp [Src.get, hi], rfl, ?_⟩
      have hok := okE_at hi R
      have hin : insAt N "Course" M.length = some (cfld (M.length + 1) (M.length + 2) ws.many) := by simp [insAt, C.o_]
      have hcan : evE cf (.mc "Course" "can" i_Course_can (.var 1) (.cons (.var 2) .nil)) [some (.tup (es.map Ev.pv)), some (.ref M.length), some es[i].pv] N = some (.bl (canB ws es[i]), N) :=
        e_mc (e_var rfl) hin (by simp [cfld, List.lookup]) (es_one (e_var rfl)) (Ca N _ _ _ _ ws es[i] C W)
      cases hc : canB ws es[i] with
      | true =>
        rw [hc] at hcan
        obtain ⟨ws', hs, W'⟩ := can_step W hc (hg _ (List.getElem_mem hi))
        obtain ⟨N', g1, C', F'⟩ := Go N _ _ _ i ws ws' es[i] C hs W (by omega)
        refine .inl ⟨hok.trans hc, [some (.tup (es.map Ev.pv)), some (.ref M.length), some es[i].pv], N', ?_, some es[i].pv, ws', rfl, run_next hi R hs, W', C', F.comp' F' (by simp)⟩
        exact ss_cons (s_ifF (e_not (k := true) hcan) ss_nil) (ss_cons (s_exp (e_mc (e_var rfl) hin (by simp [cfld, List.lookup]) (es_one (e_var rfl)) g1)) ss_nil)
      | false =>
        rw [hc] at hcan
        exact .inr ⟨hok.trans hc, N, ss_if (s_ifT (e_not (k := false) hcan) (ss_ret e_con)), F⟩)
    (by intro sg N _; simp [Src.get]) bigN 0 [some (.tup (es.map Ev.pv)), some (.ref M.length), none] M1 (by unfold bigN; omega) (Nat.zero_le _) ⟨none, w0, rfl, rfl, w0_i, C1, F1⟩
  have hmk : evS cf (.asg (.name 1) (.call i_mk_Course .nil)) [some (.tup (es.map Ev.pv)), none, none] M = some (.nx [some (.tup (es.map Ev.pv)), some (.ref M.length), none], M1) := s_asg (e_call es_nil e1) rfl
  have hfor : ∀ z, forL (.tup (es.map Ev.pv)) (tgP (.name 2)) (fun sg M => evSs cf b1_is_timetable sg M) bigN 0 [some (.tup (es.map Ev.pv)), some (.ref M.length), none] M1 = z → evS cf (.for_ (.name 2) (.seq (.var 0)) b1_is_timetable) [some (.tup (es.map Ev.pv)), some (.ref M.length), none] M1 = z := by
    intro z q
    have hI : evI cf (.seq (.var 0)) [some (.tup (es.map Ev.pv)), some (.ref M.length), none] M1 = some (.tup (es.map Ev.pv), M1) := by rw [evI, e_var (v := .tup (es.map Ev.pv)) rfl]; rfl
    rw [evS, hI]; exact q
  rcases key with ⟨hall, sg', M', h1, o2, ws, hsg, R, W, C, F⟩ | ⟨⟨j, _, hj, hno⟩, M', h1, F⟩
  · refine ⟨M', ?_, F⟩
    have : (List.range es.length).all (okE es) = true := List.all_eq_true.mpr fun i hi => hall i (Nat.zero_le _) (by simpa using hi)
    rw [this]
    exact ss_cons hmk (ss_cons (hfor _ h1) (ss_ret e_con))
  · refine ⟨M', ?_, F⟩
    have : (List.range es.length).all (okE es) = false := by
      rw [List.all_eq_false]
      exact ⟨j, by simpa using hj, by simp [hno]⟩
    rw [this]
    refine ss_cons hmk ?_
    rw [evSs, hfor _ h1]
/-- one turn of the law's own reading -/
def WTurn (cf : CF) (T : PV) (N : Mm) (w s c n : Nat) (ws : Ws) (e : Ev) : Prop :=
    (canB ws e = true ∧ ∃ ws' N', evSs cf b1_l_is_whole [some T, some (.ref w), some e.pv] N = some (.nx [some T, some (.ref w), some e.pv], N') ∧ ws.step e = some ws' ∧ WsI ws' (n + 1) ∧ WAt N' w s c ws' ∧ Frm [w, s, c] N N') ∨
    (canB ws e = false ∧ evSs cf b1_l_is_whole [some T, some (.ref w), some e.pv] N = some (.ret (.bl false), N))
theorem whole_turn {cf : CF} (H : HM cf) {T : PV} {N : Mm} {w s c n : Nat} {ws : Ws} {e : Ev} (W : WAt N w s c ws) (I : WsI ws n) (hn : n < 900) (hg : EvG e) : WTurn cf T N w s c n ws e := by
  have iS : idxP N (.ref w) (.str "seats") = some (.ref s) := by have := W.w_; simp [idxP, this, keyOf, getD, wdic]
  have iC : idxP N (.ref w) (.str "copies") = some (.ref c) := by have := W.w_; simp [idxP, this, keyOf, getD, wdic]
  have iM : idxP N (.ref w) (.str "many") = some (.int ws.many) := by have := W.w_; simp [idxP, this, keyOf, getD, wdic]
  have j0 : ∀ L l x, idxP L (.tup (x :: l)) (.int 0) = some x := fun L l x => at0
  have j1 : ∀ L l x y, idxP L (.tup (x :: y :: l)) (.int 1) = some y := fun L l x y => at1
  have j2 : ∀ L l x y z, idxP L (.tup (x :: y :: z :: l)) (.int 2) = some z := fun L l x y z => at2
  have hsl := I.sl
  have hcl := I.cl
  have yes : canB ws e = true → (∀ N', cf i_l_moved [.ref w, e.pv] N = some (.non, N') → evSs cf b1_l_is_whole [some T, some (.ref w), some e.pv] N = some (.nx [some T, some (.ref w), some e.pv], N')) → WTurn cf T N w s c n ws e := fun hc hb => by
    obtain ⟨ws', hs, I'⟩ := can_step I hc hg
    obtain ⟨N', g1, W', F', _⟩ := H N w s c ws ws' e W hs (by omega) (by omega)
    exact .inl ⟨hc, ws', N', hb N' g1, hs, I', W', F'⟩
  cases e with
  | put k v => exact yes rfl fun N' g => by simp [b1_l_is_whole, evSs, evS, evE, evEs, Ev.pv, j0, j1, cmpP, isIn, inP, flatP, eqF, sizeLine] at g ⊢; simp [g]
  | drop k => exact yes rfl fun N' g => by simp [b1_l_is_whole, evSs, evS, evE, evEs, Ev.pv, j0, j1, cmpP, isIn, inP, flatP, eqF, sizeLine] at g ⊢; simp [g]
  | join r => exact yes rfl fun N' g => by simp [b1_l_is_whole, evSs, evS, evE, evEs, Ev.pv, j0, j1, cmpP, isIn, inP, flatP, eqF, sizeLine] at g ⊢; simp [g]
  | wait => exact yes rfl fun N' g => by simp [b1_l_is_whole, evSs, evS, evE, evEs, Ev.pv, j0, j1, cmpP, isIn, inP, flatP, eqF, sizeLine] at g ⊢; simp [g]
  | save r =>
    cases hg2 : getD ws.seats (.inl r) with
    | none =>
      refine .inr ⟨by simp [canB, hg2], ?_⟩
      simp [b1_l_is_whole, evSs, evS, evE, evEs, Ev.pv, j0, j1, cmpP, isIn, inP, flatP, eqF, sizeLine, iS, W.s_, keyOf, hg2]
    | some v =>
      refine yes (by simp [canB, hg2]) fun N' g => ?_
      simp [b1_l_is_whole, evSs, evS, evE, evEs, Ev.pv, j0, j1, cmpP, isIn, inP, flatP, eqF, sizeLine, iS, W.s_, keyOf, hg2] at g ⊢
      simp [g]
  | load r cc =>
    have hlc : bltP N .len [.ref c] = some (.int ws.copies.length, N) := by simp only [bltP, W.c_]
    by_cases hq : cc < (ws.copies.length : Int)
    · refine yes (by simp [canB, hq]) fun N' g => ?_
      have hq' : ¬ (ws.copies.length : Int) ≤ cc := by omega
      simp [b1_l_is_whole, evSs, evS, evE, evEs, Ev.pv, j0, j1, j2, cmpP, isIn, inP, flatP, eqF, sizeLine, iC, hlc, hq'] at g ⊢
      simp [g]
    · refine .inr ⟨by simp [canB, hq], ?_⟩
      have hq' : (ws.copies.length : Int) ≤ cc := by omega
      simp [b1_l_is_whole, evSs, evS, evE, evEs, Ev.pv, j0, j1, j2, cmpP, isIn, inP, flatP, eqF, sizeLine, iC, hlc, hq']
  | read r u =>
    cases hg2 : getD ws.seats (.inl r) with
    | none =>
      refine .inr ⟨by simp [canB, hg2], ?_⟩
      simp [b1_l_is_whole, evSs, evS, evE, evEs, Ev.pv, j0, j1, cmpP, isIn, inP, flatP, eqF, sizeLine, iS, W.s_, keyOf, hg2]
    | some v =>
      obtain ⟨i, hi⟩ := I.s_ _ (getD_mem hg2)
      have hi : v = .int i := hi
      subst hi
      have hix : idxP N (.ref s) (.int r) = some (.int i) := by simp only [idxP, W.s_, keyOf]; exact hg2
      by_cases h1 : i < u
      · by_cases h2 : u ≤ ws.many
        · refine yes (by simp [canB, hg2, h1, h2]) fun N' g => ?_
          simp [b1_l_is_whole, evSs, evS, evE, evEs, Ev.pv, j0, j1, j2, cmpP, isIn, inP, flatP, eqF, sizeLine, iS, iM, W.s_, keyOf, hg2, hix, h1, h2] at g ⊢
          simp [g]
        · refine .inr ⟨by simp [canB, hg2, h1, h2], ?_⟩
          simp [b1_l_is_whole, evSs, evS, evE, evEs, Ev.pv, j0, j1, j2, cmpP, isIn, inP, flatP, eqF, sizeLine, iS, iM, W.s_, keyOf, hg2, hix, h1, h2]
      · refine .inr ⟨by simp [canB, hg2, h1], ?_⟩
        simp [b1_l_is_whole, evSs, evS, evE, evEs, Ev.pv, j0, j1, j2, cmpP, isIn, inP, flatP, eqF, sizeLine, iS, iM, W.s_, keyOf, hg2, hix, h1]
end Mp

/-! Mk7: is_timetable and is_whole, of any good value. -/
namespace Mp
open PySem L2

theorem whole_ok {cf : CF} (H : HM cf) {M : Mm} {es : List Ev} (hg : ∀ e ∈ es, EvG e) (hl : es.length < 800) :
    ∃ M', evSs cf (.cons (.asg (.name 1) wE) (.cons (.for_ (.name 2) (.seq (.var 0)) b1_l_is_whole) (.cons (.ret (.con (.bl true))) .nil))) [some (.tup (es.map Ev.pv)), none, none] M = some (.ret (.bl ((List.range es.length).all (okE es))), M') ∧ Frm [] M M' := by
  obtain ⟨M1, e1, W1, F1, _⟩ := wE_ok cf [some (.tup (es.map Ev.pv)), none, none] M
  let I : Nat → Sg → Mm → Prop := fun i sg N => ∃ o2 ws, sg = [some (.tup (es.map Ev.pv)), some (.ref M.length), o2] ∧ w0.run (es.take i) = some ws ∧ WsI ws i ∧ WAt N M.length (M.length + 1) (M.length + 2) ws ∧ Frm [] M N
  have key := forL_till (src := .tup (es.map Ev.pv)) (bind := tgP (.name 2)) (body := fun sg M => evSs cf b1_l_is_whole sg M) I (fun N => Frm [] M N) (okE es) (.bl false) (n := es.length)
    (by
      intro i sg N hi hI
      obtain ⟨o2, ws, rfl, R, W, C, F⟩ := hI
      refine ⟨es[i].pv, [some (.tup (es.map Ev.pv)), some (.ref M.length), some es[i].pv], by simp [Src.get, hi], rfl, ?_⟩
      have hok := okE_at hi R
      rcases whole_turn H (T := .tup (es.map Ev.pv)) C W (by omega) (hg _ (List.getElem_mem hi)) with ⟨hc, ws', N', q1, q2, q3, q4, q5⟩ | ⟨hc, q1⟩
      · exact .inl ⟨hok.trans hc, _, N', q1, some es[i].pv, ws', rfl, run_next hi R q2, q3, q4, F.comp' q5 (by simp)⟩
      · exact .inr ⟨hok.trans hc, N, q1, F⟩)
    (by intro sg N _; simp [Src.get]) bigN 0 [some (.tup (es.map Ev.pv)), some (.ref M.length), none] M1 (by unfold bigN; omega) (Nat.zero_le _) ⟨none, w0, rfl, rfl, w0_i, W1, F1⟩
  have hmk : evS cf (.asg (.name 1) wE) [some (.tup (es.map Ev.pv)), none, none] M = some (.nx [some (.tup (es.map Ev.pv)), some (.ref M.length), none], M1) := s_asg e1 rfl
  have hfor : ∀ z, forL (.tup (es.map Ev.pv)) (tgP (.name 2)) (fun sg M => evSs cf b1_l_is_whole sg M) bigN 0 [some (.tup (es.map Ev.pv)), some (.ref M.length), none] M1 = z → evS cf (.for_ (.name 2) (.seq (.var 0)) b1_l_is_whole) [some (.tup (es.map Ev.pv)), some (.ref M.length), none] M1 = z := by
    intro z q
    have hI : evI cf (.seq (.var 0)) [some (.tup (es.map Ev.pv)), some (.ref M.length), none] M1 = some (.tup (es.map Ev.pv), M1) := by rw [evI, e_var (v := .tup (es.map Ev.pv)) rfl]; rfl
    rw [evS, hI]; exact q
  rcases key with ⟨hall, sg', M', h1, o2, ws, hsg, R, W, C, F⟩ | ⟨⟨j, _, hj, hno⟩, M', h1, F⟩
  · refine ⟨M', ?_, F⟩
    have : (List.range es.length).all (okE es) = true := List.all_eq_true.mpr fun i hi => hall i (Nat.zero_le _) (by simpa using hi)
    rw [this]
    exact ss_cons hmk (ss_cons (hfor _ h1) (ss_ret e_con))
  · refine ⟨M', ?_, F⟩
    have : (List.range es.length).all (okE es) = false := by
      rw [List.all_eq_false]
      exact ⟨j, by simpa using hj, by simp [hno]⟩
    rw [this]
    refine ss_cons hmk ?_
    rw [evSs, hfor _ h1]
/-- both tell v of x from M on -/
structure Both (cf : CF) (b : List Nat) (M : Mm) (x : PV) (v : Bool) : Prop where
  t : ∀ N, Frm b M N → ∃ N', cf i_is_timetable [x] N = some (.bl v, N') ∧ Frm [] N N'
  w : ∀ N, Frm b M N → ∃ N', cf i_l_is_whole [x] N = some (.bl v, N') ∧ Frm [] N N'
theorem all_rows {cf : CF} {b : List Nat} {k f : Nat} (E1 : Tells cf f b k evtB) {N : Mm} {xs : List PV} {o1 o2 : Option PV} (hx : ∀ x ∈ xs, Gd b k N x) (hl : xs.length < 1000) :
    ∃ N', evE cf (.blt .all (.cons (.lc [2] (.name 2) (.seq (.var 0)) (.con (.bl true)) (.call f (.cons (.var 2) .nil))) .nil)) [some (.tup xs), o1, none] N = some (.bl (xs.all evtB), N') ∧ Frm [] N N' := by
  have hI : evI cf (.seq (.var 0)) [some (.tup xs), o1, none] N = some (.tup xs, N) := by rw [evI, e_var (v := .tup xs) rfl]; rfl
  obtain ⟨M', e, F⟩ := all_lc (cf := cf) (own := [2]) (t := .name 2) (e := .call f (.cons (.var 2) .nil)) (sg := [some (.tup xs), o1, none]) xs.length (fun i => evtB (xs.getD i .non)) hI (by omega) .refl
    (by
      intro i N1 hi FN
      have hg : xs.getD i .non = xs[i] := by rw [List.getD_eq_getElem?_getD, List.getElem?_eq_getElem hi]; rfl
      obtain ⟨N', n1, F1⟩ := E1 N1 xs[i] ((hx _ (List.getElem_mem hi)).frm (FN.mono (by simp)))
      refine ⟨xs[i], [some (.tup xs), o1, some xs[i]], N', by simp [Src.get, hi], rfl, ?_, F1⟩
      rw [hg]
      exact e_call (es_one (e_var rfl)) n1)
    (by intro N _; simp [Src.get])
  rw [range_all xs evtB _ (fun i hi => by rw [List.getD_eq_getElem?_getD, List.getElem?_eq_getElem hi]; rfl)] at e
  exact ⟨M', e, F⟩
theorem both_ok {cf0 cf : CF} {b : List Nat} {k : Nat} (ht : ∀ x M, cf i_is_timetable [x] M = runD cf0 ir_is_timetable [x] M) (hw : ∀ x M, cf i_l_is_whole [x] M = runD cf0 ir_l_is_whole [x] M) (E1 : Tells cf0 i_is_event b k evtB) (E2 : Tells cf0 i_l_is_row b k evtB) (Ca : HCa cf0) (Go : HGo cf0) (Mk : HMk cf0) (H : HM cf0) {M : Mm} {x : PV} (h : Gd b (k + 1) M x) :
    ∃ v, Both cf b M x v := by
  have no : (∀ N, Frm b M N → [Ty.tuple].any (isTy N x) = false) → ∃ v, Both cf b M x v := by
    intro q
    refine ⟨false, ⟨fun N F => ?_, fun N F => ?_⟩⟩
    · rw [ht]
      exact ⟨N, run_ret rfl (ss_if (s_ifT (e_orT (e_not (k := false) (e_isi (e_var rfl) (q N F) (h.frm F).nins))) (ss_ret e_con))), .refl⟩
    · rw [hw]
      exact ⟨N, run_ret rfl (ss_if (s_ifT (e_orT (e_not (k := false) (e_isi (e_var rfl) (q N F) (h.frm F).nins))) (ss_ret e_con))), .refl⟩
  cases x with
  | tup xs =>
    have hl : xs.length < 500 := h.1
    have hi : ∀ N, evE cf0 (.isi (.var 0) [.tuple]) [some (.tup xs), none, none] N = some (.bl true, N) := fun N => e_isi (e_var rfl) (by simp [isTy, tyOf]) rfl
    cases ha : xs.all evtB with
    | false =>
      refine ⟨false, ⟨fun N F => ?_, fun N F => ?_⟩⟩
      · obtain ⟨N', e, F'⟩ := all_rows E1 (o1 := none) (o2 := none) (fun x hx => (h.2 x hx).frm F) (by omega : xs.length < 1000)
        rw [ha] at e
        rw [ht]
        exact ⟨N', run_ret rfl (ss_if (s_ifT (e_orF (e_not (k := true) (hi N)) (e_not (k := false) e)) (ss_ret e_con))), F'⟩
      · obtain ⟨N', e, F'⟩ := all_rows E2 (o1 := none) (o2 := none) (fun x hx => (h.2 x hx).frm F) (by omega : xs.length < 1000)
        rw [ha] at e
        rw [hw]
        exact ⟨N', run_ret rfl (ss_if (s_ifT (e_orF (e_not (k := true) (hi N)) (e_not (k := false) e)) (ss_ret e_con))), F'⟩
    | true =>
      obtain ⟨es, rfl, hes⟩ := evs_of ha
      have hle : es.length < 800 := by simp at hl; omega
      refine ⟨(List.range es.length).all (okE es), ⟨fun N F => ?_, fun N F => ?_⟩⟩
      · obtain ⟨N', e, F'⟩ := all_rows E1 (o1 := none) (o2 := none) (fun x hx => (h.2 x hx).frm F) (by omega : (es.map Ev.pv).length < 1000)
        rw [ha] at e
        obtain ⟨N2, e2, F2⟩ := course_ok Ca Go Mk (M := N') hes hle
        rw [ht]
        exact ⟨N2, run_ret rfl (ss_cons (s_ifF (e_orF (e_not (k := true) (hi N)) (e_not (k := true) e)) ss_nil) e2), F'.trans F2⟩
      · obtain ⟨N', e, F'⟩ := all_rows E2 (o1 := none) (o2 := none) (fun x hx => (h.2 x hx).frm F) (by omega : (es.map Ev.pv).length < 1000)
        rw [ha] at e
        obtain ⟨N2, e2, F2⟩ := whole_ok H (M := N') hes hle
        rw [hw]
        exact ⟨N2, run_ret rfl (ss_cons (s_ifF (e_orF (e_not (k := true) (hi N)) (e_not (k := true) e)) ss_nil) e2), F'.trans F2⟩
  | ref n =>
    obtain ⟨h1, xs, h2, _⟩ := h
    exact no fun N F => by simp [isTy, tyOf, F.get h2 (by simpa using h1)]
  | cl _ => exact h.elim
  | fn _ _ => exact h.elim
  | _ => exact no fun N F => by simp [isTy, tyOf]
theorem both (j : Nat) (b : List Nat) (k : Nat) (hk : k < 16) {M : Mm} {x : PV} (h : Gd b (k + 2) M x) : ∃ v, Both (cfN tab (j + 4)) b M x v :=
  both_ok (cf0 := cfN tab (j + 3)) (fun _ _ => rfl) (fun _ _ => rfl) (t_evt j b k) (t_row (j + 1) b k hk) (hca (j + 2)) (hgo (j + 2)) (hmk (j + 1)) (hm (j + 2)) h
end Mp

/-! Mk8: the bent timetable. -/
namespace Mp
open PySem L2

theorem cut_mem {xs : List PV} {a c : Option Int} {x : PV} (h : x ∈ cutP xs a c) : x ∈ xs := List.mem_of_mem_drop (List.mem_of_mem_take h)
theorem cut_len {xs : List PV} {a c : Option Int} : (cutP xs a c).length ≤ xs.length := by
  unfold cutP
  rw [List.length_take, List.length_drop]
  omega
/-- e gives a tuple of things of P, at most n -/
def TupOf (cf : CF) (e : E) (sg : Sg) (M M' : Mm) (P : PV → Prop) (n : Nat) : Prop := ∃ l, evE cf e sg M = some (.tup l, M') ∧ (∀ x ∈ l, P x) ∧ l.length ≤ n
section
variable {cf : CF} {sg : Sg} {M M1 M2 : Mm} {P : PV → Prop} {n m : Nat}
theorem TupOf.var {i : Nat} {xs : List PV} (hi : sg[i]? = some (some (.tup xs))) (hp : ∀ x ∈ xs, P x) (hl : xs.length ≤ n) : TupOf cf (.var i) sg M M P n := ⟨xs, e_var hi, hp, hl⟩
theorem TupOf.slc {e lo hi : E} {fl fh : Bool} {x y : PV} {a c : Option Int} (h : TupOf cf e sg M M1 P n) (h1 : evE cf lo sg M1 = some (x, M1)) (h2 : evE cf hi sg M1 = some (y, M1)) (o1 : optI fl x = some a) (o2 : optI fh y = some c) : TupOf cf (.slc fl fh e lo hi) sg M M1 P n := by
  obtain ⟨l, h3, h4, h5⟩ := h
  refine ⟨cutP l a c, ?_, fun x hx => h4 x (cut_mem hx), Nat.le_trans cut_len h5⟩
  rw [evE, h3]
  simp only [h1, h2, slcP, o1, o2]
theorem TupOf.add {a b : E} (h : TupOf cf a sg M M1 P n) (h2 : TupOf cf b sg M1 M2 P m) (hn : n + m ≤ 10000) : TupOf cf (.bop .add a b) sg M M2 P (n + m) := by
  obtain ⟨l, h3, h4, h5⟩ := h
  obtain ⟨l2, h6, h7, h8⟩ := h2
  refine ⟨l ++ l2, e_bop h3 h6 ?_, fun x hx => (List.mem_append.mp hx).elim (h4 x) (h7 x), by simp; omega⟩
  simp only [bopP]
  rw [if_pos (by have : sizeLine = 16777216 := rfl; omega)]
theorem TupOf.rev {a : E} (h : TupOf cf a sg M M1 P n) : TupOf cf (.rev a) sg M M1 P n := by
  obtain ⟨l, h3, h4, h5⟩ := h
  exact ⟨l.reverse, by rw [evE, h3], fun x hx => h4 x (by simpa using hx), by simpa using h5⟩
theorem TupOf.one {e : E} {x : PV} (h : evE cf e sg M = some (x, M1)) (hp : P x) : TupOf cf (.tup (.cons e .nil)) sg M M1 P 1 := ⟨[x], e_tup (es_one h) (by simp), by simpa using hp, by simp⟩
theorem TupOf.gd {e : E} {b : List Nat} {k : Nat} (h : TupOf cf e sg M M1 P n) (hn : n < 500) (hp : ∀ x, P x → Gd b k M1 x) : ∃ y, evE cf e sg M = some (y, M1) ∧ Gd b (k + 1) M1 y := by
  obtain ⟨l, h3, h4, h5⟩ := h
  exact ⟨.tup l, h3, by omega, fun x hx => hp x (h4 x hx)⟩
end
theorem ev_gd {b : List Nat} {M : Mm} {e : Ev} (h : EvOk e) : Gd b 2 M e.pv := by
  have hf := ev_fl h
  rw [e.pv_eq]
  refine ⟨by cases e <;> simp [Ev.rest], fun x hx => ?_⟩
  have hx' := hf x hx
  cases x with
  | str s =>
    refine ⟨?_, hx'⟩
    have kl : ∀ k : Str, KeyOk k → k.length < 1000 := by
      rintro k ⟨z, hz, rfl⟩
      simp at hz
      rcases hz with rfl | rfl | rfl | rfl <;> decide
    cases e <;> simp [Ev.word, Ev.rest] at hx
    · rcases hx with rfl | rfl
      · decide
      · exact kl _ h.1
    · rcases hx with rfl | rfl
      · decide
      · exact kl _ h
    all_goals (subst hx; decide)
  | non => trivial
  | bl _ => trivial
  | int _ => trivial
  | _ => exact hx'.elim
end Mp

/-! Mk9: the bent timetable is a good value. -/
namespace Mp
open PySem L2

def o16 (n : Nat) : List PV := [.bl true, .int (-1), .int 0, .int 1, .int 2, .int 7, .str "a", .str "A", .str "", .str "abcdefghi", .str "put", .str "wait", .non, .tup [], .ref n, .int (10 ^ 12)]
def o5 : List PV := [.str "a1", .str "a b", .str "a_b", .str "12", .str " a"]
theorem str_gd {b : List Nat} {k : Nat} {M : Mm} (s : String) (h : (Str.ofString s).length < 1000) : Gd b (k + 1) M (.str s) := ⟨h, lay_str s⟩
theorem others_ok {cf : CF} {sg : Sg} {M : Mm} {b : List Nat} (hb : ∀ i ∈ b, i < M.length) (h6 : sg.length = 8) :
    ∃ M' n, evSs cf (.cons (.asg (.name 6) (.lst (.cons (.con (.bl true)) (.cons (.neg (.con (.int 1))) (.cons (.con (.int 0)) (.cons (.con (.int 1)) (.cons (.con (.int 2)) (.cons (.con (.int 7)) (.cons (.con (.str "a")) (.cons (.con (.str "A")) (.cons (.con (.str "")) (.cons (.con (.str "abcdefghi")) (.cons (.con (.str "put")) (.cons (.con (.str "wait")) (.cons (.con .non) (.cons (.tup .nil) (.cons (.lst (.cons (.con (.int 0)) .nil)) (.cons (.bop .pow (.con (.int 10)) (.con (.int 12))) .nil)))))))))))))))))) (.cons (.asg (.name 6) (.bop .add (.var 6) (.lst (.cons (.con (.str "a1")) (.cons (.con (.str "a b")) (.cons (.con (.str "a_b")) (.cons (.con (.str "12")) (.cons (.con (.str " a")) .nil)))))))) .nil)) sg M = some (.nx (sg.set 6 (some (.ref n))), M') ∧
      Frm [] M M' ∧ n ∉ b ∧ ∃ os, M'[n]? = some (.lst os) ∧ os ≠ [] ∧ os.length < 1000 ∧ ∀ x ∈ os, Gd b 3 M' x := by
  have en : ∀ N, evE cf (.neg (.con (.int 1))) sg N = some (.int (-1), N) := fun N => by rw [evE, e_con]
  have ep : ∀ N, evE cf (.bop .pow (.con (.int 10)) (.con (.int 12))) sg N = some (.int (10 ^ 12), N) := fun N => e_bop e_con e_con (by simp only [bopP]; rw [if_pos (by decide)]; rfl)
  have ez : evE cf (.lst (.cons (.con (.int 0)) .nil)) sg M = some (.ref M.length, M ++ [Ob.lst [.int 0]]) := e_lst (es_one e_con) (by simp)
  have f1 : Frm [] M (M ++ [Ob.lst [.int 0]]) := .app
  have g1 : (M ++ [Ob.lst [PV.int 0]])[M.length]? = some (.lst [.int 0]) := get_last
  have l1 : (M ++ [Ob.lst [PV.int 0]]).length = M.length + 1 := by simp
  generalize M ++ [Ob.lst [PV.int 0]] = Ma at *
  have hes : evEs cf (.cons (.con (.bl true)) (.cons (.neg (.con (.int 1))) (.cons (.con (.int 0)) (.cons (.con (.int 1)) (.cons (.con (.int 2)) (.cons (.con (.int 7)) (.cons (.con (.str "a")) (.cons (.con (.str "A")) (.cons (.con (.str "")) (.cons (.con (.str "abcdefghi")) (.cons (.con (.str "put")) (.cons (.con (.str "wait")) (.cons (.con .non) (.cons (.tup .nil) (.cons (.lst (.cons (.con (.int 0)) .nil)) (.cons (.bop .pow (.con (.int 10)) (.con (.int 12))) .nil)))))))))))))))) sg M = some (o16 M.length, Ma) :=
    es_cons e_con (es_cons (en M) (es_cons e_con (es_cons e_con (es_cons e_con (es_cons e_con (es_cons e_con (es_cons e_con (es_cons e_con (es_cons e_con (es_cons e_con (es_cons e_con (es_cons e_con (es_cons (e_tup es_nil (by simp)) (es_cons ez (es_one (ep Ma))))))))))))))))
  have eL := e_lst hes (by simp [o16])
  have f2 : Frm [] Ma (Ma ++ [Ob.lst (o16 M.length)]) := .app
  have g2 : (Ma ++ [Ob.lst (o16 M.length)])[Ma.length]? = some (.lst (o16 M.length)) := get_last
  have l2 : (Ma ++ [Ob.lst (o16 M.length)]).length = Ma.length + 1 := by simp
  generalize Ma ++ [Ob.lst (o16 M.length)] = Mb at *
  have hv : (sg.set 6 (some (.ref Ma.length)))[6]? = some (some (.ref Ma.length)) := by rw [List.getElem?_set_self (by omega)]
  have e5 : evE cf (.lst (.cons (.con (.str "a1")) (.cons (.con (.str "a b")) (.cons (.con (.str "a_b")) (.cons (.con (.str "12")) (.cons (.con (.str " a")) .nil)))))) (sg.set 6 (some (.ref Ma.length))) Mb = some (.ref Mb.length, Mb ++ [Ob.lst o5]) := e_lst (es_cons e_con (es_cons e_con (es_cons e_con (es_cons e_con (es_one e_con))))) (by simp [o5])
  have f3 : Frm [] Mb (Mb ++ [Ob.lst o5]) := .app
  have g3 : (Mb ++ [Ob.lst o5])[Mb.length]? = some (.lst o5) := get_last
  have l3 : (Mb ++ [Ob.lst o5]).length = Mb.length + 1 := by simp
  generalize Mb ++ [Ob.lst o5] = Mc at *
  have hadd : bopP Mc .add (.ref Ma.length) (.ref Mb.length) = some (.ref Mc.length, Mc ++ [Ob.lst (o16 M.length ++ o5)]) := by
    have a1 : lstAt Mc Ma.length = some (o16 M.length) := by simp only [lstAt, f3.get g2 (by simp)]
    have a2 : lstAt Mc Mb.length = some o5 := by simp only [lstAt, g3]
    simp only [bopP, a1, a2]
    rw [if_pos (by have : sizeLine = 16777216 := rfl; simp [o16, o5]; omega)]
  have f4 : Frm [] Mc (Mc ++ [Ob.lst (o16 M.length ++ o5)]) := .app
  refine ⟨Mc ++ [Ob.lst (o16 M.length ++ o5)], Mc.length, ?_, ((f1.trans f2).trans f3).trans f4, fun z => by have := hb _ z; omega, o16 M.length ++ o5, get_last, by simp [o16], by simp [o16, o5], ?_⟩
  · refine ss_cons (s_asg eL rfl) (ss_cons (s_asg (e_bop (e_var hv) e5 hadd) ?_) ss_nil)
    show some ((sg.set 6 (some (.ref Ma.length))).set 6 (some (.ref Mc.length))) = _
    rw [List.set_set]
  · have hz : Gd b 3 (Mc ++ [Ob.lst (o16 M.length ++ o5)]) (.ref M.length) := ⟨fun z => by have := hb _ z; omega, [.int 0], f4.get (f3.get (f2.get g1 (by simp)) (by simp)) (by simp), by simp, by intro x hx; simp at hx; subst hx; trivial⟩
    intro x hx
    simp [o16, o5] at hx
    rcases hx with rfl | rfl | rfl | rfl | rfl | rfl | rfl | rfl | rfl | rfl | rfl | rfl | rfl | rfl | rfl | rfl | rfl | rfl | rfl | rfl | rfl
    any_goals exact hz
    any_goals trivial
    any_goals exact str_gd _ (by decide)
    all_goals exact ⟨by simp, by simp⟩
end Mp

/-! Mk10: bent. -/
namespace Mp
open PySem L2

theorem ss_two {cf : CF} {A B : S} {r : Ss} {sg sg' : Sg} {M M' : Mm} (h : evSs cf (.cons A (.cons B .nil)) sg M = some (.nx sg', M')) : evSs cf (.cons A (.cons B r)) sg M = evSs cf r sg' M' := by
  rw [evSs] at h
  rw [evSs]
  cases hA : evS cf A sg M with
  | none => rw [hA] at h; cases h
  | some o =>
    obtain ⟨fl, M1⟩ := o
    rw [hA] at h
    cases fl with
    | nx sg1 =>
      have h : evSs cf (.cons B .nil) sg1 M1 = some (.nx sg', M') := h
      show evSs cf (.cons B r) sg1 M1 = _
      rw [evSs] at h
      rw [evSs]
      cases hB : evS cf B sg1 M1 with
      | none => rw [hB] at h; cases h
      | some o2 =>
        obtain ⟨fl2, M2⟩ := o2
        rw [hB] at h
        cases fl2 with
        | nx sg2 =>
          have h : evSs cf .nil sg2 M2 = some (.nx sg', M') := h
          rw [evSs] at h
          cases h
          rfl
        | _ => cases h
    | _ => cases h
def HBt (cf : CF) : Prop := ∀ (M : Mm) (b : Nat) (Z : List Nat) (k : Int) (es : List Ev), b ∈ Z → (∀ i ∈ Z, i < M.length) → Bx M b k → k < 200000000000 → es ≠ [] → es.length ≤ 60 → (∀ e ∈ es, EvOk e) →
  ∃ y M', cf i_l_bent [.ref b, .tup (es.map Ev.pv)] M = some (y, M') ∧ Frm [b] M M' ∧ Bx M' b (k + 10) ∧ Gd Z 6 M' y
theorem bent_ok {cf : CF} (T : HT cf) (O : HO cf) {M : Mm} {b : Nat} {Z : List Nat} {k : Int} {es : List Ev} (hbZ : b ∈ Z) (hZ : ∀ i ∈ Z, i < M.length) (h : Bx M b k) (hk : k < 200000000000) (hne : es ≠ []) (hl : es.length ≤ 60) (hok : ∀ e ∈ es, EvOk e) :
    ∃ y M', runD cf ir_l_bent [.ref b, .tup (es.map Ev.pv)] M = some (y, M') ∧ Frm [b] M M' ∧ Bx M' b (k + 10) ∧ Gd Z 6 M' y := by
  have hbl : b < M.length := by obtain ⟨_, _, _, hb, _⟩ := h; exact lt_of hb
  have hpos : 0 < es.length := List.length_pos_iff.mpr hne
  obtain ⟨r1, l1, a1, a2, t1, B1⟩ := T M b k es.length h (by omega) (by omega) (by omega)
  have g1 : Frm [b] M (M.set b (.lst l1)) := Frm.set (by simp)
  generalize M.set b (.lst l1) = M1 at *
  obtain ⟨r2, l2, b1, b2, t2, B2⟩ := T M1 b _ 9 B1 (by omega) (by omega) (by omega)
  have g2 : Frm [b] M (M1.set b (.lst l2)) := g1.trans (Frm.set (by simp))
  generalize M1.set b (.lst l2) = M2 at *
  have hr1 : r1.toNat < es.length := by omega
  have hrow : atI (es.map Ev.pv) r1 = some es[r1.toNat].pv := by
    simp only [atI, ixN, if_pos a1, List.length_map, if_pos a2]
    show (es.map Ev.pv)[r1.toNat]? = _
    simp [hr1]
  have heo := hok _ (List.getElem_mem hr1)
  generalize es[r1.toNat] = ev at *
  have hry := ev.pv_eq
  generalize hryd : (PV.str ev.word :: ev.rest) = ry at hry
  have hryl : 1 ≤ ry.length ∧ ry.length ≤ 3 := by rw [← hryd]; cases ev <;> simp [Ev.rest]
  have hrg : ∀ N, Gd Z 2 N (.tup ry) := fun N => by rw [← hry]; exact ev_gd heo
  rw [hry] at hrow
  obtain ⟨r3, l3, c1, c2, t3, B3⟩ := T M2 b _ ry.length B2 (by omega) (by omega) (by omega)
  have g3 : Frm [b] M (M2.set b (.lst l3)) := g2.trans (Frm.set (by simp))
  generalize M2.set b (.lst l3) = M3 at *
  let rows : List PV := es.map Ev.pv
  have hrows : ∀ N, ∀ x ∈ rows, Gd Z 4 N x := fun N x hx => by
    obtain ⟨e, he, rfl⟩ := List.mem_map.mp hx
    exact (ev_gd (hok e he)).le (by omega)
  have hrl : rows.length ≤ 60 := by simp [rows]; exact hl
  obtain ⟨M5, n6, eO, fO, nO, os, oA, oN, oL, oG⟩ := others_ok (cf := cf) (sg := [some (.ref b), some (.tup rows), some (.int r1), some (.int r2), some (.tup ry), some (.int r3), none, none]) (M := M3) (b := Z) (fun i hi => g3.lt (hZ i hi)) rfl
  let sgB : Sg := [some (.ref b), some (.tup rows), some (.int r1), some (.int r2), some (.tup ry), some (.int r3), some (.ref n6), none]
  have g5 : Frm [b] M M5 := g3.trans (fO.mono (by simp))
  have B5 : Bx M5 b (k + 1 + 1 + 1) := B3.frm fO (by simp) (by omega)
  have hb5 : b < M5.length := g5.lt hbl
  have hZ5 : ∀ i ∈ Z, i < M5.length := fun i hi => g5.lt (hZ i hi)
  -- what is left to be walked
  have go : ∀ (y : PV) (M' : Mm), evSs cf (.cons (.iff (.cmp .lt (.var 3) (.con (.int 2))) (.cons (.ret (.bop .add (.slc false true (.var 1) (.con .non) (.var 2)) (.slc true false (.var 1) (.bop .add (.var 2) (.con (.int 1))) (.con .non)))) .nil) .nil) (.cons (.iff (.cmp .eq (.var 3) (.con (.int 2))) (.cons (.ret (.bop .add (.bop .add (.slc false true (.var 1) (.con .non) (.var 2)) (.slc true true (.var 1) (.var 2) (.bop .add (.var 2) (.con (.int 1))))) (.slc true false (.var 1) (.var 2) (.con .non)))) .nil) .nil) (.cons (.iff (.cmp .eq (.var 3) (.con (.int 3))) (.cons (.ret (.bop .add (.bop .add (.slc false true (.var 1) (.con .non) (.var 2)) (.rev (.slc true true (.var 1) (.var 2) (.bop .add (.var 2) (.con (.int 2)))))) (.slc true false (.var 1) (.bop .add (.var 2) (.con (.int 2))) (.con .non)))) .nil) .nil) (.cons (.iff (.cmp .eq (.var 3) (.con (.int 4))) (.cons (.ret (.call i_l_of (.cons (.var 0) (.cons (.lst (.cons (.blt .list (.cons (.var 1) .nil)) (.cons (.bop .add (.bop .add (.slc false true (.var 1) (.con .non) (.var 2)) (.tup (.cons (.blt .list (.cons (.var 4) .nil)) .nil))) (.slc true false (.var 1) (.bop .add (.var 2) (.con (.int 1))) (.con .non))) (.cons (.bop .add (.var 1) (.tup (.cons (.tup .nil) .nil))) (.cons (.tup (.cons (.var 1) .nil)) .nil))))) .nil)))) .nil) .nil) (.cons (.iff (.cmp .eq (.var 3) (.con (.int 5))) (.cons (.ret (.bop .add (.bop .add (.slc false true (.var 1) (.con .non) (.var 2)) (.tup (.cons (.bop .add (.var 4) (.tup (.cons (.con (.int 0)) .nil))) .nil))) (.slc true false (.var 1) (.bop .add (.var 2) (.con (.int 1))) (.con .non)))) .nil) .nil) (.cons (.asg (.name 7) (.bop .add (.bop .add (.slc false true (.var 4) (.con .non) (.var 5)) (.tup (.cons (.call i_l_of (.cons (.var 0) (.cons (.var 6) .nil))) .nil))) (.slc true false (.var 4) (.bop .add (.var 5) (.con (.int 1))) (.con .non)))) (.cons (.ret (.bop .add (.bop .add (.slc false true (.var 1) (.con .non) (.var 2)) (.tup (.cons (.var 7) .nil))) (.slc true false (.var 1) (.bop .add (.var 2) (.con (.int 1))) (.con .non)))) .nil))))))) sgB M5 = some (.ret y, M') → Frm [b] M5 M' → Bx M' b (k + 10) → Gd Z 6 M' y →
      ∃ y M', runD cf ir_l_bent [.ref b, .tup (es.map Ev.pv)] M = some (y, M') ∧ Frm [b] M M' ∧ Bx M' b (k + 10) ∧ Gd Z 6 M' y := by
    intro y M' q F B G
    refine ⟨y, M', run_ret rfl ?_, g5.trans F, B, G⟩
    have hlen : bltP M .len [.tup (es.map Ev.pv)] = some (.int es.length, M) := by simp [bltP]
    refine ss_cons (sg1 := [some (.ref b), some (.tup rows), some (.int r1), some (.int r2), none, none, none, none]) (M1 := M2) (s_asg (e_tup (es_cons (e_call (es_cons (e_var rfl) (es_one (e_blt (es_one (e_var rfl)) hlen))) t1) (es_one (e_call (es_cons (e_var rfl) (es_one e_con)) t2))) (by simp)) rfl) ?_
    refine ss_cons (sg1 := [some (.ref b), some (.tup rows), some (.int r1), some (.int r2), some (.tup ry), none, none, none]) (M1 := M2) (s_asg (e_idx (e_var rfl) (e_var rfl) hrow) rfl) ?_
    refine ss_cons (sg1 := [some (.ref b), some (.tup rows), some (.int r1), some (.int r2), some (.tup ry), some (.int r3), none, none]) (M1 := M3) (s_asg (e_call (es_cons (e_var rfl) (es_one (e_blt (es_one (e_var rfl)) rfl))) t3) rfl) ?_
    exact (ss_two eO).trans q
  have cw : ∀ (m : Int) (N : Mm), evE cf (.cmp .eq (.var 3) (.con (.int m))) sgB N = some (.bl (decide (r2 = m)), N) := fun m N => e_cmp (e_var rfl) e_con rfl
  have cl : evE cf (.cmp .lt (.var 3) (.con (.int 2))) sgB M5 = some (.bl (decide (r2 < 2)), M5) := e_cmp (e_var rfl) e_con rfl
  let P : PV → Prop := fun x => ∀ N, Gd Z 4 N x
  have hPr : ∀ x ∈ rows, P x := fun x hx N => hrows N x hx
  have pre : ∀ N, TupOf cf (.slc false true (.var 1) (.con .non) (.var 2)) sgB N N P 60 := fun N => TupOf.slc (TupOf.var rfl hPr hrl) e_con (e_var rfl) rfl rfl
  have post : ∀ N (m : Int), TupOf cf (.slc true false (.var 1) (.bop .add (.var 2) (.con (.int m))) (.con .non)) sgB N N P 60 := fun N m => TupOf.slc (TupOf.var rfl hPr hrl) (e_bop (e_var rfl) e_con rfl) e_con rfl rfl
  have fin : ∀ {e : E} {n : Nat}, TupOf cf e sgB M5 M5 P n → n < 500 → ∃ y, evE cf e sgB M5 = some (y, M5) ∧ Gd Z 6 M5 y := fun hT hn => by
    obtain ⟨y, q1, q2⟩ := hT.gd (b := Z) (k := 4) hn (fun x hx => hx M5)
    exact ⟨y, q1, q2.le (by omega)⟩
  have B5' : Bx M5 b (k + 10) := B5.frm (S := []) .refl (by simp) (by omega)
  by_cases w2 : r2 < 2
  · rw [decide_eq_true w2] at cl
    obtain ⟨y, q1, q2⟩ := fin (TupOf.add (pre M5) (post M5 1) (by omega)) (by omega)
    exact go y M5 (ss_if (s_ifT cl (ss_ret q1))) .refl B5' q2
  rw [decide_eq_false w2] at cl
  by_cases w3 : r2 = 2
  · have c := cw 2 M5
    rw [decide_eq_true w3] at c
    obtain ⟨y, q1, q2⟩ := fin (TupOf.add (TupOf.add (pre M5) (TupOf.slc (fl := true) (fh := true) (lo := .var 2) (hi := .bop .add (.var 2) (.con (.int 1))) (TupOf.var (i := 1) rfl hPr hrl) (e_var rfl) (e_bop (e_var rfl) e_con rfl) rfl rfl) (by omega)) (TupOf.slc (fl := true) (fh := false) (lo := .var 2) (hi := .con .non) (TupOf.var (i := 1) rfl hPr hrl) (e_var rfl) e_con rfl rfl) (by omega)) (by omega)
    exact go y M5 (ss_cons (s_ifF cl ss_nil) (ss_if (s_ifT c (ss_ret q1)))) .refl B5' q2
  have c3 := cw 2 M5
  rw [decide_eq_false w3] at c3
  by_cases w4 : r2 = 3
  · have c := cw 3 M5
    rw [decide_eq_true w4] at c
    obtain ⟨y, q1, q2⟩ := fin (TupOf.add (TupOf.add (pre M5) (TupOf.rev (TupOf.slc (fl := true) (fh := true) (lo := .var 2) (hi := .bop .add (.var 2) (.con (.int 2))) (TupOf.var (i := 1) rfl hPr hrl) (e_var rfl) (e_bop (e_var rfl) e_con rfl) rfl rfl)) (by omega)) (post M5 2) (by omega)) (by omega)
    exact go y M5 (ss_cons (s_ifF cl ss_nil) (ss_cons (s_ifF c3 ss_nil) (ss_if (s_ifT c (ss_ret q1))))) .refl B5' q2
  have c4 := cw 3 M5
  rw [decide_eq_false w4] at c4
  by_cases w5 : r2 = 4
  · have c := cw 4 M5
    rw [decide_eq_true w5] at c
    -- the four
    have el1 : evE cf (.blt .list (.cons (.var 1) .nil)) sgB M5 = some (.ref M5.length, M5 ++ [Ob.lst rows]) := e_blt (es_one (e_var rfl)) rfl
    have f6 : Frm [] M5 (M5 ++ [Ob.lst rows]) := .app
    have q6 : (M5 ++ [Ob.lst rows])[M5.length]? = some (.lst rows) := get_last
    have l6 : (M5 ++ [Ob.lst rows]).length = M5.length + 1 := by simp
    generalize M5 ++ [Ob.lst rows] = M6 at *
    have el2 : evE cf (.blt .list (.cons (.var 4) .nil)) sgB M6 = some (.ref M6.length, M6 ++ [Ob.lst ry]) := e_blt (es_one (e_var rfl)) rfl
    have f7 : Frm [] M6 (M6 ++ [Ob.lst ry]) := .app
    have q7 : (M6 ++ [Ob.lst ry])[M6.length]? = some (.lst ry) := get_last
    have l7 : (M6 ++ [Ob.lst ry]).length = M6.length + 1 := by simp
    generalize M6 ++ [Ob.lst ry] = M7 at *
    let P2 : PV → Prop := fun x => (∀ N, Gd Z 4 N x) ∨ x = .ref M6.length
    obtain ⟨x2, s1, s2, s3⟩ : TupOf cf (.bop .add (.bop .add (.slc false true (.var 1) (.con .non) (.var 2)) (.tup (.cons (.blt .list (.cons (.var 4) .nil)) .nil))) (.slc true false (.var 1) (.bop .add (.var 2) (.con (.int 1))) (.con .non))) sgB M6 M7 P2 (60 + 1 + 60) :=
      TupOf.add (TupOf.add (TupOf.slc (TupOf.var rfl (fun x hx => .inl (hPr x hx)) hrl) e_con (e_var rfl) rfl rfl) (TupOf.one el2 (.inr rfl)) (by omega)) (TupOf.slc (TupOf.var rfl (fun x hx => .inl (hPr x hx)) hrl) (e_bop (e_var rfl) e_con rfl) e_con rfl rfl) (by omega)
    have P0 : P (.tup []) := fun N => ⟨by simp, by simp⟩
    obtain ⟨x3, s4, s5, s6⟩ : TupOf cf (.bop .add (.var 1) (.tup (.cons (.tup .nil) .nil))) sgB M7 M7 P (60 + 1) := TupOf.add (TupOf.var rfl hPr hrl) (TupOf.one (e_tup es_nil (by simp)) P0) (by omega)
    have s7 : evE cf (.tup (.cons (.var 1) .nil)) sgB M7 = some (.tup [.tup rows], M7) := e_tup (es_one (e_var rfl)) (by simp)
    have eL := e_lst (es_cons el1 (es_cons s1 (es_cons s4 (es_one s7)))) (by simp)
    have f8 : Frm [] M7 (M7 ++ [Ob.lst [.ref M5.length, .tup x2, .tup x3, .tup [.tup rows]]]) := .app
    have q8 : (M7 ++ [Ob.lst [.ref M5.length, .tup x2, .tup x3, .tup [.tup rows]]])[M7.length]? = some (.lst [.ref M5.length, .tup x2, .tup x3, .tup [.tup rows]]) := get_last
    generalize M7 ++ [Ob.lst [PV.ref M5.length, .tup x2, .tup x3, .tup [.tup rows]]] = M8 at *
    have f58 : Frm [] M5 M8 := (f6.trans f7).trans f8
    obtain ⟨y, l9, hy, t9, B9⟩ := O M8 b M7.length _ _ (B5.frm f58 (by simp) (Int.le_refl _)) (by omega) q8 (by omega) (by simp) (by simp)
    have f9 : Frm [b] M8 (M8.set b (.lst l9)) := Frm.set (by simp)
    refine go y _ (ss_cons (s_ifF cl ss_nil) (ss_cons (s_ifF c3 ss_nil) (ss_cons (s_ifF c4 ss_nil) (ss_if (s_ifT c (ss_ret (e_call (es_cons (e_var rfl) (es_one eL)) t9))))))) ((f58.mono (by simp)).trans f9) (B9.frm (S := []) .refl (by simp) (by omega)) (Gd.frm (f9.mono (by simpa using hbZ)) ?_)
    have hr4 : Gd Z 5 M8 (.ref M5.length) := ⟨fun z => by have := hZ5 _ z; omega, rows, f8.get (f7.get q6 (by simp)) (by simp), by omega, fun x hx => hrows M8 x hx⟩
    have hr5 : Gd Z 4 M8 (.ref M6.length) := ⟨fun z => by have := hZ5 _ z; omega, ry, f8.get q7 (by simp), by omega, fun x hx => ((hrg M8).2 x hx).le (by decide)⟩
    simp at hy
    rcases hy with rfl | rfl | rfl | rfl
    · exact hr4.le (by omega)
    · refine Gd.le (k := 5) ⟨by omega, fun x hx => ?_⟩ (by omega)
      rcases s2 x hx with z | rfl
      · exact z M8
      · exact hr5
    · exact Gd.le (k := 5) ⟨by omega, fun x hx => s5 x hx M8⟩ (by omega)
    · refine ⟨by simp, fun x hx => ?_⟩
      simp at hx
      subst hx
      exact ⟨by omega, fun x hx => hrows M8 x hx⟩
  have c5 := cw 4 M5
  rw [decide_eq_false w5] at c5
  by_cases w6 : r2 = 5
  · have c := cw 5 M5
    rw [decide_eq_true w6] at c
    have hadd : evE cf (.bop .add (.var 4) (.tup (.cons (.con (.int 0)) .nil))) sgB M5 = some (.tup (ry ++ [.int 0]), M5) := e_bop (e_var rfl) (e_tup (es_one e_con) (by simp)) (by simp only [bopP]; rw [if_pos (by have : sizeLine = 16777216 := rfl; simp; omega)])
    have hPa : P (.tup (ry ++ [.int 0])) := fun N => Gd.le (k := 2) ⟨by simp; omega, fun x hx => (List.mem_append.mp hx).elim ((hrg N).2 x) (fun z => by simp at z; subst z; trivial)⟩ (by omega)
    obtain ⟨y, q1, q2⟩ := fin (TupOf.add (TupOf.add (pre M5) (TupOf.one hadd hPa) (by omega)) (post M5 1) (by omega)) (by omega)
    exact go y M5 (ss_cons (s_ifF cl ss_nil) (ss_cons (s_ifF c3 ss_nil) (ss_cons (s_ifF c4 ss_nil) (ss_cons (s_ifF c5 ss_nil) (ss_if (s_ifT c (ss_ret q1))))))) .refl B5' q2
  have c6 := cw 5 M5
  rw [decide_eq_false w6] at c6
  obtain ⟨z, l9, hz, t9, B9⟩ := O M5 b n6 _ os B5 (by omega) oA (fun z => nO (z ▸ hbZ)) oN oL
  have f9 : Frm [b] M5 (M5.set b (.lst l9)) := Frm.set (by simp)
  generalize M5.set b (.lst l9) = M6 at *
  have hgz : Gd Z 3 M6 z := (oG z hz).frm (f9.mono (by simpa using hbZ))
  let P3 : PV → Prop := fun x => Gd Z 3 M6 x
  have hry3 : ∀ x ∈ ry, P3 x := fun x hx => ((hrg M6).2 x hx).le (by decide)
  obtain ⟨x7, s1, s2, s3⟩ : TupOf cf (.bop .add (.bop .add (.slc false true (.var 4) (.con .non) (.var 5)) (.tup (.cons (.call i_l_of (.cons (.var 0) (.cons (.var 6) .nil))) .nil))) (.slc true false (.var 4) (.bop .add (.var 5) (.con (.int 1))) (.con .non))) sgB M5 M6 P3 (3 + 1 + 3) :=
    TupOf.add (TupOf.add (TupOf.slc (TupOf.var rfl hry3 hryl.2) e_con (e_var rfl) rfl rfl) (TupOf.one (e_call (es_cons (e_var rfl) (es_one (e_var rfl))) t9) hgz) (by omega)) (TupOf.slc (TupOf.var rfl hry3 hryl.2) (e_bop (e_var rfl) e_con rfl) e_con rfl rfl) (by omega)
  let sgC : Sg := [some (.ref b), some (.tup rows), some (.int r1), some (.int r2), some (.tup ry), some (.int r3), some (.ref n6), some (.tup x7)]
  let P4 : PV → Prop := fun x => Gd Z 4 M6 x
  have hPr4 : ∀ x ∈ rows, P4 x := fun x hx => hrows M6 x hx
  obtain ⟨x8, u1, u2, u3⟩ : TupOf cf (.bop .add (.bop .add (.slc false true (.var 1) (.con .non) (.var 2)) (.tup (.cons (.var 7) .nil))) (.slc true false (.var 1) (.bop .add (.var 2) (.con (.int 1))) (.con .non))) sgC M6 M6 P4 (60 + 1 + 60) :=
    TupOf.add (TupOf.add (TupOf.slc (TupOf.var rfl hPr4 hrl) e_con (e_var rfl) rfl rfl) (TupOf.one (e_var rfl) (show Gd Z 4 M6 (.tup x7) from ⟨by omega, s2⟩)) (by omega)) (TupOf.slc (TupOf.var rfl hPr4 hrl) (e_bop (e_var rfl) e_con rfl) e_con rfl rfl) (by omega)
  exact go (.tup x8) M6 (ss_cons (s_ifF cl ss_nil) (ss_cons (s_ifF c3 ss_nil) (ss_cons (s_ifF c4 ss_nil) (ss_cons (s_ifF c5 ss_nil) (ss_cons (s_ifF c6 ss_nil) (ss_cons (sg1 := sgC) (M1 := M6) (s_asg s1 rfl) (ss_ret u1))))))) f9 (B9.frm (S := []) .refl (by simp) (by omega)) (Gd.le (k := 5) ⟨by omega, u2⟩ (by omega))
theorem hbt (j : Nat) : HBt (cfN tab (j + 3)) := fun M b Z k es hb hZ h hk hne hl hok => bent_ok (ht (j + 1)) (ho j) hb hZ h hk hne hl hok
end Mp

/-! Ms: same, box. -/
namespace Mp
open PySem L2

/-! ### same -/
def Pt (R : PV → PV → Prop) (xs ys : List PV) : Prop := xs.length < 1000 ∧ xs.length = ys.length ∧ ∀ (i : Nat) (x y : PV), xs[i]? = some x → ys[i]? = some y → R x y
def Sm : Nat → Mm → PV → PV → Prop
  | 0 => fun _ _ _ => False
  | k + 1 => fun M x y =>
    match x, y with
    | .tup xs, .tup ys => Pt (Sm k M) xs ys
    | .ref n, .ref m => ∃ xs ys, M[n]? = some (.lst xs) ∧ M[m]? = some (.lst ys) ∧ Pt (Sm k M) xs ys
    | .non, .non => True
    | .bl a, .bl b => a = b
    | .int a, .int b => a = b
    | .str a, .str b => a = b
    | _, _ => False
theorem Sm.frm {M M' : Mm} (a : Frm [] M M') : ∀ {k : Nat} {x y : PV}, Sm k M x y → Sm k M' x y
  | 0, _, _, h => h.elim
  | k + 1, x, y, h => by
    cases x <;> cases y <;> first | exact h.elim | exact h | skip
    · exact ⟨h.1, h.2.1, fun i x y h1 h2 => (h.2.2 i x y h1 h2).frm a⟩
    · obtain ⟨xs, ys, h1, h2, h3, h4, h5⟩ := h
      exact ⟨xs, ys, a.get h1 (by simp), a.get h2 (by simp), h3, h4, fun i x y h1 h2 => (h5 i x y h1 h2).frm a⟩
theorem blsOf_rep : ∀ n : Nat, blsOf (List.replicate n (.bl true)) = some (List.replicate n true)
  | 0 => rfl
  | n + 1 => by simp [List.replicate_succ, blsOf, blsOf_rep n]
def HS (cf : CF) (k : Nat) : Prop := ∀ (M : Mm) (x y : PV), Sm k M x y → ∃ M', cf i_l_same [x, y] M = some (.bl true, M') ∧ Frm [] M M'
theorem same_all {cf : CF} {k : Nat} (H : HS cf k) {M : Mm} {x y : PV} {s t : Src} {xs ys : List PV} (hx : srcOf M x = some s) (hy : srcOf M y = some t) (hz : (s.isL && t.isL || s.isT && t.isT) = true)
    (gx : ∀ M', Frm [] M M' → ∀ i, s.get M' i = some xs[i]?) (gy : ∀ M', Frm [] M M' → ∀ i, t.get M' i = some ys[i]?) (hl : xs.length < 1000) (he : xs.length = ys.length) (h : ∀ (i : Nat) (x y : PV), xs[i]? = some x → ys[i]? = some y → Sm k M x y) :
    ∃ M', evE cf (.blt .all (.cons (.lc [2, 3] (.tup [2, 3]) (.zip (.var 0) (.var 1)) (.con (.bl true)) e1_l_same) .nil)) [some x, some y, none, none] M = some (.bl true, M') ∧ Frm [] M M' := by
  obtain ⟨M1, e1, c1, F1⟩ := lc_inv (src := .zip s t) (bind := tgP (.tup [2, 3])) (c := fun sg M => evE cf (.con (.bl true)) sg M) (e := fun sg M => evE cf e1_l_same sg M) (d := M.length) (sg := [some x, some y, none, none]) (fun i N => N[M.length]? = some (.lst (List.replicate i (.bl true))) ∧ Frm [] M N) (n := xs.length) (M := M ++ [Ob.lst []]) (by omega)
    ⟨by simp, .app⟩
    (by
      intro i N hi hI
      obtain ⟨c1, F1⟩ := hI
      have hi2 : i < ys.length := by omega
      have a1 := gx N F1 i
      have a2 := gy N F1 i
      rw [List.getElem?_eq_getElem hi] at a1
      rw [List.getElem?_eq_getElem hi2] at a2
      have sm := h i xs[i] ys[i] (List.getElem?_eq_getElem hi) (List.getElem?_eq_getElem hi2)
      obtain ⟨N1, e2, F2⟩ := H N _ _ (sm.frm F1)
      refine ⟨.tup [xs[i], ys[i]], [some x, some y, some xs[i], some ys[i]], by simp [Src.get, a1, a2], rfl, .inl ⟨N, .bl true, N1, List.replicate i (.bl true), by simp [evE], ?_, by simp [lstAt, F2.get c1 (by simp)], by simp; omega, ?_, ?_⟩⟩
      · simp [e1_l_same, evE, evEs, e2]
      · have := lt_of (F2.get c1 (by simp))
        simp [this, List.replicate_succ']
      · exact (F1.trans F2).wr (Nat.le_refl _))
    (by
      intro N hI
      obtain ⟨c1, F1⟩ := hI
      have a1 := gx N F1 xs.length
      have a2 := gy N F1 xs.length
      rw [he] at a2
      simp at a1 a2
      rw [he] at a1 ⊢
      simp [Src.get, a1, a2])
  refine ⟨M1, ?_, F1⟩
  have hI : evI cf (.zip (.var 0) (.var 1)) [some x, some y, none, none] M = some (.zip s t, M) := by
    simp only [evI, evE, List.getElem?_cons_zero, List.getElem?_cons_succ, hx, hy]
    rw [if_pos hz]
  have hE : evE cf (.lc [2, 3] (.tup [2, 3]) (.zip (.var 0) (.var 1)) (.con (.bl true)) e1_l_same) [some x, some y, none, none] M = some (.ref M.length, M1) := by
    rw [evE, hI]
    have hwp : wipeP [some x, some y, none, none] [2, 3] = [some x, some y, none, none] := rfl
    simp only [hwp, e1]; rfl
  generalize E.lc [2, 3] (.tup [2, 3]) (.zip (.var 0) (.var 1)) (.con (.bl true)) e1_l_same = q at hE
  simp [evE, evEs, hE, bltP, lstAt, c1, blsOf_rep]
theorem same_ok {cf : CF} {k : Nat} (H : HS cf k) {M : Mm} {x y : PV} (h : Sm (k + 1) M x y) : ∃ M', runD cf ir_l_same [x, y] M = some (.bl true, M') ∧ Frm [] M M' := by
  cases x with
  | tup xs =>
    cases y with
    | tup ys =>
      obtain ⟨h1, h2, h3⟩ := h
      obtain ⟨M', e, F⟩ := same_all H (M := M) (x := .tup xs) (y := .tup ys) (s := .tup xs) (t := .tup ys) rfl rfl rfl (fun _ _ _ => rfl) (fun _ _ _ => rfl) h1 h2 h3
      refine ⟨M', ?_, F⟩
      generalize hq : E.blt .all (.cons (.lc [2, 3] (.tup [2, 3]) (.zip (.var 0) (.var 1)) (.con (.bl true)) e1_l_same) .nil) = q at e
      simp [runD, ir_l_same, hq, evSs, evS, evE, evEs, isTy, tyOf, cmpP, bltP, h2, e]
    | _ => exact h.elim
  | ref n =>
    cases y with
    | ref m =>
      obtain ⟨xs, ys, q1, q2, h1, h2, h3⟩ := h
      obtain ⟨M', e, F⟩ := same_all H (M := M) (x := .ref n) (y := .ref m) (s := .lst n) (t := .lst m) (by simp [srcOf, lstAt, q1]) (by simp [srcOf, lstAt, q2]) rfl (fun N a i => by simp [Src.get, lstAt, a.get q1 (by simp)]) (fun N a i => by simp [Src.get, lstAt, a.get q2 (by simp)]) h1 h2 h3
      refine ⟨M', ?_, F⟩
      generalize hq : E.blt .all (.cons (.lc [2, 3] (.tup [2, 3]) (.zip (.var 0) (.var 1)) (.con (.bl true)) e1_l_same) .nil) = q at e
      simp [runD, ir_l_same, hq, evSs, evS, evE, evEs, isTy, tyOf, q1, q2, cmpP, bltP, h2, e]
    | _ => exact h.elim
  | non => cases y <;> first | exact h.elim | exact ⟨M, by simp [runD, ir_l_same, evSs, evS, evE, evEs, isTy, tyOf, cmpP, eqP, eqS], .refl⟩
  | bl b => cases y <;> first | exact h.elim | (cases (show b = _ from h); exact ⟨M, by simp [runD, ir_l_same, evSs, evS, evE, evEs, isTy, tyOf, cmpP, eqP, eqS], .refl⟩)
  | int b => cases y <;> first | exact h.elim | (cases (show b = _ from h); exact ⟨M, by simp [runD, ir_l_same, evSs, evS, evE, evEs, isTy, tyOf, cmpP, eqP, eqS], .refl⟩)
  | str b => cases y <;> first | exact h.elim | (cases (show b = _ from h); exact ⟨M, by simp [runD, ir_l_same, evSs, evS, evE, evEs, isTy, tyOf, cmpP, eqP, eqS], .refl⟩)
  | cl _ => cases y <;> exact h.elim
  | fn _ _ => cases y <;> exact h.elim
theorem hs (j : Nat) : ∀ k, HS (cfN tab (j + k)) k
  | 0 => fun _ _ _ h => h.elim
  | k + 1 => fun _ _ _ h => same_ok (hs j k) h
theorem Sm.lst {k : Nat} {M : Mm} {n m : Nat} {xs : List PV} (h1 : M[n]? = some (.lst xs)) (h2 : M[m]? = some (.lst xs)) (hl : xs.length < 1000) (h : ∀ x ∈ xs, Sm k M x x) : Sm (k + 1) M (.ref n) (.ref m) :=
  ⟨xs, xs, h1, h2, hl, rfl, fun i x y a b => by rw [a] at b; cases b; exact h x (List.mem_of_getElem? a)⟩
theorem Sm.tup {k : Nat} {M : Mm} {xs : List PV} (hl : xs.length < 1000) (h : ∀ x ∈ xs, Sm k M x x) : Sm (k + 1) M (.tup xs) (.tup xs) :=
  ⟨hl, rfl, fun i x y a b => by rw [a] at b; cases b; exact h x (List.mem_of_getElem? a)⟩
theorem Sm.flat {k : Nat} {M : Mm} {x : PV} (h : flatP x = true) : Sm (k + 1) M x x := by
  cases x <;> simp [flatP] at h <;> simp [Sm]
/-! ### the box -/
def HBx (cf : CF) : Prop := ∀ (M : Mm) (ns : List Int) (k : Nat), k ≤ 2 → ∃ M', cf i_l_box [.cl ns, .int k] M = some (.ref M.length, M') ∧ Bx M' M.length 0 ∧ Frm [] M M'
theorem box_ok (cf : CF) {M : Mm} {ns : List Int} {k : Nat} (hk : k ≤ 2) : ∃ M', runD cf ir_l_box [.cl ns, .int k] M = some (.ref M.length, M') ∧ Bx M' M.length 0 ∧ Frm [] M M' := by
  have key : ∀ c : Int, (∀ sg : Sg, sg[0]? = some (some (.cl ns)) → sg[1]? = some (some (.int k)) → evE cf (.ite (.cmp .lt (.var 1) (.blt .len (.cons (.var 0) .nil))) (.idx (.var 0) (.var 1)) (.con (.int 0))) sg M = some (.int c, M)) → ∃ M', runD cf ir_l_box [.cl ns, .int k] M = some (.ref M.length, M') ∧ Bx M' M.length 0 ∧ Frm [] M M' := by
    intro c hc
    have hc' := hc [some (.cl ns), some (.int k), none, none] rfl rfl
    generalize hq : E.ite (.cmp .lt (.var 1) (.blt .len (.cons (.var 0) .nil))) (.idx (.var 0) (.var 1)) (.con (.int 0)) = q at hc'
    let s : Int := (c % 2305843009213693921 + 41177 * k + 53) * 38923 % 2147483563
    let a : Int := if c < 0 then -c else c
    have ha : 0 ≤ a := by show 0 ≤ (if c < 0 then -c else c); split <;> omega
    have hp : (10 : Int) ^ 18 = 1000000000000000000 := by decide
    let d : Int := a * (if 1000000000000000000 ≤ a then 1 else 0)
    have m1 : mulOk 41177 k = true := by simp [mulOk]
    have m2 : ∀ x, mulOk x 38923 = true := fun x => by simp [mulOk]
    have m3 : ∀ (x : Int) (P : Prop) [Decidable P], mulOk x (if P then 1 else 0) = true := fun x P _ => by by_cases hP : P <;> simp [mulOk, hP]
    refine ⟨M ++ [Ob.lst [.int d, .int s, .int 0]], ?_, ⟨d, s, 0, get_last, ?_, Int.emod_nonneg _ (by decide), Int.emod_lt_of_pos _ (by decide), by decide, by decide⟩, .app⟩
    · have hb : ∀ b : Bool, (if b then (1 : Int) else 0) = if b = true then 1 else 0 := fun b => rfl
      simp [runD, ir_l_box, hq, evSs, evS, evE, evEs, tgP, hc', bltP, bopP, cmpP, m1, m2, m3, sizeLine, s, d, a]
    · show 0 ≤ a * (if 1000000000000000000 ≤ a then 1 else 0)
      split <;> omega
  by_cases hlt : k < ns.length
  · refine key ns[k] fun sg h0 h1 => ?_
    have hat : atI ns k = some ns[k] := by simp [atI, ixN, hlt]
    have : (k : Int) < ns.length := by omega
    simp [evE, evEs, h0, h1, bltP, cmpP, this, idxP, hat]
  · refine key 0 fun sg h0 h1 => ?_
    have : ¬ (k : Int) < ns.length := by omega
    simp [evE, evEs, h0, h1, bltP, cmpP, hlt]
theorem hbx (j : Nat) : HBx (cfN tab (j + 1)) := fun M ns k h => box_ok (cfN tab j) h
end Mp

/-! Mk11: one value is asked. -/
namespace Mp
open PySem L2

theorem same2 {cf : CF} (Sa : HS cf 2) {sg : Sg} {N N1 N2 : Mm} {L1 L2 : E} {n m : Nat} {v : Bool} (h1 : evE cf L1 sg N = some (.ref n, N1)) (q1 : N1[n]? = some (.lst [.bl v, .bl v])) (h2 : evE cf L2 sg N1 = some (.ref m, N2)) (q2 : N2[m]? = some (.lst [.bl v, .bl v])) (F1 : Frm [] N N1) (F2 : Frm [] N1 N2) :
    ∃ N', evE cf (.not (.call i_l_same (.cons L1 (.cons L2 .nil)))) sg N = some (.bl false, N') ∧ Frm [] N N' := by
  obtain ⟨N', e, F⟩ := Sa N2 (.ref n) (.ref m) (Sm.lst (F2.get q1 (by simp)) q2 (by simp) (by intro x hx; simp at hx; subst hx; exact Sm.flat rfl))
  exact ⟨N', e_not (k := true) (e_call (es_cons h1 (es_one h2)) e), (F1.trans F2).trans F⟩
theorem two_ok {cf : CF} {sg : Sg} {N N1 N2 : Mm} {a b : E} {v : Bool} (h1 : evE cf a sg N = some (.bl v, N1)) (h2 : evE cf b sg N1 = some (.bl v, N2)) (F1 : Frm [] N N1) (F2 : Frm [] N1 N2) :
    ∃ n N', evE cf (.lst (.cons a (.cons b .nil))) sg N = some (.ref n, N') ∧ N'[n]? = some (.lst [.bl v, .bl v]) ∧ Frm [] N N' :=
  ⟨N2.length, _, e_lst (es_cons h1 (es_one h2)) (by simp), get_last, (F1.trans F2).trans .app⟩
theorem mul_ok {cf : CF} {sg : Sg} {N N1 : Mm} {a : E} {v : Bool} (h1 : evE cf a sg N = some (.bl v, N1)) (F1 : Frm [] N N1) :
    ∃ n N', evE cf (.bop .mul (.lst (.cons a .nil)) (.con (.int 2))) sg N = some (.ref n, N') ∧ N'[n]? = some (.lst [.bl v, .bl v]) ∧ Frm [] N N' := by
  refine ⟨(N1 ++ [Ob.lst [.bl v]]).length, N1 ++ [Ob.lst [.bl v]] ++ [Ob.lst [.bl v, .bl v]], e_bop (e_lst (es_one h1) (by simp)) e_con ?_, get_last, (F1.trans .app).trans .app⟩
  have a1 : lstAt (N1 ++ [Ob.lst [.bl v]]) N1.length = some [.bl v] := by simp only [lstAt, get_last]
  simp only [bopP, a1]
  rw [if_pos ⟨by decide, by decide, by have : sizeLine = 16777216 := rfl; simp; omega⟩]
  rfl
/-- one row is asked -/
theorem row_turn {cf : CF} {b : List Nat} {k : Nat} (Sa : HS cf 2) (E1 : Tells cf i_is_event b k evtB) (E2 : Tells cf i_l_is_row b k evtB) {N : Mm} {x : PV} (h : Gd b k N x) {o0 o1 o2 o3 o4 o5 : Option PV} :
    ∃ N', evSs cf b1_l_right [o0, o1, o2, o3, o4, o5, some x, none] N = some (.nx [o0, o1, o2, o3, o4, o5, some x, none], N') ∧ Frm [] N N' := by
  obtain ⟨N1, e1, F1⟩ := E1 N x h
  obtain ⟨N2, e2, F2⟩ := E1 N1 x (h.frm (F1.mono (by simp)))
  have v6 : ∀ L, evE cf (.var 6) [o0, o1, o2, o3, o4, o5, some x, none] L = some (x, L) := fun L => e_var rfl
  obtain ⟨n, N3, e3, q3, F3⟩ := two_ok (e_call (es_one (v6 N)) e1) (e_call (es_one (v6 N1)) e2) F1 F2
  obtain ⟨N4, e4, F4⟩ := E2 N3 x (h.frm (F3.mono (by simp)))
  obtain ⟨m, N5, e5, q5, F5⟩ := mul_ok (e_call (es_one (v6 N3)) e4) F4
  obtain ⟨N6, e6, F6⟩ := same2 Sa e3 q3 e5 q5 F3 F5
  exact ⟨N6, ss_cons (s_ifF e6 ss_nil) ss_nil, F6⟩
/-- one value is asked -/
theorem val_turn {cf : CF} {b : List Nat} {k : Nat} (Sa : HS cf 2) (E1 : Tells cf i_is_event b k evtB) (E2 : Tells cf i_l_is_row b k evtB) {N : Mm} {x : PV} {v : Bool} (hB : Both cf b N x v) (h : Gd b k N x) (hx : ∀ y, (∃ xs, x = .tup xs ∧ y ∈ xs) ∨ (∃ n xs, x = .ref n ∧ N[n]? = some (.lst xs) ∧ y ∈ xs) → Gd b k N y) {o0 o1 o2 o3 o5 o6 : Option PV} :
    ∃ p5 p6 N', evSs cf b2_l_right [o0, o1, o2, o3, some x, o5, o6, none] N = some (.nx [o0, o1, o2, o3, some x, p5, p6, none], N') ∧ Frm [] N N' := by
  obtain ⟨N0, e0, F0⟩ := hB.w N .refl
  obtain ⟨N1, e1, F1⟩ := hB.t N0 (F0.mono (by simp))
  obtain ⟨N2, e2, F2⟩ := hB.t N1 ((F0.trans F1).mono (by simp))
  have v4 : ∀ L o6, evE cf (.var 4) [o0, o1, o2, o3, some x, some (.bl v), o6, none] L = some (x, L) := fun L o6 => e_var rfl
  have v5 : ∀ L o6, evE cf (.var 5) [o0, o1, o2, o3, some x, some (.bl v), o6, none] L = some (.bl v, L) := fun L o6 => e_var rfl
  obtain ⟨n, N3, e3, q3, F3⟩ := two_ok (e_call (es_one (v4 N0 o6)) e1) (e_call (es_one (v4 N1 o6)) e2) F1 F2
  obtain ⟨m, N4, e4, q4, F4⟩ := two_ok (cf := cf) (sg := [o0, o1, o2, o3, some x, some (.bl v), o6, none]) (N := N3) (v5 N3 o6) (v5 N3 o6) .refl .refl
  obtain ⟨N5, e5, F5⟩ := same2 Sa e3 q3 e4 q4 F3 F4
  have F05 : Frm [] N N5 := F0.trans F5
  -- the rows
  have rows : ∃ (s : Src) (N6 : Mm) (ys : List PV), evI cf (.seq (.ite (.isi (.var 4) [.tuple, .list]) (.var 4) (.lst (.cons (.var 4) .nil)))) [o0, o1, o2, o3, some x, some (.bl v), o6, none] N5 = some (s, N6) ∧ Frm [] N5 N6 ∧ (∀ L, Frm [] N6 L → ∀ i, s.get L i = some ys[i]?) ∧ ys.length < 1000 ∧ ∀ y ∈ ys, Gd b k N y := by
    have hni : insP N5 x = false := (h.frm (F05.mono (by simp))).nins
    cases k with
    | zero => exact h.elim
    | succ k =>
    cases x with
    | tup xs =>
      refine ⟨.tup xs, N5, xs, ?_, .refl, fun _ _ _ => rfl, by have := h.1; omega, fun y hy => hx y (.inl ⟨xs, rfl, hy⟩)⟩
      have hi : evE cf (.isi (.var 4) [.tuple, .list]) [o0, o1, o2, o3, some (.tup xs), some (.bl v), o6, none] N5 = some (.bl true, N5) := e_isi (v4 N5 o6) (by simp [isTy, tyOf]) hni
      rw [evI, e_iteT hi (v4 N5 o6)]
      rfl
    | ref r =>
      obtain ⟨hb, xs, h2, h3, h4⟩ := h
      have h5 := F05.get h2 (by simp)
      refine ⟨.lst r, N5, xs, ?_, .refl, fun L FL i => by simp [Src.get, lstAt, FL.get h5 (by simp)], by omega, fun y hy => hx y (.inr ⟨r, xs, rfl, h2, hy⟩)⟩
      have hi : evE cf (.isi (.var 4) [.tuple, .list]) [o0, o1, o2, o3, some (.ref r), some (.bl v), o6, none] N5 = some (.bl true, N5) := e_isi (v4 N5 o6) (by simp [isTy, tyOf, h5]) hni
      rw [evI, e_iteT hi (v4 N5 o6)]
      simp [srcOf, lstAt, h5]
    | cl _ => exact h.elim
    | fn _ _ => exact h.elim
    | non =>
      refine ⟨.lst N5.length, N5 ++ [Ob.lst [.non]], [.non], ?_, .app, fun L FL i => by simp [Src.get, lstAt, FL.get get_last (by simp)], by simp, fun y hy => by simp at hy; subst hy; exact h⟩
      have hi : evE cf (.isi (.var 4) [.tuple, .list]) [o0, o1, o2, o3, some .non, some (.bl v), o6, none] N5 = some (.bl false, N5) := e_isi (v4 N5 o6) (by simp [isTy, tyOf]) hni
      rw [evI, e_iteF hi (e_lst (es_one (v4 N5 o6)) (by simp))]
      simp [srcOf, lstAt]
    | bl z =>
      refine ⟨.lst N5.length, N5 ++ [Ob.lst [.bl z]], [.bl z], ?_, .app, fun L FL i => by simp [Src.get, lstAt, FL.get get_last (by simp)], by simp, fun y hy => by simp at hy; subst hy; exact h⟩
      have hi : evE cf (.isi (.var 4) [.tuple, .list]) [o0, o1, o2, o3, some (.bl z), some (.bl v), o6, none] N5 = some (.bl false, N5) := e_isi (v4 N5 o6) (by simp [isTy, tyOf]) hni
      rw [evI, e_iteF hi (e_lst (es_one (v4 N5 o6)) (by simp))]
      simp [srcOf, lstAt]
    | int z =>
      refine ⟨.lst N5.length, N5 ++ [Ob.lst [.int z]], [.int z], ?_, .app, fun L FL i => by simp [Src.get, lstAt, FL.get get_last (by simp)], by simp, fun y hy => by simp at hy; subst hy; exact h⟩
      have hi : evE cf (.isi (.var 4) [.tuple, .list]) [o0, o1, o2, o3, some (.int z), some (.bl v), o6, none] N5 = some (.bl false, N5) := e_isi (v4 N5 o6) (by simp [isTy, tyOf]) hni
      rw [evI, e_iteF hi (e_lst (es_one (v4 N5 o6)) (by simp))]
      simp [srcOf, lstAt]
    | str z =>
      refine ⟨.lst N5.length, N5 ++ [Ob.lst [.str z]], [.str z], ?_, .app, fun L FL i => by simp [Src.get, lstAt, FL.get get_last (by simp)], by simp, fun y hy => by simp at hy; subst hy; exact h⟩
      have hi : evE cf (.isi (.var 4) [.tuple, .list]) [o0, o1, o2, o3, some (.str z), some (.bl v), o6, none] N5 = some (.bl false, N5) := e_isi (v4 N5 o6) (by simp [isTy, tyOf]) hni
      rw [evI, e_iteF hi (e_lst (es_one (v4 N5 o6)) (by simp))]
      simp [srcOf, lstAt]
  obtain ⟨s, N6, ys, eI, F6, hs, hyl, hyg⟩ := rows
  let I : Nat → Sg → Mm → Prop := fun i sg L => ∃ p6, sg = [o0, o1, o2, o3, some x, some (.bl v), p6, none] ∧ Frm [] N6 L
  obtain ⟨sg', M', e7, p6, hsg, F7⟩ := for_inv (src := s) (bind := tgP (.name 6)) (body := fun sg M => evSs cf b1_l_right sg M) I (n := ys.length) (sg := [o0, o1, o2, o3, some x, some (.bl v), o6, none]) (M := N6) (by omega)
    ⟨o6, rfl, .refl⟩
    (by
      intro i sg L hi hI
      obtain ⟨p6, rfl, FL⟩ := hI
      have hg : Gd b k L ys[i] := (hyg _ (List.getElem_mem hi)).frm (((F05.trans F6).trans FL).mono (by simp))
      obtain ⟨L', q1, q2⟩ := row_turn Sa E1 E2 hg (o0 := o0) (o1 := o1) (o2 := o2) (o3 := o3) (o4 := some x) (o5 := some (.bl v))
      exact ⟨ys[i], _, _, L', by rw [hs L FL, List.getElem?_eq_getElem hi], rfl, q1, some ys[i], rfl, FL.trans q2⟩)
    (by
      intro sg L hI
      obtain ⟨p6, rfl, FL⟩ := hI
      rw [hs L FL]; simp)
  subst hsg
  refine ⟨some (.bl v), p6, M', ?_, (F05.trans F6).trans F7⟩
  have hfor : evS cf (.for_ (.name 6) (.seq (.ite (.isi (.var 4) [.tuple, .list]) (.var 4) (.lst (.cons (.var 4) .nil)))) b1_l_right) [o0, o1, o2, o3, some x, some (.bl v), o6, none] N5 = some (.nx [o0, o1, o2, o3, some x, some (.bl v), p6, none], M') := by
    rw [evS, eI]; exact e7
  have hw : evS cf (.asg (.name 5) (.call i_l_is_whole (.cons (.var 4) .nil))) [o0, o1, o2, o3, some x, o5, o6, none] N = some (.nx [o0, o1, o2, o3, some x, some (.bl v), o6, none], N0) := s_asg (e_call (es_one (e_var rfl)) e0) rfl
  exact ss_cons hw (ss_cons (s_ifF e5 ss_nil) (ss_cons hfor ss_nil))
end Mp

/-! Mk12: right; the law k00. -/
namespace Mp
open PySem L2

theorem Gd.sub {S Z : List Nat} (hs : ∀ i ∈ S, i ∈ Z) {M : Mm} : ∀ {k : Nat} {x : PV}, Gd Z k M x → Gd S k M x
  | 0, _, h => h.elim
  | k + 1, x, h => by
    cases x with
    | tup xs => exact ⟨h.1, fun x hx => (h.2 x hx).sub hs⟩
    | ref n =>
      obtain ⟨h1, xs, h2, h3, h4⟩ := h
      exact ⟨fun z => h1 (hs _ z), xs, h2, h3, fun x hx => (h4 x hx).sub hs⟩
    | cl _ => exact h.elim
    | fn _ _ => exact h.elim
    | _ => exact h
/-- the bent ones -/
theorem bents_ok {cf : CF} (Bt : HBt cf) {M : Mm} {b : Nat} {k : Int} {es : List Ev} (h : Bx M b k) (hk : k < 100000000000) (hl : es.length ≤ 60) (hok : ∀ e ∈ es, EvOk e) {o1 o3 o4 o5 o6 : Option PV} :
    ∃ bs M', evE cf (.lc [7] (.name 7) (.rng1 (.con (.int 14))) (.cmp .ne (.var 2) (.tup .nil)) e3_l_right) [some (.ref b), o1, some (.tup (es.map Ev.pv)), o3, o4, o5, o6, none] M = some (.ref M.length, M') ∧ M'[M.length]? = some (.lst bs) ∧ bs.length ≤ 14 ∧ (∀ x ∈ bs, Gd [b] 6 M' x) ∧ Frm [b] M M' ∧ Bx M' b (k + 140) := by
  have hbl : b < M.length := by obtain ⟨_, _, _, hb, _⟩ := h; exact lt_of hb
  have hT : ∀ N, Gd [b] 3 N (.tup (es.map Ev.pv)) := fun N => ⟨by simp; omega, fun x hx => by obtain ⟨e, he, rfl⟩ := List.mem_map.mp hx; exact ev_gd (hok e he)⟩
  have hI : evI cf (.rng1 (.con (.int 14))) [some (.ref b), o1, some (.tup (es.map Ev.pv)), o3, o4, o5, o6, none] M = some (.rng 0 14, M) := by rw [evI, e_con]; rfl
  obtain ⟨M', e1, bs, c1, c2, c3, F1, B1⟩ := lc_inv (src := .rng 0 14) (bind := tgP (.name 7)) (c := fun sg M => evE cf (.cmp .ne (.var 2) (.tup .nil)) sg M) (e := fun sg M => evE cf e3_l_right sg M) (d := M.length) (sg := [some (.ref b), o1, some (.tup (es.map Ev.pv)), o3, o4, o5, o6, none]) (fun i N => ∃ bs, N[M.length]? = some (.lst bs) ∧ bs.length ≤ i ∧ (∀ x ∈ bs, Gd [b, M.length] 6 N x) ∧ Frm [b] M N ∧ Bx N b (k + 10 * i)) (n := 14) (M := M ++ [Ob.lst []]) (by omega)
    ⟨[], get_last, by simp, by simp, .app, h.frm (S := []) .app (by simp) (by omega)⟩
    (by
      intro i N hi hI
      obtain ⟨bs, c1, c2, c3, F1, B1⟩ := hI
      refine ⟨.int (0 + i), [some (.ref b), o1, some (.tup (es.map Ev.pv)), o3, o4, o5, o6, some (.int (0 + i))], by simp [Src.get, hi], rfl, ?_⟩
      have hc : evE cf (.cmp .ne (.var 2) (.tup .nil)) [some (.ref b), o1, some (.tup (es.map Ev.pv)), o3, o4, o5, o6, some (.int (0 + i))] N = some (.bl (!(es.map Ev.pv).isEmpty), N) :=
        e_cmp (e_var rfl) (e_tup es_nil (by simp)) (by simp only [cmpP, eq_unit (hT N) (by omega)]; rfl)
      by_cases hne : es = []
      · subst hne
        exact .inr ⟨N, hc, bs, c1, by omega, c3, F1, B1.frm (S := []) .refl (by simp) (by omega)⟩
      · have he : (!(es.map Ev.pv).isEmpty) = true := by cases es with | nil => exact absurd rfl hne | cons _ _ => rfl
        rw [he] at hc
        obtain ⟨y, N', t1, f1, B2, G2⟩ := Bt N b [b, M.length] _ es (by simp) (by intro j hj; simp at hj; rcases hj with rfl | rfl; exact F1.lt hbl; exact lt_of c1) B1 (by omega) hne hl hok
        have nb : M.length ≠ b := by omega
        have c1' := f1.get c1 (by simpa using nb)
        have fset : Frm [b, M.length] N' (N'.set M.length (.lst (bs ++ [y]))) := Frm.set (by simp)
        refine .inl ⟨N, y, N', bs, hc, e_call (es_cons (e_var rfl) (es_one (e_var rfl))) t1, by simp only [lstAt, c1'], by omega, bs ++ [y], by rw [List.getElem?_set_self (lt_of c1')], by simp; omega, fun x hx => ?_, (F1.trans f1).wr' (Nat.le_refl _), B2.frm (S := [M.length]) (Frm.set (by simp)) (by simp; omega) (by omega)⟩
        rcases List.mem_append.mp hx with hx | hx
        · exact ((c3 x hx).frm (f1.mono (by simp))).frm fset
        · simp at hx
          subst hx
          exact G2.frm fset)
    (by intro N hI; simp [Src.get])
  refine ⟨bs, M', ?_, c1, c2, fun x hx => (c3 x hx).sub (by simp), F1, B1.frm (S := []) .refl (by simp) (by omega)⟩
  rw [evE, hI]
  have hwp : wipeP [some (.ref b), o1, some (.tup (es.map Ev.pv)), o3, o4, o5, o6, none] [7] = [some (.ref b), o1, some (.tup (es.map Ev.pv)), o3, o4, o5, o6, none] := rfl
  simp only [hwp, e1]
  rfl
theorem gd_tup {S : List Nat} {k : Nat} {M : Mm} {xs : List PV} (hl : xs.length < 500) (h : ∀ x ∈ xs, Gd S k M x) : Gd S (k + 1) M (.tup xs) := ⟨hl, h⟩
theorem gd_none {S : List Nat} {k : Nat} {M : Mm} : Gd S (k + 1) M .non := trivial
theorem gd_bl {S : List Nat} {k : Nat} {M : Mm} {v : Bool} : Gd S (k + 1) M (.bl v) := trivial
theorem gd_int {S : List Nat} {k : Nat} {M : Mm} {v : Int} : Gd S (k + 1) M (.int v) := trivial
/-- what is asked: a list of good values -/
theorem some_ok {cf : CF} (T : HT cf) (D : HD cf) (Bt : HBt cf) {M : Mm} {b : Nat} {k : Int} (h : Bx M b k) (hk : k < 10000000000) {o1 o2 o3 o4 o5 o6 : Option PV} :
    ∃ (es : List Ev) (n : Nat) (vs : List PV) (M' : Mm), (∀ {w}, evS cf (.for_ (.name 4) (.seq (.var 3)) b2_l_right) [some (.ref b), o1, some (.tup (es.map Ev.pv)), some (.ref n), o4, o5, o6, none] M' = w → evSs cf b4_l_right [some (.ref b), o1, o2, o3, o4, o5, o6, none] M = (match w with | some (.nx sg1, M1) => some (.nx sg1, M1) | o => o)) ∧
      M'[n]? = some (.lst vs) ∧ n ≠ b ∧ vs.length < 100 ∧ (∀ x ∈ vs, Gd [b] 6 M' x) ∧ Frm [b] M M' ∧ Bx M' b (k + 700) := by
  have hbl : b < M.length := by obtain ⟨_, _, _, hb, _⟩ := h; exact lt_of hb
  obtain ⟨es, M1, e1, f1, B1, hT⟩ := D M b k h (by omega)
  have hel := hT.len
  obtain ⟨r, l2, a1, a2, t2, B2⟩ := T M1 b _ (es.length + 1) B1 (by omega) (by omega) (by omega)
  have f2 : Frm [b] M (M1.set b (.lst l2)) := f1.trans (Frm.set (by simp))
  generalize M1.set b (.lst l2) = M2 at *
  let rows : List PV := es.map Ev.pv
  have hrl : rows.length ≤ 52 := by simp [rows]; exact hel
  have hrg : ∀ N, ∀ x ∈ rows, Gd [b] 2 N x := fun N x hx => by obtain ⟨e, he, rfl⟩ := List.mem_map.mp hx; exact ev_gd (hT.ok e he)
  let sgA : Sg := [some (.ref b), o1, some (.tup rows), o3, o4, o5, o6, none]
  -- nine
  let cut : List PV := cutP rows none (some r)
  have hcl : cut.length ≤ 52 := Nat.le_trans cut_len hrl
  have esl : evE cf (.slc false true (.var 2) (.con .non) (.call i_l_take (.cons (.var 0) (.cons (.bop .add (.blt .len (.cons (.var 2) .nil)) (.con (.int 1))) .nil)))) sgA M1 = some (.tup cut, M2) := by
    have et : evE cf (.call i_l_take (.cons (.var 0) (.cons (.bop .add (.blt .len (.cons (.var 2) .nil)) (.con (.int 1))) .nil))) sgA M1 = some (.int r, M2) := by
      refine e_call (es_cons (e_var rfl) (es_one (e_bop (e_blt (es_one (e_var rfl)) rfl) e_con rfl))) ?_
      show cf i_l_take [.ref b, .int ((rows.length : Int) + 1)] M1 = _
      have : (rows.length : Int) = es.length := by simp [rows]
      rw [this]; exact t2
    rw [evE, e_var (v := .tup rows) rfl]
    simp only [e_con, et, slcP, optI]
    rfl
  let nine : List PV := [.tup rows, .tup cut, .tup [], .non, .bl true, .int 0, .str "wait", .tup [.tup []], .tup [.tup [.str "wait"]]]
  have e9 : evE cf (.lst (.cons (.var 2) (.cons (.slc false true (.var 2) (.con .non) (.call i_l_take (.cons (.var 0) (.cons (.bop .add (.blt .len (.cons (.var 2) .nil)) (.con (.int 1))) .nil)))) (.cons (.tup .nil) (.cons (.con .non) (.cons (.con (.bl true)) (.cons (.con (.int 0)) (.cons (.con (.str "wait")) (.cons (.tup (.cons (.tup .nil) .nil)) (.cons (.tup (.cons (.tup (.cons (.con (.str "wait")) .nil)) .nil)) .nil)))))))))) sgA M1 = some (.ref M2.length, M2 ++ [Ob.lst nine]) :=
    e_lst (es_cons (e_var rfl) (es_cons esl (es_cons (e_tup es_nil (by simp)) (es_cons e_con (es_cons e_con (es_cons e_con (es_cons e_con (es_cons (e_tup (es_one (e_tup es_nil (by simp))) (by simp)) (es_one (e_tup (es_one (e_tup (es_one e_con) (by simp))) (by simp))))))))))) (by simp [nine])
  have f3 : Frm [] M2 (M2 ++ [Ob.lst nine]) := .app
  have q3 : (M2 ++ [Ob.lst nine])[M2.length]? = some (.lst nine) := get_last
  have l3 : (M2 ++ [Ob.lst nine]).length = M2.length + 1 := by simp
  generalize M2 ++ [Ob.lst nine] = M3 at *
  let sgB : Sg := [some (.ref b), o1, some (.tup rows), some (.ref M2.length), o4, o5, o6, none]
  -- four
  have ew : evE cf (.lst (.cons (.tup (.cons (.con (.str "wait")) .nil)) .nil)) sgB M3 = some (.ref M3.length, M3 ++ [Ob.lst [.tup [.str "wait"]]]) := e_lst (es_one (e_tup (es_one e_con) (by simp))) (by simp)
  have f4 : Frm [] M3 (M3 ++ [Ob.lst [.tup [.str "wait"]]]) := .app
  have q4 : (M3 ++ [Ob.lst [PV.tup [.str "wait"]]])[M3.length]? = some (.lst [.tup [.str "wait"]]) := get_last
  have l4 : (M3 ++ [Ob.lst [PV.tup [.str "wait"]]]).length = M3.length + 1 := by simp
  generalize M3 ++ [Ob.lst [PV.tup [.str "wait"]]] = M4 at *
  let four : List PV := [.ref M3.length, .tup [.tup [.str "drop", .str "a1"]], .tup [.tup [.str "drop", .str "a b"]], .tup [.tup [.str "put", .str "x9", .int 0]]]
  have e4 : evE cf (.lst (.cons (.lst (.cons (.tup (.cons (.con (.str "wait")) .nil)) .nil)) (.cons (.tup (.cons (.tup (.cons (.con (.str "drop")) (.cons (.con (.str "a1")) .nil))) .nil)) (.cons (.tup (.cons (.tup (.cons (.con (.str "drop")) (.cons (.con (.str "a b")) .nil))) .nil)) (.cons (.tup (.cons (.tup (.cons (.con (.str "put")) (.cons (.con (.str "x9")) (.cons (.con (.int 0)) .nil)))) .nil)) .nil))))) sgB M3 = some (.ref M4.length, M4 ++ [Ob.lst four]) :=
    e_lst (es_cons ew (es_cons (e_tup (es_one (e_tup (es_cons e_con (es_one e_con)) (by simp))) (by simp)) (es_cons (e_tup (es_one (e_tup (es_cons e_con (es_one e_con)) (by simp))) (by simp)) (es_one (e_tup (es_one (e_tup (es_cons e_con (es_cons e_con (es_one e_con))) (by simp))) (by simp)))))) (by simp [four])
  have f5 : Frm [] M4 (M4 ++ [Ob.lst four]) := .app
  have q5 : (M4 ++ [Ob.lst four])[M4.length]? = some (.lst four) := get_last
  have l5 : (M4 ++ [Ob.lst four]).length = M4.length + 1 := by simp
  generalize M4 ++ [Ob.lst four] = M5 at *
  have hadd : bopP M5 .add (.ref M2.length) (.ref M4.length) = some (.ref M5.length, M5 ++ [Ob.lst (nine ++ four)]) := by
    have a1 : lstAt M5 M2.length = some nine := by simp only [lstAt, f5.get (f4.get q3 (by simp)) (by simp)]
    have a2 : lstAt M5 M4.length = some four := by simp only [lstAt, q5]
    simp only [bopP, a1, a2]
    rw [if_pos (by have : sizeLine = 16777216 := rfl; simp [nine, four]; omega)]
  have f6 : Frm [] M5 (M5 ++ [Ob.lst (nine ++ four)]) := .app
  have q6 : (M5 ++ [Ob.lst (nine ++ four)])[M5.length]? = some (.lst (nine ++ four)) := get_last
  have l6 : (M5 ++ [Ob.lst (nine ++ four)]).length = M5.length + 1 := by simp
  generalize M5 ++ [Ob.lst (nine ++ four)] = M6 at *
  have F26 : Frm [] M2 M6 := ((f3.trans f4).trans f5).trans f6
  have q4' : M6[M3.length]? = some (.lst [.tup [.str "wait"]]) := f6.get (f5.get q4 (by simp)) (by simp)
  have hb2 : b < M2.length := f2.lt hbl
  have lw : ∀ (z : String), (Str.ofString z).length < 1000 → ∀ {kk : Nat} {N : Mm}, Gd [b] (kk + 1) N (.str z) := fun z hz => str_gd z hz
  have hg13 : ∀ x ∈ nine ++ four, Gd [b] 6 M6 x := by
    have hw1 : ∀ {kk : Nat} {N : Mm}, Gd [b] (kk + 2) N (.tup [.str "wait"]) := gd_tup (by simp) (by intro y hy; simp at hy; subst hy; exact lw "wait" (by decide))
    intro x hx
    simp [nine, four] at hx
    rcases hx with rfl | rfl | rfl | rfl | rfl | rfl | rfl | rfl | rfl | rfl | rfl | rfl | rfl
    · exact gd_tup (by omega) (fun x hx => (hrg M6 x hx).le (by omega))
    · exact gd_tup (by omega) (fun x hx => (hrg M6 x (cut_mem hx)).le (by omega))
    · exact gd_tup (by simp) (by simp)
    · exact gd_none
    · exact gd_bl
    · exact gd_int
    · exact lw "wait" (by decide)
    · exact gd_tup (by simp) (by intro y hy; simp at hy; subst hy; exact gd_tup (by simp) (by simp))
    · exact gd_tup (by simp) (by intro y hy; simp at hy; subst hy; exact hw1)
    · exact ⟨by simp; omega, _, q4', by simp, by intro y hy; simp at hy; subst hy; exact hw1⟩
    · exact gd_tup (by simp) (by intro y hy; simp at hy; subst hy; exact gd_tup (by simp) (by intro z hz; simp at hz; rcases hz with rfl | rfl; exact lw "drop" (by decide); exact lw "a1" (by decide)))
    · exact gd_tup (by simp) (by intro y hy; simp at hy; subst hy; exact gd_tup (by simp) (by intro z hz; simp at hz; rcases hz with rfl | rfl; exact lw "drop" (by decide); exact lw "a b" (by decide)))
    · exact gd_tup (by simp) (by intro y hy; simp at hy; subst hy; exact gd_tup (by simp) (by intro z hz; simp at hz; rcases hz with rfl | rfl | rfl; exact lw "put" (by decide); exact lw "x9" (by decide); exact gd_int))
  -- the bent ones
  obtain ⟨bs, M7, e7, q7, hbs, hgb, f7, B7⟩ := bents_ok Bt (es := es) (B2.frm F26 (by simp) (Int.le_refl _)) (by omega) (by omega) hT.ok (o1 := o1) (o3 := some (.ref M5.length)) (o4 := o4) (o5 := o5) (o6 := o6)
  have nb5 : M5.length ≠ b := by have := F26.len; omega
  have hadd2 : bopP M7 .add (.ref M5.length) (.ref M6.length) = some (.ref M7.length, M7 ++ [Ob.lst ((nine ++ four) ++ bs)]) := by
    have a1 : lstAt M7 M5.length = some (nine ++ four) := by simp only [lstAt, f7.get q6 (by simpa using nb5)]
    have a2 : lstAt M7 M6.length = some bs := by simp only [lstAt, q7]
    simp only [bopP, a1, a2]
    rw [if_pos (by have : sizeLine = 16777216 := rfl; simp [nine, four]; omega)]
  have f8 : Frm [] M7 (M7 ++ [Ob.lst ((nine ++ four) ++ bs)]) := .app
  have F28 : Frm [b] M2 (M7 ++ [Ob.lst ((nine ++ four) ++ bs)]) := ((F26.mono (by simp)).trans f7).trans (f8.mono (by simp))
  refine ⟨es, M7.length, (nine ++ four) ++ bs, M7 ++ [Ob.lst ((nine ++ four) ++ bs)], ?_, get_last, by have := F26.len; have := f7.len; omega, by simp [nine, four]; omega, ?_, f2.trans F28, B7.frm (S := []) .app (by simp) (by omega)⟩
  · intro w hw
    unfold b4_l_right
    refine ss_cons (sg1 := sgA) (M1 := M1) (s_asg (e_call (es_cons (e_var rfl) (es_one e_con)) e1) rfl) ?_
    refine ss_cons (sg1 := sgB) (M1 := M3) (s_asg e9 rfl) ?_
    refine ss_cons (sg1 := [some (.ref b), o1, some (.tup rows), some (.ref M5.length), o4, o5, o6, none]) (M1 := M6) (s_asg (e_bop (e_var rfl) e4 hadd) rfl) ?_
    refine ss_cons (sg1 := [some (.ref b), o1, some (.tup rows), some (.ref M7.length), o4, o5, o6, none]) (M1 := M7 ++ [Ob.lst ((nine ++ four) ++ bs)]) (s_asg (e_bop (e_var rfl) e7 hadd2) rfl) ?_
    rw [evSs, hw]
    cases w with
    | none => rfl
    | some o =>
      obtain ⟨fl, N⟩ := o
      cases fl with
      | nx sg1 => simp only []; rw [evSs]
      | _ => rfl
  · intro x hx
    rcases List.mem_append.mp hx with hx | hx
    · exact ((hg13 x hx).frm f7).frm (f8.mono (by simp))
    · exact (hgb x hx).frm (f8.mono (by simp))
end Mp

/-! Mk13: right; the law k00. -/
namespace Mp
open PySem L2

theorem turn_ok {cf : CF} (T : HT cf) (D : HD cf) (Bt : HBt cf) (Sa : HS cf 2) {b : Nat} (E1 : Tells cf i_is_event [b] 6 evtB) (E2 : Tells cf i_l_is_row [b] 6 evtB) (V : ∀ (N : Mm) (x : PV), Gd [b] 6 N x → ∃ v, Both cf [b] N x v) {M : Mm} {k : Int} (h : Bx M b k) (hk : k < 10000000000) {o1 o2 o3 o4 o5 o6 : Option PV} :
    ∃ p2 p3 p4 p5 p6 M', evSs cf b4_l_right [some (.ref b), o1, o2, o3, o4, o5, o6, none] M = some (.nx [some (.ref b), o1, p2, p3, p4, p5, p6, none], M') ∧ Frm [b] M M' ∧ Bx M' b (k + 700) := by
  obtain ⟨es, n, vs, M1, hgo, q1, nb, hvl, hvg, F1, B1⟩ := some_ok T D Bt h hk (o1 := o1) (o2 := o2) (o3 := o3) (o4 := o4) (o5 := o5) (o6 := o6)
  let I : Nat → Sg → Mm → Prop := fun i sg L => ∃ p4 p5 p6, sg = [some (.ref b), o1, some (.tup (es.map Ev.pv)), some (.ref n), p4, p5, p6, none] ∧ Frm [] M1 L
  obtain ⟨sg', M2, e2, p4, p5, p6, hsg, F2⟩ := for_inv (src := .lst n) (bind := tgP (.name 4)) (body := fun sg M => evSs cf b2_l_right sg M) I (n := vs.length) (sg := [some (.ref b), o1, some (.tup (es.map Ev.pv)), some (.ref n), o4, o5, o6, none]) (M := M1) (by omega)
    ⟨o4, o5, o6, rfl, .refl⟩
    (by
      intro i sg L hi hI
      obtain ⟨p4, p5, p6, rfl, FL⟩ := hI
      have hg : Gd [b] 6 L vs[i] := (hvg _ (List.getElem_mem hi)).frm (FL.mono (by simp))
      obtain ⟨v, hB⟩ := V L vs[i] hg
      obtain ⟨q5, q6, L', t1, t2⟩ := val_turn Sa E1 E2 hB hg (by
        intro y hy
        rcases hy with ⟨xs, hx, hm⟩ | ⟨r, xs, hx, hr, hm⟩
        · rw [hx] at hg
          exact (hg.2 y hm).le (by decide)
        · rw [hx] at hg
          obtain ⟨_, xs', h2, _, h4⟩ := hg
          rw [hr] at h2
          cases h2
          exact (h4 y hm).le (by decide)) (o0 := some (.ref b)) (o1 := o1) (o2 := some (.tup (es.map Ev.pv))) (o3 := some (.ref n)) (o5 := p5) (o6 := p6)
      exact ⟨vs[i], _, _, L', by simp [Src.get, lstAt, FL.get q1 (by simp), hi], rfl, t1, some vs[i], q5, q6, rfl, FL.trans t2⟩)
    (by
      intro sg L hI
      obtain ⟨p4, p5, p6, rfl, FL⟩ := hI
      simp [Src.get, lstAt, FL.get q1 (by simp)])
  subst hsg
  refine ⟨some (.tup (es.map Ev.pv)), some (.ref n), p4, p5, p6, M2, ?_, F1.trans (F2.mono (by simp)), B1.frm F2 (by simp) (Int.le_refl _)⟩
  have hfor : evS cf (.for_ (.name 4) (.seq (.var 3)) b2_l_right) [some (.ref b), o1, some (.tup (es.map Ev.pv)), some (.ref n), o4, o5, o6, none] M1 = some (.nx [some (.ref b), o1, some (.tup (es.map Ev.pv)), some (.ref n), p4, p5, p6, none], M2) := by
    have hI : evI cf (.seq (.var 3)) [some (.ref b), o1, some (.tup (es.map Ev.pv)), some (.ref n), o4, o5, o6, none] M1 = some (.lst n, M1) := by
      rw [evI, e_var (v := .ref n) rfl]
      simp [srcOf, lstAt, q1]
    rw [evS, hI]; exact e2
  exact hgo hfor
def HRt (cf : CF) : Prop := ∀ (M : Mm) (b : Nat), Bx M b 0 → ∃ M', cf i_l_right [.ref b] M = some (.bl true, M') ∧ Frm [b] M M'
theorem right_ok {cf : CF} (T : HT cf) (D : HD cf) (Bt : HBt cf) (Sa : HS cf 2) {b : Nat} (E1 : Tells cf i_is_event [b] 6 evtB) (E2 : Tells cf i_l_is_row [b] 6 evtB) (V : ∀ (N : Mm) (x : PV), Gd [b] 6 N x → ∃ v, Both cf [b] N x v) {M : Mm} (h : Bx M b 0) :
    ∃ M', runD cf ir_l_right [.ref b] M = some (.bl true, M') ∧ Frm [b] M M' := by
  let I : Nat → Sg → Mm → Prop := fun i sg N => ∃ o1 o2 o3 o4 o5 o6, sg = [some (.ref b), o1, o2, o3, o4, o5, o6, none] ∧ Bx N b (700 * i) ∧ Frm [b] M N
  obtain ⟨sg', M7, e7, o1, o2, o3, o4, o5, o6, hsg, B7, F7⟩ := for_inv (src := .rng 0 3) (bind := tgP (.name 1)) (body := fun sg M => evSs cf b4_l_right sg M) I (n := 3) (sg := [some (.ref b), none, none, none, none, none, none, none]) (M := M) (by omega)
    ⟨none, none, none, none, none, none, rfl, h, .refl⟩
    (by
      intro i sg N hi hI
      obtain ⟨o1, o2, o3, o4, o5, o6, rfl, B, F⟩ := hI
      obtain ⟨p2, p3, p4, p5, p6, N', q1, q2, q3⟩ := turn_ok T D Bt Sa E1 E2 V B (by omega) (o1 := some (.int (0 + i))) (o2 := o2) (o3 := o3) (o4 := o4) (o5 := o5) (o6 := o6)
      exact ⟨.int (0 + i), _, _, N', by simp [Src.get, hi], rfl, q1, _, p2, p3, p4, p5, p6, rfl, q3.frm (S := []) .refl (by simp) (by omega), F.trans q2⟩)
    (by intro sg N _; simp [Src.get])
  refine ⟨M7, ?_, F7⟩
  refine run_ret (M1 := M7) rfl ?_
  have hF : evS cf (.for_ (.name 1) (.rng1 (.con (.int 3))) b4_l_right) [some (.ref b), none, none, none, none, none, none, none] M = some (.nx sg', M7) := by
    have hI : evI cf (.rng1 (.con (.int 3))) [some (.ref b), none, none, none, none, none, none, none] M = some (.rng 0 3, M) := by rw [evI, e_con]; rfl
    rw [evS, hI]; exact e7
  exact ss_cons hF (ss_ret e_con)
theorem hrt (j : Nat) : HRt (cfN tab (j + 6)) := fun M b h =>
  right_ok (ht (j + 4)) (hd j) (hbt (j + 2)) (hs (j + 3) 2) (t_evt (j + 2) [b] 5) (t_row (j + 3) [b] 5 (by omega)) (fun N x g => both (j + 1) [b] 4 (by omega) g) h
theorem good : ∀ ns : List Int, ns.length ≤ 63 → ∃ M', cfN tab 15 i_law [.cl ns] [] = some (.bl true, M') := by
  intro ns hl
  have Bb : HBx (cfN tab 14) := hbx 13
  have Rr : HRt (cfN tab 14) := hrt 8
  show ∃ M', runD (cfN tab 14) ir_law [.cl ns] [] = some (.bl true, M')
  generalize cfN tab 14 = cf at *
  let n : Nat := 1 + min 2 ns.length
  have hn : n ≤ 3 := by show 1 + min 2 ns.length ≤ 3; omega
  obtain ⟨M', e1, c1, F1⟩ := lc_inv (src := .rng 0 n) (bind := tgP (.name 1)) (c := fun sg M => evE cf (.con (.bl true)) sg M) (e := fun sg M => evE cf e1_law sg M) (d := 0) (sg := [some (.cl ns), none]) (fun i N => N[0]? = some (.lst (List.replicate i (.bl true))) ∧ Frm [] [] N) (n := n) (M := [Ob.lst []]) (by omega)
    ⟨rfl, ⟨by simp, by simp⟩⟩
    (by
      intro i N hi hI
      obtain ⟨c1, F1⟩ := hI
      obtain ⟨N1, e2, B2, f2⟩ := Bb N ns i (by omega)
      obtain ⟨N2, e3, f3⟩ := Rr N1 N.length B2
      have hN := lt_of c1
      have c3 : N2[0]? = some (.lst (List.replicate i (.bl true))) := f3.get (f2.get c1 (by simp)) (by simp; omega)
      refine ⟨.int (0 + i), [some (.cl ns), some (.int (0 + i))], by simp [Src.get, hi], rfl, .inl ⟨N, .bl true, N2, List.replicate i (.bl true), e_con, ?_, by simp only [lstAt, c3], by simp; omega, ?_, ?_⟩⟩
      · unfold e1_law
        have : (0 : Int) + i = i := by omega
        rw [this]
        exact e_call (es_one (e_call (es_cons (e_var rfl) (es_one (e_var rfl))) e2)) e3
      · rw [List.getElem?_set_self (lt_of c3), List.replicate_succ']
      · exact ⟨by simp, by simp⟩)
    (by intro N hI; simp [Src.get])
  refine ⟨M', run_ret rfl ?_⟩
  have hI : evI cf (.rng1 (.bop .add (.con (.int 1)) (.blt .min2 (.cons (.con (.int 2)) (.cons (.blt .len (.cons (.var 0) .nil)) .nil))))) [some (.cl ns), none] [] = some (.rng 0 n, []) := by
    have h1 : evE cf (.bop .add (.con (.int 1)) (.blt .min2 (.cons (.con (.int 2)) (.cons (.blt .len (.cons (.var 0) .nil)) .nil)))) [some (.cl ns), none] [] = some (.int n, []) := by
      refine e_bop e_con (e_blt (es_cons e_con (es_one (e_blt (es_one (e_var rfl)) rfl))) rfl) ?_
      show some (PV.int (1 + (if (ns.length : Int) < 2 then (ns.length : Int) else 2)), ([] : Mm)) = some (.int ((1 + min 2 ns.length : Nat) : Int), [])
      congr 3
      split <;> omega
    rw [evI, h1]
    have hro : rngOk (n : Int) = true := by simp [rngOk]; omega
    simp only [hro]
    rfl
  have hE : evE cf (.lc [1] (.name 1) (.rng1 (.bop .add (.con (.int 1)) (.blt .min2 (.cons (.con (.int 2)) (.cons (.blt .len (.cons (.var 0) .nil)) .nil))))) (.con (.bl true)) e1_law) [some (.cl ns), none] [] = some (.ref 0, M') := by
    rw [evE, hI]
    have hwp : wipeP [some (PV.cl ns), none] [1] = [some (.cl ns), none] := rfl
    simp only [hwp, List.length_nil, List.nil_append, e1]; rfl
  unfold ir_law
  refine ss_ret (e_blt (es_one hE) ?_)
  simp only [bltP, lstAt, c1, Option.bind_some, blsOf_rep, Option.map_some]
  simp
end Mp

namespace Mp
open PySem L2
def topS (i : Nat) : Stmt := PySem.Challenge.pw_missedmarks_k00_events_and_timetables_or.main.body.getD i (.Pass ⟨0, 0, 0, 0⟩)
abbrev s_is_number : Stmt := topS 10
abbrev N_is_number : List Str := ["thing"]
theorem S_is_number : FnScope N_is_number ["thing"] (defScope s_is_number) := ⟨rfl, rfl, rfl, by decide +kernel, rfl, by decide +kernel, by decide +kernel⟩
abbrev s_is_count : Stmt := topS 11
abbrev N_is_count : List Str := ["thing"]
theorem S_is_count : FnScope N_is_count ["thing"] (defScope s_is_count) := ⟨rfl, rfl, rfl, by decide +kernel, rfl, by decide +kernel, by decide +kernel⟩
abbrev s_is_key : Stmt := topS 12
abbrev N_is_key : List Str := ["thing", "sign"]
theorem S_is_key : FnScope N_is_key ["thing"] (defScope s_is_key) := ⟨rfl, rfl, rfl, by decide +kernel, rfl, by decide +kernel, by decide +kernel⟩
abbrev s_is_event : Stmt := topS 14
abbrev N_is_event : List Str := ["thing", "tests", "test", "part"]
theorem S_is_event : FnScope N_is_event ["thing"] (defScope s_is_event) := ⟨rfl, rfl, rfl, by decide +kernel, rfl, by decide +kernel, by decide +kernel⟩
abbrev s_is_timetable : Stmt := topS 16
abbrev N_is_timetable : List Str := ["thing", "course", "event"]
theorem S_is_timetable : FnScope N_is_timetable ["thing"] (defScope s_is_timetable) := ⟨rfl, rfl, rfl, by decide +kernel, rfl, by decide +kernel, by decide +kernel⟩
abbrev s_l_box : Stmt := topS 18
abbrev N_l_box : List Str := ["_law_script", "_law_k", "_law_cell", "_law_seed"]
theorem S_l_box : FnScope N_l_box ["_law_script", "_law_k"] (defScope s_l_box) := ⟨rfl, rfl, rfl, by decide +kernel, rfl, by decide +kernel, by decide +kernel⟩
abbrev s_l_take : Stmt := topS 19
abbrev N_l_take : List Str := ["_law_box_here", "_law_below", "_law_found", "_law_once", "_law_odd"]
theorem S_l_take : FnScope N_l_take ["_law_box_here", "_law_below"] (defScope s_l_take) := ⟨rfl, rfl, rfl, by decide +kernel, rfl, by decide +kernel, by decide +kernel⟩
abbrev s_l_of : Stmt := topS 20
abbrev N_l_of : List Str := ["_law_box_here", "_law_some"]
theorem S_l_of : FnScope N_l_of ["_law_box_here", "_law_some"] (defScope s_l_of) := ⟨rfl, rfl, rfl, by decide +kernel, rfl, by decide +kernel, by decide +kernel⟩
abbrev s_l_same : Stmt := topS 21
abbrev N_l_same : List Str := ["_law_found", "_law_due", "_law_mine", "_law_its"]
theorem S_l_same : FnScope N_l_same ["_law_found", "_law_due"] (defScope s_l_same) := ⟨rfl, rfl, rfl, by decide +kernel, rfl, by decide +kernel, by decide +kernel⟩
abbrev s_l_event : Stmt := topS 22
abbrev N_l_event : List Str := ["_law_box_here", "_law_w", "_law_folk", "_law_names", "_law_words", "_law_way", "_law_p", "_law_key_so", "_law_gap"]
theorem S_l_event : FnScope N_l_event ["_law_box_here", "_law_w", "_law_folk", "_law_names", "_law_words"] (defScope s_l_event) := ⟨rfl, rfl, rfl, by decide +kernel, rfl, by decide +kernel, by decide +kernel⟩
abbrev s_l_moved : Stmt := topS 23
abbrev N_l_moved : List Str := ["_law_w", "_law_event_so", "_law_word"]
theorem S_l_moved : FnScope N_l_moved ["_law_w", "_law_event_so"] (defScope s_l_moved) := ⟨rfl, rfl, rfl, by decide +kernel, rfl, by decide +kernel, by decide +kernel⟩
abbrev s_l_table : Stmt := topS 24
abbrev N_l_table : List Str := ["_law_box_here", "_law_many", "_law_most", "_law_folk", "_law_names", "_law_words", "_law_found", "_law_w", "_law_turn", "_law_event_so", "_law_is_full"]
theorem S_l_table : FnScope N_l_table ["_law_box_here", "_law_many", "_law_most", "_law_folk", "_law_names", "_law_words"] (defScope s_l_table) := ⟨rfl, rfl, rfl, by decide +kernel, rfl, by decide +kernel, by decide +kernel⟩
abbrev s_l_ended : Stmt := topS 25
abbrev N_l_ended : List Str := ["_law_table_here", "_law_w", "_law_event_so", "_law_p"]
theorem S_l_ended : FnScope N_l_ended ["_law_table_here"] (defScope s_l_ended) := ⟨rfl, rfl, rfl, by decide +kernel, rfl, by decide +kernel, by decide +kernel⟩
abbrev s_l_lots : Stmt := topS 26
abbrev N_l_lots : List Str := ["_law_box_here", "_law_most", "_law_names", "_law_lots_here", "_law_word", "_law_signs", "_law_some", "_law_sign", "_law_own_so"]
theorem S_l_lots : FnScope N_l_lots ["_law_box_here", "_law_most", "_law_names"] (defScope s_l_lots) := ⟨rfl, rfl, rfl, by decide +kernel, rfl, by decide +kernel, by decide +kernel⟩
abbrev s_l_beside : Stmt := topS 27
abbrev N_l_beside : List Str := ["_law_box_here", "_law_w", "_law_folk", "_law_found", "_law_p", "_law_gap", "_law_way"]
theorem S_l_beside : FnScope N_l_beside ["_law_box_here", "_law_w", "_law_folk"] (defScope s_l_beside) := ⟨rfl, rfl, rfl, by decide +kernel, rfl, by decide +kernel, by decide +kernel⟩
abbrev s_l_fit : Stmt := topS 28
abbrev N_l_fit : List Str := ["_law_box_here", "_law_most", "_law_folk", "_law_far", "_law_lots_here", "_law_w", "_law_found", "_law_event_so", "_law_own_so", "_law_rest", "_law_p", "_law_some"]
theorem S_l_fit : FnScope N_l_fit ["_law_box_here", "_law_most", "_law_folk", "_law_far"] (defScope s_l_fit) := ⟨rfl, rfl, rfl, by decide +kernel, rfl, by decide +kernel, by decide +kernel⟩
abbrev s_l_drawn : Stmt := topS 29
abbrev N_l_drawn : List Str := ["_law_box_here", "_law_most", "_law_names", "_law_words", "_law_found"]
theorem S_l_drawn : FnScope N_l_drawn ["_law_box_here", "_law_most"] (defScope s_l_drawn) := ⟨rfl, rfl, rfl, by decide +kernel, rfl, by decide +kernel, by decide +kernel⟩
abbrev s_l_is_plain : Stmt := topS 30
abbrev N_l_is_plain : List Str := ["_law_matter"]
theorem S_l_is_plain : FnScope N_l_is_plain ["_law_matter"] (defScope s_l_is_plain) := ⟨rfl, rfl, rfl, by decide +kernel, rfl, by decide +kernel, by decide +kernel⟩
abbrev s_l_is_name : Stmt := topS 31
abbrev N_l_is_name : List Str := ["_law_matter", "_law_letters", "_law_sign"]
theorem S_l_is_name : FnScope N_l_is_name ["_law_matter"] (defScope s_l_is_name) := ⟨rfl, rfl, rfl, by decide +kernel, rfl, by decide +kernel, by decide +kernel⟩
abbrev s_l_is_row : Stmt := topS 32
abbrev N_l_is_row : List Str := ["_law_matter", "_law_word", "_law_rest", "_law_sizes_so", "_law_part"]
theorem S_l_is_row : FnScope N_l_is_row ["_law_matter"] (defScope s_l_is_row) := ⟨rfl, rfl, rfl, by decide +kernel, rfl, by decide +kernel, by decide +kernel⟩
abbrev s_l_is_whole : Stmt := topS 33
abbrev N_l_is_whole : List Str := ["_law_matter", "_law_w", "_law_row"]
theorem S_l_is_whole : FnScope N_l_is_whole ["_law_matter"] (defScope s_l_is_whole) := ⟨rfl, rfl, rfl, by decide +kernel, rfl, by decide +kernel, by decide +kernel⟩
abbrev s_l_bent : Stmt := topS 34
abbrev N_l_bent : List Str := ["_law_box_here", "_law_table_here", "_law_k", "_law_way", "_law_row", "_law_at", "_law_others", "_law_bent_here"]
theorem S_l_bent : FnScope N_l_bent ["_law_box_here", "_law_table_here"] (defScope s_l_bent) := ⟨rfl, rfl, rfl, by decide +kernel, rfl, by decide +kernel, by decide +kernel⟩
abbrev s_l_right : Stmt := topS 35
abbrev N_l_right : List Str := ["_law_box_here", "_law_turn", "_law_table_here", "_law_some", "_law_matter", "_law_due", "_law_row", "_law_again"]
theorem S_l_right : FnScope N_l_right ["_law_box_here"] (defScope s_l_right) := ⟨rfl, rfl, rfl, by decide +kernel, rfl, by decide +kernel, by decide +kernel⟩
abbrev s_law : Stmt := topS 36
abbrev N_law : List Str := ["_law_script", "_law_k"]
theorem S_law : FnScope N_law ["_law_script"] (defScope s_law) := ⟨rfl, rfl, rfl, by decide +kernel, rfl, by decide +kernel, by decide +kernel⟩
abbrev s_Course_init : Stmt := inClass (topS 15) 0
abbrev N_Course_init : List Str := ["self"]
theorem S_Course_init : FnScope N_Course_init ["self"] (defScope s_Course_init) := ⟨rfl, rfl, rfl, by decide +kernel, rfl, by decide +kernel, by decide +kernel⟩
abbrev s_Course_can : Stmt := inClass (topS 15) 4
abbrev N_Course_can : List Str := ["self", "event", "word", "reader"]
theorem S_Course_can : FnScope N_Course_can ["self", "event"] (defScope s_Course_can) := ⟨rfl, rfl, rfl, by decide +kernel, rfl, by decide +kernel, by decide +kernel⟩
abbrev s_Course_go : Stmt := inClass (topS 15) 5
abbrev N_Course_go : List Str := ["self", "event", "word", "reader"]
theorem S_Course_go : FnScope N_Course_go ["self", "event"] (defScope s_Course_go) := ⟨rfl, rfl, rfl, by decide +kernel, rfl, by decide +kernel, by decide +kernel⟩
def names : List Nx := [⟨.fn, "is_number", ["thing"], false⟩,
  ⟨.fn, "is_count", ["thing"], false⟩,
  ⟨.fn, "is_key", ["thing"], false⟩,
  ⟨.fn, "is_event", ["thing"], true⟩,
  ⟨.fn, "is_timetable", ["thing"], true⟩,
  ⟨.fn, "_law_box", ["_law_script", "_law_k"], false⟩,
  ⟨.fn, "_law_take", ["_law_box_here", "_law_below"], false⟩,
  ⟨.fn, "_law_of", ["_law_box_here", "_law_some"], false⟩,
  ⟨.fn, "_law_same", ["_law_found", "_law_due"], false⟩,
  ⟨.fn, "_law_event", ["_law_box_here", "_law_w", "_law_folk", "_law_names", "_law_words"], false⟩,
  ⟨.fn, "_law_moved", ["_law_w", "_law_event_so"], false⟩,
  ⟨.fn, "_law_table", ["_law_box_here", "_law_many", "_law_most", "_law_folk", "_law_names", "_law_words"], false⟩,
  ⟨.fn, "_law_ended", ["_law_table_here"], false⟩,
  ⟨.fn, "_law_lots", ["_law_box_here", "_law_most", "_law_names"], false⟩,
  ⟨.fn, "_law_beside", ["_law_box_here", "_law_w", "_law_folk"], false⟩,
  ⟨.fn, "_law_fit", ["_law_box_here", "_law_most", "_law_folk", "_law_far"], false⟩,
  ⟨.fn, "_law_drawn", ["_law_box_here", "_law_most"], false⟩,
  ⟨.fn, "_law_is_plain", ["_law_matter"], false⟩,
  ⟨.fn, "_law_is_name", ["_law_matter"], false⟩,
  ⟨.fn, "_law_is_row", ["_law_matter"], false⟩,
  ⟨.fn, "_law_is_whole", ["_law_matter"], false⟩,
  ⟨.fn, "_law_bent", ["_law_box_here", "_law_table_here"], false⟩,
  ⟨.fn, "_law_right", ["_law_box_here"], false⟩,
  ⟨.fn, "law", ["_law_script"], false⟩,
  ⟨.me "Course", "__init__", ["self"], false⟩,
  ⟨.me "Course", "can", ["self", "event"], false⟩,
  ⟨.me "Course", "go", ["self", "event"], false⟩,
  ⟨.mk, "Course", [], false⟩]
structure Txt (K : PySem.W.Frag) (w : World) (mg : Str → Option Value) : Prop where
  b_abs : mg "abs" = none
  b_all : mg "all" = none
  b_bool : mg "bool" = none
  b_int : mg "int" = none
  b_isinstance : mg "isinstance" = none
  b_len : mg "len" = none
  b_list : mg "list" = none
  b_min : mg "min" = none
  b_range : mg "range" = none
  b_sorted : mg "sorted" = none
  b_str : mg "str" = none
  b_sum : mg "sum" = none
  b_tuple : mg "tuple" = none
  b_zip : mg "zip" = none
  c_DROP : ∃ t, mg "DROP" = some (.str "drop" t)
  c_JOIN : ∃ t, mg "JOIN" = some (.str "join" t)
  c_LETTERS : ∃ t, mg "LETTERS" = some (.str "abcdefghijklmnopqrstuvwxyz" t)
  c_LOAD : ∃ t, mg "LOAD" = some (.str "load" t)
  c_PUT : ∃ t, mg "PUT" = some (.str "put" t)
  c_READ : ∃ t, mg "READ" = some (.str "read" t)
  c_SAVE : ∃ t, mg "SAVE" = some (.str "save" t)
  c_WAIT : ∃ t, mg "WAIT" = some (.str "wait" t)
  cl_Course : Cls K (He.ga K "Course")
  na_Course_own_copies : NoAttr K (He.ga K "Course") "own_copies"
  na_Course_own_many : NoAttr K (He.ga K "Course") "own_many"
  na_Course_own_places : NoAttr K (He.ga K "Course") "own_places"
  t_LOOKS : KTab K w "LOOKS" tb_LOOKS
  g_LOOKS : mg "LOOKS" = some (.ref (He.ga K "LOOKS"))
section
variable {P : Program} {w : World} {K : PySem.W.Frag} {mg : Str → Option Value} {base : Heap} {f : Addr} {fd : FuncData} {k : Nat} {cf cf' : CF}
theorem ok_is_number (T : Txt K w mg) (C : Calls2 P w K mg base names cf k) (F : FunD K "is_number" "is_number" (defArgs s_is_number) (defBody s_is_number) (defScope s_is_number) [] [] f fd) (hcf : ∀ xs M, cf' 0 xs M = runD cf ir_is_number xs M) :
    FnOk P w K mg base CX0 (k + 1) f fd ["thing"] (spEv K cf' 0 1) := by
  refine def_ok (d := ir_is_number) F S_is_number rfl rfl hcf fun cdv A outer s H E hr => ?_
  exact (xss_cons (xs_ret (xe_and (xe_isi1 (t := .int) rfl T.b_isinstance (xe_var 0) (pe_tyN (t := .int) rfl T.b_int (by decide +kernel))) (xe_one (xe_not (xe_isi1 (t := .bool) rfl T.b_isinstance (xe_var 0) (pe_tyN (t := .bool) rfl T.b_bool (by decide +kernel))))))) xss_nil)
theorem ok_is_count (T : Txt K w mg) (C : Calls2 P w K mg base names cf k) (F : FunD K "is_count" "is_count" (defArgs s_is_count) (defBody s_is_count) (defScope s_is_count) [] [] f fd) (hcf : ∀ xs M, cf' 1 xs M = runD cf ir_is_count xs M) :
    FnOk P w K mg base CX0 (k + 1) f fd ["thing"] (spEv K cf' 1 1) := by
  refine def_ok (d := ir_is_count) F S_is_count rfl rfl hcf fun cdv A outer s H E hr => ?_
  exact (xss_cons (xs_ret (xe_and (xe_call (C.own hr (n := 0) rfl) rfl (xa_cons (xe_var 0) xa_nil)) (xe_one (xe_cmp opx_ge (xe_var 0) xe_int (nomark _))))) xss_nil)
theorem ok_is_key (T : Txt K w mg) (C : Calls2 P w K mg base names cf k) (F : FunD K "is_key" "is_key" (defArgs s_is_key) (defBody s_is_key) (defScope s_is_key) [] [] f fd) (hcf : ∀ xs M, cf' 2 xs M = runD cf ir_is_key xs M) :
    FnOk P w K mg base CX0 (k + 1) f fd ["thing"] (spEv K cf' 2 1) := by
  refine def_ok (d := ir_is_key) F S_is_key rfl rfl hcf fun cdv A outer s H E hr => ?_
  exact (xss_cons (xs_ret (xe_and (xe_isi1 (t := .str) rfl T.b_isinstance (xe_var 0) (pe_tyN (t := .str) rfl T.b_str (by decide +kernel))) (xe_and (xe_chn opx_lt opx_lt xe_int (xe_blt cl_len rfl T.b_len (by decide +kernel) (xa_cons (xe_var 0) xa_nil)) xe_int) (xe_one (xe_blt (cl_all_ rfl) rfl T.b_all (by decide +kernel) (xa_cons (xe_lc (own := [("sign", 1)]) rfl S_is_key.nd (xi_seq (xe_var 0)) (blkOk_by (own := [("sign", 1)]) (N := N_is_key) (sc := defScope s_is_key) (by decide +kernel)) (fun _ _ _ _ _ => (xg_name 1 S_is_key.nd)) (fun _ _ _ _ _ => xts_nil) (fun _ _ _ _ _ => (xe_cmp (opx_in hr.units) (xe_var 1) (xe_gstrE rfl T.c_LETTERS) rfl)) (by decide)) xa_nil)))))) xss_nil)
theorem ok_is_event (T : Txt K w mg) (C : Calls2 P w K mg base names cf k) (F : FunD K "is_event" "is_event" (defArgs s_is_event) (defBody s_is_event) (defScope s_is_event) [] [] f fd) (hcf : ∀ xs M, cf' 3 xs M = runD cf ir_is_event xs M) :
    FnOk P w K mg base CX0 (k + 1) f fd ["thing"] (spEv K cf' 3 1) := by
  refine def_ok (d := ir_is_event) F S_is_event rfl rfl hcf fun cdv A outer s H E hr => ?_
  exact (xss_cons (xs_if (xt_w (xw_or (xt_not (xt_val (xe_isi1 (t := .tuple) rfl T.b_isinstance (xe_var 0) (pe_tyN (t := .tuple) rfl T.b_tuple (by decide +kernel))))) (xw_or (xt_cmp (opx_eq hr.units) (xe_blt cl_len rfl T.b_len (by decide +kernel) (xa_cons (xe_var 0) xa_nil)) xe_int (nomark _)) (xw_or (xt_not (xt_val (xe_isi1 (t := .str) rfl T.b_isinstance (xe_idx hr.units (xe_var 0) xe_int (fun _ _ => rfl)) (pe_tyN (t := .str) rfl T.b_str (by decide +kernel))))) (xw_or1 rfl (xt_knot (tb := tb_LOOKS) T.t_LOOKS (xe_idx hr.units (xe_var 0) xe_int (fun _ _ => rfl)) rfl T.g_LOOKS)))))) (xss_cons (xs_ret xe_bl) xss_nil) xss_nil) (xss_cons (xs_asg (xe_kidx (tb := tb_LOOKS) T.t_LOOKS (xe_idx hr.units (xe_var 0) xe_int (fun _ _ => rfl)) rfl T.g_LOOKS (fun _ _ => rfl)) (xg_name 1 S_is_event.nd)) (xss_cons (xs_ret (xe_and (xe_cmp (opx_eq hr.units) (xe_blt cl_len rfl T.b_len (by decide +kernel) (xa_cons (xe_var 0) xa_nil)) (xe_bop opx_add (xe_blt cl_len rfl T.b_len (by decide +kernel) (xa_cons (xe_var 1) xa_nil)) xe_int) (nomark _)) (xe_one (xe_blt (cl_all_ rfl) rfl T.b_all (by decide +kernel) (xa_cons (xe_lc (own := [("test", 2), ("part", 3)]) rfl S_is_event.nd (xi_zip rfl T.b_zip (xe_var 1) (xe_slc (xe_var 0) (xo1 xe_int) xo0)) (blkOk_by (own := [("test", 2), ("part", 3)]) (N := N_is_event) (sc := defScope s_is_event) (by decide +kernel)) (fun _ _ _ _ _ => (xg_tup rfl (xgs_cons (xg_name 2 S_is_event.nd) (xgs_cons (xg_name 3 S_is_event.nd) xgs_nil)))) (fun _ _ _ _ _ => xts_nil) (fun _ _ _ _ _ => (xe_callv (k := 2) (fs := [(1, "is_count"), (2, "is_key"), (0, "is_number")]) (fun p hp => by simp only [List.mem_cons, List.mem_nil_iff, or_false] at hp; rcases hp with rfl | rfl | rfl <;> first | exact C.ownF hr (n := 1) rfl | exact C.ownF hr (n := 2) rfl | exact C.ownF hr (n := 0) rfl) (xa_cons (xe_var 3) xa_nil) rfl (by first | exact Or.inl rfl | exact Or.inr (Or.inl rfl) | exact Or.inr (Or.inr rfl)))) (by decide)) xa_nil))))) xss_nil)))
theorem ok_is_timetable (T : Txt K w mg) (C : Calls2 P w K mg base names cf k) (F : FunD K "is_timetable" "is_timetable" (defArgs s_is_timetable) (defBody s_is_timetable) (defScope s_is_timetable) [] [] f fd) (hcf : ∀ xs M, cf' 4 xs M = runD cf ir_is_timetable xs M) :
    FnOk P w K mg base CX0 (k + 1) f fd ["thing"] (spEv K cf' 4 1) := by
  refine def_ok (d := ir_is_timetable) F S_is_timetable rfl rfl hcf fun cdv A outer s H E hr => ?_
  exact (xss_cons (xs_if (xt_w (xw_or (xt_not (xt_val (xe_isi1 (t := .tuple) rfl T.b_isinstance (xe_var 0) (pe_tyN (t := .tuple) rfl T.b_tuple (by decide +kernel))))) (xw_or1 rfl (xt_not (xt_val (xe_blt (cl_all_ rfl) rfl T.b_all (by decide +kernel) (xa_cons (xe_lc (own := [("event", 2)]) rfl S_is_timetable.nd (xi_seq (xe_var 0)) (blkOk_by (own := [("event", 2)]) (N := N_is_timetable) (sc := defScope s_is_timetable) (by decide +kernel)) (fun _ _ _ _ _ => (xg_name 2 S_is_timetable.nd)) (fun _ _ _ _ _ => xts_nil) (fun _ _ _ _ _ => (xe_call (C.own hr (n := 3) rfl) rfl (xa_cons (xe_var 2) xa_nil))) (by decide)) xa_nil))))))) (xss_cons (xs_ret xe_bl) xss_nil) xss_nil) (xss_cons (xs_asg (xe_make0 (C.ownC hr (n := 27) rfl) rfl) (xg_name 1 S_is_timetable.nd)) (xss_cons (xs_for PassesOwn.never rfl (xi_seq (xe_var 0)) (xg_name 2 S_is_timetable.nd) (xss_cons (xs_if (xt_not (xt_val (xe_mc (C.ownM hr (n := 25) rfl) (xe_var 1) (xa_cons (xe_var 2) xa_nil)))) (xss_cons (xs_ret xe_bl) xss_nil) xss_nil) (xss_cons (xs_exp (xe_mc (C.ownM hr (n := 26) rfl) (xe_var 1) (xa_cons (xe_var 2) xa_nil))) xss_nil))) (xss_cons (xs_ret xe_bl) xss_nil))))
theorem ok_l_box (T : Txt K w mg) (C : Calls2 P w K mg base names cf k) (F : FunD K "_law_box" "_law_box" (defArgs s_l_box) (defBody s_l_box) (defScope s_l_box) [] [] f fd) (hcf : ∀ xs M, cf' 5 xs M = runD cf ir_l_box xs M) :
    FnOk P w K mg base CX0 (k + 1) f fd ["_law_script", "_law_k"] (spEv K cf' 5 2) := by
  refine def_ok (d := ir_l_box) F S_l_box rfl rfl hcf fun cdv A outer s H E hr => ?_
  exact (xss_cons (xs_asg (xe_if (xt_cmp opx_lt (xe_var 1) (xe_blt cl_len rfl T.b_len (by decide +kernel) (xa_cons (xe_var 0) xa_nil)) (nomark _)) (xe_idx hr.units (xe_var 0) (xe_var 1) (fun _ _ => rfl)) xe_int) (xg_name 2 S_l_box.nd)) (xss_cons (xs_asg (xe_bop opx_mod (xe_bty cl_int rfl T.b_int (by decide +kernel) (xa_cons (xe_bop opx_mul (xe_bop opx_add (xe_bop opx_add (xe_bop opx_mod (xe_bty cl_int rfl T.b_int (by decide +kernel) (xa_cons (xe_var 2) xa_nil)) xe_int) (xe_bop opx_mul xe_int (xe_var 1))) xe_int) xe_int) xa_nil)) xe_int) (xg_name 3 S_l_box.nd)) (xss_cons (xs_ret (xe_lst (xa_cons (xe_bop opx_mul (xe_blt cl_abs rfl T.b_abs (by decide +kernel) (xa_cons (xe_var 2) xa_nil)) (xe_bty cl_int rfl T.b_int (by decide +kernel) (xa_cons (xe_cmp opx_ge (xe_blt cl_abs rfl T.b_abs (by decide +kernel) (xa_cons (xe_var 2) xa_nil)) (xe_bop opx_pow xe_int xe_int) (nomark _)) xa_nil))) (xa_cons (xe_var 3) (xa_cons xe_int xa_nil))))) xss_nil)))
theorem ok_l_take (T : Txt K w mg) (C : Calls2 P w K mg base names cf k) (F : FunD K "_law_take" "_law_take" (defArgs s_l_take) (defBody s_l_take) (defScope s_l_take) [] [] f fd) (hcf : ∀ xs M, cf' 6 xs M = runD cf ir_l_take xs M) :
    FnOk P w K mg base CX0 (k + 1) f fd ["_law_box_here", "_law_below"] (spEv K cf' 6 2) := by
  refine def_ok (d := ir_l_take) F S_l_take rfl rfl hcf fun cdv A outer s H E hr => ?_
  exact (xss_cons (xs_if (xt_cmp opx_gt (xe_idx hr.units (xe_var 0) xe_int (fun _ _ => rfl)) xe_int (nomark _)) (xss_cons (xs_asg (xe_bop opx_mod (xe_bty cl_int rfl T.b_int (by decide +kernel) (xa_cons (xe_idx hr.units (xe_var 0) xe_int (fun _ _ => rfl)) xa_nil)) (xe_var 1)) (xg_name 2 S_l_take.nd)) (xss_cons (xs_sto hr.units (xe_bop opx_fdiv (xe_idx hr.units (xe_var 0) xe_int (fun _ _ => rfl)) (xe_var 1)) (xe_var 0) xe_int) (xss_cons (xs_ret (xe_var 2)) xss_nil))) xss_nil) (xss_cons (xs_sto hr.units (xe_bop opx_add (xe_idx hr.units (xe_var 0) xe_int (fun _ _ => rfl)) xe_int) (xe_var 0) xe_int) (xss_cons (xs_asg (xe_bop opx_mod (xe_bty cl_int rfl T.b_int (by decide +kernel) (xa_cons (xe_bop opx_pow (xe_bop opx_add (xe_idx hr.units (xe_var 0) xe_int (fun _ _ => rfl)) (xe_bop opx_mul xe_int (xe_idx hr.units (xe_var 0) xe_int (fun _ _ => rfl)))) xe_int) xa_nil)) xe_int) (xg_name 3 S_l_take.nd)) (xss_cons (xs_asg (xe_bop opx_add (xe_bop opx_mod (xe_bty cl_int rfl T.b_int (by decide +kernel) (xa_cons (xe_var 3) xa_nil)) xe_int) xe_int) (xg_name 4 S_l_take.nd)) (xss_cons (xs_ret (xe_bop opx_mod (xe_bty cl_int rfl T.b_int (by decide +kernel) (xa_cons (xe_bop opx_fdiv (xe_bop opx_mod (xe_bty cl_int rfl T.b_int (by decide +kernel) (xa_cons (xe_bop opx_add (xe_bop opx_mul (xe_var 3) (xe_var 4)) (xe_bop opx_mul (xe_idx hr.units (xe_var 0) xe_int (fun _ _ => rfl)) xe_int)) xa_nil)) xe_int) xe_int) xa_nil)) (xe_var 1))) xss_nil)))))
theorem ok_l_of (T : Txt K w mg) (C : Calls2 P w K mg base names cf k) (F : FunD K "_law_of" "_law_of" (defArgs s_l_of) (defBody s_l_of) (defScope s_l_of) [] [] f fd) (hcf : ∀ xs M, cf' 7 xs M = runD cf ir_l_of xs M) :
    FnOk P w K mg base CX0 (k + 1) f fd ["_law_box_here", "_law_some"] (spEv K cf' 7 2) := by
  refine def_ok (d := ir_l_of) F S_l_of rfl rfl hcf fun cdv A outer s H E hr => ?_
  exact (xss_cons (xs_ret (xe_idx hr.units (xe_var 1) (xe_call (C.own hr (n := 6) rfl) rfl (xa_cons (xe_var 0) (xa_cons (xe_blt cl_len rfl T.b_len (by decide +kernel) (xa_cons (xe_var 1) xa_nil)) xa_nil))) (fun _ _ => rfl))) xss_nil)
theorem ok_l_same (T : Txt K w mg) (C : Calls2 P w K mg base names cf k) (F : FunD K "_law_same" "_law_same" (defArgs s_l_same) (defBody s_l_same) (defScope s_l_same) [] [] f fd) (hcf : ∀ xs M, cf' 8 xs M = runD cf ir_l_same xs M) :
    FnOk P w K mg base CX0 (k + 1) f fd ["_law_found", "_law_due"] (spEv K cf' 8 2) := by
  refine def_ok (d := ir_l_same) F S_l_same rfl rfl hcf fun cdv A outer s H E hr => ?_
  exact (xss_cons (xs_if (xt_val (xe_isiT (ts := [.list, .tuple]) rfl T.b_isinstance (xe_var 1) (pa_cons (pe_tyN (t := .list) rfl T.b_list (by decide +kernel)) (pa_cons (pe_tyN (t := .tuple) rfl T.b_tuple (by decide +kernel)) pa_nil)) (by decide) (fun _ _ _ h => h))) (xss_cons (xs_if (xt_cmp (opx_ne hr.units) (xe_isi1 (t := .list) rfl T.b_isinstance (xe_var 0) (pe_tyN (t := .list) rfl T.b_list (by decide +kernel))) (xe_isi1 (t := .list) rfl T.b_isinstance (xe_var 1) (pe_tyN (t := .list) rfl T.b_list (by decide +kernel))) (nomark _)) (xss_cons (xs_ret xe_bl) xss_nil) xss_nil) (xss_cons (xs_if (xt_cmp (opx_ne hr.units) (xe_isi1 (t := .tuple) rfl T.b_isinstance (xe_var 0) (pe_tyN (t := .tuple) rfl T.b_tuple (by decide +kernel))) (xe_isi1 (t := .tuple) rfl T.b_isinstance (xe_var 1) (pe_tyN (t := .tuple) rfl T.b_tuple (by decide +kernel))) (nomark _)) (xss_cons (xs_ret xe_bl) xss_nil) xss_nil) (xss_cons (xs_ret (xe_and (xe_cmp (opx_eq hr.units) (xe_blt cl_len rfl T.b_len (by decide +kernel) (xa_cons (xe_var 0) xa_nil)) (xe_blt cl_len rfl T.b_len (by decide +kernel) (xa_cons (xe_var 1) xa_nil)) (nomark _)) (xe_one (xe_blt (cl_all_ rfl) rfl T.b_all (by decide +kernel) (xa_cons (xe_lc (own := [("_law_mine", 2), ("_law_its", 3)]) rfl S_l_same.nd (xi_zip rfl T.b_zip (xe_var 0) (xe_var 1)) (blkOk_by (own := [("_law_mine", 2), ("_law_its", 3)]) (N := N_l_same) (sc := defScope s_l_same) (by decide +kernel)) (fun _ _ _ _ _ => (xg_tup rfl (xgs_cons (xg_name 2 S_l_same.nd) (xgs_cons (xg_name 3 S_l_same.nd) xgs_nil)))) (fun _ _ _ _ _ => xts_nil) (fun _ _ _ _ _ => (xe_call (C.own hr (n := 8) rfl) rfl (xa_cons (xe_var 2) (xa_cons (xe_var 3) xa_nil)))) (by decide)) xa_nil))))) xss_nil))) xss_nil) (xss_cons (xs_if (xt_w (xw_or (xt_cmp opx_isN (xe_var 1) xe_non (nomark _)) (xw_or1 rfl (xt_val (xe_isiT (ts := [.bool, .str]) rfl T.b_isinstance (xe_var 1) (pa_cons (pe_tyN (t := .bool) rfl T.b_bool (by decide +kernel)) (pa_cons (pe_tyN (t := .str) rfl T.b_str (by decide +kernel)) pa_nil)) (by decide) (fun _ _ _ h => h)))))) (xss_cons (xs_ret (xe_and (xe_cmp (opx_eq hr.units) (xe_var 0) (xe_var 1) (nomark _)) (xe_and (xe_cmp (opx_eq hr.units) (xe_isi1 (t := .bool) rfl T.b_isinstance (xe_var 0) (pe_tyN (t := .bool) rfl T.b_bool (by decide +kernel))) (xe_isi1 (t := .bool) rfl T.b_isinstance (xe_var 1) (pe_tyN (t := .bool) rfl T.b_bool (by decide +kernel))) (nomark _)) (xe_one (xe_cmp (opx_eq hr.units) (xe_cmp opx_isN (xe_var 0) xe_non (nomark _)) (xe_cmp opx_isN (xe_var 1) xe_non (nomark _)) (nomark _)))))) xss_nil) xss_nil) (xss_cons (xs_ret (xe_and (xe_isi1 (t := .int) rfl T.b_isinstance (xe_var 0) (pe_tyN (t := .int) rfl T.b_int (by decide +kernel))) (xe_and (xe_not (xe_isi1 (t := .bool) rfl T.b_isinstance (xe_var 0) (pe_tyN (t := .bool) rfl T.b_bool (by decide +kernel)))) (xe_one (xe_cmp (opx_eq hr.units) (xe_var 0) (xe_var 1) (nomark _)))))) xss_nil)))
theorem ok_l_event (T : Txt K w mg) (C : Calls2 P w K mg base names cf k) (F : FunD K "_law_event" "_law_event" (defArgs s_l_event) (defBody s_l_event) (defScope s_l_event) [] [] f fd) (hcf : ∀ xs M, cf' 9 xs M = runD cf ir_l_event xs M) :
    FnOk P w K mg base CX0 (k + 1) f fd ["_law_box_here", "_law_w", "_law_folk", "_law_names", "_law_words"] (spEv K cf' 9 5) := by
  refine def_ok (d := ir_l_event) F S_l_event rfl rfl hcf fun cdv A outer s H E hr => ?_
  exact (xss_cons (xs_par3 (m := 5) (n := 6) (l := 7) rfl S_l_event.nd rfl rfl rfl (by decide) (by decide) (by decide) rfl rfl rfl (xa_cons (xe_idx hr.units (xe_var 4) (xe_call (C.own hr (n := 6) rfl) rfl (xa_cons (xe_var 0) (xa_cons (xe_blt cl_len rfl T.b_len (by decide +kernel) (xa_cons (xe_var 4) xa_nil)) xa_nil))) (fun _ _ => rfl)) (xa_cons (xe_call (C.own hr (n := 6) rfl) rfl (xa_cons (xe_var 0) (xa_cons (xe_var 2) xa_nil))) (xa_cons (xe_call (C.own hr (n := 7) rfl) rfl (xa_cons (xe_var 0) (xa_cons (xe_var 3) xa_nil))) xa_nil))) (by rfl)) (xss_cons (xs_if (xt_cmp (opx_eq hr.units) (xe_var 5) xe_str (nomark _)) (xss_cons (xs_ret (xe_tup (xa_cons xe_str (xa_cons (xe_var 7) (xa_cons (xe_call (C.own hr (n := 6) rfl) rfl (xa_cons (xe_var 0) (xa_cons xe_int xa_nil))) xa_nil))))) xss_nil) xss_nil) (xss_cons (xs_if (xt_cmp (opx_in hr.units) (xe_var 5) (xe_tup (xa_cons xe_str (xa_cons xe_str xa_nil))) rfl) (xss_cons (xs_ret (xe_if (xt_cmp (opx_eq hr.units) (xe_var 5) xe_str (nomark _)) (xe_tup (xa_cons xe_str (xa_cons (xe_var 7) xa_nil))) (xe_tup (xa_cons xe_str xa_nil)))) xss_nil) xss_nil) (xss_cons (xs_if (xt_cmp (opx_eq hr.units) (xe_var 5) xe_str (nomark _)) (xss_cons (xs_ret (xe_tup (xa_cons xe_str (xa_cons (xe_var 6) xa_nil)))) xss_nil) xss_nil) (xss_cons (xs_if (xt_cmp (opx_eq hr.units) (xe_var 5) xe_str (nomark _)) (xss_cons (xs_ret (xe_if (xt_cmp (opx_ne hr.units) (xe_idx hr.units (xe_var 1) xe_str (fun _ _ => rfl)) (xe_lst xa_nil) (nomark _)) (xe_tup (xa_cons xe_str (xa_cons (xe_var 6) (xa_cons (xe_call (C.own hr (n := 6) rfl) rfl (xa_cons (xe_var 0) (xa_cons (xe_blt cl_len rfl T.b_len (by decide +kernel) (xa_cons (xe_idx hr.units (xe_var 1) xe_str (fun _ _ => rfl)) xa_nil)) xa_nil))) xa_nil)))) xe_non)) xss_nil) xss_nil) (xss_cons (xs_if (xt_cmp (opx_notin hr.units) (xe_var 6) (xe_idx hr.units (xe_var 1) xe_str (fun _ _ => rfl)) rfl) (xss_cons (xs_ret (xe_tup (xa_cons xe_str (xa_cons (xe_var 6) xa_nil)))) xss_nil) xss_nil) (xss_cons (xs_if (xt_cmp (opx_eq hr.units) (xe_var 5) xe_str (nomark _)) (xss_cons (xs_ret (xe_tup (xa_cons xe_str (xa_cons (xe_var 6) xa_nil)))) xss_nil) xss_nil) (xss_cons (xs_asg (xe_bop opx_sub (xe_idx hr.units (xe_var 1) xe_str (fun _ _ => rfl)) (xe_idx hr.units (xe_idx hr.units (xe_var 1) xe_str (fun _ _ => rfl)) (xe_var 6) (fun _ _ => rfl))) (xg_name 8 S_l_event.nd)) (xss_cons (xs_ret (xe_if (xt_cmp opx_gt (xe_var 8) xe_int (nomark _)) (xe_tup (xa_cons xe_str (xa_cons (xe_var 6) (xa_cons (xe_bop opx_add (xe_bop opx_add (xe_idx hr.units (xe_idx hr.units (xe_var 1) xe_str (fun _ _ => rfl)) (xe_var 6) (fun _ _ => rfl)) xe_int) (xe_call (C.own hr (n := 6) rfl) rfl (xa_cons (xe_var 0) (xa_cons (xe_var 8) xa_nil)))) xa_nil)))) xe_non)) xss_nil)))))))))
theorem ok_l_moved (T : Txt K w mg) (C : Calls2 P w K mg base names cf k) (F : FunD K "_law_moved" "_law_moved" (defArgs s_l_moved) (defBody s_l_moved) (defScope s_l_moved) [] [] f fd) (hcf : ∀ xs M, cf' 10 xs M = runD cf ir_l_moved xs M) :
    FnOk P w K mg base CX0 (k + 1) f fd ["_law_w", "_law_event_so"] (spEv K cf' 10 2) := by
  refine def_ok (d := ir_l_moved) F S_l_moved rfl rfl hcf fun cdv A outer s H E hr => ?_
  exact (xss_cons (xs_asg (xe_idx hr.units (xe_var 1) xe_int (fun _ _ => rfl)) (xg_name 2 S_l_moved.nd)) (xss_cons (xs_if (xt_cmp (opx_in hr.units) (xe_var 2) (xe_tup (xa_cons xe_str (xa_cons xe_str xa_nil))) rfl) (xss_cons (xs_sto hr.units (xe_bop opx_add (xe_idx hr.units (xe_var 0) xe_str (fun _ _ => rfl)) xe_int) (xe_var 0) xe_str) xss_nil) (xss_cons (xs_if (xt_cmp (opx_eq hr.units) (xe_var 2) xe_str (nomark _)) (xss_cons (xs_sto hr.units xe_int (xe_idx hr.units (xe_var 0) xe_str (fun _ _ => rfl)) (xe_idx hr.units (xe_var 1) xe_int (fun _ _ => rfl))) xss_nil) (xss_cons (xs_if (xt_cmp (opx_eq hr.units) (xe_var 2) xe_str (nomark _)) (xss_cons (xs_sto hr.units (xe_idx hr.units (xe_var 1) xe_int (fun _ _ => rfl)) (xe_idx hr.units (xe_var 0) xe_str (fun _ _ => rfl)) (xe_idx hr.units (xe_var 1) xe_int (fun _ _ => rfl))) xss_nil) (xss_cons (xs_if (xt_cmp (opx_eq hr.units) (xe_var 2) xe_str (nomark _)) (xss_cons (xs_exp (xe_append (xe_idx hr.units (xe_var 0) xe_str (fun _ _ => rfl)) (xe_idx hr.units (xe_idx hr.units (xe_var 0) xe_str (fun _ _ => rfl)) (xe_idx hr.units (xe_var 1) xe_int (fun _ _ => rfl)) (fun _ _ => rfl)))) xss_nil) (xss_cons (xs_if (xt_cmp (opx_eq hr.units) (xe_var 2) xe_str (nomark _)) (xss_cons (xs_sto hr.units (xe_idx hr.units (xe_idx hr.units (xe_var 0) xe_str (fun _ _ => rfl)) (xe_idx hr.units (xe_var 1) xe_int (fun _ _ => rfl)) (fun _ _ => rfl)) (xe_idx hr.units (xe_var 0) xe_str (fun _ _ => rfl)) (xe_idx hr.units (xe_var 1) xe_int (fun _ _ => rfl))) xss_nil) xss_nil) xss_nil)) xss_nil)) xss_nil)) xss_nil)) xss_nil))
theorem ok_l_table (T : Txt K w mg) (C : Calls2 P w K mg base names cf k) (F : FunD K "_law_table" "_law_table" (defArgs s_l_table) (defBody s_l_table) (defScope s_l_table) [] [] f fd) (hcf : ∀ xs M, cf' 11 xs M = runD cf ir_l_table xs M) :
    FnOk P w K mg base CX0 (k + 1) f fd ["_law_box_here", "_law_many", "_law_most", "_law_folk", "_law_names", "_law_words"] (spEv K cf' 11 6) := by
  refine def_ok (d := ir_l_table) F S_l_table rfl rfl hcf fun cdv A outer s H E hr => ?_
  exact (xss_cons (xs_par2 (m := 6) (n := 7) rfl S_l_table.nd rfl rfl (by decide) rfl rfl (xa_cons (xe_lst xa_nil) (xa_cons (xe_dct (xp_str xe_dnew (xp_str (xe_lst xa_nil) (xp_str xe_int xp_nil))) rfl rfl (fun z => by cases z) (by decide)) xa_nil)) (by rfl)) (xss_cons (xs_for PassesOwn.never rfl (xi_rng1 rfl T.b_range (xe_var 1)) (xg_name 8 S_l_table.nd) (xss_cons (xs_asg (xe_call (C.own hr (n := 9) rfl) rfl (xa_cons (xe_var 0) (xa_cons (xe_var 7) (xa_cons (xe_var 3) (xa_cons (xe_var 4) (xa_cons (xe_var 5) xa_nil)))))) (xg_name 9 S_l_table.nd)) (xss_cons (xs_asg (xe_and (xe_cmp opx_isNN (xe_var 9) xe_non (nomark _)) (xe_and (xe_cmp (opx_in hr.units) (xe_idx hr.units (xe_var 9) xe_int (fun _ _ => rfl)) (xe_tup (xa_cons xe_str (xa_cons xe_str xa_nil))) rfl) (xe_one (xe_cmp opx_ge (xe_idx hr.units (xe_var 7) xe_str (fun _ _ => rfl)) (xe_var 2) (nomark _))))) (xg_name 10 S_l_table.nd)) (xss_cons (xs_if (xt_w (xw_and (xt_cmp opx_isNN (xe_var 9) xe_non (nomark _)) (xw_and (xt_not (xt_val (xe_var 10))) (xw_and1 rfl (xt_w (xw_or (xt_cmp (opx_ne hr.units) (xe_idx hr.units (xe_var 9) xe_int (fun _ _ => rfl)) xe_str (nomark _)) (xw_or1 rfl (xt_cmp opx_lt (xe_blt cl_len rfl T.b_len (by decide +kernel) (xa_cons (xe_idx hr.units (xe_var 7) xe_str (fun _ _ => rfl)) xa_nil)) xe_int (nomark _))))))))) (xss_cons (xs_exp (xe_call (C.own hr (n := 10) rfl) rfl (xa_cons (xe_var 7) (xa_cons (xe_var 9) xa_nil)))) (xss_cons (xs_exp (xe_append (xe_var 6) (xe_var 9))) xss_nil)) xss_nil) xss_nil)))) (xss_cons (xs_ret (xe_bty cl_tuple rfl T.b_tuple (by decide +kernel) (xa_cons (xe_var 6) xa_nil))) xss_nil)))
theorem ok_l_ended (T : Txt K w mg) (C : Calls2 P w K mg base names cf k) (F : FunD K "_law_ended" "_law_ended" (defArgs s_l_ended) (defBody s_l_ended) (defScope s_l_ended) [] [] f fd) (hcf : ∀ xs M, cf' 12 xs M = runD cf ir_l_ended xs M) :
    FnOk P w K mg base CX0 (k + 1) f fd ["_law_table_here"] (spEv K cf' 12 1) := by
  refine def_ok (d := ir_l_ended) F S_l_ended rfl rfl hcf fun cdv A outer s H E hr => ?_
  exact (xss_cons (xs_asg (xe_dct (xp_str xe_dnew (xp_str (xe_lst xa_nil) (xp_str xe_int xp_nil))) rfl rfl (fun z => by cases z) (by decide)) (xg_name 1 S_l_ended.nd)) (xss_cons (xs_for PassesOwn.never rfl (xi_seq (xe_var 0)) (xg_name 2 S_l_ended.nd) (xss_cons (xs_exp (xe_call (C.own hr (n := 10) rfl) rfl (xa_cons (xe_var 1) (xa_cons (xe_var 2) xa_nil)))) xss_nil)) (xss_cons (xs_ret (xe_bop opx_add (xe_var 0) (xe_bty cl_tuple rfl T.b_tuple (by decide +kernel) (xa_cons (xe_lc (own := [("_law_p", 3)]) rfl S_l_ended.nd (xi_seq (xe_blt (cl_sorted rfl) rfl T.b_sorted (by decide +kernel) (xa_cons (xe_idx hr.units (xe_var 1) xe_str (fun _ _ => rfl)) xa_nil))) (blkOk_by (own := [("_law_p", 3)]) (N := N_l_ended) (sc := defScope s_l_ended) (by decide +kernel)) (fun _ _ _ _ _ => (xg_name 3 S_l_ended.nd)) (fun _ _ _ _ _ => xts_one (xt_cmp opx_lt (xe_idx hr.units (xe_idx hr.units (xe_var 1) xe_str (fun _ _ => rfl)) (xe_var 3) (fun _ _ => rfl)) (xe_idx hr.units (xe_var 1) xe_str (fun _ _ => rfl)) (nomark _))) (fun _ _ _ _ _ => (xe_tup (xa_cons xe_str (xa_cons (xe_var 3) (xa_cons (xe_idx hr.units (xe_var 1) xe_str (fun _ _ => rfl)) xa_nil))))) (by decide)) xa_nil)))) xss_nil)))
theorem ok_l_lots (T : Txt K w mg) (C : Calls2 P w K mg base names cf k) (F : FunD K "_law_lots" "_law_lots" (defArgs s_l_lots) (defBody s_l_lots) (defScope s_l_lots) [] [] f fd) (hcf : ∀ xs M, cf' 13 xs M = runD cf ir_l_lots xs M) :
    FnOk P w K mg base CX0 (k + 1) f fd ["_law_box_here", "_law_most", "_law_names"] (spEv K cf' 13 3) := by
  refine def_ok (d := ir_l_lots) F S_l_lots rfl rfl hcf fun cdv A outer s H E hr => ?_
  exact (xss_cons (xs_asg (xe_lst xa_nil) (xg_name 3 S_l_lots.nd)) (xss_cons (xs_for PassesOwn.never rfl (xi_seq (xe_var 2)) (xg_name 4 S_l_lots.nd) (xss_cons (xs_asg (xe_idx hr.units (xe_lst (xa_cons xe_str (xa_cons xe_str (xa_cons xe_str (xa_cons xe_str (xa_cons xe_str (xa_cons xe_str xa_nil))))))) (xe_call (C.own hr (n := 6) rfl) rfl (xa_cons (xe_var 0) (xa_cons xe_int xa_nil))) (fun _ _ => rfl)) (xg_name 5 S_l_lots.nd)) (xss_cons (xs_setLc (own := [("_law_sign", 7)]) (n := 6) rfl S_l_lots.nd rfl rfl (sw_true rfl rfl rfl (by decide +kernel)) (xi_seq (xe_var 5)) (blkOk_by (own := [("_law_sign", 7)]) (N := N_l_lots) (sc := defScope s_l_lots) (by decide +kernel)) (fun _ _ _ _ _ => (xg_name 7 S_l_lots.nd)) (fun _ _ _ _ _ => xts_nil) (fun _ _ _ _ _ => (xe_if (xt_cmp (opx_eq hr.units) (xe_var 7) xe_str (nomark _)) (xe_tup (xa_cons xe_str (xa_cons (xe_var 4) (xa_cons (xe_call (C.own hr (n := 6) rfl) rfl (xa_cons (xe_var 0) (xa_cons xe_int xa_nil))) xa_nil)))) (xe_tup (xa_cons xe_str (xa_cons (xe_var 4) xa_nil))))) (by decide)) (xss_cons (xs_if (xt_cmp opx_le (xe_bop opx_add (xe_blt (cl_sum rfl) rfl T.b_sum (by decide +kernel) (xa_cons (xe_lc (own := [("_law_own_so", 8)]) rfl S_l_lots.nd (xi_seq (xe_var 3)) (blkOk_by (own := [("_law_own_so", 8)]) (N := N_l_lots) (sc := defScope s_l_lots) (by decide +kernel)) (fun _ _ _ _ _ => (xg_name 8 S_l_lots.nd)) (fun _ _ _ _ _ => xts_nil) (fun _ _ _ _ _ => (xe_blt cl_len rfl T.b_len (by decide +kernel) (xa_cons (xe_var 8) xa_nil))) (by decide)) xa_nil)) (xe_blt cl_len rfl T.b_len (by decide +kernel) (xa_cons (xe_var 6) xa_nil))) (xe_var 1) (nomark _)) (xss_cons (xs_exp (xe_append (xe_var 3) (xe_var 6))) xss_nil) xss_nil) xss_nil)))) (xss_cons (xs_ret (xe_var 3)) xss_nil)))
theorem ok_l_beside (T : Txt K w mg) (C : Calls2 P w K mg base names cf k) (F : FunD K "_law_beside" "_law_beside" (defArgs s_l_beside) (defBody s_l_beside) (defScope s_l_beside) [] [] f fd) (hcf : ∀ xs M, cf' 14 xs M = runD cf ir_l_beside xs M) :
    FnOk P w K mg base CX0 (k + 1) f fd ["_law_box_here", "_law_w", "_law_folk"] (spEv K cf' 14 3) := by
  refine def_ok (d := ir_l_beside) F S_l_beside rfl rfl hcf fun cdv A outer s H E hr => ?_
  exact (xss_cons (xs_asg (xe_lst xa_nil) (xg_name 3 S_l_beside.nd)) (xss_cons (xs_for PassesOwn.never rfl (xi_rng1 rfl T.b_range (xe_var 2)) (xg_name 4 S_l_beside.nd) (xss_cons (xs_asg (xe_bop opx_sub (xe_idx hr.units (xe_var 1) xe_str (fun _ _ => rfl)) (xe_idx hr.units (xe_idx hr.units (xe_var 1) xe_str (fun _ _ => rfl)) (xe_var 4) (fun _ _ => rfl))) (xg_name 5 S_l_beside.nd)) (xss_cons (xs_if (xt_w (xw_and (xt_cmp opx_gt (xe_var 5) xe_int (nomark _)) (xw_and1 rfl (xt_cmp (opx_eq hr.units) (xe_call (C.own hr (n := 6) rfl) rfl (xa_cons (xe_var 0) (xa_cons xe_int xa_nil))) xe_int (nomark _))))) (xss_cons (xs_exp (xe_append (xe_var 3) (xe_tup (xa_cons xe_str (xa_cons (xe_var 4) (xa_cons (xe_bop opx_add (xe_bop opx_add (xe_idx hr.units (xe_idx hr.units (xe_var 1) xe_str (fun _ _ => rfl)) (xe_var 4) (fun _ _ => rfl)) xe_int) (xe_call (C.own hr (n := 6) rfl) rfl (xa_cons (xe_var 0) (xa_cons (xe_var 5) xa_nil)))) xa_nil)))))) xss_nil) xss_nil) xss_nil))) (xss_cons (xs_par2 (m := 6) (n := 4) rfl S_l_beside.nd rfl rfl (by decide) rfl rfl (xa_cons (xe_call (C.own hr (n := 6) rfl) rfl (xa_cons (xe_var 0) (xa_cons xe_int xa_nil))) (xa_cons (xe_call (C.own hr (n := 6) rfl) rfl (xa_cons (xe_var 0) (xa_cons (xe_var 2) xa_nil))) xa_nil)) (by rfl)) (xss_cons (xs_if (xt_cmp (opx_eq hr.units) (xe_var 6) xe_int (nomark _)) (xss_cons (xs_exp (xe_append (xe_var 3) (xe_tup (xa_cons xe_str xa_nil)))) xss_nil) xss_nil) (xss_cons (xs_if (xt_w (xw_and (xt_cmp (opx_eq hr.units) (xe_var 6) xe_int (nomark _)) (xw_and1 rfl (xt_cmp opx_lt (xe_blt cl_len rfl T.b_len (by decide +kernel) (xa_cons (xe_idx hr.units (xe_var 1) xe_str (fun _ _ => rfl)) xa_nil)) xe_int (nomark _))))) (xss_cons (xs_exp (xe_append (xe_var 3) (xe_tup (xa_cons xe_str (xa_cons (xe_var 4) xa_nil))))) xss_nil) xss_nil) (xss_cons (xs_if (xt_w (xw_and (xt_cmp (opx_eq hr.units) (xe_var 6) xe_int (nomark _)) (xw_and1 rfl (xt_cmp (opx_ne hr.units) (xe_idx hr.units (xe_var 1) xe_str (fun _ _ => rfl)) (xe_lst xa_nil) (nomark _))))) (xss_cons (xs_exp (xe_append (xe_var 3) (xe_tup (xa_cons xe_str (xa_cons (xe_var 4) (xa_cons (xe_call (C.own hr (n := 6) rfl) rfl (xa_cons (xe_var 0) (xa_cons (xe_blt cl_len rfl T.b_len (by decide +kernel) (xa_cons (xe_idx hr.units (xe_var 1) xe_str (fun _ _ => rfl)) xa_nil)) xa_nil))) xa_nil)))))) xss_nil) xss_nil) (xss_cons (xs_if (xt_cmp (opx_eq hr.units) (xe_var 6) xe_int (nomark _)) (xss_cons (xs_exp (xe_append (xe_var 3) (xe_tup (xa_cons xe_str (xa_cons (xe_var 4) xa_nil))))) xss_nil) xss_nil) (xss_cons (xs_ret (xe_var 3)) xss_nil))))))))
theorem ok_l_fit (T : Txt K w mg) (C : Calls2 P w K mg base names cf k) (F : FunD K "_law_fit" "_law_fit" (defArgs s_l_fit) (defBody s_l_fit) (defScope s_l_fit) [] [] f fd) (hcf : ∀ xs M, cf' 15 xs M = runD cf ir_l_fit xs M) :
    FnOk P w K mg base CX0 (k + 1) f fd ["_law_box_here", "_law_most", "_law_folk", "_law_far"] (spEv K cf' 15 4) := by
  refine def_ok (d := ir_l_fit) F S_l_fit rfl rfl hcf fun cdv A outer s H E hr => ?_
  exact (xss_cons (xs_asg (xe_call (C.own hr (n := 13) rfl) rfl (xa_cons (xe_var 0) (xa_cons (xe_var 1) (xa_cons (xe_slc (xe_lst (xa_cons xe_str (xa_cons xe_str (xa_cons xe_str xa_nil)))) xo0 (xo1 (xe_bop opx_sub (xe_bop opx_fdiv (xe_var 1) xe_int) (xe_bty cl_int rfl T.b_int (by decide +kernel) (xa_cons (xe_cmp (opx_eq hr.units) (xe_var 2) xe_int (nomark _)) xa_nil))))) xa_nil)))) (xg_name 4 S_l_fit.nd)) (xss_cons (xs_par2 (m := 5) (n := 6) rfl S_l_fit.nd rfl rfl (by decide) rfl rfl (xa_cons (xe_dct (xp_str xe_dnew (xp_str (xe_lst xa_nil) (xp_str xe_int xp_nil))) rfl rfl (fun z => by cases z) (by decide)) (xa_cons (xe_lc (own := [("_law_p", 10)]) rfl S_l_fit.nd (xi_rng1 rfl T.b_range (xe_var 2)) (blkOk_by (own := [("_law_p", 10)]) (N := N_l_fit) (sc := defScope s_l_fit) (by decide +kernel)) (fun _ _ _ _ _ => (xg_name 10 S_l_fit.nd)) (fun _ _ _ _ _ => xts_nil) (fun _ _ _ _ _ => (xe_tup (xa_cons xe_str (xa_cons (xe_var 10) xa_nil)))) (by decide)) xa_nil)) (by rfl)) (xss_cons (xs_for PassesOwn.never rfl (xi_seq (xe_var 6)) (xg_name 7 S_l_fit.nd) (xss_cons (xs_exp (xe_call (C.own hr (n := 10) rfl) rfl (xa_cons (xe_var 5) (xa_cons (xe_var 7) xa_nil)))) xss_nil)) (xss_cons (xs_whl PassesOwn.never (xt_cmp (opx_ne hr.units) (xe_var 4) (xe_lst xa_nil) (nomark _)) (xss_cons (xs_asg (xe_idx hr.units (xe_var 4) (xe_call (C.own hr (n := 6) rfl) rfl (xa_cons (xe_var 0) (xa_cons (xe_blt cl_len rfl T.b_len (by decide +kernel) (xa_cons (xe_var 4) xa_nil)) xa_nil))) (fun _ _ => rfl)) (xg_name 8 S_l_fit.nd)) (xss_cons (xs_exp (xe_append (xe_var 6) (xe_pop1 (xe_var 8) xe_int))) (xss_cons (xs_exp (xe_call (C.own hr (n := 10) rfl) rfl (xa_cons (xe_var 5) (xa_cons (xe_idx hr.units (xe_var 6) (xe_neg xe_int) (fun _ _ => rfl)) xa_nil)))) (xss_cons (xs_setLc (own := [("_law_some", 11)]) (n := 4) rfl S_l_fit.nd rfl rfl (sw_true rfl rfl rfl (by decide +kernel)) (xi_seq (xe_var 4)) (blkOk_by (own := [("_law_some", 11)]) (N := N_l_fit) (sc := defScope s_l_fit) (by decide +kernel)) (fun _ _ _ _ _ => (xg_name 11 S_l_fit.nd)) (fun _ _ _ _ _ => xts_one (xt_cmp (opx_ne hr.units) (xe_var 11) (xe_lst xa_nil) (nomark _))) (fun _ _ _ _ _ => (xe_var 11)) (by decide)) (xss_cons (xs_asg (xe_blt (cl_sum rfl) rfl T.b_sum (by decide +kernel) (xa_cons (xe_lc (own := [("_law_some", 11)]) rfl S_l_fit.nd (xi_seq (xe_var 4)) (blkOk_by (own := [("_law_some", 11)]) (N := N_l_fit) (sc := defScope s_l_fit) (by decide +kernel)) (fun _ _ _ _ _ => (xg_name 11 S_l_fit.nd)) (fun _ _ _ _ _ => xts_nil) (fun _ _ _ _ _ => (xe_blt cl_len rfl T.b_len (by decide +kernel) (xa_cons (xe_var 11) xa_nil))) (by decide)) xa_nil)) (xg_name 9 S_l_fit.nd)) (xss_cons (xs_for PassesOwn.never rfl (xi_seq (xe_call (C.own hr (n := 14) rfl) rfl (xa_cons (xe_var 0) (xa_cons (xe_var 5) (xa_cons (xe_var 2) xa_nil))))) (xg_name 7 S_l_fit.nd) (xss_cons (xs_if (xt_cmp opx_lt (xe_bop opx_add (xe_bop opx_add (xe_blt cl_len rfl T.b_len (by decide +kernel) (xa_cons (xe_var 6) xa_nil)) (xe_var 9)) (xe_var 2)) (xe_var 3) (nomark _)) (xss_cons (xs_exp (xe_call (C.own hr (n := 10) rfl) rfl (xa_cons (xe_var 5) (xa_cons (xe_var 7) xa_nil)))) (xss_cons (xs_exp (xe_append (xe_var 6) (xe_var 7))) xss_nil)) xss_nil) xss_nil)) xss_nil))))))) (xss_cons (xs_ret (xe_call (C.own hr (n := 12) rfl) rfl (xa_cons (xe_bty cl_tuple rfl T.b_tuple (by decide +kernel) (xa_cons (xe_var 6) xa_nil)) xa_nil))) xss_nil)))))
theorem ok_l_drawn (T : Txt K w mg) (C : Calls2 P w K mg base names cf k) (F : FunD K "_law_drawn" "_law_drawn" (defArgs s_l_drawn) (defBody s_l_drawn) (defScope s_l_drawn) [] [] f fd) (hcf : ∀ xs M, cf' 16 xs M = runD cf ir_l_drawn xs M) :
    FnOk P w K mg base CX0 (k + 1) f fd ["_law_box_here", "_law_most"] (spEv K cf' 16 2) := by
  refine def_ok (d := ir_l_drawn) F S_l_drawn rfl rfl hcf fun cdv A outer s H E hr => ?_
  exact (xss_cons (xs_if (xt_cmp (opx_eq hr.units) (xe_call (C.own hr (n := 6) rfl) rfl (xa_cons (xe_var 0) (xa_cons xe_int xa_nil))) xe_int (nomark _)) (xss_cons (xs_ret (xe_call (C.own hr (n := 15) rfl) rfl (xa_cons (xe_var 0) (xa_cons (xe_var 1) (xa_cons (xe_bop opx_add xe_int (xe_call (C.own hr (n := 6) rfl) rfl (xa_cons (xe_var 0) (xa_cons xe_int xa_nil)))) (xa_cons xe_int xa_nil)))))) xss_nil) xss_nil) (xss_cons (xs_asg (xe_slc (xe_lst (xa_cons xe_str (xa_cons xe_str (xa_cons xe_str (xa_cons xe_str xa_nil))))) xo0 (xo1 (xe_bop opx_add xe_int (xe_call (C.own hr (n := 6) rfl) rfl (xa_cons (xe_var 0) (xa_cons xe_int xa_nil)))))) (xg_name 2 S_l_drawn.nd)) (xss_cons (xs_asg (xe_call (C.own hr (n := 7) rfl) rfl (xa_cons (xe_var 0) (xa_cons (xe_lst (xa_cons xe_str (xa_cons xe_str (xa_cons xe_str xa_nil)))) xa_nil))) (xg_name 3 S_l_drawn.nd)) (xss_cons (xs_asg (xe_call (C.own hr (n := 11) rfl) rfl (xa_cons (xe_var 0) (xa_cons (xe_bop opx_add xe_int (xe_call (C.own hr (n := 6) rfl) rfl (xa_cons (xe_var 0) (xa_cons xe_int xa_nil)))) (xa_cons (xe_var 1) (xa_cons (xe_bop opx_add xe_int (xe_call (C.own hr (n := 6) rfl) rfl (xa_cons (xe_var 0) (xa_cons xe_int xa_nil)))) (xa_cons (xe_var 2) (xa_cons (xe_var 3) xa_nil))))))) (xg_name 4 S_l_drawn.nd)) (xss_cons (xs_ret (xe_if (xt_cmp opx_gt (xe_call (C.own hr (n := 6) rfl) rfl (xa_cons (xe_var 0) (xa_cons xe_int xa_nil))) xe_int (nomark _)) (xe_call (C.own hr (n := 12) rfl) rfl (xa_cons (xe_var 4) xa_nil)) (xe_var 4))) xss_nil)))))
theorem ok_l_is_plain (T : Txt K w mg) (C : Calls2 P w K mg base names cf k) (F : FunD K "_law_is_plain" "_law_is_plain" (defArgs s_l_is_plain) (defBody s_l_is_plain) (defScope s_l_is_plain) [] [] f fd) (hcf : ∀ xs M, cf' 17 xs M = runD cf ir_l_is_plain xs M) :
    FnOk P w K mg base CX0 (k + 1) f fd ["_law_matter"] (spEv K cf' 17 1) := by
  refine def_ok (d := ir_l_is_plain) F S_l_is_plain rfl rfl hcf fun cdv A outer s H E hr => ?_
  exact (xss_cons (xs_ret (xe_and (xe_isi1 (t := .int) rfl T.b_isinstance (xe_var 0) (pe_tyN (t := .int) rfl T.b_int (by decide +kernel))) (xe_one (xe_not (xe_isi1 (t := .bool) rfl T.b_isinstance (xe_var 0) (pe_tyN (t := .bool) rfl T.b_bool (by decide +kernel))))))) xss_nil)
theorem ok_l_is_name (T : Txt K w mg) (C : Calls2 P w K mg base names cf k) (F : FunD K "_law_is_name" "_law_is_name" (defArgs s_l_is_name) (defBody s_l_is_name) (defScope s_l_is_name) [] [] f fd) (hcf : ∀ xs M, cf' 18 xs M = runD cf ir_l_is_name xs M) :
    FnOk P w K mg base CX0 (k + 1) f fd ["_law_matter"] (spEv K cf' 18 1) := by
  refine def_ok (d := ir_l_is_name) F S_l_is_name rfl rfl hcf fun cdv A outer s H E hr => ?_
  exact (xss_cons (xs_asg xe_str (xg_name 1 S_l_is_name.nd)) (xss_cons (xs_ret (xe_and (xe_isi1 (t := .str) rfl T.b_isinstance (xe_var 0) (pe_tyN (t := .str) rfl T.b_str (by decide +kernel))) (xe_and (xe_chn opx_le opx_le xe_int (xe_blt cl_len rfl T.b_len (by decide +kernel) (xa_cons (xe_var 0) xa_nil)) xe_int) (xe_one (xe_cmp (opx_eq hr.units) (xe_lc (own := [("_law_sign", 2)]) rfl S_l_is_name.nd (xi_seq (xe_var 0)) (blkOk_by (own := [("_law_sign", 2)]) (N := N_l_is_name) (sc := defScope s_l_is_name) (by decide +kernel)) (fun _ _ _ _ _ => (xg_name 2 S_l_is_name.nd)) (fun _ _ _ _ _ => xts_one (xt_cmp (opx_notin hr.units) (xe_var 2) (xe_var 1) rfl)) (fun _ _ _ _ _ => (xe_var 2)) (by decide)) (xe_lst xa_nil) (nomark _)))))) xss_nil))
theorem ok_l_is_row (T : Txt K w mg) (C : Calls2 P w K mg base names cf k) (F : FunD K "_law_is_row" "_law_is_row" (defArgs s_l_is_row) (defBody s_l_is_row) (defScope s_l_is_row) [] [] f fd) (hcf : ∀ xs M, cf' 19 xs M = runD cf ir_l_is_row xs M) :
    FnOk P w K mg base CX0 (k + 1) f fd ["_law_matter"] (spEv K cf' 19 1) := by
  refine def_ok (d := ir_l_is_row) F S_l_is_row rfl rfl hcf fun cdv A outer s H E hr => ?_
  exact (xss_cons (xs_if (xt_w (xw_or (xt_not (xt_val (xe_isi1 (t := .tuple) rfl T.b_isinstance (xe_var 0) (pe_tyN (t := .tuple) rfl T.b_tuple (by decide +kernel))))) (xw_or (xt_cmp (opx_eq hr.units) (xe_var 0) (xe_tup xa_nil) (nomark _)) (xw_or1 rfl (xt_not (xt_val (xe_isi1 (t := .str) rfl T.b_isinstance (xe_idx hr.units (xe_var 0) xe_int (fun _ _ => rfl)) (pe_tyN (t := .str) rfl T.b_str (by decide +kernel))))))))) (xss_cons (xs_ret xe_bl) xss_nil) xss_nil) (xss_cons (xs_par2 (m := 1) (n := 2) rfl S_l_is_row.nd rfl rfl (by decide) rfl rfl (xa_cons (xe_idx hr.units (xe_var 0) xe_int (fun _ _ => rfl)) (xa_cons (xe_slc (xe_var 0) (xo1 xe_int) xo0) xa_nil)) (by rfl)) (xss_cons (xs_if (xt_cmp (opx_eq hr.units) (xe_var 1) xe_str (nomark _)) (xss_cons (xs_ret (xe_and (xe_cmp (opx_eq hr.units) (xe_blt cl_len rfl T.b_len (by decide +kernel) (xa_cons (xe_var 2) xa_nil)) xe_int (nomark _)) (xe_and (xe_call (C.own hr (n := 18) rfl) rfl (xa_cons (xe_idx hr.units (xe_var 2) xe_int (fun _ _ => rfl)) xa_nil)) (xe_one (xe_call (C.own hr (n := 17) rfl) rfl (xa_cons (xe_idx hr.units (xe_var 2) xe_int (fun _ _ => rfl)) xa_nil)))))) xss_nil) xss_nil) (xss_cons (xs_if (xt_cmp (opx_eq hr.units) (xe_var 1) xe_str (nomark _)) (xss_cons (xs_ret (xe_and (xe_cmp (opx_eq hr.units) (xe_blt cl_len rfl T.b_len (by decide +kernel) (xa_cons (xe_var 2) xa_nil)) xe_int (nomark _)) (xe_one (xe_call (C.own hr (n := 18) rfl) rfl (xa_cons (xe_idx hr.units (xe_var 2) xe_int (fun _ _ => rfl)) xa_nil))))) xss_nil) xss_nil) (xss_cons (xs_asg (xe_dct (xp_str xe_int (xp_str xe_int (xp_str xe_int (xp_str xe_int (xp_str xe_int xp_nil))))) rfl rfl (fun z => by cases z) (by decide)) (xg_name 3 S_l_is_row.nd)) (xss_cons (xs_if (xt_cmp (opx_ne hr.units) (xe_get1 hr.units (xe_var 3) (xe_var 1) ⟨rfl, rfl, rfl, rfl⟩) (xe_blt cl_len rfl T.b_len (by decide +kernel) (xa_cons (xe_var 2) xa_nil)) (nomark _)) (xss_cons (xs_ret xe_bl) xss_nil) xss_nil) (xss_cons (xs_ret (xe_blt (cl_all_ rfl) rfl T.b_all (by decide +kernel) (xa_cons (xe_lc (own := [("_law_part", 4)]) rfl S_l_is_row.nd (xi_seq (xe_var 2)) (blkOk_by (own := [("_law_part", 4)]) (N := N_l_is_row) (sc := defScope s_l_is_row) (by decide +kernel)) (fun _ _ _ _ _ => (xg_name 4 S_l_is_row.nd)) (fun _ _ _ _ _ => xts_nil) (fun _ _ _ _ _ => (xe_and (xe_call (C.own hr (n := 17) rfl) rfl (xa_cons (xe_var 4) xa_nil)) (xe_one (xe_cmp opx_ge (xe_var 4) xe_int (nomark _))))) (by decide)) xa_nil))) xss_nil)))))))
theorem ok_l_is_whole (T : Txt K w mg) (C : Calls2 P w K mg base names cf k) (F : FunD K "_law_is_whole" "_law_is_whole" (defArgs s_l_is_whole) (defBody s_l_is_whole) (defScope s_l_is_whole) [] [] f fd) (hcf : ∀ xs M, cf' 20 xs M = runD cf ir_l_is_whole xs M) :
    FnOk P w K mg base CX0 (k + 1) f fd ["_law_matter"] (spEv K cf' 20 1) := by
  refine def_ok (d := ir_l_is_whole) F S_l_is_whole rfl rfl hcf fun cdv A outer s H E hr => ?_
  exact (xss_cons (xs_if (xt_w (xw_or (xt_not (xt_val (xe_isi1 (t := .tuple) rfl T.b_isinstance (xe_var 0) (pe_tyN (t := .tuple) rfl T.b_tuple (by decide +kernel))))) (xw_or1 rfl (xt_not (xt_val (xe_blt (cl_all_ rfl) rfl T.b_all (by decide +kernel) (xa_cons (xe_lc (own := [("_law_row", 2)]) rfl S_l_is_whole.nd (xi_seq (xe_var 0)) (blkOk_by (own := [("_law_row", 2)]) (N := N_l_is_whole) (sc := defScope s_l_is_whole) (by decide +kernel)) (fun _ _ _ _ _ => (xg_name 2 S_l_is_whole.nd)) (fun _ _ _ _ _ => xts_nil) (fun _ _ _ _ _ => (xe_call (C.own hr (n := 19) rfl) rfl (xa_cons (xe_var 2) xa_nil))) (by decide)) xa_nil))))))) (xss_cons (xs_ret xe_bl) xss_nil) xss_nil) (xss_cons (xs_asg (xe_dct (xp_str xe_dnew (xp_str (xe_lst xa_nil) (xp_str xe_int xp_nil))) rfl rfl (fun z => by cases z) (by decide)) (xg_name 1 S_l_is_whole.nd)) (xss_cons (xs_for PassesOwn.never rfl (xi_seq (xe_var 0)) (xg_name 2 S_l_is_whole.nd) (xss_cons (xs_if (xt_w (xw_and (xt_cmp (opx_in hr.units) (xe_idx hr.units (xe_var 2) xe_int (fun _ _ => rfl)) (xe_tup (xa_cons xe_str (xa_cons xe_str xa_nil))) rfl) (xw_and1 rfl (xt_cmp (opx_notin hr.units) (xe_idx hr.units (xe_var 2) xe_int (fun _ _ => rfl)) (xe_idx hr.units (xe_var 1) xe_str (fun _ _ => rfl)) rfl)))) (xss_cons (xs_ret xe_bl) xss_nil) xss_nil) (xss_cons (xs_if (xt_w (xw_and (xt_cmp (opx_eq hr.units) (xe_idx hr.units (xe_var 2) xe_int (fun _ _ => rfl)) xe_str (nomark _)) (xw_and1 rfl (xt_not (xt_chn opx_lt opx_le (xe_idx hr.units (xe_idx hr.units (xe_var 1) xe_str (fun _ _ => rfl)) (xe_idx hr.units (xe_var 2) xe_int (fun _ _ => rfl)) (fun _ _ => rfl)) (xe_idx hr.units (xe_var 2) xe_int (fun _ _ => rfl)) (xe_idx hr.units (xe_var 1) xe_str (fun _ _ => rfl))))))) (xss_cons (xs_ret xe_bl) xss_nil) xss_nil) (xss_cons (xs_if (xt_w (xw_and (xt_cmp (opx_eq hr.units) (xe_idx hr.units (xe_var 2) xe_int (fun _ _ => rfl)) xe_str (nomark _)) (xw_and1 rfl (xt_cmp opx_ge (xe_idx hr.units (xe_var 2) xe_int (fun _ _ => rfl)) (xe_blt cl_len rfl T.b_len (by decide +kernel) (xa_cons (xe_idx hr.units (xe_var 1) xe_str (fun _ _ => rfl)) xa_nil)) (nomark _))))) (xss_cons (xs_ret xe_bl) xss_nil) xss_nil) (xss_cons (xs_exp (xe_call (C.own hr (n := 10) rfl) rfl (xa_cons (xe_var 1) (xa_cons (xe_var 2) xa_nil)))) xss_nil))))) (xss_cons (xs_ret xe_bl) xss_nil))))
theorem ok_l_bent (T : Txt K w mg) (C : Calls2 P w K mg base names cf k) (F : FunD K "_law_bent" "_law_bent" (defArgs s_l_bent) (defBody s_l_bent) (defScope s_l_bent) [] [] f fd) (hcf : ∀ xs M, cf' 21 xs M = runD cf ir_l_bent xs M) :
    FnOk P w K mg base CX0 (k + 1) f fd ["_law_box_here", "_law_table_here"] (spEv K cf' 21 2) := by
  refine def_ok (d := ir_l_bent) F S_l_bent rfl rfl hcf fun cdv A outer s H E hr => ?_
  exact (xss_cons (xs_par2 (m := 2) (n := 3) rfl S_l_bent.nd rfl rfl (by decide) rfl rfl (xa_cons (xe_call (C.own hr (n := 6) rfl) rfl (xa_cons (xe_var 0) (xa_cons (xe_blt cl_len rfl T.b_len (by decide +kernel) (xa_cons (xe_var 1) xa_nil)) xa_nil))) (xa_cons (xe_call (C.own hr (n := 6) rfl) rfl (xa_cons (xe_var 0) (xa_cons xe_int xa_nil))) xa_nil)) (by rfl)) (xss_cons (xs_asg (xe_idx hr.units (xe_var 1) (xe_var 2) (fun _ _ => rfl)) (xg_name 4 S_l_bent.nd)) (xss_cons (xs_asg (xe_call (C.own hr (n := 6) rfl) rfl (xa_cons (xe_var 0) (xa_cons (xe_blt cl_len rfl T.b_len (by decide +kernel) (xa_cons (xe_var 4) xa_nil)) xa_nil))) (xg_name 5 S_l_bent.nd)) (xss_cons (xs_asg (xe_lst (xa_cons xe_bl (xa_cons (xe_neg xe_int) (xa_cons xe_int (xa_cons xe_int (xa_cons xe_int (xa_cons xe_int (xa_cons xe_str (xa_cons xe_str (xa_cons xe_str (xa_cons xe_str (xa_cons xe_str (xa_cons xe_str (xa_cons xe_non (xa_cons (xe_tup xa_nil) (xa_cons (xe_lst (xa_cons xe_int xa_nil)) (xa_cons (xe_bop opx_pow xe_int xe_int) xa_nil))))))))))))))))) (xg_name 6 S_l_bent.nd)) (xss_cons (xs_asg (xe_bop opx_add (xe_var 6) (xe_lst (xa_cons xe_str (xa_cons xe_str (xa_cons xe_str (xa_cons xe_str (xa_cons xe_str xa_nil))))))) (xg_name 6 S_l_bent.nd)) (xss_cons (xs_if (xt_cmp opx_lt (xe_var 3) xe_int (nomark _)) (xss_cons (xs_ret (xe_bop opx_add (xe_slc (xe_var 1) xo0 (xo1 (xe_var 2))) (xe_slc (xe_var 1) (xo1 (xe_bop opx_add (xe_var 2) xe_int)) xo0))) xss_nil) xss_nil) (xss_cons (xs_if (xt_cmp (opx_eq hr.units) (xe_var 3) xe_int (nomark _)) (xss_cons (xs_ret (xe_bop opx_add (xe_bop opx_add (xe_slc (xe_var 1) xo0 (xo1 (xe_var 2))) (xe_slc (xe_var 1) (xo1 (xe_var 2)) (xo1 (xe_bop opx_add (xe_var 2) xe_int)))) (xe_slc (xe_var 1) (xo1 (xe_var 2)) xo0))) xss_nil) xss_nil) (xss_cons (xs_if (xt_cmp (opx_eq hr.units) (xe_var 3) xe_int (nomark _)) (xss_cons (xs_ret (xe_bop opx_add (xe_bop opx_add (xe_slc (xe_var 1) xo0 (xo1 (xe_var 2))) (xe_rev (xe_slc (xe_var 1) (xo1 (xe_var 2)) (xo1 (xe_bop opx_add (xe_var 2) xe_int))))) (xe_slc (xe_var 1) (xo1 (xe_bop opx_add (xe_var 2) xe_int)) xo0))) xss_nil) xss_nil) (xss_cons (xs_if (xt_cmp (opx_eq hr.units) (xe_var 3) xe_int (nomark _)) (xss_cons (xs_ret (xe_call (C.own hr (n := 7) rfl) rfl (xa_cons (xe_var 0) (xa_cons (xe_lst (xa_cons (xe_bty cl_list rfl T.b_list (by decide +kernel) (xa_cons (xe_var 1) xa_nil)) (xa_cons (xe_bop opx_add (xe_bop opx_add (xe_slc (xe_var 1) xo0 (xo1 (xe_var 2))) (xe_tup (xa_cons (xe_bty cl_list rfl T.b_list (by decide +kernel) (xa_cons (xe_var 4) xa_nil)) xa_nil))) (xe_slc (xe_var 1) (xo1 (xe_bop opx_add (xe_var 2) xe_int)) xo0)) (xa_cons (xe_bop opx_add (xe_var 1) (xe_tup (xa_cons (xe_tup xa_nil) xa_nil))) (xa_cons (xe_tup (xa_cons (xe_var 1) xa_nil)) xa_nil))))) xa_nil)))) xss_nil) xss_nil) (xss_cons (xs_if (xt_cmp (opx_eq hr.units) (xe_var 3) xe_int (nomark _)) (xss_cons (xs_ret (xe_bop opx_add (xe_bop opx_add (xe_slc (xe_var 1) xo0 (xo1 (xe_var 2))) (xe_tup (xa_cons (xe_bop opx_add (xe_var 4) (xe_tup (xa_cons xe_int xa_nil))) xa_nil))) (xe_slc (xe_var 1) (xo1 (xe_bop opx_add (xe_var 2) xe_int)) xo0))) xss_nil) xss_nil) (xss_cons (xs_asg (xe_bop opx_add (xe_bop opx_add (xe_slc (xe_var 4) xo0 (xo1 (xe_var 5))) (xe_tup (xa_cons (xe_call (C.own hr (n := 7) rfl) rfl (xa_cons (xe_var 0) (xa_cons (xe_var 6) xa_nil))) xa_nil))) (xe_slc (xe_var 4) (xo1 (xe_bop opx_add (xe_var 5) xe_int)) xo0)) (xg_name 7 S_l_bent.nd)) (xss_cons (xs_ret (xe_bop opx_add (xe_bop opx_add (xe_slc (xe_var 1) xo0 (xo1 (xe_var 2))) (xe_tup (xa_cons (xe_var 7) xa_nil))) (xe_slc (xe_var 1) (xo1 (xe_bop opx_add (xe_var 2) xe_int)) xo0))) xss_nil))))))))))))
theorem ok_l_right (T : Txt K w mg) (C : Calls2 P w K mg base names cf k) (F : FunD K "_law_right" "_law_right" (defArgs s_l_right) (defBody s_l_right) (defScope s_l_right) [] [] f fd) (hcf : ∀ xs M, cf' 22 xs M = runD cf ir_l_right xs M) :
    FnOk P w K mg base CX0 (k + 1) f fd ["_law_box_here"] (spEv K cf' 22 1) := by
  refine def_ok (d := ir_l_right) F S_l_right rfl rfl hcf fun cdv A outer s H E hr => ?_
  exact (xss_cons (xs_for PassesOwn.never rfl (xi_rng1 rfl T.b_range xe_int) (xg_name 1 S_l_right.nd) (xss_cons (xs_asg (xe_call (C.own hr (n := 16) rfl) rfl (xa_cons (xe_var 0) (xa_cons xe_int xa_nil))) (xg_name 2 S_l_right.nd)) (xss_cons (xs_asg (xe_lst (xa_cons (xe_var 2) (xa_cons (xe_slc (xe_var 2) xo0 (xo1 (xe_call (C.own hr (n := 6) rfl) rfl (xa_cons (xe_var 0) (xa_cons (xe_bop opx_add (xe_blt cl_len rfl T.b_len (by decide +kernel) (xa_cons (xe_var 2) xa_nil)) xe_int) xa_nil))))) (xa_cons (xe_tup xa_nil) (xa_cons xe_non (xa_cons xe_bl (xa_cons xe_int (xa_cons xe_str (xa_cons (xe_tup (xa_cons (xe_tup xa_nil) xa_nil)) (xa_cons (xe_tup (xa_cons (xe_tup (xa_cons xe_str xa_nil)) xa_nil)) xa_nil)))))))))) (xg_name 3 S_l_right.nd)) (xss_cons (xs_asg (xe_bop opx_add (xe_var 3) (xe_lst (xa_cons (xe_lst (xa_cons (xe_tup (xa_cons xe_str xa_nil)) xa_nil)) (xa_cons (xe_tup (xa_cons (xe_tup (xa_cons xe_str (xa_cons xe_str xa_nil))) xa_nil)) (xa_cons (xe_tup (xa_cons (xe_tup (xa_cons xe_str (xa_cons xe_str xa_nil))) xa_nil)) (xa_cons (xe_tup (xa_cons (xe_tup (xa_cons xe_str (xa_cons xe_str (xa_cons xe_int xa_nil)))) xa_nil)) xa_nil)))))) (xg_name 3 S_l_right.nd)) (xss_cons (xs_asg (xe_bop opx_add (xe_var 3) (xe_lc (own := [("_law_again", 7)]) rfl S_l_right.nd (xi_rng1 rfl T.b_range xe_int) (blkOk_by (own := [("_law_again", 7)]) (N := N_l_right) (sc := defScope s_l_right) (by decide +kernel)) (fun _ _ _ _ _ => (xg_name 7 S_l_right.nd)) (fun _ _ _ _ _ => xts_one (xt_cmp (opx_ne hr.units) (xe_var 2) (xe_tup xa_nil) (nomark _))) (fun _ _ _ _ _ => (xe_call (C.own hr (n := 21) rfl) rfl (xa_cons (xe_var 0) (xa_cons (xe_var 2) xa_nil)))) (by decide))) (xg_name 3 S_l_right.nd)) (xss_cons (xs_for PassesOwn.never rfl (xi_seq (xe_var 3)) (xg_name 4 S_l_right.nd) (xss_cons (xs_asg (xe_call (C.own hr (n := 20) rfl) rfl (xa_cons (xe_var 4) xa_nil)) (xg_name 5 S_l_right.nd)) (xss_cons (xs_if (xt_not (xt_val (xe_call (C.own hr (n := 8) rfl) rfl (xa_cons (xe_lst (xa_cons (xe_call (C.own hr (n := 4) rfl) rfl (xa_cons (xe_var 4) xa_nil)) (xa_cons (xe_callK0 (C.own hr (n := 4) rfl) rfl (xk_cons (xe_var 4) xk_nil)) xa_nil))) (xa_cons (xe_lst (xa_cons (xe_var 5) (xa_cons (xe_var 5) xa_nil))) xa_nil))))) (xss_cons (xs_ret xe_bl) xss_nil) xss_nil) (xss_cons (xs_for PassesOwn.never rfl (xi_seq (xe_if (xt_val (xe_isiT (ts := [.tuple, .list]) rfl T.b_isinstance (xe_var 4) (pa_cons (pe_tyN (t := .tuple) rfl T.b_tuple (by decide +kernel)) (pa_cons (pe_tyN (t := .list) rfl T.b_list (by decide +kernel)) pa_nil)) (by decide) (fun _ _ _ h => h))) (xe_var 4) (xe_lst (xa_cons (xe_var 4) xa_nil)))) (xg_name 6 S_l_right.nd) (xss_cons (xs_if (xt_not (xt_val (xe_call (C.own hr (n := 8) rfl) rfl (xa_cons (xe_lst (xa_cons (xe_call (C.own hr (n := 3) rfl) rfl (xa_cons (xe_var 6) xa_nil)) (xa_cons (xe_callK0 (C.own hr (n := 3) rfl) rfl (xk_cons (xe_var 6) xk_nil)) xa_nil))) (xa_cons (xe_bop opx_mul (xe_lst (xa_cons (xe_call (C.own hr (n := 19) rfl) rfl (xa_cons (xe_var 6) xa_nil)) xa_nil)) xe_int) xa_nil))))) (xss_cons (xs_ret xe_bl) xss_nil) xss_nil) xss_nil)) xss_nil)))) xss_nil)))))) (xss_cons (xs_ret xe_bl) xss_nil))
theorem ok_law (T : Txt K w mg) (C : Calls2 P w K mg base names cf k) (F : FunD K "law" "law" (defArgs s_law) (defBody s_law) (defScope s_law) [] [] f fd) (hcf : ∀ xs M, cf' 23 xs M = runD cf ir_law xs M) :
    FnOk P w K mg base CX0 (k + 1) f fd ["_law_script"] (spEv K cf' 23 1) := by
  refine def_ok (d := ir_law) F S_law rfl rfl hcf fun cdv A outer s H E hr => ?_
  exact (xss_cons (xs_ret (xe_blt (cl_all_ rfl) rfl T.b_all (by decide +kernel) (xa_cons (xe_lc (own := [("_law_k", 1)]) rfl S_law.nd (xi_rng1 rfl T.b_range (xe_bop opx_add xe_int (xe_blt (cl_min2 rfl) rfl T.b_min (by decide +kernel) (xa_cons xe_int (xa_cons (xe_blt cl_len rfl T.b_len (by decide +kernel) (xa_cons (xe_var 0) xa_nil)) xa_nil))))) (blkOk_by (own := [("_law_k", 1)]) (N := N_law) (sc := defScope s_law) (by decide +kernel)) (fun _ _ _ _ _ => (xg_name 1 S_law.nd)) (fun _ _ _ _ _ => xts_nil) (fun _ _ _ _ _ => (xe_call (C.own hr (n := 22) rfl) rfl (xa_cons (xe_call (C.own hr (n := 5) rfl) rfl (xa_cons (xe_var 0) (xa_cons (xe_var 1) xa_nil))) xa_nil))) (by decide)) xa_nil))) xss_nil)
theorem ok_Course_init (T : Txt K w mg) (C : Calls2 P w K mg base names cf k) (F : FunD K "__init__" "Course.__init__" (defArgs s_Course_init) (defBody s_Course_init) (defScope s_Course_init) [] [] f fd) (hcf : ∀ xs M, cf' 24 xs M = runD cf ir_Course_init xs M) :
    FnOk P w K mg base CX0 (k + 1) f fd ["self"] (spEv K cf' 24 1) := by
  refine def_ok (d := ir_Course_init) F S_Course_init rfl rfl hcf fun cdv A outer s H E hr => ?_
  exact (xss_cons (xs_fset (xe_var 0) xe_int T.cl_Course T.na_Course_own_many) (xss_cons (xs_fset (xe_var 0) xe_dnew T.cl_Course T.na_Course_own_places) (xss_cons (xs_fset (xe_var 0) (xe_lst xa_nil) T.cl_Course T.na_Course_own_copies) xss_nil)))
theorem ok_Course_can (T : Txt K w mg) (C : Calls2 P w K mg base names cf k) (F : FunD K "can" "Course.can" (defArgs s_Course_can) (defBody s_Course_can) (defScope s_Course_can) [] [] f fd) (hcf : ∀ xs M, cf' 25 xs M = runD cf ir_Course_can xs M) :
    FnOk P w K mg base CX0 (k + 1) f fd ["self", "event"] (spEv K cf' 25 2) := by
  refine def_ok (d := ir_Course_can) F S_Course_can rfl rfl hcf fun cdv A outer s H E hr => ?_
  exact (xss_cons (xs_if (xt_cmp (opx_in hr.units) (xe_idx hr.units (xe_var 1) xe_int (fun _ _ => rfl)) (xe_tup (xa_cons (xe_gstrE rfl T.c_PUT) (xa_cons (xe_gstrE rfl T.c_DROP) (xa_cons (xe_gstrE rfl T.c_JOIN) (xa_cons (xe_gstrE rfl T.c_WAIT) xa_nil))))) rfl) (xss_cons (xs_ret xe_bl) xss_nil) xss_nil) (xss_cons (xs_asg (xe_slc (xe_var 1) xo0 (xo1 xe_int)) (xg_tup rfl (xgs_cons (xg_name 2 S_Course_can.nd) (xgs_cons (xg_name 3 S_Course_can.nd) xgs_nil)))) (xss_cons (xs_if (xt_cmp (opx_eq hr.units) (xe_var 2) (xe_gstrE rfl T.c_READ) (nomark _)) (xss_cons (xs_ret (xe_and (xe_cmp (opx_in hr.units) (xe_var 3) (xe_fld (xe_var 0) T.cl_Course T.na_Course_own_places) rfl) (xe_one (xe_chn opx_lt opx_le (xe_idx hr.units (xe_fld (xe_var 0) T.cl_Course T.na_Course_own_places) (xe_var 3) (fun _ _ => rfl)) (xe_idx hr.units (xe_var 1) xe_int (fun _ _ => rfl)) (xe_fld (xe_var 0) T.cl_Course T.na_Course_own_many))))) xss_nil) xss_nil) (xss_cons (xs_if (xt_cmp (opx_eq hr.units) (xe_var 2) (xe_gstrE rfl T.c_SAVE) (nomark _)) (xss_cons (xs_ret (xe_cmp (opx_in hr.units) (xe_var 3) (xe_fld (xe_var 0) T.cl_Course T.na_Course_own_places) rfl)) xss_nil) xss_nil) (xss_cons (xs_ret (xe_cmp opx_lt (xe_idx hr.units (xe_var 1) xe_int (fun _ _ => rfl)) (xe_blt cl_len rfl T.b_len (by decide +kernel) (xa_cons (xe_fld (xe_var 0) T.cl_Course T.na_Course_own_copies) xa_nil)) (nomark _))) xss_nil)))))
theorem ok_Course_go (T : Txt K w mg) (C : Calls2 P w K mg base names cf k) (F : FunD K "go" "Course.go" (defArgs s_Course_go) (defBody s_Course_go) (defScope s_Course_go) [] [] f fd) (hcf : ∀ xs M, cf' 26 xs M = runD cf ir_Course_go xs M) :
    FnOk P w K mg base CX0 (k + 1) f fd ["self", "event"] (spEv K cf' 26 2) := by
  refine def_ok (d := ir_Course_go) F S_Course_go rfl rfl hcf fun cdv A outer s H E hr => ?_
  exact (xss_cons (xs_if (xt_cmp (opx_eq hr.units) (xe_idx hr.units (xe_var 1) xe_int (fun _ _ => rfl)) (xe_gstrE rfl T.c_WAIT) (nomark _)) (xss_cons xs_retN xss_nil) xss_nil) (xss_cons (xs_asg (xe_slc (xe_var 1) xo0 (xo1 xe_int)) (xg_tup rfl (xgs_cons (xg_name 2 S_Course_go.nd) (xgs_cons (xg_name 3 S_Course_go.nd) xgs_nil)))) (xss_cons (xs_if (xt_cmp (opx_in hr.units) (xe_var 2) (xe_tup (xa_cons (xe_gstrE rfl T.c_PUT) (xa_cons (xe_gstrE rfl T.c_DROP) xa_nil))) rfl) (xss_cons (xs_faug (xe_var 0) xe_int T.cl_Course T.na_Course_own_many) xss_nil) (xss_cons (xs_if (xt_cmp (opx_eq hr.units) (xe_var 2) (xe_gstrE rfl T.c_JOIN) (nomark _)) (xss_cons (xs_sto hr.units xe_int (xe_fld (xe_var 0) T.cl_Course T.na_Course_own_places) (xe_var 3)) xss_nil) (xss_cons (xs_if (xt_cmp (opx_eq hr.units) (xe_var 2) (xe_gstrE rfl T.c_READ) (nomark _)) (xss_cons (xs_sto hr.units (xe_idx hr.units (xe_var 1) xe_int (fun _ _ => rfl)) (xe_fld (xe_var 0) T.cl_Course T.na_Course_own_places) (xe_var 3)) xss_nil) (xss_cons (xs_if (xt_cmp (opx_eq hr.units) (xe_var 2) (xe_gstrE rfl T.c_SAVE) (nomark _)) (xss_cons (xs_exp (xe_append (xe_fld (xe_var 0) T.cl_Course T.na_Course_own_copies) (xe_idx hr.units (xe_fld (xe_var 0) T.cl_Course T.na_Course_own_places) (xe_var 3) (fun _ _ => rfl)))) xss_nil) (xss_cons (xs_sto hr.units (xe_idx hr.units (xe_fld (xe_var 0) T.cl_Course T.na_Course_own_copies) (xe_idx hr.units (xe_var 1) xe_int (fun _ _ => rfl)) (fun _ _ => rfl)) (xe_fld (xe_var 0) T.cl_Course T.na_Course_own_places) (xe_var 3)) xss_nil)) xss_nil)) xss_nil)) xss_nil)) xss_nil)))
end
def d_is_number : He.DefD := ⟨("is_number", none), "is_number", "is_number", defArgs s_is_number, defBody s_is_number, defScope s_is_number, [], []⟩
def d_is_count : He.DefD := ⟨("is_count", none), "is_count", "is_count", defArgs s_is_count, defBody s_is_count, defScope s_is_count, [], []⟩
def d_is_key : He.DefD := ⟨("is_key", none), "is_key", "is_key", defArgs s_is_key, defBody s_is_key, defScope s_is_key, [], []⟩
def d_is_event : He.DefD := ⟨("is_event", none), "is_event", "is_event", defArgs s_is_event, defBody s_is_event, defScope s_is_event, [], []⟩
def d_is_timetable : He.DefD := ⟨("is_timetable", none), "is_timetable", "is_timetable", defArgs s_is_timetable, defBody s_is_timetable, defScope s_is_timetable, [], []⟩
def d_l_box : He.DefD := ⟨("_law_box", none), "_law_box", "_law_box", defArgs s_l_box, defBody s_l_box, defScope s_l_box, [], []⟩
def d_l_take : He.DefD := ⟨("_law_take", none), "_law_take", "_law_take", defArgs s_l_take, defBody s_l_take, defScope s_l_take, [], []⟩
def d_l_of : He.DefD := ⟨("_law_of", none), "_law_of", "_law_of", defArgs s_l_of, defBody s_l_of, defScope s_l_of, [], []⟩
def d_l_same : He.DefD := ⟨("_law_same", none), "_law_same", "_law_same", defArgs s_l_same, defBody s_l_same, defScope s_l_same, [], []⟩
def d_l_event : He.DefD := ⟨("_law_event", none), "_law_event", "_law_event", defArgs s_l_event, defBody s_l_event, defScope s_l_event, [], []⟩
def d_l_moved : He.DefD := ⟨("_law_moved", none), "_law_moved", "_law_moved", defArgs s_l_moved, defBody s_l_moved, defScope s_l_moved, [], []⟩
def d_l_table : He.DefD := ⟨("_law_table", none), "_law_table", "_law_table", defArgs s_l_table, defBody s_l_table, defScope s_l_table, [], []⟩
def d_l_ended : He.DefD := ⟨("_law_ended", none), "_law_ended", "_law_ended", defArgs s_l_ended, defBody s_l_ended, defScope s_l_ended, [], []⟩
def d_l_lots : He.DefD := ⟨("_law_lots", none), "_law_lots", "_law_lots", defArgs s_l_lots, defBody s_l_lots, defScope s_l_lots, [], []⟩
def d_l_beside : He.DefD := ⟨("_law_beside", none), "_law_beside", "_law_beside", defArgs s_l_beside, defBody s_l_beside, defScope s_l_beside, [], []⟩
def d_l_fit : He.DefD := ⟨("_law_fit", none), "_law_fit", "_law_fit", defArgs s_l_fit, defBody s_l_fit, defScope s_l_fit, [], []⟩
def d_l_drawn : He.DefD := ⟨("_law_drawn", none), "_law_drawn", "_law_drawn", defArgs s_l_drawn, defBody s_l_drawn, defScope s_l_drawn, [], []⟩
def d_l_is_plain : He.DefD := ⟨("_law_is_plain", none), "_law_is_plain", "_law_is_plain", defArgs s_l_is_plain, defBody s_l_is_plain, defScope s_l_is_plain, [], []⟩
def d_l_is_name : He.DefD := ⟨("_law_is_name", none), "_law_is_name", "_law_is_name", defArgs s_l_is_name, defBody s_l_is_name, defScope s_l_is_name, [], []⟩
def d_l_is_row : He.DefD := ⟨("_law_is_row", none), "_law_is_row", "_law_is_row", defArgs s_l_is_row, defBody s_l_is_row, defScope s_l_is_row, [], []⟩
def d_l_is_whole : He.DefD := ⟨("_law_is_whole", none), "_law_is_whole", "_law_is_whole", defArgs s_l_is_whole, defBody s_l_is_whole, defScope s_l_is_whole, [], []⟩
def d_l_bent : He.DefD := ⟨("_law_bent", none), "_law_bent", "_law_bent", defArgs s_l_bent, defBody s_l_bent, defScope s_l_bent, [], []⟩
def d_l_right : He.DefD := ⟨("_law_right", none), "_law_right", "_law_right", defArgs s_l_right, defBody s_l_right, defScope s_l_right, [], []⟩
def d_law : He.DefD := ⟨("law", none), "law", "law", defArgs s_law, defBody s_law, defScope s_law, [], []⟩
def d_Course_init : He.DefD := ⟨("Course", some "__init__"), "__init__", "Course.__init__", defArgs s_Course_init, defBody s_Course_init, defScope s_Course_init, [], []⟩
def d_Course_can : He.DefD := ⟨("Course", some "can"), "can", "Course.can", defArgs s_Course_can, defBody s_Course_can, defScope s_Course_can, [], []⟩
def d_Course_go : He.DefD := ⟨("Course", some "go"), "go", "Course.go", defArgs s_Course_go, defBody s_Course_go, defScope s_Course_go, [], []⟩
def fnD : List He.DefD := [d_is_number, d_is_count, d_is_key, d_is_event, d_is_timetable, d_l_box, d_l_take, d_l_of, d_l_same, d_l_event, d_l_moved, d_l_table, d_l_ended, d_l_lots, d_l_beside, d_l_fit, d_l_drawn, d_l_is_plain, d_l_is_name, d_l_is_row, d_l_is_whole, d_l_bent, d_l_right, d_law, d_Course_init, d_Course_can, d_Course_go]
def faD : List He.Fa := [.glo "is_number", .glo "is_count", .glo "is_key", .glo "is_event", .glo "is_timetable", .glo "_law_box", .glo "_law_take", .glo "_law_of", .glo "_law_same", .glo "_law_event", .glo "_law_moved", .glo "_law_table", .glo "_law_ended", .glo "_law_lots", .glo "_law_beside", .glo "_law_fit", .glo "_law_drawn", .glo "_law_is_plain", .glo "_law_is_name", .glo "_law_is_row", .glo "_law_is_whole", .glo "_law_bent", .glo "_law_right", .glo "law", .meth "Course" "__init__", .cls "Course", .meth "Course" "can", .meth "Course" "go", .mkr "Course", .glo "Course", .free "abs", .free "all", .free "bool", .free "int", .free "isinstance", .free "len", .free "list", .free "min", .free "range", .free "sorted", .free "str", .free "sum", .free "tuple", .free "zip", .str "DROP" "drop", .str "JOIN" "join", .str "LETTERS" "abcdefghijklmnopqrstuvwxyz", .str "LOAD" "load", .str "PUT" "put", .str "READ" "read", .str "SAVE" "save", .str "WAIT" "wait", .noat "Course" "own_copies", .noat "Course" "own_many", .noat "Course" "own_places", .glo "LOOKS"]
def tbD : List He.Tab := [((fun K => He.ga K "LOOKS"), tb_LOOKS.map (·.1))]
def exD : List (PySem.W.Frag → Bool) := [(fun K => tabOk K "LOOKS" tb_LOOKS)]
abbrev Says (w : World) (h : Heap) (K : PySem.W.Frag) : Prop := He.SaysX faD fnD tbD [] (exAll exD) w h K
theorem all_ok {P : Program} {w : World} {K : PySem.W.Frag} {mg : Str → Option Value} {base h h0 : Heap} (X : K.In h) (G : h.Ns mainGlobals mg) (c : Says w h0 K) (T : Txt K w mg) : ∀ k, Calls2 P w K mg base names (cfN tab k) k := by
  intro k
  induction k with
  | zero =>
    intro n nm hn
    match n, hn with
    | 0, hn =>
      cases hn
      obtain ⟨fd, F⟩ := c.t.d.def_ 0 (d := d_is_number) rfl
      exact ⟨⟨fd, fn_zero, He.glo_ok X G (c.t.d.fact 0 (f := .glo "is_number") rfl), F.kp, F.bindsN (ps := ["thing"]) (fun _ _ _ _ _ _ us hl => match us, hl with | [_], _ => rfl), (fun z => by cases z)⟩, (fun xs M z e => by cases e)⟩
    | 1, hn =>
      cases hn
      obtain ⟨fd, F⟩ := c.t.d.def_ 1 (d := d_is_count) rfl
      exact ⟨⟨fd, fn_zero, He.glo_ok X G (c.t.d.fact 1 (f := .glo "is_count") rfl), F.kp, F.bindsN (ps := ["thing"]) (fun _ _ _ _ _ _ us hl => match us, hl with | [_], _ => rfl), (fun z => by cases z)⟩, (fun xs M z e => by cases e)⟩
    | 2, hn =>
      cases hn
      obtain ⟨fd, F⟩ := c.t.d.def_ 2 (d := d_is_key) rfl
      exact ⟨⟨fd, fn_zero, He.glo_ok X G (c.t.d.fact 2 (f := .glo "is_key") rfl), F.kp, F.bindsN (ps := ["thing"]) (fun _ _ _ _ _ _ us hl => match us, hl with | [_], _ => rfl), (fun z => by cases z)⟩, (fun xs M z e => by cases e)⟩
    | 3, hn =>
      cases hn
      obtain ⟨fd, F⟩ := c.t.d.def_ 3 (d := d_is_event) rfl
      exact ⟨⟨fd, fn_zero, He.glo_ok X G (c.t.d.fact 3 (f := .glo "is_event") rfl), F.kp, F.bindsN (ps := ["thing"]) (fun _ _ _ _ _ _ us hl => match us, hl with | [_], _ => rfl), (fun _ => kbinds (ps := ["thing"]) F (fun z => by cases z) fun _ _ _ _ _ _ ws hl => match ws, hl with | [_], _ => rfl)⟩, (fun xs M z e => by cases e)⟩
    | 4, hn =>
      cases hn
      obtain ⟨fd, F⟩ := c.t.d.def_ 4 (d := d_is_timetable) rfl
      exact ⟨⟨fd, fn_zero, He.glo_ok X G (c.t.d.fact 4 (f := .glo "is_timetable") rfl), F.kp, F.bindsN (ps := ["thing"]) (fun _ _ _ _ _ _ us hl => match us, hl with | [_], _ => rfl), (fun _ => kbinds (ps := ["thing"]) F (fun z => by cases z) fun _ _ _ _ _ _ ws hl => match ws, hl with | [_], _ => rfl)⟩, (fun xs M z e => by cases e)⟩
    | 5, hn =>
      cases hn
      obtain ⟨fd, F⟩ := c.t.d.def_ 5 (d := d_l_box) rfl
      exact ⟨⟨fd, fn_zero, He.glo_ok X G (c.t.d.fact 5 (f := .glo "_law_box") rfl), F.kp, F.bindsN (ps := ["_law_script", "_law_k"]) (fun _ _ _ _ _ _ us hl => match us, hl with | [_, _], _ => rfl), (fun z => by cases z)⟩, (fun xs M z e => by cases e)⟩
    | 6, hn =>
      cases hn
      obtain ⟨fd, F⟩ := c.t.d.def_ 6 (d := d_l_take) rfl
      exact ⟨⟨fd, fn_zero, He.glo_ok X G (c.t.d.fact 6 (f := .glo "_law_take") rfl), F.kp, F.bindsN (ps := ["_law_box_here", "_law_below"]) (fun _ _ _ _ _ _ us hl => match us, hl with | [_, _], _ => rfl), (fun z => by cases z)⟩, (fun xs M z e => by cases e)⟩
    | 7, hn =>
      cases hn
      obtain ⟨fd, F⟩ := c.t.d.def_ 7 (d := d_l_of) rfl
      exact ⟨⟨fd, fn_zero, He.glo_ok X G (c.t.d.fact 7 (f := .glo "_law_of") rfl), F.kp, F.bindsN (ps := ["_law_box_here", "_law_some"]) (fun _ _ _ _ _ _ us hl => match us, hl with | [_, _], _ => rfl), (fun z => by cases z)⟩, (fun xs M z e => by cases e)⟩
    | 8, hn =>
      cases hn
      obtain ⟨fd, F⟩ := c.t.d.def_ 8 (d := d_l_same) rfl
      exact ⟨⟨fd, fn_zero, He.glo_ok X G (c.t.d.fact 8 (f := .glo "_law_same") rfl), F.kp, F.bindsN (ps := ["_law_found", "_law_due"]) (fun _ _ _ _ _ _ us hl => match us, hl with | [_, _], _ => rfl), (fun z => by cases z)⟩, (fun xs M z e => by cases e)⟩
    | 9, hn =>
      cases hn
      obtain ⟨fd, F⟩ := c.t.d.def_ 9 (d := d_l_event) rfl
      exact ⟨⟨fd, fn_zero, He.glo_ok X G (c.t.d.fact 9 (f := .glo "_law_event") rfl), F.kp, F.bindsN (ps := ["_law_box_here", "_law_w", "_law_folk", "_law_names", "_law_words"]) (fun _ _ _ _ _ _ us hl => match us, hl with | [_, _, _, _, _], _ => rfl), (fun z => by cases z)⟩, (fun xs M z e => by cases e)⟩
    | 10, hn =>
      cases hn
      obtain ⟨fd, F⟩ := c.t.d.def_ 10 (d := d_l_moved) rfl
      exact ⟨⟨fd, fn_zero, He.glo_ok X G (c.t.d.fact 10 (f := .glo "_law_moved") rfl), F.kp, F.bindsN (ps := ["_law_w", "_law_event_so"]) (fun _ _ _ _ _ _ us hl => match us, hl with | [_, _], _ => rfl), (fun z => by cases z)⟩, (fun xs M z e => by cases e)⟩
    | 11, hn =>
      cases hn
      obtain ⟨fd, F⟩ := c.t.d.def_ 11 (d := d_l_table) rfl
      exact ⟨⟨fd, fn_zero, He.glo_ok X G (c.t.d.fact 11 (f := .glo "_law_table") rfl), F.kp, F.bindsN (ps := ["_law_box_here", "_law_many", "_law_most", "_law_folk", "_law_names", "_law_words"]) (fun _ _ _ _ _ _ us hl => match us, hl with | [_, _, _, _, _, _], _ => rfl), (fun z => by cases z)⟩, (fun xs M z e => by cases e)⟩
    | 12, hn =>
      cases hn
      obtain ⟨fd, F⟩ := c.t.d.def_ 12 (d := d_l_ended) rfl
      exact ⟨⟨fd, fn_zero, He.glo_ok X G (c.t.d.fact 12 (f := .glo "_law_ended") rfl), F.kp, F.bindsN (ps := ["_law_table_here"]) (fun _ _ _ _ _ _ us hl => match us, hl with | [_], _ => rfl), (fun z => by cases z)⟩, (fun xs M z e => by cases e)⟩
    | 13, hn =>
      cases hn
      obtain ⟨fd, F⟩ := c.t.d.def_ 13 (d := d_l_lots) rfl
      exact ⟨⟨fd, fn_zero, He.glo_ok X G (c.t.d.fact 13 (f := .glo "_law_lots") rfl), F.kp, F.bindsN (ps := ["_law_box_here", "_law_most", "_law_names"]) (fun _ _ _ _ _ _ us hl => match us, hl with | [_, _, _], _ => rfl), (fun z => by cases z)⟩, (fun xs M z e => by cases e)⟩
    | 14, hn =>
      cases hn
      obtain ⟨fd, F⟩ := c.t.d.def_ 14 (d := d_l_beside) rfl
      exact ⟨⟨fd, fn_zero, He.glo_ok X G (c.t.d.fact 14 (f := .glo "_law_beside") rfl), F.kp, F.bindsN (ps := ["_law_box_here", "_law_w", "_law_folk"]) (fun _ _ _ _ _ _ us hl => match us, hl with | [_, _, _], _ => rfl), (fun z => by cases z)⟩, (fun xs M z e => by cases e)⟩
    | 15, hn =>
      cases hn
      obtain ⟨fd, F⟩ := c.t.d.def_ 15 (d := d_l_fit) rfl
      exact ⟨⟨fd, fn_zero, He.glo_ok X G (c.t.d.fact 15 (f := .glo "_law_fit") rfl), F.kp, F.bindsN (ps := ["_law_box_here", "_law_most", "_law_folk", "_law_far"]) (fun _ _ _ _ _ _ us hl => match us, hl with | [_, _, _, _], _ => rfl), (fun z => by cases z)⟩, (fun xs M z e => by cases e)⟩
    | 16, hn =>
      cases hn
      obtain ⟨fd, F⟩ := c.t.d.def_ 16 (d := d_l_drawn) rfl
      exact ⟨⟨fd, fn_zero, He.glo_ok X G (c.t.d.fact 16 (f := .glo "_law_drawn") rfl), F.kp, F.bindsN (ps := ["_law_box_here", "_law_most"]) (fun _ _ _ _ _ _ us hl => match us, hl with | [_, _], _ => rfl), (fun z => by cases z)⟩, (fun xs M z e => by cases e)⟩
    | 17, hn =>
      cases hn
      obtain ⟨fd, F⟩ := c.t.d.def_ 17 (d := d_l_is_plain) rfl
      exact ⟨⟨fd, fn_zero, He.glo_ok X G (c.t.d.fact 17 (f := .glo "_law_is_plain") rfl), F.kp, F.bindsN (ps := ["_law_matter"]) (fun _ _ _ _ _ _ us hl => match us, hl with | [_], _ => rfl), (fun z => by cases z)⟩, (fun xs M z e => by cases e)⟩
    | 18, hn =>
      cases hn
      obtain ⟨fd, F⟩ := c.t.d.def_ 18 (d := d_l_is_name) rfl
      exact ⟨⟨fd, fn_zero, He.glo_ok X G (c.t.d.fact 18 (f := .glo "_law_is_name") rfl), F.kp, F.bindsN (ps := ["_law_matter"]) (fun _ _ _ _ _ _ us hl => match us, hl with | [_], _ => rfl), (fun z => by cases z)⟩, (fun xs M z e => by cases e)⟩
    | 19, hn =>
      cases hn
      obtain ⟨fd, F⟩ := c.t.d.def_ 19 (d := d_l_is_row) rfl
      exact ⟨⟨fd, fn_zero, He.glo_ok X G (c.t.d.fact 19 (f := .glo "_law_is_row") rfl), F.kp, F.bindsN (ps := ["_law_matter"]) (fun _ _ _ _ _ _ us hl => match us, hl with | [_], _ => rfl), (fun z => by cases z)⟩, (fun xs M z e => by cases e)⟩
    | 20, hn =>
      cases hn
      obtain ⟨fd, F⟩ := c.t.d.def_ 20 (d := d_l_is_whole) rfl
      exact ⟨⟨fd, fn_zero, He.glo_ok X G (c.t.d.fact 20 (f := .glo "_law_is_whole") rfl), F.kp, F.bindsN (ps := ["_law_matter"]) (fun _ _ _ _ _ _ us hl => match us, hl with | [_], _ => rfl), (fun z => by cases z)⟩, (fun xs M z e => by cases e)⟩
    | 21, hn =>
      cases hn
      obtain ⟨fd, F⟩ := c.t.d.def_ 21 (d := d_l_bent) rfl
      exact ⟨⟨fd, fn_zero, He.glo_ok X G (c.t.d.fact 21 (f := .glo "_law_bent") rfl), F.kp, F.bindsN (ps := ["_law_box_here", "_law_table_here"]) (fun _ _ _ _ _ _ us hl => match us, hl with | [_, _], _ => rfl), (fun z => by cases z)⟩, (fun xs M z e => by cases e)⟩
    | 22, hn =>
      cases hn
      obtain ⟨fd, F⟩ := c.t.d.def_ 22 (d := d_l_right) rfl
      exact ⟨⟨fd, fn_zero, He.glo_ok X G (c.t.d.fact 22 (f := .glo "_law_right") rfl), F.kp, F.bindsN (ps := ["_law_box_here"]) (fun _ _ _ _ _ _ us hl => match us, hl with | [_], _ => rfl), (fun z => by cases z)⟩, (fun xs M z e => by cases e)⟩
    | 23, hn =>
      cases hn
      obtain ⟨fd, F⟩ := c.t.d.def_ 23 (d := d_law) rfl
      exact ⟨⟨fd, fn_zero, He.glo_ok X G (c.t.d.fact 23 (f := .glo "law") rfl), F.kp, F.bindsN (ps := ["_law_script"]) (fun _ _ _ _ _ _ us hl => match us, hl with | [_], _ => rfl), (fun z => by cases z)⟩, (fun xs M z e => by cases e)⟩
    | 24, hn =>
      cases hn
      obtain ⟨fd, F⟩ := c.t.d.def_ 24 (d := d_Course_init) rfl
      exact ⟨⟨_, fd, fn_zero, He.meth_ok (c.t.d.fact 24 (f := .meth "Course" "__init__") rfl), F.bindsN (ps := ["self"]) (fun _ _ _ _ _ _ us hl => match us, hl with | [_], _ => rfl)⟩, He.cls_ok (c.t.d.fact 25 (f := .cls "Course") rfl), (fun xs M z e => by cases e)⟩
    | 25, hn =>
      cases hn
      obtain ⟨fd, F⟩ := c.t.d.def_ 25 (d := d_Course_can) rfl
      exact ⟨⟨_, fd, fn_zero, He.meth_ok (c.t.d.fact 26 (f := .meth "Course" "can") rfl), F.bindsN (ps := ["self", "event"]) (fun _ _ _ _ _ _ us hl => match us, hl with | [_, _], _ => rfl)⟩, He.cls_ok (c.t.d.fact 25 (f := .cls "Course") rfl), (fun xs M z e => by cases e)⟩
    | 26, hn =>
      cases hn
      obtain ⟨fd, F⟩ := c.t.d.def_ 26 (d := d_Course_go) rfl
      exact ⟨⟨_, fd, fn_zero, He.meth_ok (c.t.d.fact 27 (f := .meth "Course" "go") rfl), F.bindsN (ps := ["self", "event"]) (fun _ _ _ _ _ _ us hl => match us, hl with | [_, _], _ => rfl)⟩, He.cls_ok (c.t.d.fact 25 (f := .cls "Course") rfl), (fun xs M z e => by cases e)⟩
    | 27, hn =>
      cases hn
      exact .inl fun _ _ => rfl
    | n + 28, hn => cases hn
  | succ k C =>
    intro n nm hn
    match n, hn with
    | 0, hn =>
      cases hn
      obtain ⟨fd, F⟩ := c.t.d.def_ 0 (d := d_is_number) rfl
      exact ⟨⟨fd, ok_is_number T C F (fun _ _ => rfl), He.glo_ok X G (c.t.d.fact 0 (f := .glo "is_number") rfl), F.kp, F.bindsN (ps := ["thing"]) (fun _ _ _ _ _ _ us hl => match us, hl with | [_], _ => rfl), (fun z => by cases z)⟩, (fun xs M z e => runD_len (d := ir_is_number) e)⟩
    | 1, hn =>
      cases hn
      obtain ⟨fd, F⟩ := c.t.d.def_ 1 (d := d_is_count) rfl
      exact ⟨⟨fd, ok_is_count T C F (fun _ _ => rfl), He.glo_ok X G (c.t.d.fact 1 (f := .glo "is_count") rfl), F.kp, F.bindsN (ps := ["thing"]) (fun _ _ _ _ _ _ us hl => match us, hl with | [_], _ => rfl), (fun z => by cases z)⟩, (fun xs M z e => runD_len (d := ir_is_count) e)⟩
    | 2, hn =>
      cases hn
      obtain ⟨fd, F⟩ := c.t.d.def_ 2 (d := d_is_key) rfl
      exact ⟨⟨fd, ok_is_key T C F (fun _ _ => rfl), He.glo_ok X G (c.t.d.fact 2 (f := .glo "is_key") rfl), F.kp, F.bindsN (ps := ["thing"]) (fun _ _ _ _ _ _ us hl => match us, hl with | [_], _ => rfl), (fun z => by cases z)⟩, (fun xs M z e => runD_len (d := ir_is_key) e)⟩
    | 3, hn =>
      cases hn
      obtain ⟨fd, F⟩ := c.t.d.def_ 3 (d := d_is_event) rfl
      exact ⟨⟨fd, ok_is_event T C F (fun _ _ => rfl), He.glo_ok X G (c.t.d.fact 3 (f := .glo "is_event") rfl), F.kp, F.bindsN (ps := ["thing"]) (fun _ _ _ _ _ _ us hl => match us, hl with | [_], _ => rfl), (fun _ => kbinds (ps := ["thing"]) F (fun z => by cases z) fun _ _ _ _ _ _ ws hl => match ws, hl with | [_], _ => rfl)⟩, (fun xs M z e => runD_len (d := ir_is_event) e)⟩
    | 4, hn =>
      cases hn
      obtain ⟨fd, F⟩ := c.t.d.def_ 4 (d := d_is_timetable) rfl
      exact ⟨⟨fd, ok_is_timetable T C F (fun _ _ => rfl), He.glo_ok X G (c.t.d.fact 4 (f := .glo "is_timetable") rfl), F.kp, F.bindsN (ps := ["thing"]) (fun _ _ _ _ _ _ us hl => match us, hl with | [_], _ => rfl), (fun _ => kbinds (ps := ["thing"]) F (fun z => by cases z) fun _ _ _ _ _ _ ws hl => match ws, hl with | [_], _ => rfl)⟩, (fun xs M z e => runD_len (d := ir_is_timetable) e)⟩
    | 5, hn =>
      cases hn
      obtain ⟨fd, F⟩ := c.t.d.def_ 5 (d := d_l_box) rfl
      exact ⟨⟨fd, ok_l_box T C F (fun _ _ => rfl), He.glo_ok X G (c.t.d.fact 5 (f := .glo "_law_box") rfl), F.kp, F.bindsN (ps := ["_law_script", "_law_k"]) (fun _ _ _ _ _ _ us hl => match us, hl with | [_, _], _ => rfl), (fun z => by cases z)⟩, (fun xs M z e => runD_len (d := ir_l_box) e)⟩
    | 6, hn =>
      cases hn
      obtain ⟨fd, F⟩ := c.t.d.def_ 6 (d := d_l_take) rfl
      exact ⟨⟨fd, ok_l_take T C F (fun _ _ => rfl), He.glo_ok X G (c.t.d.fact 6 (f := .glo "_law_take") rfl), F.kp, F.bindsN (ps := ["_law_box_here", "_law_below"]) (fun _ _ _ _ _ _ us hl => match us, hl with | [_, _], _ => rfl), (fun z => by cases z)⟩, (fun xs M z e => runD_len (d := ir_l_take) e)⟩
    | 7, hn =>
      cases hn
      obtain ⟨fd, F⟩ := c.t.d.def_ 7 (d := d_l_of) rfl
      exact ⟨⟨fd, ok_l_of T C F (fun _ _ => rfl), He.glo_ok X G (c.t.d.fact 7 (f := .glo "_law_of") rfl), F.kp, F.bindsN (ps := ["_law_box_here", "_law_some"]) (fun _ _ _ _ _ _ us hl => match us, hl with | [_, _], _ => rfl), (fun z => by cases z)⟩, (fun xs M z e => runD_len (d := ir_l_of) e)⟩
    | 8, hn =>
      cases hn
      obtain ⟨fd, F⟩ := c.t.d.def_ 8 (d := d_l_same) rfl
      exact ⟨⟨fd, ok_l_same T C F (fun _ _ => rfl), He.glo_ok X G (c.t.d.fact 8 (f := .glo "_law_same") rfl), F.kp, F.bindsN (ps := ["_law_found", "_law_due"]) (fun _ _ _ _ _ _ us hl => match us, hl with | [_, _], _ => rfl), (fun z => by cases z)⟩, (fun xs M z e => runD_len (d := ir_l_same) e)⟩
    | 9, hn =>
      cases hn
      obtain ⟨fd, F⟩ := c.t.d.def_ 9 (d := d_l_event) rfl
      exact ⟨⟨fd, ok_l_event T C F (fun _ _ => rfl), He.glo_ok X G (c.t.d.fact 9 (f := .glo "_law_event") rfl), F.kp, F.bindsN (ps := ["_law_box_here", "_law_w", "_law_folk", "_law_names", "_law_words"]) (fun _ _ _ _ _ _ us hl => match us, hl with | [_, _, _, _, _], _ => rfl), (fun z => by cases z)⟩, (fun xs M z e => runD_len (d := ir_l_event) e)⟩
    | 10, hn =>
      cases hn
      obtain ⟨fd, F⟩ := c.t.d.def_ 10 (d := d_l_moved) rfl
      exact ⟨⟨fd, ok_l_moved T C F (fun _ _ => rfl), He.glo_ok X G (c.t.d.fact 10 (f := .glo "_law_moved") rfl), F.kp, F.bindsN (ps := ["_law_w", "_law_event_so"]) (fun _ _ _ _ _ _ us hl => match us, hl with | [_, _], _ => rfl), (fun z => by cases z)⟩, (fun xs M z e => runD_len (d := ir_l_moved) e)⟩
    | 11, hn =>
      cases hn
      obtain ⟨fd, F⟩ := c.t.d.def_ 11 (d := d_l_table) rfl
      exact ⟨⟨fd, ok_l_table T C F (fun _ _ => rfl), He.glo_ok X G (c.t.d.fact 11 (f := .glo "_law_table") rfl), F.kp, F.bindsN (ps := ["_law_box_here", "_law_many", "_law_most", "_law_folk", "_law_names", "_law_words"]) (fun _ _ _ _ _ _ us hl => match us, hl with | [_, _, _, _, _, _], _ => rfl), (fun z => by cases z)⟩, (fun xs M z e => runD_len (d := ir_l_table) e)⟩
    | 12, hn =>
      cases hn
      obtain ⟨fd, F⟩ := c.t.d.def_ 12 (d := d_l_ended) rfl
      exact ⟨⟨fd, ok_l_ended T C F (fun _ _ => rfl), He.glo_ok X G (c.t.d.fact 12 (f := .glo "_law_ended") rfl), F.kp, F.bindsN (ps := ["_law_table_here"]) (fun _ _ _ _ _ _ us hl => match us, hl with | [_], _ => rfl), (fun z => by cases z)⟩, (fun xs M z e => runD_len (d := ir_l_ended) e)⟩
    | 13, hn =>
      cases hn
      obtain ⟨fd, F⟩ := c.t.d.def_ 13 (d := d_l_lots) rfl
      exact ⟨⟨fd, ok_l_lots T C F (fun _ _ => rfl), He.glo_ok X G (c.t.d.fact 13 (f := .glo "_law_lots") rfl), F.kp, F.bindsN (ps := ["_law_box_here", "_law_most", "_law_names"]) (fun _ _ _ _ _ _ us hl => match us, hl with | [_, _, _], _ => rfl), (fun z => by cases z)⟩, (fun xs M z e => runD_len (d := ir_l_lots) e)⟩
    | 14, hn =>
      cases hn
      obtain ⟨fd, F⟩ := c.t.d.def_ 14 (d := d_l_beside) rfl
      exact ⟨⟨fd, ok_l_beside T C F (fun _ _ => rfl), He.glo_ok X G (c.t.d.fact 14 (f := .glo "_law_beside") rfl), F.kp, F.bindsN (ps := ["_law_box_here", "_law_w", "_law_folk"]) (fun _ _ _ _ _ _ us hl => match us, hl with | [_, _, _], _ => rfl), (fun z => by cases z)⟩, (fun xs M z e => runD_len (d := ir_l_beside) e)⟩
    | 15, hn =>
      cases hn
      obtain ⟨fd, F⟩ := c.t.d.def_ 15 (d := d_l_fit) rfl
      exact ⟨⟨fd, ok_l_fit T C F (fun _ _ => rfl), He.glo_ok X G (c.t.d.fact 15 (f := .glo "_law_fit") rfl), F.kp, F.bindsN (ps := ["_law_box_here", "_law_most", "_law_folk", "_law_far"]) (fun _ _ _ _ _ _ us hl => match us, hl with | [_, _, _, _], _ => rfl), (fun z => by cases z)⟩, (fun xs M z e => runD_len (d := ir_l_fit) e)⟩
    | 16, hn =>
      cases hn
      obtain ⟨fd, F⟩ := c.t.d.def_ 16 (d := d_l_drawn) rfl
      exact ⟨⟨fd, ok_l_drawn T C F (fun _ _ => rfl), He.glo_ok X G (c.t.d.fact 16 (f := .glo "_law_drawn") rfl), F.kp, F.bindsN (ps := ["_law_box_here", "_law_most"]) (fun _ _ _ _ _ _ us hl => match us, hl with | [_, _], _ => rfl), (fun z => by cases z)⟩, (fun xs M z e => runD_len (d := ir_l_drawn) e)⟩
    | 17, hn =>
      cases hn
      obtain ⟨fd, F⟩ := c.t.d.def_ 17 (d := d_l_is_plain) rfl
      exact ⟨⟨fd, ok_l_is_plain T C F (fun _ _ => rfl), He.glo_ok X G (c.t.d.fact 17 (f := .glo "_law_is_plain") rfl), F.kp, F.bindsN (ps := ["_law_matter"]) (fun _ _ _ _ _ _ us hl => match us, hl with | [_], _ => rfl), (fun z => by cases z)⟩, (fun xs M z e => runD_len (d := ir_l_is_plain) e)⟩
    | 18, hn =>
      cases hn
      obtain ⟨fd, F⟩ := c.t.d.def_ 18 (d := d_l_is_name) rfl
      exact ⟨⟨fd, ok_l_is_name T C F (fun _ _ => rfl), He.glo_ok X G (c.t.d.fact 18 (f := .glo "_law_is_name") rfl), F.kp, F.bindsN (ps := ["_law_matter"]) (fun _ _ _ _ _ _ us hl => match us, hl with | [_], _ => rfl), (fun z => by cases z)⟩, (fun xs M z e => runD_len (d := ir_l_is_name) e)⟩
    | 19, hn =>
      cases hn
      obtain ⟨fd, F⟩ := c.t.d.def_ 19 (d := d_l_is_row) rfl
      exact ⟨⟨fd, ok_l_is_row T C F (fun _ _ => rfl), He.glo_ok X G (c.t.d.fact 19 (f := .glo "_law_is_row") rfl), F.kp, F.bindsN (ps := ["_law_matter"]) (fun _ _ _ _ _ _ us hl => match us, hl with | [_], _ => rfl), (fun z => by cases z)⟩, (fun xs M z e => runD_len (d := ir_l_is_row) e)⟩
    | 20, hn =>
      cases hn
      obtain ⟨fd, F⟩ := c.t.d.def_ 20 (d := d_l_is_whole) rfl
      exact ⟨⟨fd, ok_l_is_whole T C F (fun _ _ => rfl), He.glo_ok X G (c.t.d.fact 20 (f := .glo "_law_is_whole") rfl), F.kp, F.bindsN (ps := ["_law_matter"]) (fun _ _ _ _ _ _ us hl => match us, hl with | [_], _ => rfl), (fun z => by cases z)⟩, (fun xs M z e => runD_len (d := ir_l_is_whole) e)⟩
    | 21, hn =>
      cases hn
      obtain ⟨fd, F⟩ := c.t.d.def_ 21 (d := d_l_bent) rfl
      exact ⟨⟨fd, ok_l_bent T C F (fun _ _ => rfl), He.glo_ok X G (c.t.d.fact 21 (f := .glo "_law_bent") rfl), F.kp, F.bindsN (ps := ["_law_box_here", "_law_table_here"]) (fun _ _ _ _ _ _ us hl => match us, hl with | [_, _], _ => rfl), (fun z => by cases z)⟩, (fun xs M z e => runD_len (d := ir_l_bent) e)⟩
    | 22, hn =>
      cases hn
      obtain ⟨fd, F⟩ := c.t.d.def_ 22 (d := d_l_right) rfl
      exact ⟨⟨fd, ok_l_right T C F (fun _ _ => rfl), He.glo_ok X G (c.t.d.fact 22 (f := .glo "_law_right") rfl), F.kp, F.bindsN (ps := ["_law_box_here"]) (fun _ _ _ _ _ _ us hl => match us, hl with | [_], _ => rfl), (fun z => by cases z)⟩, (fun xs M z e => runD_len (d := ir_l_right) e)⟩
    | 23, hn =>
      cases hn
      obtain ⟨fd, F⟩ := c.t.d.def_ 23 (d := d_law) rfl
      exact ⟨⟨fd, ok_law T C F (fun _ _ => rfl), He.glo_ok X G (c.t.d.fact 23 (f := .glo "law") rfl), F.kp, F.bindsN (ps := ["_law_script"]) (fun _ _ _ _ _ _ us hl => match us, hl with | [_], _ => rfl), (fun z => by cases z)⟩, (fun xs M z e => runD_len (d := ir_law) e)⟩
    | 24, hn =>
      cases hn
      obtain ⟨fd, F⟩ := c.t.d.def_ 24 (d := d_Course_init) rfl
      exact ⟨⟨_, fd, ok_Course_init T C F (fun _ _ => rfl), He.meth_ok (c.t.d.fact 24 (f := .meth "Course" "__init__") rfl), F.bindsN (ps := ["self"]) (fun _ _ _ _ _ _ us hl => match us, hl with | [_], _ => rfl)⟩, He.cls_ok (c.t.d.fact 25 (f := .cls "Course") rfl), (fun xs M z e => runD_len (d := ir_Course_init) e)⟩
    | 25, hn =>
      cases hn
      obtain ⟨fd, F⟩ := c.t.d.def_ 25 (d := d_Course_can) rfl
      exact ⟨⟨_, fd, ok_Course_can T C F (fun _ _ => rfl), He.meth_ok (c.t.d.fact 26 (f := .meth "Course" "can") rfl), F.bindsN (ps := ["self", "event"]) (fun _ _ _ _ _ _ us hl => match us, hl with | [_, _], _ => rfl)⟩, He.cls_ok (c.t.d.fact 25 (f := .cls "Course") rfl), (fun xs M z e => runD_len (d := ir_Course_can) e)⟩
    | 26, hn =>
      cases hn
      obtain ⟨fd, F⟩ := c.t.d.def_ 26 (d := d_Course_go) rfl
      exact ⟨⟨_, fd, ok_Course_go T C F (fun _ _ => rfl), He.meth_ok (c.t.d.fact 27 (f := .meth "Course" "go") rfl), F.bindsN (ps := ["self", "event"]) (fun _ _ _ _ _ _ us hl => match us, hl with | [_, _], _ => rfl)⟩, He.cls_ok (c.t.d.fact 25 (f := .cls "Course") rfl), (fun xs M z e => runD_len (d := ir_Course_go) e)⟩
    | 27, hn =>
      cases hn
      obtain ⟨⟨f, fd, h1, h2, h3⟩, _, hl⟩ := C 24 _ rfl
      have mk := He.mkr_ok (c.t.d.fact 28 (f := .mkr "Course") rfl)
      exact .inr ⟨k, f, fd, 24, cfN tab k, Nat.le_refl _, h1, ⟨mk.makes, h2.at_, h2.fn, mk.kp⟩, He.glo_ok X G (c.t.d.fact 29 (f := .glo "Course") rfl), h3, fun _ _ => rfl, hl⟩
    | n + 28, hn => cases hn
theorem txt_of {w : World} {K : PySem.W.Frag} {mg : Str → Option Value} {h h0 : Heap} (X : K.In h) (G : h.Ns mainGlobals mg) (c : Says w h0 K) : Txt K w mg :=
  ⟨He.free_ok X G (c.t.d.fact 30 (f := .free "abs") rfl), He.free_ok X G (c.t.d.fact 31 (f := .free "all") rfl), He.free_ok X G (c.t.d.fact 32 (f := .free "bool") rfl), He.free_ok X G (c.t.d.fact 33 (f := .free "int") rfl), He.free_ok X G (c.t.d.fact 34 (f := .free "isinstance") rfl), He.free_ok X G (c.t.d.fact 35 (f := .free "len") rfl), He.free_ok X G (c.t.d.fact 36 (f := .free "list") rfl), He.free_ok X G (c.t.d.fact 37 (f := .free "min") rfl), He.free_ok X G (c.t.d.fact 38 (f := .free "range") rfl), He.free_ok X G (c.t.d.fact 39 (f := .free "sorted") rfl), He.free_ok X G (c.t.d.fact 40 (f := .free "str") rfl), He.free_ok X G (c.t.d.fact 41 (f := .free "sum") rfl), He.free_ok X G (c.t.d.fact 42 (f := .free "tuple") rfl), He.free_ok X G (c.t.d.fact 43 (f := .free "zip") rfl), He.str_ok X G (c.t.d.fact 44 (f := .str "DROP" "drop") rfl), He.str_ok X G (c.t.d.fact 45 (f := .str "JOIN" "join") rfl), He.str_ok X G (c.t.d.fact 46 (f := .str "LETTERS" "abcdefghijklmnopqrstuvwxyz") rfl), He.str_ok X G (c.t.d.fact 47 (f := .str "LOAD" "load") rfl), He.str_ok X G (c.t.d.fact 48 (f := .str "PUT" "put") rfl), He.str_ok X G (c.t.d.fact 49 (f := .str "READ" "read") rfl), He.str_ok X G (c.t.d.fact 50 (f := .str "SAVE" "save") rfl), He.str_ok X G (c.t.d.fact 51 (f := .str "WAIT" "wait") rfl), He.cls_ok (c.t.d.fact 25 (f := .cls "Course") rfl), He.noat_ok (c.t.d.fact 52 (f := .noat "Course" "own_copies") rfl), He.noat_ok (c.t.d.fact 53 (f := .noat "Course" "own_many") rfl), He.noat_ok (c.t.d.fact 54 (f := .noat "Course" "own_places") rfl), ktab_of (sayTab c.t 0 rfl) (bAll c.more 0 rfl), He.glo_ok X G (c.t.d.fact 55 (f := .glo "LOOKS") rfl)⟩
abbrev Rw : PySem.W.OpenRow := PySem.W.OpenLaw.row PySem.Challenge.rw_missedmarks_k00_events_and_timetables_or
abbrev hk : PySem.W.Hook := He.hookX 8 faD fnD tbD [] (exAll exD)
def ob (s : PySem.W.SharedT) : He.AlX := He.obsX 8 faD fnD tbD [] (exAll exD) (HandSHeadRun.getT s)
theorem ob_eq (s : PySem.W.SharedT) : ob s = hk.obs s.abs := He.obsX_eq (HandSHeadRun.getT_eq s)
def looseN : List Str := [("_wall" : Str), ("is_number" : Str), ("is_count" : Str), ("is_key" : Str), ("is_event" : Str), ("Course" : Str), ("is_timetable" : Str), ("_law_box" : Str), ("_law_take" : Str), ("_law_of" : Str), ("_law_same" : Str), ("_law_event" : Str), ("_law_moved" : Str), ("_law_table" : Str), ("_law_ended" : Str), ("_law_lots" : Str), ("_law_beside" : Str), ("_law_fit" : Str), ("_law_drawn" : Str), ("_law_is_plain" : Str), ("_law_is_name" : Str), ("_law_is_row" : Str), ("_law_is_whole" : Str), ("_law_bent" : Str), ("_law_right" : Str), ("DROP" : Str), ("JOIN" : Str), ("LETTERS" : Str), ("LOAD" : Str), ("PUT" : Str), ("READ" : Str), ("SAVE" : Str), ("WAIT" : Str), ("LOOKS" : Str)]
set_option maxHeartbeats 0 in
theorem headrun (w : World) : HandSHeadRun.RunEq Rw (PySem.W.view Rw.prog [36]) hk ob 4000 looseN w :=
  PySem.W.byRow2 "special-get-raises" (P := fun w => HandSHeadRun.RunEq Rw (PySem.W.view Rw.prog [36]) hk ob 4000 looseN w) (fun w => by
    intro os
    kernel_rfl) (fun w => by
    intro os
    kernel_rfl) w
theorem cl_of {K : PySem.W.Frag} {H : Hp} {a : Addr} {ns : List Int} (o : Only H) (h : SqL K H a (ns.map V.int)) : CL K H a ns := by
  rcases h with (h | ⟨u, h⟩) | h
  · rcases o a with z | ⟨_, _, z⟩
    · rw [z] at h; cases h
    · rw [z] at h; cases h
  · exact .inl ⟨u, h⟩
  · exact .inr fun H' => .inr h
theorem facts {P : Program} {w : World} {K : PySem.W.Frag} {h : Heap} {mg : Str → Option Value} {f : Addr} (X : K.In h) (G : h.Ns mainGlobals mg) (hfa : mg ("law" : Str) = some (.ref f)) {h0 : Heap} (c : Says w h0 K) :
    ∃ fd : FuncData, (∀ (s : Shared) (v : Value), BindsTo s fd ⟨[v], []⟩ [("_law_script", v)]) ∧ ∀ base : Heap, K.In base → base.Ns mainGlobals mg → FnOk P w K mg base CX0 (14 + 1) f fd ["_law_script"] (spEv K (cfN tab (14 + 1)) 23 1) := by
  obtain ⟨fd, F⟩ := c.t.d.def_ 23 (d := d_law) rfl
  have e := hfa.symm.trans (He.glo_ok X G (c.t.d.fact 23 (f := .glo "law") rfl))
  cases e
  have b := FunD.bindsA (ps := ["_law_script"]) F fun _ _ _ _ _ _ us hl => match us, hl with | [_], _ => rfl
  exact ⟨fd, fun s v => b s [v] rfl, fun base hb hn => ok_law (txt_of X G c) (all_ok (base := base) X G c (txt_of X G c) 14) F fun _ _ => rfl⟩
end Mp
open PySem PySem.W PySem.Calls PyProof.Rows
set_option maxHeartbeats 0 in
theorem Mp.reduce (good : ∀ ns : List Int, ns.length ≤ 63 → ∃ M', Mp.cfN Mp.tab (14 + 1) 23 [.cl ns] [] = some (.bl true, M')) : PySem.Challenge.rw_missedmarks_k00_events_and_timetables_or.Holds := by
  w_on; o_law
  refine HandSHeadRun.head_any (r := OpenLaw.row PySem.Challenge.rw_missedmarks_k00_events_and_timetables_or) (q := view (OpenLaw.row PySem.Challenge.rw_missedmarks_k00_events_and_timetables_or).prog [36]) (H := Mp.hk) (ob := Mp.ob) (M := 4000) (loose := Mp.looseN) (d := HandSHeadRun.topDef (OpenLaw.row PySem.Challenge.rw_missedmarks_k00_events_and_timetables_or).prog 36) (kwd := []) Mp.ob_eq
    (by kernel_rfl) (fun s => by kernel_rfl) Mp.headrun (by kernel_rfl) (by kernel_rfl) (by kernel_rfl) (by rfl) (by first | assumption | decide +kernel) (by decide +kernel) ⟨rfl, rfl, rfl, rfl, rfl, by decide +kernel⟩ ?hw ?hc
  case hw => w_witness2
  case hc =>
    refine L2.walk_ofE (l := PySem.Challenge.rw_missedmarks_k00_events_and_timetables_or) (n := 63) (k := 14 + 1) (x := "_law_script") (CX := L2.CX0) rfl (by decide) (by kernel_rfl) ⟨rfl, by decide, by decide⟩ ?F (fun _ _ _ _ z => z)
    intro w mg fa h Y G hmg0
    obtain ⟨K, KX, c⟩ := Y
    have hmg : mg ("law" : PySem.Str) = some (.ref fa) := by
      have e : (HandSHeadRun.topDef (OpenLaw.row PySem.Challenge.rw_missedmarks_k00_events_and_timetables_or).prog 36).name = ("law" : PySem.Str) := by kernel_rfl
      rw [← e]
      exact hmg0
    obtain ⟨fd, hb, hF⟩ := Mp.facts (P := (PySem.Challenge.rw_missedmarks_k00_events_and_timetables_or).prog) (w := w) KX G hmg c
    refine ⟨K, fd, _, KX, hb, fun H a ns hl ho hS => ?_, hF⟩
    obtain ⟨M', e⟩ := good ns hl
    refine ⟨rfl, [], [], [.cl ns], _, M', ⟨rfl, List.nodup_nil, fun n a o h => by cases h⟩, .cons (.cl (Mp.cl_of ho hS)) .nil, e, fun r' u H' _ _ hv => ?_⟩
    cases hv
    rfl
set_option maxRecDepth 100000 in
set_option maxHeartbeats 0 in
theorem PySem.Challenge.cw_missedmarks_k00_events_and_timetables_or_holds : PySem.Challenge.rw_missedmarks_k00_events_and_timetables_or.Holds :=
  Mp.reduce Mp.good
