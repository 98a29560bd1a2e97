import PyProof.Rows.All
import Wide.All
import OpenK.AllK
import Wide.FinOn
import HandS.ForMost
import HandS.HeadHook1
import HandS.TupAny
import HandS.Deep
import HandS.IsInst
import HandS.More
import HandS.WordsDict
import KE.KSortedM
import KE.GoesMore
import HandS.Zip
import HandS.Style
import HandS.Small
import HandS.Defaults
import HandS.IterVal
import HandS.HeadHook3
import KE.KRevSl
import HandS.Head0
import HandS.Head1
import HandS.Head2
import HandS.HeadEnd
import HandS.HeadHook2
import HandS.HeadHook4
import HandS.SetKeys
import HandS.SetBool
import HandS.Strs
import HandS.SetFor
import PySem.Challenge.RW_missedmarks_k66_what_is_no_view
set_option Elab.async false
set_option linter.all false
set_option maxRecDepth 100000
set_option maxHeartbeats 4000000
set_option autoImplicit false
/-! Mp1: plain values, plain heaps, how they stand to the layer's. -/
namespace Mp
open PySem L2

/-- plain values: tuples by value, what can change by its number; cl: the script -/
inductive PV where
  | non | bl (b : Bool) | int (i : Int) | str (s : Str) | tup (xs : List PV) | ref (n : Nat) | cl (ns : List Int) | fn (n : Nat) (x : Str)
inductive Ob where
  | lst (xs : List PV)
  | dic (kvs : List (Key × PV))
  | ins (c : Str) (fs : List (Str × PV))
abbrev Mm := List Ob
abbrev Sg := List (Option PV)

def CL (K : PySem.W.Frag) (H : Hp) (a : Addr) (ns : List Int) : Prop :=
  (∃ o, H a = some (.frz o (.lst (ns.map V.int)))) ∨ ∀ H' : Hp, SqL K H' a (ns.map V.int)
theorem CL.sq {K : PySem.W.Frag} {H : Hp} {a : Addr} {ns : List Int} (h : CL K H a ns) : SqL K H a (ns.map V.int) := by
  rcases h with ⟨o, h⟩ | h
  · exact .inl (.inr ⟨o, h⟩)
  · exact h H

mutual
inductive RV (K : PySem.W.Frag) (r : List Addr) (H : Hp) : PV → V → Prop
  | non : RV K r H .non .non
  | bl (b : Bool) : RV K r H (.bl b) (.bl b)
  | int (i : Int) : RV K r H (.int i) (.int i)
  | str (s : Str) : RV K r H (.str s) (.str s)
  | tup {xs : List PV} {a : Addr} {vs : List V} : SqT K H a vs → RVs K r H xs vs → RV K r H (.tup xs) (.ref a)
  | ref {n : Nat} {a : Addr} : r[n]? = some a → RV K r H (.ref n) (.ref a)
  | cl {ns : List Int} {a : Addr} : CL K H a ns → RV K r H (.cl ns) (.ref a)
  | fn (n : Nat) (x : Str) : RV K r H (.fn n x) (.ref (He.ga K x))
inductive RVs (K : PySem.W.Frag) (r : List Addr) (H : Hp) : List PV → List V → Prop
  | nil : RVs K r H [] []
  | cons {x : PV} {xs : List PV} {v : V} {vs : List V} : RV K r H x v → RVs K r H xs vs → RVs K r H (x :: xs) (v :: vs)
end

/-- later states: more objects, tuples and locked things as they were -/
structure Ext0 (r r' : List Addr) (H H' : Hp) : Prop where
  pre : ∃ t, r' = r ++ t
  tups : ∀ a xs, H a = some (.tup xs) → H' a = some (.tup xs)
  frzs : ∀ a o u, H a = some (.frz o u) → H' a = some (.frz o u)
/-- .. and what is not tracked stands as it was; what is new was free -/
structure Ext (r r' : List Addr) (H H' : Hp) : Prop extends Ext0 r r' H H' where
  fresh : ∀ a, a ∈ r' → a ∉ r → H a = none
  oth : ∀ a o, a ∉ r → H a = some o → H' a = some o
  live : ∀ a o, H a = some o → ∃ o', H' a = some o'
theorem Ext.refl {r : List Addr} {H : Hp} : Ext r r H H := ⟨⟨⟨[], by simp⟩, fun _ _ h => h, fun _ _ _ h => h⟩, fun a h1 h2 => absurd h1 h2, fun _ _ _ h => h, fun _ o h => ⟨o, h⟩⟩
theorem Ext.trans {r1 r2 r3 : List Addr} {H1 H2 H3 : Hp} (a : Ext r1 r2 H1 H2) (b : Ext r2 r3 H2 H3) : Ext r1 r3 H1 H3 := by
  obtain ⟨t, e1⟩ := a.pre
  obtain ⟨u, e2⟩ := b.pre
  refine ⟨⟨⟨t ++ u, by rw [e2, e1, List.append_assoc]⟩, fun x xs h => b.tups x xs (a.tups x xs h), fun x o u h => b.frzs x o u (a.frzs x o u h)⟩, fun x h3 h1 => ?_, fun x o h1 h => ?_, fun x o h => ?_⟩
  · by_cases h2 : x ∈ r2
    · exact a.fresh x h2 h1
    · have q := b.fresh x h3 h2
      cases e : H1 x with
      | none => rfl
      | some o =>
        obtain ⟨o', e'⟩ := a.live x o e
        rw [e'] at q; cases q
  · refine b.oth x o (fun h2 => ?_) (a.oth x o h1 h)
    rw [a.fresh x h2 h1] at h; cases h
  · obtain ⟨o', e'⟩ := a.live x o h
    exact b.live x o' e'
theorem Ext0.at {r r' : List Addr} {H H' : Hp} (e : Ext0 r r' H H') {n : Nat} {a : Addr} (h : r[n]? = some a) : r'[n]? = some a := by
  obtain ⟨t, rfl⟩ := e.pre
  rw [List.getElem?_append_left (List.getElem?_eq_some_iff.mp h).1]
  exact h
theorem Ext.at {r r' : List Addr} {H H' : Hp} (e : Ext r r' H H') {n : Nat} {a : Addr} (h : r[n]? = some a) : r'[n]? = some a := by
  obtain ⟨t, rfl⟩ := e.pre
  rw [List.getElem?_append_left (List.getElem?_eq_some_iff.mp h).1]
  exact h
section
variable {K : PySem.W.Frag} {r r' : List Addr} {H H' : Hp}
theorem Ext0.rd (e : Ext0 r r' H H') {a : Addr} {xs : List V} (h : Rd H a (.tup xs)) : Rd H' a (.tup xs) := by
  rcases h with h | ⟨o, h⟩
  · exact .inl (e.tups a xs h)
  · exact .inr ⟨o, e.frzs a o _ h⟩
theorem Ext0.sqT (e : Ext0 r r' H H') {a : Addr} {xs : List V} (h : SqT K H a xs) : SqT K H' a xs := by
  rcases h with h | h
  · exact .inl (e.rd h)
  · exact .inr h
theorem Ext0.cl (e : Ext0 r r' H H') {a : Addr} {ns : List Int} (h : CL K H a ns) : CL K H' a ns := by
  rcases h with ⟨o, h⟩ | h
  · exact .inl ⟨o, e.frzs a o _ h⟩
  · exact .inr h
mutual
theorem RV.ext0 (e : Ext0 r r' H H') : ∀ {x : PV} {v : V}, RV K r H x v → RV K r' H' x v
  | _, _, .non => .non
  | _, _, .bl b => .bl b
  | _, _, .int b => .int b
  | _, _, .str b => .str b
  | _, _, .tup h hs => .tup (e.sqT h) (RVs.ext0 e hs)
  | _, _, .ref h => .ref (e.at h)
  | _, _, .cl h => .cl (e.cl h)
  | _, _, .fn n x => .fn n x
theorem RVs.ext0 (e : Ext0 r r' H H') : ∀ {x : List PV} {v : List V}, RVs K r H x v → RVs K r' H' x v
  | _, _, .nil => .nil
  | _, _, .cons h hs => .cons (RV.ext0 e h) (RVs.ext0 e hs)
end
theorem Ext.sqT (e : Ext r r' H H') {a : Addr} {xs : List V} (h : SqT K H a xs) : SqT K H' a xs := e.toExt0.sqT h
theorem Ext.cl (e : Ext r r' H H') {a : Addr} {ns : List Int} (h : CL K H a ns) : CL K H' a ns := e.toExt0.cl h
theorem RV.ext {x : PV} {v : V} (h : RV K r H x v) (e : Ext r r' H H') : RV K r' H' x v := RV.ext0 e.toExt0 h
theorem RVs.ext {x : List PV} {v : List V} (h : RVs K r H x v) (e : Ext r r' H H') : RVs K r' H' x v := RVs.ext0 e.toExt0 h
theorem RVs.length : ∀ {x : List PV} {v : List V}, RVs K r H x v → x.length = v.length
  | _, _, .nil => rfl
  | _, _, .cons _ hs => by simp [RVs.length hs]
theorem RVs.append : ∀ {x y : List PV} {v u : List V}, RVs K r H x v → RVs K r H y u → RVs K r H (x ++ y) (v ++ u)
  | _, _, _, _, .nil, h => h
  | _, _, _, _, .cons h hs, h' => .cons h (RVs.append hs h')
theorem RVs.get : ∀ {x : List PV} {v : List V} {i : Nat} {p : PV}, RVs K r H x v → x[i]? = some p → ∃ u, v[i]? = some u ∧ RV K r H p u
  | _, _, _, _, .nil, e => by simp at e
  | _, _, 0, _, .cons h _, e => by simp at e; subst e; exact ⟨_, rfl, h⟩
  | _, _, i + 1, p, .cons _ hs, e => by
    obtain ⟨u, h1, h2⟩ := RVs.get (i := i) hs (by simpa using e)
    exact ⟨u, by simpa using h1, h2⟩
theorem RVs.get' : ∀ {x : List PV} {v : List V} {i : Nat} {u : V}, RVs K r H x v → v[i]? = some u → ∃ p, x[i]? = some p ∧ RV K r H p u
  | _, _, _, _, .nil, e => by simp at e
  | _, _, 0, _, .cons h _, e => by simp at e; subst e; exact ⟨_, rfl, h⟩
  | _, _, i + 1, p, .cons _ hs, e => by
    obtain ⟨u, h1, h2⟩ := RVs.get' (i := i) hs (by simpa using e)
    exact ⟨u, by simpa using h1, h2⟩
theorem RVs.drop : ∀ {x : List PV} {v : List V} (n : Nat), RVs K r H x v → RVs K r H (x.drop n) (v.drop n)
  | _, _, 0, h => h
  | _, _, _ + 1, .nil => .nil
  | _, _, n + 1, .cons _ hs => RVs.drop n hs
theorem RVs.take : ∀ {x : List PV} {v : List V} (n : Nat), RVs K r H x v → RVs K r H (x.take n) (v.take n)
  | _, _, 0, h => .nil
  | _, _, _ + 1, .nil => .nil
  | _, _, n + 1, .cons h hs => .cons h (RVs.take n hs)
theorem RVs.set : ∀ {x : List PV} {v : List V} (n : Nat) {p : PV} {u : V}, RVs K r H x v → RV K r H p u → RVs K r H (x.set n p) (v.set n u)
  | _, _, _, _, _, .nil, _ => .nil
  | _, _, 0, _, _, .cons _ hs, h' => .cons h' hs
  | _, _, n + 1, _, _, .cons h hs, h' => .cons h (RVs.set n hs h')
theorem RVs.reverse : ∀ {x : List PV} {v : List V}, RVs K r H x v → RVs K r H x.reverse v.reverse
  | _, _, .nil => .nil
  | _, _, .cons h hs => by
    rw [List.reverse_cons, List.reverse_cons]
    exact RVs.append (RVs.reverse hs) (.cons h .nil)

/-! ### the heap -/
def RO (K : PySem.W.Frag) (r : List Addr) (H : Hp) (a : Addr) : Ob → Prop
  | .lst xs => ∃ vs, H a = some (.lst vs) ∧ RVs K r H xs vs
  | .dic kvs => ∃ vs, H a = some (.dK vs) ∧ vs.map (·.1) = kvs.map (·.1) ∧ RVs K r H (kvs.map (·.2)) (vs.map (·.2))
  | .ins c fs => ∃ dx vs, H a = some (.ins (He.ga K c) dx vs) ∧ vs.map (·.1) = fs.map (·.1) ∧ RVs K r H (fs.map (·.2)) (vs.map (·.2))
structure RH (K : PySem.W.Frag) (r : List Addr) (M : Mm) (H : Hp) : Prop where
  len : r.length = M.length
  nd : r.Nodup
  ob : ∀ (n : Nat) (a : Addr) (o : Ob), r[n]? = some a → M[n]? = some o → RO K r H a o
theorem RO.there {a : Addr} : ∀ {o : Ob}, RO K r H a o → ∃ ho, H a = some ho ∧ Mut (some ho)
  | .lst _, ⟨vs, h, _⟩ => ⟨_, h, trivial⟩
  | .dic _, ⟨vs, h, _⟩ => ⟨_, h, trivial⟩
  | .ins _ _, ⟨dx, vs, h, _⟩ => ⟨_, h, trivial⟩
theorem RO.ext (e : Ext0 r r' H H') {a : Addr} (h : H' a = H a) : ∀ {o : Ob}, RO K r H a o → RO K r' H' a o
  | .lst _, ⟨vs, h1, h2⟩ => ⟨vs, h.trans h1, RVs.ext0 e h2⟩
  | .dic _, ⟨vs, h1, h2, h3⟩ => ⟨vs, h.trans h1, h2, RVs.ext0 e h3⟩
  | .ins _ _, ⟨dx, vs, h1, h2, h3⟩ => ⟨dx, vs, h.trans h1, h2, RVs.ext0 e h3⟩
theorem RH.at {M : Mm} (h : RH K r M H) {n : Nat} {o : Ob} (e : M[n]? = some o) : ∃ a, r[n]? = some a ∧ RO K r H a o := by
  have h1 : n < r.length := by rw [h.len]; exact (List.getElem?_eq_some_iff.mp e).1
  exact ⟨r[n], List.getElem?_eq_getElem h1, h.ob n _ o (List.getElem?_eq_getElem h1) e⟩
theorem RH.there {M : Mm} (h : RH K r M H) {a : Addr} (m : a ∈ r) : ∃ ho, H a = some ho ∧ Mut (some ho) := by
  obtain ⟨n, hn, e⟩ := List.mem_iff_getElem.mp m
  have h1 : n < M.length := by rw [← h.len]; exact hn
  exact (h.ob n a M[n] (by rw [List.getElem?_eq_getElem hn, e]) (List.getElem?_eq_getElem h1)).there
/-- untracked things change -/
theorem RH.same {M : Mm} (h : RH K r M H) (e : Ext0 r r H H') (k : ∀ a ∈ r, H' a = H a) : RH K r M H' :=
  ⟨h.len, h.nd, fun n a o h1 h2 => (h.ob n a o h1 h2).ext e (k a (List.mem_of_getElem? h1))⟩
theorem ext_new {p : Addr} {o : HO} (hp : H p = none) (t : List Addr) (ht : t = [p] ∨ t = [] := by first | exact .inl rfl | exact .inr rfl) : Ext r (r ++ t) H (upd H p o) := by
  refine ⟨⟨⟨t, rfl⟩, fun a xs h => by rw [upd_ne (ne_of_none h hp)]; exact h, fun a o u h => by rw [upd_ne (ne_of_none h hp)]; exact h⟩, fun a h1 h2 => ?_, fun a o _ h => by rw [upd_ne (ne_of_none h hp)]; exact h, fun a o h => ⟨o, by rw [upd_ne (ne_of_none h hp)]; exact h⟩⟩
  rcases List.mem_append.mp h1 with h | h
  · exact absurd h h2
  · rcases ht with rfl | rfl
    · have : a = p := by simpa using h
      rw [this]; exact hp
    · cases h
theorem ext_new0 {p : Addr} {o : HO} (hp : H p = none) : Ext r r H (upd H p o) := by
  have := ext_new (r := r) (o := o) hp [] (.inr rfl)
  rwa [List.append_nil] at this
/-- a thing that is not tracked here is laid -/
theorem RH.other {M : Mm} (h : RH K r M H) {p : Addr} (o : HO) (hp : H p = none) : RH K r M (upd H p o) :=
  h.same (ext_new0 hp).toExt0 fun a m => by
    obtain ⟨ho, e, _⟩ := h.there m
    exact upd_ne (ne_of_none e hp)
/-- a new object -/
theorem RH.new {M : Mm} (h : RH K r M H) {p : Addr} {ho : HO} {o : Ob} (hp : H p = none) (q : RO K (r ++ [p]) (upd H p ho) p o) : RH K (r ++ [p]) (M ++ [o]) (upd H p ho) := by
  have np : p ∉ r := fun m => by
    obtain ⟨ho, e, _⟩ := h.there m
    rw [hp] at e; cases e
  refine ⟨by simp [h.len], ?_, fun n a o' h1 h2 => ?_⟩
  · rw [List.nodup_append]
    refine ⟨h.nd, by simp, fun a ha b hb => ?_⟩
    have : b = p := by simpa using hb
    subst this
    exact fun z => np (z ▸ ha)
  · by_cases hn : n < r.length
    · rw [List.getElem?_append_left hn] at h1
      rw [List.getElem?_append_left (by rw [← h.len]; exact hn)] at h2
      refine (h.ob n a o' h1 h2).ext (ext_new hp [p]).toExt0 (upd_ne fun z => ?_)
      subst z
      exact np (List.mem_of_getElem? h1)
    · have h3 : n = r.length := by
        have := (List.getElem?_eq_some_iff.mp h1).1
        simp at this
        omega
      subst h3
      rw [List.getElem?_append_right (Nat.le_refl _)] at h1
      rw [h.len, List.getElem?_append_right (Nat.le_refl _)] at h2
      simp at h1 h2
      subst h1; subst h2
      exact q
theorem ext_set {a : Addr} {o : HO} {ho : HO} (h : H a = some ho) (m : Mut (some ho)) (ma : a ∈ r) : Ext r r H (upd H a o) := by
  refine ⟨⟨⟨[], by simp⟩, fun b xs e => ?_, fun b q u e => ?_⟩, fun b h1 h2 => absurd h1 h2, fun b q hb e => ?_, fun b q e => ?_⟩
  · rw [upd_ne]; exact e
    intro z; subst z; rw [h] at e; cases e; exact m
  · rw [upd_ne]; exact e
    intro z; subst z; rw [h] at e; cases e; exact m
  · rw [upd_ne]; exact e
    intro z; subst z; exact hb ma
  · by_cases hb : b = a
    · subst hb; exact ⟨o, upd_same⟩
    · exact ⟨q, by rw [upd_ne hb]; exact e⟩
/-- an object changes -/
theorem RH.set {M : Mm} (h : RH K r M H) {n : Nat} {a : Addr} {ho : HO} {o : Ob} (ha : r[n]? = some a) (q : RO K r (upd H a ho) a o) : RH K r (M.set n o) (upd H a ho) := by
  obtain ⟨h0, e0, m0⟩ := h.there (List.mem_of_getElem? ha)
  refine ⟨by simp [h.len], h.nd, fun k b o' h1 h2 => ?_⟩
  by_cases hk : k = n
  · subst hk
    rw [ha] at h1; cases h1
    rw [List.getElem?_set_self (by rw [← h.len]; exact (List.getElem?_eq_some_iff.mp ha).1)] at h2
    cases h2
    exact q
  · rw [List.getElem?_set_ne (fun z => hk z.symm)] at h2
    refine (h.ob k b o' h1 h2).ext (ext_set e0 m0 (List.mem_of_getElem? ha)).toExt0 (upd_ne fun z => ?_)
    subst z
    exact hk (nodup_ixA h.nd h1 ha)
where
  nodup_ixA {N : List Addr} (hN : N.Nodup) {i j : Nat} {x : Addr} (a : N[i]? = some x) (b : N[j]? = some x) : i = j := by
    obtain ⟨h1, e1⟩ := List.getElem?_eq_some_iff.mp a
    obtain ⟨h2, e2⟩ := List.getElem?_eq_some_iff.mp b
    exact (List.getElem_inj hN).mp (e1.trans e2.symm)
/-- slots -/
structure RS (K : PySem.W.Frag) (r : List Addr) (H : Hp) (sg : Sg) (s : L2.St) : Prop where
  len : sg.length = s.length
  at_ : ∀ (i : Nat) (p : PV), sg[i]? = some (some p) → ∃ v : V, s[i]? = some (some v) ∧ RV K r H p v
theorem RS.ext {sg : Sg} {s : L2.St} (h : RS K r H sg s) (e : Ext r r' H H') : RS K r' H' sg s :=
  ⟨h.len, fun i p q => let ⟨v, h1, h2⟩ := h.at_ i p q; ⟨v, h1, h2.ext e⟩⟩
theorem RS.set {sg : Sg} {s : L2.St} (h : RS K r H sg s) (i : Nat) {p : PV} {v : V} (q : RV K r H p v) : RS K r H (sg.set i (some p)) (s.set i (some v)) :=
  ⟨by simp [h.len], fun j p' e => by
    by_cases hj : i = j
    · subst hj
      by_cases hl : i < sg.length
      · rw [List.getElem?_set_self hl] at e
        cases e
        exact ⟨v, List.getElem?_set_self (by rw [← h.len]; exact hl), q⟩
      · rw [List.getElem?_eq_none (by simpa using hl)] at e; cases e
    · rw [List.getElem?_set_ne hj] at e
      rw [List.getElem?_set_ne hj]
      exact h.at_ j p' e⟩
end
/-- what is wanted behind: any later state -/
def Post (K : PySem.W.Frag) (r : List Addr) (H : Hp) (z : PV) (M' : Mm) (Q : VK) : Prop := ∀ r' u H', Ext r r' H H' → RH K r' M' H' → RV K r' H' z u → Q u H'
end Mp

/-! Mp2: the plain program (IR) and its evaluator. -/
namespace Mp
open PySem L2

inductive Co where
  | eq | ne | lt | le | gt | ge | isin | notin | isN | isNN
  deriving DecidableEq
inductive Ty where
  | list | tuple | int | bool | str | dict
  deriving DecidableEq
inductive B where
  | len | int | abs | min2 | all | any | sum | tuple | list | sorted | ssort | min1 | max1 | dict | str
  deriving DecidableEq
inductive Mt where
  | append | pop0 | pop1 | extend | get1 | dpop2 | setd
  deriving DecidableEq
inductive Bo where
  | add | sub | mul | fdiv | mod | pow
  deriving DecidableEq
inductive Tg where
  | name (i : Nat) | tup (is : List Nat) | nst (i : Nat) (is : List Nat)
mutual
inductive E where
  | var (i : Nat) | con (v : PV)
  | bop (o : Bo) (a b : E) | neg (a : E)
  | cmp (o : Co) (a b : E) | chn (o1 o2 : Co) (a b c : E)
  | and (a b : E) | or (a b : E) | not (a : E) | ite (c a b : E)
  | tup (es : Es) | lst (es : Es) | dnew | dct (ks : List Key) (vs : Es)
  | idx (a i : E) | slc (fl fh : Bool) (a lo hi : E)
  | call (f : Nat) (es : Es)
  | blt (b : B) (es : Es) | mth (m : Mt) (o : E) (es : Es)
  | isi (a : E) (ts : List Ty)
  | fld (c f : Str) (o : E) | mc (c m : Str) (f : Nat) (o : E) (es : Es)
  | knot (tb : List (Str × List (Nat × Str))) (a : E) | kidx (tb : List (Str × List (Nat × Str))) (a : E) | callv (i : Nat) (fs : List (Nat × Str)) (es : Es) | rev (a : E)
  | lc (own : List Nat) (t : Tg) (it : It) (c e : E)
  | ssc (own : List Nat) (t : Tg) (it : It) (c e : E)
inductive Es where
  | nil | cons (e : E) (r : Es)
inductive It where
  | seq (e : E) | rng1 (a : E) | rng2 (a b : E) | rng3 (a b c : E) | enum (e : E) | zip (a b : E)
end
mutual
inductive S where
  | asg (t : Tg) (e : E) | sto (o i v : E) | exp (e : E) | ret (e : E)
  | iff (c : E) (a b : Ss) | for_ (t : Tg) (it : It) (b : Ss) | whl (c : E) (b : Ss)
  | pass | brk | cnt | stuck
  | fset (c f : Str) (o v : E) | faug (c f : Str) (o v : E) | sto2 (o1 i1 o2 i2 v : E)
inductive Ss where
  | nil | cons (s : S) (r : Ss)
end

abbrev R := Option (PV × Mm)
def bigN : Nat := 1000000

/-! ### values -/
def keyOf : PV → Option Key
  | .int i => some (.inl i)
  | .str s => some (.inr s)
  | _ => none
def getD (kvs : List (Key × PV)) (k : Key) : Option PV := (kvs.find? fun kv => decide (kv.1 = k)).map (·.2)
def putD (kvs : List (Key × PV)) (k : Key) (v : PV) : List (Key × PV) :=
  if (kvs.any fun kv => decide (kv.1 = k)) = true then kvs.map (fun kv => if kv.1 = k then (kv.1, v) else kv) else kvs ++ [(k, v)]
def lstAt (M : Mm) (n : Nat) : Option (List PV) :=
  match M[n]? with
  | some (.lst xs) => some xs
  | _ => none
def dicAt (M : Mm) (n : Nat) : Option (List (Key × PV)) :=
  match M[n]? with
  | some (.dic xs) => some xs
  | _ => none
def toD : Nat → Mm → PV → Option PyData
  | 0, _, _ => none
  | n + 1, M, .tup xs => (xs.mapM (toD n M)).map .tuple
  | n + 1, M, .ref k =>
    match M[k]? with
    | some (.lst xs) => (xs.mapM (toD n M)).map .list
    | _ => none
  | _ + 1, _, .non => some .none
  | _ + 1, _, .bl b => some (.bool b)
  | _ + 1, _, .int i => some (.int i)
  | _ + 1, _, .str s => some (.str s)
  | _ + 1, _, .cl ns => some (.list (ns.map .int))
  | _ + 1, _, .fn _ _ => none
def eqS : PV → PV → Option Bool
  | .non, .non => some true | .non, .int _ => some false | .int _, .non => some false | .non, .bl _ => some false | .bl _, .non => some false
  | .non, .str _ => some false | .str _, .non => some false
  | .int i, .int j => some (decide (i = j)) | .bl i, .bl j => some (decide (i = j)) | .str i, .str j => some (decide (i = j))
  | .int _, .str _ => some false | .str _, .int _ => some false | .bl _, .str _ => some false | .str _, .bl _ => some false
  | _, _ => none
def eqP (M : Mm) (x y : PV) : Option Bool :=
  match eqS x y with
  | some b => some b
  | none =>
    match toD 20 M x, toD 20 M y with
    | some d, some e => if SeqAt.shaped d && SeqAt.shaped e then some (PyData.eqv d e) else none
    | _, _ => none
def flatP : PV → Bool
  | .non => true | .bl _ => true | .int _ => true | .str _ => true | _ => false
def eqF : PV → PV → Bool
  | .non, .non => true
  | .bl i, .bl j => i == j | .int i, .int j => i == j | .str i, .str j => i == j
  | .bl a, .int j => (if a then 1 else 0) == j | .int i, .bl b => i == (if b then 1 else 0)
  | _, _ => false
def inP (x : PV) (xs : List PV) : Option Bool := if flatP x && xs.all flatP then some (xs.any fun y => eqF y x) else none
def sgn : PV → Option Nat
  | .str s => match s.cps.toList with | [c] => some c | _ => none
  | _ => none
def isIn (M : Mm) (x : PV) : PV → Option Bool
  | .tup xs => inP x xs
  | .str z => (sgn x).map fun c => decide (c ∈ z.cps.toList)
  | .ref n =>
    match M[n]? with
    | some (.lst xs) => inP x xs
    | some (.dic kvs) => (keyOf x).map fun k => (getD kvs k).isSome
    | _ => none
  | _ => none
def cmpP (M : Mm) : Co → PV → PV → Option Bool
  | .eq, x, y => eqP M x y
  | .ne, x, y => (eqP M x y).map (!·)
  | .lt, .int i, .int j => some (decide (i < j))
  | .le, .int i, .int j => some (decide (i ≤ j))
  | .gt, .int i, .int j => some (decide (j < i))
  | .ge, .int i, .int j => some (decide (j ≤ i))
  | .isin, x, y => isIn M x y
  | .notin, x, y => (isIn M x y).map (!·)
  | .isN, x, .non => some (match x with | .non => true | _ => false)
  | .isNN, x, .non => some (match x with | .non => false | _ => true)
  | _, _, _ => none
def mulOk (i j : Int) : Bool := (decide (-(2 ^ 64) < i) && decide (i < 2 ^ 64)) || (decide (-(2 ^ 64) < j) && decide (j < 2 ^ 64))
def bopP (M : Mm) : Bo → PV → PV → R
  | .add, .int i, .int j => some (.int (i + j), M)
  | .add, .str a, .str b => if a.length + b.length ≤ sizeLine then some (.str (a ++ b), M) else none
  | .add, .tup xs, .tup ys => if xs.length + ys.length ≤ sizeLine then some (.tup (xs ++ ys), M) else none
  | .add, .ref a, .ref b =>
    match lstAt M a, lstAt M b with
    | some xs, some ys => if xs.length + ys.length ≤ sizeLine then some (.ref M.length, M ++ [.lst (xs ++ ys)]) else none
    | _, _ => none
  | .sub, .int i, .int j => some (.int (i - j), M)
  | .mul, .int i, .int j => if mulOk i j then some (.int (i * j), M) else none
  | .mul, .ref a, .int j =>
    match lstAt M a with
    | some xs => if -(2 ^ 63) ≤ j ∧ j < 2 ^ 63 ∧ xs.length * j.toNat ≤ sizeLine then some (.ref M.length, M ++ [.lst (List.replicate j.toNat xs).flatten]) else none
    | _ => none
  | .fdiv, .int i, .int j => if 0 < j ∧ j < 1073741824 then some (.int (i / j), M) else none
  | .mod, .int i, .int j => if 0 < j then some (.int (i % j), M) else none
  | .pow, .int i, .int j => if 0 ≤ j ∧ j ≤ 1000000 ∧ i.natAbs < 2 ^ 64 then some (.int (i ^ j.toNat), M) else none
  | _, _, _ => none
def idxP (M : Mm) : PV → PV → Option PV
  | .tup xs, .int i => atI xs i
  | .cl ns, .int i => (atI ns i).map .int
  | .str z, .int i => if z.length ≤ sizeLine then (atI z.cps.toList i).map fun c => .str ⟨#[c]⟩ else none
  | .ref n, y =>
    match M[n]?, y with
    | some (.lst xs), .int i => atI xs i
    | some (.dic kvs), y => (keyOf y).bind (getD kvs)
    | _, _ => none
  | _, _ => none
def optI : Bool → PV → Option (Option Int)
  | false, .non => some none
  | true, .int i => some (some i)
  | _, _ => none
def cutP (xs : List PV) (lo hi : Option Int) : List PV := (xs.drop (HT.sIx xs.length 0 lo)).take (HT.sIx xs.length xs.length hi - HT.sIx xs.length 0 lo)
def slcP (fl fh : Bool) (M : Mm) (x lo hi : PV) : R :=
  match optI fl lo, optI fh hi with
  | some a, some b =>
    match x with
    | .tup xs => some (.tup (cutP xs a b), M)
    | .ref n =>
      match lstAt M n with
      | some xs => some (.ref M.length, M ++ [.lst (cutP xs a b)])
      | none => none
    | _ => none
  | _, _ => none
def tyOf (M : Mm) : PV → Option Ty
  | .bl _ => some .bool
  | .int _ => some .int
  | .str _ => some .str
  | .tup _ => some .tuple
  | .cl _ => some .list
  | .ref n =>
    match M[n]? with
    | some (.lst _) => some .list
    | some (.dic _) => some .dict
    | some (.ins _ _) => none
    | none => none
  | .non => none
  | .fn _ _ => none
@[simp] def insP (M : Mm) : PV → Bool
  | .ref n =>
    match M[n]? with
    | some (.ins _ _) => true
    | _ => false
  | .fn _ _ => true
  | _ => false
/-- the fields of an instance of the class c -/
def insAt (M : Mm) (c : Str) (n : Nat) : Option (List (Str × PV)) :=
  match M[n]? with
  | some (.ins d fs) => if d = c then some fs else none
  | _ => none
def putA (f : Str) (v : PV) : List (Str × PV) → List (Str × PV)
  | [] => [(f, v)]
  | (g, x) :: r => if g = f then (g, v) :: r else (g, x) :: putA f v r
def isTy (M : Mm) (x : PV) (t : Ty) : Bool :=
  match tyOf M x with
  | some u => u == t || (u == .bool && t == .int)
  | none => false
def intsOf : List PV → Option (List Int)
  | [] => some []
  | .int i :: r => (intsOf r).map (i :: ·)
  | _ => none
def blsOf : List PV → Option (List Bool)
  | [] => some []
  | .bl i :: r => (blsOf r).map (i :: ·)
  | _ => none
def insI (i : Int) : List Int → List Int
  | [] => [i]
  | j :: r => if i ≤ j then i :: j :: r else j :: insI i r
def sortI (ns : List Int) : List Int := ns.foldr insI []
def insU (i : Int) : List Int → List Int
  | [] => [i]
  | j :: r => if i < j then i :: j :: r else if i = j then j :: r else j :: insU i r
def usortI (ns : List Int) : List Int := ns.foldr insU []
def seqOf (M : Mm) : PV → Option (List PV)
  | .tup xs => some xs
  | .ref n => lstAt M n
  | .cl ns => some (ns.map .int)
  | _ => none
def keysI : List (Key × PV) → Option (List Int)
  | [] => some []
  | (.inl i, _) :: r => (keysI r).map (i :: ·)
  | _ => none
def bltP (M : Mm) : B → List PV → R
  | .len, [x] =>
    match x with
    | .str z => if z.length ≤ sizeLine then some (.int z.length, M) else none
    | .ref n =>
      match M[n]? with
      | some (.lst xs) => some (.int xs.length, M)
      | some (.dic xs) => some (.int xs.length, M)
      | _ => none
    | .tup xs => some (.int xs.length, M)
    | .cl ns => some (.int ns.length, M)
    | _ => none
  | .int, [.int i] => some (.int i, M)
  | .int, [.bl b] => some (.int (if b then 1 else 0), M)
  | .abs, [.int i] => some (.int (if i < 0 then -i else i), M)
  | .min2, [.int i, .int j] => some (.int (if j < i then j else i), M)
  | .all, [.ref n] => ((lstAt M n).bind blsOf).map fun bs => (.bl (bs.all id), M)
  | .any, [.ref n] => ((lstAt M n).bind blsOf).map fun bs => (.bl (bs.any id), M)
  | .sum, [.ref n] => ((lstAt M n).bind intsOf).map fun ns => (.int ns.sum, M)
  | .tuple, [.ref n] => (lstAt M n).map fun xs => (.tup xs, M)
  | .tuple, [.tup xs] => some (.tup xs, M)
  | .list, [x] => (seqOf M x).map fun xs => (.ref M.length, M ++ [.lst xs])
  | .sorted, [.ref n] =>
    match M[n]? with
    | some (.lst xs) => (intsOf xs).bind fun ns => if ns.length < 64 then some (.ref M.length, M ++ [.lst ((sortI ns).map .int)]) else none
    | some (.dic kvs) => (keysI kvs).bind fun ns => if ns.length < 64 then some (.ref M.length, M ++ [.lst ((sortI ns).map .int)]) else none
    | _ => none
  | .ssort, [.ref n] => ((lstAt M n).bind intsOf).bind fun ns => if ns.length < 64 then some (.ref M.length, M ++ [.lst ((usortI ns).map .int)]) else none
  | .str, [.int i] => if i.natAbs.log2 < 1920 then some (.str (Str.ofString (toString i)), M) else none
  | .dict, [.ref n] => (dicAt M n).map fun xs => (.ref M.length, M ++ [.dic xs])
  | _, _ => none
def dropD (kvs : List (Key × PV)) (k : Key) : List (Key × PV) := kvs.filter fun kv => decide (kv.1 ≠ k)
def mthP (M : Mm) : Mt → PV → List PV → R
  | .append, .ref n, [y] => (lstAt M n).bind fun xs => if xs.length < sizeLine then some (.non, M.set n (.lst (xs ++ [y]))) else none
  | .pop1, .ref n, [.int i] => (lstAt M n).bind fun xs => (ixN xs.length i).bind fun j => (xs[j]?).map fun y => (y, M.set n (.lst (xs.eraseIdx j)))
  | .dpop2, .ref n, [k, d] => (dicAt M n).bind fun kvs => (keyOf k).map fun k =>
    match getD kvs k with
    | some v => (v, M.set n (.dic (dropD kvs k)))
    | none => (d, M)
  | .setd, .ref n, [k, d] => (dicAt M n).bind fun kvs => (keyOf k).bind fun k =>
    if kvs.length < sizeLine then
      match getD kvs k with
      | some v => some (v, M)
      | none => some (d, M.set n (.dic (putD kvs k d)))
    else none
  | .get1, .ref n, [k] => (dicAt M n).bind fun kvs => (keyOf k).map fun k => ((getD kvs k).getD .non, M)
  | _, _, _ => none
def mtOk (M : Mm) : Mt → PV → Bool
  | .append, .ref n => (lstAt M n).isSome
  | .pop0, .ref n => (lstAt M n).isSome
  | .pop1, .ref n => (lstAt M n).isSome
  | .extend, .ref n => (lstAt M n).isSome
  | .get1, .ref n => (dicAt M n).isSome
  | .dpop2, .ref n => (dicAt M n).isSome
  | .setd, .ref n => (dicAt M n).isSome
  | _, _ => false
def stoP (M : Mm) (o i v : PV) : Option Mm :=
  match o with
  | .ref n =>
    match M[n]?, i with
    | some (.lst xs), .int k => (ixN xs.length k).map fun j => M.set n (.lst (xs.set j v))
    | some (.dic kvs), i => (keyOf i).bind fun k => if kvs.length < sizeLine then some (M.set n (.dic (putD kvs k v))) else none
    | _, _ => none
  | _ => none
def setAll : List Nat → List PV → Sg → Option Sg
  | [], [], sg => some sg
  | i :: is, x :: xs, sg => setAll is xs (sg.set i (some x))
  | _, _, _ => none
def tgP : Tg → PV → Sg → Option Sg
  | .name i, x, sg => some (sg.set i (some x))
  | .tup is, .tup xs, sg => setAll is xs sg
  | .nst i is, .tup [x, .tup xs], sg => setAll is xs (sg.set i (some x))
  | _, _, _ => none
def wipeP (sg : Sg) : List Nat → Sg
  | [] => sg
  | v :: vs => (wipeP sg vs).set v none

/-! ### what is walked -/
inductive Src where
  | tup (xs : List PV) | lst (n : Nat) | cl (ns : List Int) | str (z : Str) | rng (lo : Int) (n : Nat) | rngc (lo c : Int) (n : Nat)
  | en (s : Src) | zip (s t : Src)
def Src.get (M : Mm) : Src → Nat → Option (Option PV)
  | .tup xs, i => some xs[i]?
  | .lst n, i => (lstAt M n).map fun xs => xs[i]?
  | .cl ns, i => some ((ns[i]?).map .int)
  | .str z, i => some ((z.cps[i]?).map fun c => .str ⟨#[c]⟩)
  | .rng lo n, i => some (if i < n then some (.int (lo + i)) else none)
  | .rngc lo c n, i => some (if i < n then some (.int (lo + i * c)) else none)
  | .en s, i => (s.get M i).map fun o => o.map fun x => .tup [.int i, x]
  | .zip s t, i =>
    match s.get M i, t.get M i with
    | some (some x), some (some y) => some (some (.tup [x, y]))
    | some none, some _ => some none
    | some (some _), some none => some none
    | _, _ => none
def srcOf (M : Mm) : PV → Option Src
  | .tup xs => some (.tup xs)
  | .ref n => (lstAt M n).map fun _ => .lst n
  | .cl ns => some (.cl ns)
  | .str z => some (.str z)
  | _ => none
def Src.isL : Src → Bool
  | .lst _ => true | .cl _ => true | _ => false
def Src.isT : Src → Bool
  | .tup _ => true | _ => false
def rngOk (i : Int) : Bool := decide (-(2 ^ 62) ≤ i) && decide (i < 2 ^ 62)

inductive Fl where
  | nx (sg : Sg) | brk (sg : Sg) | ct (sg : Sg) | ret (v : PV)

/-- a for's turns -/
def forL (s : Src) (bind : PV → Sg → Option Sg) (body : Sg → Mm → Option (Fl × Mm)) : Nat → Nat → Sg → Mm → Option (Fl × Mm)
  | 0, _, _, _ => none
  | m + 1, i, sg, M =>
    match s.get M i with
    | none => none
    | some none => some (.nx sg, M)
    | some (some x) =>
      match bind x sg with
      | none => none
      | some sg1 =>
        match body sg1 M with
        | none => none
        | some (.nx sg2, M2) => forL s bind body m (i + 1) sg2 M2
        | some (.ct sg2, M2) => forL s bind body m (i + 1) sg2 M2
        | some (.brk sg2, M2) => some (.nx sg2, M2)
        | some (.ret v, M2) => some (.ret v, M2)
def whlL (c : Sg → Mm → R) (body : Sg → Mm → Option (Fl × Mm)) : Nat → Sg → Mm → Option (Fl × Mm)
  | 0, _, _ => none
  | m + 1, sg, M =>
    match c sg M with
    | some (.bl true, M1) =>
      match body sg M1 with
      | none => none
      | some (.nx sg2, M2) => whlL c body m sg2 M2
      | some (.ct sg2, M2) => whlL c body m sg2 M2
      | some (.brk sg2, M2) => some (.nx sg2, M2)
      | some (.ret v, M2) => some (.ret v, M2)
    | some (.bl false, M1) => some (.nx sg, M1)
    | _ => none
/-- a comprehension's turns; the list being made stands at d -/
def lcL (s : Src) (bind : PV → Sg → Option Sg) (c e : Sg → Mm → R) (d : Nat) (sg : Sg) : Nat → Nat → Mm → Option Mm
  | 0, _, _ => none
  | m + 1, i, M =>
    match s.get M i with
    | none => none
    | some none => some M
    | some (some x) =>
      match bind x sg with
      | none => none
      | some sg1 =>
        match c sg1 M with
        | some (.bl true, M1) =>
          match e sg1 M1 with
          | none => none
          | some (y, M2) =>
            match lstAt M2 d with
            | none => none
            | some acc => if acc.length < sizeLine then lcL s bind c e d sg m (i + 1) (M2.set d (.lst (acc ++ [y]))) else none
        | some (.bl false, M1) => lcL s bind c e d sg m (i + 1) M1
        | _ => none
/-- a set comprehension of ints: what was met -/
def scL (s : Src) (bind : PV → Sg → Option Sg) (c e : Sg → Mm → R) (sg : Sg) : Nat → Nat → List Int → Mm → Option (List Int × Mm)
  | 0, _, _, _ => none
  | m + 1, i, acc, M =>
    match s.get M i with
    | none => none
    | some none => some (acc, M)
    | some (some x) =>
      match bind x sg with
      | none => none
      | some sg1 =>
        match c sg1 M with
        | some (.bl true, M1) =>
          match e sg1 M1 with
          | some (.int y, M2) => if acc.length < 60 then scL s bind c e sg m (i + 1) (acc ++ [y]) M2 else none
          | _ => none
        | some (.bl false, M1) => scL s bind c e sg m (i + 1) acc M1
        | _ => none

abbrev CF := Nat → List PV → Mm → R
mutual
def evE (cf : CF) : E → Sg → Mm → R
  | .var i, sg, M => match sg[i]? with | some (some v) => some (v, M) | _ => none
  | .con v, _, M => some (v, M)
  | .bop o a b, sg, M =>
    match evE cf a sg M with
    | some (x, M1) => match evE cf b sg M1 with | some (y, M2) => bopP M2 o x y | none => none
    | none => none
  | .neg a, sg, M => match evE cf a sg M with | some (.int i, M1) => some (.int (-i), M1) | _ => none
  | .cmp o a b, sg, M =>
    match evE cf a sg M with
    | some (x, M1) => match evE cf b sg M1 with | some (y, M2) => (cmpP M2 o x y).map fun k => (.bl k, M2) | none => none
    | none => none
  | .chn o1 o2 a b c, sg, M =>
    match evE cf a sg M with
    | some (x, M1) =>
      match evE cf b sg M1 with
      | some (y, M2) =>
        match cmpP M2 o1 x y with
        | some true => match evE cf c sg M2 with | some (z, M3) => (cmpP M3 o2 y z).map fun k => (.bl k, M3) | none => none
        | some false => some (.bl false, M2)
        | none => none
      | none => none
    | none => none
  | .and a b, sg, M => match evE cf a sg M with | some (.bl true, M1) => evE cf b sg M1 | some (.bl false, M1) => some (.bl false, M1) | _ => none
  | .or a b, sg, M => match evE cf a sg M with | some (.bl true, M1) => some (.bl true, M1) | some (.bl false, M1) => evE cf b sg M1 | _ => none
  | .not a, sg, M => match evE cf a sg M with | some (.bl k, M1) => some (.bl (!k), M1) | _ => none
  | .ite c a b, sg, M => match evE cf c sg M with | some (.bl true, M1) => evE cf a sg M1 | some (.bl false, M1) => evE cf b sg M1 | _ => none
  | .tup es, sg, M => match evEs cf es sg M with | some (xs, M1) => if xs.length ≤ sizeLine then some (.tup xs, M1) else none | none => none
  | .lst es, sg, M => match evEs cf es sg M with | some (xs, M1) => if xs.length ≤ sizeLine then some (.ref M1.length, M1 ++ [.lst xs]) else none | none => none
  | .dnew, _, M => some (.ref M.length, M ++ [.dic []])
  | .dct ks vs, sg, M =>
    match evEs cf vs sg (M ++ [.dic []]) with
    | some (xs, M1) =>
      if xs.length = ks.length ∧ ks.length ≤ 15 then
        match dicAt M1 M.length with
        | some [] => some (.ref M.length, M1.set M.length (.dic ((ks.zip xs).foldl (fun acc kv => putD acc kv.1 kv.2) [])))
        | _ => none
      else none
    | none => none
  | .idx a i, sg, M =>
    match evE cf a sg M with
    | some (x, M1) => match evE cf i sg M1 with | some (y, M2) => (idxP M2 x y).map fun v => (v, M2) | none => none
    | none => none
  | .slc fl fh a lo hi, sg, M =>
    match evE cf a sg M with
    | some (x, M1) =>
      match evE cf lo sg M1 with
      | some (y, M2) => match evE cf hi sg M2 with | some (z, M3) => slcP fl fh M3 x y z | none => none
      | none => none
    | none => none
  | .call f es, sg, M => match evEs cf es sg M with | some (xs, M1) => cf f xs M1 | none => none
  | .blt b es, sg, M => match evEs cf es sg M with | some (xs, M1) => bltP M1 b xs | none => none
  | .mth m o es, sg, M =>
    match evE cf o sg M with
    | some (x, M1) => if mtOk M1 m x then (match evEs cf es sg M1 with | some (xs, M2) => mthP M2 m x xs | none => none) else none
    | none => none
  | .isi a ts, sg, M => match evE cf a sg M with | some (x, M1) => if insP M1 x then none else some (.bl (ts.any (isTy M1 x)), M1) | none => none
  | .fld c f o, sg, M =>
    match evE cf o sg M with
    | some (.ref n, M1) => (insAt M1 c n).bind fun fs => (fs.lookup f).map fun v => (v, M1)
    | _ => none
  | .knot tb a, sg, M => match evE cf a sg M with | some (.str z, M1) => some (.bl (!(tb.any fun q => decide (q.1 = z))), M1) | _ => none
  | .kidx tb a, sg, M =>
    match evE cf a sg M with
    | some (.str z, M1) => (tb.find? fun q => decide (q.1 = z)).map fun q => (.tup (q.2.map fun p => .fn p.1 p.2), M1)
    | _ => none
  | .callv i fs es, sg, M =>
    match sg[i]? with
    | some (some (.fn n x)) => if (n, x) ∈ fs then (match evEs cf es sg M with | some (xs, M1) => cf n xs M1 | none => none) else none
    | _ => none
  | .rev a, sg, M => match evE cf a sg M with | some (.tup xs, M1) => some (.tup xs.reverse, M1) | _ => none
  | .mc c m f o es, sg, M =>
    match evE cf o sg M with
    | some (.ref n, M1) =>
      match insAt M1 c n with
      | some fs => if (fs.lookup m).isNone then (match evEs cf es sg M1 with | some (xs, M2) => cf f (.ref n :: xs) M2 | none => none) else none
      | none => none
    | _ => none
  | .lc own t it c e, sg, M =>
    match evI cf it sg M with
    | some (s, M1) => (lcL s (tgP t) (fun sg M => evE cf c sg M) (fun sg M => evE cf e sg M) M1.length (wipeP sg own) bigN 0 (M1 ++ [.lst []])).map fun M2 => (.ref M1.length, M2)
    | none => none
  | .ssc own t it c e, sg, M =>
    match evI cf it sg M with
    | some (s, M1) => (scL s (tgP t) (fun sg M => evE cf c sg M) (fun sg M => evE cf e sg M) (wipeP sg own) bigN 0 [] M1).map fun q => (.ref q.2.length, q.2 ++ [.lst ((usortI q.1).map .int)])
    | none => none
def evEs (cf : CF) : Es → Sg → Mm → Option (List PV × Mm)
  | .nil, _, M => some ([], M)
  | .cons e r, sg, M =>
    match evE cf e sg M with
    | some (x, M1) => match evEs cf r sg M1 with | some (xs, M2) => some (x :: xs, M2) | none => none
    | none => none
def evI (cf : CF) : It → Sg → Mm → Option (Src × Mm)
  | .seq e, sg, M => match evE cf e sg M with | some (x, M1) => (srcOf M1 x).map fun s => (s, M1) | none => none
  | .rng1 a, sg, M => match evE cf a sg M with | some (.int j, M1) => if rngOk j then some (.rng 0 j.toNat, M1) else none | _ => none
  | .rng2 a b, sg, M =>
    match evE cf a sg M with
    | some (.int i, M1) => match evE cf b sg M1 with | some (.int j, M2) => if rngOk i && rngOk j then some (.rng i (j - i).toNat, M2) else none | _ => none
    | _ => none
  | .rng3 _ _ _, _, _ => none
  | .enum e, sg, M =>
    match evE cf e sg M with
    | some (x, M1) => match srcOf M1 x with | some s => if s.isL || s.isT then some (.en s, M1) else none | none => none
    | none => none
  | .zip a b, sg, M =>
    match evE cf a sg M with
    | some (x, M1) =>
      match evE cf b sg M1 with
      | some (y, M2) =>
        match srcOf M2 x, srcOf M2 y with
        | some s, some t => if (s.isL && t.isL) || (s.isT && t.isT) then some (.zip s t, M2) else none
        | _, _ => none
      | none => none
    | none => none
end
mutual
def evS (cf : CF) : S → Sg → Mm → Option (Fl × Mm)
  | .asg t e, sg, M => match evE cf e sg M with | some (x, M1) => (tgP t x sg).map fun sg1 => (.nx sg1, M1) | none => none
  | .sto o i v, sg, M =>
    match evE cf v sg M with
    | some (x, M1) =>
      match evE cf o sg M1 with
      | some (y, M2) => match evE cf i sg M2 with | some (z, M3) => (stoP M3 y z x).map fun M4 => (.nx sg, M4) | none => none
      | none => none
    | none => none
  | .exp e, sg, M => match evE cf e sg M with | some (_, M1) => some (.nx sg, M1) | none => none
  | .ret e, sg, M => match evE cf e sg M with | some (x, M1) => some (.ret x, M1) | none => none
  | .iff c a b, sg, M => match evE cf c sg M with | some (.bl true, M1) => evSs cf a sg M1 | some (.bl false, M1) => evSs cf b sg M1 | _ => none
  | .for_ t it b, sg, M => match evI cf it sg M with | some (s, M1) => forL s (tgP t) (fun sg M => evSs cf b sg M) bigN 0 sg M1 | none => none
  | .whl c b, sg, M => whlL (fun sg M => evE cf c sg M) (fun sg M => evSs cf b sg M) bigN sg M
  | .pass, sg, M => some (.nx sg, M)
  | .brk, sg, M => some (.brk sg, M)
  | .cnt, sg, M => some (.ct sg, M)
  | .stuck, _, _ => none
  | .fset c f o v, sg, M =>
    match evE cf v sg M with
    | some (x, M1) =>
      match evE cf o sg M1 with
      | some (.ref n, M2) =>
        match insAt M2 c n with
        | some fs => if fs.length < 1000 then some (.nx sg, M2.set n (.ins c (putA f x fs))) else none
        | none => none
      | _ => none
    | none => none
  | .sto2 o1 i1 o2 i2 v, sg, M =>
    match evE cf v sg M with
    | some (.tup [x, y], M1) =>
      match evE cf o1 sg M1 with
      | some (p, M2) =>
        match evE cf i1 sg M2 with
        | some (q, M3) =>
          match stoP M3 p q x with
          | some M4 =>
            match evE cf o2 sg M4 with
            | some (p2, M5) =>
              match evE cf i2 sg M5 with
              | some (q2, M6) => (stoP M6 p2 q2 y).map fun M7 => (.nx sg, M7)
              | none => none
            | none => none
          | none => none
        | none => none
      | none => none
    | _ => none
  | .faug c f o v, sg, M =>
    match evE cf o sg M with
    | some (.ref n, M1) =>
      match insAt M1 c n with
      | some fs =>
        match fs.lookup f with
        | some (.int i) =>
          match evE cf v sg M1 with
          | some (.int j, M2) =>
            match insAt M2 c n with
            | some gs => if gs.length < 1000 then some (.nx sg, M2.set n (.ins c (putA f (.int (i + j)) gs))) else none
            | none => none
          | _ => none
        | _ => none
      | none => none
    | _ => none
def evSs (cf : CF) : Ss → Sg → Mm → Option (Fl × Mm)
  | .nil, sg, M => some (.nx sg, M)
  | .cons s r, sg, M =>
    match evS cf s sg M with
    | some (.nx sg1, M1) => evSs cf r sg1 M1
    | o => o
end
/-- a def: how many parameters, how many slots, its body -/
structure Df where
  np : Nat
  ns : Nat
  body : Ss
def runD (cf : CF) (d : Df) (xs : List PV) (M : Mm) : R :=
  if xs.length = d.np then
    match evSs cf d.body (xs.map some ++ List.replicate (d.ns - d.np) none) M with
    | some (.ret v, M1) => some (v, M1)
    | some (.nx _, M1) => some (.non, M1)
    | _ => none
  else none
/-- what a number stands for: a def, or a class with its __init__ -/
inductive Dx where
  | fn (d : Df) | mk (c : Str) (i : Nat)
def mkD (cf : CF) (c : Str) (i : Nat) (xs : List PV) (M : Mm) : R :=
  match cf i (.ref M.length :: xs) (M ++ [.ins c []]) with
  | some (.non, M1) => some (.ref M.length, M1)
  | _ => none
/-- the calls, to a depth -/
def cfN (tab : Nat → Option Dx) : Nat → CF
  | 0 => fun _ _ _ => none
  | k + 1 => fun f xs M =>
    match tab f with
    | some (.fn d) => runD (cfN tab k) d xs M
    | some (.mk c i) => mkD (cfN tab k) c i xs M
    | none => none
end Mp

/-! Mp3a: the judgements over the evaluator; names, constants, tests, displays. -/
namespace Mp
open PySem L2

def TEv (K : PySem.W.Frag) (f : Sg → Mm → R) : TE := fun s H Q => ∃ r sg M z M', RS K r H sg s ∧ RH K r M H ∧ f sg M = some (z, M') ∧ Post K r H z M' Q
def TTv (K : PySem.W.Frag) (f : Sg → Mm → R) : TT := fun s H Q => ∃ r sg M b M', RS K r H sg s ∧ RH K r M H ∧ f sg M = some (.bl b, M') ∧ ∀ r' H', Ext r r' H H' → RH K r' M' H' → Q b H'
def TAv (K : PySem.W.Frag) (f : Sg → Mm → Option (List PV × Mm)) : TA := fun s H Q => ∃ r sg M xs M', RS K r H sg s ∧ RH K r M H ∧ f sg M = some (xs, M') ∧ ∀ r' vs H', Ext r r' H H' → RH K r' M' H' → RVs K r' H' xs vs → Q vs H'
def XE (X : Cx) (cf : CF) (e : Expr) (i : E) : Prop := PE X e (TEv X.K (evE cf i))
def XT (X : Cx) (cf : CF) (e : Expr) (i : E) : Prop := PT X e (TTv X.K (evE cf i))
def XW (X : Cx) (cf : CF) (e : Expr) (i : E) : Prop := PW X e (TTv X.K (evE cf i))
def XA (X : Cx) (cf : CF) (es : List Expr) (i : Es) : Prop := PA X es (TAv X.K (evEs cf i))

theorem pe_imp {X : Cx} {e : Expr} {t t' : TE} (h : PE X e t) (k : ∀ s H Q, t' s H Q → t s H Q) : PE X e t' := ⟨fun pins s σ H Q I q => h.run pins s σ H Q I (k _ _ _ q)⟩
theorem pt_imp {X : Cx} {e : Expr} {t t' : TT} (h : PT X e t) (k : ∀ s H Q, t' s H Q → t s H Q) : PT X e t' := ⟨fun pins s σ H Q I q => h.run pins s σ H Q I (k _ _ _ q)⟩
theorem pw_imp {X : Cx} {e : Expr} {t t' : TT} (h : PW X e t) (k : ∀ s H Q, t' s H Q → t s H Q) : PW X e t' := ⟨fun wh pins s σ H Q I q => h.run wh pins s σ H Q I (k _ _ _ q)⟩
theorem pa_imp {X : Cx} {e : List Expr} {t t' : TA} (h : PA X e t) (k : ∀ s H Q, t' s H Q → t s H Q) : PA X e t' := ⟨fun p pins s σ H Q I q => h.run p pins s σ H Q I (k _ _ _ q)⟩

section
variable {K : PySem.W.Frag} {r : List Addr} {H : Hp} {M : Mm} {Q : VK} {z : PV} {u : V} {p a : Addr} {xs : List PV} {vs : List V}
theorem Post.here (q : Post K r H z M Q) (h : RH K r M H) (v : RV K r H z u) : Q u H := q r u H .refl h v
theorem Post.tup (q : Post K r H (.tup xs) M Q) (h : RH K r M H) (v : RVs K r H xs vs) (hp : H p = none) : Q (.ref p) (upd H p (.tup vs)) :=
  q r _ _ (ext_new0 hp) (h.other _ hp) (.tup (.inl (.inl upd_same)) (v.ext (ext_new0 hp)))
theorem Post.lst (q : Post K r H (.ref M.length) (M ++ [.lst xs]) Q) (h : RH K r M H) (v : RVs K r H xs vs) (hp : H p = none) : Q (.ref p) (upd H p (.lst vs)) :=
  q (r ++ [p]) _ _ (ext_new hp [p]) (h.new hp ⟨vs, upd_same, v.ext (ext_new hp [p])⟩) (.ref (by rw [← h.len]; simp))
theorem Post.set {n : Nat} (q : Post K r H z (M.set n (.lst xs)) Q) (h : RH K r M H) (ha : r[n]? = some a) (v : RVs K r H xs vs) (hz : RV K r H z u) : Q u (upd H a (.lst vs)) := by
  obtain ⟨h0, e0, m0⟩ := h.there (List.mem_of_getElem? ha)
  have e := ext_set (r := r) (o := .lst vs) e0 m0 (List.mem_of_getElem? ha)
  exact q r _ _ e (h.set ha ⟨vs, upd_same, v.ext e⟩) (hz.ext e)
theorem lst_of {n : Nat} (h : RH K r M H) (e : lstAt M n = some xs) : ∃ a vs, r[n]? = some a ∧ H a = some (.lst vs) ∧ RVs K r H xs vs := by
  unfold lstAt at e
  split at e
  · rename_i ys e1
    cases e
    obtain ⟨a, h1, vs, h2, h3⟩ := h.at e1
    exact ⟨a, vs, h1, h2, h3⟩
  · cases e
theorem RV.refAt {n : Nat} (v : RV K r H (.ref n) u) (ha : r[n]? = some a) : u = .ref a := by
  cases v with
  | ref h => rw [ha] at h; cases h; rfl
end

section
variable {X : Cx} {cf : CF} {e a b c : Expr} {es : List Expr} {i ia ib ic : E} {pos : Pos}
theorem xe_var (j : Nat) {x : Str} (hN : X.N[j]? = some x := by rfl) (hv : Vis X.env.scope x := by first | exact Or.inl rfl | exact Or.inr (Or.inl rfl) | exact Or.inr (Or.inr rfl)) (hd : (x == ("__debug__" : Str)) = false := by decide)
    (hcd : (x == ("__classdict__" : Str)) = false := by decide) : XE X cf (.Name x pos) (.var j) := by
  refine pe_imp (pe_var hN hv hd hcd) fun s H Q h => ?_
  obtain ⟨r, sg, M, z, M', hs, hh, e, q⟩ := h
  simp only [evE] at e
  split at e
  · rename_i v ev
    cases e
    obtain ⟨v, h1, h2⟩ := hs.at_ j z ev
    exact ⟨v, h1, q.here hh h2⟩
  · cases e
theorem xe_con {v : PV} {w : V} (h : PE X e (tC w)) (hv : ∀ r H, RV X.K r H v w) : XE X cf e (.con v) := by
  refine pe_imp h fun s H Q h => ?_
  obtain ⟨r, sg, M, z, M', hs, hh, e, q⟩ := h
  simp only [evE] at e
  cases e
  exact q.here hh (hv r H)
theorem xe_int {n : Int} {j : Nat} : XE X cf (.Constant (.int n) j pos) (.con (.int n)) := xe_con pe_int fun _ _ => .int n
theorem xe_bl {n : Bool} {j : Nat} : XE X cf (.Constant (.bool n) j pos) (.con (.bl n)) := xe_con pe_bl fun _ _ => .bl n
theorem xe_str {n : Str} {j : Nat} : XE X cf (.Constant (.str n) j pos) (.con (.str n)) := xe_con pe_str fun _ _ => .str n
theorem xe_non {j : Nat} : XE X cf (.Constant .none j pos) (.con .non) := xe_con pe_non fun _ _ => .non
/-- a module's text -/
theorem xe_gstr {x : Str} {n : Str} {t : Tok} (hg : Gl X x) (hm : X.mg x = some (.str n t)) (hd : (x == ("__debug__" : Str)) = false := by decide) : XE X cf (.Name x pos) (.con (.str n)) :=
  xe_con (pe_glob (v := .str n) hg hm ⟨_, rfl⟩ hd) fun _ _ => .str n

theorem xe_gstrE {x : Str} {n : Str} (hg : Gl X x) (hm : ∃ t, X.mg x = some (.str n t)) (hd : (x == ("__debug__" : Str)) = false := by decide) : XE X cf (.Name x pos) (.con (.str n)) :=
  let ⟨_, h⟩ := hm; xe_gstr hg h hd

/-! ### tests -/
theorem xt_val (h : XE X cf e i) (he : ∀ whole, isTrue e X.env whole = (do let v ← whole; standAt e.pos; holding [v] (truthy v)) := by intro _; rfl) : XT X cf e i := by
  refine pt_imp (pt_val h he) fun s H Q h => ?_
  obtain ⟨r, sg, M, b, M', hs, hh, e, q⟩ := h
  refine ⟨r, sg, M, _, M', hs, hh, e, fun r' u H' x h' v => ?_⟩
  cases v
  exact ⟨b, rfl, q r' H' x h'⟩
theorem xt_not (h : XT X cf a ia) : XT X cf (.UnaryOp .Not a pos) (.not ia) := by
  refine pt_imp (pt_not h) fun s H Q h => ?_
  obtain ⟨r, sg, M, b, M', hs, hh, e, q⟩ := h
  simp only [evE] at e
  split at e
  · rename_i k M1 e1
    cases e
    exact ⟨r, sg, M, k, _, hs, hh, e1, q⟩
  · cases e
theorem xe_not (h : XE X cf a ia) : XE X cf (.UnaryOp .Not a pos) (.not ia) := by
  refine pe_imp (pe_not h) fun s H Q h => ?_
  obtain ⟨r, sg, M, z, M', hs, hh, e, q⟩ := h
  simp only [evE] at e
  split at e
  · rename_i k M1 e1
    cases e
    refine ⟨r, sg, M, _, _, hs, hh, e1, fun r' u H' x h' v => ?_⟩
    cases v
    exact ⟨k, rfl, q r' _ H' x h' (.bl _)⟩
  · cases e
theorem and_inv {K : PySem.W.Frag} {sg : Sg} {M M' : Mm} {z : PV} (e : evE cf (.and ia ib) sg M = some (z, M')) :
    (∃ M1, evE cf ia sg M = some (.bl true, M1) ∧ evE cf ib sg M1 = some (z, M')) ∨ (evE cf ia sg M = some (.bl false, M') ∧ z = .bl false) := by
  simp only [evE] at e
  split at e
  · rename_i M1 e1; exact .inl ⟨M1, e1, e⟩
  · rename_i M1 e1; cases e; exact .inr ⟨e1, rfl⟩
  · cases e
theorem or_inv {sg : Sg} {M M' : Mm} {z : PV} (e : evE cf (.or ia ib) sg M = some (z, M')) :
    (∃ M1, evE cf ia sg M = some (.bl false, M1) ∧ evE cf ib sg M1 = some (z, M')) ∨ (evE cf ia sg M = some (.bl true, M') ∧ z = .bl true) := by
  simp only [evE] at e
  split at e
  · rename_i M1 e1; cases e; exact .inr ⟨e1, rfl⟩
  · rename_i M1 e1; exact .inl ⟨M1, e1, e⟩
  · cases e
theorem xw_and1 {o : BoolOp} (ho : o = .And) (h : XT X cf a ia) : XW X cf (.BoolOp o [a] pos) ia := by subst ho; exact pw_and1 h
theorem xw_or1 {o : BoolOp} (ho : o = .Or) (h : XT X cf a ia) : XW X cf (.BoolOp o [a] pos) ia := by subst ho; exact pw_or1 h
theorem xw_and {rest : List Expr} (h : XT X cf a ia) (h2 : XW X cf (.BoolOp .And (b :: rest) pos) ib) : XW X cf (.BoolOp .And (a :: b :: rest) pos) (.and ia ib) := by
  refine pw_imp (pw_and h h2) fun s H Q h => ?_
  obtain ⟨r, sg, M, z, M', hs, hh, e, q⟩ := h
  rcases and_inv (K := X.K) e with ⟨M1, e1, e2⟩ | ⟨e1, e2⟩
  · refine ⟨r, sg, M, _, _, hs, hh, e1, fun r' H' x h' => ?_⟩
    refine iteT ?_
    exact ⟨r', sg, M1, z, M', hs.ext x, h', e2, fun r2 H2 x2 h2 => q r2 H2 (x.trans x2) h2⟩
  · cases e2
    refine ⟨r, sg, M, _, _, hs, hh, e1, fun r' H' x h' => ?_⟩
    refine iteF ?_
    exact q r' H' x h'
theorem xw_or {rest : List Expr} (h : XT X cf a ia) (h2 : XW X cf (.BoolOp .Or (b :: rest) pos) ib) : XW X cf (.BoolOp .Or (a :: b :: rest) pos) (.or ia ib) := by
  refine pw_imp (pw_or h h2) fun s H Q h => ?_
  obtain ⟨r, sg, M, z, M', hs, hh, e, q⟩ := h
  rcases or_inv e with ⟨M1, e1, e2⟩ | ⟨e1, e2⟩
  · refine ⟨r, sg, M, _, _, hs, hh, e1, fun r' H' x h' => ?_⟩
    refine iteF ?_
    exact ⟨r', sg, M1, z, M', hs.ext x, h', e2, fun r2 H2 x2 h2 => q r2 H2 (x.trans x2) h2⟩
  · cases e2
    refine ⟨r, sg, M, _, _, hs, hh, e1, fun r' H' x h' => ?_⟩
    refine iteT ?_
    exact q r' H' x h'
theorem xt_w (h : XW X cf a ia) : XT X cf a ia := PW.pt h
theorem xe_one {op : BoolOp} (h : XE X cf a ia) : XE X cf (.BoolOp op [a] pos) ia := pe_one h
theorem xe_and {rest : List Expr} (h : XE X cf a ia) (h2 : XE X cf (.BoolOp .And (b :: rest) pos) ib) : XE X cf (.BoolOp .And (a :: b :: rest) pos) (.and ia ib) := by
  refine pe_imp (pe_and h h2) fun s H Q h => ?_
  obtain ⟨r, sg, M, z, M', hs, hh, e, q⟩ := h
  rcases and_inv (K := X.K) e with ⟨M1, e1, e2⟩ | ⟨e1, e2⟩
  · refine ⟨r, sg, M, _, _, hs, hh, e1, fun r' u H' x h' v => ?_⟩
    cases v
    refine ⟨true, rfl, ?_⟩
    refine iteT ?_
    exact ⟨r', sg, M1, z, M', hs.ext x, h', e2, fun r2 u2 H2 x2 h2 v2 => q r2 u2 H2 (x.trans x2) h2 v2⟩
  · cases e2
    refine ⟨r, sg, M, _, _, hs, hh, e1, fun r' u H' x h' v => ?_⟩
    cases v
    refine ⟨false, rfl, ?_⟩
    refine iteF ?_
    exact q r' _ H' x h' (.bl _)
theorem xe_or {rest : List Expr} (h : XE X cf a ia) (h2 : XE X cf (.BoolOp .Or (b :: rest) pos) ib) : XE X cf (.BoolOp .Or (a :: b :: rest) pos) (.or ia ib) := by
  refine pe_imp (pe_or h h2) fun s H Q h => ?_
  obtain ⟨r, sg, M, z, M', hs, hh, e, q⟩ := h
  rcases or_inv e with ⟨M1, e1, e2⟩ | ⟨e1, e2⟩
  · refine ⟨r, sg, M, _, _, hs, hh, e1, fun r' u H' x h' v => ?_⟩
    cases v
    refine ⟨false, rfl, ?_⟩
    refine iteF ?_
    exact ⟨r', sg, M1, z, M', hs.ext x, h', e2, fun r2 u2 H2 x2 h2 v2 => q r2 u2 H2 (x.trans x2) h2 v2⟩
  · cases e2
    refine ⟨r, sg, M, _, _, hs, hh, e1, fun r' u H' x h' v => ?_⟩
    cases v
    refine ⟨true, rfl, ?_⟩
    refine iteT ?_
    exact q r' _ H' x h' (.bl _)
theorem xe_if (hc : XT X cf c ic) (ha : XE X cf a ia) (hb : XE X cf b ib) : XE X cf (.IfExp c a b pos) (.ite ic ia ib) := by
  refine pe_imp (pe_ifExp hc ha hb) fun s H Q h => ?_
  obtain ⟨r, sg, M, z, M', hs, hh, e, q⟩ := h
  simp only [evE] at e
  split at e
  · rename_i M1 e1
    refine ⟨r, sg, M, _, _, hs, hh, e1, fun r' H' x h' => ?_⟩
    refine iteT ?_
    exact ⟨r', sg, M1, z, M', hs.ext x, h', e, fun r2 u2 H2 x2 h2 v2 => q r2 u2 H2 (x.trans x2) h2 v2⟩
  · rename_i M1 e1
    refine ⟨r, sg, M, _, _, hs, hh, e1, fun r' H' x h' => ?_⟩
    refine iteF ?_
    exact ⟨r', sg, M1, z, M', hs.ext x, h', e, fun r2 u2 H2 x2 h2 v2 => q r2 u2 H2 (x.trans x2) h2 v2⟩
  · cases e

/-! ### arguments, displays -/
theorem xa_nil : XA X cf [] .nil := by
  refine pa_imp pa_nil fun s H Q h => ?_
  obtain ⟨r, sg, M, xs, M', hs, hh, e, q⟩ := h
  simp only [evEs] at e
  cases e
  exact q r [] H .refl hh .nil
theorem evEs_cons {i : E} {j : Es} {sg : Sg} {M M' : Mm} {ys : List PV} (e : evEs cf (.cons i j) sg M = some (ys, M')) :
    ∃ x xs M1, evE cf i sg M = some (x, M1) ∧ evEs cf j sg M1 = some (xs, M') ∧ ys = x :: xs := by
  simp only [evEs] at e
  split at e
  · rename_i x M1 e1
    split at e
    · rename_i xs M2 e2
      cases e
      exact ⟨x, xs, M1, e1, e2, rfl⟩
    · cases e
  · cases e
theorem xa_cons {j : Es} (h : XE X cf e i) (h2 : XA X cf es j) (hs : starEach (e :: es) X.env = (false, eval e X.env) :: starEach es X.env := by rfl) : XA X cf (e :: es) (.cons i j) := by
  refine pa_imp (pa_cons h h2 hs) fun s H Q h => ?_
  obtain ⟨r, sg, M, ys, M', hs, hh, e, q⟩ := h
  obtain ⟨x, xs, M1, e1, e2, rfl⟩ := evEs_cons e
  exact ⟨r, sg, M, x, M1, hs, hh, e1, fun r1 u1 H1 x1 h1 v1 => ⟨r1, sg, M1, xs, M', hs.ext x1, h1, e2, fun r2 us H2 x2 h2 v2 => q r2 (u1 :: us) H2 (x1.trans x2) h2 (.cons (v1.ext x2) v2)⟩⟩
theorem xe_tup {k : Nat} {j : Es} (h : XA X cf es j) : XE X cf (.Tuple es k pos) (.tup j) := by
  refine pe_imp (pe_tup h) fun s H Q h => ?_
  obtain ⟨r, sg, M, z, M', hs, hh, e, q⟩ := h
  simp only [evE] at e
  split at e
  · rename_i xs M1 e1
    split at e
    · rename_i hl
      cases e
      refine ⟨r, sg, M, xs, _, hs, hh, e1, fun r1 vs H1 x1 h1 v1 => ⟨by rw [← v1.length]; exact hl, fun p hp => ?_⟩⟩
      exact Post.tup (fun r2 u2 H2 x2 h2 v2 => q r2 u2 H2 (x1.trans x2) h2 v2) h1 v1 hp
    · cases e
  · cases e
theorem xe_lst {j : Es} (h : XA X cf es j) : XE X cf (.List es pos) (.lst j) := by
  refine pe_imp (pe_lst h) fun s H Q h => ?_
  obtain ⟨r, sg, M, z, M', hs, hh, e, q⟩ := h
  simp only [evE] at e
  split at e
  · rename_i xs M1 e1
    split at e
    · rename_i hl
      cases e
      refine ⟨r, sg, M, xs, _, hs, hh, e1, fun r1 vs H1 x1 h1 v1 => ⟨by rw [← v1.length]; exact hl, fun p hp => ?_⟩⟩
      exact Post.lst (fun r2 u2 H2 x2 h2 v2 => q r2 u2 H2 (x1.trans x2) h2 v2) h1 v1 hp
    · cases e
  · cases e
end
end Mp

/-! Mp3b: operators, comparisons, subscripts, slices. -/
namespace Mp
open PySem L2

def ROp (K : PySem.W.Frag) (f : Mm → PV → PV → R) : R2 := fun x y H Q => ∃ r M a b z M', RH K r M H ∧ RV K r H a x ∧ RV K r H b y ∧ f M a b = some (z, M') ∧ Post K r H z M' Q
def RCm (K : PySem.W.Frag) (f : Mm → PV → PV → Option Bool) : R2 := fun x y H Q => ∃ r M a b k, RH K r M H ∧ RV K r H a x ∧ RV K r H b y ∧ f M a b = some k ∧ Q (.bl k) H

section
variable {X : Cx}
theorem opx_add : OpR X (binaryOp .Add) (ROp X.K fun M => bopP M .add) := by
  intro pins s σ H x y v u Q I rx ry h
  obtain ⟨r, M, a, b, z, M', hh, va, vb, e, q⟩ := h
  cases va with
  | int i =>
    cases vb with
    | int j => simp only [bopP] at e; cases e; exact op_add pins s σ H _ _ v u Q I rx ry ⟨i, j, rfl, rfl, q.here hh (.int _)⟩
    | _ => simp [bopP] at e
  | str i =>
    cases vb with
    | str j =>
      simp only [bopP] at e
      split at e
      · rename_i hl; cases e; exact op_add_str pins s σ H _ _ v u Q I rx ry ⟨i, j, rfl, rfl, hl, q.here hh (.str _)⟩
      · cases e
    | _ => simp [bopP] at e
  | @tup xs a1 vs ha hxs =>
    cases vb with
    | @tup ys a2 us hb hys =>
      simp only [bopP] at e
      split at e
      · rename_i hl
        cases e
        refine op_catA pins s σ H _ _ v u Q I rx ry ⟨a1, a2, vs, us, rfl, rfl, ha, hb, by rw [← hxs.length, ← hys.length]; exact hl, fun z => ?_, fun _ z => ?_, fun _ _ p hp => ?_⟩
        · subst z
          cases hxs
          exact q.here hh (.tup hb hys)
        · subst z
          cases hys
          rw [List.append_nil] at q
          exact q.here hh (.tup ha hxs)
        · exact q.tup hh (hxs.append hys) hp
      · cases e
    | _ => simp [bopP] at e
  | @ref n a1 hn =>
    cases vb with
    | @ref m a2 hm =>
      simp only [bopP] at e
      split at e
      · rename_i xs ys e1 e2
        split at e
        · rename_i hl
          cases e
          obtain ⟨b1, vs, g1, g2, g3⟩ := lst_of hh e1
          obtain ⟨b2, us, k1, k2, k3⟩ := lst_of hh e2
          rw [hn] at g1; cases g1
          rw [hm] at k1; cases k1
          exact op_cat pins s σ H _ _ v u Q I rx ry ⟨a1, a2, vs, us, rfl, rfl, g2, k2, by rw [← g3.length, ← k3.length]; exact hl, fun p hp => q.lst hh (g3.append k3) hp⟩
        · cases e
      · cases e
    | _ => simp [bopP] at e
  | _ => simp [bopP] at e
theorem opx_sub : OpR X (binaryOp .Sub) (ROp X.K fun M => bopP M .sub) := by
  intro pins s σ H x y v u Q I rx ry h
  obtain ⟨r, M, a, b, z, M', hh, va, vb, e, q⟩ := h
  cases va with
  | int i =>
    cases vb with
    | int j => simp only [bopP] at e; cases e; exact op_sub pins s σ H _ _ v u Q I rx ry ⟨i, j, rfl, rfl, q.here hh (.int _)⟩
    | _ => simp [bopP] at e
  | _ => simp [bopP] at e
theorem mulOk_C {i j : Int} (h : mulOk i j = true) : CMul i j := by
  unfold mulOk at h
  rcases Bool.or_eq_true_iff.mp h with h | h
  · obtain ⟨h1, h2⟩ := Bool.and_eq_true_iff.mp h; exact .inl ⟨of_decide_eq_true h1, of_decide_eq_true h2⟩
  · obtain ⟨h1, h2⟩ := Bool.and_eq_true_iff.mp h; exact .inr ⟨of_decide_eq_true h1, of_decide_eq_true h2⟩
theorem flat_rep {K : PySem.W.Frag} {r : List Addr} {H : Hp} {xs : List PV} {vs : List V} (h : RVs K r H xs vs) : ∀ n : Nat, RVs K r H (List.replicate n xs).flatten (List.replicate n vs).flatten
  | 0 => .nil
  | n + 1 => by
    rw [List.replicate_succ, List.replicate_succ, List.flatten_cons, List.flatten_cons]
    exact h.append (flat_rep h n)
theorem opx_mul : OpR X (binaryOp .Mult) (ROp X.K fun M => bopP M .mul) := by
  intro pins s σ H x y v u Q I rx ry h
  obtain ⟨r, M, a, b, z, M', hh, va, vb, e, q⟩ := h
  cases va with
  | int i =>
    cases vb with
    | int j =>
      simp only [bopP] at e
      split at e
      · rename_i hl; cases e; exact op_mul pins s σ H _ _ v u Q I rx ry ⟨i, j, rfl, rfl, mulOk_C hl, q.here hh (.int _)⟩
      · cases e
    | _ => simp [bopP] at e
  | @ref n a1 hn =>
    cases vb with
    | int j =>
      simp only [bopP] at e
      split at e
      · rename_i xs e1
        split at e
        · rename_i hl
          cases e
          obtain ⟨b1, vs, g1, g2, g3⟩ := lst_of hh e1
          rw [hn] at g1; cases g1
          exact op_rep pins s σ H _ _ v u Q I rx ry ⟨a1, j, vs, rfl, rfl, g2, hl.1, hl.2.1, by rw [← g3.length]; exact hl.2.2, fun p hp => q.lst hh (flat_rep g3 _) hp⟩
        · cases e
      · cases e
    | _ => simp [bopP] at e
  | _ => simp [bopP] at e
theorem opx_fdiv : OpR X (binaryOp .FloorDiv) (ROp X.K fun M => bopP M .fdiv) := by
  intro pins s σ H x y v u Q I rx ry h
  obtain ⟨r, M, a, b, z, M', hh, va, vb, e, q⟩ := h
  cases va with
  | int i =>
    cases vb with
    | int j =>
      simp only [bopP] at e
      split at e
      · rename_i hl; cases e; exact op_fdiv pins s σ H _ _ v u Q I rx ry ⟨i, j, rfl, rfl, hl, q.here hh (.int _)⟩
      · cases e
    | _ => simp [bopP] at e
  | _ => simp [bopP] at e
theorem opx_mod : OpR X (binaryOp .Mod) (ROp X.K fun M => bopP M .mod) := by
  intro pins s σ H x y v u Q I rx ry h
  obtain ⟨r, M, a, b, z, M', hh, va, vb, e, q⟩ := h
  cases va with
  | int i =>
    cases vb with
    | int j =>
      simp only [bopP] at e
      split at e
      · rename_i hl; cases e; exact op_mod pins s σ H _ _ v u Q I rx ry ⟨i, j, rfl, rfl, hl, q.here hh (.int _)⟩
      · cases e
    | _ => simp [bopP] at e
  | _ => simp [bopP] at e
theorem opx_pow : OpR X (binaryOp .Pow) (ROp X.K fun M => bopP M .pow) := by
  intro pins s σ H x y v u Q I rx ry h
  obtain ⟨r, M, a, b, z, M', hh, va, vb, e, q⟩ := h
  cases va with
  | int i =>
    cases vb with
    | int j =>
      simp only [bopP] at e
      split at e
      · rename_i hl; cases e; exact op_pow pins s σ H _ _ v u Q I rx ry ⟨i, j, rfl, rfl, hl, q.here hh (.int _)⟩
      · cases e
    | _ => simp [bopP] at e
  | _ => simp [bopP] at e

/-! ### == -/
mutual
theorem toD_dp {K : PySem.W.Frag} {r : List Addr} {H : Hp} {M : Mm} (hh : RH K r M H) : ∀ (n : Nat) {x : PV} {v : V} {d : PyData}, toD n M x = some d → RV K r H x v → Dp K H v d
  | 0, _, _, _, e, _ => by simp [toD] at e
  | n + 1, .non, _, _, e, h => by simp only [toD] at e; cases e; cases h; exact .non
  | n + 1, .bl b, _, _, e, h => by simp only [toD] at e; cases e; cases h; exact .bl _
  | n + 1, .int b, _, _, e, h => by simp only [toD] at e; cases e; cases h; exact .int _
  | n + 1, .str b, _, _, e, h => by simp only [toD] at e; cases e; cases h; exact .str _
  | n + 1, .tup xs, _, _, e, h => by
    simp only [toD] at e
    cases h with
    | tup h1 h2 =>
      obtain ⟨ds, e1, rfl⟩ := Option.map_eq_some_iff.mp e
      exact .tup h1 (toD_all hh n e1 h2)
  | n + 1, .cl ns, _, _, e, h => by
    simp only [toD] at e
    cases e
    cases h with
    | cl h => exact .lst h.sq (cl_all ns)
  | n + 1, .ref k, _, _, e, h => by
    simp only [toD] at e
    split at e
    · rename_i xs e0
      obtain ⟨ds, e1, rfl⟩ := Option.map_eq_some_iff.mp e
      obtain ⟨a, h1, vs, h2, h3⟩ := hh.at e0
      cases h with
      | ref h => rw [h1] at h; cases h; exact .lst (.inl (.inl h2)) (toD_all hh n e1 h3)
    · cases e
theorem cl_all {K : PySem.W.Frag} {H : Hp} : ∀ ns : List Int, DpAll K H (ns.map V.int) (ns.map PyData.int)
  | [] => .nil
  | n :: ns => .cons (.int n) (cl_all ns)
theorem toD_all {K : PySem.W.Frag} {r : List Addr} {H : Hp} {M : Mm} (hh : RH K r M H) (n : Nat) : ∀ {xs : List PV} {vs : List V} {ds : List PyData}, xs.mapM (toD n M) = some ds → RVs K r H xs vs → DpAll K H vs ds
  | [], _, _, e, h => by
    cases h
    have e' : some [] = some _ := e
    cases e'
    exact .nil
  | x :: xs, _, _, e, h => by
    cases h with
    | cons h hs =>
      rw [List.mapM_cons] at e
      cases e1 : toD n M x with
      | none => rw [e1] at e; cases e
      | some d =>
        rw [e1] at e
        cases e2 : xs.mapM (toD n M) with
        | none => rw [e2] at e; cases e
        | some ds =>
          rw [e2] at e
          cases e
          exact .cons (toD_dp hh n e1 h) (toD_all hh n e2 hs)
end
theorem eqS_ok {K : PySem.W.Frag} {r : List Addr} {H : Hp} {a b : PV} {x y : V} {k : Bool} (e : eqS a b = some k) (va : RV K r H a x) (vb : RV K r H b y) : scal x y = true ∧ decide (x = y) = k := by
  cases va <;> cases vb <;> simp [eqS] at e <;> subst e <;> simp [scal]
theorem opx_eq (hu : X.A.units + 64 < cLine) : OpR X (compareOp .Eq) (RCm X.K fun M => cmpP M .eq) := by
  intro pins s σ H x y v u Q I rx ry h
  obtain ⟨r, M, a, b, k, hh, va, vb, e, q⟩ := h
  simp only [cmpP, eqP] at e
  split at e
  · rename_i b e1
    cases e
    obtain ⟨h1, h2⟩ := eqS_ok e1 va vb
    exact op_eq pins s σ H x y v u Q I rx ry ⟨h1, by rw [h2]; exact q⟩
  · split at e
    · rename_i d1 d2 e1 e2
      split at e
      · rename_i hs
        cases e
        obtain ⟨s1, s2⟩ := Bool.and_eq_true_iff.mp hs
        exact op_eqD hu pins s σ H x y v u Q I rx ry ⟨_, _, toD_dp hh 20 e1 va, toD_dp hh 20 e2 vb, s1, s2, q⟩
      · cases e
    · cases e
theorem opx_ne (hu : X.A.units + 64 < cLine) : OpR X (compareOp .NotEq) (RCm X.K fun M => cmpP M .ne) := by
  intro pins s σ H x y v u Q I rx ry h
  obtain ⟨r, M, a, b, k, hh, va, vb, e, q⟩ := h
  simp only [cmpP] at e
  obtain ⟨k', e', rfl⟩ := Option.map_eq_some_iff.mp e
  clear e
  have e : eqP M a b = some k' := e'
  clear e'
  simp only [eqP] at e
  split at e
  · rename_i b e1
    have e := Option.some.inj e
    subst e
    obtain ⟨h1, h2⟩ := eqS_ok e1 va vb
    exact op_ne pins s σ H x y v u Q I rx ry ⟨h1, by rw [h2]; exact q⟩
  · split at e
    · rename_i d1 d2 e1 e2
      split at e
      · rename_i hs
        have e := Option.some.inj e
        subst e
        obtain ⟨s1, s2⟩ := Bool.and_eq_true_iff.mp hs
        exact op_neD hu pins s σ H x y v u Q I rx ry ⟨_, _, toD_dp hh 20 e1 va, toD_dp hh 20 e2 vb, s1, s2, q⟩
      · cases e
    · cases e
theorem cmpI {co : Co} {op : CmpOp} {g : Int → Int → Bool} (ho : OpR X (compareOp op) (rI0 fun i j => .bl (g i j))) (hc : ∀ M a b k, cmpP M co a b = some k → ∃ i j, a = .int i ∧ b = .int j ∧ k = g i j) : OpR X (compareOp op) (RCm X.K fun M => cmpP M co) := by
  intro pins s σ H x y v u Q I rx ry h
  obtain ⟨r, M, a, b, k, hh, va, vb, e, q⟩ := h
  obtain ⟨i, j, rfl, rfl, rfl⟩ := hc _ _ _ _ e
  cases va; cases vb
  exact ho pins s σ H _ _ v u Q I rx ry ⟨i, j, rfl, rfl, q⟩
theorem opx_lt : OpR X (compareOp .Lt) (RCm X.K fun M => cmpP M .lt) := cmpI op_lt fun M a b k e => by
  cases a <;> cases b <;> simp [cmpP] at e
  exact ⟨_, _, rfl, rfl, e.symm⟩
theorem opx_le : OpR X (compareOp .LtE) (RCm X.K fun M => cmpP M .le) := cmpI op_le fun M a b k e => by
  cases a <;> cases b <;> simp [cmpP] at e
  exact ⟨_, _, rfl, rfl, e.symm⟩
theorem opx_gt : OpR X (compareOp .Gt) (RCm X.K fun M => cmpP M .gt) := cmpI op_gt fun M a b k e => by
  cases a <;> cases b <;> simp [cmpP] at e
  exact ⟨_, _, rfl, rfl, e.symm⟩
theorem opx_ge : OpR X (compareOp .GtE) (RCm X.K fun M => cmpP M .ge) := cmpI op_ge fun M a b k e => by
  cases a <;> cases b <;> simp [cmpP] at e
  exact ⟨_, _, rfl, rfl, e.symm⟩
theorem opx_isN : OpR X (compareOp .Is) (RCm X.K fun M => cmpP M .isN) := by
  intro pins s σ H x y v u Q I rx ry h
  obtain ⟨r, M, a, b, k, hh, va, vb, e, q⟩ := h
  cases vb with
  | non =>
    refine op_isN pins s σ H x _ v u Q I rx ry ⟨rfl, ?_⟩
    cases va <;> simp [cmpP] at e <;> subst e <;> simpa using q
  | _ => cases a <;> simp [cmpP] at e
theorem opx_isNN : OpR X (compareOp .IsNot) (RCm X.K fun M => cmpP M .isNN) := by
  intro pins s σ H x y v u Q I rx ry h
  obtain ⟨r, M, a, b, k, hh, va, vb, e, q⟩ := h
  cases vb with
  | non =>
    refine op_notN pins s σ H x _ v u Q I rx ry ⟨rfl, ?_⟩
    cases va <;> simp [cmpP] at e <;> subst e <;> simpa using q
  | _ => cases a <;> simp [cmpP] at e

/-! ### in -/
theorem flat_ok {K : PySem.W.Frag} {r : List Addr} {H : Hp} {a : PV} {x : V} (va : RV K r H a x) : flatV x = flatP a := by cases va <;> rfl
theorem flat_all {K : PySem.W.Frag} {r : List Addr} {H : Hp} : ∀ {xs : List PV} {vs : List V}, RVs K r H xs vs → vs.all flatV = xs.all flatP
  | _, _, .nil => rfl
  | _, _, .cons h hs => by rw [List.all_cons, List.all_cons, flat_ok h, flat_all hs]
theorem eqF_ok {K : PySem.W.Frag} {r : List Addr} {H : Hp} {a b : PV} {x y : V} (va : RV K r H a x) (vb : RV K r H b y) : eqV x y = eqF a b := by
  cases va <;> cases vb <;> rfl
theorem any_ok {K : PySem.W.Frag} {r : List Addr} {H : Hp} {b : PV} {y : V} (vb : RV K r H b y) : ∀ {xs : List PV} {vs : List V}, RVs K r H xs vs → inV y vs = xs.any fun z => eqF z b
  | _, _, .nil => rfl
  | _, _, .cons h hs => by
    have := any_ok vb hs
    unfold inV at this ⊢
    rw [List.any_cons, List.any_cons, eqF_ok h vb, this]
theorem inP_ok {K : PySem.W.Frag} {r : List Addr} {H : Hp} {a : PV} {x : V} {xs : List PV} {vs : List V} {k : Bool} (va : RV K r H a x) (hs : RVs K r H xs vs) (e : inP a xs = some k) : flatV x = true ∧ vs.all flatV = true ∧ inV x vs = k := by
  unfold inP at e
  split at e
  · rename_i h
    cases e
    obtain ⟨h1, h2⟩ := Bool.and_eq_true_iff.mp h
    exact ⟨by rw [flat_ok va]; exact h1, by rw [flat_all hs]; exact h2, any_ok va hs⟩
  · cases e
theorem keyOf_ok {K : PySem.W.Frag} {r : List Addr} {H : Hp} {a : PV} {x : V} {k : Key} (va : RV K r H a x) (e : keyOf a = some k) : x = kV k := by
  cases va <;> simp [keyOf] at e <;> subst e <;> rfl
theorem getD_ok {K : PySem.W.Frag} {r : List Addr} {H : Hp} (k : Key) : ∀ {kvs : List (Key × PV)} {vs : List (Key × V)}, vs.map (·.1) = kvs.map (·.1) → RVs K r H (kvs.map (·.2)) (vs.map (·.2)) →
    (getD kvs k).isSome = (valV vs k).isSome ∧ ∀ p, getD kvs k = some p → ∃ v, valV vs k = some v ∧ RV K r H p v
  | [], [], _, _ => ⟨rfl, fun p e => by simp [getD] at e⟩
  | [], _ :: _, e, _ => by simp at e
  | _ :: _, [], e, _ => by simp at e
  | (k1, p1) :: kvs, (k2, v2) :: vs, e, h => by
    simp only [List.map_cons, List.cons.injEq] at e
    obtain ⟨e1, e2⟩ := e
    have e1 : k2 = k1 := e1
    subst e1
    cases h with
    | cons h hs =>
      obtain ⟨i1, i2⟩ := getD_ok k e2 hs
      by_cases hk : k2 = k
      · subst hk
        simp [getD, valV, List.find?_cons]
        exact h
      · have a1 : getD ((k2, p1) :: kvs) k = getD kvs k := by simp [getD, List.find?_cons, hk]
        have a2 : valV ((k2, v2) :: vs) k = valV vs k := by simp [valV, List.find?_cons, hk]
        rw [a1, a2]
        exact ⟨i1, i2⟩
theorem dic_of {K : PySem.W.Frag} {r : List Addr} {H : Hp} {M : Mm} {n : Nat} {kvs : List (Key × PV)} {a : Addr} (h : RH K r M H) (e : M[n]? = some (.dic kvs)) (ha : r[n]? = some a) :
    ∃ vs, H a = some (.dK vs) ∧ vs.map (·.1) = kvs.map (·.1) ∧ RVs K r H (kvs.map (·.2)) (vs.map (·.2)) := by
  obtain ⟨b, h1, vs, h2, h3, h4⟩ := h.at e
  rw [ha] at h1; cases h1
  exact ⟨vs, h2, h3, h4⟩
theorem sgn_ok {a : PV} {c : Nat} (e : sgn a = some c) : a = .str ⟨#[c]⟩ := by
  cases a with
  | str z =>
    simp only [sgn] at e
    split at e
    · rename_i c' e1
      cases e
      obtain ⟨cps⟩ := z
      have : cps = #[c] := by
        apply Array.ext'
        simpa using e1
      subst this
      rfl
    · cases e
  | _ => simp [sgn] at e
theorem in_core {pins : List (Addr × Obj)} {s : Shared} {σ : L2.St} {H : Hp} {x y : V} {v u : Value} {Q : VK} (neg : Bool) (hu : X.A.units + 1 < cLine) (I : Inv X pins σ H s) (rx : RelV x v) (ry : RelV y u)
    {r : List Addr} {M : Mm} {a b : PV} {k : Bool} (hh : RH X.K r M H) (va : RV X.K r H a x) (vb : RV X.K r H b y) (e : isIn M a b = some k) (q : Q (.bl (if neg then !k else k)) H) :
    wpAny (model X.prog X.w) X.A (compareOp (if neg then .NotIn else .In) v u) (EP X pins σ Q) X.xe s := by
  have seq : ∀ {p : Addr} {xs : List PV} {vs : List V}, y = .ref p → (SqL X.K H p vs ∨ SqT X.K H p vs) → RVs X.K r H xs vs → inP a xs = some k → wpAny (model X.prog X.w) X.A (compareOp (if neg then .NotIn else .In) v u) (EP X pins σ Q) X.xe s := fun {p xs vs} ey hq hs he => by
    obtain ⟨h1, h2, h3⟩ := inP_ok va hs he
    subst h3
    cases neg with
    | true => exact op_notIn_seq pins s σ H x y v u Q I rx ry ⟨p, vs, ey, hq, h1, h2, q⟩
    | false => exact op_in_seq pins s σ H x y v u Q I rx ry ⟨p, vs, ey, hq, h1, h2, q⟩
  cases vb with
  | @tup xs a1 vs ht hs => exact seq rfl (.inr ht) hs (by simpa [isIn] using e)
  | str z =>
    simp only [isIn] at e
    obtain ⟨c, e1, rfl⟩ := Option.map_eq_some_iff.mp e
    have := sgn_ok e1
    subst this
    cases va
    cases neg with
    | true => exact op_notIn_sign pins s σ H _ _ v u Q I rx ry ⟨c, z, rfl, rfl, q⟩
    | false => exact op_in_sign pins s σ H _ _ v u Q I rx ry ⟨c, z, rfl, rfl, q⟩
  | @ref n a1 hn =>
    simp only [isIn] at e
    split at e
    · rename_i xs e1
      obtain ⟨b1, g1, vs, g2, g3⟩ := hh.at e1
      rw [hn] at g1; cases g1
      exact seq rfl (.inl (.inl (.inl g2))) g3 e
    · rename_i kvs e1
      obtain ⟨key, e2, rfl⟩ := Option.map_eq_some_iff.mp e
      obtain ⟨vs, g2, g3, g4⟩ := dic_of hh e1 hn
      have := keyOf_ok va e2
      subst this
      obtain ⟨i1, _⟩ := getD_ok key g3 g4
      rw [i1] at q
      cases (show u = Value.ref a1 from ry)
      cases neg with
      | true => exact d_notIn hu I (DGet.k (k := key) g2) rx fun s' I' => ⟨.bl _, H, I', rfl, q⟩
      | false => exact d_in hu I (DGet.k (k := key) g2) rx fun s' I' => ⟨.bl _, H, I', rfl, q⟩
    · cases e
  | _ => simp [isIn] at e
theorem opx_in (hu : X.A.units + 64 < cLine) : OpR X (compareOp .In) (RCm X.K fun M => cmpP M .isin) := by
  intro pins s σ H x y v u Q I rx ry h
  obtain ⟨r, M, a, b, k, hh, va, vb, e, q⟩ := h
  simp only [cmpP] at e
  exact in_core false (by omega) I rx ry hh va vb e q
theorem opx_notin (hu : X.A.units + 64 < cLine) : OpR X (compareOp .NotIn) (RCm X.K fun M => cmpP M .notin) := by
  intro pins s σ H x y v u Q I rx ry h
  obtain ⟨r, M, a, b, k, hh, va, vb, e, q⟩ := h
  simp only [cmpP] at e
  obtain ⟨k', e', rfl⟩ := Option.map_eq_some_iff.mp e
  exact in_core true (by omega) I rx ry hh va vb e' q

/-! ### subscripts -/
theorem ix_dic (hu : X.A.units + 1 < cLine) : IxR X (fun x y H Q => ∃ a v, x = .ref a ∧ DGet H a y (some v) ∧ Q v H) := by
  intro value slice pins s σ H x y v u Q I rx ry h hs
  obtain ⟨a, z, rfl, g, q⟩ := h
  cases (show v = Value.ref a from rx)
  exact PyProof.Rows.tail_any (dict_typeIs I g) PySem.F.slot_dict_getitem.lookup (d_getItem hu I g ry fun w' s' I' rw' => ⟨z, H, I', rw', q⟩) hs
def RIx (K : PySem.W.Frag) : R2 := fun x y H Q => ∃ r M a b z, RH K r M H ∧ RV K r H a x ∧ RV K r H b y ∧ idxP M a b = some z ∧ ∀ u, RV K r H z u → Q u H
theorem atI_ok {K : PySem.W.Frag} {r : List Addr} {H : Hp} {xs : List PV} {vs : List V} {i : Int} {z : PV} (hs : RVs K r H xs vs) (e : atI xs i = some z) : ∃ v, atI vs i = some v ∧ RV K r H z v := by
  unfold atI at e ⊢
  rw [← hs.length]
  obtain ⟨j, e1, e2⟩ := Option.bind_eq_some_iff.mp e
  rw [e1]
  exact hs.get e2
theorem ixx (hu : X.A.units + 64 < cLine) : IxR X (RIx X.K) := by
  intro value slice pins s σ H x y v u Q I rx ry h hp
  obtain ⟨r, M, a, b, z, hh, va, vb, e, q⟩ := h
  cases va with
  | @tup xs a1 vs ht hs =>
    cases vb with
    | int i =>
      simp only [idxP] at e
      obtain ⟨w, h1, h2⟩ := atI_ok hs e
      exact ix_tup value slice pins s σ H _ _ v u Q I rx ry ⟨a1, vs, i, w, rfl, rfl, ht, h1, q w h2⟩ hp
    | _ => simp [idxP] at e
  | @cl ns a1 hc =>
    cases vb with
    | int i =>
      simp only [idxP] at e
      obtain ⟨w, h1, rfl⟩ := Option.map_eq_some_iff.mp e
      have : atI (ns.map V.int) i = some (V.int w) := by
        unfold atI at h1 ⊢
        rw [List.length_map]
        obtain ⟨j, e1, e2⟩ := Option.bind_eq_some_iff.mp h1
        rw [e1]
        show (ns.map V.int)[j]? = some (V.int w)
        rw [List.getElem?_map, e2]
        rfl
      exact ix_list value slice pins s σ H _ _ v u Q I rx ry ⟨a1, _, i, _, rfl, rfl, hc.sq, this, q _ (.int w)⟩ hp
    | _ => simp [idxP] at e
  | str zz =>
    cases vb with
    | int i =>
      simp only [idxP] at e
      split at e
      · rename_i hl
        obtain ⟨c, h1, rfl⟩ := Option.map_eq_some_iff.mp e
        exact ix_str value slice pins s σ H _ _ v u Q I rx ry ⟨zz, i, c, rfl, rfl, hl, h1, q _ (.str _)⟩ hp
      · cases e
    | _ => simp [idxP] at e
  | @ref n a1 hn =>
    simp only [idxP] at e
    split at e
    · rename_i xs i e1
      obtain ⟨b1, g1, vs, g2, g3⟩ := hh.at e1
      rw [hn] at g1; cases g1
      cases vb
      obtain ⟨w, h1, h2⟩ := atI_ok g3 e
      exact ix_list value slice pins s σ H _ _ v u Q I rx ry ⟨a1, vs, i, w, rfl, rfl, .inl (.inl g2), h1, q w h2⟩ hp
    · rename_i kvs _ e1
      obtain ⟨key, e2, e3⟩ := Option.bind_eq_some_iff.mp e
      obtain ⟨vs, g2, g3, g4⟩ := dic_of hh e1 hn
      have := keyOf_ok vb e2
      subst this
      obtain ⟨_, i2⟩ := getD_ok key g3 g4
      obtain ⟨w, w1, w2⟩ := i2 z e3
      exact ix_dic (by omega) value slice pins s σ H _ _ v u Q I rx ry ⟨a1, w, rfl, by rw [← w1]; exact DGet.k g2, q w w2⟩ hp
    · cases e
  | _ => simp [idxP] at e
end
end Mp

/-! Mp3c: expressions over operators; built-ins, methods, isinstance, dict displays. -/
namespace Mp
open PySem L2

section
variable {X : Cx} {cf : CF} {e a b c : Expr} {es : List Expr} {i ia ib ic : E} {pos : Pos}
theorem xe_bop {o : Operator} {bo : Bo} (ho : OpR X (binaryOp o) (ROp X.K fun M => bopP M bo)) (ha : XE X cf a ia) (hb : XE X cf b ib) : XE X cf (.BinOp a o b pos) (.bop bo ia ib) := by
  refine pe_imp (pe_op ho ha hb) fun s H Q h => ?_
  obtain ⟨r, sg, M, z, M', hs, hh, e, q⟩ := h
  simp only [evE] at e
  split at e
  · rename_i x M1 e1
    split at e
    · rename_i y M2 e2
      exact ⟨r, sg, M, x, M1, hs, hh, e1, fun r1 u1 H1 x1 h1 v1 => ⟨r1, sg, M1, y, M2, hs.ext x1, h1, e2, fun r2 u2 H2 x2 h2 v2 =>
        ⟨r2, M2, x, y, z, M', h2, v1.ext x2, v2, e, fun r3 u3 H3 x3 h3 v3 => q r3 u3 H3 (x1.trans (x2.trans x3)) h3 v3⟩⟩⟩
    · cases e
  · cases e
theorem xe_neg (ha : XE X cf a ia) : XE X cf (.UnaryOp .USub a pos) (.neg ia) := by
  refine pe_imp (pe_un un_neg ha) fun s H Q h => ?_
  obtain ⟨r, sg, M, z, M', hs, hh, e, q⟩ := h
  simp only [evE] at e
  split at e
  · rename_i k M1 e1
    cases e
    refine ⟨r, sg, M, _, _, hs, hh, e1, fun r1 u1 H1 x1 h1 v1 => ?_⟩
    cases v1
    exact ⟨k, rfl, q r1 _ H1 x1 h1 (.int _)⟩
  · cases e
theorem cmp_inv {o : Co} {sg : Sg} {M M' : Mm} {z : PV} (e : evE cf (.cmp o ia ib) sg M = some (z, M')) : ∃ x y M1 k, evE cf ia sg M = some (x, M1) ∧ evE cf ib sg M1 = some (y, M') ∧ cmpP M' o x y = some k ∧ z = .bl k := by
  simp only [evE] at e
  split at e
  · rename_i x M1 e1
    split at e
    · rename_i y M2 e2
      obtain ⟨k, e3, e4⟩ := Option.map_eq_some_iff.mp e
      cases e4
      exact ⟨x, y, M1, k, e1, e2, e3, rfl⟩
    · cases e
  · cases e
theorem xe_cmp {o : CmpOp} {co : Co} (ho : OpR X (compareOp o) (RCm X.K fun M => cmpP M co)) (ha : XE X cf a ia) (hb : XE X cf b ib) (hm : behindInMarks o b = false) : XE X cf (.Compare a [o] [b] pos) (.cmp co ia ib) := by
  refine pe_imp (pe_cmpR ho ha hb hm) fun s H Q h => ?_
  obtain ⟨r, sg, M, z, M', hs, hh, e, q⟩ := h
  obtain ⟨x, y, M1, k, e1, e2, e3, rfl⟩ := cmp_inv e
  exact ⟨r, sg, M, x, M1, hs, hh, e1, fun r1 u1 H1 x1 h1 v1 => ⟨r1, sg, M1, y, M', hs.ext x1, h1, e2, fun r2 u2 H2 x2 h2 v2 =>
    ⟨r2, M', x, y, k, h2, v1.ext x2, v2, e3, q r2 _ H2 (x1.trans x2) h2 (.bl k)⟩⟩⟩
theorem xt_cmp {o : CmpOp} {co : Co} (ho : OpR X (compareOp o) (RCm X.K fun M => cmpP M co)) (ha : XE X cf a ia) (hb : XE X cf b ib) (hm : behindInMarks o b = false) : XT X cf (.Compare a [o] [b] pos) (.cmp co ia ib) := by
  refine pt_imp (pt_cmpR ho ha hb hm) fun s H Q h => ?_
  obtain ⟨r, sg, M, z, M', hs, hh, e, q⟩ := h
  obtain ⟨x, y, M1, k, e1, e2, e3, e4⟩ := cmp_inv e
  cases e4
  exact ⟨r, sg, M, x, M1, hs, hh, e1, fun r1 u1 H1 x1 h1 v1 => ⟨r1, sg, M1, y, M', hs.ext x1, h1, e2, fun r2 u2 H2 x2 h2 v2 =>
    ⟨r2, M', x, y, z, h2, v1.ext x2, v2, e3, z, rfl, q r2 H2 (x1.trans x2) h2⟩⟩⟩
theorem xe_chn {o o' : CmpOp} {co co' : Co} (ho : OpR X (compareOp o) (RCm X.K fun M => cmpP M co)) (ho' : OpR X (compareOp o') (RCm X.K fun M => cmpP M co')) (ha : XE X cf a ia) (hb : XE X cf b ib) (hc : XE X cf c ic)
    (hm : lastMarks [o, o'] [b, c] = false := by with_unfolding_all rfl) : XE X cf (.Compare a [o, o'] [b, c] pos) (.chn co co' ia ib ic) := by
  refine pe_imp (pe_chain ho ho' ha hb hc hm) fun s H Q h => ?_
  obtain ⟨r, sg, M, z, M', hs, hh, e, q⟩ := h
  simp only [evE] at e
  split at e
  · rename_i x M1 e1
    split at e
    · rename_i y M2 e2
      refine ⟨r, sg, M, x, M1, hs, hh, e1, fun r1 u1 H1 x1 h1 v1 => ⟨r1, sg, M1, y, M2, hs.ext x1, h1, e2, fun r2 u2 H2 x2 h2 v2 => ?_⟩⟩
      split at e
      · rename_i e3
        refine ⟨r2, M2, x, y, true, h2, v1.ext x2, v2, e3, true, rfl, iteT ?_⟩
        split at e
        · rename_i w M3 e4
          obtain ⟨k, e5, e6⟩ := Option.map_eq_some_iff.mp e
          cases e6
          exact ⟨r2, sg, M2, w, M', hs.ext (x1.trans x2), h2, e4, fun r3 u3 H3 x3 h3 v3 => ⟨r3, M', y, w, k, h3, v2.ext x3, v3, e5, q r3 _ H3 (x1.trans (x2.trans x3)) h3 (.bl k)⟩⟩
        · cases e
      · rename_i e3
        cases e
        exact ⟨r2, _, x, y, false, h2, v1.ext x2, v2, e3, false, rfl, iteF (q r2 _ H2 (x1.trans x2) h2 (.bl false))⟩
      · cases e
    · cases e
  · cases e
theorem xt_chn {o o' : CmpOp} {co co' : Co} (ho : OpR X (compareOp o) (RCm X.K fun M => cmpP M co)) (ho' : OpR X (compareOp o') (RCm X.K fun M => cmpP M co')) (ha : XE X cf a ia) (hb : XE X cf b ib) (hc : XE X cf c ic)
    (hm : lastMarks [o, o'] [b, c] = false := by with_unfolding_all rfl) : XT X cf (.Compare a [o, o'] [b, c] pos) (.chn co co' ia ib ic) := by
  refine pt_imp (pt_chain ho ho' ha hb hc hm) fun s H Q h => ?_
  obtain ⟨r, sg, M, k0, M', hs, hh, e, q⟩ := h
  simp only [evE] at e
  split at e
  · rename_i x M1 e1
    split at e
    · rename_i y M2 e2
      refine ⟨r, sg, M, x, M1, hs, hh, e1, fun r1 u1 H1 x1 h1 v1 => ⟨r1, sg, M1, y, M2, hs.ext x1, h1, e2, fun r2 u2 H2 x2 h2 v2 => ?_⟩⟩
      split at e
      · rename_i e3
        refine ⟨r2, M2, x, y, true, h2, v1.ext x2, v2, e3, true, rfl, iteT ?_⟩
        split at e
        · rename_i w M3 e4
          obtain ⟨k, e5, e6⟩ := Option.map_eq_some_iff.mp e
          cases e6
          exact ⟨r2, sg, M2, w, M', hs.ext (x1.trans x2), h2, e4, fun r3 u3 H3 x3 h3 v3 => ⟨r3, M', y, w, _, h3, v2.ext x3, v3, e5, _, rfl, q r3 H3 (x1.trans (x2.trans x3)) h3⟩⟩
        · cases e
      · rename_i e3
        cases e
        exact ⟨r2, _, x, y, false, h2, v1.ext x2, v2, e3, false, rfl, iteF ⟨_, rfl, q r2 H2 (x1.trans x2) h2⟩⟩
      · cases e
    · cases e
  · cases e
theorem xe_idx (hu : X.A.units + 64 < cLine) (ha : XE X cf a ia) (hb : XE X cf b ib) (hp : PlainIx b) : XE X cf (.Subscript a b pos) (.idx ia ib) := by
  refine pe_imp (pe_ix (ixx hu) ha hb hp) fun s H Q h => ?_
  obtain ⟨r, sg, M, z, M', hs, hh, e, q⟩ := h
  simp only [evE] at e
  split at e
  · rename_i x M1 e1
    split at e
    · rename_i y M2 e2
      obtain ⟨k, e3, e4⟩ := Option.map_eq_some_iff.mp e
      cases e4
      exact ⟨r, sg, M, x, M1, hs, hh, e1, fun r1 u1 H1 x1 h1 v1 => ⟨r1, sg, M1, y, _, hs.ext x1, h1, e2, fun r2 u2 H2 x2 h2 v2 =>
        ⟨r2, _, x, y, z, h2, v1.ext x2, v2, e3, fun u v => q r2 u H2 (x1.trans x2) h2 v⟩⟩⟩
    · cases e
  · cases e

/-! ### slices -/
def TOv (K : PySem.W.Frag) (fl : Bool) (f : Sg → Mm → R) : TO := fun s H Q => ∃ r sg M z o M', RS K r H sg s ∧ RH K r M H ∧ f sg M = some (z, M') ∧ optI fl z = some o ∧ ∀ r' H', Ext r r' H H' → RH K r' M' H' → Q o H'
theorem po_imp {o : Option Expr} {t t' : TO} (h : PO X o t) (k : ∀ s H Q, t' s H Q → t s H Q) : PO X o t' := ⟨fun pins s σ H Q I q => h.run pins s σ H Q I (k _ _ _ q)⟩
def XO (X : Cx) (cf : CF) (o : Option Expr) (fl : Bool) (i : E) : Prop := PO X o (TOv X.K fl (evE cf i))
theorem xo0 : XO X cf none false (.con .non) := by
  refine po_imp po_none fun s H Q h => ?_
  obtain ⟨r, sg, M, z, o, M', hs, hh, e, eo, q⟩ := h
  simp only [evE] at e
  cases e
  simp only [optI] at eo
  cases eo
  exact q r H .refl hh
theorem xo1 (h : XE X cf e i) : XO X cf (some e) true i := by
  refine po_imp (po_some h) fun s H Q h => ?_
  obtain ⟨r, sg, M, z, o, M', hs, hh, e, eo, q⟩ := h
  refine ⟨r, sg, M, z, M', hs, hh, e, fun r1 u1 H1 x1 h1 v1 => ?_⟩
  cases v1 with
  | int k => simp only [optI] at eo; cases eo; exact ⟨k, rfl, q r1 H1 x1 h1⟩
  | _ => simp [optI] at eo
def RSl (K : PySem.W.Frag) (fl fh : Bool) : V → Option Int → Option Int → Hp → VK → Prop := fun x lo hi H Q => ∃ r M a pl ph z M', RH K r M H ∧ RV K r H a x ∧ optI fl pl = some lo ∧ optI fh ph = some hi ∧ slcP fl fh M a pl ph = some (z, M') ∧ Post K r H z M' Q
theorem cut_ok {K : PySem.W.Frag} {r : List Addr} {H : Hp} {xs : List PV} {vs : List V} (h : RVs K r H xs vs) (lo hi : Option Int) : RVs K r H (cutP xs lo hi) (cutV vs lo hi) := by
  unfold cutP cutV
  rw [h.length]
  exact (h.drop _).take _
theorem cut_all (vs : List V) (lo hi : Option Int) (h1 : HT.sIx vs.length 0 lo = 0) (h2 : HT.sIx vs.length vs.length hi = vs.length) : cutV vs lo hi = vs := by
  unfold cutV
  rw [h1, h2]
  simp
theorem slx {fl fh : Bool} : SlR X (RSl X.K fl fh) := by
  intro pins s σ H x v vl vu lo hi sl Q I rx hs pl pu h
  obtain ⟨r, M, a, p1, p2, z, M', hh, va, o1, o2, e, q⟩ := h
  simp only [slcP, o1, o2] at e
  cases va with
  | @tup xs a1 vs ht hxs =>
    simp only at e
    cases e
    refine sl_tupA pins s σ H _ v vl vu lo hi sl Q I rx hs pl pu ⟨a1, vs, rfl, ht, fun w => ?_, fun _ p hp => q.tup hh (cut_ok hxs lo hi) hp⟩
    have w2 := cut_ok hxs lo hi
    rw [cut_all vs lo hi w.1 w.2] at w2
    exact q.here hh (.tup ht w2)
  | @ref n a1 hn =>
    simp only at e
    split at e
    · rename_i xs e1
      cases e
      obtain ⟨b1, vs, g1, g2, g3⟩ := lst_of hh e1
      rw [hn] at g1; cases g1
      exact sl_list pins s σ H _ v vl vu lo hi sl Q I rx hs pl pu ⟨a1, vs, rfl, .inl (.inl g2), fun p hp => q.lst hh (cut_ok g3 lo hi) hp⟩
    · cases e
  | _ => simp at e
theorem slc_inv {fl fh : Bool} {sg : Sg} {M M' : Mm} {z : PV} (e : evE cf (.slc fl fh i ia ib) sg M = some (z, M')) : ∃ x y w M1 M2 M3, evE cf i sg M = some (x, M1) ∧ evE cf ia sg M1 = some (y, M2) ∧ evE cf ib sg M2 = some (w, M3) ∧ slcP fl fh M3 x y w = some (z, M') := by
  simp only [evE] at e
  split at e
  · rename_i x M1 e1
    split at e
    · rename_i y M2 e2
      split at e
      · rename_i w M3 e3; exact ⟨x, y, w, M1, M2, M3, e1, e2, e3, e⟩
      · cases e
    · cases e
  · cases e
theorem slcP_opt {fl fh : Bool} {M : Mm} {x y w : PV} {z : PV × Mm} (e : slcP fl fh M x y w = some z) : (∃ o, optI fl y = some o) ∧ ∃ o, optI fh w = some o := by
  unfold slcP at e
  split at e
  · rename_i a b e1 e2; exact ⟨⟨a, e1⟩, ⟨b, e2⟩⟩
  · cases e
theorem xe_slc {fl fh : Bool} {lo hi : Option Expr} {p2 : Pos} (h : XE X cf e i) (hl : XO X cf lo fl ia) (hu : XO X cf hi fh ib) : XE X cf (.Subscript e (.Slice lo hi none p2) pos) (.slc fl fh i ia ib) := by
  refine pe_imp (pe_slice (slx (fl := fl) (fh := fh)) h hl hu) fun s H Q h => ?_
  obtain ⟨r, sg, M, z, M', hs, hh, e, q⟩ := h
  obtain ⟨x, y, w, M1, M2, M3, e1, e2, e3, e4⟩ := slc_inv e
  obtain ⟨⟨o1, p1⟩, o2, p2⟩ := slcP_opt e4
  exact ⟨r, sg, M, x, M1, hs, hh, e1, fun r1 u1 H1 x1 h1 v1 => ⟨r1, sg, M1, y, o1, M2, hs.ext x1, h1, e2, p1, fun r2 H2 x2 h2 => ⟨r2, sg, M2, w, o2, M3, hs.ext (x1.trans x2), h2, e3, p2, fun r3 H3 x3 h3 =>
    ⟨r3, M3, x, y, w, z, M', h3, v1.ext (x2.trans x3), p1, p2, e4, fun r4 u4 H4 x4 h4 v4 => q r4 u4 H4 (x1.trans (x2.trans (x3.trans x4))) h4 v4⟩⟩⟩⟩

/-! ### built-ins -/
def RCl (K : PySem.W.Frag) (f : Mm → List PV → R) : List V → Hp → VK → Prop := fun vs H Q => ∃ r M xs z M', RH K r M H ∧ RVs K r H xs vs ∧ f M xs = some (z, M') ∧ Post K r H z M' Q
theorem xe_blt {bb : B} {x : Str} {id : String} {p : Pos} {j : Es} (hc : CallR X (.builtin id) (RCl X.K fun M => bltP M bb)) (hg : Gl X x) (hm : X.mg x = none) (hv : bootBuiltins x = some (.builtin id)) (ha : XA X cf (e :: es) j)
    (hn : x ≠ "__name__" := by decide) (hdb : (x == ("__debug__" : Str)) = false := by decide)
    (he : starEach (e :: es) X.env = (false, eval e X.env) :: starEach es X.env := by rfl) (hpl : (backTo pos (starEach es X.env)).any (·.1) = false := by rfl) : XE X cf (.Call (.Name x p) (e :: es) [] pos) (.blt bb j) := by
  refine pe_imp (pe_callB hc hg hm hv ha hn hdb he hpl) fun s H Q h => ?_
  obtain ⟨r, sg, M, z, M', hs, hh, e, q⟩ := h
  simp only [evE] at e
  split at e
  · rename_i xs M1 e1
    exact ⟨r, sg, M, xs, M1, hs, hh, e1, fun r1 us H1 x1 h1 v1 => ⟨r1, M1, xs, z, M', h1, v1, e, fun r2 u2 H2 x2 h2 v2 => q r2 u2 H2 (x1.trans x2) h2 v2⟩⟩
  · cases e
theorem xe_bty {bb : B} {x : Str} {T : String} {p : Pos} {j : Es} (hc : CallR X (.type T) (RCl X.K fun M => bltP M bb)) (hg : Gl X x) (hm : X.mg x = none) (hv : bootBuiltins x = some (.type T)) (ha : XA X cf (e :: es) j)
    (hn : x ≠ "__name__" := by decide) (hdb : (x == ("__debug__" : Str)) = false := by decide)
    (he : starEach (e :: es) X.env = (false, eval e X.env) :: starEach es X.env := by rfl) (hpl : (backTo pos (starEach es X.env)).any (·.1) = false := by rfl) : XE X cf (.Call (.Name x p) (e :: es) [] pos) (.blt bb j) := by
  refine pe_imp (pe_callTy hc hg hm hv ha hn hdb he hpl) fun s H Q h => ?_
  obtain ⟨r, sg, M, z, M', hs, hh, e, q⟩ := h
  simp only [evE] at e
  split at e
  · rename_i xs M1 e1
    exact ⟨r, sg, M, xs, M1, hs, hh, e1, fun r1 us H1 x1 h1 v1 => ⟨r1, M1, xs, z, M', h1, v1, e, fun r2 u2 H2 x2 h2 v2 => q r2 u2 H2 (x1.trans x2) h2 v2⟩⟩
  · cases e
theorem cl_len : CallR X (.builtin "len") (RCl X.K fun M => bltP M .len) := by
  intro pins s σ H vs us Q I rv h
  obtain ⟨r, M, xs, z, M', hh, hv, e, q⟩ := h
  cases hv with
  | nil => simp [bltP] at e
  | @cons x xs v vs hx hv =>
    cases hv with
    | cons _ _ => simp [bltP] at e
    | nil =>
      cases hx with
      | str zz =>
        simp only [bltP] at e
        split at e
        · rename_i hl; cases e; exact call_len_str pins s σ H _ us Q I rv ⟨zz, rfl, hl, q.here hh (.int _)⟩
        · cases e
      | @tup ys a vs ht hys =>
        simp only [bltP] at e
        cases e
        refine call_len_seq pins s σ H _ us Q I rv ⟨a, vs, rfl, .inr ht, ?_⟩
        rw [← hys.length]
        exact q.here hh (.int _)
      | @cl ns a hc =>
        simp only [bltP] at e
        cases e
        refine call_len_seq pins s σ H _ us Q I rv ⟨a, _, rfl, .inl hc.sq, ?_⟩
        rw [List.length_map]
        exact q.here hh (.int _)
      | @ref n a hn =>
        simp only [bltP] at e
        split at e
        · rename_i ys e1
          cases e
          obtain ⟨b1, g1, vs, g2, g3⟩ := hh.at e1
          rw [hn] at g1; cases g1
          refine call_len_seq pins s σ H _ us Q I rv ⟨a, vs, rfl, .inl (.inl (.inl g2)), ?_⟩
          rw [← g3.length]
          exact q.here hh (.int _)
        · rename_i ys e1
          cases e
          obtain ⟨vs, g2, g3, g4⟩ := dic_of hh e1 hn
          refine call_lenD pins s σ H _ us Q I rv ⟨a, vs, rfl, g2, ?_⟩
          have : vs.length = ys.length := by
            have := congrArg List.length g3
            simpa using this
          rw [this]
          exact q.here hh (.int _)
        · cases e
      | _ => simp [bltP] at e
theorem one_inv {bb : B} {K : PySem.W.Frag} {r : List Addr} {H : Hp} {xs : List PV} {vs : List V} (h : RVs K r H xs vs) {x : PV} (e : xs = [x]) : ∃ v, vs = [v] ∧ RV K r H x v := by
  subst e
  cases h with
  | cons h hs => cases hs; exact ⟨_, rfl, h⟩
theorem cl_int : CallR X (.type "int") (RCl X.K fun M => bltP M .int) := by
  intro pins s σ H vs us Q I rv h
  obtain ⟨r, M, xs, z, M', hh, hv, e, q⟩ := h
  cases hv with
  | nil => simp [bltP] at e
  | @cons x xs v vs hx hv =>
    cases hv with
    | cons _ _ => cases x <;> simp [bltP] at e
    | nil =>
      cases hx with
      | int k => simp only [bltP] at e; cases e; exact call_int1 pins s σ H _ us Q I rv (.inl ⟨k, rfl, q.here hh (.int _)⟩)
      | bl k => simp only [bltP] at e; cases e; exact call_int1 pins s σ H _ us Q I rv (.inr ⟨k, rfl, q.here hh (.int _)⟩)
      | _ => simp [bltP] at e
theorem cl_abs : CallR X (.builtin "abs") (RCl X.K fun M => bltP M .abs) := by
  intro pins s σ H vs us Q I rv h
  obtain ⟨r, M, xs, z, M', hh, hv, e, q⟩ := h
  cases hv with
  | nil => simp [bltP] at e
  | @cons x xs v vs hx hv =>
    cases hv with
    | cons _ _ => cases x <;> simp [bltP] at e
    | nil =>
      cases hx with
      | int k => simp only [bltP] at e; cases e; exact call_abs pins s σ H _ us Q I rv ⟨k, rfl, q.here hh (.int _)⟩
      | _ => simp [bltP] at e
theorem cl_min2 (hc : X.calm = true) : CallR X (.builtin "min") (RCl X.K fun M => bltP M .min2) := by
  intro pins s σ H vs us Q I rv h
  obtain ⟨r, M, xs, z, M', hh, hv, e, q⟩ := h
  match xs, hv, e with
  | [.int i, .int j], hv, e =>
    cases hv with
    | cons h1 hv2 =>
      cases hv2 with
      | cons h2 hv3 =>
        cases hv3
        cases h1
        cases h2
        simp only [bltP] at e
        obtain ⟨rfl, rfl⟩ := Prod.mk.inj (Option.some.inj e)
        exact call_min2 hc pins s σ H _ us Q I rv ⟨i, j, rfl, q.here hh (.int _)⟩
theorem bls_ok {K : PySem.W.Frag} {r : List Addr} {H : Hp} : ∀ {xs : List PV} {vs : List V} {bs : List Bool}, RVs K r H xs vs → blsOf xs = some bs → vs = bs.map V.bl
  | [], _, _, .nil, e => by simp [blsOf] at e; subst e; rfl
  | x :: xs, _, _, .cons h hs, e => by
    cases x with
    | bl b =>
      simp only [blsOf] at e
      obtain ⟨bs, e1, rfl⟩ := Option.map_eq_some_iff.mp e
      cases h
      rw [bls_ok hs e1]
      rfl
    | _ => simp [blsOf] at e
theorem ints_ok {K : PySem.W.Frag} {r : List Addr} {H : Hp} : ∀ {xs : List PV} {vs : List V} {bs : List Int}, RVs K r H xs vs → intsOf xs = some bs → vs = bs.map V.int
  | [], _, _, .nil, e => by simp [intsOf] at e; subst e; rfl
  | x :: xs, _, _, .cons h hs, e => by
    cases x with
    | int b =>
      simp only [intsOf] at e
      obtain ⟨bs, e1, rfl⟩ := Option.map_eq_some_iff.mp e
      cases h
      rw [ints_ok hs e1]
      rfl
    | _ => simp [intsOf] at e
theorem ints_rv {K : PySem.W.Frag} {r : List Addr} {H : Hp} : ∀ ns : List Int, RVs K r H (ns.map PV.int) (ns.map V.int)
  | [] => .nil
  | n :: ns => .cons (.int n) (ints_rv ns)
theorem cl_all_ (hc : X.calm = true) : CallR X (.builtin "all") (RCl X.K fun M => bltP M .all) := by
  intro pins s σ H vs us Q I rv h
  obtain ⟨r, M, xs, z, M', hh, hv, e, q⟩ := h
  match xs, hv, e with
  | [.ref n], hv, e =>
    obtain ⟨v, rfl, hv1⟩ := one_inv (bb := .all) hv rfl
    simp only [bltP] at e
    obtain ⟨bs, e1, e2⟩ := Option.map_eq_some_iff.mp e
    obtain ⟨ys, e3, e4⟩ := Option.bind_eq_some_iff.mp e1
    cases e2
    obtain ⟨a, ws, g1, g2, g3⟩ := lst_of hh e3
    have := hv1.refAt g1
    subst this
    rw [bls_ok g3 e4] at g2
    exact cr_all hc pins s σ H _ us Q I rv ⟨a, bs, rfl, .inl (.inl g2), q.here hh (.bl _)⟩
theorem cl_any_ (hc : X.calm = true) : CallR X (.builtin "any") (RCl X.K fun M => bltP M .any) := by
  intro pins s σ H vs us Q I rv h
  obtain ⟨r, M, xs, z, M', hh, hv, e, q⟩ := h
  match xs, hv, e with
  | [.ref n], hv, e =>
    obtain ⟨v, rfl, hv1⟩ := one_inv (bb := .all) hv rfl
    simp only [bltP] at e
    obtain ⟨bs, e1, e2⟩ := Option.map_eq_some_iff.mp e
    obtain ⟨ys, e3, e4⟩ := Option.bind_eq_some_iff.mp e1
    cases e2
    obtain ⟨a, ws, g1, g2, g3⟩ := lst_of hh e3
    have := hv1.refAt g1
    subst this
    rw [bls_ok g3 e4] at g2
    exact cr_any hc pins s σ H _ us Q I rv ⟨a, bs, rfl, .inl (.inl g2), q.here hh (.bl _)⟩
theorem cl_sum (hc : X.calm = true) : CallR X (.builtin "sum") (RCl X.K fun M => bltP M .sum) := by
  intro pins s σ H vs us Q I rv h
  obtain ⟨r, M, xs, z, M', hh, hv, e, q⟩ := h
  match xs, hv, e with
  | [.ref n], hv, e =>
    obtain ⟨v, rfl, hv1⟩ := one_inv (bb := .all) hv rfl
    simp only [bltP] at e
    obtain ⟨bs, e1, e2⟩ := Option.map_eq_some_iff.mp e
    obtain ⟨ys, e3, e4⟩ := Option.bind_eq_some_iff.mp e1
    cases e2
    obtain ⟨a, ws, g1, g2, g3⟩ := lst_of hh e3
    have := hv1.refAt g1
    subst this
    rw [ints_ok g3 e4] at g2
    exact cr_sum hc pins s σ H _ us Q I rv ⟨a, bs, rfl, .inl (.inl g2), q.here hh (.int _)⟩
theorem cl_tuple : CallR X (.type "tuple") (RCl X.K fun M => bltP M .tuple) := by
  intro pins s σ H vs us Q I rv h
  obtain ⟨r, M, xs, z, M', hh, hv, e, q⟩ := h
  match xs, hv, e with
  | [.ref n], hv, e =>
    obtain ⟨v, rfl, hv1⟩ := one_inv (bb := .all) hv rfl
    simp only [bltP] at e
    obtain ⟨ys, e3, e2⟩ := Option.map_eq_some_iff.mp e
    cases e2
    obtain ⟨a, ws, g1, g2, g3⟩ := lst_of hh e3
    have := hv1.refAt g1
    subst this
    exact call_tuple_of pins s σ H _ us Q I rv ⟨a, ws, rfl, .inl ⟨.inl (.inl g2), fun p hp => q.tup hh g3 hp⟩⟩
  | [.tup ys], hv, e =>
    obtain ⟨v, rfl, hv1⟩ := one_inv (bb := .all) hv rfl
    simp only [bltP] at e
    cases e
    cases hv1 with
    | @tup _ a ws ht hs => exact call_tuple_of pins s σ H _ us Q I rv ⟨a, ws, rfl, .inr ⟨ht, q.here hh (.tup ht hs)⟩⟩
theorem cl_list : CallR X (.type "list") (RCl X.K fun M => bltP M .list) := by
  intro pins s σ H vs us Q I rv h
  obtain ⟨r, M, xs, z, M', hh, hv, e, q⟩ := h
  match xs, hv, e with
  | [x], hv, e =>
    obtain ⟨v, rfl, hv1⟩ := one_inv (bb := .all) hv rfl
    simp only [bltP] at e
    obtain ⟨ys, e3, e2⟩ := Option.map_eq_some_iff.mp e
    cases e2
    cases hv1 with
    | @tup ws a vs ht hs => simp only [seqOf] at e3; cases e3; exact call_list_of pins s σ H _ us Q I rv ⟨a, vs, rfl, .inr ht, fun p hp => q.lst hh hs hp⟩
    | @ref n a hn =>
      simp only [seqOf] at e3
      obtain ⟨a', ws, g1, g2, g3⟩ := lst_of hh e3
      rw [hn] at g1; cases g1
      exact call_list_of pins s σ H _ us Q I rv ⟨a, ws, rfl, .inl (.inl (.inl g2)), fun p hp => q.lst hh g3 hp⟩
    | @cl ns a hc => simp only [seqOf] at e3; cases e3; exact call_list_of pins s σ H _ us Q I rv ⟨a, _, rfl, .inl hc.sq, fun p hp => q.lst hh (ints_rv ns) hp⟩
    | _ => simp [seqOf] at e3
theorem insI_perm (i : Int) : ∀ ns, (insI i ns).Perm (i :: ns)
  | [] => .refl _
  | j :: r => by
    unfold insI
    split
    · exact .refl _
    · exact ((insI_perm i r).cons j).trans (.swap i j r)
theorem sortI_perm : ∀ ns, (sortI ns).Perm ns
  | [] => .refl _
  | i :: r => (insI_perm i (sortI r)).trans ((sortI_perm r).cons i)
theorem insI_sorted (i : Int) : ∀ ns : List Int, ns.Pairwise (· ≤ ·) → (insI i ns).Pairwise (· ≤ ·)
  | [], _ => by simp [insI]
  | j :: r, h => by
    unfold insI
    rw [List.pairwise_cons] at h
    split
    · rename_i hij
      refine List.pairwise_cons.mpr ⟨fun y hy => ?_, List.pairwise_cons.mpr h⟩
      rcases List.mem_cons.mp hy with rfl | hy
      · exact hij
      · have := h.1 y hy; omega
    · rename_i hij
      refine List.pairwise_cons.mpr ⟨fun y hy => ?_, insI_sorted i r h.2⟩
      rcases List.mem_cons.mp ((insI_perm i r).mem_iff.mp hy) with rfl | hy
      · omega
      · exact h.1 y hy
theorem sortI_sorted : ∀ ns : List Int, (sortI ns).Pairwise (· ≤ ·)
  | [] => by simp [sortI]
  | i :: r => insI_sorted i _ (sortI_sorted r)
theorem sortI_uniq {ns ns' : List Int} (p : ns'.Perm ns) (s : ns'.Pairwise (· ≤ ·)) : ns' = sortI ns :=
  PySem.W.ksm_same (p.trans (sortI_perm ns).symm) s (sortI_sorted ns)
theorem keysI_ok : ∀ {kvs : List (Key × PV)} {ns : List Int}, keysI kvs = some ns → kvs.map (·.1) = ns.map Sum.inl
  | [], _, e => by simp [keysI] at e; subst e; rfl
  | (.inl i, v) :: r, _, e => by
    simp only [keysI] at e
    obtain ⟨ns, e1, rfl⟩ := Option.map_eq_some_iff.mp e
    simp [keysI_ok e1]
  | (.inr i, v) :: r, _, e => by simp [keysI] at e
theorem cl_sorted (hc : X.calm = true) : CallR X (.builtin "sorted") (RCl X.K fun M => bltP M .sorted) := by
  intro pins s σ H vs us Q I rv h
  obtain ⟨r, M, xs, z, M', hh, hv, e, q⟩ := h
  match xs, hv, e with
  | [.ref n], hv, e =>
    obtain ⟨v, rfl, hv1⟩ := one_inv (bb := .all) hv rfl
    simp only [bltP] at e
    split at e
    · rename_i ys e0
      obtain ⟨ns, e1, e2⟩ := Option.bind_eq_some_iff.mp e
      split at e2
      · rename_i hl
        cases e2
        obtain ⟨a, g1, ws, g2, g3⟩ := hh.at e0
        have := hv1.refAt g1
        subst this
        rw [ints_ok g3 e1] at g2
        refine cr_sorted pins s σ H _ us Q I rv ⟨a, ns, rfl, .inl (.inl g2), hl, fun ns' p pm so hp => ?_⟩
        rw [sortI_uniq pm so]
        exact q.lst hh (ints_rv _) hp
      · cases e2
    · rename_i kvs e0
      obtain ⟨ns, e1, e2⟩ := Option.bind_eq_some_iff.mp e
      split at e2
      · rename_i hl
        cases e2
        obtain ⟨a, g1, g⟩ := hh.at e0
        have := hv1.refAt g1
        subst this
        obtain ⟨ws, g2, g3, g4⟩ := g
        refine call_sortedDI hc pins s σ H _ us Q I rv ⟨a, ws, ns, rfl, .inl g2, by rw [g3]; exact keysI_ok e1, hl, fun ns' p pm so hp => ?_⟩
        rw [sortI_uniq pm so]
        exact q.lst hh (ints_rv _) hp
      · cases e2
    · cases e
end
end Mp

/-! MpEnum: enumerate over a tuple. -/
namespace Mp
open PySem L2
open PySem.Sem (wp)
open PySem.AutoSeq1 (wpAny_loadPart')

theorem meets_enum_newT (l : Addr) (items : Array Value) (n : Nat) (dct : Option Addr) (sl : Array (Option Value)) :
    Meets (Builtin.«enumerate.__new__» ⟨[.type "enumerate", .ref l], []⟩) (fun _ R s => s.heap.get? l = some { cls := .type "tuple", dict := dct, data := .seq items n, slots := sl } ∧
      R (.ok (.ret (.ref (s.heap.push { cls := .type "tuple_iterator", data := .fields #[.ref l, .int 0 0] }).objs.size)))
        { s with heap := (s.heap.push { cls := .type "tuple_iterator", data := .fields #[.ref l, .int 0 0] }).push { cls := .type "enumerate", data := .fields #[.none, .bool false, .ref s.heap.objs.size, rawInt 0, .none, .none] } }) :=
  .of_wp fun prog w A R s h => by
    obtain ⟨hp, g, d, tk, os⟩ := s
    obtain ⟨hl, h⟩ := h
    have hsub := sub_enumerate
    have hL : Heap.IsTuple (Shared.heap ⟨hp, g, d, tk, os⟩) l items := ⟨_, hl, rfl, n, rfl⟩
    wp_walk using wpAny_loadPart' hl
    refine wpAny_stack_any fun st => wpAny_pure ?_
    split
    · rename_i c _ _ _ _ _
      cases (c == Value.type "enumerate")
      · wp_walk using wpAny_loadPart' hl, wpAny_pyIter_tuple hL
        exact ⟨_, rfl, h⟩
      · wp_walk using wpAny_loadPart' hl, wpAny_pyIter_tuple hL
        exact ⟨_, rfl, h⟩
    · wp_walk using wpAny_loadPart' hl, wpAny_pyIter_tuple hL
      exact ⟨_, rfl, h⟩

theorem call_enum_tuple {prog : Program} {w : World} {A : Around} {E : Value → Shared → Prop} {s : Shared} {l : Addr} {items : Array Value} {Q : Value → Shared → Prop} (hL : s.heap.IsTuple l items)
    (h : ∀ h', IsEnum h' (s.heap.objs.size + 1) s.heap.objs.size 0 .none → h'.IsTupleIter s.heap.objs.size l 0 → h'.objs.size = s.heap.objs.size + 2 →
      (∀ b o, s.heap.get? b = some o → h'.get? b = some o) → Q (.ref (s.heap.objs.size + 1)) { s with heap := h' }) :
    wpAny (model prog w) A (call (.type "enumerate") [.ref l]) Q E s := by
  obtain ⟨⟨c, dct, dt, sl⟩, hl, hc, n, hd⟩ := hL
  replace hc : c = .type "tuple" := hc
  replace hd : dt = .seq items n := hd
  subst hc hd
  refine callType_new F.called_enumerate (by decide) (F.typeCall_enumerate_1 _) (F.newCall_enumerate_1 _) (fun obj => F.args_object_init_2 obj _) F.entry_enumerate_new
    (meets_enum_newT l items n dct sl) ⟨hl, ?_⟩
  have hz : (s.heap.push { cls := .type "tuple_iterator", data := .fields #[.ref l, .int 0 0] }).objs.size = s.heap.objs.size + 1 := Heap.size_push ..
  show _ ∧ _
  rw [hz]
  have he : IsEnum ((s.heap.push { cls := .type "tuple_iterator", data := .fields #[.ref l, .int 0 0] }).push
      { cls := .type "enumerate", data := .fields #[.none, .bool false, .ref s.heap.objs.size, rawInt 0, .none, .none] }) (s.heap.objs.size + 1) s.heap.objs.size 0 .none := by
    have := Heap.get?_push_size (s.heap.push { cls := .type "tuple_iterator", data := .fields #[.ref l, .int 0 0] })
      (o := { cls := .type "enumerate", data := .fields #[.none, .bool false, .ref s.heap.objs.size, rawInt 0, .none, .none] }) rfl
    rw [hz] at this; exact this
  refine ⟨⟨_, he, rfl⟩, h _ he ⟨_, Heap.get?_push_of_some _ (Heap.get?_push_size _ rfl), rfl, rfl⟩ (by rw [Heap.size_push, hz]) fun b o x => Heap.get?_push_of_some _ (Heap.get?_push_of_some _ x)⟩

def IteT (K : PySem.W.Frag) (a : Addr) : L2.It :=
  ⟨fun i H => ∃ (xs : List V) (x : V), SqT K H a xs ∧ xs[i]? = some x, fun i H v H' => ∃ T x, v = .ref T ∧ H T = none ∧ H' = upd H T (.tup [.int (i : Nat), x]) ∧ ∀ xs, SqT K H a xs → xs[i]? = some x, fun i H => ∃ xs : List V, SqT K H a xs ∧ xs.length ≤ i⟩
theorem turn_enumT {P : Program} {w : World} {K : PySem.W.Frag} {elts : List Expr} {kk : Nat} {tpos : Pos} (a e it : Addr) (hai : a ≠ it) (hae : e ≠ a) :
    Turn P w K (.Tuple elts kk tpos) (IteT K a) [e, it] e (fun i h => (∃ old, IsEnum h e it ((i : Nat) : Int) old) ∧ h.IsTupleIter it a i ∧ e ≠ it) where
  mem := by simp
  obj := fun i h st b hb => by
    obtain ⟨⟨old, he⟩, ⟨o, ho, hc, hd⟩, _⟩ := st
    have e' : b = e ∨ b = it := by simpa using hb
    rcases e' with z | z
    · rw [z]; exact ⟨_, he, fun v q => nomatch q⟩
    · rw [z]; exact ⟨o, ho, fun v q => by rw [hd] at q; cases q⟩
  keep := fun i h h' st k => let ⟨⟨old, he⟩, hi, hne⟩ := st; ⟨⟨old, k e (by simp) _ he⟩, hi.at fun o q => k it (by simp) o q, hne⟩
  item := by
    intro X hP hw hK hc i pins s σ H E I hf st hg
    subst hP hw hK
    obtain ⟨⟨old, he⟩, hit, hne⟩ := st
    obtain ⟨xs, x, hq, hx⟩ := hg
    obtain ⟨its, rv, p, hz⟩ := I.tuple hq
    obtain ⟨u, hu, ru⟩ := rv.get hx
    have hel : e < s.heap.objs.size := Heap.lt_size he
    have hil : it < s.heap.objs.size := by obtain ⟨_, q, _⟩ := hit; exact Heap.lt_size q
    have hsz : i < its.toArray.size := by
      have := (List.getElem?_eq_some_iff.mp hu).1
      simpa using this
    refine wpAny_pyNext_enum_itemD (Draws.tuple (A := X.A.in1) (I.ok.hd hc) it a hai its.toArray) he ⟨hit, p⟩ hsz hne (by simp [hne, hae]) fun y h' tk hy ho hit' hT hsz hk => ?_
    have hyu : y = u := by
      have : its.toArray[i]? = some u := by simpa using hu
      rw [this] at hy
      exact (Option.some.inj hy).symm
    subst hyu
    refine ⟨_, rfl, wpAny_letOwnedTupleGo_enum (s := { s with heap := h', toks := tk + 1 }) ho fun h'' he' sb => ?_⟩
    have hT2 : h''.get? s.heap.objs.size = some { cls := .type "tuple", data := .seq #[.int i tk, y] } := (sb.2 _ (Nat.ne_of_gt hel)).trans hT
    have new : ObjOk X.prog X.w (upd H s.heap.objs.size (.tup [.int (i : Nat), x])) h'' s.heap.objs.size (.tup [.int (i : Nat), x]) :=
      ⟨by show 2 ≤ sizeLine; decide, [.int i tk, y], .cons ⟨_, rfl⟩ (.cons ru .nil), ⟨_, hT2, rfl, _, rfl⟩⟩
    have I1 : Inv X pins σ (upd H s.heap.objs.size (.tup [.int (i : Nat), x])) { s with heap := h'', toks := tk + 1 } :=
      I.turnedNew (ch := [e, it]) (fun b ob hb q => (sb.2 b (fun z => hb (by simp [z]))).trans (hk b ob (fun z => hb (by simp [z])) (fun z => hb (by simp [z])) q)) hf (Nat.le_refl _) new
    refine ⟨.ref s.heap.objs.size, _, I1, rfl, ⟨_, x, rfl, I.hok.fresh (Nat.le_refl _), rfl, fun ys hy => by rw [I.tuple_inj hy hq]; exact hx⟩, ⟨⟨y, ?_⟩, hit'.1.at fun o q => (sb.2 it (Ne.symm hne)).trans q, hne⟩, fun b hb => ?_⟩
    · have e1 : ((i + 1 : Nat) : Int) = (i : Int) + 1 := by omega
      rw [e1]; exact he'
    · have hb' : b < s.heap.objs.size := by
        have e' : b = e ∨ b = it := by simpa using hb
        rcases e' with z | z
        · rw [z]; exact hel
        · rw [z]; exact hil
      rw [upd_ne (Nat.ne_of_lt hb')]
      exact (hf b hb).1
  done := by
    intro X hP hw hK hc i pins s σ H E I hf st hg
    subst hP hw hK
    obtain ⟨⟨old, he⟩, hit, hne⟩ := st
    obtain ⟨xs, hq, hx⟩ := hg
    obtain ⟨its, rv, p, hz⟩ := I.tuple hq
    obtain ⟨f0, f1, f2, f3, f4, f5⟩ := hf it (by simp)
    have hl := rv.length
    have hT : s.TypeIs (.ref e) "enumerate" := ⟨_, he, rfl⟩
    unfold pyNext
    refine wpAny_bind (wpAny_attempt (wpAny_callSpecial?_slot (name := Str.ofString "__next__") hT F.slot_enumerate_next
      (wpAny_call_entry F.slot_enumerate_next hT F.entry_enumerate_next ?_ (F.args_enumerate_next_1 _))))
    show wpAny _ _ (field (.ref e) 2 >>= _) _ _ _
    refine wpAny_bind (wpAny_field he rfl (x := .ref it) rfl ?_)
    refine wpAny_bind (PySem.wpAny_nextOf_tuple_end (I.ok.hd hc) hit (show s.heap.IsTuple a its.toArray from p) (by simp; omega) fun h' x he' hx' => ?_)
    obtain ⟨o, ho, hc⟩ := hx'
    refine wpAny_bind (wpAny_isInstance (T := "StopIteration") (b := true) ⟨o, ho, hc⟩ isSubtype_stop ?_)
    exact wpAny_pure ⟨rfl, I.turned (t' := s.toks) (fun b o hb q => he' b o hb q) f0 f1 f3 f4 f5⟩
  self := fun A i s Q E st h => let ⟨⟨_, he⟩, _⟩ := st; wpAny_pyIter_enum he h
def iEnumT (K : PySem.W.Frag) (ta : TA) : TI := fun σ H R => ta σ H fun vs H1 => ∃ a xs, vs = [.ref a] ∧ ((SqL K H1 a xs ∧ R (Ite K a) H1) ∨ (SqT K H1 a xs ∧ R (IteT K a) H1))
theorem pi_enumA {X : Cx} {e : Expr} {ta : TA} {p pos tpos : Pos} {elts : List Expr} {kk : Nat} (hg : Gl X "enumerate") (hm : X.mg "enumerate" = none) (ha : PA X [e] ta) (hs : starEach [e] X.env = [(false, eval e X.env)] := by rfl) :
    PI X (.Tuple elts kk tpos) (.Call (.Name "enumerate" p) [e] [] pos) (iEnumT X.K ta) := by
  refine ⟨fun pins s σ H R I h => ?_⟩
  refine PyProof.Rows.Call_ (ld_blt I hg hm PyProof.Rows.boot_enumerate (PyProof.Rows.callWith_type1 (thn (ha.run pos pins s σ H _ I h) fun us s1 ⟨vs, H1, I1, r1, q1⟩ => ?_) hs rfl))
  obtain ⟨a, xs, ex, q⟩ := q1
  subst ex
  cases r1 with
  | cons r rr =>
    cases rr
    cases r
    have fp : ∀ b, b ∈ [s1.heap.objs.size + 1, s1.heap.objs.size] → FpOk X pins H1 b := fun b hb => by
      have e' : b = s1.heap.objs.size + 1 ∨ b = s1.heap.objs.size := by simpa using hb
      have hle : s1.heap.objs.size ≤ b := by
        rcases e' with z | z
        · rw [z]; exact Nat.le_add_right _ _
        · rw [z]; exact Nat.le_refl _
      exact I1.fpOk hle (I1.hok.fresh hle)
    rcases q with ⟨hq, q⟩ | ⟨hq, q⟩
    · obtain ⟨its, rv, p', hz⟩ := I1.list hq
      refine call_enumerate_list p'.isList fun h' he hit hsz hk => wpAny_pyIter_enum he ?_
      have I2 : Inv X pins σ H1 { s1 with heap := h' } := I1.kept (t' := s1.toks) hk
      exact ⟨s1.heap.objs.size + 1, [s1.heap.objs.size + 1, s1.heap.objs.size], _, _, H1, rfl, I2, turn_enum a (s1.heap.objs.size + 1) s1.heap.objs.size, ⟨⟨.none, he⟩, hit, Nat.succ_ne_self _⟩, fp, q⟩
    · obtain ⟨its, rv, p', hz⟩ := I1.tuple hq
      have hlt : a < s1.heap.objs.size := by obtain ⟨o, ho, _⟩ := p'; exact Heap.lt_size ho
      refine call_enum_tuple (show s1.heap.IsTuple a its.toArray from p') fun h' he hit hsz hk => wpAny_pyIter_enum he ?_
      have I2 : Inv X pins σ H1 { s1 with heap := h' } := I1.kept (t' := s1.toks) hk
      exact ⟨s1.heap.objs.size + 1, [s1.heap.objs.size + 1, s1.heap.objs.size], _, _, H1, rfl, I2, turn_enumT a (s1.heap.objs.size + 1) s1.heap.objs.size (Nat.ne_of_lt hlt) (Nat.ne_of_gt (Nat.lt_succ_of_lt hlt)), ⟨⟨.none, he⟩, hit, Nat.succ_ne_self _⟩, fp, q⟩
end Mp

/-! Mp3d: targets, what is walked, loops, comprehensions. -/
namespace Mp
open PySem L2

/-! ### targets -/
def gsOf : List Nat → TGs
  | [] => gNil
  | i :: is => gCons (gName i) (gsOf is)
def gOf (K : PySem.W.Frag) : Tg → TG
  | .name i => gName i
  | .tup is => gTup K is.length (gsOf is)
  | .nst i is => gTup K 2 (gCons (gName i) (gCons (gTup K is.length (gsOf is)) gNil))
def Tg.ixs : Tg → List Nat
  | .name i => [i]
  | .tup is => is
  | .nst i is => i :: is
def XG (X : Cx) (tg : Expr) (t : Tg) : Prop := PG X tg (gOf X.K t)
theorem wipe_set1 (s : L2.St) (i : Nat) (x : Option V) : ∀ vs : List Nat, (wipe (s.set i x) vs).set i none = (wipe s vs).set i none
  | [] => by show (s.set i x).set i none = s.set i none; rw [List.set_set]
  | v :: vs => by
    show ((wipe (s.set i x) vs).set v none).set i none = ((wipe s vs).set v none).set i none
    by_cases h : v = i
    · subst h
      rw [List.set_set, List.set_set]
      exact wipe_set1 s v x vs
    · rw [List.set_comm _ _ h, List.set_comm _ _ h, wipe_set1 s i x vs]
theorem wipe_set (s : L2.St) (i : Nat) (x : Option V) : ∀ vs : List Nat, i ∈ vs → wipe (s.set i x) vs = wipe s vs
  | v :: vs, h => by
    show (wipe (s.set i x) vs).set v none = (wipe s vs).set v none
    rcases List.mem_cons.mp h with e | h
    · subst e; exact wipe_set1 s i x vs
    · rw [wipe_set s i x vs h]
theorem wipe_same (s : L2.St) : ∀ vs : List Nat, wipe (wipe s vs) vs = wipe s vs
  | [] => rfl
  | v :: vs => by
    show (wipe ((wipe s vs).set v none) vs).set v none = (wipe s vs).set v none
    rw [wipe_set1, wipe_same s vs]
section
variable {K : PySem.W.Frag} {r : List Addr} {H : Hp}
theorem gs_run {Q : L2.St → Hp → Prop} : ∀ {is : List Nat} {ps : List PV} {xs : List V} {sg sg' : Sg} {s : L2.St}, RS K r H sg s → RVs K r H ps xs → setAll is ps sg = some sg' →
    (∀ s', RS K r H sg' s' → (∀ vs, (∀ i ∈ is, i ∈ vs) → wipe s' vs = wipe s vs) → Q s' H) → gsOf is xs s H Q
  | [], [], _, sg, sg', s, hs, .nil, e, q => by
    simp only [setAll] at e
    cases e
    exact ⟨rfl, q s hs fun _ _ => rfl⟩
  | i :: is, p :: ps, _, sg, sg', s, hs, .cons h hr, e, q => by
    simp only [setAll] at e
    exact ⟨_, _, rfl, gs_run (hs.set i h) hr e fun s' h1 h2 => q s' h1 fun vs hv => by
      rw [h2 vs fun j hj => hv j (List.mem_cons_of_mem _ hj)]
      exact wipe_set s i _ vs (hv i List.mem_cons_self)⟩
  | [], _ :: _, _, _, _, _, _, _, e, _ => by simp [setAll] at e
  | _ :: _, [], _, _, _, _, _, _, e, _ => by simp [setAll] at e
theorem setAll_len : ∀ {is : List Nat} {ps : List PV} {sg sg' : Sg}, setAll is ps sg = some sg' → is.length = ps.length
  | [], [], _, _, _ => rfl
  | _ :: is, _ :: ps, sg, sg', e => by
    simp only [setAll] at e
    simp [setAll_len e]
  | [], _ :: _, _, _, e => by simp [setAll] at e
  | _ :: _, [], _, _, e => by simp [setAll] at e
theorem tgP_nst {i : Nat} {is : List Nat} {p : PV} {sg sg' : Sg} (h : tgP (.nst i is) p sg = some sg') : ∃ y zs, p = .tup [y, .tup zs] ∧ setAll is zs (sg.set i (some y)) = some sg' := by
  unfold tgP at h
  split at h
  · rename_i h1; cases h1
  · rename_i h1; cases h1
  · rename_i h1; cases h1; exact ⟨_, _, rfl, h⟩
  · cases h
theorem g_run {Q : L2.St → Hp → Prop} {t : Tg} {p : PV} {x : V} {sg sg' : Sg} {s : L2.St} (hs : RS K r H sg s) (h : RV K r H p x) (e : tgP t p sg = some sg')
    (q : ∀ s', RS K r H sg' s' → (∀ vs, (∀ i ∈ t.ixs, i ∈ vs) → wipe s' vs = wipe s vs) → Q s' H) : gOf K t x s H Q := by
  cases t with
  | name i =>
    simp only [tgP] at e
    cases e
    exact q _ (hs.set i h) fun vs hv => wipe_set s i _ vs (hv i (by simp [Tg.ixs]))
  | tup is =>
    cases h with
    | @tup ps a xs h1 h2 =>
      simp only [tgP] at e
      exact ⟨a, xs, rfl, h1, by rw [← h2.length, setAll_len e], gs_run hs h2 e q⟩
    | _ => simp [tgP] at e
  | nst i is =>
    obtain ⟨y, zs, rfl, e⟩ := tgP_nst e
    cases h with
    | @tup _ a xs h1 h2 =>
      cases h2 with
      | cons hv1 h3 =>
        cases h3 with
        | cons hv2 h4 =>
          cases h4
          cases hv2 with
          | @tup _ a2 xs2 k1 k2 =>
            refine ⟨a, _, rfl, h1, rfl, _, _, rfl, _, _, rfl, a2, xs2, rfl, k1, by rw [← k2.length, setAll_len e], ?_⟩
            refine gs_run (hs.set i hv1) k2 e fun s' q1 q2 => ⟨rfl, q s' q1 fun vs hv => ?_⟩
            rw [q2 vs fun j hj => hv j (by simp [Tg.ixs, hj])]
            exact wipe_set s i _ vs (hv i (by simp [Tg.ixs]))
theorem RS.wipe {sg : Sg} {s : L2.St} (h : RS K r H sg s) : ∀ vs : List Nat, RS K r H (wipeP sg vs) (L2.wipe s vs)
  | [] => h
  | v :: vs => by
    have ih := h.wipe vs
    refine ⟨by simp [wipeP, L2.wipe, ih.len], fun i p e => ?_⟩
    simp only [wipeP] at e
    show ∃ x, ((L2.wipe s vs).set v none)[i]? = some (some x) ∧ _
    by_cases hv : v = i
    · subst hv
      by_cases hl : v < (wipeP sg vs).length
      · rw [List.getElem?_set_self hl] at e; cases e
      · rw [List.getElem?_eq_none (by simpa using hl)] at e; cases e
    · rw [List.getElem?_set_ne hv] at e
      rw [List.getElem?_set_ne hv]
      exact ih.at_ i p e
end
section
variable {X : Cx} {pos : Pos}
theorem xg_name (i : Nat) {x : Str} (hN : X.N.Nodup) (hi : X.N[i]? = some x := by rfl) (hx : Loc X.env.scope x := by first | exact .inl rfl | exact .inr rfl)
    (hf : X.fn x = true ∨ X.env.scope.names.lookup x = some .local := by first | exact .inl rfl | exact .inr rfl | assumption) : XG X (.Name x pos) (.name i) := pg_name hN hi hx hf
def XGs (X : Cx) (es : List Expr) (is : List Nat) : Prop := PGs X es (gsOf is)
theorem xgs_nil : XGs X [] [] := pgs_nil
theorem xgs_cons {e : Expr} {es : List Expr} {i : Nat} {is : List Nat} (h : XG X e (.name i)) (h2 : XGs X es is)
    (hs : (assignEach (e :: es) X.env).map (·.2) = assign e X.env :: (assignEach es X.env).map (·.2) := by rfl) : XGs X (e :: es) (i :: is) := pgs_cons h h2 hs
theorem xg_tup {es : List Expr} {k : Nat} {is : List Nat} (hc : X.calm = true) (h : XGs X es is) (hn : (assignEach es X.env).length = is.length := by rfl) (hst : (assignEach es X.env).findIdx? (·.1) = none := by rfl) :
    XG X (.Tuple es k pos) (.tup is) := pg_tup hc h hn hst
end

theorem xg_nst {X : Cx} {pos ipos : Pos} {a : Expr} {es : List Expr} {k k2 : Nat} {i : Nat} {is : List Nat} (hc : X.calm = true) (ha : XG X a (.name i)) (h : XGs X es is) (hn : (assignEach es X.env).length = is.length := by rfl) (hst : (assignEach es X.env).findIdx? (·.1) = none := by rfl)
    (hs1 : (assignEach [a, .Tuple es k2 ipos] X.env).map (·.2) = assign a X.env :: (assignEach [.Tuple es k2 ipos] X.env).map (·.2) := by rfl) (hs2 : (assignEach [.Tuple es k2 ipos] X.env).map (·.2) = assign (.Tuple es k2 ipos) X.env :: (assignEach [] X.env).map (·.2) := by rfl)
    (hn2 : (assignEach [a, .Tuple es k2 ipos] X.env).length = 2 := by rfl) (hst2 : (assignEach [a, .Tuple es k2 ipos] X.env).findIdx? (·.1) = none := by rfl) : XG X (.Tuple [a, .Tuple es k2 ipos] k pos) (.nst i is) :=
  pg_tup hc (pgs_cons ha (pgs_cons (pg_tup hc h hn hst) pgs_nil hs2) hs1) hn2 hst2
/-! ### what is walked -/
def SrcOk (K : PySem.W.Frag) (r0 : List Addr) (H0 : Hp) (s : Src) (J : L2.It) : Prop :=
  ∀ r M H i, Ext r0 r H0 H → RH K r M H → (∀ x, s.get M i = some (some x) → J.go i H ∧ ∀ v H', J.yld i H v H' → Ext r r H H' ∧ RH K r M H' ∧ RV K r H' x v) ∧ (s.get M i = some none → J.stop i H)
def TIv (K : PySem.W.Frag) (f : Sg → Mm → Option (Src × Mm)) : TI := fun s H R => ∃ r sg M src M', RS K r H sg s ∧ RH K r M H ∧ f sg M = some (src, M') ∧ ∀ r' H' J, Ext r r' H H' → RH K r' M' H' → SrcOk K r' H' src J → R J H'
def XI (X : Cx) (cf : CF) (tg iter : Expr) (i : Mp.It) : Prop := PI X tg iter (TIv X.K (evI cf i))
section
variable {K : PySem.W.Frag} {r : List Addr} {H : Hp}
theorem src_tup {a : Addr} {xs : List PV} {vs : List V} (h : SqT K H a vs) (hs : RVs K r H xs vs) : SrcOk K r H (.tup xs) (Itt K a) := by
  intro r' M H' i x hh
  have h' := x.sqT h
  have hs' := hs.ext x
  refine ⟨fun p e => ?_, fun e => ?_⟩
  · simp only [Src.get, Option.some.injEq] at e
    obtain ⟨v, e1, e2⟩ := hs'.get e
    refine ⟨⟨vs, v, h', e1⟩, fun w H2 y => ?_⟩
    obtain ⟨rfl, y⟩ := y
    have := y vs h'
    rw [e1] at this; cases this
    exact ⟨.refl, hh, e2⟩
  · simp only [Src.get, Option.some.injEq] at e
    exact ⟨vs, h', by rw [← hs.length]; exact List.getElem?_eq_none_iff.mp e⟩
theorem src_lst {a : Addr} {n : Nat} (h : r[n]? = some a) : SrcOk K r H (.lst n) (Itl K a) := by
  intro r' M H' i x hh
  have h' := x.at h
  have key : ∀ o, Src.get M (.lst n) i = some o → ∃ xs vs, H' a = some (.lst vs) ∧ RVs K r' H' xs vs ∧ xs[i]? = o := fun o e => by
    simp only [Src.get] at e
    obtain ⟨xs, e1, e2⟩ := Option.map_eq_some_iff.mp e
    obtain ⟨b, vs, g1, g2, g3⟩ := lst_of hh e1
    rw [h'] at g1; cases g1
    exact ⟨xs, vs, g2, g3, e2⟩
  refine ⟨fun p e => ?_, fun e => ?_⟩
  · obtain ⟨xs, vs, g2, g3, e⟩ := key _ e
    obtain ⟨v, e1, e2⟩ := g3.get e
    refine ⟨⟨vs, v, .inl (.inl g2), e1⟩, fun w H2 y => ?_⟩
    obtain ⟨rfl, y⟩ := y
    have := y vs (.inl (.inl g2))
    rw [e1] at this; cases this
    exact ⟨.refl, hh, e2⟩
  · obtain ⟨xs, vs, g2, g3, e⟩ := key _ e
    exact ⟨vs, .inl (.inl g2), by rw [← g3.length]; exact List.getElem?_eq_none_iff.mp e⟩
theorem src_cl {a : Addr} {ns : List Int} (h : CL K H a ns) : SrcOk K r H (.cl ns) (Itl K a) := by
  intro r' M H' i x hh
  have h' := (x.cl h).sq
  refine ⟨fun p e => ?_, fun e => ?_⟩
  · simp only [Src.get, Option.some.injEq] at e
    obtain ⟨v, e1, rfl⟩ := Option.map_eq_some_iff.mp e
    have e1' : (ns.map V.int)[i]? = some (V.int v) := by rw [List.getElem?_map, e1]; rfl
    refine ⟨⟨_, _, h', e1'⟩, fun w H2 y => ?_⟩
    obtain ⟨rfl, y⟩ := y
    have := y _ h'
    rw [e1'] at this; cases this
    exact ⟨.refl, hh, .int v⟩
  · simp only [Src.get, Option.some.injEq] at e
    refine ⟨_, h', ?_⟩
    rw [List.length_map]
    exact List.getElem?_eq_none_iff.mp (Option.map_eq_none_iff.mp e)
theorem src_str {z : Str} : SrcOk K r H (.str z) (Its z) := by
  intro r' M H' i x hh
  refine ⟨fun p e => ?_, fun e => ?_⟩
  · simp only [Src.get, Option.some.injEq] at e
    obtain ⟨c, e1, rfl⟩ := Option.map_eq_some_iff.mp e
    refine ⟨(Array.getElem?_eq_some_iff.mp e1).1, fun w H2 y => ?_⟩
    obtain ⟨rfl, c', y, rfl⟩ := y
    rw [e1] at y; cases y
    exact ⟨.refl, hh, .str _⟩
  · simp only [Src.get, Option.some.injEq] at e
    exact Array.getElem?_eq_none_iff.mp (Option.map_eq_none_iff.mp e)
theorem src_rng {lo : Int} {n : Nat} : SrcOk K r H (.rng lo n) (Itr lo n) := by
  intro r' M H' i x hh
  refine ⟨fun p e => ?_, fun e => ?_⟩
  · simp only [Src.get, Option.some.injEq] at e
    split at e
    · rename_i hi
      cases e
      refine ⟨hi, fun w H2 y => ?_⟩
      obtain ⟨rfl, rfl⟩ := y
      exact ⟨.refl, hh, .int _⟩
    · cases e
  · simp only [Src.get, Option.some.injEq] at e
    split at e
    · cases e
    · rename_i hi; exact Nat.le_of_not_lt hi
theorem pair_rv {T : Addr} {p q : PV} {v u : V} {M : Mm} (hh : RH K r M H) (hT : H T = none) (h1 : RV K r H p v) (h2 : RV K r H q u) :
    Ext r r H (upd H T (.tup [v, u])) ∧ RH K r M (upd H T (.tup [v, u])) ∧ RV K r (upd H T (.tup [v, u])) (.tup [p, q]) (.ref T) := by
  have x := ext_new0 (r := r) (o := .tup [v, u]) hT
  exact ⟨x, hh.other _ hT, .tup (.inl (.inl upd_same)) (.cons (h1.ext x) (.cons (h2.ext x) .nil))⟩
/-- an item's reading and its end, over lists | tuples -/
theorem en_lst {a : Addr} {s : Src} (hs : SrcOk K r H s (Itl K a)) : SrcOk K r H (.en s) (Ite K a) := by
  intro r' M H' i x hh
  obtain ⟨h1, h2⟩ := hs r' M H' i x hh
  refine ⟨fun p e => ?_, fun e => ?_⟩
  · simp only [Src.get] at e
    obtain ⟨o, e1, e2⟩ := Option.map_eq_some_iff.mp e
    obtain ⟨y, rfl, rfl⟩ := Option.map_eq_some_iff.mp e2
    obtain ⟨g, k⟩ := h1 y e1
    refine ⟨g, fun w H2 z => ?_⟩
    obtain ⟨T, u, rfl, hT, rfl, z⟩ := z
    obtain ⟨_, _, k⟩ := k u H' ⟨rfl, z⟩
    exact pair_rv hh hT (.int _) k
  · simp only [Src.get] at e
    obtain ⟨o, e1, e2⟩ := Option.map_eq_some_iff.mp e
    have : o = none := by cases o with | none => rfl | some _ => simp at e2
    subst this
    exact h2 e1
theorem en_tup {a : Addr} {s : Src} (hs : SrcOk K r H s (Itt K a)) : SrcOk K r H (.en s) (IteT K a) := by
  intro r' M H' i x hh
  obtain ⟨h1, h2⟩ := hs r' M H' i x hh
  refine ⟨fun p e => ?_, fun e => ?_⟩
  · simp only [Src.get] at e
    obtain ⟨o, e1, e2⟩ := Option.map_eq_some_iff.mp e
    obtain ⟨y, rfl, rfl⟩ := Option.map_eq_some_iff.mp e2
    obtain ⟨g, k⟩ := h1 y e1
    refine ⟨g, fun w H2 z => ?_⟩
    obtain ⟨T, u, rfl, hT, rfl, z⟩ := z
    obtain ⟨_, _, k⟩ := k u H' ⟨rfl, z⟩
    exact pair_rv hh hT (.int _) k
  · simp only [Src.get] at e
    obtain ⟨o, e1, e2⟩ := Option.map_eq_some_iff.mp e
    have : o = none := by cases o with | none => rfl | some _ => simp at e2
    subst this
    exact h2 e1
theorem zip_inv {M : Mm} {s t : Src} {i : Nat} {o : Option PV} (e : Src.get M (.zip s t) i = some o) :
    (∃ x y, s.get M i = some (some x) ∧ t.get M i = some (some y) ∧ o = some (.tup [x, y])) ∨ (s.get M i = some none ∧ (∃ q, t.get M i = some q) ∧ o = none) ∨ ((∃ q, s.get M i = some (some q)) ∧ t.get M i = some none ∧ o = none) := by
  simp only [Src.get] at e
  split at e
  · rename_i x y e1 e2; cases e; exact .inl ⟨x, y, e1, e2, rfl⟩
  · rename_i y e1 e2; cases e; exact .inr (.inl ⟨e1, ⟨_, e2⟩, rfl⟩)
  · rename_i y e1 e2; cases e; exact .inr (.inr ⟨⟨_, e1⟩, e2, rfl⟩)
  · cases e
/-- a side of a zip: what a get tells of its list | tuple -/
def Side (SQ : Hp → List V → Prop) (K : PySem.W.Frag) (r0 : List Addr) (H0 : Hp) (s : Src) : Prop :=
  ∀ r M H i o, Ext r0 r H0 H → RH K r M H → s.get M i = some o → ∃ vs, SQ H vs ∧ (∀ x, o = some x → ∃ v, vs[i]? = some v ∧ RV K r H x v) ∧ (o = none → vs.length ≤ i)
theorem side_lst {a : Addr} {n : Nat} (h : r[n]? = some a) : Side (fun H => SqL K H a) K r H (.lst n) := by
  intro r' M H' i o x hh e
  simp only [Src.get] at e
  obtain ⟨xs, e1, rfl⟩ := Option.map_eq_some_iff.mp e
  obtain ⟨b, vs, g1, g2, g3⟩ := lst_of hh e1
  rw [x.at h] at g1; cases g1
  exact ⟨vs, .inl (.inl g2), fun p hp => g3.get hp, fun hp => by rw [← g3.length]; exact List.getElem?_eq_none_iff.mp hp⟩
theorem side_cl {a : Addr} {ns : List Int} (h : CL K H a ns) : Side (fun H => SqL K H a) K r H (.cl ns) := by
  intro r' M H' i o x hh e
  simp only [Src.get, Option.some.injEq] at e
  subst e
  refine ⟨_, (x.cl h).sq, fun p hp => ?_, fun hp => ?_⟩
  · obtain ⟨v, e1, rfl⟩ := Option.map_eq_some_iff.mp hp
    exact ⟨.int v, by rw [List.getElem?_map, e1]; rfl, .int v⟩
  · rw [List.length_map]
    exact List.getElem?_eq_none_iff.mp (Option.map_eq_none_iff.mp hp)
theorem side_tup {a : Addr} {xs : List PV} {vs : List V} (h : SqT K H a vs) (hs : RVs K r H xs vs) : Side (fun H => SqT K H a) K r H (.tup xs) := by
  intro r' M H' i o x hh e
  simp only [Src.get, Option.some.injEq] at e
  subst e
  exact ⟨vs, x.sqT h, fun p hp => (hs.ext x).get hp, fun hp => by rw [← hs.length]; exact List.getElem?_eq_none_iff.mp hp⟩
theorem zip_lst {a b : Addr} {s t : Src} (hs : Side (fun H => SqL K H a) K r H s) (ht : Side (fun H => SqL K H b) K r H t) : SrcOk K r H (.zip s t) (Itz K a b) := by
  intro r' M H' i x hh
  refine ⟨fun p e => ?_, fun e => ?_⟩
  · rcases zip_inv e with ⟨y, z, e1, e2, e3⟩ | ⟨_, _, e3⟩ | ⟨_, _, e3⟩ <;> cases e3
    obtain ⟨vs, g1, g2, _⟩ := hs r' M H' i _ x hh e1
    obtain ⟨us, k1, k2, _⟩ := ht r' M H' i _ x hh e2
    obtain ⟨v, v1, v2⟩ := g2 y rfl
    obtain ⟨u, u1, u2⟩ := k2 z rfl
    refine ⟨⟨vs, us, v, u, g1, k1, v1, u1⟩, fun w H2 q => ?_⟩
    obtain ⟨T, v', u', rfl, hT, rfl, q1, q2⟩ := q
    have := q1 vs g1; rw [v1] at this; cases this
    have := q2 us k1; rw [u1] at this; cases this
    exact pair_rv hh hT v2 u2
  · rcases zip_inv e with ⟨y, z, e1, e2, e3⟩ | ⟨e1, ⟨_, e2⟩, _⟩ | ⟨⟨_, e1⟩, e2, _⟩
    · cases e3
    · obtain ⟨vs, g1, _, g2⟩ := hs r' M H' i _ x hh e1
      obtain ⟨us, k1, _, _⟩ := ht r' M H' i _ x hh e2
      exact ⟨vs, us, g1, k1, .inl (g2 rfl)⟩
    · obtain ⟨vs, g1, _, _⟩ := hs r' M H' i _ x hh e1
      obtain ⟨us, k1, _, k2⟩ := ht r' M H' i _ x hh e2
      exact ⟨vs, us, g1, k1, .inr (k2 rfl)⟩
theorem zip_tup {a b : Addr} {s t : Src} (hs : Side (fun H => SqT K H a) K r H s) (ht : Side (fun H => SqT K H b) K r H t) : SrcOk K r H (.zip s t) (RZ.ItzT K a b) := by
  intro r' M H' i x hh
  refine ⟨fun p e => ?_, fun e => ?_⟩
  · rcases zip_inv e with ⟨y, z, e1, e2, e3⟩ | ⟨_, _, e3⟩ | ⟨_, _, e3⟩ <;> cases e3
    obtain ⟨vs, g1, g2, _⟩ := hs r' M H' i _ x hh e1
    obtain ⟨us, k1, k2, _⟩ := ht r' M H' i _ x hh e2
    obtain ⟨v, v1, v2⟩ := g2 y rfl
    obtain ⟨u, u1, u2⟩ := k2 z rfl
    refine ⟨⟨vs, us, v, u, g1, k1, v1, u1⟩, fun w H2 q => ?_⟩
    obtain ⟨T, v', u', rfl, hT, rfl, q1, q2⟩ := q
    have := q1 vs g1; rw [v1] at this; cases this
    have := q2 us k1; rw [u1] at this; cases this
    exact pair_rv hh hT v2 u2
  · rcases zip_inv e with ⟨y, z, e1, e2, e3⟩ | ⟨e1, ⟨_, e2⟩, _⟩ | ⟨⟨_, e1⟩, e2, _⟩
    · cases e3
    · obtain ⟨vs, g1, _, g2⟩ := hs r' M H' i _ x hh e1
      obtain ⟨us, k1, _, _⟩ := ht r' M H' i _ x hh e2
      exact ⟨vs, us, g1, k1, .inl (g2 rfl)⟩
    · obtain ⟨vs, g1, _, _⟩ := hs r' M H' i _ x hh e1
      obtain ⟨us, k1, _, k2⟩ := ht r' M H' i _ x hh e2
      exact ⟨vs, us, g1, k1, .inr (k2 rfl)⟩
end
section
variable {X : Cx} {cf : CF} {tg e e2 : Expr} {i j : E} {pos p : Pos}
theorem xi_seq (h : XE X cf e i) : XI X cf tg e (.seq i) := by
  refine ⟨fun pins s σ H R I q => ?_⟩
  obtain ⟨r, sg, M, src, M', hs, hh, ev, q⟩ := q
  simp only [evI] at ev
  split at ev
  · rename_i x M1 e1
    obtain ⟨s', e2, e3⟩ := Option.map_eq_some_iff.mp ev
    cases e3
    cases x with
    | tup xs =>
      simp only [srcOf] at e2; cases e2
      refine (pi_tup h).run pins s σ H R I ⟨r, sg, M, _, _, hs, hh, e1, fun r1 u H1 x1 h1 v => ?_⟩
      cases v with
      | @tup _ a vs ht hxs => exact ⟨a, rfl, ⟨vs, ht⟩, q r1 H1 _ x1 h1 (src_tup ht hxs)⟩
    | cl ns =>
      simp only [srcOf] at e2; cases e2
      refine (pi_list h).run pins s σ H R I ⟨r, sg, M, _, _, hs, hh, e1, fun r1 u H1 x1 h1 v => ?_⟩
      cases v with
      | @cl _ a hc => exact ⟨a, rfl, ⟨_, hc.sq⟩, q r1 H1 _ x1 h1 (src_cl hc)⟩
    | str z =>
      simp only [srcOf] at e2; cases e2
      refine (pi_str h).run pins s σ H R I ⟨r, sg, M, _, _, hs, hh, e1, fun r1 u H1 x1 h1 v => ?_⟩
      cases v
      exact ⟨z, rfl, q r1 H1 _ x1 h1 src_str⟩
    | ref n =>
      simp only [srcOf] at e2
      obtain ⟨xs, e3, e4⟩ := Option.map_eq_some_iff.mp e2
      cases e4
      refine (pi_list h).run pins s σ H R I ⟨r, sg, M, _, _, hs, hh, e1, fun r1 u H1 x1 h1 v => ?_⟩
      obtain ⟨a, vs, g1, g2, g3⟩ := lst_of h1 e3
      exact ⟨a, v.refAt g1, ⟨vs, .inl (.inl g2)⟩, q r1 H1 _ x1 h1 (src_lst g1)⟩
    | _ => simp [srcOf] at e2
  · cases ev
theorem rngOk_b {i : Int} (h : rngOk i = true) : -(2 ^ 62) ≤ i ∧ i < 2 ^ 62 := by
  obtain ⟨h1, h2⟩ := Bool.and_eq_true_iff.mp h
  exact ⟨of_decide_eq_true h1, of_decide_eq_true h2⟩
theorem xi_rng1 (hg : Gl X "range") (hm : X.mg "range" = none) (h : XE X cf e i) (hs : starEach [e] X.env = [(false, eval e X.env)] := by rfl) : XI X cf tg (.Call (.Name "range" p) [e] [] pos) (.rng1 i) := by
  refine ⟨fun pins s σ H R I q => ?_⟩
  obtain ⟨r, sg, M, src, M', hs', hh, ev, q⟩ := q
  simp only [evI] at ev
  split at ev
  · rename_i k M1 e1
    split at ev
    · rename_i hk
      cases ev
      obtain ⟨b1, b2⟩ := rngOk_b hk
      refine (pi_range1 hg hm (pa_cons h pa_nil hs) hs).run pins s σ H R I ⟨r, sg, M, _, _, hs', hh, e1, fun r1 u H1 x1 h1 v => ?_⟩
      cases v
      exact ⟨k, rfl, b1, b2, q r1 H1 _ x1 h1 src_rng⟩
    · cases ev
  · cases ev
theorem xi_rng2 (hg : Gl X "range") (hm : X.mg "range" = none) (h : XE X cf e i) (h2 : XE X cf e2 j) (hs : starEach [e, e2] X.env = (false, eval e X.env) :: starEach [e2] X.env := by rfl) (hs1 : starEach [e2] X.env = (false, eval e2 X.env) :: starEach [] X.env := by rfl)
    (hpl : (backTo pos (starEach [e2] X.env)).any (·.1) = false := by rfl) : XI X cf tg (.Call (.Name "range" p) [e, e2] [] pos) (.rng2 i j) := by
  refine ⟨fun pins s σ H R I q => ?_⟩
  obtain ⟨r, sg, M, src, M', hs', hh, ev, q⟩ := q
  simp only [evI] at ev
  split at ev
  · rename_i k M1 e1
    split at ev
    · rename_i l M2 e2
      split at ev
      · rename_i hk
        cases ev
        obtain ⟨k1, k2⟩ := Bool.and_eq_true_iff.mp hk
        obtain ⟨b1, b2⟩ := rngOk_b k1
        obtain ⟨b3, b4⟩ := rngOk_b k2
        refine (pi_range2 hg hm (pa_cons h (pa_cons h2 pa_nil hs1) hs) (by rw [hs, hs1]; rfl) (by rw [hs1]; rfl)).run pins s σ H R I ⟨r, sg, M, _, _, hs', hh, e1, fun r1 u H1 x1 h1 v => ⟨r1, sg, M1, _, _, hs'.ext x1, h1, e2, fun r2 u2 H2 x2 h2 v2 => ?_⟩⟩
        cases v
        cases v2
        exact ⟨k, l, rfl, ⟨b1, b2, b3, b4⟩, q r2 H2 _ (x1.trans x2) h2 src_rng⟩
      · cases ev
    · cases ev
  · cases ev
theorem xi_enum {elts : List Expr} {kk : Nat} {tpos : Pos} (hg : Gl X "enumerate") (hm : X.mg "enumerate" = none) (h : XE X cf e i) (hs : starEach [e] X.env = [(false, eval e X.env)] := by rfl) : XI X cf (.Tuple elts kk tpos) (.Call (.Name "enumerate" p) [e] [] pos) (.enum i) := by
  refine ⟨fun pins s σ H R I q => ?_⟩
  obtain ⟨r, sg, M, src, M', hs', hh, ev, q⟩ := q
  simp only [evI] at ev
  split at ev
  · rename_i x M1 e1
    split at ev
    · rename_i s' e2
      split at ev
      · rename_i hk
        cases ev
        refine (pi_enumA hg hm (pa_cons h pa_nil hs) hs).run pins s σ H R I ⟨r, sg, M, _, _, hs', hh, e1, fun r1 u H1 x1 h1 v => ?_⟩
        cases v with
        | @tup xs a vs ht hxs => simp only [srcOf] at e2; cases e2; exact ⟨a, vs, rfl, .inr ⟨ht, q r1 H1 _ x1 h1 (en_tup (src_tup ht hxs))⟩⟩
        | @cl ns a hc => simp only [srcOf] at e2; cases e2; exact ⟨a, _, rfl, .inl ⟨hc.sq, q r1 H1 _ x1 h1 (en_lst (src_cl hc))⟩⟩
        | @ref n a hn =>
          simp only [srcOf] at e2
          obtain ⟨xs, e3, e4⟩ := Option.map_eq_some_iff.mp e2
          cases e4
          obtain ⟨b, vs, g1, g2, g3⟩ := lst_of h1 e3
          rw [hn] at g1; cases g1
          exact ⟨a, vs, rfl, .inl ⟨.inl (.inl g2), q r1 H1 _ x1 h1 (en_lst (src_lst hn))⟩⟩
        | str z => simp only [srcOf] at e2; cases e2; simp [Src.isL, Src.isT] at hk
        | _ => simp [srcOf] at e2
      · cases ev
    · cases ev
  · cases ev
theorem side_of {K : PySem.W.Frag} {r : List Addr} {H : Hp} {M : Mm} {x : PV} {u : V} {s : Src} (hh : RH K r M H) (v : RV K r H x u) (e : srcOf M x = some s) :
    (s.isL = true → ∃ a vs, u = .ref a ∧ SqL K H a vs ∧ Side (fun H => SqL K H a) K r H s) ∧ (s.isT = true → ∃ a vs, u = .ref a ∧ SqT K H a vs ∧ Side (fun H => SqT K H a) K r H s) := by
  cases v with
  | @tup xs a vs ht hxs => simp only [srcOf] at e; cases e; exact ⟨fun z => by simp [Src.isL] at z, fun _ => ⟨a, vs, rfl, ht, side_tup ht hxs⟩⟩
  | @cl ns a hc => simp only [srcOf] at e; cases e; exact ⟨fun _ => ⟨a, _, rfl, hc.sq, side_cl hc⟩, fun z => by simp [Src.isT] at z⟩
  | @ref n a hn =>
    simp only [srcOf] at e
    obtain ⟨xs, e3, e4⟩ := Option.map_eq_some_iff.mp e
    cases e4
    obtain ⟨b, vs, g1, g2, g3⟩ := lst_of hh e3
    rw [hn] at g1; cases g1
    exact ⟨fun _ => ⟨a, vs, rfl, .inl (.inl g2), side_lst hn⟩, fun z => by simp [Src.isT] at z⟩
  | str z => simp only [srcOf] at e; cases e; exact ⟨fun z => by simp [Src.isL] at z, fun z => by simp [Src.isT] at z⟩
  | _ => simp [srcOf] at e
theorem xi_zip {elts : List Expr} {kk : Nat} {tpos : Pos} (hg : Gl X "zip") (hm : X.mg "zip" = none) (h : XE X cf e i) (h2 : XE X cf e2 j) (hs : starEach [e, e2] X.env = (false, eval e X.env) :: starEach [e2] X.env := by rfl) (hs1 : starEach [e2] X.env = (false, eval e2 X.env) :: starEach [] X.env := by rfl)
    (hpl : (backTo pos (starEach [e2] X.env)).any (·.1) = false := by rfl) : XI X cf (.Tuple elts kk tpos) (.Call (.Name "zip" p) [e, e2] [] pos) (.zip i j) := by
  refine ⟨fun pins s σ H R I q => ?_⟩
  obtain ⟨r, sg, M, src, M', hs', hh, ev, q⟩ := q
  simp only [evI] at ev
  split at ev
  · rename_i x M1 e1
    split at ev
    · rename_i y M2 e2
      split at ev
      · rename_i s1 s2 e3 e4
        split at ev
        · rename_i hk
          cases ev
          refine (RZ.pi_zipA hg hm (pa_cons h (pa_cons h2 pa_nil hs1) hs) hs hpl).run pins s σ H R I ⟨r, sg, M, _, _, hs', hh, e1, fun r1 u H1 x1 h1 v => ⟨r1, sg, M1, _, _, hs'.ext x1, h1, e2, fun r2 u2 H2 x2 h2 v2 => ?_⟩⟩
          obtain ⟨a1, a2⟩ := side_of h2 (v.ext x2) e3
          obtain ⟨b1, b2⟩ := side_of h2 v2 e4
          rcases Bool.or_eq_true_iff.mp hk with hk | hk
          · obtain ⟨k1, k2⟩ := Bool.and_eq_true_iff.mp hk
            obtain ⟨a, vs, rfl, ha, sa⟩ := a1 k1
            obtain ⟨b, us, rfl, hb, sb⟩ := b1 k2
            exact ⟨a, b, vs, us, rfl, .inl ⟨ha, hb, q r2 H2 _ (x1.trans x2) h2 (zip_lst sa sb)⟩⟩
          · obtain ⟨k1, k2⟩ := Bool.and_eq_true_iff.mp hk
            obtain ⟨a, vs, rfl, ha, sa⟩ := a2 k1
            obtain ⟨b, us, rfl, hb, sb⟩ := b2 k2
            exact ⟨a, b, vs, us, rfl, .inr ⟨ha, hb, q r2 H2 _ (x1.trans x2) h2 (zip_tup sa sb)⟩⟩
        · cases ev
      · cases ev
    · cases ev
  · cases ev
end
end Mp

/-! Mp3e: statements, loops, comprehensions. -/
namespace Mp
open PySem L2

def PostS (K : PySem.W.Frag) (r : List Addr) (H : Hp) (fl : Fl) (M' : Mm) (D : Ends) : Prop := ∀ r' H', Ext r r' H H' → RH K r' M' H' →
  match fl with
  | .nx sg => ∀ s', RS K r' H' sg s' → D.nx s' H'
  | .brk sg => ∀ s', RS K r' H' sg s' → D.bk s' H'
  | .ct sg => ∀ s', RS K r' H' sg s' → D.ct s' H'
  | .ret v => ∀ u, RV K r' H' v u → D.rt u H'
def TSv (K : PySem.W.Frag) (f : Sg → Mm → Option (Fl × Mm)) : TS := fun D s H => ∃ r sg M fl M', RS K r H sg s ∧ RH K r M H ∧ f sg M = some (fl, M') ∧ PostS K r H fl M' D
def XS (X : Cx) (cf : CF) (st : Stmt) (i : S) : Prop := PS X st (TSv X.K (evS cf i))
def XSs (X : Cx) (cf : CF) (sts : List Stmt) (i : Ss) : Prop := PSs X sts (TSv X.K (evSs cf i))
theorem ps_imp {X : Cx} {st : Stmt} {t t' : TS} (h : PS X st t) (k : ∀ D s H, t' D s H → t D s H) : PS X st t' := ⟨fun pins s σ H D I q => h.run pins s σ H D I (k _ _ _ q)⟩
theorem pss_imp {X : Cx} {st : List Stmt} {t t' : TS} (h : PSs X st t) (k : ∀ D s H, t' D s H → t D s H) : PSs X st t' := ⟨fun pins s σ H D I q => h.run pins s σ H D I (k _ _ _ q)⟩

section
variable {X : Cx} {cf : CF} {e a b c o tg iter : Expr} {st : Stmt} {sts sts2 : List Stmt} {i ia ib ic : E} {is : S} {iss iss2 : Ss} {pos : Pos}
theorem xs_ret (h : XE X cf e i) : XS X cf (.Return (some e) pos) (.ret i) := by
  refine ps_imp (ps_ret h) fun D s H q => ?_
  obtain ⟨r, sg, M, fl, M', hs, hh, ev, q⟩ := q
  simp only [evS] at ev
  split at ev
  · rename_i x M1 e1
    cases ev
    exact ⟨r, sg, M, x, _, hs, hh, e1, fun r1 u H1 x1 h1 v => q r1 H1 x1 h1 u v⟩
  · cases ev
theorem xs_retN : XS X cf (.Return none pos) (.ret (.con .non)) := by
  refine ps_imp ps_retN fun D s H q => ?_
  obtain ⟨r, sg, M, fl, M', hs, hh, ev, q⟩ := q
  simp only [evS, evE] at ev
  cases ev
  exact q r H .refl hh _ .non
theorem xs_pass : XS X cf (.Pass pos) .pass := by
  refine ps_imp ps_pass fun D s H q => ?_
  obtain ⟨r, sg, M, fl, M', hs, hh, ev, q⟩ := q
  simp only [evS] at ev
  cases ev
  exact q r H .refl hh s hs
theorem xs_brk : XS X cf (.Break pos) .brk := by
  refine ps_imp ps_break fun D s H q => ?_
  obtain ⟨r, sg, M, fl, M', hs, hh, ev, q⟩ := q
  simp only [evS] at ev
  cases ev
  exact q r H .refl hh s hs
theorem xs_cnt : XS X cf (.Continue pos) .cnt := by
  refine ps_imp ps_continue fun D s H q => ?_
  obtain ⟨r, sg, M, fl, M', hs, hh, ev, q⟩ := q
  simp only [evS] at ev
  cases ev
  exact q r H .refl hh s hs
theorem xs_stuck : XS X cf st .stuck := by
  refine ps_imp ps_never fun D s H q => ?_
  obtain ⟨r, sg, M, fl, M', hs, hh, ev, q⟩ := q
  simp only [evS] at ev
  cases ev
theorem xs_exp (h : XE X cf e i) (hw : swapsWith e none pos.line X.env = pure false := by rfl) : XS X cf (.Expr e pos) (.exp i) := by
  refine ps_imp (ps_expr h hw) fun D s H q => ?_
  obtain ⟨r, sg, M, fl, M', hs, hh, ev, q⟩ := q
  simp only [evS] at ev
  split at ev
  · rename_i x M1 e1
    cases ev
    exact ⟨r, sg, M, x, _, hs, hh, e1, fun r1 u H1 x1 h1 v => q r1 H1 x1 h1 s (hs.ext x1)⟩
  · cases ev
theorem asg_red {D : Ends} {s : L2.St} {H : Hp} {t : Tg} (q : TSv X.K (evS cf (.asg t i)) D s H) : tAsg (TEv X.K (evE cf i)) (gOf X.K t) D s H := by
  obtain ⟨r, sg, M, fl, M', hs, hh, ev, q⟩ := q
  simp only [evS] at ev
  split at ev
  · rename_i x M1 e1
    obtain ⟨sg1, e2, e3⟩ := Option.map_eq_some_iff.mp ev
    cases e3
    exact ⟨r, sg, M, x, _, hs, hh, e1, fun r1 u H1 x1 h1 v => g_run (hs.ext x1) v e2 fun s' h2 _ => q r1 H1 x1 h1 s' h2⟩
  · cases ev
theorem xs_asg {t : Tg} (h : XE X cf e i) (hg : XG X tg t) (h1 : swapsWithSole [tg] e pos.line X.env = pure false := by rfl) (h2 : swappedStores [tg] e X.env = pure none := by rfl)
    (h3 : (assignEach [tg] X.env).map (·.2) = [assign tg X.env] := by rfl) : XS X cf (.Assign [tg] e pos) (.asg t i) :=
  ps_imp (ps_asg h hg h1 h2 h3) fun D s H q => asg_red q
theorem xs_if (hc : XT X cf c ic) (ha : XSs X cf sts iss) (hb : XSs X cf sts2 iss2) : XS X cf (.If c sts sts2 pos) (.iff ic iss iss2) := by
  refine ps_imp (ps_if hc ha hb) fun D s H q => ?_
  obtain ⟨r, sg, M, fl, M', hs, hh, ev, q⟩ := q
  simp only [evS] at ev
  split at ev
  · rename_i M1 e1
    exact ⟨r, sg, M, _, _, hs, hh, e1, fun r1 H1 x1 h1 => iteT ⟨r1, sg, M1, fl, M', hs.ext x1, h1, ev, fun r2 H2 x2 h2 => q r2 H2 (x1.trans x2) h2⟩⟩
  · rename_i M1 e1
    exact ⟨r, sg, M, _, _, hs, hh, e1, fun r1 H1 x1 h1 => iteF ⟨r1, sg, M1, fl, M', hs.ext x1, h1, ev, fun r2 H2 x2 h2 => q r2 H2 (x1.trans x2) h2⟩⟩
  · cases ev
theorem xss_nil : XSs X cf [] .nil := by
  refine pss_imp pss_nil fun D s H q => ?_
  obtain ⟨r, sg, M, fl, M', hs, hh, ev, q⟩ := q
  simp only [evSs] at ev
  cases ev
  exact q r H .refl hh s hs
theorem xss_cons (h : XS X cf st is) (h2 : XSs X cf sts iss) : XSs X cf (st :: sts) (.cons is iss) := by
  refine pss_imp (pss_cons h h2) fun D s H q => ?_
  obtain ⟨r, sg, M, fl, M', hs, hh, ev, q⟩ := q
  simp only [evSs] at ev
  cases e1 : evS cf is sg M with
  | none => rw [e1] at ev; cases ev
  | some p =>
    obtain ⟨f1, M1⟩ := p
    rw [e1] at ev
    refine ⟨r, sg, M, f1, M1, hs, hh, e1, fun r1 H1 x1 h1 => ?_⟩
    cases f1 with
    | nx sg1 => exact fun s' h3 => ⟨r1, sg1, M1, fl, M', h3, h1, ev, fun r2 H2 x2 h2 => q r2 H2 (x1.trans x2) h2⟩
    | brk sg1 => cases ev; exact q r1 H1 x1 h1
    | ct sg1 => cases ev; exact q r1 H1 x1 h1
    | ret v => cases ev; exact q r1 H1 x1 h1

/-! ### loops -/
theorem xs_for {t : Tg} {it : Mp.It} (hp : PassesOwn (model X.prog X.w) X.A X.env X.xe) (hc : X.calm = true) (hi : XI X cf tg iter it) (hg : XG X tg t) (hb : XSs X cf sts iss)
    (hs : ∀ x, foldedSetIterable iter X.env x = pure x := by intro _; rfl) : XS X cf (.For tg iter sts [] pos) (.for_ t it iss) := by
  refine ps_imp (ps_for hp hc hi hg hb hs) fun D s H q => ?_
  obtain ⟨r, sg, M, fl, M', hs, hh, ev, q⟩ := q
  simp only [evS] at ev
  split at ev
  · rename_i src M1 e1
    refine ⟨r, sg, M, src, M1, hs, hh, e1, fun r1 H1 J x1 h1 ok => ?_⟩
    refine ⟨fun i m s H => ∃ r2 sg2 M2, Ext r1 r2 H1 H ∧ RS X.K r2 H sg2 s ∧ RH X.K r2 M2 H ∧ forL src (tgP t) (fun sg M => evSs cf iss sg M) m i sg2 M2 = some (fl, M'), ⟨bigN, r1, sg, M1, .refl, hs.ext x1, h1, ev⟩, ?_⟩
    rintro i m s2 H2 ⟨r2, sg2, M2, x2, hs2, h2, ev2⟩
    cases m with
    | zero => simp only [forL] at ev2; cases ev2
    | succ m =>
      simp only [forL] at ev2
      obtain ⟨o1, o2⟩ := ok r2 M2 H2 i x2 h2
      cases eg : src.get M2 i with
      | none => rw [eg] at ev2; cases ev2
      | some og =>
        rw [eg] at ev2
        cases og with
        | none => cases ev2; exact .inl ⟨o2 eg, q r2 H2 (x1.trans x2) h2 s2 hs2⟩
        | some x =>
          obtain ⟨g1, g2⟩ := o1 x eg
          refine .inr ⟨g1, fun s' H' => ∃ r3 sg3 M3, Ext r1 r3 H1 H' ∧ RS X.K r3 H' sg3 s' ∧ RH X.K r3 M3 H' ∧ forL src (tgP t) (fun sg M => evSs cf iss sg M) m (i + 1) sg3 M3 = some (fl, M'), fun s' H' ⟨r3, sg3, M3, k⟩ => ⟨m, Nat.lt_succ_self m, r3, sg3, M3, k⟩, fun v H3 y => ?_⟩
          obtain ⟨x3, h3, v3⟩ := g2 v H3 y
          simp only at ev2
          cases eb : tgP t x sg2 with
          | none => rw [eb] at ev2; cases ev2
          | some sg3 =>
            rw [eb] at ev2
            refine g_run (hs2.ext x3) v3 eb fun s4 hs4 _ => ?_
            simp only at ev2
            cases ec : evSs cf iss sg3 M2 with
            | none => rw [ec] at ev2; cases ev2
            | some p =>
              obtain ⟨f4, M4⟩ := p
              rw [ec] at ev2
              refine ⟨r2, sg3, M2, f4, M4, hs4, h3, ec, fun r5 H5 x5 h5 => ?_⟩
              cases f4 with
              | nx sg5 => exact fun s' k => ⟨r5, sg5, M4, (x2.trans x3).trans x5, k, h5, ev2⟩
              | ct sg5 => exact fun s' k => ⟨r5, sg5, M4, (x2.trans x3).trans x5, k, h5, ev2⟩
              | brk sg5 => cases ev2; exact fun s' k => q r5 H5 (x1.trans ((x2.trans x3).trans x5)) h5 s' k
              | ret w => cases ev2; exact fun u k => q r5 H5 (x1.trans ((x2.trans x3).trans x5)) h5 u k
  · cases ev
theorem xs_whl (hp : PassesOwn (model X.prog X.w) X.A X.env X.xe) (hc : XT X cf c ic) (hb : XSs X cf sts iss) : XS X cf (.While c sts [] pos) (.whl ic iss) := by
  refine ps_imp (ps_while hp hc hb) fun D s H q => ?_
  obtain ⟨r, sg, M, fl, M', hs, hh, ev, q⟩ := q
  simp only [evS] at ev
  refine ⟨fun m s H2 => ∃ r2 sg2 M2, Ext r r2 H H2 ∧ RS X.K r2 H2 sg2 s ∧ RH X.K r2 M2 H2 ∧ whlL (fun sg M => evE cf ic sg M) (fun sg M => evSs cf iss sg M) m sg2 M2 = some (fl, M'), ⟨bigN, r, sg, M, .refl, hs, hh, ev⟩, ?_⟩
  rintro m s2 H2 ⟨r2, sg2, M2, x2, hs2, h2, ev2⟩
  cases m with
  | zero => simp only [whlL] at ev2; cases ev2
  | succ m =>
    simp only [whlL] at ev2
    split at ev2
    · rename_i M3 e3
      refine ⟨r2, sg2, M2, _, _, hs2, h2, e3, fun r3 H3 x3 h3 => iteT ⟨fun s' H' => ∃ r4 sg4 M4, Ext r r4 H H' ∧ RS X.K r4 H' sg4 s' ∧ RH X.K r4 M4 H' ∧ whlL (fun sg M => evE cf ic sg M) (fun sg M => evSs cf iss sg M) m sg4 M4 = some (fl, M'), fun s' H' ⟨r4, sg4, M4, k⟩ => ⟨m, Nat.lt_succ_self m, r4, sg4, M4, k⟩, ?_⟩⟩
      cases ec : evSs cf iss sg2 M3 with
      | none => rw [ec] at ev2; cases ev2
      | some p =>
        obtain ⟨f4, M4⟩ := p
        rw [ec] at ev2
        refine ⟨r3, sg2, M3, f4, M4, hs2.ext x3, h3, ec, fun r5 H5 x5 h5 => ?_⟩
        cases f4 with
        | nx sg5 => exact fun s' k => ⟨r5, sg5, M4, (x2.trans x3).trans x5, k, h5, ev2⟩
        | ct sg5 => exact fun s' k => ⟨r5, sg5, M4, (x2.trans x3).trans x5, k, h5, ev2⟩
        | brk sg5 => cases ev2; exact fun s' k => q r5 H5 ((x2.trans x3).trans x5) h5 s' k
        | ret w => cases ev2; exact fun u k => q r5 H5 ((x2.trans x3).trans x5) h5 u k
    · rename_i M3 e3
      cases ev2
      exact ⟨r2, sg2, M2, _, _, hs2, h2, e3, fun r3 H3 x3 h3 => iteF (q r3 H3 (x2.trans x3) h3 s2 (hs2.ext x3))⟩
    · cases ev2

/-! ### comprehensions -/
def XTs (X : Cx) (cf : CF) (ifs : List Expr) (i : E) : Prop := PTs X ifs (TTv X.K (evE cf i))
theorem xts_nil : XTs X cf [] (.con (.bl true)) := by
  refine ⟨fun pins s σ H Q I q => pts_nil.run pins s σ H Q I ?_⟩
  obtain ⟨r, sg, M, b, M', hs, hh, e, q⟩ := q
  simp only [evE] at e
  cases e
  exact q r H .refl hh
theorem xts_one (h : XT X cf c ic) : XTs X cf [c] ic := pts_one h
theorem lc_red {K : PySem.W.Frag} {s : L2.St} {H : Hp} {Q : VK} {t : Tg} {it : Mp.It} {vs : List Nat} (ht : ∀ j ∈ t.ixs, j ∈ vs) (q : TEv K (evE cf (.lc vs t it ic i)) s H Q) :
    tLc (TIv K (evI cf it)) (gOf K t) (TTv K (evE cf ic)) (TEv K (evE cf i)) vs s H Q := by
  obtain ⟨r, sg, M, z, M', hs, hh, ev, q⟩ := q
  simp only [evE] at ev
  split at ev
  · rename_i src M1 e1
    obtain ⟨Mx, ev, ez⟩ := Option.map_eq_some_iff.mp ev
    cases ez
    refine ⟨r, sg, M, src, M1, hs, hh, e1, fun r1 H1 J x1 h1 ok D hD => ?_⟩
    have hx : Ext r1 (r1 ++ [D]) H1 (upd H1 D (.lst [])) := ext_new hD [D]
    have hn : RH K (r1 ++ [D]) (M1 ++ [.lst []]) (upd H1 D (.lst [])) := h1.new hD ⟨[], upd_same, .nil⟩
    have hd : (r1 ++ [D])[M1.length]? = some D := by rw [← h1.len]; simp
    refine ⟨fun k m H => ∃ r2 M2, Ext (r1 ++ [D]) r2 (upd H1 D (.lst [])) H ∧ RH K r2 M2 H ∧ lcL src (tgP t) (fun sg M => evE cf ic sg M) (fun sg M => evE cf i sg M) M1.length (wipeP sg vs) m k M2 = some M', ⟨bigN, r1 ++ [D], _, .refl, hn, ev⟩, ?_⟩
    rintro k m H2 ⟨r2, M2, x2, h2, ev2⟩
    cases m with
    | zero => simp only [lcL] at ev2; cases ev2
    | succ m =>
      simp only [lcL] at ev2
      obtain ⟨o1, o2⟩ := ok r2 M2 H2 k (hx.trans x2) h2
      have xs2 : Ext r r2 H H2 := x1.trans (hx.trans x2)
      cases eg : src.get M2 k with
      | none => rw [eg] at ev2; cases ev2
      | some og =>
        rw [eg] at ev2
        cases og with
        | none => cases ev2; exact .inl ⟨o2 eg, q r2 _ H2 xs2 h2 (.ref (x2.at hd))⟩
        | some x =>
          obtain ⟨g1, g2⟩ := o1 x eg
          refine .inr ⟨g1, fun H' => ∃ r3 M3, Ext (r1 ++ [D]) r3 (upd H1 D (.lst [])) H' ∧ RH K r3 M3 H' ∧ lcL src (tgP t) (fun sg M => evE cf ic sg M) (fun sg M => evE cf i sg M) M1.length (wipeP sg vs) m (k + 1) M3 = some M', fun H' ⟨r3, M3, w⟩ => ⟨m, Nat.lt_succ_self m, r3, M3, w⟩, fun v H3 y => ?_⟩
          obtain ⟨x3, h3, v3⟩ := g2 v H3 y
          simp only at ev2
          cases eb : tgP t x (wipeP sg vs) with
          | none => rw [eb] at ev2; cases ev2
          | some sg3 =>
            rw [eb] at ev2
            refine g_run (((hs.ext xs2).ext x3).wipe vs) v3 eb fun s4 hs4 hw => ⟨by rw [hw vs ht, wipe_same], ?_⟩
            simp only at ev2
            split at ev2
            · rename_i M4 e4
              refine ⟨r2, sg3, M2, _, _, hs4, h3, e4, fun r5 H5 x5 h5 => iteT ?_⟩
              cases e5 : evE cf i sg3 M4 with
              | none => rw [e5] at ev2; cases ev2
              | some p =>
                obtain ⟨y, M6⟩ := p
                rw [e5] at ev2
                refine ⟨r5, sg3, M4, y, M6, hs4.ext x5, h5, e5, fun r7 u7 H7 x7 h7 v7 => ?_⟩
                simp only at ev2
                cases e8 : lstAt M6 M1.length with
                | none => rw [e8] at ev2; cases ev2
                | some acc =>
                  rw [e8] at ev2
                  simp only at ev2
                  split at ev2
                  · rename_i hl
                    obtain ⟨a, ws, k1, k2, k3⟩ := lst_of h7 e8
                    have x27 : Ext (r1 ++ [D]) r7 (upd H1 D (.lst [])) H7 := ((x2.trans x3).trans x5).trans x7
                    rw [x27.at hd] at k1; cases k1
                    have xe := ext_set (r := r7) (o := .lst (ws ++ [u7])) k2 trivial (List.mem_of_getElem? (x27.at hd))
                    exact ⟨ws, k2, by rw [← k3.length]; exact hl, r7, _, x27.trans xe, h7.set (o := .lst (acc ++ [y])) (x27.at hd) ⟨_, upd_same, (k3.append (.cons v7 .nil)).ext xe⟩, ev2⟩
                  · cases ev2
            · rename_i M4 e4
              exact ⟨r2, sg3, M2, _, _, hs4, h3, e4, fun r5 H5 x5 h5 => iteF ⟨r5, M4, (x2.trans x3).trans x5, h5, ev2⟩⟩
            · cases ev2
  · cases ev
section
variable {elt : Expr} {ifs : List Expr} {scope : Scope} {own : List (Str × Nat)} {t : Tg} {it : Mp.It}
theorem xe_lc (hc : X.calm = true) (hN : X.N.Nodup) (hi : XI X cf tg iter it) (ok : BlkOk X.N X.env.scope scope own)
    (hg : ∀ (s : Shared) (H : Hp) (C : Addr) (cl : List (Str × Addr)) (fp : List Addr), XG (X.blk s H scope (compEnvC scope cl C X.env) fp) tg t) (ht : ∀ (s : Shared) (H : Hp) (C : Addr) (cl : List (Str × Addr)) (fp : List Addr), XTs (X.blk s H scope (compEnvC scope cl C X.env) fp) cf ifs ic)
    (he : ∀ (s : Shared) (H : Hp) (C : Addr) (cl : List (Str × Addr)) (fp : List Addr), XE (X.blk s H scope (compEnvC scope cl C X.env) fp) cf elt i) (hx : ∀ j ∈ t.ixs, j ∈ own.map (·.2)) (hs : ∀ x, foldedSetIterable iter X.env x = pure x := by intro _; rfl) :
    XE X cf (.ListComp elt [⟨tg, iter, ifs, 0⟩] scope pos) (.lc (own.map (·.2)) t it ic i) :=
  pe_imp (pe_lc (g := gOf X.K t) (tt := TTv X.K (evE cf ic)) (te := TEv X.K (evE cf i)) hc hN hi ok hg ht he hs) fun s H Q q => lc_red hx q
theorem xs_setLc {n : Nat} {y : Str} {py spos : Pos} (hc : X.calm = true) (hN : X.N.Nodup) (hy : X.N[n]? = some y) (hyl : X.env.scope.names.lookup y = some .local)
    (hsw : swapsWith (.ListComp elt [⟨tg, iter, ifs, 0⟩] scope pos) (some (.Name y py)) spos.line X.env = pure true) (hi : XI X cf tg iter it) (ok : BlkOk X.N X.env.scope scope own)
    (hg : ∀ (s : Shared) (H : Hp) (C : Addr) (cl : List (Str × Addr)) (fp : List Addr), XG (X.blk s H scope (compEnvC scope cl C X.env) fp) tg t) (ht : ∀ (s : Shared) (H : Hp) (C : Addr) (cl : List (Str × Addr)) (fp : List Addr), XTs (X.blk s H scope (compEnvC scope cl C X.env) fp) cf ifs ic)
    (he : ∀ (s : Shared) (H : Hp) (C : Addr) (cl : List (Str × Addr)) (fp : List Addr), XE (X.blk s H scope (compEnvC scope cl C X.env) fp) cf elt i) (hx : ∀ j ∈ t.ixs, j ∈ own.map (·.2)) (hs : ∀ x, foldedSetIterable iter X.env x = pure x := by intro _; rfl) :
    XS X cf (.Assign [.Name y py] (.ListComp elt [⟨tg, iter, ifs, 0⟩] scope pos) spos) (.asg (.name n) (.lc (own.map (·.2)) t it ic i)) := by
  refine ps_imp (ps_setLc (g := gOf X.K t) (tt := TTv X.K (evE cf ic)) (te := TEv X.K (evE cf i)) hc hN hy hyl hsw hi ok hg ht he hs) fun D s H q => ?_
  have := asg_red (X := X) (t := .name n) q
  exact lc_red hx this
end
end
end Mp

/-! Mp3f: stores, methods, dict displays, isinstance, calls, defs. -/
namespace Mp
open PySem L2

def RSt (K : PySem.W.Frag) : TSet := fun o i v H Q => ∃ r M po pi pv M', RH K r M H ∧ RV K r H po o ∧ RV K r H pi i ∧ RV K r H pv v ∧ stoP M po pi pv = some M' ∧ ∀ r' H', Ext r r' H H' → RH K r' M' H' → Q H'
theorem putM_ok {K : PySem.W.Frag} {r : List Addr} {H : Hp} {k : Key} {p : PV} {v : V} (h : RV K r H p v) : ∀ {kvs : List (Key × PV)} {vs : List (Key × V)}, vs.map (·.1) = kvs.map (·.1) → RVs K r H (kvs.map (·.2)) (vs.map (·.2)) →
    (vs.map fun kv => if kv.1 = k then (kv.1, v) else kv).map (·.1) = (kvs.map fun kv => if kv.1 = k then (kv.1, p) else kv).map (·.1) ∧
      RVs K r H ((kvs.map fun kv => if kv.1 = k then (kv.1, p) else kv).map (·.2)) ((vs.map fun kv => if kv.1 = k then (kv.1, v) else kv).map (·.2))
  | [], [], _, _ => ⟨rfl, .nil⟩
  | [], _ :: _, e, _ => by simp at e
  | _ :: _, [], e, _ => by simp at e
  | (k1, p1) :: kvs, (k2, v2) :: vs, e, hs => by
    simp only [List.map_cons, List.cons.injEq] at e
    obtain ⟨e1, e2⟩ := e
    have e1 : k2 = k1 := e1
    subst e1
    cases hs with
    | cons h1 hs =>
      obtain ⟨i1, i2⟩ := putM_ok (k := k) h e2 hs
      by_cases hk : k2 = k
      · subst hk
        simp only [List.map_cons, if_pos]
        exact ⟨by rw [i1], .cons h i2⟩
      · simp only [List.map_cons, if_neg hk]
        exact ⟨by rw [i1], .cons h1 i2⟩
theorem putD_ok {K : PySem.W.Frag} {r : List Addr} {H : Hp} (k : Key) {p : PV} {v : V} {kvs : List (Key × PV)} {vs : List (Key × V)} (h : RV K r H p v) (e : vs.map (·.1) = kvs.map (·.1)) (hs : RVs K r H (kvs.map (·.2)) (vs.map (·.2))) :
    (putK vs k v).map (·.1) = (putD kvs k p).map (·.1) ∧ RVs K r H ((putD kvs k p).map (·.2)) ((putK vs k v).map (·.2)) := by
  have ea : (vs.any fun kv => decide (kv.1 = k)) = (kvs.any fun kv => decide (kv.1 = k)) := by
    have h1 : (vs.any fun kv => decide (kv.1 = k)) = (vs.map (·.1)).any fun q => decide (q = k) := by rw [List.any_map]; rfl
    have h2 : (kvs.any fun kv => decide (kv.1 = k)) = (kvs.map (·.1)).any fun q => decide (q = k) := by rw [List.any_map]; rfl
    rw [h1, h2, e]
  unfold putK putD
  rw [ea]
  split
  · exact putM_ok h e hs
  · refine ⟨by simp [e], ?_⟩
    rw [List.map_append, List.map_append]
    exact hs.append (.cons h .nil)
section
variable {X : Cx} {cf : CF} {e a b c o tg iter : Expr} {es : List Expr} {st : Stmt} {sts sts2 : List Stmt} {i ia ib ic io : E} {is : S} {iss iss2 : Ss} {pos : Pos}
theorem setx (hu : X.A.units + 64 < cLine) : PSet X (RSt X.K) := by
  intro pins s σ H o i v ov iv u Q I ro ri rv h
  obtain ⟨r, M, po, pi, pv, M', hh, vo, vi, vv, e, q⟩ := h
  cases vo with
  | @ref n a1 hn =>
    simp only [stoP] at e
    split at e
    · rename_i xs k e1
      obtain ⟨j, e2, e3⟩ := Option.map_eq_some_iff.mp e
      subst e3
      obtain ⟨b1, g1, vs, g2, g3⟩ := hh.at e1
      rw [hn] at g1; cases g1
      cases vi
      refine set_list pins s σ H _ _ v ov iv u Q I ro ri rv ⟨a1, vs, k, j, rfl, rfl, g2, by rw [← g3.length]; exact e2, ?_⟩
      have x := ext_set (r := r) (o := .lst (vs.set j v)) g2 trivial (List.mem_of_getElem? hn)
      exact q r _ x (hh.set hn ⟨_, upd_same, (g3.set j vv).ext x⟩)
    · rename_i _ kvs e1
      obtain ⟨k, e2, e3⟩ := Option.bind_eq_some_iff.mp e
      split at e3
      · rename_i hl
        cases e3
        obtain ⟨vs, g2, g3, g4⟩ := dic_of hh e1 hn
        have := keyOf_ok vi e2
        subst this
        obtain ⟨p1, p2⟩ := putD_ok k vv g3 g4
        have x := ext_set (r := r) (o := .dK (putK vs k v)) g2 trivial (List.mem_of_getElem? hn)
        refine set_dict (by omega) pins s σ H _ _ v ov iv u Q I ro ri rv ⟨a1, _, rfl, DPut.k (k := k) g2 ?_, q r _ x (hh.set (o := .dic (putD kvs k pv)) hn ⟨_, upd_same, p1, p2.ext x⟩)⟩
        have := congrArg List.length g3
        simp only [List.length_map] at this
        omega
      · cases e3
    · cases e
  | _ => simp [stoP] at e
theorem xs_sto (hu : X.A.units + 64 < cLine) (hv : XE X cf e i) (ho : XE X cf a ia) (hi : XE X cf b ib) {spos : Pos}
    (ha : ∀ v, assign (.Subscript a b pos) X.env v = (do
      let ov ← holding [v] (eval a X.env)
      let iv ← holding [v, ov] (eval b X.env)
      standAt pos
      holding [v, ov, iv] (setItem ov iv v)
      release [v, ov, iv] []) := by intro _; rfl)
    (h1 : swapsWithSole [.Subscript a b pos] e spos.line X.env = pure false := by rfl) (h2 : swappedStores [.Subscript a b pos] e X.env = pure none := by rfl)
    (h3 : (assignEach [.Subscript a b pos] X.env).map (·.2) = [assign (.Subscript a b pos) X.env] := by rfl) : XS X cf (.Assign [.Subscript a b pos] e spos) (.sto ia ib i) := by
  refine ps_imp (ps_asg hv (pg_sub ho hi (setx hu) ha) h1 h2 h3) fun D s H q => ?_
  obtain ⟨r, sg, M, fl, M', hs, hh, ev, q⟩ := q
  simp only [evS] at ev
  split at ev
  · rename_i x M1 e1
    split at ev
    · rename_i y M2 e2
      split at ev
      · rename_i z M3 e3
        obtain ⟨M4, e4, e5⟩ := Option.map_eq_some_iff.mp ev
        cases e5
        exact ⟨r, sg, M, x, M1, hs, hh, e1, fun r1 u1 H1 x1 h1 v1 => ⟨r1, sg, M1, y, M2, hs.ext x1, h1, e2, fun r2 u2 H2 x2 h2 v2 => ⟨r2, sg, M2, z, M3, hs.ext (x1.trans x2), h2, e3, fun r3 u3 H3 x3 h3 v3 =>
          ⟨r3, M3, y, z, x, _, h3, v2.ext x3, v3, v1.ext (x2.trans x3), e4, fun r4 H4 x4 h4 => q r4 H4 (x1.trans (x2.trans (x3.trans x4))) h4 s (hs.ext (x1.trans (x2.trans (x3.trans x4))))⟩⟩⟩⟩
      · cases ev
    · cases ev
  · cases ev

/-! ### two and three names at once -/
theorem tup_inv {j : Es} {sg : Sg} {M M' : Mm} {z : PV} (ev : evE cf (.tup j) sg M = some (z, M')) : ∃ xs, evEs cf j sg M = some (xs, M') ∧ z = .tup xs := by
  simp only [evE] at ev
  split at ev
  · rename_i xs M1 e1
    split at ev
    · cases ev; exact ⟨xs, e1, rfl⟩
    · cases ev
  · cases ev
theorem xs_par2 {m n : Nat} {x y : Str} {px py pt : Pos} {kt k2 pt2} {j : Es} (hc : X.calm = true) (hN : X.N.Nodup) (hi : X.N[m]? = some x) (hj : X.N[n]? = some y) (hij : m ≠ n)
    (hx : X.env.scope.names.lookup x = some .local) (hy : X.env.scope.names.lookup y = some .local) (ha : XA X cf [a, b] j)
    (hw : swappedStores [.Tuple [.Name x px, .Name y py] kt pt] (.Tuple [a, b] k2 pt2) X.env = pure (some [x, y]))
    (hs : swapsWithSole [.Tuple [.Name x px, .Name y py] kt pt] (.Tuple [a, b] k2 pt2) pos.line X.env = pure false := by rfl) :
    XS X cf (.Assign [.Tuple [.Name x px, .Name y py] kt pt] (.Tuple [a, b] k2 pt2) pos) (.asg (.tup [m, n]) (.tup j)) := by
  refine ps_imp (ps_par hc hN hi hj hij hx hy ha hw hs) fun D s H q => ?_
  obtain ⟨r, sg, M, fl, M', hs, hh, ev, q⟩ := q
  simp only [evS] at ev
  split at ev
  · rename_i z M1 e1
    obtain ⟨xs, e1', rfl⟩ := tup_inv e1
    obtain ⟨sg1, e2, e3⟩ := Option.map_eq_some_iff.mp ev
    cases e3
    refine ⟨r, sg, M, xs, _, hs, hh, e1', fun r1 vs H1 x1 h1 v1 => ?_⟩
    match xs, v1, e2 with
    | [p1, p2], .cons w1 (.cons w2 .nil), e2 =>
      simp only [tgP, setAll] at e2
      cases e2
      exact ⟨_, _, rfl, q r1 H1 x1 h1 _ (((hs.ext x1).set m w1).set n w2)⟩
  · cases ev
theorem xs_par3 {m n l : Nat} {x y z : Str} {px py pz pt : Pos} {kt k2 pt2} {j : Es} (hc : X.calm = true) (hN : X.N.Nodup) (hi : X.N[m]? = some x) (hj : X.N[n]? = some y) (hl : X.N[l]? = some z) (hij : m ≠ n) (hil : m ≠ l) (hjl : n ≠ l)
    (hx : X.env.scope.names.lookup x = some .local) (hy : X.env.scope.names.lookup y = some .local) (hz : X.env.scope.names.lookup z = some .local) (ha : XA X cf [a, b, c] j)
    (hw : swappedStores [.Tuple [.Name x px, .Name y py, .Name z pz] kt pt] (.Tuple [a, b, c] k2 pt2) X.env = pure (some [x, y, z]))
    (hs : swapsWithSole [.Tuple [.Name x px, .Name y py, .Name z pz] kt pt] (.Tuple [a, b, c] k2 pt2) pos.line X.env = pure false := by rfl) :
    XS X cf (.Assign [.Tuple [.Name x px, .Name y py, .Name z pz] kt pt] (.Tuple [a, b, c] k2 pt2) pos) (.asg (.tup [m, n, l]) (.tup j)) := by
  refine ps_imp (ps_par3 hc hN hi hj hl hij hil hjl hx hy hz ha hw hs) fun D s H q => ?_
  obtain ⟨r, sg, M, fl, M', hs, hh, ev, q⟩ := q
  simp only [evS] at ev
  split at ev
  · rename_i z M1 e1
    obtain ⟨xs, e1', rfl⟩ := tup_inv e1
    obtain ⟨sg1, e2, e3⟩ := Option.map_eq_some_iff.mp ev
    cases e3
    refine ⟨r, sg, M, xs, _, hs, hh, e1', fun r1 vs H1 x1 h1 v1 => ?_⟩
    match xs, v1, e2 with
    | [p1, p2, p3], .cons w1 (.cons w2 (.cons w3 .nil)), e2 =>
      simp only [tgP, setAll] at e2
      cases e2
      exact ⟨_, _, _, rfl, q r1 H1 x1 h1 _ ((((hs.ext x1).set m w1).set n w2).set l w3)⟩
  · cases ev

/-! ### dicts -/
theorem Post.dic {K : PySem.W.Frag} {r : List Addr} {H : Hp} {M : Mm} {Q : VK} {p : Addr} (q : Post K r H (.ref M.length) (M ++ [.dic []]) Q) (h : RH K r M H) (hp : H p = none) : Q (.ref p) (upd H p (.dK [])) :=
  q (r ++ [p]) _ _ (ext_new hp [p]) (h.new hp ⟨[], upd_same, rfl, .nil⟩) (.ref (by rw [← h.len]; simp))
theorem xe_dnew : XE X cf (.Dict [] [] pos) .dnew := by
  refine pe_imp pe_dnewK fun s H Q h => ?_
  obtain ⟨r, sg, M, z, M', hs, hh, e, q⟩ := h
  simp only [evE] at e
  cases e
  exact fun p hp => q.dic hh hp
/-- the pairs of a written dict -/
def TPv (K : PySem.W.Frag) (ks : List Key) (f : Sg → Mm → Option (List PV × Mm)) : L2.St → Hp → (List (V × V) → Hp → Prop) → Prop := fun s H Q => ∃ r sg M xs M', RS K r H sg s ∧ RH K r M H ∧ f sg M = some (xs, M') ∧
  ∀ r' vs H', Ext r r' H H' → RH K r' M' H' → RVs K r' H' xs vs → Q ((ks.map kV).zip vs) H'
structure XP (X : Cx) (cf : CF) (pos : Pos) (ks : List (Option Expr)) (vs : List Expr) (trs : List (TE × TE)) (keys : List Key) (j : Es) : Prop where
  pp : PPs X pos ks vs trs
  len : keys.length = vs.length
  red : ∀ s H Q, TPv X.K keys (evEs cf j) s H Q → tPairs trs s H Q
theorem xp_nil : XP X cf pos [] [] [] [] .nil := ⟨pps_nil, rfl, fun s H Q h => by
  obtain ⟨r, sg, M, xs, M', hs, hh, e, q⟩ := h
  simp only [evEs] at e
  cases e
  exact q r [] H .refl hh .nil⟩
theorem xp_str {k : Str} {jj : Nat} {kp : Pos} {ks : List (Option Expr)} {vs : List Expr} {trs : List (TE × TE)} {keys : List Key} {j : Es} (h : XE X cf e i) (hr : XP X cf pos ks vs trs keys j) :
    XP X cf pos (some (.Constant (.str k) jj kp) :: ks) (e :: vs) ((tC (.str k), TEv X.K (evE cf i)) :: trs) (.inr k :: keys) (.cons i j) := ⟨pps_cons pe_str h hr.pp, by simp [hr.len], fun s H Q h => by
  obtain ⟨r, sg, M, ys, M', hs, hh, e, q⟩ := h
  obtain ⟨x, xs, M1, e1, e2, rfl⟩ := evEs_cons e
  refine ⟨r, sg, M, x, M1, hs, hh, e1, fun r1 u1 H1 x1 h1 v1 => hr.red _ _ _ ⟨r1, sg, M1, xs, M', hs.ext x1, h1, e2, fun r2 us H2 x2 h2 v2 => ?_⟩⟩
  exact q r2 (u1 :: us) H2 (x1.trans x2) h2 (.cons (v1.ext x2) v2)⟩
theorem fold_ok {K : PySem.W.Frag} {r : List Addr} {H : Hp} : ∀ {ks : List Key} {xs : List PV} {vs : List V} {kvs : List (Key × PV)} {ws : List (Key × V)}, RVs K r H xs vs → ws.map (·.1) = kvs.map (·.1) → RVs K r H (kvs.map (·.2)) (ws.map (·.2)) →
    (mergeK ws (ks.zip vs)).map (·.1) = ((ks.zip xs).foldl (fun acc kv => putD acc kv.1 kv.2) kvs).map (·.1) ∧ RVs K r H (((ks.zip xs).foldl (fun acc kv => putD acc kv.1 kv.2) kvs).map (·.2)) ((mergeK ws (ks.zip vs)).map (·.2))
  | [], _, _, _, _, _, e, h => by simpa [mergeK] using ⟨e, h⟩
  | _ :: _, [], _, _, _, .nil, e, h => by simpa [mergeK] using ⟨e, h⟩
  | k :: ks, x :: xs, _, kvs, ws, .cons (v := v) h1 hs, e, h => by
    obtain ⟨p1, p2⟩ := putD_ok k h1 e h
    have := fold_ok (ks := ks) hs p1 p2
    simpa [mergeK] using this
theorem xe_dct {ks : List (Option Expr)} {vs : List Expr} {trs : List (TE × TE)} {keys : List Key} {j : Es} (h : XP X cf pos ks vs trs keys j) (hall : ks.all (·.isSome) = true) (hl : ks.length = vs.length) (h0 : ks ≠ []) (h15 : ks.length ≤ 15) :
    XE X cf (.Dict ks vs pos) (.dct keys j) := by
  refine pe_imp (pe_disp h.pp hall hl h0 h15) fun s H Q q => ?_
  obtain ⟨r, sg, M, z, M', hs, hh, e, q⟩ := q
  simp only [evE] at e
  intro p hp
  have x0 := ext_new (r := r) (o := .dK []) hp [p]
  have hn : RH X.K (r ++ [p]) (M ++ [.dic []]) (upd H p (.dK [])) := hh.new hp ⟨[], upd_same, rfl, .nil⟩
  have hd : (r ++ [p])[M.length]? = some p := by rw [← hh.len]; simp
  split at e
  · rename_i xs M1 e1
    split at e
    · rename_i hk
      split at e
      · rename_i e2
        cases e
        refine h.red _ _ _ ⟨r ++ [p], sg, _, xs, M1, hs.ext x0, hn, e1, fun r1 ws H1 x1 h1 v1 => ?_⟩
        have g2 : M1[M.length]? = some (.dic []) := by
          unfold dicAt at e2
          split at e2
          · rename_i kv e3; cases e2; exact e3
          · cases e2
        obtain ⟨vs', k2, k3, _⟩ := dic_of h1 g2 (x1.at hd)
        have k3' : vs' = [] := by simpa using k3
        subst k3'
        obtain ⟨p1, p2⟩ := fold_ok (ks := keys) (kvs := []) (ws := []) v1 rfl .nil
        have x2 := ext_set (r := r1) (o := .dK (mergeK [] (keys.zip ws))) k2 trivial (List.mem_of_getElem? (x1.at hd))
        refine ⟨k2, keys.zip ws, ?_, ?_, q r1 _ _ (x0.trans (x1.trans x2)) (h1.set (x1.at hd) ⟨_, upd_same, p1, p2.ext x2⟩) (.ref (x1.at hd))⟩
        · rw [List.zip_map_left]
          rfl
        · rw [List.length_zip]; have := hk.2; omega
      · cases e
    · cases e
  · cases e

/-! ### methods -/
theorem mth_inv {m : Mt} {j : Es} {sg : Sg} {M M' : Mm} {z : PV} (ev : evE cf (.mth m io j) sg M = some (z, M')) : ∃ x xs M1 M2, evE cf io sg M = some (x, M1) ∧ mtOk M1 m x = true ∧ evEs cf j sg M1 = some (xs, M2) ∧ mthP M2 m x xs = some (z, M') := by
  simp only [evE] at ev
  split at ev
  · rename_i x M1 e1
    split at ev
    · rename_i hk
      split at ev
      · rename_i xs M2 e2; exact ⟨x, xs, M1, M2, e1, hk, e2, ev⟩
      · cases ev
    · cases ev
  · cases ev
/-- a method's rule by values -/
def RMt (K : PySem.W.Frag) (m : Mt) : V → List V → Hp → VK → Prop := fun x vs H Q => ∃ r M p ps z M', RH K r M H ∧ RV K r H p x ∧ RVs K r H ps vs ∧ mthP M m p ps = some (z, M') ∧ Post K r H z M' Q
theorem mt_red {T : String} {m : Mt} {j : Es} {ta : TA} {s : L2.St} {H : Hp} {Q : VK} (hT : ∀ K r M H x v, RH K r M H → RV K r H x v → mtOk M m x = true → tyV K T v H) (hta : ∀ s H Q, TAv X.K (evEs cf j) s H Q → ta s H Q)
    (q : TEv X.K (evE cf (.mth m io j)) s H Q) : tBM X.K T (RMt X.K m) (TEv X.K (evE cf io)) ta s H Q := by
  obtain ⟨r, sg, M, z, M', hs, hh, ev, q⟩ := q
  obtain ⟨x, xs, M1, M2, e1, hk, e2, e3⟩ := mth_inv ev
  exact ⟨r, sg, M, x, M1, hs, hh, e1, fun r1 u1 H1 x1 h1 v1 => ⟨hT _ _ _ _ _ _ h1 v1 hk, hta _ _ _ ⟨r1, sg, M1, xs, M2, hs.ext x1, h1, e2, fun r2 us H2 x2 h2 v2 => ⟨r2, M2, x, xs, z, M', h2, v1.ext x2, v2, e3, fun r3 u3 H3 x3 h3 v3 => q r3 u3 H3 (x1.trans (x2.trans x3)) h3 v3⟩⟩⟩⟩
theorem tyL {m : Mt} (hm : ∀ M x, mtOk M m x = true → ∃ n xs, x = .ref n ∧ lstAt M n = some xs) : ∀ K r M H x v, RH K r M H → RV K r H x v → mtOk M m x = true → tyV K "list" v H := fun K r M H x v hh hv hk => by
  obtain ⟨n, xs, rfl, e⟩ := hm M x hk
  obtain ⟨a, vs, g1, g2, g3⟩ := lst_of hh e
  have := hv.refAt g1
  subst this
  exact .inl ⟨rfl, vs, .inl (.inl g2)⟩
theorem mtx_append : MtR X "list.append" (RMt X.K .append) := by
  intro pins s σ H x vs v us Q I rx rs h
  obtain ⟨r, M, p, ps, z, M', hh, hv, hs, e, q⟩ := h
  match p, ps, hv, hs, e with
  | .ref n, [y], hv, .cons hy .nil, e =>
    simp only [mthP] at e
    obtain ⟨l, e5, e6⟩ := Option.bind_eq_some_iff.mp e
    split at e6
    · rename_i hl
      obtain ⟨rfl, rfl⟩ := Prod.mk.inj (Option.some.inj e6)
      obtain ⟨a, ws, g1, g2, g3⟩ := lst_of hh e5
      have := hv.refAt g1
      subst this
      exact mt_append pins s σ H _ _ v us Q I rx rs ⟨a, ws, _, rfl, rfl, g2, by rw [← g3.length]; exact hl, q.set hh g1 (g3.append (.cons hy .nil)) .non⟩
    · cases e6
theorem RVs.erase {K : PySem.W.Frag} {r : List Addr} {H : Hp} : ∀ {x : List PV} {v : List V} (n : Nat), RVs K r H x v → RVs K r H (x.eraseIdx n) (v.eraseIdx n)
  | _, _, _, .nil => .nil
  | _, _, 0, .cons _ hs => hs
  | _, _, n + 1, .cons h hs => .cons h (RVs.erase n hs)
theorem mtx_pop1 : MtR X "list.pop" (RMt X.K .pop1) := by
  intro pins s σ H x vs v us Q I rx rs h
  obtain ⟨r, M, p, ps, z, M', hh, hv, hs, e, q⟩ := h
  match p, ps, hv, hs, e with
  | .ref n, [.int i], hv, .cons hy .nil, e =>
    cases hy
    simp only [mthP] at e
    obtain ⟨l, e5, e6⟩ := Option.bind_eq_some_iff.mp e
    obtain ⟨j, e7, e8⟩ := Option.bind_eq_some_iff.mp e6
    obtain ⟨y, e9, e10⟩ := Option.map_eq_some_iff.mp e8
    obtain ⟨rfl, rfl⟩ := Prod.mk.inj e10
    obtain ⟨a, ws, g1, g2, g3⟩ := lst_of hh e5
    have := hv.refAt g1
    subst this
    obtain ⟨w, w1, w2⟩ := g3.get e9
    obtain ⟨k1, k2, k3, k4⟩ := ixN_seq e7
    have hz : l.length ≤ sizeLine := by
      have := (I.hok a _ g2).1
      rw [g3.length]; exact this
    have h24 : sizeLine = 16777216 := rfl
    refine mt_popAt pins s σ H _ _ v us Q I rx rs ⟨a, ws, i, j, w, rfl, rfl, g2, by omega, by omega, by rw [← g3.length]; exact k1, w1, q.set hh g1 (g3.erase j) w2⟩
theorem xe_append {apos cpos : Pos} (ho : XE X cf o io) (h : XE X cf e i) (hbase : attributeBase o "append" X.env (eval o X.env) = eval o X.env := by rfl)
    (hfew : ((backTo cpos (starEach [e] X.env)).all (fun x => !x.1) && (backToKw cpos (keywordEach [] X.env)).all (fun x => x.1.isSome)
      && decide ([e].length + ([] : List Keyword).length + (if ([] : List Keyword).isEmpty then 0 else 1) < 30)) = true := by rfl)
    (hline : (apos.endLine == cpos.line) = true := by rfl) (hs : starEach [e] X.env = (false, eval e X.env) :: starEach [] X.env := by rfl) (hplain : (backTo cpos (starEach [] X.env)).any (·.1) = false := by rfl) :
    XE X cf (.Call (.Attribute o "append" apos) [e] [] cpos) (.mth .append io (.cons i .nil)) :=
  pe_imp (pe_bm PySem.F.plainAttrs_list PySem.F.slot_list_append PySem.F.type_list_append mtx_append ho (xa_cons h xa_nil hs) hbase hfew hline hs hplain) fun s H Q q =>
    mt_red (tyL fun M x hk => by cases x <;> simp [mtOk] at hk; obtain ⟨xs, e⟩ := Option.isSome_iff_exists.mp hk; exact ⟨_, xs, rfl, e⟩) (fun _ _ _ q => q) q
theorem xe_pop1 {apos cpos : Pos} (ho : XE X cf o io) (h : XE X cf e i) (hbase : attributeBase o "pop" X.env (eval o X.env) = eval o X.env := by rfl)
    (hfew : ((backTo cpos (starEach [e] X.env)).all (fun x => !x.1) && (backToKw cpos (keywordEach [] X.env)).all (fun x => x.1.isSome)
      && decide ([e].length + ([] : List Keyword).length + (if ([] : List Keyword).isEmpty then 0 else 1) < 30)) = true := by rfl)
    (hline : (apos.endLine == cpos.line) = true := by rfl) (hs : starEach [e] X.env = (false, eval e X.env) :: starEach [] X.env := by rfl) (hplain : (backTo cpos (starEach [] X.env)).any (·.1) = false := by rfl) :
    XE X cf (.Call (.Attribute o "pop" apos) [e] [] cpos) (.mth .pop1 io (.cons i .nil)) :=
  pe_imp (pe_bm PySem.F.plainAttrs_list PySem.F.slot_list_pop PySem.F.type_list_pop mtx_pop1 ho (xa_cons h xa_nil hs) hbase hfew hline hs hplain) fun s H Q q =>
    mt_red (tyL fun M x hk => by cases x <;> simp [mtOk] at hk; obtain ⟨xs, e⟩ := Option.isSome_iff_exists.mp hk; exact ⟨_, xs, rfl, e⟩) (fun _ _ _ q => q) q
end
end Mp

/-! Mp3g: isinstance, calls of defs, defs. -/
namespace Mp
open PySem L2

/-! ### isinstance -/
def tyS : Ty → String
  | .list => "list" | .tuple => "tuple" | .int => "int" | .bool => "bool" | .str => "str" | .dict => "dict"
theorem kit_tys (u t : Ty) : kitB (tyS u) (tyS t) = some (u == t || (u == .bool && t == .int)) := by
  cases u <;> cases t <;> decide +kernel
theorem kit_non (t : Ty) : kitB "NoneType" (tyS t) = some false := by
  cases t <;> decide +kernel
theorem tyx {K : PySem.W.Frag} {r : List Addr} {H : Hp} {M : Mm} {x : PV} {v : V} (hh : RH K r M H) (h : RV K r H x v) (hx : ∀ n, x = .ref n → ∃ o, M[n]? = some o) (ni : insP M x = false) : ∃ T : String, TyX K H v (.type T) ∧ ∀ t, kitB T (tyS t) = some (isTy M x t) := by
  cases h with
  | non => exact ⟨"NoneType", .base .non, fun t => by rw [kit_non]; rfl⟩
  | bl b => exact ⟨"bool", .base (.bl b), fun t => kit_tys .bool t⟩
  | int b => exact ⟨"int", .base (.int b), fun t => kit_tys .int t⟩
  | str b => exact ⟨"str", .base (.str b), fun t => kit_tys .str t⟩
  | @tup xs a vs ht hs =>
    refine ⟨"tuple", ?_, fun t => kit_tys .tuple t⟩
    rcases ht with (ht | ⟨o, ht⟩) | ⟨o, its, n, h1, h2, _⟩
    · exact .base (.tup ht)
    · exact .fTuple ht
    · exact .kTuple h1 h2
  | @cl ns a hc =>
    refine ⟨"list", ?_, fun t => kit_tys .list t⟩
    rcases hc with ⟨o, hc⟩ | hc
    · exact .base (.frz hc)
    · rcases hc (fun _ => none) with (z | ⟨o, z⟩) | ⟨o, its, n, h1, h2, _⟩
      · cases z
      · cases z
      · exact .kList h1 h2
  | @ref n a hn =>
    obtain ⟨o, ho⟩ := hx n rfl
    have q := hh.ob n a o hn ho
    cases o with
    | lst xs =>
      obtain ⟨vs, g, _⟩ := q
      refine ⟨"list", .base (.lst g), fun t => ?_⟩
      rw [show isTy M (.ref n) t = (Ty.list == t || (Ty.list == .bool && t == .int)) by simp [isTy, tyOf, ho]]
      exact kit_tys .list t
    | dic xs =>
      obtain ⟨vs, g, _⟩ := q
      refine ⟨"dict", .base (.dK g), fun t => ?_⟩
      rw [show isTy M (.ref n) t = (Ty.dict == t || (Ty.dict == .bool && t == .int)) by simp [isTy, tyOf, ho]]
      exact kit_tys .dict t
    | ins c fs => simp [ho] at ni
  | fn n x => simp at ni
theorem ref_in {K : PySem.W.Frag} {r : List Addr} {H : Hp} {M : Mm} {x : PV} {v : V} (hh : RH K r M H) (h : RV K r H x v) : ∀ n, x = .ref n → ∃ o, M[n]? = some o := fun n e => by
  subst e
  cases h with
  | ref hn =>
    have : n < M.length := by rw [← hh.len]; exact (List.getElem?_eq_some_iff.mp hn).1
    exact ⟨_, List.getElem?_eq_getElem this⟩
theorem kitAny_tys {K : PySem.W.Frag} {T : String} {f : Ty → Bool} (h : ∀ t, kitB T (tyS t) = some (f t)) : ∀ ts : List Ty, PySem.W.kitAny K (.type T) (ts.map fun t => Value.type (tyS t)) = some (ts.any f)
  | [] => kitAny_nil
  | t :: ts => kitAny_cons (kit_ty (h t)) (fun hb => by rw [List.any_cons, hb, Bool.false_or]; exact kitAny_tys h ts) (fun hb => by rw [List.any_cons, hb, Bool.true_or])
theorem cls_tys : ∀ ts : List Ty, Paired ClsV (ts.map fun t => V.ty (tyS t)) (ts.map fun t => Value.type (tyS t))
  | [] => .nil
  | t :: ts => .cons (.ty _) (cls_tys ts)
section
variable {X : Cx} {cf : CF} {e a b : Expr} {es : List Expr} {i ia : E} {pos p : Pos}
theorem xe_isi1 {t : Ty} (hg : Gl X "isinstance") (hm : X.mg "isinstance" = none) (ha : XE X cf a ia) (hb : PE X b (tC (.ty (tyS t))))
    (he : starEach [a, b] X.env = (false, eval a X.env) :: starEach [b] X.env := by rfl) (he2 : starEach [b] X.env = (false, eval b X.env) :: starEach [] X.env := by rfl) (hpl : (backTo pos (starEach [b] X.env)).any (·.1) = false := by rfl) :
    XE X cf (.Call (.Name "isinstance" p) [a, b] [] pos) (.isi ia [t]) := by
  refine pe_imp (pe_callB call_isi hg hm (by decide +kernel) (pa_cons ha (pa_cons hb pa_nil he2) he) (by decide) (by decide) he hpl) fun s H Q h => ?_
  obtain ⟨r, sg, M, z, M', hs, hh, ev, q⟩ := h
  simp only [evE] at ev
  split at ev
  · rename_i x M1 e1
    split at ev
    · cases ev
    rename_i ni
    have ni := eq_false_of_ne_true ni
    cases ev
    refine ⟨r, sg, M, x, _, hs, hh, e1, fun r1 u1 H1 x1 h1 v1 => ?_⟩
    obtain ⟨T, ty, k⟩ := tyx h1 v1 (ref_in h1 v1) ni
    refine ⟨u1, .ty (tyS t), _, _, _, rfl, .ty _, ty, kit_ty (k t), q r1 _ H1 x1 h1 ?_⟩
    rw [List.any_cons, List.any_nil, Bool.or_false]
    exact .bl _
  · cases ev
theorem xe_isiT {ts : List Ty} {k : Nat} {tp : Pos} {tes : List Expr} {tt : TA} (hg : Gl X "isinstance") (hm : X.mg "isinstance" = none) (ha : XE X cf a ia) (hb : PA X tes tt) (hl : ts.length ≤ 100) (htt : ∀ s H Q, Q (ts.map fun t => V.ty (tyS t)) H → tt s H Q)
    (he : starEach [a, .Tuple tes k tp] X.env = (false, eval a X.env) :: starEach [.Tuple tes k tp] X.env := by rfl) (he2 : starEach [.Tuple tes k tp] X.env = (false, eval (.Tuple tes k tp) X.env) :: starEach [] X.env := by rfl) (hpl : (backTo pos (starEach [.Tuple tes k tp] X.env)).any (·.1) = false := by rfl) :
    XE X cf (.Call (.Name "isinstance" p) [a, .Tuple tes k tp] [] pos) (.isi ia ts) := by
  refine pe_imp (pe_callB call_isiT hg hm (by decide +kernel) (pa_cons ha (pa_cons (pe_tup hb) pa_nil he2) he) (by decide) (by decide) he hpl) fun s H Q h => ?_
  obtain ⟨r, sg, M, z, M', hs, hh, ev, q⟩ := h
  simp only [evE] at ev
  split at ev
  · rename_i x M1 e1
    split at ev
    · cases ev
    rename_i ni
    have ni := eq_false_of_ne_true ni
    cases ev
    refine ⟨r, sg, M, x, _, hs, hh, e1, fun r1 u1 H1 x1 h1 v1 => htt _ _ _ ⟨?_, fun tp hp => ?_⟩⟩
    · have : sizeLine = 16777216 := rfl
      rw [List.length_map, this]; omega
    · have x2 := ext_new0 (r := r1) (o := .tup (ts.map fun t => V.ty (tyS t))) hp
      have h2 := h1.other (.tup (ts.map fun t => V.ty (tyS t))) hp
      obtain ⟨T, ty, k⟩ := tyx h2 (v1.ext x2) (ref_in h2 (v1.ext x2)) ni
      exact ⟨u1, tp, _, _, _, _, rfl, upd_same, cls_tys ts, ty, kitAny_tys k ts, q r1 _ _ (x1.trans x2) h2 (.bl _)⟩
  · cases ev
theorem pe_tyN {x : Str} {t : Ty} (hg : Gl X x) (hm : X.mg x = none) (hv : bootBuiltins x = some (.type (tyS t))) (hn : x ≠ "__name__" := by decide) (hd : (x == ("__debug__" : Str)) = false := by decide) : PE X (.Name x pos) (tC (.ty (tyS t))) := pe_bltn hg hm hv rfl hn hd

/-! ### calls of defs -/
def spEv (K : PySem.W.Frag) (cf : CF) (n np : Nat) : Sp := fun vs H Q _ => vs.length = np ∧ ∃ r M xs z M', RH K r M H ∧ RVs K r H xs vs ∧ cf n xs M = some (z, M') ∧ Post K r H z M' Q
def gK (us ws : List Value) : List Value := if us.isEmpty then ws else []
def gKV (us ws : List V) : List V := if us.isEmpty then ws else []
structure Own (P : Program) (w : World) (K : PySem.W.Frag) (mg : Str → Option Value) (base : Heap) (A : Around) (cf : CF) (x : Str) (n : Nat) (ps : List Str) (kw : Bool) : Prop where
  ex : ∃ k f fd, FnOk P w K mg base CX0 k f fd ps (spEv K cf n ps.length) ∧ Room k A ∧ mg x = some (.ref f) ∧ PySem.W.keepIn K (.ref f) = true ∧ Binds K fd ps [] ∧ (kw = true → KBinds K fd ps ps gK gKV)
  len : ∀ xs M z, cf n xs M = some z → xs.length = ps.length
structure Nm where
  x : Str
  ps : List Str
  kw : Bool
/-- every def of the program, to a depth -/
def Calls (P : Program) (w : World) (K : PySem.W.Frag) (mg : Str → Option Value) (base : Heap) (names : List Nm) (cf : CF) (k : Nat) : Prop :=
  ∀ (n : Nat) (nm : Nm), names[n]? = some nm → (∃ f fd, FnOk P w K mg base CX0 k f fd nm.ps (spEv K cf n nm.ps.length) ∧ mg nm.x = some (.ref f) ∧ PySem.W.keepIn K (.ref f) = true ∧ Binds K fd nm.ps [] ∧ (nm.kw = true → KBinds K fd nm.ps nm.ps gK gKV)) ∧
    ∀ xs M z, cf n xs M = some z → xs.length = nm.ps.length
theorem Calls.own {P : Program} {w : World} {K : PySem.W.Frag} {mg : Str → Option Value} {base : Heap} {names : List Nm} {cf : CF} {k : Nat} (C : Calls P w K mg base names cf k) {A : Around} (hr : Room k A) {n : Nat} {x : Str} {ps : List Str} {kw : Bool} (h : names[n]? = some ⟨x, ps, kw⟩) :
    Own P w K mg base A cf x n ps kw := by
  obtain ⟨⟨f, fd, h1, h2, h3, h4, h5⟩, hl⟩ := C n _ h
  exact ⟨⟨k, f, fd, h1, hr, h2, h3, h4, h5⟩, hl⟩
theorem call_red {n : Nat} {np : Nat} {j : Es} {ta : TA} {s : L2.St} {H : Hp} {Q : VK} {E : L2.XK} (hl : ∀ xs M z, cf n xs M = some z → xs.length = np) (hta : ∀ s H Q, TAv X.K (evEs cf j) s H Q → ta s H Q) (q : TEv X.K (evE cf (.call n j)) s H Q) : ta s H fun vs H1 => spEv X.K cf n np vs H1 Q E := by
  obtain ⟨r, sg, M, z, M', hs, hh, ev, q⟩ := q
  simp only [evE] at ev
  split at ev
  · rename_i xs M1 e1
    exact hta _ _ _ ⟨r, sg, M, xs, M1, hs, hh, e1, fun r1 us H1 x1 h1 v1 => ⟨by rw [← v1.length]; exact hl _ _ _ ev, r1, M1, xs, z, M', h1, v1, ev, fun r2 u2 H2 x2 h2 v2 => q r2 u2 H2 (x1.trans x2) h2 v2⟩⟩
  · cases ev
theorem xe_call {x : Str} {n : Nat} {ps : List Str} {kw : Bool} {j : Es} (O : Own X.prog X.w X.K X.mg X.base X.A cf x n ps kw) (hg : Gl X x) (ha : XA X cf (e :: es) j)
    (hdb : (x == ("__debug__" : Str)) = false := by decide) (he : starEach (e :: es) X.env = (false, eval e X.env) :: starEach es X.env := by rfl) (hpl : (backTo pos (starEach es X.env)).any (·.1) = false := by rfl) :
    XE X cf (.Call (.Name x p) (e :: es) [] pos) (.call n j) := by
  obtain ⟨k, f, fd, F, hr, hm, hk, hb, _⟩ := O.ex
  refine pe_imp (pe_call F hr hg hm hk hb .nil pass0 ha hdb he hpl) fun s H Q q => ?_
  have := call_red (E := E0) (np := ps.length) O.len (fun _ _ _ q => q) q
  unfold tCall
  simp only [List.append_nil]
  exact this
theorem xe_call0 {x : Str} {n : Nat} {ps : List Str} {kw : Bool} (O : Own X.prog X.w X.K X.mg X.base X.A cf x n ps kw) (hg : Gl X x)
    (hdb : (x == ("__debug__" : Str)) = false := by decide) : XE X cf (.Call (.Name x p) [] [] pos) (.call n .nil) := by
  obtain ⟨k, f, fd, F, hr, hm, hk, hb, _⟩ := O.ex
  refine pe_imp (pe_call0 F hr hg hm hk hb .nil pass0 hdb) fun s H Q q => ?_
  have := call_red (E := E0) (np := ps.length) (ta := tNil) O.len (fun s H Q q => by
    obtain ⟨r, sg, M, xs, M', hs, hh, ev, q⟩ := q
    simp only [evEs] at ev
    cases ev
    exact q r [] H .refl hh .nil) q
  exact this
/-- keywords alone, in the parameters' order -/
def XK (X : Cx) (cf : CF) (ks : List Keyword) (i : Es) : Prop := PK X ks (TAv X.K (evEs cf i))
theorem pk_imp {ks : List Keyword} {t t' : TA} (h : PK X ks t) (k : ∀ s H Q, t' s H Q → t s H Q) : PK X ks t' := ⟨fun p pins s σ H Q I q => h.run p pins s σ H Q I (k _ _ _ q)⟩
theorem xk_nil : XK X cf [] .nil := by
  refine pk_imp pk_nil fun s H Q h => ?_
  obtain ⟨r, sg, M, xs, M', hs, hh, e, q⟩ := h
  simp only [evEs] at e
  cases e
  exact q r [] H .refl hh .nil
theorem xk_cons {nm : Option Str} {kp : Pos} {ks : List Keyword} {j : Es} (h : XE X cf e i) (h2 : XK X cf ks j) : XK X cf (⟨nm, e, kp⟩ :: ks) (.cons i j) := by
  refine pk_imp (pk_cons h h2) fun s H Q h => ?_
  obtain ⟨r, sg, M, ys, M', hs, hh, e, q⟩ := h
  obtain ⟨x, xs, M1, e1, e2, rfl⟩ := evEs_cons e
  exact ⟨r, sg, M, x, M1, hs, hh, e1, fun r1 u1 H1 x1 h1 v1 => ⟨r1, sg, M1, xs, M', hs.ext x1, h1, e2, fun r2 us H2 x2 h2 v2 => q r2 (u1 :: us) H2 (x1.trans x2) h2 (.cons (v1.ext x2) v2)⟩⟩
theorem xe_callK0 {x : Str} {n : Nat} {ps : List Str} {kws : List Keyword} {j : Es} (O : Own X.prog X.w X.K X.mg X.base X.A cf x n ps true) (hg : Gl X x) (hkw : XK X cf kws j)
    (hall : (backToKw pos (keywordEach kws X.env)).all (·.1.isSome) = true := by rfl) (hks : (backToKw pos (keywordEach kws X.env)).filterMap (·.1) = ps := by rfl)
    (hdb : (x == ("__debug__" : Str)) = false := by decide) (hpl : ((backTo pos (starEach [] X.env)).any (·.1) || (backToKw pos (keywordEach kws X.env)).any (·.1.isNone)) = false := by rfl) :
    XE X cf (.Call (.Name x p) [] kws pos) (.call n j) := by
  obtain ⟨k, f, fd, F, hr, hm, hk, _, hb⟩ := O.ex
  refine ⟨fun pins s σ H Q I h => ?_⟩
  have h' := call_red (E := E0) (np := ps.length) O.len (fun _ _ _ q => q) h
  refine PySem.wpAny_Call_Name_kw (ld_glob I hg hm ?_ hdb)
  refine PySem.W.callWith_KW0 (h₀ := X.base) I.ok.mod.kin hk hall ?_ hpl
  refine thn (hkw.run pos pins s σ H _ I h') fun ws s2 ⟨zs, H2, I2, rz, q2⟩ => ⟨I2.kIn, ?_⟩
  rw [hks]
  have := run_fnk (ks := ps) (us := []) (vs := []) F hr (hb rfl) pass0 I2 .nil rz q2
  exact this

/-! ### a def -/
theorem rs_start {K : PySem.W.Frag} {r : List Addr} {H : Hp} {N : List Str} {xs : List PV} {vs : List V} {m : Nat} (h : RVs K r H xs vs) (hm : m = N.length - vs.length) : RS K r H (xs.map some ++ List.replicate m none) (L2.start N vs) := by
  subst hm
  refine ⟨by simp [L2.start, h.length], fun i p e => ?_⟩
  by_cases hi : i < xs.length
  · rw [List.getElem?_append_left (by simpa using hi), List.getElem?_map] at e
    obtain ⟨q, e1, e2⟩ := Option.map_eq_some_iff.mp e
    cases e2
    obtain ⟨v, v1, v2⟩ := h.get e1
    refine ⟨v, ?_, v2⟩
    unfold L2.start
    rw [List.getElem?_append_left (by rw [List.length_map, ← h.length]; exact hi), List.getElem?_map, v1]
    rfl
  · rw [List.getElem?_append_right (by simpa using hi)] at e
    rw [List.getElem?_replicate] at e
    split at e <;> cases e
theorem def_ok {P : Program} {w : World} {K : PySem.W.Frag} {mg : Str → Option Value} {base : Heap} {x qual : Str} {params : Arguments} {sts : List Stmt} {sc : Scope} {f : Addr} {fd : FuncData} {N ps : List Str} {k n : Nat} {cf cf' : CF} {d : Df} (F : FunD K x qual params sts sc [] [] f fd) (S : FnScope N ps sc)
    (h1 : d.np = ps.length) (h2 : d.ns = N.length) (hcf : ∀ xs M, cf' n xs M = runD cf d xs M)
    (body : ∀ (cdv : Value) (A : Around) (outer : List Env) (s : Shared) (H : Hp) (E : L2.XK), Room k (A.deeper (PyProof.Rows.envOfC qual sc s.heap.objs.size f cdv)) → XSs (cxOf CX0 P w K mg base N qual sc f cdv A outer s H E).nox cf sts d.body) :
    FnOk P w K mg base CX0 (k + 1) f fd ps (spEv K cf' n ps.length) := by
  refine F.ok S (fun vs H Q E h => h.1) fun cdv A outer s H vs Q E hr h => ⟨_, PSs.nox (body cdv A outer s H E hr), ?_⟩
  obtain ⟨hl, r, M, xs, z, M', hh, hv, ev, q⟩ := h
  rw [hcf] at ev
  unfold runD at ev
  split at ev
  · rename_i hx
    cases e1 : evSs cf d.body (xs.map some ++ List.replicate (d.ns - d.np) none) M with
    | none => rw [e1] at ev; cases ev
    | some o =>
      obtain ⟨fl, M1⟩ := o
      rw [e1] at ev
      refine ⟨r, _, M, fl, M1, rs_start hv (by rw [h2, h1, hl]), hh, e1, fun r1 H1 x1 h1 => ?_⟩
      cases fl with
      | ret v => cases ev; exact fun u hu => q r1 u H1 x1 h1 hu
      | nx sg => cases ev; exact fun s' _ => q r1 _ H1 x1 h1 .non
      | brk sg => cases ev
      | ct sg => cases ev
  · cases ev
theorem fn_zero {P : Program} {w : World} {K : PySem.W.Frag} {mg : Str → Option Value} {base : Heap} {f : Addr} {fd : FuncData} {ps : List Str} {k n : Nat} : FnOk P w K mg base CX0 k f fd ps (spEv K (fun _ _ _ => none) n ps.length) :=
  ⟨fun vs H Q E h => h.1, fun A outer s H args us vs Q E _ _ _ _ h => by
    obtain ⟨_, r, M, xs, z, M', _, _, ev, _⟩ := h
    cases ev⟩
theorem kbinds {K : PySem.W.Frag} {x qual : Str} {params : Arguments} {body : List Stmt} {scope : Scope} {f : Addr} {fd : FuncData} {ps : List Str} (F : FunD K x qual params body scope [] [] f fd) (hp : ps ≠ [])
    (h : ∀ (kV doc pm : Value) (an : Option Addr) (cdv ct : Value) (ws : List Value), ws.length = ps.length → bindArgs (PySem.W.fnOf x qual params body scope .none kV doc pm an cdv ct) ⟨[], ps.zip ws⟩ = pure (ps.zip ws)) : KBinds K fd ps ps gK gKV := by
  obtain ⟨oc, od, dV, kV, doc, pm, an, cdv, ct, osl, rfl, lk, hcd, hD, hK⟩ := F.ex
  rcases hD with ⟨_, rfl⟩ | ⟨e, _⟩
  · refine ⟨fun s us ws _ hl => ?_, fun {vs us zs ws} r1 r2 => ?_⟩
    · cases us with
      | nil => exact .of_eq (h kV doc pm an cdv ct ws hl)
      | cons u us =>
        have : (gK (u :: us) ws).length = 0 := rfl
        rw [this] at hl
        exact absurd (List.length_eq_zero_iff.mp hl.symm) hp
    · cases r1 with
      | nil => exact r2
      | cons _ _ => exact .nil
  · exact absurd rfl e
theorem runD_len {d : Df} {xs : List PV} {M : Mm} {z : PV × Mm} (h : runD cf d xs M = some z) : xs.length = d.np := by
  unfold runD at h
  split at h
  · assumption
  · cases h
end
end Mp

/-! Mp3h: instances: fields, methods, making. -/
namespace Mp
open PySem L2

theorem ins_of {K : PySem.W.Frag} {r : List Addr} {H : Hp} {M : Mm} {n : Nat} {c : Str} {fs : List (Str × PV)} (h : RH K r M H) (e : insAt M c n = some fs) :
    ∃ a dx vs, r[n]? = some a ∧ H a = some (.ins (He.ga K c) dx vs) ∧ vs.map (·.1) = fs.map (·.1) ∧ RVs K r H (fs.map (·.2)) (vs.map (·.2)) ∧ M[n]? = some (.ins c fs) := by
  unfold insAt at e
  split at e
  · rename_i d gs e1
    split at e
    · rename_i hd
      cases e
      subst hd
      obtain ⟨a, h1, dx, vs, h2, h3, h4⟩ := h.at e1
      exact ⟨a, dx, vs, h1, h2, h3, h4, e1⟩
    · cases e
  · cases e
section
variable {K : PySem.W.Frag} {r : List Addr} {H : Hp}
theorem look_rel {f : Str} : ∀ {fs : List (Str × PV)} {vs : List (Str × V)}, vs.map (·.1) = fs.map (·.1) → RVs K r H (fs.map (·.2)) (vs.map (·.2)) →
    (∀ v, fs.lookup f = some v → ∃ u, vs.lookup f = some u ∧ RV K r H v u) ∧ (fs.lookup f = none → vs.lookup f = none)
  | [], [], _, _ => ⟨(fun v h => by cases h), fun _ => rfl⟩
  | [], _ :: _, h, _ => by simp at h
  | _ :: _, [], h, _ => by simp at h
  | (g, x) :: fs, (g', y) :: vs, h, hv => by
    simp only [List.map_cons, List.cons.injEq] at h
    obtain ⟨h1, h2⟩ := h
    subst h1
    cases hv with
    | cons hx hs =>
      obtain ⟨i1, i2⟩ := look_rel (f := f) h2 hs
      by_cases e : f = g'
      · have b : (f == g') = true := beq_iff_eq.mpr e
        simp only [List.lookup_cons, b]
        exact ⟨fun v q => by cases q; exact ⟨y, rfl, hx⟩, fun q => by cases q⟩
      · have b : (f == g') = false := beq_eq_false_iff_ne.mpr e
        simp only [List.lookup_cons, b]
        exact ⟨i1, i2⟩
theorem put_rel {f : Str} {x : PV} {u : V} (hx : RV K r H x u) : ∀ {fs : List (Str × PV)} {vs : List (Str × V)}, vs.map (·.1) = fs.map (·.1) → RVs K r H (fs.map (·.2)) (vs.map (·.2)) →
    (putF f u vs).map (·.1) = (putA f x fs).map (·.1) ∧ RVs K r H ((putA f x fs).map (·.2)) ((putF f u vs).map (·.2))
  | [], [], _, _ => ⟨rfl, .cons hx .nil⟩
  | [], _ :: _, h, _ => by simp at h
  | _ :: _, [], h, _ => by simp at h
  | (g, z) :: fs, (g', y) :: vs, h, hv => by
    simp only [List.map_cons, List.cons.injEq] at h
    obtain ⟨h1, h2⟩ := h
    subst h1
    cases hv with
    | cons hy hs =>
      by_cases e : g' = f
      · simp only [putF, putA, if_pos e, List.map_cons]
        exact ⟨by rw [h2], .cons hx hs⟩
      · obtain ⟨i1, i2⟩ := put_rel (f := f) hx h2 hs
        simp only [putF, putA, if_neg e, List.map_cons]
        exact ⟨by rw [i1], .cons hy i2⟩
end
section
variable {X : Cx} {cf : CF} {e a b o value : Expr} {es : List Expr} {i io ia iv : E} {pos pos' p tpos apos : Pos} {c f m : Str}
theorem xe_fld (he : XE X cf e i) (k : Cls X.K (He.ga X.K c)) (n : NoAttr X.K (He.ga X.K c) f) (hb : attributeBase e f X.env (eval e X.env) = eval e X.env := by rfl) : XE X cf (.Attribute e f pos) (.fld c f i) := by
  refine pe_imp (pe_fld he hb) fun s H Q h => ?_
  obtain ⟨r, sg, M, z, M', hs, hh, ev, q⟩ := h
  simp only [evE] at ev
  split at ev
  · rename_i nn M1 e1
    obtain ⟨fs, e2, e3⟩ := Option.bind_eq_some_iff.mp ev
    obtain ⟨v, e4, e5⟩ := Option.map_eq_some_iff.mp e3
    cases e5
    refine ⟨r, sg, M, .ref nn, _, hs, hh, e1, fun r1 u1 H1 x1 h1 v1 => ?_⟩
    obtain ⟨a, dx, vs, g1, g2, g3, g4, _⟩ := ins_of h1 e2
    cases v1 with
    | ref hn =>
      rw [g1] at hn; cases hn
      obtain ⟨u, k1, k2⟩ := (look_rel (f := f) g3 g4).1 _ e4
      exact ⟨_, _, dx, vs, u, rfl, g2, k, n, k1, q r1 u H1 x1 h1 k2⟩
  · cases ev
theorem xs_fset (ha : XE X cf o io) (hv : XE X cf value iv) (k : Cls X.K (He.ga X.K c)) (n : NoAttr X.K (He.ga X.K c) f) (hs : swapsWith value (some (.Attribute o f pos')) pos.line X.env = pure false := by rfl) :
    XS X cf (.Assign [.Attribute o f pos'] value pos) (.fset c f io iv) := by
  refine ps_imp (ps_fld ha hv hs) fun D s H q => ?_
  obtain ⟨r, sg, M, fl, M', hs, hh, ev, q⟩ := q
  simp only [evS] at ev
  split at ev
  · rename_i x M1 e1
    split at ev
    · rename_i nn M2 e2
      split at ev
      · rename_i fs e3
        split at ev
        · rename_i hl
          cases ev
          refine ⟨r, sg, M, x, _, hs, hh, e1, fun r1 u1 H1 x1 h1 v1 => ⟨r1, sg, M1, .ref nn, _, hs.ext x1, h1, e2, fun r2 u2 H2 x2 h2 v2 => ?_⟩⟩
          obtain ⟨a, dx, vs, g1, g2, g3, g4, g5⟩ := ins_of h2 e3
          cases v2 with
          | ref hn =>
            rw [g1] at hn; cases hn
            have hlen : vs.length = fs.length := by have := congrArg List.length g3; simpa using this
            refine ⟨_, _, dx, vs, rfl, g2, k, n, by rw [hlen]; exact hl, ?_⟩
            have x3 := ext_set (r := r2) (o := .ins (He.ga X.K c) dx (putF f u1 vs)) g2 trivial (List.mem_of_getElem? g1)
            obtain ⟨p1, p2⟩ := put_rel (f := f) (v1.ext x2) g3 g4
            exact q r2 _ (x1.trans (x2.trans x3)) (h2.set g1 ⟨dx, _, upd_same, p1, p2.ext x3⟩) s (hs.ext (x1.trans (x2.trans x3)))
        · cases ev
      · cases ev
    · cases ev
  · cases ev
theorem xs_faug (ha : XE X cf o io) (hv : XE X cf value iv) (k : Cls X.K (He.ga X.K c)) (n : NoAttr X.K (He.ga X.K c) f) : XS X cf (.AugAssign (.Attribute o f tpos) .Add value pos) (.faug c f io iv) := by
  refine ps_imp (ps_fldaug ha hv in_add) fun D s H q => ?_
  obtain ⟨r, sg, M, fl, M', hs, hh, ev, q⟩ := q
  simp only [evS] at ev
  split at ev
  · rename_i nn M1 e1
    split at ev
    · rename_i fs e2
      split at ev
      · rename_i ii e3
        split at ev
        · rename_i jj M2 e4
          split at ev
          · rename_i gs e5
            split at ev
            · rename_i hl
              cases ev
              refine ⟨r, sg, M, .ref nn, _, hs, hh, e1, fun r1 u1 H1 x1 h1 v1 => ?_⟩
              obtain ⟨a, dx, vs, g1, g2, g3, g4, g5⟩ := ins_of h1 e2
              cases v1 with
              | ref hn =>
                rw [g1] at hn; cases hn
                obtain ⟨u, k1, k2⟩ := (look_rel (f := f) g3 g4).1 _ e3
                cases k2
                refine ⟨_, _, dx, vs, _, rfl, g2, k, n, k1, r1, sg, M1, .int jj, _, hs.ext x1, h1, e4, fun r2 u2 H2 x2 h2 v2 => ?_⟩
                cases v2
                obtain ⟨a', dx', vs', g1', g2', g3', g4', g5'⟩ := ins_of h2 e5
                have ea := x2.at g1
                rw [g1'] at ea; cases ea
                have hlen : vs'.length = gs.length := by have := congrArg List.length g3'; simpa using this
                refine ⟨ii, jj, rfl, rfl, dx', vs', g2', by rw [hlen]; exact hl, ?_⟩
                have x3 := ext_set (r := r2) (o := .ins (He.ga X.K c) dx' (putF f (.int (ii + jj)) vs')) g2' trivial (List.mem_of_getElem? g1')
                obtain ⟨p1, p2⟩ := put_rel (K := X.K) (r := r2) (H := H2) (f := f) (x := .int (ii + jj)) (.int _) g3' g4'
                exact q r2 _ (x1.trans (x2.trans x3)) (h2.set g1' ⟨dx', _, upd_same, p1, p2.ext x3⟩) s (hs.ext (x1.trans (x2.trans x3)))
            · cases ev
          · cases ev
        · cases ev
      · cases ev
    · cases ev
  · cases ev
/-- a method of the class c -/
structure OwnM (P : Program) (w : World) (K : PySem.W.Frag) (mg : Str → Option Value) (base : Heap) (A : Around) (cf : CF) (c m : Str) (n : Nat) (ps : List Str) : Prop where
  ex : ∃ k f fd, FnOk P w K mg base CX0 k f fd ps (spEv K cf n ps.length) ∧ Room k A ∧ Meth K (He.ga K c) m f ∧ Binds K fd ps []
  cl : Cls K (He.ga K c)
  len : ∀ xs M z, cf n xs M = some z → xs.length = ps.length
theorem mc_red {n : Nat} {np : Nat} {j : Es} {ta : TA} {s : L2.St} {H : Hp} {Q : VK} {E : L2.XK} (hl : ∀ xs M z, cf n xs M = some z → xs.length = np) (hta : ∀ s H Q, TAv X.K (evEs cf j) s H Q → ta s H Q) (q : TEv X.K (evE cf (.mc c m n io j)) s H Q) :
    TEv X.K (evE cf io) s H fun x H1 => ∃ a dx fs, x = .ref a ∧ H1 a = some (.ins (He.ga X.K c) dx fs) ∧ fs.lookup m = none ∧ ta s H1 fun vs H2 => spEv X.K cf n np (x :: vs) H2 Q E := by
  obtain ⟨r, sg, M, z, M', hs, hh, ev, q⟩ := q
  simp only [evE] at ev
  split at ev
  · rename_i nn M1 e1
    split at ev
    · rename_i fs e2
      split at ev
      · rename_i e3
        split at ev
        · rename_i xs M2 e4
          refine ⟨r, sg, M, .ref nn, _, hs, hh, e1, fun r1 u1 H1 x1 h1 v1 => ?_⟩
          obtain ⟨a, dx, vs, g1, g2, g3, g4, g5⟩ := ins_of h1 e2
          cases v1 with
          | ref hn =>
            rw [g1] at hn; cases hn
            refine ⟨_, dx, vs, rfl, g2, (look_rel (f := m) g3 g4).2 (by simpa using e3), hta _ _ _ ⟨r1, sg, M1, xs, M2, hs.ext x1, h1, e4, fun r2 us H2 x2 h2 v2 => ?_⟩⟩
            have vv : RVs X.K r2 H2 (.ref nn :: xs) (.ref _ :: us) := .cons (.ref (x2.at g1)) v2
            exact ⟨by rw [← vv.length]; exact hl _ _ _ ev, r2, M2, _, z, M', h2, vv, ev, fun r3 u3 H3 x3 h3 v3 => q r3 u3 H3 (x1.trans (x2.trans x3)) h3 v3⟩
        · cases ev
      · cases ev
    · cases ev
  · cases ev
theorem xe_mc {n : Nat} {ps : List Str} {j : Es} {pl : Sem Bool} (O : OwnM X.prog X.w X.K X.mg X.base X.A cf c m n ps) (ho : XE X cf o io) (ha : XA X cf (e :: es) j)
    (hst : starEach (e :: es) X.env = (false, eval e X.env) :: starEach es X.env := by rfl) (hpl : (backTo pos (starEach es X.env)).any (·.1) = false := by rfl)
    (ht : eval (.Call (.Attribute o m apos) (e :: es) [] pos) X.env = (do
      let ov ← eval o X.env
      standAt apos.atName
      let (f, first) ← holding [ov] (getMethod ov m pl)
      callWith pos f first (backTo pos (starEach (e :: es) X.env)) (backToKw pos (keywordEach [] X.env))) := by rfl) :
    XE X cf (.Call (.Attribute o m apos) (e :: es) [] pos) (.mc c m n io j) := by
  obtain ⟨k, f, fd, F, hr, hm, hb⟩ := O.ex
  refine pe_imp (pe_meth ho O.cl hm F hr hb .nil pass0 ha hst hpl ht) fun s H Q q => ?_
  have := mc_red (E := E0) (np := ps.length) O.len (fun _ _ _ q => q) q
  unfold tMeth
  simp only [List.append_nil]
  exact this
theorem xe_mc0 {n : Nat} {ps : List Str} {pl : Sem Bool} (O : OwnM X.prog X.w X.K X.mg X.base X.A cf c m n ps) (ho : XE X cf o io)
    (ht : eval (.Call (.Attribute o m apos) [] [] pos) X.env = (do
      let ov ← eval o X.env
      standAt apos.atName
      let (f, first) ← holding [ov] (getMethod ov m pl)
      callWith pos f first (backTo pos (starEach [] X.env)) (backToKw pos (keywordEach [] X.env))) := by rfl) :
    XE X cf (.Call (.Attribute o m apos) [] [] pos) (.mc c m n io .nil) := by
  obtain ⟨k, f, fd, F, hr, hm, hb⟩ := O.ex
  refine pe_imp (pe_meth0 ho O.cl hm F hr hb .nil pass0 ht) fun s H Q q => ?_
  have := mc_red (E := E0) (np := ps.length) (ta := tNil) O.len (fun s H Q q => by
    obtain ⟨r, sg, M, xs, M', hs, hh, ev, q⟩ := q
    simp only [evEs] at ev
    cases ev
    exact q r [] H .refl hh .nil) q
  unfold tMeth
  simp only [List.append_nil]
  exact this
/-- a class that is called -/
structure OwnC (P : Program) (w : World) (K : PySem.W.Frag) (mg : Str → Option Value) (base : Heap) (A : Around) (cf : CF) (c : Str) (n : Nat) (ps : List Str) : Prop where
  ex : (∀ xs M, cf n xs M = none) ∨ ∃ k f fd i cf', FnOk P w K mg base CX0 k f fd ("self" :: ps) (spEv K cf' i (ps.length + 1)) ∧ Room (k + 1) A ∧ Mk K (He.ga K c) f ∧ mg c = some (.ref (He.ga K c)) ∧ Binds K fd ("self" :: ps) [] ∧ (∀ xs M, cf n xs M = mkD cf' c i xs M) ∧ ∀ xs M z, cf' i xs M = some z → xs.length = ps.length + 1
theorem make_red {n i np : Nat} {cf' : CF} {j : Es} {ta : TA} {s : L2.St} {H : Hp} {Q : VK} {E : L2.XK} (hcf : ∀ xs M, cf n xs M = mkD cf' c i xs M) (hl : ∀ xs M z, cf' i xs M = some z → xs.length = np + 1) (hta : ∀ s H Q, TAv X.K (evEs cf j) s H Q → ta s H Q) (q : TEv X.K (evE cf (.call n j)) s H Q) :
    ta s H fun vs H1 => ∀ x dx, H1 x = none → H1 dx = none → dx ≠ x → spEv X.K cf' i (np + 1) (.ref x :: vs) (upd (upd H1 dx (.own x)) x (.ins (He.ga X.K c) dx [])) (fun v H2 => v = .non ∧ Q (.ref x) H2) E := by
  obtain ⟨r, sg, M, z, M', hs, hh, ev, q⟩ := q
  simp only [evE] at ev
  split at ev
  · rename_i xs M1 e1
    rw [hcf] at ev
    unfold mkD at ev
    split at ev
    · rename_i M2 e2
      cases ev
      refine hta _ _ _ ⟨r, sg, M, xs, M1, hs, hh, e1, fun r1 us H1 x1 h1 v1 x dx hx hd ne => ?_⟩
      have xa := ext_new0 (r := r1) (o := .own x) hd
      have ha := h1.other (.own x) hd
      have hx2 : (upd H1 dx (.own x)) x = none := by rw [upd_ne (Ne.symm ne)]; exact hx
      have xb := ext_new (r := r1) (o := .ins (He.ga X.K c) dx []) hx2 [x]
      have hb := ha.new (o := .ins c []) hx2 (ho := .ins (He.ga X.K c) dx []) ⟨dx, [], upd_same, rfl, .nil⟩
      have vx : RV X.K (r1 ++ [x]) (upd (upd H1 dx (.own x)) x (.ins (He.ga X.K c) dx [])) (.ref M1.length) (.ref x) := .ref (by rw [← h1.len]; simp)
      have vv : RVs X.K (r1 ++ [x]) (upd (upd H1 dx (.own x)) x (.ins (He.ga X.K c) dx [])) (.ref M1.length :: xs) (.ref x :: us) := .cons vx ((v1.ext xa).ext xb)
      refine ⟨by rw [← vv.length]; exact hl _ _ _ e2, _, _, _, .non, M', hb, vv, e2, fun r2 u2 H2 x2 h2 v2 => ?_⟩
      cases v2
      exact ⟨rfl, q r2 _ H2 (x1.trans (xa.trans (xb.trans x2))) h2 (vx.ext x2)⟩
    · cases ev
  · cases ev
theorem xe_make {x : Str} {n : Nat} {ps : List Str} {j : Es} (O : OwnC X.prog X.w X.K X.mg X.base X.A cf x n ps) (hg : Gl X x) (ha : XA X cf (e :: es) j)
    (hdb : (x == ("__debug__" : Str)) = false := by decide) (he : starEach (e :: es) X.env = (false, eval e X.env) :: starEach es X.env := by rfl) (hpl : (backTo pos (starEach es X.env)).any (·.1) = false := by rfl) :
    XE X cf (.Call (.Name x p) (e :: es) [] pos) (.call n j) := by
  rcases O.ex with z | ⟨k, f, fd, i, cf', F, hr, hM, hm, hb, hcf, hl⟩
  · refine ⟨fun pins s σ H Q I h => ?_⟩
    obtain ⟨r, sg, M, z', M', hs, hh, ev, q⟩ := h
    simp only [evE] at ev
    split at ev
    · rw [z] at ev; cases ev
    · cases ev
  · refine pe_imp (pe_make hM F hr hg hm hb .nil pass0 ha hdb he hpl) fun s H Q q => ?_
    have := make_red (E := E0) hcf hl (fun _ _ _ q => q) q
    unfold tMake
    simp only [List.append_nil]
    exact this
theorem xe_make0 {x : Str} {n : Nat} {ps : List Str} (O : OwnC X.prog X.w X.K X.mg X.base X.A cf x n ps) (hg : Gl X x) (hdb : (x == ("__debug__" : Str)) = false := by decide) :
    XE X cf (.Call (.Name x p) [] [] pos) (.call n .nil) := by
  rcases O.ex with z | ⟨k, f, fd, i, cf', F, hr, hM, hm, hb, hcf, hl⟩
  · refine ⟨fun pins s σ H Q I h => ?_⟩
    obtain ⟨r, sg, M, z', M', hs, hh, ev, q⟩ := h
    simp only [evE] at ev
    split at ev
    · rw [z] at ev; cases ev
    · cases ev
  · refine pe_imp (pe_make0 hM F hr hg hm hb .nil pass0 hdb) fun s H Q q => ?_
    have := make_red (E := E0) (ta := tNil) hcf hl (fun s H Q q => by
      obtain ⟨r, sg, M, xs, M', hs, hh, ev, q⟩ := q
      simp only [evEs] at ev
      cases ev
      exact q r [] H .refl hh .nil) q
    unfold tMake
    simp only [List.append_nil]
    exact this
end
end Mp

/-! MpK: a dict of the top with text keys and tuples of defs; defs as values. -/
namespace Mp
open PySem L2

/-- the dict of the top by the name d: text keys, each with a tuple of defs -/
structure KTab (K : PySem.W.Frag) (w : World) (d : Str) (tb : List (Str × List (Nat × Str))) : Prop where
  dict : ∃ es n, KDict K w (He.ga K d) es n
  miss : ∀ z, (tb.any fun q => decide (q.1 = z)) = false → PySem.W.nsIn K (He.ga K d) z = some none
  hit : ∀ z q, (tb.find? fun q => decide (q.1 = z)) = some q → ∃ t, PySem.W.nsIn K (He.ga K d) z = some (some (.ref t)) ∧ ∀ H, SqT K H t (q.2.map fun p => V.ref (He.ga K p.2))
theorem rvs_fn {K : PySem.W.Frag} {r : List Addr} {H : Hp} : ∀ fs : List (Nat × Str), RVs K r H (fs.map fun p => .fn p.1 p.2) (fs.map fun p => V.ref (He.ga K p.2))
  | [] => .nil
  | p :: fs => .cons (.fn p.1 p.2) (rvs_fn fs)
section
variable {X : Cx} {cf : CF} {e a b : Expr} {es : List Expr} {i ia : E} {pos p gp : Pos} {d : Str} {tb : List (Str × List (Nat × Str))}
theorem xe_knot (D : KTab X.K X.w d tb) (ha : XE X cf a ia) (hg : Gl X d) (hm : X.mg d = some (.ref (He.ga X.K d))) (hmk : behindInMarks .NotIn (.Name d gp) = false := by rfl) (hd : (d == ("__debug__" : Str)) = false := by decide) :
    XE X cf (.Compare a [.NotIn] [.Name d gp] pos) (.knot tb ia) := by
  obtain ⟨es, n, KD⟩ := D.dict
  refine pe_imp (pe_cmpR (op_notIn_kd KD) ha (pe_glob (v := .ref (He.ga X.K d)) hg hm rfl hd) hmk) fun s H Q h => ?_
  obtain ⟨r, sg, M, z, M', hs, hh, ev, q⟩ := h
  simp only [evE] at ev
  split at ev
  · rename_i zs M1 e1
    cases ev
    refine ⟨r, sg, M, .str zs, _, hs, hh, e1, fun r1 u1 H1 x1 h1 v1 => ?_⟩
    cases v1
    cases hb : tb.any fun q => decide (q.1 = zs) with
    | false =>
      refine ⟨zs, none, rfl, rfl, D.miss zs hb, ?_⟩
      have := q r1 (.bl true) H1 x1 h1 (by rw [hb]; exact .bl _)
      exact this
    | true =>
      have hf : ∃ q, (tb.find? fun q => decide (q.1 = zs)) = some q := by
        cases hf : tb.find? fun q => decide (q.1 = zs) with
        | some q => exact ⟨q, rfl⟩
        | none =>
          rw [List.find?_eq_none] at hf
          obtain ⟨q, h1, h2⟩ := List.any_eq_true.mp hb
          exact absurd h2 (hf q h1)
      obtain ⟨q0, hf⟩ := hf
      obtain ⟨t, ht, _⟩ := D.hit zs q0 hf
      refine ⟨zs, _, rfl, rfl, ht, ?_⟩
      exact q r1 (.bl false) H1 x1 h1 (by rw [hb]; exact .bl _)
  · cases ev
theorem xt_knot (D : KTab X.K X.w d tb) (ha : XE X cf a ia) (hg : Gl X d) (hm : X.mg d = some (.ref (He.ga X.K d))) (hmk : behindInMarks .NotIn (.Name d gp) = false := by rfl) (hd : (d == ("__debug__" : Str)) = false := by decide) :
    XT X cf (.Compare a [.NotIn] [.Name d gp] pos) (.knot tb ia) := by
  obtain ⟨es, n, KD⟩ := D.dict
  refine pt_imp (pt_cmpR (op_notIn_kd KD) ha (pe_glob (v := .ref (He.ga X.K d)) hg hm rfl hd) hmk) fun s H Q h => ?_
  obtain ⟨r, sg, M, bb, M', hs, hh, ev, q⟩ := h
  simp only [evE] at ev
  split at ev
  · rename_i zs M1 e1
    cases ev
    refine ⟨r, sg, M, .str zs, _, hs, hh, e1, fun r1 u1 H1 x1 h1 v1 => ?_⟩
    cases v1
    cases hb : tb.any fun q => decide (q.1 = zs) with
    | false =>
      rw [hb] at q
      exact ⟨zs, none, rfl, rfl, D.miss zs hb, _, rfl, q r1 H1 x1 h1⟩
    | true =>
      have hf : ∃ q, (tb.find? fun q => decide (q.1 = zs)) = some q := by
        cases hf : tb.find? fun q => decide (q.1 = zs) with
        | some q => exact ⟨q, rfl⟩
        | none =>
          rw [List.find?_eq_none] at hf
          obtain ⟨q, h1, h2⟩ := List.any_eq_true.mp hb
          exact absurd h2 (hf q h1)
      obtain ⟨q0, hf⟩ := hf
      obtain ⟨t, ht, _⟩ := D.hit zs q0 hf
      rw [hb] at q
      exact ⟨zs, _, rfl, rfl, ht, _, rfl, q r1 H1 x1 h1⟩
  · cases ev
theorem xe_kidx (D : KTab X.K X.w d tb) (ha : XE X cf a ia) (hg : Gl X d) (hm : X.mg d = some (.ref (He.ga X.K d))) (hp : PlainIx a) (hd : (d == ("__debug__" : Str)) = false := by decide) :
    XE X cf (.Subscript (.Name d gp) a pos) (.kidx tb ia) := by
  obtain ⟨es, n, KD⟩ := D.dict
  refine pe_imp (pe_ix ix_kdict (pe_glob (v := .ref (He.ga X.K d)) hg hm rfl hd) ha hp) fun s H Q h => ?_
  obtain ⟨r, sg, M, z, M', hs, hh, ev, q⟩ := h
  simp only [evE] at ev
  split at ev
  · rename_i zs M1 e1
    obtain ⟨q0, hf, e2⟩ := Option.map_eq_some_iff.mp ev
    cases e2
    refine ⟨r, sg, M, .str zs, _, hs, hh, e1, fun r1 u1 H1 x1 h1 v1 => ?_⟩
    cases v1
    obtain ⟨t, ht, hq⟩ := D.hit zs q0 hf
    exact ⟨_, zs, .ref t, rfl, rfl, ⟨es, n, _, KD.at_, KD.lit, ht, rfl⟩, q r1 _ H1 x1 h1 (.tup (hq H1) (rvs_fn _))⟩
  · cases ev
/-- a def as a value -/
structure OwnF (P : Program) (w : World) (K : PySem.W.Frag) (mg : Str → Option Value) (base : Heap) (A : Around) (cf : CF) (n : Nat) (x : Str) : Prop where
  ex : ∃ k fd ps, FnOk P w K mg base CX0 k (He.ga K x) fd ps (spEv K cf n ps.length) ∧ Room k A ∧ PySem.W.keepIn K (.ref (He.ga K x)) = true ∧ Binds K fd ps [] ∧ ∀ xs M z, cf n xs M = some z → xs.length = ps.length
theorem xe_callv {v : Str} {k : Nat} {fs : List (Nat × Str)} {j : Es} (O : ∀ q ∈ fs, OwnF X.prog X.w X.K X.mg X.base X.A cf q.1 q.2) (ha : XA X cf (e :: es) j) (hN : X.N[k]? = some v) (hv : Vis X.env.scope v)
    (hd : (v == ("__debug__" : Str)) = false := by decide) (hcd : (v == ("__classdict__" : Str)) = false := by decide)
    (he : starEach (e :: es) X.env = (false, eval e X.env) :: starEach es X.env := by rfl) (hpl : (backTo pos (starEach es X.env)).any (·.1) = false := by rfl) :
    XE X cf (.Call (.Name v p) (e :: es) [] pos) (.callv k fs j) := by
  refine ⟨fun pins s σ H Q I h => ?_⟩
  obtain ⟨r, sg, M, z, M', hs, hh, ev, q⟩ := h
  simp only [evE] at ev
  split at ev
  · rename_i n x e1
    split at ev
    · rename_i hm
      split at ev
      · rename_i xs M1 e2
        obtain ⟨kk, fd, ps, F, hr, hk, hb, hl⟩ := (O _ hm).ex
        have FR := FnOk.raw F hb .nil
        refine (ItX.pe_callV FR hr hk pass0 hN hv ha hd hcd he hpl).run pins s σ H Q I ⟨?_, ?_⟩
        · obtain ⟨u, h1, h2⟩ := hs.at_ k _ e1
          cases h2
          exact h1
        · refine ⟨r, sg, M, xs, M1, hs, hh, e2, fun r1 us H1 x1 h1 v1 => ?_⟩
          simp only [List.append_nil]
          exact ⟨by rw [← v1.length]; exact hl _ _ _ ev, r1, M1, xs, z, M', h1, v1, ev, fun r2 u2 H2 x2 h2 v2 => q r2 u2 H2 (x1.trans x2) h2 v2⟩
      · cases ev
    · cases ev
  · cases ev
end
end Mp

/-! MpRev: t[::-1] of a tuple. -/
namespace Mp
open PySem PySem.Spec PyProof.Rows L2
section
variable {prog : Program} {w : World} {A : Around} {E : Value → Shared → Prop} {s : Shared}
theorem fm_congr {α β : Type} {f g : α → Option β} : ∀ {l : List α}, (∀ x ∈ l, f x = g x) → l.filterMap f = l.filterMap g
  | [], _ => rfl
  | a :: l, h => by
    rw [List.filterMap_cons, List.filterMap_cons, h a (by simp), fm_congr (l := l) fun x hx => h x (by simp [hx])]
theorem rv_adjust (n : Nat) : Builtin.Slice.sliceAdjust none none (-1) (n : Int) = ((n : Int) - 1, -1) := by
  unfold Builtin.Slice.sliceAdjust
  simp
theorem rv_places (n : Nat) : Builtin.Slice.slicePlaces ((n : Int) - 1) (-1) (-1) = n := by
  unfold Builtin.Slice.slicePlaces
  have h1 : ¬ ((-1 : Int) > 0) := by omega
  simp only [h1, if_false]
  split
  · simp
  · omega
theorem rv_applied {sl : Addr} {va vb vc : Value} {n : Nat} {Q : Int × Int × Nat → Shared → Prop} (hx : s.heap.IsSliceOf sl va vb vc) (pa : IsPart va none) (pb : IsPart vb none) (pc : IsPart vc (some (-1)))
    (h : Q ((n : Int) - 1, -1, n) s) : wpAny (model prog w) A (Builtin.Slice.sliceApplied (.ref sl) (pure (n : Int))) Q E s := by
  obtain ⟨o, h1, _, h3⟩ := id hx
  unfold Builtin.Slice.sliceApplied Builtin.Slice.sliceFields
  refine wpAny_bind (wpAny_bind (wpAny_field h1 h3 (x := va) rfl (wpAny_bind (wpAny_field h1 h3 (x := vb) rfl (wpAny_bind (wpAny_field h1 h3 (x := vc) rfl (wpAny_pure ?_)))))))
  refine wpAny_bind (HT.slicePart_ pc ?_)
  show wpAny _ _ (if ((-1 : Int) == 0) = true then _ else _) _ _ s
  rw [if_neg (by decide)]
  refine wpAny_bind (HT.slicePart_ pa (wpAny_bind (HT.slicePart_ pb (wpAny_bind (wpAny_pure ?_)))))
  show wpAny _ _ (match Builtin.Slice.sliceAdjust none none (-1) (n : Int) with | (x, y) => pure (x, (-1 : Int), Builtin.Slice.slicePlaces x y (-1))) _ _ s
  rw [rv_adjust n]
  show wpAny _ _ (pure ((n : Int) - 1, (-1 : Int), Builtin.Slice.slicePlaces ((n : Int) - 1) (-1) (-1))) _ _ s
  rw [rv_places]
  exact wpAny_pure h
theorem rv_pick (its : List Value) : ((List.range its.toArray.size).filterMap fun (m : Nat) => its.toArray[((its.toArray.size : Int) - 1 + (m : Int) * (-1)).toNat]?).toArray = its.reverse.toArray := by
  congr 1
  apply List.ext_getElem?
  intro i
  have hmap : ((List.range its.toArray.size).filterMap fun (m : Nat) => its.toArray[((its.toArray.size : Int) - 1 + (m : Int) * (-1)).toNat]?) = (List.range its.length).filterMap fun m => its.reverse[m]? := by
    have hsz : its.toArray.size = its.length := by simp
    rw [hsz]
    apply fm_congr
    intro m hm
    have hm : m < its.length := by simpa using hm
    have e : ((its.length : Int) - 1 + (m : Int) * (-1)).toNat = its.length - 1 - m := by omega
    rw [e, List.getElem?_reverse hm]
    simp
  rw [hmap]
  have hid : ∀ l : List Value, (List.range l.length).filterMap (fun m => l[m]?) = l := by
    intro l
    induction l with
    | nil => rfl
    | cons a l ih =>
      rw [List.length_cons, List.range_succ_eq_map, List.filterMap_cons]
      simp only [List.getElem?_cons_zero]
      rw [List.filterMap_map]
      congr 1
  have := hid its.reverse
  rw [List.length_reverse] at this
  rw [this]
theorem rv_get {t sl : Addr} {its : List Value} {va vb vc : Value} {Q : Value → Shared → Prop} (ht : IsTup s.heap t its.toArray) (hx : s.heap.IsSliceOf sl va vb vc) (pa : IsPart va none) (pb : IsPart vb none) (pc : IsPart vc (some (-1)))
    (h : Q (.ref s.heap.objs.size) { s with heap := s.heap.push { cls := .type "tuple", data := .seq its.reverse.toArray } }) (hz : its.length ≤ sizeLine) :
    wpAny (model prog w) A (getItem (.ref t) (.ref sl)) Q E s := by
  have hk : sizeOk (.seq its.reverse.toArray) := by
    show its.reverse.toArray.size ≤ sizeLine
    simpa using hz
  obtain ⟨o, h1, h2, h3⟩ := id hx
  have hT : s.TypeIs (.ref sl) "slice" := ⟨o, h1, h2⟩
  unfold getItem
  try with_reducible refine wpAny_holding ?_
  first | refine wpAny_bind (wpAny_pure ?_) | skip
  refine wpAny_bind (wpAny_sequenceKey ht.typeIs (by decide) ?_)
  refine wpAny_bind (wpAny_callSpecial?_slot (name := Str.ofString "__getitem__") ht.typeIs PyProof.Rows.slot_tuple_getitem (wpAny_call_entry PyProof.Rows.slot_tuple_getitem ht.typeIs entry_tuple_getitem ?_ (args_tuple_getitem _ _)))
  show wpAny _ _ (Builtin.Tuple.tupleItemsOf (.ref t) >>= _) _ _ s
  refine wpAny_bind (tupleItemsOf_ ht (wpAny_bind (wpAny_typeOf hT ?_)))
  rw [if_pos (by decide)]
  refine wpAny_bind (rv_applied hx pa pb pc ?_)
  have hno : ¬ ((((its.toArray.size : Int) - 1) == 0 && (-1 : Int) == 1 && its.toArray.size == its.toArray.size) = true) := by
    simp
  show wpAny _ _ (if (((its.toArray.size : Int) - 1) == 0 && (-1 : Int) == 1 && its.toArray.size == its.toArray.size) = true then _ else _) _ _ s
  rw [if_neg hno, rv_pick]
  first
    | exact wpAny_bind (m := Builtin.Tuple.tupleExact _) (wpAny_newObj_type (wpAny_pure ⟨_, rfl, wpAny_pure h⟩) hk)
    | exact wpAny_bind (m := Builtin.Tuple.tupleExact _) (wpAny_newObj_type (wpAny_bind (wpAny_pure (wpAny_pure ⟨_, rfl, wpAny_pure h⟩))) hk)
    | exact wpAny_bind (wpAny_bind (m := Builtin.Tuple.tupleExact _) (wpAny_newObj_type (wpAny_pure (wpAny_pure ⟨_, rfl, wpAny_pure h⟩)) hk))
    | exact wpAny_bind (wpAny_bind (m := Builtin.Tuple.tupleExact _) (wpAny_newObj_type (wpAny_pure ⟨_, rfl, wpAny_pure h⟩) hk))
end
section
variable {X : Cx} {cf : CF} {e : Expr} {i : E}
def tRevT (K : PySem.W.Frag) (te : TE) : TE := fun σ H Q => te σ H fun x H1 => ∃ a xs, x = .ref a ∧ SqT K H1 a xs ∧ ∀ p, H1 p = none → Q (.ref p) (upd H1 p (.tup xs.reverse))
theorem pe_revT {te : TE} {k : Nat} {p1 p2 p3 pos : Pos} (he : PE X e te) : PE X (.Subscript e (.Slice none none (some (.UnaryOp .USub (.Constant (.int 1) k p1) p2)) p3) pos) (tRevT X.K te) := by
  refine ⟨fun pins s σ H Q I h => ?_⟩
  refine Subscript_ (thn (he.run pins s σ H _ I h) fun v sa ⟨x, Ha, Ia, ra, a, xs, ex, hx, q⟩ => ?_)
  subst ex
  cases ra
  have st : PO X (some (.UnaryOp .USub (.Constant (.int 1) k p1) p2)) (tPart (tUn (rU fun i => .int (-i)) (tC (.int 1)))) := po_some (pe_un un_neg pe_int)
  refine wpAny_Slice (thn (po_none.run pins sa σ Ha (fun o H2 => o = none ∧ H2 = Ha) Ia ⟨rfl, rfl⟩) fun va sb ⟨oa, Hb, Ib, pa, ea, eb⟩ => ?_)
  subst ea eb
  refine thn (po_none.run pins sb σ Hb (fun o H2 => o = none ∧ H2 = Hb) Ib ⟨rfl, rfl⟩) fun vb sc ⟨ob, Hc, Ic, pb, eb, ec⟩ => ?_
  subst eb ec
  refine thn (st.run pins sc σ Hc (fun o H2 => o = some (-1) ∧ H2 = Hc) Ic ⟨1, rfl, -1, rfl, rfl, rfl⟩) fun vc sd ⟨oc, Hd, Id, pc, ec, ed⟩ => ?_
  subst ec ed
  have Ie : Inv X pins σ Hd { sd with heap := sd.heap.push { cls := .type "slice", data := .fields #[va, vb, vc] } } := Id.kept (t' := sd.toks) fun b ob q => Heap.get?_push_of_some _ q
  obtain ⟨its, r, ht, hz⟩ := Ie.tuple hx
  have hlen := r.length
  show wpAny (model X.prog X.w) X.A (subscriptTail e (.Slice none none (some (.UnaryOp .USub (.Constant (.int 1) k p1) p2)) p3) (.ref a) (.ref sd.heap.objs.size)) (EP X pins σ Q) X.xe { sd with heap := sd.heap.push { cls := .type "slice", data := .fields #[va, vb, vc] } }
  refine tail_any (ops := [.ref a, .ref sd.heap.objs.size]) ht.typeIs PyProof.Rows.slot_tuple_getitem.lookup ?_ (by with_unfolding_all rfl)
  refine rv_get ht (Heap.IsSliceOf.new _ va vb vc) pa pb pc ?_ (by rw [← hlen]; exact hz)
  refine ⟨.ref _, _, Ie.laid (t' := sd.toks) (o := .tup xs.reverse) (fun b ob q => Heap.get?_push_of_some _ q) (Nat.le_refl _) ?_, rfl, q _ (Ie.hok.fresh (Nat.le_refl _))⟩
  exact ⟨by rw [List.length_reverse]; exact hz, _, r.reverse, IsTup.new _ _⟩
theorem xe_rev {k : Nat} {p1 p2 p3 pos : Pos} (he : XE X cf e i) : XE X cf (.Subscript e (.Slice none none (some (.UnaryOp .USub (.Constant (.int 1) k p1) p2)) p3) pos) (.rev i) := by
  refine pe_imp (pe_revT he) fun s H Q h => ?_
  obtain ⟨r, sg, M, z, M', hs, hh, ev, q⟩ := h
  simp only [evE] at ev
  split at ev
  · rename_i xs M1 e1
    cases ev
    refine ⟨r, sg, M, .tup xs, _, hs, hh, e1, fun r1 u1 H1 x1 h1 v1 => ?_⟩
    cases v1 with
    | tup ht hv => exact ⟨_, _, rfl, ht, fun p hp => (show Post X.K r1 H1 (.tup xs.reverse) M' Q from fun r2 u2 H2 x2 h2 v2 => q r2 u2 H2 (x1.trans x2) h2 v2).tup h1 hv.reverse hp⟩
  · cases ev
end
end Mp

/-! Mp3i: d.get(k); what every name of the program stands for, to a depth. -/
namespace Mp
open PySem L2
inductive Kd where
  | fn | me (c : Str) | mk
structure Nx where
  kd : Kd
  x : Str
  ps : List Str
  kw : Bool
def Calls2 (P : Program) (w : World) (K : PySem.W.Frag) (mg : Str → Option Value) (base : Heap) (names : List Nx) (cf : CF) (k : Nat) : Prop :=
  ∀ (n : Nat) (nm : Nx), names[n]? = some nm →
    match nm.kd with
    | .fn => (∃ fd, FnOk P w K mg base CX0 k (He.ga K nm.x) fd nm.ps (spEv K cf n nm.ps.length) ∧ mg nm.x = some (.ref (He.ga K nm.x)) ∧ PySem.W.keepIn K (.ref (He.ga K nm.x)) = true ∧ Binds K fd nm.ps [] ∧ (nm.kw = true → KBinds K fd nm.ps nm.ps gK gKV)) ∧
        ∀ xs M z, cf n xs M = some z → xs.length = nm.ps.length
    | .me c => (∃ f fd, FnOk P w K mg base CX0 k f fd nm.ps (spEv K cf n nm.ps.length) ∧ Meth K (He.ga K c) nm.x f ∧ Binds K fd nm.ps []) ∧ Cls K (He.ga K c) ∧ ∀ xs M z, cf n xs M = some z → xs.length = nm.ps.length
    | .mk => (∀ xs M, cf n xs M = none) ∨ ∃ k' f fd i cf', k' + 1 ≤ k ∧ FnOk P w K mg base CX0 k' f fd ("self" :: nm.ps) (spEv K cf' i (nm.ps.length + 1)) ∧ Mk K (He.ga K nm.x) f ∧ mg nm.x = some (.ref (He.ga K nm.x)) ∧ Binds K fd ("self" :: nm.ps) [] ∧ (∀ xs M, cf n xs M = mkD cf' nm.x i xs M) ∧ ∀ xs M z, cf' i xs M = some z → xs.length = nm.ps.length + 1
section
variable {P : Program} {w : World} {K : PySem.W.Frag} {mg : Str → Option Value} {base : Heap} {names : List Nx} {cf : CF} {k : Nat} {A : Around} {n : Nat} {x c : Str} {ps : List Str} {kw : Bool}
theorem Calls2.own (C : Calls2 P w K mg base names cf k) (hr : Room k A) (h : names[n]? = some ⟨.fn, x, ps, kw⟩) : Own P w K mg base A cf x n ps kw := by
  obtain ⟨⟨fd, h1, h2, h3, h4, h5⟩, hl⟩ := C n _ h
  exact ⟨⟨k, _, fd, h1, hr, h2, h3, h4, h5⟩, hl⟩
theorem Calls2.ownF (C : Calls2 P w K mg base names cf k) (hr : Room k A) (h : names[n]? = some ⟨.fn, x, ps, kw⟩) : OwnF P w K mg base A cf n x := by
  obtain ⟨⟨fd, h1, h2, h3, h4, h5⟩, hl⟩ := C n _ h
  exact ⟨k, fd, ps, h1, hr, h3, h4, hl⟩
theorem Calls2.ownM (C : Calls2 P w K mg base names cf k) (hr : Room k A) (h : names[n]? = some ⟨.me c, x, ps, kw⟩) : OwnM P w K mg base A cf c x n ps := by
  obtain ⟨⟨f, fd, h1, h2, h3⟩, hc, hl⟩ := C n _ h
  exact ⟨⟨k, f, fd, h1, hr, h2, h3⟩, hc, hl⟩
theorem Calls2.ownC (C : Calls2 P w K mg base names cf k) (hr : Room k A) (h : names[n]? = some ⟨.mk, x, ps, kw⟩) : OwnC P w K mg base A cf x n ps := by
  rcases C n _ h with z | ⟨k', f, fd, i, cf', hk, h1, h2, h3, h4, h5, h6⟩
  · exact ⟨.inl z⟩
  · exact ⟨.inr ⟨k', f, fd, i, cf', h1, hr.mono hk, h2, h3, h4, h5, h6⟩⟩
end
section
variable {X : Cx} {cf : CF} {e o : Expr} {i io : E} {apos cpos : Pos}
theorem xe_get1 (hu : X.A.units + 64 < cLine) (ho : XE X cf o io) (h : XE X cf e i) (m : M1 X o "get" apos e cpos) : XE X cf (.Call (.Attribute o "get" apos) [e] [] cpos) (.mth .get1 io (.cons i .nil)) := by
  refine pe_imp (pe_dget1 (by omega) ho h m) fun s H Q q => ?_
  obtain ⟨r, sg, M, z, M', hs, hh, ev, q⟩ := q
  simp only [evE, evEs] at ev
  split at ev
  · rename_i x M1 e1
    split at ev
    · rename_i hk
      split at ev
      · rename_i xs M2 e2
        split at e2
        · rename_i y N3 e3
          simp only [Option.some.injEq, Prod.mk.injEq] at e2
          obtain ⟨ex, eM⟩ := e2
          subst ex
          subst eM
          cases x <;> simp [mtOk] at hk
          rename_i n
          obtain ⟨kvs0, hk0⟩ := Option.isSome_iff_exists.mp hk
          refine ⟨r, sg, M, .ref n, M1, hs, hh, e1, fun r1 u1 H1 x1 h1 v1 => ?_⟩
          have d0 : M1[n]? = some (.dic kvs0) := by
            unfold dicAt at hk0
            split at hk0
            · rename_i q; cases hk0; exact q
            · cases hk0
          cases v1 with
          | @ref _ a hn =>
            obtain ⟨vs0, g1, _, _⟩ := dic_of h1 d0 hn
            refine ⟨a, rfl, .inl ⟨vs0, .inl g1⟩, r1, sg, M1, y, N3, hs.ext x1, h1, e3, fun r2 u2 H2 x2 h2 v2 => ?_⟩
            simp only [mthP] at ev
            obtain ⟨kvs, e4, e5⟩ := Option.bind_eq_some_iff.mp ev
            obtain ⟨k, e6, e7⟩ := Option.map_eq_some_iff.mp e5
            cases e7
            have d1 : M'[n]? = some (.dic kvs) := by
              unfold dicAt at e4
              split at e4
              · rename_i q; cases e4; exact q
              · cases e4
            obtain ⟨vs, g2, g3, g4⟩ := dic_of h2 d1 (x2.at hn)
            have hu2 := keyOf_ok v2 e6
            subst hu2
            obtain ⟨s1, s2⟩ := getD_ok k g3 g4
            refine ⟨valV vs k, DGet.k (k := k) g2, ?_⟩
            cases hg : getD kvs k with
            | some p =>
              obtain ⟨v, w1, w2⟩ := s2 p hg
              rw [w1]
              exact q r2 v H2 (x1.trans x2) h2 (by rw [hg]; exact w2)
            | none =>
              rw [hg] at s1
              have w1 : valV vs k = none := by
                cases hv : valV vs k with
                | none => rfl
                | some v => rw [hv] at s1; cases s1
              rw [w1]
              exact q r2 .non H2 (x1.trans x2) h2 (by rw [hg]; exact .non)
        · cases e2
      · cases ev
    · cases ev
  · cases ev
end
end Mp

/-! MpHead: tables of the top, read off the head. -/
namespace Mp
open PySem L2
def tabOk (K : PySem.W.Frag) (d : Str) (tb : List (Str × List (Nat × Str))) : Bool := tb.all fun q =>
  match PySem.W.nsIn K (He.ga K d) q.1 with
  | some (some (.ref t)) =>
    match K.lookup t with
    | some ⟨.type c, _, .seq its _, _⟩ => decide (c = "tuple") && (decide (its.toList = q.2.map fun p => Value.ref (He.ga K p.2)) && decide (its.size ≤ 1000))
    | _ => false
  | _ => false
def exAll (es : List (PySem.W.Frag → Bool)) (K : PySem.W.Frag) : Bool := es.all fun e => e K
theorem bAll {es : List (PySem.W.Frag → Bool)} {K : PySem.W.Frag} (h : exAll es K = true) (i : Nat) {e : PySem.W.Frag → Bool} (hi : es[i]? = some e) : e K = true :=
  List.all_eq_true.mp h e (List.mem_of_getElem? hi)
theorem sayTab {fa : List He.Fa} {fn : List He.DefD} {ts : List He.Tab} {w : World} {K : PySem.W.Frag} (c : He.SaysT fa fn ts w K) (i : Nat) {t : He.Tab} (h : ts[i]? = some t) : He.dicW K (t.1 K) = some (He.keysIn w.params t.2) := by
  have e : ts.map (fun t => He.dicW K (t.1 K)) = ts.map fun t => some (He.keysIn w.params t.2) := congrArg (fun z : He.AlT => z.2) c
  have e2 := congrArg (fun l => l[i]?) e
  simp only [List.getElem?_map, h, Option.map_some, Option.some.injEq] at e2
  exact e2
theorem keys_of {P : Params} {z : Str} : ∀ {l : List DictEntry} {ks : List Str}, l.map He.keyOf = He.keysIn P ks → z ∉ ks → l.find? (·.key.isStr z) = none ∧ l.any (·.refKey) = false
  | [], _, _, _ => ⟨rfl, rfl⟩
  | e :: l, [], h, _ => by cases h
  | e :: l, k :: ks, h, hz => by
    have h1 : He.keyOf e :: l.map He.keyOf = some (k, PyData.keyHash P k) :: He.keysIn P ks := h
    injection h1 with h2 h3
    obtain ⟨i1, i2⟩ := keys_of (z := z) h3 (fun q => hz (by simp [q]))
    unfold He.keyOf at h2
    split at h2
    · rename_i x t q
      have h4 := Option.some.inj h2
      obtain ⟨h5, h6⟩ := Prod.mk.inj h4
      have hx : (e.key.isStr z) = false := by
        rw [q]
        show (x == z) = false
        rw [h5]
        exact beq_eq_false_iff_ne.mpr fun y => hz (by simp [y])
      have hr : e.refKey = false := by
        simp [DictEntry.refKey, q, Value.isRef]
      exact ⟨by rw [List.find?_cons, hx]; exact i1, by rw [List.any_cons, hr, i2]; rfl⟩
    · cases h2
theorem find_any {z : Str} {tb : List (Str × List (Nat × Str))} (h : (tb.any fun q => decide (q.1 = z)) = false) : z ∉ tb.map (·.1) := by
  intro hm
  obtain ⟨q, h1, h2⟩ := List.mem_map.mp hm
  have : (tb.any fun q => decide (q.1 = z)) = true := List.any_eq_true.mpr ⟨q, h1, decide_eq_true h2⟩
  rw [h] at this; cases this
theorem vals_refs {K : PySem.W.Frag} : ∀ fs : List (Nat × Str), Vals (fs.map fun p => V.ref (He.ga K p.2)) (fs.map fun p => Value.ref (He.ga K p.2))
  | [] => .nil
  | p :: fs => .cons rfl (vals_refs fs)
theorem ktab_of {K : PySem.W.Frag} {w : World} {d : Str} {tb : List (Str × List (Nat × Str))} (h1 : He.dicW K (He.ga K d) = some (He.keysIn w.params (tb.map (·.1)))) (h2 : tabOk K d tb = true) : KTab K w d tb := by
  obtain ⟨es, n, KD⟩ := He.dicW_ok h1
  have hk : es.toList.map He.keyOf = He.keysIn w.params (tb.map (·.1)) := by
    unfold He.dicW at h1
    rw [KD.at_] at h1
    simp only at h1
    split at h1
    · exact Option.some.inj h1
    · cases h1
  refine ⟨⟨es, n, KD⟩, fun z hz => ?_, fun z q hq => ?_⟩
  · obtain ⟨i1, i2⟩ := keys_of hk (find_any hz)
    unfold PySem.W.nsIn
    rw [KD.at_]
    simp only [i1, i2]
    rfl
  · have hm := List.mem_of_find?_eq_some hq
    have hz : q.1 = z := by have := List.find?_some hq; simpa using this
    have hb := List.all_eq_true.mp h2 q hm
    subst hz
    cases e1 : PySem.W.nsIn K (He.ga K d) q.1 with
    | none => rw [e1] at hb; cases hb
    | some o =>
      cases o with
      | none => rw [e1] at hb; cases hb
      | some u =>
        cases u with
        | ref t =>
          rw [e1] at hb
          refine ⟨t, rfl, fun H => .inr ?_⟩
          simp only at hb
          split at hb
          · rename_i c dd its nn sl e2
            obtain ⟨b1, b2⟩ := Bool.and_eq_true_iff.mp hb
            obtain ⟨b3, b4⟩ := Bool.and_eq_true_iff.mp b2
            have c1 := of_decide_eq_true b1
            have c2 := of_decide_eq_true b3
            have c3 := of_decide_eq_true b4
            refine ⟨_, its, nn, e2, by rw [c1], rfl, by have : sizeLine = 16777216 := rfl; omega, ?_⟩
            rw [c2]
            exact vals_refs _
          · cases hb
        | _ => rw [e1] at hb; cases hb
end Mp

/-! MpM: d.pop(k, x), d.setdefault(k, x), dict(d), str(n), numbers of the module. -/
namespace Mp
open PySem L2

theorem dropD_rel {K : PySem.W.Frag} {r : List Addr} {H : Hp} {k : Key} : ∀ {kvs : List (Key × PV)} {vs : List (Key × V)}, vs.map (·.1) = kvs.map (·.1) → RVs K r H (kvs.map (·.2)) (vs.map (·.2)) →
    (dropK vs k).map (·.1) = (dropD kvs k).map (·.1) ∧ RVs K r H ((dropD kvs k).map (·.2)) ((dropK vs k).map (·.2))
  | [], [], _, _ => ⟨rfl, .nil⟩
  | [], _ :: _, h, _ => by simp at h
  | _ :: _, [], h, _ => by simp at h
  | (g, x) :: kvs, (g', y) :: vs, h, hv => by
    simp only [List.map_cons, List.cons.injEq] at h
    obtain ⟨h1, h2⟩ := h
    have h1 : g' = g := h1
    subst h1
    cases hv with
    | cons hx hs =>
      obtain ⟨i1, i2⟩ := dropD_rel (k := k) h2 hs
      by_cases e : g' = k
      · have a1 : dropK ((g', y) :: vs) k = dropK vs k := by simp [dropK, e]
        have a2 : dropD ((g', x) :: kvs) k = dropD kvs k := by simp [dropD, e]
        rw [a1, a2]
        exact ⟨i1, i2⟩
      · have a1 : dropK ((g', y) :: vs) k = (g', y) :: dropK vs k := by simp [dropK, e]
        have a2 : dropD ((g', x) :: kvs) k = (g', x) :: dropD kvs k := by simp [dropD, e]
        rw [a1, a2]
        exact ⟨by simp [i1], .cons hx i2⟩
theorem dic_at {M : Mm} {n : Nat} {kvs : List (Key × PV)} (h : dicAt M n = some kvs) : M[n]? = some (.dic kvs) := by
  unfold dicAt at h
  split at h
  · rename_i q; cases h; exact q
  · cases h
section
variable {X : Cx} {cf : CF} {e f o : Expr} {i j io : E} {apos cpos : Pos}
theorem xe_dpop2 (ho : XE X cf o io) (h : XE X cf e i) (h2 : XE X cf f j) (m : M2 X o "pop" apos e f cpos) : XE X cf (.Call (.Attribute o "pop" apos) [e, f] [] cpos) (.mth .dpop2 io (.cons i (.cons j .nil))) := by
  refine pe_imp (pe_dpop2 ho h h2 m) fun s H Q q => ?_
  obtain ⟨r, sg, M, z, M', hs, hh, ev, q⟩ := q
  simp only [evE] at ev
  split at ev
  · rename_i x N1 e1
    split at ev
    · rename_i hk
      split at ev
      · rename_i xs N2 e2
        obtain ⟨y, ys, Na, a1, a2, rfl⟩ := evEs_cons e2
        obtain ⟨w, ws, Nb, b1, b2, rfl⟩ := evEs_cons a2
        simp only [evEs] at b2
        cases b2
        cases x <;> simp [mtOk] at hk
        rename_i n
        obtain ⟨kvs0, hk0⟩ := Option.isSome_iff_exists.mp hk
        refine ⟨r, sg, M, .ref n, N1, hs, hh, e1, fun r1 u1 H1 x1 h1 v1 => ?_⟩
        cases v1 with
        | @ref _ a hn =>
          obtain ⟨vs0, g1, _, _⟩ := dic_of h1 (dic_at hk0) hn
          refine ⟨a, rfl, .inl ⟨vs0, .inl g1⟩, r1, sg, N1, y, Na, hs.ext x1, h1, a1, fun r2 u2 H2 x2 h2 v2 => ⟨r2, sg, Na, w, N2, hs.ext (x1.trans x2), h2, b1, fun r3 u3 H3 x3 h3 v3 => ?_⟩⟩
          simp only [mthP] at ev
          obtain ⟨kvs, e4, e5⟩ := Option.bind_eq_some_iff.mp ev
          obtain ⟨k, e6, e7⟩ := Option.map_eq_some_iff.mp e5
          obtain ⟨vs, g2, g3, g4⟩ := dic_of h3 (dic_at e4) ((x2.trans x3).at hn)
          have hu2 := keyOf_ok v2 e6
          subst hu2
          obtain ⟨s1, s2⟩ := getD_ok k g3 g4
          refine ⟨vs, k, g2, rfl, fun v hv => ?_, fun hv => ?_⟩
          · rw [hv] at s1
            obtain ⟨p, hp⟩ := Option.isSome_iff_exists.mp s1
            obtain ⟨v', w1, w2⟩ := s2 p hp
            rw [hv] at w1
            cases w1
            rw [hp] at e7
            cases e7
            have x4 := ext_set (r := r3) (o := .dK (dropK vs k)) g2 trivial (List.mem_of_getElem? ((x2.trans x3).at hn))
            obtain ⟨d1, d2⟩ := dropD_rel (k := k) g3 g4
            exact q r3 v _ ((x1.trans (x2.trans x3)).trans x4) (h3.set ((x2.trans x3).at hn) ⟨_, upd_same, d1, d2.ext x4⟩) (w2.ext x4)
          · rw [hv] at s1
            have hp : getD kvs k = none := by
              cases hp : getD kvs k with
              | none => rfl
              | some p => rw [hp] at s1; cases s1
            rw [hp] at e7
            cases e7
            exact q r3 u3 H3 (x1.trans (x2.trans x3)) h3 v3
      · cases ev
    · cases ev
  · cases ev
theorem xe_setd (ho : XE X cf o io) (h : XE X cf e i) (h2 : XE X cf f j) (m : M2 X o "setdefault" apos e f cpos) : XE X cf (.Call (.Attribute o "setdefault" apos) [e, f] [] cpos) (.mth .setd io (.cons i (.cons j .nil))) := by
  refine pe_imp (pe_dsetd ho h h2 m) fun s H Q q => ?_
  obtain ⟨r, sg, M, z, M', hs, hh, ev, q⟩ := q
  simp only [evE] at ev
  split at ev
  · rename_i x N1 e1
    split at ev
    · rename_i hk
      split at ev
      · rename_i xs N2 e2
        obtain ⟨y, ys, Na, a1, a2, rfl⟩ := evEs_cons e2
        obtain ⟨w, ws, Nb, b1, b2, rfl⟩ := evEs_cons a2
        simp only [evEs] at b2
        cases b2
        cases x <;> simp [mtOk] at hk
        rename_i n
        obtain ⟨kvs0, hk0⟩ := Option.isSome_iff_exists.mp hk
        refine ⟨r, sg, M, .ref n, N1, hs, hh, e1, fun r1 u1 H1 x1 h1 v1 => ?_⟩
        cases v1 with
        | @ref _ a hn =>
          obtain ⟨vs0, g1, _, _⟩ := dic_of h1 (dic_at hk0) hn
          refine ⟨a, rfl, .inl ⟨vs0, .inl g1⟩, r1, sg, N1, y, Na, hs.ext x1, h1, a1, fun r2 u2 H2 x2 h2 v2 => ⟨r2, sg, Na, w, N2, hs.ext (x1.trans x2), h2, b1, fun r3 u3 H3 x3 h3 v3 => ?_⟩⟩
          simp only [mthP] at ev
          obtain ⟨kvs, e4, e5⟩ := Option.bind_eq_some_iff.mp ev
          obtain ⟨k, e6, e7⟩ := Option.bind_eq_some_iff.mp e5
          split at e7
          · rename_i hz
            obtain ⟨vs, g2, g3, g4⟩ := dic_of h3 (dic_at e4) ((x2.trans x3).at hn)
            have hu2 := keyOf_ok v2 e6
            subst hu2
            obtain ⟨s1, s2⟩ := getD_ok k g3 g4
            have hlen : vs.length = kvs.length := by have := congrArg List.length g3; simpa using this
            refine ⟨vs, k, g2, rfl, by rw [hlen]; exact hz, fun v hv => ?_, fun hv => ?_⟩
            · rw [hv] at s1
              obtain ⟨p, hp⟩ := Option.isSome_iff_exists.mp s1
              obtain ⟨v', w1, w2⟩ := s2 p hp
              rw [hv] at w1
              cases w1
              rw [hp] at e7
              cases e7
              exact q r3 v H3 (x1.trans (x2.trans x3)) h3 w2
            · rw [hv] at s1
              have hp : getD kvs k = none := by
                cases hp : getD kvs k with
                | none => rfl
                | some p => rw [hp] at s1; cases s1
              rw [hp] at e7
              cases e7
              have x4 := ext_set (r := r3) (o := .dK (putK vs k u3)) g2 trivial (List.mem_of_getElem? ((x2.trans x3).at hn))
              obtain ⟨d1, d2⟩ := putD_ok k v3 g3 g4
              exact q r3 u3 _ ((x1.trans (x2.trans x3)).trans x4) (h3.set ((x2.trans x3).at hn) ⟨_, upd_same, d1, d2.ext x4⟩) (v3.ext x4)
          · cases e7
      · cases ev
    · cases ev
  · cases ev
theorem cl_dict : CallR X (.type "dict") (RCl X.K fun M => bltP M .dict) := by
  intro pins s σ H vs us Q I rv h
  obtain ⟨r, M, xs, z, M', hh, hv, e, q⟩ := h
  cases hv with
  | nil => simp [bltP] at e
  | @cons x xs v vs hx hv =>
    cases hv with
    | cons _ _ => cases x <;> simp [bltP] at e
    | nil =>
      cases hx with
      | @ref n a hn =>
        simp only [bltP] at e
        obtain ⟨kvs, e1, e2⟩ := Option.map_eq_some_iff.mp e
        cases e2
        obtain ⟨ws, g2, g3, g4⟩ := dic_of hh (dic_at e1) hn
        refine call_dictD pins s σ H _ us Q I rv ⟨a, ws, rfl, .inl g2, fun p hp => ?_⟩
        exact q (r ++ [p]) _ _ (ext_new hp [p]) (hh.new hp ⟨ws, upd_same, g3, g4.ext (ext_new hp [p])⟩) (.ref (by rw [← hh.len]; simp))
      | _ => simp [bltP] at e
theorem xe_gint {x : Str} {n : Int} {pos : Pos} (hg : Gl X x) (hm : ∃ t, X.mg x = some (.int n t)) (hd : (x == ("__debug__" : Str)) = false := by decide) : XE X cf (.Name x pos) (.con (.int n)) :=
  let ⟨_, h⟩ := hm; xe_con (pe_glob (v := .int n) hg h ⟨_, rfl⟩ hd) fun _ _ => .int n
theorem cl_str : CallR X (.type "str") (RCl X.K fun M => bltP M .str) := by
  intro pins s σ H vs us Q I rv h
  obtain ⟨r, M, xs, z, M', hh, hv, e, q⟩ := h
  cases hv with
  | nil => simp [bltP] at e
  | @cons x xs v vs hx hv =>
    cases hv with
    | cons _ _ => cases x <;> simp [bltP] at e
    | nil =>
      cases hx with
      | int k =>
        simp only [bltP] at e
        split at e
        · rename_i hk
          cases e
          exact call_str_int pins s σ H _ us Q I rv ⟨k, rfl, hk, q.here hh (.str _)⟩
        · cases e
      | _ => simp [bltP] at e
theorem xs_sto2 {a1 b1 a2 b2 v : Expr} {ia1 ib1 ia2 ib2 iv : E} {p1 p2 pt pos : Pos} {kt : Nat} (hc : X.calm = true) (hu : X.A.units + 64 < cLine) (hv : XE X cf v iv) (ho1 : XE X cf a1 ia1) (hi1 : XE X cf b1 ib1) (ho2 : XE X cf a2 ia2) (hi2 : XE X cf b2 ib2)
    (ha1 : ∀ v, assign (.Subscript a1 b1 p1) X.env v = (do
      let ov ← holding [v] (eval a1 X.env)
      let iv ← holding [v, ov] (eval b1 X.env)
      standAt p1
      holding [v, ov, iv] (setItem ov iv v)
      release [v, ov, iv] []) := by intro _; rfl)
    (ha2 : ∀ v, assign (.Subscript a2 b2 p2) X.env v = (do
      let ov ← holding [v] (eval a2 X.env)
      let iv ← holding [v, ov] (eval b2 X.env)
      standAt p2
      holding [v, ov, iv] (setItem ov iv v)
      release [v, ov, iv] []) := by intro _; rfl)
    (hs1 : (assignEach [.Subscript a1 b1 p1, .Subscript a2 b2 p2] X.env).map (·.2) = assign (.Subscript a1 b1 p1) X.env :: (assignEach [.Subscript a2 b2 p2] X.env).map (·.2) := by rfl)
    (hs2 : (assignEach [.Subscript a2 b2 p2] X.env).map (·.2) = assign (.Subscript a2 b2 p2) X.env :: (assignEach [] X.env).map (·.2) := by rfl)
    (hn : (assignEach [.Subscript a1 b1 p1, .Subscript a2 b2 p2] X.env).length = 2 := by rfl) (hst : (assignEach [.Subscript a1 b1 p1, .Subscript a2 b2 p2] X.env).findIdx? (·.1) = none := by rfl)
    (h1 : swapsWithSole [.Tuple [.Subscript a1 b1 p1, .Subscript a2 b2 p2] kt pt] v pos.line X.env = pure false := by rfl) (h2 : swappedStores [.Tuple [.Subscript a1 b1 p1, .Subscript a2 b2 p2] kt pt] v X.env = pure none := by rfl)
    (h3 : (assignEach [.Tuple [.Subscript a1 b1 p1, .Subscript a2 b2 p2] kt pt] X.env).map (·.2) = [assign (.Tuple [.Subscript a1 b1 p1, .Subscript a2 b2 p2] kt pt) X.env] := by rfl) :
    XS X cf (.Assign [.Tuple [.Subscript a1 b1 p1, .Subscript a2 b2 p2] kt pt] v pos) (.sto2 ia1 ib1 ia2 ib2 iv) := by
  refine ps_imp (ps_asg hv (pg_tup hc (pgs_cons (pg_sub ho1 hi1 (setx hu) ha1) (pgs_cons (pg_sub ho2 hi2 (setx hu) ha2) pgs_nil hs2) hs1) hn hst) h1 h2 h3) fun D s H q => ?_
  obtain ⟨r, sg, M, fl, M', hs, hh, ev, q⟩ := q
  simp only [evS] at ev
  split at ev
  · rename_i x y N1 e1
    split at ev
    · rename_i p N2 e2
      split at ev
      · rename_i qq N3 e3
        split at ev
        · rename_i N4 e4
          split at ev
          · rename_i p2' N5 e5
            split at ev
            · rename_i q2 N6 e6
              obtain ⟨N7, e7, e8⟩ := Option.map_eq_some_iff.mp ev
              cases e8
              refine ⟨r, sg, M, .tup [x, y], N1, hs, hh, e1, fun r1 u1 H1 x1 h1 v1 => ?_⟩
              cases v1 with
              | tup ht hxs =>
                cases hxs with
                | cons hx hxs2 =>
                  cases hxs2 with
                  | cons hy hz =>
                    cases hz
                    refine ⟨_, _, rfl, ht, rfl, _, _, rfl, ?_⟩
                    refine ⟨r1, sg, N1, p, N2, hs.ext x1, h1, e2, fun r2 u2 H2 x2 h2 v2 => ⟨r2, sg, N2, qq, N3, hs.ext (x1.trans x2), h2, e3, fun r3 u3 H3 x3 h3 v3 => ?_⟩⟩
                    refine ⟨r3, N3, p, qq, x, N4, h3, v2.ext x3, v3, hx.ext (x2.trans x3), e4, fun r4 H4 x4 h4 => ?_⟩
                    have x14 := x2.trans (x3.trans x4)
                    refine ⟨_, _, rfl, r4, sg, N4, p2', N5, hs.ext (x1.trans x14), h4, e5, fun r5 u5 H5 x5 h5 v5 => ⟨r5, sg, N5, q2, N6, hs.ext (x1.trans (x14.trans x5)), h5, e6, fun r6 u6 H6 x6 h6 v6 => ?_⟩⟩
                    refine ⟨r6, N6, p2', q2, y, M', h6, v5.ext x6, v6, hy.ext (x14.trans (x5.trans x6)), e7, fun r7 H7 x7 h7 => ?_⟩
                    exact ⟨rfl, q r7 H7 (x1.trans (x14.trans (x5.trans (x6.trans x7)))) h7 s (hs.ext (x1.trans (x14.trans (x5.trans (x6.trans x7)))))⟩
            · cases ev
          · cases ev
        · cases ev
      · cases ev
    · cases ev
  · cases ev
end
end Mp

/-! MpSet: set comprehensions of ints, set(list of ints), each sorted at once. -/
namespace Mp
open PySem L2 PyProof.Rows

/-- the set that a comprehension fills, in general: Ob D st what stands at D; one more is taken in by ad -/
structure SetKind (X : Cx) where
  Sn : Type
  Ob : Addr → Sn → HO
  zero : Sn
  ad : V → Sn → Sn → Prop
  new : ∀ (H : Hp) (h : Heap) (D : Addr), h.get? D = some { cls := .type "set", dict := none, data := .set #[] 0 (.fresh 0 0 (!X.w.params.followText "set-order")) } → ObjOk X.prog X.w H h D (Ob D zero)
  add : ∀ (Y : Cx), Y.prog = X.prog → Y.w = X.w → ∀ (pins : List (Addr × Obj)) (sg : L2.St) (H : Hp) (s : Shared) (D : Addr) (a b : Sn) (y : V) (u : Value) (Q : Value → Shared → Prop) (E : Value → Shared → Prop), L2.Inv Y pins sg H s → H D = some (Ob D a) → ad y a b → RelV y u →
    (∀ s', L2.Inv Y pins sg (upd H D (Ob D b)) s' → Q .none s') → wpAny (model Y.prog Y.w) Y.A (call (.builtin "set.add") [.ref D, u]) Q E s

def tScG {X : Cx} (S : SetKind X) (wi : TI) (g : TG) (tt : TT) (te : TE) (vs : List Nat) : TE := fun sg H Q => wi sg H fun J H1 => ∀ D, H1 D = none → ∃ W : Nat → Nat → Hp → Prop, (∃ m, W 0 m (upd H1 D (S.Ob D S.zero))) ∧ ∀ i m H, W i m H →
  (J.stop i H ∧ Q (.ref D) H) ∨ (J.go i H ∧ ∃ Nx : Hp → Prop, (∀ H', Nx H' → ∃ m', m' < m ∧ W (i + 1) m' H') ∧ ∀ x H', J.yld i H x H' → g x (wipe sg vs) H' fun s2 H2 => wipe s2 vs = wipe sg vs ∧ tt s2 H2 fun b H3 =>
    if b = true then te s2 H3 fun y H4 => ∃ a b, H4 D = some (S.Ob D a) ∧ S.ad y a b ∧ Nx (upd H4 D (S.Ob D b)) else Nx H3)
section
variable {X : Cx}
theorem sc_run (S : SetKind X) {pins : List (Addr × Obj)} {s : Shared} {sg : L2.St} {H : Hp} {Q : VK} {elt tg iter : Expr} {ifs : List Expr} {scope : Scope} {own : List (Str × Nat)} {pos pos' : Pos} {wi : TI} {g : TG} {tt : TT} {te : TE} {use : Option (Value → Sem Unit)} {Qf : Value → Shared → Prop}
    (hc : X.calm = true) (hN : X.N.Nodup) (I : L2.Inv X pins sg H s) (hi : PI X tg iter wi) (ok : BlkOk X.N X.env.scope scope own)
    (hg : ∀ (s : Shared) (H : Hp) (C : Addr) (cl : List (Str × Addr)) (fp : List Addr), PG (X.blk s H scope (compEnvC scope cl C X.env) fp) tg g) (ht : ∀ (s : Shared) (H : Hp) (C : Addr) (cl : List (Str × Addr)) (fp : List Addr), PTs (X.blk s H scope (compEnvC scope cl C X.env) fp) ifs tt)
    (he : ∀ (s : Shared) (H : Hp) (C : Addr) (cl : List (Str × Addr)) (fp : List Addr), PE (X.blk s H scope (compEnvC scope cl C X.env) fp) elt te) (hs : ∀ x, foldedSetIterable iter X.env x = pure x)
    (h : tScG S wi g tt te (own.map (·.2)) sg H Q)
    (back : ∀ D C s' m H', L2.Inv X pins sg H' s' → Q (.ref D) H' → s'.heap.Ns C m → FpOk X pins H' C → compPost (model X.prog X.w) X.A X.xe use Qf (.ref D) C (.ok .next) s') :
    wpAny (model X.prog X.w) X.A (comprehension (.SetComp elt [⟨tg, iter, ifs, 0⟩] scope pos) scope X.env pos' (newSet (.type "set")) false (eval iter X.env) use) Qf X.xe s := by
  have free : ∀ y ∈ scope.names, y.2 = .free → ∃ c, X.env.cells.lookup y.1 = some c := fun y hy e =>
    (ok.free y hy e).elim (fun k => I.ok.has _ (.inl k)) (fun k => I.ok.has _ (.inr k))
  refine wpAny_comprehension_free (use := use) rfl hs (closure_ok free) ok.kind (fun y hy e => by rw [ok.uniq y hy, e]) (thn (hi.run pins s sg H _ I h) fun xv sA hx => thn hx fun itv sB hB => ?_)
  obtain ⟨it, fp, tn, J, HB, eB, IB, T, stB, fB, q⟩ := hB
  subst eB
  refine PpSet.newSet_ok (newEnv_comp ?_)
  generalize eD : sB.heap.objs.size = D
  obtain ⟨W, ⟨m0, w0⟩, turn⟩ := q D (IB.hok.fresh (Nat.le_of_eq eD))
  generalize eC : ({ sB with heap := sB.heap.push { cls := .type "set", dict := none, data := .set #[] 0 (.fresh 0 0 (!X.w.params.followText "set-order")) } } : Shared) = sC
  have hC : sC.heap = sB.heap.push { cls := .type "set", dict := none, data := .set #[] 0 (.fresh 0 0 (!X.w.params.followText "set-order")) } := by rw [← eC]
  generalize eH : upd HB D (S.Ob D S.zero) = HC at w0
  have IC : L2.Inv X pins sg HC sC := by
    rw [← eC, ← eH]
    refine IB.laid (t' := sB.toks) (fun b o e => Heap.get?_push_of_some _ e) (Nat.le_of_eq eD) (S.new _ _ _ ?_)
    rw [← eD]
    exact Heap.get?_push_size _ rfl
  have fC : ∀ b ∈ fp, FpOk X pins HC b ∧ b < sC.heap.objs.size := fun b hb => by
    have lt : b < sB.heap.objs.size := by
      obtain ⟨o, e, _⟩ := T.obj _ _ stB b hb
      exact Heap.lt_size e
    refine ⟨⟨?_, (fB b hb).2⟩, by rw [hC, Heap.size_push]; exact Nat.lt_succ_of_lt lt⟩
    rw [← eH, upd_ne (by rw [← eD]; exact Nat.ne_of_lt lt)]
    exact (fB b hb).1
  have stC : tn 0 sC.heap := T.keep _ _ _ stB fun b _ o e => by rw [hC]; exact Heap.get?_push_of_some _ e
  have IE := block_start IC ok hN fC
  have pg := hg sC HC sC.heap.objs.size (cellsFrom (sC.heap.objs.size + 1) scope.names (cloFrom X.env.cells scope.names [])) fp
  have pt := ht sC HC sC.heap.objs.size (cellsFrom (sC.heap.objs.size + 1) scope.names (cloFrom X.env.cells scope.names [])) fp
  have pe := he sC HC sC.heap.objs.size (cellsFrom (sC.heap.objs.size + 1) scope.names (cloFrom X.env.cells scope.names [])) fp
  show codeAny _ _ (.compStart (.SetComp elt [⟨tg, iter, ifs, 0⟩] scope pos) 0 (.ref it) (.ref D) (compEnvC scope (cellsFrom (sC.heap.objs.size + 1) scope.names (cloFrom X.env.cells scope.names [])) sC.heap.objs.size X.env)) (compPost (model X.prog X.w) X.A X.xe use Qf (.ref D) sC.heap.objs.size) { sC with heap := pushCells (sC.heap.push { cls := .type "dict", data := .dict #[] }) scope.names }
  generalize eE : compEnvC scope (cellsFrom (sC.heap.objs.size + 1) scope.names (cloFrom X.env.cells scope.names [])) sC.heap.objs.size X.env = ce at IE pg pt pe ⊢
  have loc : ce.locals = sC.heap.objs.size := by subst eE; rfl
  generalize eF : ({ sC with heap := pushCells (sC.heap.push { cls := .type "dict", data := .dict #[] }) scope.names } : Shared) = sF at IE ⊢
  have stF : tn 0 sF.heap := T.keep _ _ _ stC fun b _ o e => by rw [← eF]; exact pushCells_keeps _ _ _ _ (Heap.get?_push_of_some _ e)
  have fpk : ∀ {s5 : L2.St} {H5 : Hp} {u5 : Shared}, L2.Inv (X.blk sC HC scope ce fp) [] s5 H5 u5 → (∀ b ∈ fp, H5 b = none) → ∀ b ∈ fp, FpOk (X.blk sC HC scope ce fp) [] H5 b := fun J5 n5 b hb =>
    ⟨n5 b hb, (J5.ok.exf b hb).1, J5.ok.exfs b hb, .inl hb, fun x c e => (J5.ok.exf b hb).2 x c e, fun p hp => absurd (show p ∈ ([] : List (Addr × Obj)) ++ [] from hp) (by simp)⟩
  have loop : codeAny (model X.prog X.w) X.A (.compLoop (.SetComp elt [⟨tg, iter, ifs, 0⟩] scope pos) 0 (.ref it) (.ref D) ce) (compPost (model X.prog X.w) X.A X.xe use Qf (.ref D) sC.heap.objs.size) sF := by
    refine PpSet.compLoopS_any (fun n u5 => ∃ i H5, L2.Inv (X.blk sC HC scope ce fp) [] (wipe sg (own.map (·.2))) H5 u5 ∧ tn i u5.heap ∧ (∀ b ∈ fp, H5 b = none) ∧ W i n H5) ?_ m0 ⟨0, HC, IE, stF, fun b hb => (fC b hb).1.1, w0⟩
    rintro n u5 ⟨i, H5, J5, st5, n5, w5⟩
    rcases turn i n H5 w5 with ⟨stop, qq⟩ | ⟨go, Nx, hNx, step⟩
    · refine thnF (T.done (X.blk sC HC scope ce fp) rfl rfl rfl hc i [] u5 _ H5 (fun _ _ => False) J5 (fpk J5 n5) st5 stop) fun r u6 ⟨hr, J6⟩ => ?_
      subst hr
      have J7 : L2.Inv X pins sg H5 u6 := IC.call' (ch := fp) J6.os J6.base J6.hok J6.bare fun b hb => ⟨(fC b hb).1.2.2.2.1, (fC b hb).1.2.1, (fC b hb).1.2.2.2.2.1, (fC b hb).1.2.2.2.2.2⟩
      have nC : H5 sC.heap.objs.size = none := loc ▸ (show H5 ce.locals = none from J6.free)
      obtain ⟨m, hn, _⟩ := J6.loc
      have hn : u6.heap.Ns ce.locals m := hn
      rw [loc] at hn
      exact back D sC.heap.objs.size u6 m H5 J7 qq hn (IC.fpOk (Nat.le_refl _) nC)
    · refine thnF (T.item (X.blk sC HC scope ce fp) rfl rfl rfl hc i [] u5 _ H5 (fun _ _ => False) J5 (fpk J5 n5) st5 go) fun r u6 ⟨v6, hr, h6⟩ => ?_
      subst hr
      refine thnF h6 fun _ u7 ⟨x, H7, J7, r7, y7, st7, n7⟩ => ?_
      have J7' := J7.pinned (fpk J7 n7) (T.obj _ _ st7)
      refine thnF (pg.run _ u7 _ H7 x v6 _ J7' r7 (step x H7 y7)) fun _ u8 ⟨s8, H8, J8, hw8, q8⟩ => ?_
      refine thnF (pt.run _ u8 s8 H8 _ J8 q8) fun b u9 ⟨H9, J9, q9⟩ => ?_
      have fin : ∀ {uz : Shared} {Hz : Hp}, L2.Inv (X.blk sC HC scope ce fp) ([] ++ pinsAt fp u7.heap) s8 Hz uz → Nx Hz → ∃ m, m < n ∧ ∃ i H5, L2.Inv (X.blk sC HC scope ce fp) [] (wipe sg (own.map (·.2))) H5 uz ∧ tn i uz.heap ∧ (∀ b ∈ fp, H5 b = none) ∧ W i m H5 := fun {uz Hz} Jz nx => by
        obtain ⟨m', hm, w'⟩ := hNx Hz nx
        have pin : ∀ b ∈ fp, ∀ o, u7.heap.get? b = some o → uz.heap.get? b = some o ∧ Hz b = none := fun b hb o e =>
          let z := Jz.pin (b, o) (List.mem_append_right _ (List.mem_append_right _ (mem_pinsAt hb e)))
          ⟨z.1, z.2.1⟩
        refine ⟨m', hm, i + 1, Hz, (Jz.unpinned (pins := [])).weak (by rw [← hw8, wipe_length]) (fun j v e => ?_), T.keep _ _ _ st7 fun b hb o e => (pin b hb o e).1, fun b hb => ?_, w'⟩
        · rw [← hw8] at e
          exact (wipe_some e).1
        · obtain ⟨o, e, _⟩ := T.obj _ _ st7 b hb
          exact (pin b hb o e).2
      cases b with
      | false =>
        simp only [Bool.false_eq_true, if_false] at q9 ⊢
        exact fin J9 q9
      | true =>
        simp only [if_true] at q9 ⊢
        refine thnF (pe.run _ u9 s8 H9 _ J9 q9) fun z uA ⟨yv, HA, JA, rA, a1, b1, hA, hd, nx⟩ => ?_
        exact S.add (X.blk sC HC scope ce fp) rfl rfl _ _ _ _ D a1 b1 yv z _ _ JA hA hd rA fun uB JB => fin JB nx
  exact PpSet.codeAny_compStart_set loop (T.self X.A 0 _ _ _ stF loop)
theorem pe_scG (S : SetKind X) {elt tg iter : Expr} {ifs : List Expr} {scope : Scope} {own : List (Str × Nat)} {pos : Pos} {wi : TI} {g : TG} {tt : TT} {te : TE} (hc : X.calm = true) (hN : X.N.Nodup) (hi : PI X tg iter wi) (ok : BlkOk X.N X.env.scope scope own)
    (hg : ∀ (s : Shared) (H : Hp) (C : Addr) (cl : List (Str × Addr)) (fp : List Addr), PG (X.blk s H scope (compEnvC scope cl C X.env) fp) tg g) (ht : ∀ (s : Shared) (H : Hp) (C : Addr) (cl : List (Str × Addr)) (fp : List Addr), PTs (X.blk s H scope (compEnvC scope cl C X.env) fp) ifs tt)
    (he : ∀ (s : Shared) (H : Hp) (C : Addr) (cl : List (Str × Addr)) (fp : List Addr), PE (X.blk s H scope (compEnvC scope cl C X.env) fp) elt te) (hs : ∀ x, foldedSetIterable iter X.env x = pure x := by intro _; rfl) :
    PE X (.SetComp elt [⟨tg, iter, ifs, 0⟩] scope pos) (tScG S wi g tt te (own.map (·.2))) := by
  refine ⟨fun pins s sg H Q I h => ?_⟩
  rw [PpSet.eval_SetComp]
  refine sc_run S hc hN I hi ok hg ht he hs h fun D C s' m H' I' q hn f => ⟨m, hn, fun h'' sb => ?_⟩
  obtain ⟨f0, f1, f2, f3, f4, f5⟩ := f
  exact ⟨.ref D, H', I'.turned (t' := s'.toks) (fun b o hb e => (sb.2 b hb).trans e) f0 f1 f3 f4 f5, rfl, q⟩

/-! ### ints -/
def setInts (X : Cx) : SetKind X where
  Sn := (Int → Bool) × Nat
  Ob := fun D st => SetO X.w D st.1 st.2
  zero := (fun _ => false, 0)
  ad := fun y a b => ∃ c, y = .int c ∧ a.2 + 1 < scanBound ∧ b = ((fun j => a.1 j || decide (j = c)), if a.1 c = true then a.2 else a.2 + 1)
  new := fun H h D ho => setO_new ((setR_new_at (ns := []) ho).congr fun j => by simp)
  add := fun Y e1 e2 pins sg H s D a b y u Q E I hD hd ru q => by
    obtain ⟨P, w, K, mg, base, A, N, s0, H0, env, outer, stack, ex, fn, calm, pn, xe⟩ := Y
    cases e1
    cases e2
    obtain ⟨c, rfl, room, rfl⟩ := hd
    obtain ⟨tk, rfl⟩ := ru
    have R := setO_get I hD
    refine setR_add R room fun h' sb new => ?_
    have he : ∃ u, h'.get? D = some u := by
      have ⟨o, _, _, _, ho, _⟩ := new
      exact ⟨o, ho⟩
    exact q _ (I.write (e := D) (t' := s.toks + 1) (by rw [hD]; trivial) (.inl rfl) (fun b u hb hu => (sb.2 b hb).trans hu) he (setO_new new))
end
/-- strictly sorted lists of the same members are one -/
theorem uniq_lt : ∀ {a b : List Int}, a.Pairwise (· < ·) → b.Pairwise (· < ·) → (∀ k, k ∈ a ↔ k ∈ b) → a = b
  | [], [], _, _, _ => rfl
  | [], y :: ys, _, _, h => absurd ((h y).mpr List.mem_cons_self) (by simp)
  | x :: xs, [], _, _, h => absurd ((h x).mp List.mem_cons_self) (by simp)
  | x :: xs, y :: ys, ha, hb, h => by
    rw [List.pairwise_cons] at ha hb
    have exy : x = y := by
      have h1 := (h x).mp List.mem_cons_self
      have h2 := (h y).mpr List.mem_cons_self
      rcases List.mem_cons.mp h1 with e | h1
      · exact e
      · rcases List.mem_cons.mp h2 with e | h2
        · exact e.symm
        · have := hb.1 x h1; have := ha.1 y h2; omega
    subst exy
    rw [uniq_lt ha.2 hb.2 fun k => ?_]
    constructor
    · intro hk
      rcases List.mem_cons.mp ((h k).mp (List.mem_cons_of_mem _ hk)) with e | h'
      · subst e; have := ha.1 k hk; omega
      · exact h'
    · intro hk
      rcases List.mem_cons.mp ((h k).mpr (List.mem_cons_of_mem _ hk)) with e | h'
      · subst e; have := hb.1 k hk; omega
      · exact h'
theorem insU_mem (i k : Int) : ∀ ns : List Int, k ∈ insU i ns ↔ k = i ∨ k ∈ ns
  | [] => by simp [insU]
  | j :: r => by
    unfold insU
    split
    · simp
    · split
      · rename_i e; subst e; simp
      · rw [List.mem_cons, insU_mem i k r, List.mem_cons]
        constructor
        · rintro (h | h | h)
          · exact .inr (.inl h)
          · exact .inl h
          · exact .inr (.inr h)
        · rintro (h | h | h)
          · exact .inr (.inl h)
          · exact .inl h
          · exact .inr (.inr h)
theorem usortI_mem (k : Int) : ∀ ns : List Int, k ∈ usortI ns ↔ k ∈ ns
  | [] => by simp [usortI]
  | i :: r => by
    show k ∈ insU i (usortI r) ↔ _
    rw [insU_mem, usortI_mem k r, List.mem_cons]
theorem insU_lt (i : Int) : ∀ ns : List Int, ns.Pairwise (· < ·) → (insU i ns).Pairwise (· < ·)
  | [], _ => by simp [insU]
  | j :: r, h => by
    rw [List.pairwise_cons] at h
    unfold insU
    split
    · rename_i hij
      refine List.pairwise_cons.mpr ⟨fun y hy => ?_, List.pairwise_cons.mpr h⟩
      rcases List.mem_cons.mp hy with rfl | hy
      · exact hij
      · have := h.1 y hy; omega
    · split
      · exact List.pairwise_cons.mpr h
      · rename_i h1 h2
        refine List.pairwise_cons.mpr ⟨fun y hy => ?_, insU_lt i r h.2⟩
        rcases (insU_mem i y r).mp hy with rfl | hy
        · omega
        · exact h.1 y hy
theorem usortI_lt : ∀ ns : List Int, (usortI ns).Pairwise (· < ·)
  | [] => by simp [usortI]
  | i :: r => insU_lt i _ (usortI_lt r)
theorem usortI_uniq {ns ms : List Int} {S : Int → Bool} (hS : ∀ k, S k = true ↔ k ∈ ns) (p : ms.Pairwise (· < ·)) (m : ∀ k, k ∈ ms ↔ S k = true) : ms = usortI ns :=
  uniq_lt p (usortI_lt ns) fun k => by rw [m, hS, usortI_mem]
section
variable {X : Cx} {cf : CF} {i ic : E} {pos p : Pos} {elt tg iter : Expr} {ifs : List Expr} {scope : Scope} {own : List (Str × Nat)} {t : Tg} {it : Mp.It}
/-- an object that is not tracked changes -/
theorem RH.off {K : PySem.W.Frag} {r : List Addr} {M : Mm} {H : Hp} {D : Addr} {ho o : HO} (h : RH K r M H) (hD : H D = some ho) (hm : Mut (some ho)) (nd : D ∉ r) : RH K r M (upd H D o) := by
  refine h.same ⟨⟨[], by simp⟩, fun b xs e => ?_, fun b q u e => ?_⟩ fun a ha => upd_ne fun z => nd (z ▸ ha)
  · rw [upd_ne]; exact e
    intro z; subst z; rw [hD] at e; cases e; exact hm
  · rw [upd_ne]; exact e
    intro z; subst z; rw [hD] at e; cases e; exact hm
theorem Ext.off {r r' : List Addr} {H H' : Hp} {D : Addr} {o : HO} (e : Ext r r' H H') (hD : H D = none) : Ext r r' H (upd H' D o) := by
  have ne : ∀ {b : Addr} {q : HO}, H b = some q → b ≠ D := fun {b q} h z => by subst z; rw [hD] at h; cases h
  exact ⟨⟨e.pre, fun b xs h => by rw [upd_ne (ne h)]; exact e.tups b xs h, fun b q u h => by rw [upd_ne (ne h)]; exact e.frzs b q u h⟩, e.fresh, fun b q hb h => by rw [upd_ne (ne h)]; exact e.oth b q hb h, fun b q h => by
    obtain ⟨o', h'⟩ := e.live b q h
    exact ⟨o', by rw [upd_ne (ne h)]; exact h'⟩⟩
theorem Ext.nin {r r' : List Addr} {H H' : Hp} {D : Addr} {o : HO} (e : Ext r r' H H') (nd : D ∉ r) (hD : H D = some o) : D ∉ r' := fun h => by
  rw [e.fresh D h nd] at hD; cases hD
theorem scL_len {src : Src} {b : PV → Sg → Option Sg} {c e : Sg → Mm → R} {sg : Sg} {acc' : List Int} {Mz : Mm} : ∀ (m : Nat) {k : Nat} {acc : List Int} {M : Mm}, scL src b c e sg m k acc M = some (acc', Mz) → acc'.length ≤ 60 ∨ acc'.length ≤ acc.length
  | 0, _, _, _, h => by simp only [scL] at h; cases h
  | m + 1, k, acc, M, h => by
    simp only [scL] at h
    split at h
    · cases h
    · cases h; exact .inr (Nat.le_refl _)
    · split at h
      · cases h
      · split at h
        · split at h
          · split at h
            · rcases scL_len m h with q | q
              · exact .inl q
              · simp at q; left; omega
            · cases h
          · cases h
        · exact scL_len m h
        · cases h
theorem sc_red {s : L2.St} {H : Hp} {Q : VK} {vs : List Nat} (ht : ∀ j ∈ t.ixs, j ∈ vs) (q : TEv X.K (evE cf (.ssc vs t it ic i)) s H Q) :
    tScG (setInts X) (TIv X.K (evI cf it)) (gOf X.K t) (TTv X.K (evE cf ic)) (TEv X.K (evE cf i)) vs s H fun x H' => ∃ (a : Addr) (S : Int → Bool) (n : Nat), [x] = [V.ref a] ∧ H' a = some (SetO X.w a S n) ∧ n < 64 ∧
      ∀ (ns : List Int) (p : Addr), ns.Pairwise (· < ·) → (∀ k : Int, k ∈ ns ↔ S k = true) → ns.length = n → H' p = none → Q (.ref p) (upd H' p (.lst (ns.map V.int))) := by
  obtain ⟨r, sg, M, z, M', hs, hh, ev, q⟩ := q
  simp only [evE] at ev
  split at ev
  · rename_i src M1 e1
    obtain ⟨Mx, ev', ez⟩ := Option.map_eq_some_iff.mp ev
    clear ev
    obtain ⟨acc', Mz⟩ := Mx
    cases ez
    refine ⟨r, sg, M, src, M1, hs, hh, e1, fun r1 H1 J x1 h1 ok D hD => ?_⟩
    have npD : D ∉ r1 := fun m => by
      obtain ⟨ho, e, _⟩ := h1.there m
      rw [hD] at e; cases e
    refine ⟨fun k m H => ∃ r2 M2 acc S n, Ext r1 r2 H1 H ∧ RH X.K r2 M2 H ∧ D ∉ r2 ∧ H D = some (SetO X.w D S n) ∧ n ≤ acc.length ∧ (∀ j, S j = true ↔ j ∈ acc) ∧ scL src (tgP t) (fun sg M => evE cf ic sg M) (fun sg M => evE cf i sg M) (wipeP sg vs) m k acc M2 = some (acc', Mz),
      ⟨bigN, r1, M1, [], fun _ => false, 0, ext_new0 hD, h1.other _ hD, npD, upd_same, Nat.le_refl _, fun j => by simp, ev'⟩, ?_⟩
    rintro k m H2 ⟨r2, M2, acc, S, n, x2, h2, nd2, hD2, hn2, hS2, ev2⟩
    cases m with
    | zero => simp only [scL] at ev2; cases ev2
    | succ m =>
      simp only [scL] at ev2
      obtain ⟨o1, o2⟩ := ok r2 M2 H2 k x2 h2
      have xs2 : Ext r r2 H H2 := x1.trans x2
      cases eg : src.get M2 k with
      | none => rw [eg] at ev2; cases ev2
      | some og =>
        rw [eg] at ev2
        cases og with
        | none =>
          simp only at ev2
          obtain ⟨rfl, rfl⟩ := Prod.mk.inj (Option.some.inj ev2)
          have h60 : acc.length < 64 := by
            rcases scL_len _ ev' with h | h
            · omega
            · have : acc.length ≤ 0 := h
              omega
          refine .inl ⟨o2 eg, D, S, n, rfl, hD2, by omega, fun ns p pw mm _ hp => ?_⟩
          rw [usortI_uniq hS2 pw mm]
          have xq := ext_new (r := r2) (o := .lst ((usortI acc).map V.int)) hp [p]
          exact q (r2 ++ [p]) _ _ (xs2.trans xq) (h2.new hp ⟨_, upd_same, ints_rv _⟩) (.ref (by rw [← h2.len]; simp))
        | some x =>
          obtain ⟨g1, g2⟩ := o1 x eg
          refine .inr ⟨g1, fun H => ∃ r2 M2 acc S n, Ext r1 r2 H1 H ∧ RH X.K r2 M2 H ∧ D ∉ r2 ∧ H D = some (SetO X.w D S n) ∧ n ≤ acc.length ∧ (∀ j, S j = true ↔ j ∈ acc) ∧ scL src (tgP t) (fun sg M => evE cf ic sg M) (fun sg M => evE cf i sg M) (wipeP sg vs) m (k + 1) acc M2 = some (acc', Mz), fun H' w => ⟨m, Nat.lt_succ_self m, w⟩, fun v H3 y => ?_⟩
          obtain ⟨x3, h3, v3⟩ := g2 v H3 y
          have hD3 := x3.oth D _ nd2 hD2
          simp only at ev2
          cases eb : tgP t x (wipeP sg vs) with
          | none => rw [eb] at ev2; cases ev2
          | some sg3 =>
            rw [eb] at ev2
            refine g_run (((hs.ext xs2).ext x3).wipe vs) v3 eb fun s4 hs4 hw => ⟨by rw [hw vs ht, wipe_same], ?_⟩
            simp only at ev2
            split at ev2
            · rename_i M4 e4
              refine ⟨r2, sg3, M2, _, _, hs4, h3, e4, fun r5 H5 x5 h5 => iteT ?_⟩
              have nd5 := x5.nin nd2 hD3
              have hD5 := x5.oth D _ nd2 hD3
              split at ev2
              · rename_i y M6 e5
                split at ev2
                · rename_i hl
                  refine ⟨r5, sg3, M4, _, M6, hs4.ext x5, h5, e5, fun r7 u7 H7 x7 h7 v7 => ?_⟩
                  have nd7 := x7.nin nd5 hD5
                  have hD7 := x7.oth D _ nd5 hD5
                  cases v7
                  have x17 : Ext r1 r7 H1 H7 := x2.trans (x3.trans (x5.trans x7))
                  refine ⟨(S, n), _, hD7, ⟨y, rfl, by show n + 1 < 4096; omega, rfl⟩, r7, M6, acc ++ [y], _, _, x17.off hD, h7.off hD7 trivial nd7, nd7, upd_same, ?_, fun j => ?_, ev2⟩
                  · show (if S y = true then n else n + 1) ≤ _
                    rw [List.length_append]
                    split
                    · omega
                    · simp; omega
                  · show (S j || decide (j = y)) = true ↔ _
                    rw [Bool.or_eq_true, hS2, decide_eq_true_eq, List.mem_append]
                    simp
                · cases ev2
              · cases ev2
            · rename_i M4 e4
              refine ⟨r2, sg3, M2, _, _, hs4, h3, e4, fun r5 H5 x5 h5 => iteF ⟨r5, M4, acc, S, n, x2.trans (x3.trans x5), h5, x5.nin nd2 hD3, x5.oth D _ nd2 hD3, hn2, hS2, ev2⟩⟩
            · cases ev2
  · cases ev
theorem xe_ssc (hc : X.calm = true) (hN : X.N.Nodup) {p1 p2 : Pos} (hgs : Gl X "sorted") (hms : X.mg "sorted" = none) (hi : XI X cf tg iter it) (ok : BlkOk X.N X.env.scope scope own)
    (hg : ∀ (s : Shared) (H : Hp) (C : Addr) (cl : List (Str × Addr)) (fp : List Addr), XG (X.blk s H scope (compEnvC scope cl C X.env) fp) tg t) (ht : ∀ (s : Shared) (H : Hp) (C : Addr) (cl : List (Str × Addr)) (fp : List Addr), XTs (X.blk s H scope (compEnvC scope cl C X.env) fp) cf ifs ic)
    (he : ∀ (s : Shared) (H : Hp) (C : Addr) (cl : List (Str × Addr)) (fp : List Addr), XE (X.blk s H scope (compEnvC scope cl C X.env) fp) cf elt i) (hx : ∀ j ∈ t.ixs, j ∈ own.map (·.2)) (hs : ∀ x, foldedSetIterable iter X.env x = pure x := by intro _; rfl)
    (he1 : starEach [.SetComp elt [⟨tg, iter, ifs, 0⟩] scope pos] X.env = (false, eval (.SetComp elt [⟨tg, iter, ifs, 0⟩] scope pos) X.env) :: starEach [] X.env := by rfl) (hpl : (backTo p2 (starEach [] X.env)).any (·.1) = false := by rfl) :
    XE X cf (.Call (.Name "sorted" p1) [.SetComp elt [⟨tg, iter, ifs, 0⟩] scope pos] [] p2) (.ssc (own.map (·.2)) t it ic i) :=
  pe_imp (pe_callB (cr_sortedSet hc) hgs hms (by decide +kernel) (pa_cons (pe_scG (setInts X) (g := gOf X.K t) (tt := TTv X.K (evE cf ic)) (te := TEv X.K (evE cf i)) hc hN hi ok hg ht he hs) pa_nil he1) (by decide) (by decide) he1 hpl) fun s H Q q => sc_red hx q
end
end Mp

/-! MpSet2: sorted(set(list of ints)). -/
namespace Mp
open PySem L2 PyProof.Rows
open PySem.Sem (wp)

section
variable {P : Program} {w : World} {A : Around} {E : Value → Shared → Prop} {s : Shared}
set_option maxHeartbeats 8000000 in
theorem call_set_ints {l : Addr} {items : Array Value} (ns : List Int) {Q : Value → Shared → Prop} (hh : A.handled = none) (hl : s.heap.IsList l items) (hit : IntsAre items.toList ns) (hb : ns.length + 1 < scanBound)
    (h : ∀ (h' : Heap) (tk c : Nat), SetR w h' s.heap.objs.size (fun j => decide (j ∈ ns)) c → c ≤ ns.length → (∀ b o, s.heap.get? b = some o → h'.get? b = some o) → Q (.ref s.heap.objs.size) { s with heap := h', toks := tk }) :
    wpAny (model P w) A (call (.type "set") [.ref l]) Q E s := by
  have isz : items.size = ns.length := by
    have q := IntsAre.length hit
    rw [Array.length_toList] at q
    exact q
  obtain ⟨c, tl, hmro⟩ := F.called_set.mro
  have hmade := F.called_set.made
  have hsub := F.called_set.sub
  refine wpAny_call (codeAny_of_tree ?_)
  show wpAny _ _ (callAny (.type "set") _) _ _ _
  refine wpAny_pure ⟨Code.quiet_builtin _ (by decide +kernel), codeAny_builtin F.entry_type_call ?_⟩
  rw [Around.under_plain (weight_type_call_type "set" [.ref l] []) rfl]
  have h1 := F.called_set.notType
  have h2 := F.called_set.canCreate
  have hct := F.typeCall_set_1 (.ref l)
  repeat (any_goals (first | assumption | wp_step))
  generalize eN : ({ cls := .type "set", dict := none, data := .set #[] 0 (.fresh 0 0 (!w.params.followText "set-order")) } : Obj) = new
  refine codeAny_mono (code_set_led1 (.ref l) (E := E) (Q₁ := fun obj s₁ => obj = .ref s.heap.objs.size ∧ s₁ = { s with heap := s.heap.push new }) ⟨rfl, by rw [← eN]⟩) fun r s₁ hr => ?_
  cases r with
  | error e => exact hr
  | ok fl =>
    cases fl with
    | ret obj =>
      obtain ⟨rfl, rfl⟩ := hr
      have hS : (s.heap.push new).get? s.heap.objs.size = some new := Heap.get?_push_size _ (by rw [← eN]; rfl)
      have hT : Shared.TypeIs { s with heap := s.heap.push new } (.ref s.heap.objs.size) "set" := ⟨_, hS, by rw [← eN]⟩
      have hli := F.called_set.init.lookup
      have hbi := F.called_set.init.bind (.ref s.heap.objs.size)
      repeat (any_goals (first | assumption | wp_step))
      refine codeAny_mono (codeAny_call_builtin (R := wants (fun r s₂ => r = .none ∧ ∃ h' tk c, s₂ = { s with heap := h', toks := tk } ∧ SetR w h' s.heap.objs.size (fun j => decide (j ∈ ns)) c ∧ c ≤ ns.length ∧
          (∀ b o, s.heap.get? b = some o → h'.get? b = some o)) E) F.called_set.init.plain F.entry_set_init (check_set_init_1 hT ?_)) fun r₂ s₂ hr₂ => ?_
      · obtain ⟨ol, hol, hcl, nl, hdl⟩ := hl
        obtain ⟨ocls, odict, odata, oslots⟩ := ol
        simp only at hcl hdl
        subst hcl; subst hdl
        have hol' : (s.heap.push new).get? l = some { cls := .type "list", dict := odict, data := .seq items nl, slots := oslots } := Heap.get?_push_of_some _ hol
        have hsls := F.sub_list_set
        have hslf := F.sub_list_frozenset
        have hne : (Value.type "list" == Value.type "dict") = false := by decide
        have hl1 : (s.heap.push new).IsList l items := ⟨_, hol', rfl, nl, rfl⟩
        subst eN
        unfold Builtin.«set.__init__» noKeywords Builtin.Frozenset.updateFrom
        generalize hPI : pyIter = PI
        wp_walk
        subst hPI
        refine wpAny_pyIter_list hl1 ?_
        refine wpAny_bind (wpAny_runValue ?_)
        have hlS : l < s.heap.objs.size := Heap.lt_size hol
        have hh3 : A.in1.in1.in1.handled = none := by simp [hh]
        have sz : (s.heap.push { cls := .type "set", dict := none, data := .set #[] 0 (.fresh 0 0 (!w.params.followText "set-order")) }).objs.size = s.heap.objs.size + 1 := Heap.size_push ..
        have nI : l ≠ (s.heap.push { cls := .type "set", dict := none, data := .set #[] 0 (.fresh 0 0 (!w.params.followText "set-order")) }).objs.size := by rw [sz]; exact Nat.ne_of_lt (Nat.lt_succ_of_lt hlS)
        have nS : s.heap.objs.size ∉ [(s.heap.push { cls := .type "set", dict := none, data := .set #[] 0 (.fresh 0 0 (!w.params.followText "set-order")) }).objs.size, l] := by
          rw [sz]; simp only [List.mem_cons, List.not_mem_nil, or_false, not_or]
          exact ⟨Nat.ne_of_lt (Nat.lt_succ_self _), Nat.ne_of_gt hlS⟩
        have val : ∀ (i : Nat) (v : Value), items[i]? = some v → ∃ k t, ns[i]? = some k ∧ v = .int k t := fun i v hv => by
          have hi : i < ns.length := by rw [← isz]; exact (Array.getElem?_eq_some_iff.mp hv).1
          obtain ⟨t, e⟩ := PyProof.Rows.IntsAre.int_at hit i v (by rw [Array.getElem?_toList]; exact hv)
          refine ⟨ns[i], t, List.getElem?_eq_getElem hi, ?_⟩
          rw [e, List.getD_eq_getElem?_getD, List.getElem?_eq_getElem hi] <;> rfl
        refine set_update_ints ((Walks.list hh3 _ l nI items).toS) s.heap.objs.size nS ns isz hb val (items.size - 0) 0 _ (by omega) (Nat.zero_le _) ⟨⟨_, Heap.get?_push_size _ rfl, rfl, rfl⟩, (hl1.push _)⟩ ?hStart ?hEnd
        case hStart =>
          have hget : ((s.heap.push { cls := .type "set", dict := none, data := .set #[] 0 (.fresh 0 0 (!w.params.followText "set-order")) }).push { cls := .type "list_iterator", data := .fields #[.ref l, .int 0 0] }).get? s.heap.objs.size = some { cls := .type "set", dict := none, data := .set #[] 0 (.fresh 0 0 (!w.params.followText "set-order")) } := Heap.get?_push_of_some _ hS
          exact ⟨0, Nat.le_refl 0, setR_new_at hget⟩
        case hEnd =>
          intro s' c' hm hc' hS'
          obtain ⟨h', g2, d', tk', os'⟩ := s'
          cases (show g2 = s.gens from hm.gens)
          cases (show d' = s.drawn from hm.drawn)
          cases (show os' = s.os from hm.os)
          show wpAny _ _ _ _ _ _
          refine wpAny_pure ?_
          show wpAny _ _ (ret Value.none) _ _ _
          rw [isz] at hc'
          refine wpAny_pure ⟨rfl, h', tk', c', rfl, hS', hc', fun b o e => ?_⟩
          have b0 : b < s.heap.objs.size := Heap.lt_size e
          refine hm.heap b o ?_ (Heap.get?_push_of_some _ (Heap.get?_push_of_some _ e))
          simp only [List.mem_cons, List.not_mem_nil, or_false, not_or]
          exact ⟨Nat.ne_of_lt b0, by rw [sz]; exact Nat.ne_of_lt (Nat.lt_succ_of_lt b0)⟩
      · cases r₂ with
        | error e => exact hr₂
        | ok fl =>
          cases fl with
          | ret z =>
            obtain ⟨rfl, h', tk, c, rfl, q1, q2, q3⟩ := hr₂
            repeat (any_goals (first | assumption | wp_step))
            exact h h' tk c q1 q2 q3
          | _ => exact hr₂.elim
    | _ => exact hr.elim
end
section
variable {X : Cx} {cf : CF} {i : E} {e : Expr} {p1 p2 p3 p4 : Pos}
def rSetI (K : PySem.W.Frag) (w : World) : List V → Hp → VK → Prop := fun xs H Q => ∃ (l : Addr) (ns : List Int), xs = [V.ref l] ∧ SqL K H l (ns.map V.int) ∧ ns.length < 64 ∧ ∀ (a : Addr) (c : Nat), H a = none → c ≤ ns.length → Q (.ref a) (upd H a (SetO w a (fun j => decide (j ∈ ns)) c))
theorem cr_setI (hc : X.calm = true) : CallR X (.type "set") (rSetI X.K X.w) := by
  intro pins s sg H xs us Q I r h
  obtain ⟨l, ns, rfl, hq, hl, q⟩ := h
  cases r with
  | cons r rr =>
    cases rr
    cases r
    obtain ⟨its, rv, p, hz⟩ := I.list hq
    refine call_set_ints ns (I.ok.hd hc) p.isList (ints_of_vals rv) (by unfold scanBound; omega) fun h' tk c R hcn k => ?_
    exact ⟨.ref _, upd H s.heap.objs.size (SetO X.w s.heap.objs.size (fun j => decide (j ∈ ns)) c), I.laid (t' := tk) k (Nat.le_refl _) (setO_new R), rfl, q _ c (I.hok.fresh (Nat.le_refl _)) hcn⟩
theorem xe_ssort (hc : X.calm = true) (hgs : Gl X "sorted") (hms : X.mg "sorted" = none) (hgt : Gl X "set") (hmt : X.mg "set" = none) (h : XE X cf e i)
    (he0 : starEach [e] X.env = (false, eval e X.env) :: starEach [] X.env := by rfl)
    (he1 : starEach [.Call (.Name "set" p3) [e] [] p4] X.env = (false, eval (.Call (.Name "set" p3) [e] [] p4) X.env) :: starEach [] X.env := by rfl) (hpl : (backTo p2 (starEach [] X.env)).any (·.1) = false := by rfl) (hpl4 : (backTo p4 (starEach [] X.env)).any (·.1) = false := by rfl) :
    XE X cf (.Call (.Name "sorted" p1) [.Call (.Name "set" p3) [e] [] p4] [] p2) (.blt .ssort (.cons i .nil)) := by
  refine pe_imp (pe_callB (cr_sortedSet hc) hgs hms (by decide +kernel) (pa_cons (pe_callTy (cr_setI hc) hgt hmt (by decide +kernel) (pa_cons h pa_nil he0) (by decide) (by decide) he0 hpl4) pa_nil he1) (by decide) (by decide) he1 hpl) fun s H Q q => ?_
  obtain ⟨r, sg, M, z, M', hs, hh, ev, q⟩ := q
  simp only [evE] at ev
  split at ev
  · rename_i xs M1 e1
    obtain ⟨x, ys, M2, e2, e3, rfl⟩ := evEs_cons e1
    simp only [evEs] at e3
    cases e3
    cases x with
    | ref n =>
      simp only [bltP] at ev
      obtain ⟨ns, e4, e5⟩ := Option.bind_eq_some_iff.mp ev
      obtain ⟨l, e6, e7⟩ := Option.bind_eq_some_iff.mp e4
      split at e5
      · rename_i hl
        obtain ⟨rfl, rfl⟩ := Prod.mk.inj (Option.some.inj e5)
        refine ⟨r, sg, M, _, _, hs, hh, e2, fun r1 u1 H1 x1 h1 v1 => ?_⟩
        obtain ⟨a, ws, g1, g2, g3⟩ := lst_of h1 e6
        have := v1.refAt g1
        subst this
        rw [ints_ok g3 e7] at g2
        refine ⟨a, ns, rfl, .inl (.inl g2), hl, fun b c hb hcn => ⟨b, _, c, rfl, upd_same, by omega, fun ms p pw mm _ hp => ?_⟩⟩
        rw [usortI_uniq (ns := ns) (fun k => by simp) pw mm]
        have y1 := ext_new0 (r := r1) (o := SetO X.w b (fun j => decide (j ∈ ns)) c) hb
        have h2 := h1.other (SetO X.w b (fun j => decide (j ∈ ns)) c) hb
        have y2 := ext_new (r := r1) (o := .lst ((usortI ns).map V.int)) hp [p]
        exact q (r1 ++ [p]) _ _ (x1.trans (y1.trans y2)) (h2.new hp ⟨_, upd_same, ints_rv _⟩) (.ref (by rw [← h2.len]; simp))
      · cases e5
    | _ => simp [bltP] at ev
  · cases ev
end
end Mp

/-! the defs of the program, position-free (printed by gen2.py) -/
namespace Mp
open PySem L2
abbrev i_is_number : Nat := 0
abbrev i_is_count : Nat := 1
abbrev i_is_key : Nat := 2
abbrev i_is_row : Nat := 3
abbrev i_is_read : Nat := 4
abbrev i_is_view : Nat := 5
abbrev i_l_box : Nat := 6
abbrev i_l_take : Nat := 7
abbrev i_l_of : Nat := 8
abbrev i_l_same : Nat := 9
abbrev i_l_bare : Nat := 10
abbrev i_l_leave : Nat := 11
abbrev i_l_swept : Nat := 12
abbrev i_l_heard : Nat := 13
abbrev i_l_did : Nat := 14
abbrev i_l_run : Nat := 15
abbrev i_l_event : Nat := 16
abbrev i_l_moved : Nat := 17
abbrev i_l_table : Nat := 18
abbrev i_l_many : Nat := 19
abbrev i_l_tale : Nat := 20
abbrev i_l_drawn_broom : Nat := 21
abbrev i_l_view : Nat := 22
abbrev i_l_some : Nat := 23
abbrev i_l_bent_reads : Nat := 24
abbrev i_l_right : Nat := 25
abbrev i_law : Nat := 26
def ir_is_number : Df := ⟨1, 1, (.cons (.ret (.and (.isi (.var 0) [.int]) (.not (.isi (.var 0) [.bool])))) .nil)⟩
def ir_is_count : Df := ⟨1, 1, (.cons (.ret (.and (.call i_is_number (.cons (.var 0) .nil)) (.cmp .ge (.var 0) (.con (.int 0))))) .nil)⟩
def e1_is_key : E := (.cmp .isin (.var 1) (.con (.str "abcdefghijklmnopqrstuvwxyz")))
def ir_is_key : Df := ⟨1, 2, (.cons (.ret (.and (.isi (.var 0) [.str]) (.and (.chn .lt .lt (.con (.int 0)) (.blt .len (.cons (.var 0) .nil)) (.con (.int 9))) (.blt .all (.cons (.lc [1] (.name 1) (.seq (.var 0)) (.con (.bl true)) e1_is_key) .nil))))) .nil)⟩
def ir_is_row : Df := ⟨1, 1, (.cons (.iff (.or (.not (.isi (.var 0) [.tuple])) (.or (.cmp .ne (.blt .len (.cons (.var 0) .nil)) (.con (.int 3))) (.not (.call i_is_count (.cons (.idx (.var 0) (.con (.int 0))) .nil))))) (.cons (.ret (.con (.bl false))) .nil) .nil) (.cons (.ret (.and (.call i_is_key (.cons (.idx (.var 0) (.con (.int 1))) .nil)) (.or (.cmp .isN (.idx (.var 0) (.con (.int 2))) (.con .non)) (.call i_is_number (.cons (.idx (.var 0) (.con (.int 2))) .nil))))) .nil))⟩
def e1_is_read : E := (.chn .le .lt (.var 1) (.var 4) (.idx (.var 0) (.con (.int 1))))
def e2_is_read : E := (.idx (.var 3) (.con (.int 0)))
def ir_is_read : Df := ⟨2, 5, (.cons (.iff (.or (.not (.isi (.var 0) [.tuple])) (.or (.cmp .ne (.blt .len (.cons (.var 0) .nil)) (.con (.int 3))) (.or (.not (.call i_is_count (.cons (.idx (.var 0) (.con (.int 0))) .nil))) (.not (.call i_is_count (.cons (.idx (.var 0) (.con (.int 1))) .nil)))))) (.cons (.ret (.con (.bl false))) .nil) .nil) (.cons (.iff (.or (.cmp .le (.idx (.var 0) (.con (.int 1))) (.var 1)) (.or (.not (.isi (.idx (.var 0) (.con (.int 2))) [.tuple])) (.not (.blt .all (.cons (.lc [3] (.name 3) (.seq (.idx (.var 0) (.con (.int 2)))) (.con (.bl true)) (.call i_is_row (.cons (.var 3) .nil))) .nil))))) (.cons (.ret (.con (.bl false))) .nil) .nil) (.cons (.asg (.name 2) (.lc [3] (.name 3) (.seq (.idx (.var 0) (.con (.int 2)))) (.con (.bl true)) e2_is_read)) (.cons (.ret (.and (.cmp .eq (.var 2) (.blt .ssort (.cons (.var 2) .nil))) (.blt .all (.cons (.lc [4] (.name 4) (.seq (.var 2)) (.con (.bl true)) e1_is_read) .nil)))) .nil))))⟩
def b1_is_view : Ss := (.cons (.iff (.or (.not (.call i_is_read (.cons (.var 3) (.cons (.var 1) .nil)))) (.cmp .le (.idx (.var 3) (.con (.int 0))) (.var 2))) (.cons (.ret (.con (.bl false))) .nil) .nil) (.cons (.asg (.tup [2, 1]) (.slc false true (.var 3) (.con .non) (.con (.int 2)))) .nil))
def ir_is_view : Df := ⟨1, 4, (.cons (.iff (.not (.isi (.var 0) [.tuple])) (.cons (.ret (.con (.bl false))) .nil) .nil) (.cons (.asg (.tup [1, 2]) (.tup (.cons (.con (.int 0)) (.cons (.neg (.con (.int 1))) .nil)))) (.cons (.for_ (.name 3) (.seq (.var 0)) b1_is_view) (.cons (.ret (.con (.bl true))) .nil))))⟩
def ir_l_box : Df := ⟨2, 4, (.cons (.asg (.name 2) (.ite (.cmp .lt (.var 1) (.blt .len (.cons (.var 0) .nil))) (.idx (.var 0) (.var 1)) (.con (.int 0)))) (.cons (.asg (.name 3) (.bop .mod (.blt .int (.cons (.bop .mul (.bop .add (.bop .add (.bop .mod (.blt .int (.cons (.var 2) .nil)) (.con (.int 2305843009213693921))) (.bop .mul (.con (.int 43867)) (.var 1))) (.con (.int 71))) (.con (.int 40129))) .nil)) (.con (.int 2147483563)))) (.cons (.ret (.lst (.cons (.bop .mul (.blt .abs (.cons (.var 2) .nil)) (.blt .int (.cons (.cmp .ge (.blt .abs (.cons (.var 2) .nil)) (.bop .pow (.con (.int 10)) (.con (.int 18)))) .nil))) (.cons (.var 3) (.cons (.con (.int 0)) .nil))))) .nil)))⟩
def ir_l_take : Df := ⟨2, 5, (.cons (.iff (.cmp .gt (.idx (.var 0) (.con (.int 0))) (.con (.int 0))) (.cons (.asg (.name 2) (.bop .mod (.blt .int (.cons (.idx (.var 0) (.con (.int 0))) .nil)) (.var 1))) (.cons (.sto (.var 0) (.con (.int 0)) (.bop .fdiv (.idx (.var 0) (.con (.int 0))) (.var 1))) (.cons (.ret (.var 2)) .nil))) .nil) (.cons (.sto (.var 0) (.con (.int 2)) (.bop .add (.idx (.var 0) (.con (.int 2))) (.con (.int 1)))) (.cons (.asg (.name 3) (.bop .mod (.blt .int (.cons (.bop .pow (.bop .add (.idx (.var 0) (.con (.int 1))) (.bop .mul (.con (.int 54319)) (.idx (.var 0) (.con (.int 2))))) (.con (.int 3))) .nil)) (.con (.int 2147483549)))) (.cons (.asg (.name 4) (.bop .add (.bop .mod (.blt .int (.cons (.var 3) .nil)) (.con (.int 30097))) (.con (.int 17)))) (.cons (.ret (.bop .mod (.blt .int (.cons (.bop .fdiv (.bop .mod (.blt .int (.cons (.bop .add (.bop .mul (.var 3) (.var 4)) (.bop .mul (.idx (.var 0) (.con (.int 2))) (.con (.int 7573)))) .nil)) (.con (.int 2147483629))) (.con (.int 32))) .nil)) (.var 1))) .nil)))))⟩
def ir_l_of : Df := ⟨2, 2, (.cons (.ret (.idx (.var 1) (.call i_l_take (.cons (.var 0) (.cons (.blt .len (.cons (.var 1) .nil)) .nil))))) .nil)⟩
def e1_l_same : E := (.call i_l_same (.cons (.var 2) (.cons (.var 3) .nil)))
def ir_l_same : Df := ⟨2, 4, (.cons (.iff (.isi (.var 1) [.list, .tuple]) (.cons (.iff (.cmp .ne (.isi (.var 0) [.list]) (.isi (.var 1) [.list])) (.cons (.ret (.con (.bl false))) .nil) .nil) (.cons (.iff (.cmp .ne (.isi (.var 0) [.tuple]) (.isi (.var 1) [.tuple])) (.cons (.ret (.con (.bl false))) .nil) .nil) (.cons (.ret (.and (.cmp .eq (.blt .len (.cons (.var 0) .nil)) (.blt .len (.cons (.var 1) .nil))) (.blt .all (.cons (.lc [2, 3] (.tup [2, 3]) (.zip (.var 0) (.var 1)) (.con (.bl true)) e1_l_same) .nil)))) .nil))) .nil) (.cons (.iff (.or (.cmp .isN (.var 1) (.con .non)) (.isi (.var 1) [.bool, .str])) (.cons (.ret (.and (.cmp .eq (.var 0) (.var 1)) (.and (.cmp .eq (.isi (.var 0) [.bool]) (.isi (.var 1) [.bool])) (.cmp .eq (.cmp .isN (.var 0) (.con .non)) (.cmp .isN (.var 1) (.con .non)))))) .nil) .nil) (.cons (.ret (.and (.isi (.var 0) [.int]) (.and (.not (.isi (.var 0) [.bool])) (.cmp .eq (.var 0) (.var 1))))) .nil)))⟩
def ir_l_bare : Df := ⟨0, 0, (.cons (.ret (.dct [.inr "rows", .inr "gone", .inr "since", .inr "seats", .inr "tables", .inr "copies", .inr "heard"] (.cons (.lst .nil) (.cons .dnew (.cons .dnew (.cons .dnew (.cons .dnew (.cons (.lst .nil) (.cons (.lst .nil) .nil))))))))) .nil)⟩
def b1_l_leave : Ss := (.cons (.iff (.and (.cmp .isN (.var 5) (.con .non)) (.and (.cmp .isin (.var 3) (.idx (.var 0) (.con (.str "since")))) (.cmp .le (.bop .add (.idx (.idx (.var 0) (.con (.str "since"))) (.var 3)) (.var 1)) (.var 2)))) (.cons (.sto (.idx (.var 0) (.con (.str "gone"))) (.var 3) (.con (.bl true))) .nil) .nil) .nil)
def ir_l_leave : Df := ⟨3, 6, (.cons (.for_ (.nst 3 [4, 5]) (.enum (.idx (.var 0) (.con (.str "rows")))) b1_l_leave) .nil)⟩
def b1_l_swept : Ss := (.cons (.iff (.cmp .isin (.idx (.var 4) (.var 5)) (.slc true false (.var 4) (.bop .add (.var 5) (.con (.int 1))) (.con .non))) (.cons (.sto (.idx (.var 0) (.con (.str "gone"))) (.var 5) (.con (.bl true))) .nil) .nil) (.cons (.exp (.mth .setd (.idx (.var 0) (.con (.str "since"))) (.cons (.var 5) (.cons (.var 2) .nil)))) .nil))
def ir_l_swept : Df := ⟨4, 8, (.cons (.asg (.name 4) (.lc [6, 7] (.tup [6, 7]) (.seq (.slc false true (.idx (.var 0) (.con (.str "rows"))) (.con .non) (.var 3))) (.con (.bl true)) (.var 6))) (.cons (.for_ (.name 5) (.rng1 (.var 3)) b1_l_swept) (.cons (.exp (.call i_l_leave (.cons (.var 0) (.cons (.var 1) (.cons (.var 2) .nil))))) .nil)))⟩
def b1_l_heard : Ss := (.cons (.iff (.cmp .notin (.var 4) (.idx (.var 0) (.con (.str "gone")))) (.cons (.exp (.mth .append (.var 3) (.cons (.bop .add (.tup (.cons (.var 4) .nil)) (.idx (.idx (.var 0) (.con (.str "rows"))) (.var 4))) .nil))) (.cons (.exp (.mth .dpop2 (.idx (.idx (.var 0) (.con (.str "tables"))) (.var 1)) (.cons (.idx (.idx (.idx (.var 0) (.con (.str "rows"))) (.var 4)) (.con (.int 0))) (.cons (.con .non) .nil)))) (.cons (.iff (.cmp .isNN (.idx (.idx (.idx (.var 0) (.con (.str "rows"))) (.var 4)) (.con (.int 1))) (.con .non)) (.cons (.sto (.idx (.idx (.var 0) (.con (.str "tables"))) (.var 1)) (.idx (.idx (.idx (.var 0) (.con (.str "rows"))) (.var 4)) (.con (.int 0))) (.idx (.idx (.idx (.var 0) (.con (.str "rows"))) (.var 4)) (.con (.int 1)))) .nil) .nil) .nil))) .nil) .nil)
def ir_l_heard : Df := ⟨3, 5, (.cons (.asg (.name 3) (.lst .nil)) (.cons (.for_ (.name 4) (.rng2 (.idx (.idx (.var 0) (.con (.str "seats"))) (.var 1)) (.var 2)) b1_l_heard) (.cons (.sto (.idx (.var 0) (.con (.str "seats"))) (.var 1) (.var 2)) (.cons (.ret (.var 3)) .nil))))⟩
def ir_l_did : Df := ⟨2, 4, (.cons (.asg (.name 2) (.idx (.var 1) (.con (.int 0)))) (.cons (.iff (.cmp .isin (.var 2) (.tup (.cons (.con (.str "put")) (.cons (.con (.str "drop")) .nil)))) (.cons (.exp (.mth .append (.idx (.var 0) (.con (.str "rows"))) (.cons (.tup (.cons (.idx (.var 1) (.con (.int 1))) (.cons (.ite (.cmp .eq (.var 2) (.con (.str "put"))) (.idx (.var 1) (.con (.int 2))) (.con .non)) .nil))) .nil))) (.cons (.ret (.bop .sub (.blt .len (.cons (.idx (.var 0) (.con (.str "rows"))) .nil)) (.con (.int 1)))) .nil)) .nil) (.cons (.iff (.cmp .eq (.var 2) (.con (.str "read"))) (.cons (.ret (.call i_l_heard (.cons (.var 0) (.cons (.idx (.var 1) (.con (.int 1))) (.cons (.idx (.var 1) (.con (.int 2))) .nil))))) .nil) .nil) (.cons (.iff (.cmp .eq (.var 2) (.con (.str "save"))) (.cons (.exp (.mth .append (.idx (.var 0) (.con (.str "copies"))) (.cons (.tup (.cons (.idx (.idx (.var 0) (.con (.str "seats"))) (.idx (.var 1) (.con (.int 1)))) (.cons (.blt .dict (.cons (.idx (.idx (.var 0) (.con (.str "tables"))) (.idx (.var 1) (.con (.int 1)))) .nil)) .nil))) .nil))) (.cons (.ret (.bop .sub (.blt .len (.cons (.idx (.var 0) (.con (.str "copies"))) .nil)) (.con (.int 1)))) .nil)) .nil) (.cons (.iff (.cmp .isin (.var 2) (.tup (.cons (.con (.str "join")) (.cons (.con (.str "load")) .nil)))) (.cons (.asg (.name 3) (.ite (.cmp .eq (.var 2) (.con (.str "join"))) (.tup (.cons (.con (.int 0)) (.cons .dnew .nil))) (.idx (.idx (.var 0) (.con (.str "copies"))) (.idx (.var 1) (.con (.int 2)))))) (.cons (.sto2 (.idx (.var 0) (.con (.str "seats"))) (.idx (.var 1) (.con (.int 1))) (.idx (.var 0) (.con (.str "tables"))) (.idx (.var 1) (.con (.int 1))) (.tup (.cons (.idx (.var 3) (.con (.int 0))) (.cons (.blt .dict (.cons (.idx (.var 3) (.con (.int 1))) .nil)) .nil)))) .nil)) .nil) (.cons (.ret (.con .non)) .nil))))))⟩
def b1_l_run : Ss := (.cons (.iff (.cmp .eq (.var 5) (.var 4)) (.cons (.exp (.call i_l_swept (.cons (.var 3) (.cons (.var 1) (.cons (.var 4) (.cons (.var 6) .nil)))))) .nil) .nil) .nil)
def b2_l_run : Ss := (.cons (.exp (.call i_l_leave (.cons (.var 3) (.cons (.var 1) (.cons (.var 4) .nil))))) (.cons (.for_ (.tup [5, 6]) (.seq (.var 2)) b1_l_run) (.cons (.iff (.cmp .lt (.var 4) (.blt .len (.cons (.var 0) .nil))) (.cons (.exp (.mth .append (.idx (.var 3) (.con (.str "heard"))) (.cons (.call i_l_did (.cons (.var 3) (.cons (.idx (.var 0) (.var 4)) .nil))) .nil))) .nil) .nil) .nil)))
def ir_l_run : Df := ⟨3, 7, (.cons (.asg (.name 3) (.call i_l_bare .nil)) (.cons (.for_ (.name 4) (.rng1 (.bop .add (.blt .len (.cons (.var 0) .nil)) (.con (.int 1)))) b2_l_run) (.cons (.ret (.var 3)) .nil)))⟩
def ir_l_event : Df := ⟨5, 9, (.cons (.asg (.tup [5, 6, 7]) (.tup (.cons (.idx (.var 4) (.call i_l_take (.cons (.var 0) (.cons (.blt .len (.cons (.var 4) .nil)) .nil)))) (.cons (.call i_l_take (.cons (.var 0) (.cons (.var 2) .nil))) (.cons (.call i_l_of (.cons (.var 0) (.cons (.var 3) .nil))) .nil))))) (.cons (.iff (.cmp .eq (.var 5) (.con (.str "p"))) (.cons (.ret (.tup (.cons (.con (.str "put")) (.cons (.var 7) (.cons (.bop .sub (.call i_l_take (.cons (.var 0) (.cons (.con (.int 9)) .nil))) (.con (.int 4))) .nil))))) .nil) .nil) (.cons (.iff (.cmp .isin (.var 5) (.tup (.cons (.con (.str "d")) (.cons (.con (.str "w")) .nil)))) (.cons (.ret (.ite (.cmp .eq (.var 5) (.con (.str "d"))) (.tup (.cons (.con (.str "drop")) (.cons (.var 7) .nil))) (.tup (.cons (.con (.str "wait")) .nil)))) .nil) .nil) (.cons (.iff (.cmp .eq (.var 5) (.con (.str "j"))) (.cons (.ret (.tup (.cons (.con (.str "join")) (.cons (.var 6) .nil)))) .nil) .nil) (.cons (.iff (.cmp .eq (.var 5) (.con (.str "l"))) (.cons (.ret (.ite (.cmp .ne (.idx (.var 1) (.con (.str "copies"))) (.lst .nil)) (.tup (.cons (.con (.str "load")) (.cons (.var 6) (.cons (.call i_l_take (.cons (.var 0) (.cons (.blt .len (.cons (.idx (.var 1) (.con (.str "copies"))) .nil)) .nil))) .nil)))) (.con .non))) .nil) .nil) (.cons (.iff (.cmp .notin (.var 6) (.idx (.var 1) (.con (.str "seats")))) (.cons (.ret (.tup (.cons (.con (.str "join")) (.cons (.var 6) .nil)))) .nil) .nil) (.cons (.iff (.cmp .eq (.var 5) (.con (.str "s"))) (.cons (.ret (.tup (.cons (.con (.str "save")) (.cons (.var 6) .nil)))) .nil) .nil) (.cons (.asg (.name 8) (.bop .sub (.idx (.var 1) (.con (.str "many"))) (.idx (.idx (.var 1) (.con (.str "seats"))) (.var 6)))) (.cons (.ret (.ite (.cmp .gt (.var 8) (.con (.int 0))) (.tup (.cons (.con (.str "read")) (.cons (.var 6) (.cons (.bop .add (.bop .add (.idx (.idx (.var 1) (.con (.str "seats"))) (.var 6)) (.con (.int 1))) (.call i_l_take (.cons (.var 0) (.cons (.var 8) .nil)))) .nil)))) (.con .non))) .nil)))))))))⟩
def ir_l_moved : Df := ⟨2, 3, (.cons (.asg (.name 2) (.idx (.var 1) (.con (.int 0)))) (.cons (.iff (.cmp .isin (.var 2) (.tup (.cons (.con (.str "put")) (.cons (.con (.str "drop")) .nil)))) (.cons (.sto (.var 0) (.con (.str "many")) (.bop .add (.idx (.var 0) (.con (.str "many"))) (.con (.int 1)))) .nil) (.cons (.iff (.cmp .eq (.var 2) (.con (.str "join"))) (.cons (.sto (.idx (.var 0) (.con (.str "seats"))) (.idx (.var 1) (.con (.int 1))) (.con (.int 0))) .nil) (.cons (.iff (.cmp .eq (.var 2) (.con (.str "read"))) (.cons (.sto (.idx (.var 0) (.con (.str "seats"))) (.idx (.var 1) (.con (.int 1))) (.idx (.var 1) (.con (.int 2)))) .nil) (.cons (.iff (.cmp .eq (.var 2) (.con (.str "save"))) (.cons (.exp (.mth .append (.idx (.var 0) (.con (.str "copies"))) (.cons (.idx (.idx (.var 0) (.con (.str "seats"))) (.idx (.var 1) (.con (.int 1)))) .nil))) .nil) (.cons (.iff (.cmp .eq (.var 2) (.con (.str "load"))) (.cons (.sto (.idx (.var 0) (.con (.str "seats"))) (.idx (.var 1) (.con (.int 1))) (.idx (.idx (.var 0) (.con (.str "copies"))) (.idx (.var 1) (.con (.int 2))))) .nil) .nil) .nil)) .nil)) .nil)) .nil)) .nil))⟩
def b1_l_table : Ss := (.cons (.asg (.name 9) (.call i_l_event (.cons (.var 0) (.cons (.var 7) (.cons (.var 3) (.cons (.var 4) (.cons (.var 5) .nil))))))) (.cons (.asg (.name 10) (.and (.cmp .isNN (.var 9) (.con .non)) (.and (.cmp .isin (.idx (.var 9) (.con (.int 0))) (.tup (.cons (.con (.str "put")) (.cons (.con (.str "drop")) .nil)))) (.cmp .ge (.idx (.var 7) (.con (.str "many"))) (.var 2))))) (.cons (.iff (.and (.cmp .isNN (.var 9) (.con .non)) (.and (.not (.var 10)) (.or (.cmp .ne (.idx (.var 9) (.con (.int 0))) (.con (.str "save"))) (.cmp .lt (.blt .len (.cons (.idx (.var 7) (.con (.str "copies"))) .nil)) (.con (.int 3)))))) (.cons (.exp (.call i_l_moved (.cons (.var 7) (.cons (.var 9) .nil)))) (.cons (.exp (.mth .append (.var 6) (.cons (.var 9) .nil))) .nil)) .nil) .nil)))
def ir_l_table : Df := ⟨6, 11, (.cons (.asg (.tup [6, 7]) (.tup (.cons (.lst .nil) (.cons (.dct [.inr "seats", .inr "copies", .inr "many"] (.cons .dnew (.cons (.lst .nil) (.cons (.con (.int 0)) .nil)))) .nil)))) (.cons (.for_ (.name 8) (.rng1 (.var 1)) b1_l_table) (.cons (.ret (.blt .tuple (.cons (.var 6) .nil))) .nil)))⟩
def c1_l_many : E := (.cmp .isin (.idx (.var 2) (.con (.int 0))) (.tup (.cons (.con (.str "put")) (.cons (.con (.str "drop")) .nil))))
def ir_l_many : Df := ⟨2, 3, (.cons (.ret (.blt .len (.cons (.lc [2] (.name 2) (.seq (.slc false true (.var 0) (.con .non) (.var 1))) c1_l_many (.var 2)) .nil))) .nil)⟩
def ir_l_tale : Df := ⟨4, 4, (.cons (.ret (.call i_l_table (.cons (.var 0) (.cons (.var 1) (.cons (.var 2) (.cons (.var 3) (.cons (.lst (.cons (.con (.str "a")) (.cons (.con (.str "b")) (.cons (.con (.str "c")) .nil)))) (.cons (.con (.str "pppddrrrjwsl")) .nil)))))))) .nil)⟩
def b1_l_drawn_broom : Ss := (.cons (.asg (.name 5) (.call i_l_many (.cons (.var 1) (.cons (.var 4) .nil)))) (.cons (.iff (.and (.cmp .gt (.var 5) (.var 3)) (.cmp .eq (.call i_l_take (.cons (.var 0) (.cons (.con (.int 2)) .nil))) (.con (.int 0)))) (.cons (.asg (.name 3) (.bop .add (.bop .add (.var 3) (.con (.int 1))) (.call i_l_take (.cons (.var 0) (.cons (.bop .sub (.var 5) (.var 3)) .nil))))) .nil) .nil) (.cons (.asg (.name 2) (.bop .add (.var 2) (.bop .mul (.lst (.cons (.tup (.cons (.var 4) (.cons (.var 3) .nil))) .nil)) (.blt .int (.cons (.cmp .gt (.call i_l_take (.cons (.var 0) (.cons (.con (.int 3)) .nil))) (.con (.int 0))) .nil))))) .nil)))
def ir_l_drawn_broom : Df := ⟨2, 6, (.cons (.asg (.tup [2, 3]) (.tup (.cons (.lst .nil) (.cons (.con (.int 0)) .nil)))) (.cons (.for_ (.name 4) (.rng1 (.bop .add (.blt .len (.cons (.var 1) .nil)) (.con (.int 1)))) b1_l_drawn_broom) (.cons (.ret (.blt .tuple (.cons (.var 2) .nil))) .nil)))⟩
def b1_l_view : Ss := (.cons (.asg (.name 9) (.idx (.var 8) (.con (.int 0)))) (.cons (.iff (.cmp .eq (.var 9) (.con (.str "join"))) (.cons (.sto (.var 5) (.idx (.var 8) (.con (.int 1))) (.tup .nil)) .nil) (.cons (.iff (.cmp .eq (.var 9) (.con (.str "read"))) (.cons (.sto (.var 5) (.idx (.var 8) (.con (.int 1))) (.bop .add (.idx (.var 5) (.idx (.var 8) (.con (.int 1)))) (.tup (.cons (.tup (.cons (.var 7) (.cons (.idx (.var 8) (.con (.int 2))) (.cons (.blt .tuple (.cons (.idx (.var 4) (.var 7)) .nil)) .nil)))) .nil)))) .nil) (.cons (.iff (.cmp .eq (.var 9) (.con (.str "save"))) (.cons (.exp (.mth .append (.var 6) (.cons (.idx (.var 5) (.idx (.var 8) (.con (.int 1)))) .nil))) .nil) (.cons (.iff (.cmp .eq (.var 9) (.con (.str "load"))) (.cons (.sto (.var 5) (.idx (.var 8) (.con (.int 1))) (.idx (.var 6) (.idx (.var 8) (.con (.int 2))))) .nil) .nil) .nil)) .nil)) .nil)) .nil))
def ir_l_view : Df := ⟨4, 10, (.cons (.asg (.tup [4, 5, 6]) (.tup (.cons (.idx (.call i_l_run (.cons (.var 0) (.cons (.var 1) (.cons (.var 2) .nil)))) (.con (.str "heard"))) (.cons .dnew (.cons (.lst .nil) .nil))))) (.cons (.for_ (.tup [7, 8]) (.enum (.var 0)) b1_l_view) (.cons (.ret (.mth .get1 (.var 5) (.cons (.var 3) .nil))) .nil)))⟩
def c1_l_some : E := (.cmp .isin (.idx (.var 7) (.con (.int 0))) (.tup (.cons (.con (.str "join")) (.cons (.con (.str "load")) .nil))))
def e2_l_some : E := (.idx (.var 7) (.con (.int 1)))
def ir_l_some : Df := ⟨2, 8, (.cons (.asg (.name 2) (.call i_l_tale (.cons (.var 0) (.cons (.bop .add (.con (.int 8)) (.call i_l_take (.cons (.var 0) (.cons (.con (.int 7)) .nil)))) (.cons (.con (.int 6)) (.cons (.var 1) .nil)))))) (.cons (.asg (.tup [3, 4]) (.tup (.cons (.call i_l_drawn_broom (.cons (.var 0) (.cons (.var 2) .nil))) (.cons (.call i_l_of (.cons (.var 0) (.cons (.lst (.cons (.con (.int 0)) (.cons (.con (.int 0)) (.cons (.con (.int 1)) (.cons (.con (.int 1)) (.cons (.con (.int 2)) (.cons (.con (.int 3)) .nil))))))) .nil))) .nil)))) (.cons (.asg (.name 5) (.blt .ssort (.cons (.lc [7] (.name 7) (.seq (.var 2)) c1_l_some e2_l_some) .nil))) (.cons (.asg (.name 6) (.ite (.cmp .ne (.var 5) (.lst .nil)) (.call i_l_of (.cons (.var 0) (.cons (.var 5) .nil))) (.con .non))) (.cons (.ret (.tup (.cons (.var 2) (.cons (.var 3) (.cons (.var 4) (.cons (.var 6) (.cons (.ite (.cmp .isNN (.var 6) (.con .non)) (.call i_l_view (.cons (.var 2) (.cons (.var 4) (.cons (.var 3) (.cons (.var 6) .nil))))) (.tup .nil)) .nil))))))) .nil)))))⟩
def e1_l_bent_reads : E := (.tup (.cons (.var 0) (.cons (.var 1) (.cons (.var 5) .nil))))
def ir_l_bent_reads : Df := ⟨3, 6, (.cons (.asg (.name 3) (.lst (.cons (.tup (.cons (.var 0) (.cons (.con (.int 0)) (.cons (.var 2) .nil)))) (.cons (.tup (.cons (.neg (.con (.int 1))) (.cons (.var 1) (.cons (.var 2) .nil)))) (.cons (.tup (.cons (.con (.bl true)) (.cons (.var 1) (.cons (.var 2) .nil)))) (.cons (.tup (.cons (.var 0) (.cons (.var 1) .nil))) (.cons (.tup (.cons (.var 0) (.cons (.var 1) (.cons (.var 2) (.cons (.con (.int 0)) .nil))))) (.cons (.lst (.cons (.var 0) (.cons (.var 1) (.cons (.var 2) .nil)))) .nil)))))))) (.cons (.asg (.name 4) (.lst (.cons (.blt .list (.cons (.var 2) .nil)) (.cons (.bop .add (.var 2) (.tup (.cons (.tup (.cons (.var 1) (.cons (.con (.str "a")) (.cons (.con (.int 1)) .nil)))) .nil))) (.cons (.bop .add (.tup (.cons (.tup (.cons (.neg (.con (.int 1))) (.cons (.con (.str "a")) (.cons (.con (.int 1)) .nil)))) .nil)) (.var 2)) (.cons (.tup (.cons (.tup (.cons (.con (.int 0)) (.cons (.con (.str "A")) (.cons (.con (.int 1)) .nil)))) .nil)) (.cons (.tup (.cons (.tup (.cons (.con (.int 0)) (.cons (.con (.str "")) (.cons (.con (.int 1)) .nil)))) .nil)) (.cons (.con .non) (.cons (.tup (.cons (.con .non) .nil)) .nil))))))))) (.cons (.asg (.name 4) (.bop .add (.var 4) (.lst (.cons (.tup (.cons (.tup (.cons (.con (.int 0)) (.cons (.con (.str "abcdefghi")) (.cons (.con .non) .nil)))) .nil)) (.cons (.tup (.cons (.tup (.cons (.con (.int 0)) (.cons (.con (.str "a")) (.cons (.con (.bl true)) .nil)))) .nil)) (.cons (.tup (.cons (.tup (.cons (.con (.int 0)) (.cons (.con (.str "a")) .nil))) .nil)) (.cons (.tup (.cons (.tup (.cons (.con (.int 0)) (.cons (.con (.int 1)) (.cons (.con (.int 1)) .nil)))) .nil)) (.cons (.tup (.cons (.tup (.cons (.con (.bl true)) (.cons (.con (.str "a")) (.cons (.con (.int 1)) .nil)))) .nil)) .nil)))))))) (.cons (.asg (.name 4) (.bop .add (.var 4) (.lst (.cons (.tup (.cons (.tup (.cons (.con (.int 0)) (.cons (.con (.str "a")) (.cons (.con (.int 1)) .nil)))) (.cons (.tup (.cons (.con (.int 0)) (.cons (.con (.str "b")) (.cons (.con (.int 1)) .nil)))) .nil))) (.cons (.tup (.cons (.tup (.cons (.con (.int 0)) (.cons (.con (.str "a1")) (.cons (.con (.int 1)) .nil)))) .nil)) (.cons (.tup (.cons (.tup (.cons (.con (.int 0)) (.cons (.con (.str "a b")) (.cons (.con .non) .nil)))) .nil)) .nil)))))) (.cons (.asg (.name 4) (.bop .add (.var 4) (.lst (.cons (.tup (.cons (.tup (.cons (.con (.int 0)) (.cons (.con (.str "a")) (.cons (.con (.str "x")) .nil)))) .nil)) (.cons (.tup (.cons (.tup (.cons (.con (.int 0)) (.cons (.con (.str "a")) (.cons (.tup (.cons (.con (.int 1)) .nil)) .nil)))) .nil)) (.cons (.tup (.cons (.tup (.cons (.con .non) (.cons (.con (.str "a")) (.cons (.con (.int 1)) .nil)))) .nil)) (.cons (.tup (.cons (.tup (.cons (.con (.str "0")) (.cons (.con (.str "a")) (.cons (.con (.int 1)) .nil)))) .nil)) (.cons (.tup (.cons (.tup (.cons (.con (.int 0)) (.cons (.con .non) (.cons (.con (.int 1)) .nil)))) .nil)) .nil)))))))) (.cons (.asg (.name 4) (.bop .add (.var 4) (.lst (.cons (.tup (.cons (.tup (.cons (.con (.int 0)) (.cons (.lst (.cons (.con (.str "a")) .nil)) (.cons (.con (.int 1)) .nil)))) .nil)) (.cons (.tup (.cons (.tup (.cons (.lst (.cons (.con (.int 0)) .nil)) (.cons (.con (.str "a")) (.cons (.con (.int 1)) .nil)))) .nil)) (.cons (.tup (.cons (.tup (.cons (.con (.int 0)) (.cons (.con (.str "a")) (.cons (.lst (.cons (.con (.int 1)) .nil)) .nil)))) .nil)) (.cons (.tup (.cons (.tup (.cons (.tup (.cons (.con (.int 0)) .nil)) (.cons (.con (.str "a")) (.cons (.con (.int 1)) .nil)))) .nil)) .nil))))))) (.cons (.asg (.name 3) (.bop .add (.var 3) (.lc [5] (.name 5) (.seq (.var 4)) (.con (.bl true)) e1_l_bent_reads))) (.cons (.ret (.bop .add (.var 3) (.lst (.cons (.tup (.cons (.blt .str (.cons (.var 0) .nil)) (.cons (.var 1) (.cons (.var 2) .nil)))) (.cons (.tup (.cons (.var 0) (.cons (.con .non) (.cons (.var 2) .nil)))) (.cons (.con .non) (.cons (.tup .nil) (.cons (.con (.int 7)) .nil)))))))) .nil))))))))⟩
def e1_l_right : E := (.call i_l_same (.cons (.call i_is_view (.cons (.var 11) .nil)) (.cons (.con (.bl true)) .nil)))
def e2_l_right : E := (.call i_l_same (.cons (.call i_is_view (.cons (.var 11) .nil)) (.cons (.con (.bl false)) .nil)))
def e3_l_right : E := (.bop .add (.tup (.cons (.var 10) .nil)) (.slc true false (.var 5) (.con (.int 1)) (.con .non)))
def ir_l_right : Df := ⟨1, 12, (.cons (.asg (.tup [1, 2, 3, 4, 5]) (.call i_l_some (.cons (.var 0) (.cons (.con (.int 2)) .nil)))) (.cons (.iff (.or (.not (.call i_l_same (.cons (.call i_is_view (.cons (.var 5) .nil)) (.cons (.con (.bl true)) .nil)))) (.not (.call i_l_same (.cons (.call i_is_view (.cons (.var 5) .nil)) (.cons (.con (.bl true)) .nil))))) (.cons (.ret (.con (.bl false))) .nil) .nil) (.cons (.asg (.name 6) (.lst (.cons (.blt .list (.cons (.var 5) .nil)) (.cons (.con .non) (.cons (.con (.bl true)) (.cons (.con (.int 0)) (.cons (.con (.str "")) (.cons (.con (.str "ab")) (.cons (.tup (.cons (.con .non) .nil)) (.cons (.tup (.cons (.tup .nil) .nil)) (.cons (.tup (.cons (.lst .nil) .nil)) (.cons (.tup (.cons (.con (.int 0)) .nil)) (.cons (.bop .add (.var 5) (.tup (.cons (.var 5) .nil))) (.cons (.tup (.cons (.tup (.cons (.con (.int 0)) (.cons (.con (.int 1)) (.cons (.tup .nil) .nil)))) (.cons (.con (.int 5)) .nil))) .nil)))))))))))))) (.cons (.iff (.cmp .ne (.var 5) (.tup .nil)) (.cons (.asg (.tup [7, 8]) (.tup (.cons (.idx (.var 5) (.con (.int 0))) (.cons (.idx (.var 5) (.neg (.con (.int 1)))) .nil)))) (.cons (.asg (.name 6) (.bop .add (.var 6) (.lst (.cons (.bop .add (.var 5) (.tup (.cons (.var 8) .nil))) (.cons (.bop .add (.tup (.cons (.var 7) .nil)) (.var 5)) (.cons (.bop .add (.var 5) (.tup (.cons (.tup (.cons (.idx (.var 8) (.con (.int 0))) (.cons (.bop .add (.idx (.var 8) (.con (.int 1))) (.con (.int 1))) (.cons (.tup .nil) .nil)))) .nil))) .nil)))))) (.cons (.exp (.mth .append (.var 6) (.cons (.bop .add (.var 5) (.tup (.cons (.tup (.cons (.bop .add (.idx (.var 8) (.con (.int 0))) (.con (.int 1))) (.cons (.idx (.var 8) (.con (.int 1))) (.cons (.tup .nil) .nil)))) .nil))) .nil))) (.cons (.asg (.name 6) (.bop .add (.var 6) (.lc [10] (.name 10) (.seq (.call i_l_bent_reads (.cons (.idx (.var 7) (.con (.int 0))) (.cons (.idx (.var 7) (.con (.int 1))) (.cons (.idx (.var 7) (.con (.int 2))) .nil))))) (.con (.bl true)) e3_l_right))) (.cons (.exp (.mth .append (.var 6) (.cons (.bop .add (.tup (.cons (.tup (.cons (.bop .add (.idx (.var 8) (.con (.int 0))) (.con (.int 1))) (.cons (.bop .add (.idx (.var 8) (.con (.int 1))) (.con (.int 1))) (.cons (.tup .nil) .nil)))) .nil)) (.var 5)) .nil))) .nil))))) .nil) (.cons (.asg (.name 6) (.bop .add (.var 6) (.lst (.cons (.tup (.cons (.tup (.cons (.con (.int 0)) (.cons (.con (.int 2)) (.cons (.tup .nil) .nil)))) (.cons (.tup (.cons (.con (.int 1)) (.cons (.con (.int 3)) (.cons (.tup (.cons (.tup (.cons (.con (.int 1)) (.cons (.con (.str "a")) (.cons (.con (.int 1)) .nil)))) .nil)) .nil)))) .nil))) (.cons (.tup (.cons (.tup (.cons (.con (.int 0)) (.cons (.con (.int 2)) (.cons (.tup (.cons (.tup (.cons (.con (.int 1)) (.cons (.con (.str "b")) (.cons (.con (.int 1)) .nil)))) (.cons (.tup (.cons (.con (.int 0)) (.cons (.con (.str "a")) (.cons (.con (.int 1)) .nil)))) .nil))) .nil)))) .nil)) .nil))))) (.cons (.exp (.mth .append (.var 6) (.cons (.tup (.cons (.tup (.cons (.con (.int 0)) (.cons (.con (.int 3)) (.cons (.tup (.cons (.tup (.cons (.con (.int 0)) (.cons (.con (.str "a")) (.cons (.con (.int 1)) .nil)))) (.cons (.tup (.cons (.con (.int 2)) (.cons (.con (.str "a")) (.cons (.con (.int 1)) .nil)))) (.cons (.tup (.cons (.con (.int 1)) (.cons (.con (.str "b")) (.cons (.con .non) .nil)))) .nil)))) .nil)))) .nil)) .nil))) (.cons (.iff (.not (.blt .all (.cons (.lc [11] (.name 11) (.seq (.var 6)) (.con (.bl true)) e2_l_right) .nil))) (.cons (.ret (.con (.bl false))) .nil) .nil) (.cons (.asg (.name 9) (.lst (.cons (.tup (.cons (.tup (.cons (.con (.int 0)) (.cons (.con (.int 2)) (.cons (.tup .nil) .nil)))) (.cons (.tup (.cons (.con (.int 1)) (.cons (.con (.int 3)) (.cons (.tup (.cons (.tup (.cons (.con (.int 2)) (.cons (.con (.str "a")) (.cons (.con (.int 1)) .nil)))) .nil)) .nil)))) .nil))) .nil))) (.cons (.asg (.name 9) (.bop .add (.var 9) (.lst (.cons (.tup (.cons (.tup (.cons (.con (.int 0)) (.cons (.con (.int 1)) (.cons (.tup (.cons (.tup (.cons (.con (.int 0)) (.cons (.con (.str "a")) (.cons (.con .non) .nil)))) .nil)) .nil)))) (.cons (.tup (.cons (.con (.int 5)) (.cons (.con (.int 9)) (.cons (.tup .nil) .nil)))) .nil))) (.cons (.tup (.cons (.tup (.cons (.con (.int 3)) (.cons (.con (.int 2)) (.cons (.tup (.cons (.tup (.cons (.con (.int 0)) (.cons (.con (.str "zz")) (.cons (.neg (.con (.int 4))) .nil)))) (.cons (.tup (.cons (.con (.int 1)) (.cons (.con (.str "zz")) (.cons (.con .non) .nil)))) .nil))) .nil)))) .nil)) (.cons (.tup .nil) .nil)))))) (.cons (.ret (.blt .all (.cons (.lc [11] (.name 11) (.seq (.var 9)) (.con (.bl true)) e1_l_right) .nil))) .nil))))))))))⟩
def b1_law : Ss := (.cons (.asg (.name 2) (.call i_l_box (.cons (.var 0) (.cons (.var 1) .nil)))) (.cons (.iff (.not (.blt .all (.cons (.lc [3] (.name 3) (.rng1 (.con (.int 6))) (.con (.bl true)) (.call i_l_right (.cons (.var 2) .nil))) .nil))) (.cons (.ret (.con (.bl false))) .nil) .nil) .nil))
def ir_law : Df := ⟨1, 4, (.cons (.for_ (.name 1) (.rng1 (.bop .add (.con (.int 1)) (.blt .min2 (.cons (.con (.int 1)) (.cons (.blt .len (.cons (.var 0) .nil)) .nil))))) b1_law) (.cons (.ret (.con (.bl true))) .nil))⟩
def tab : Nat → Option Dx
  | 0 => some (.fn ir_is_number)
  | 1 => some (.fn ir_is_count)
  | 2 => some (.fn ir_is_key)
  | 3 => some (.fn ir_is_row)
  | 4 => some (.fn ir_is_read)
  | 5 => some (.fn ir_is_view)
  | 6 => some (.fn ir_l_box)
  | 7 => some (.fn ir_l_take)
  | 8 => some (.fn ir_l_of)
  | 9 => some (.fn ir_l_same)
  | 10 => some (.fn ir_l_bare)
  | 11 => some (.fn ir_l_leave)
  | 12 => some (.fn ir_l_swept)
  | 13 => some (.fn ir_l_heard)
  | 14 => some (.fn ir_l_did)
  | 15 => some (.fn ir_l_run)
  | 16 => some (.fn ir_l_event)
  | 17 => some (.fn ir_l_moved)
  | 18 => some (.fn ir_l_table)
  | 19 => some (.fn ir_l_many)
  | 20 => some (.fn ir_l_tale)
  | 21 => some (.fn ir_l_drawn_broom)
  | 22 => some (.fn ir_l_view)
  | 23 => some (.fn ir_l_some)
  | 24 => some (.fn ir_l_bent_reads)
  | 25 => some (.fn ir_l_right)
  | 26 => some (.fn ir_law)
  | _ => none
end Mp
/-! Mr: the evaluator, rule by rule. -/
namespace Mp
open PySem L2
section
variable {cf : CF} {sg sg1 sg2 : Sg} {M M1 M2 M3 : Mm} {e a b c : E} {es : Es} {x y z v : PV} {xs ys : List PV} {s : S} {ss ss2 : Ss} {i f : Nat} {w : Option (Fl × Mm)} {q : R}
theorem es_nil : evEs cf .nil sg M = some ([], M) := by rw [evEs]
theorem es_cons (h : evE cf e sg M = some (x, M1)) (h2 : evEs cf es sg M1 = some (xs, M2)) : evEs cf (.cons e es) sg M = some (x :: xs, M2) := by rw [evEs, h]; simp only [h2]
theorem es_one (h : evE cf e sg M = some (x, M1)) : evEs cf (.cons e .nil) sg M = some ([x], M1) := es_cons h es_nil
theorem e_var (h : sg[i]? = some (some v)) : evE cf (.var i) sg M = some (v, M) := by rw [evE, h]
theorem e_con : evE cf (.con v) sg M = some (v, M) := by rw [evE]
theorem e_call (h : evEs cf es sg M = some (xs, M1)) (h2 : cf f xs M1 = q) : evE cf (.call f es) sg M = q := by rw [evE, h]; exact h2
theorem e_blt {b : B} (h : evEs cf es sg M = some (xs, M1)) (h2 : bltP M1 b xs = q) : evE cf (.blt b es) sg M = q := by rw [evE, h]; exact h2
theorem e_lst (h : evEs cf es sg M = some (xs, M1)) (hl : xs.length ≤ 10000) : evE cf (.lst es) sg M = some (.ref M1.length, M1 ++ [Ob.lst xs]) := by
  rw [evE, h]; simp only []; rw [if_pos (by have : sizeLine = 16777216 := rfl; omega)]
theorem e_tup (h : evEs cf es sg M = some (xs, M1)) (hl : xs.length ≤ 10000) : evE cf (.tup es) sg M = some (.tup xs, M1) := by
  rw [evE, h]; simp only []; rw [if_pos (by have : sizeLine = 16777216 := rfl; omega)]
theorem e_bop {o : Bo} (h : evE cf a sg M = some (x, M1)) (h2 : evE cf b sg M1 = some (y, M2)) (h3 : bopP M2 o x y = q) : evE cf (.bop o a b) sg M = q := by rw [evE, h]; simp only [h2]; exact h3
theorem e_cmp {o : Co} {k : Bool} (h : evE cf a sg M = some (x, M1)) (h2 : evE cf b sg M1 = some (y, M2)) (h3 : cmpP M2 o x y = some k) : evE cf (.cmp o a b) sg M = some (.bl k, M2) := by rw [evE, h]; simp only [h2, h3]; rfl
theorem e_idx (h : evE cf a sg M = some (x, M1)) (h2 : evE cf b sg M1 = some (y, M2)) (h3 : idxP M2 x y = some z) : evE cf (.idx a b) sg M = some (z, M2) := by rw [evE, h]; simp only [h2, h3]; rfl
theorem e_not {k : Bool} (h : evE cf a sg M = some (.bl k, M1)) : evE cf (.not a) sg M = some (.bl (!k), M1) := by rw [evE, h]
theorem e_andT (h : evE cf a sg M = some (.bl true, M1)) (h2 : evE cf b sg M1 = q) : evE cf (.and a b) sg M = q := by rw [evE, h]; exact h2
theorem e_andF (h : evE cf a sg M = some (.bl false, M1)) : evE cf (.and a b) sg M = some (.bl false, M1) := by rw [evE, h]
theorem e_orF (h : evE cf a sg M = some (.bl false, M1)) (h2 : evE cf b sg M1 = q) : evE cf (.or a b) sg M = q := by rw [evE, h]; exact h2
theorem e_orT (h : evE cf a sg M = some (.bl true, M1)) : evE cf (.or a b) sg M = some (.bl true, M1) := by rw [evE, h]
theorem e_iteT (h : evE cf c sg M = some (.bl true, M1)) (h2 : evE cf a sg M1 = q) : evE cf (.ite c a b) sg M = q := by rw [evE, h]; exact h2
theorem e_iteF (h : evE cf c sg M = some (.bl false, M1)) (h2 : evE cf b sg M1 = q) : evE cf (.ite c a b) sg M = q := by rw [evE, h]; exact h2
theorem e_isi {ts : List Ty} {k : Bool} (h : evE cf a sg M = some (x, M1)) (h2 : ts.any (isTy M1 x) = k) (h3 : insP M1 x = false) : evE cf (.isi a ts) sg M = some (.bl k, M1) := by rw [evE, h]; simp only [h2, h3]; rfl
theorem e_fld {c f : Str} {n : Nat} {fs : List (Str × PV)} (h : evE cf a sg M = some (.ref n, M1)) (h2 : insAt M1 c n = some fs) (h3 : fs.lookup f = some v) : evE cf (.fld c f a) sg M = some (v, M1) := by rw [evE, h]; simp only [h2, h3, Option.bind_some, Option.map_some]
theorem e_mc {c m : Str} {n : Nat} {fs : List (Str × PV)} (h : evE cf a sg M = some (.ref n, M1)) (h2 : insAt M1 c n = some fs) (h3 : fs.lookup m = none) (h4 : evEs cf es sg M1 = some (xs, M2)) (h5 : cf f (.ref n :: xs) M2 = q) : evE cf (.mc c m f a es) sg M = q := by rw [evE, h]; simp only [h2, h3, h4]; exact h5
theorem s_fset {c f : Str} {n : Nat} {fs : List (Str × PV)} (h : evE cf b sg M = some (x, M1)) (h2 : evE cf a sg M1 = some (.ref n, M2)) (h3 : insAt M2 c n = some fs) (h4 : fs.length < 1000) : evS cf (.fset c f a b) sg M = some (.nx sg, M2.set n (.ins c (putA f x fs))) := by rw [evS, h]; simp only [h2, h3]; rw [if_pos h4]
theorem s_sto (h : evE cf c sg M = some (x, M1)) (h2 : evE cf a sg M1 = some (y, M2)) (h3 : evE cf b sg M2 = some (z, M3)) {M4 : Mm} (h4 : stoP M3 y z x = some M4) : evS cf (.sto a b c) sg M = some (.nx sg, M4) := by rw [evS, h]; simp only [h2, h3, h4]; rfl
theorem s_asg {t : Tg} (h : evE cf e sg M = some (x, M1)) (h2 : tgP t x sg = some sg1) : evS cf (.asg t e) sg M = some (.nx sg1, M1) := by rw [evS, h]; simp only [h2]; rfl
theorem s_exp (h : evE cf e sg M = some (x, M1)) : evS cf (.exp e) sg M = some (.nx sg, M1) := by rw [evS, h]
theorem s_ret (h : evE cf e sg M = some (x, M1)) : evS cf (.ret e) sg M = some (.ret x, M1) := by rw [evS, h]
theorem s_ifT (h : evE cf c sg M = some (.bl true, M1)) (h2 : evSs cf ss sg M1 = w) : evS cf (.iff c ss ss2) sg M = w := by rw [evS, h]; exact h2
theorem s_ifF (h : evE cf c sg M = some (.bl false, M1)) (h2 : evSs cf ss2 sg M1 = w) : evS cf (.iff c ss ss2) sg M = w := by rw [evS, h]; exact h2
theorem ss_nil : evSs cf .nil sg M = some (.nx sg, M) := by rw [evSs]
theorem ss_cons (h : evS cf s sg M = some (.nx sg1, M1)) (h2 : evSs cf ss sg1 M1 = w) : evSs cf (.cons s ss) sg M = w := by rw [evSs, h]; exact h2
theorem ss_ret (h : evE cf e sg M = some (x, M1)) : evSs cf (.cons (.ret e) ss) sg M = some (.ret x, M1) := by rw [evSs, s_ret h]
theorem ss_if (h : evS cf (.iff c ss ss2) sg M = some (.ret x, M1)) {r : Ss} : evSs cf (.cons (.iff c ss ss2) r) sg M = some (.ret x, M1) := by rw [evSs, h]
theorem run_ret {d : Df} (hl : xs.length = d.np) (h : evSs cf d.body (xs.map some ++ List.replicate (d.ns - d.np) none) M = some (.ret v, M1)) : runD cf d xs M = some (v, M1) := by
  rw [runD, if_pos hl, h]
theorem run_nx {d : Df} (hl : xs.length = d.np) (h : evSs cf d.body (xs.map some ++ List.replicate (d.ns - d.np) none) M = some (.nx sg1, M1)) : runD cf d xs M = some (.non, M1) := by
  rw [runD, if_pos hl, h]
end
end Mp

/-! Ml1: laws of the evaluator over the drawing defs. -/
namespace Mp
open PySem L2

theorem str_inj {a b : String} : (Str.ofString a = Str.ofString b) ↔ a = b := by
  rw [Str.ofString_eq_toList, Str.ofString_eq_toList]
  constructor
  · intro h
    have h1 : (a.toList.map Char.toNat) = (b.toList.map Char.toNat) := by
      have := congrArg (fun s : Str => s.cps.toList) h
      simpa using this
    have h2 : a.toList = b.toList := by
      have inj : ∀ {x y : List Char}, x.map Char.toNat = y.map Char.toNat → x = y := by
        intro x
        induction x with
        | nil => intro y h; cases y with | nil => rfl | cons _ _ => simp at h
        | cons c cs ih =>
          intro y h
          cases y with
          | nil => simp at h
          | cons d ds =>
            simp only [List.map_cons, List.cons.injEq] at h
            rw [ih h.2, Char.toNat_inj.mp h.1]
      exact inj h1
    exact String.toList_inj.mp h2
  · intro h; rw [h]

@[simp] theorem str_eq {a b : String} : (Str.ofString a = Str.ofString b) = (a = b) := propext str_inj
@[simp] theorem str_beq {a b : String} : (Str.ofString a == Str.ofString b) = (a == b) := by
  by_cases h : a = b
  · subst h; rw [beq_self_eq_true, beq_self_eq_true]
  · have : ¬ Str.ofString a = Str.ofString b := fun e => h (str_inj.mp e)
    rw [beq_eq_false_iff_ne.mpr this, beq_eq_false_iff_ne.mpr h]
/-- the box of draws at b: a rest of digits, a seed, how many draws (at most k) -/
def Bx (M : Mm) (b : Nat) (k : Int) : Prop := ∃ d s c : Int, M[b]? = some (.lst [.int d, .int s, .int c]) ∧ 0 ≤ d ∧ 0 ≤ s ∧ s < 2147483563 ∧ 0 ≤ c ∧ c ≤ k
theorem take_ok (cf : CF) {M : Mm} {b : Nat} {k n : Int} (h : Bx M b k) (hk : k < 1000000000000) (hn : 0 < n) (hn2 : n < 1000000000) :
    ∃ (r : Int) (l : List PV), 0 ≤ r ∧ r < n ∧ runD cf ir_l_take [.ref b, .int n] M = some (.int r, M.set b (.lst l)) ∧ Bx (M.set b (.lst l)) b (k + 1) := by
  obtain ⟨d, s, c, hb, h1, h2, h3, h4, h5⟩ := h
  have hlt : b < M.length := (List.getElem?_eq_some_iff.mp hb).1
  have hn3 : n < 1073741824 := by omega
  by_cases hd : 0 < d
  · refine ⟨d % n, [.int (d / n), .int s, .int c], Int.emod_nonneg _ (by omega), Int.emod_lt_of_pos _ hn, ?_, d / n, s, c, by simp [hlt], Int.ediv_nonneg h1 (by omega), h2, h3, h4, by omega⟩
    simp [runD, ir_l_take, evSs, evS, evE, evEs, hb, idxP, atI, ixN, cmpP, hd, bltP, bopP, tgP, stoP, hn, hn3, lstAt]
  · have hset : ∀ x, (M.set b x)[b]? = some x := fun x => by simp [hlt]
    have hc : (s + 54319 * (c + 1)).natAbs < 2 ^ 64 := by omega
    have m1 : mulOk 54319 (c + 1) = true := by simp [mulOk]
    have m2 : ∀ x : Int, mulOk (x % 2147483549) (x % 2147483549 % 30097 + 17) = true := fun x => by
      have q1 := Int.emod_nonneg x (show (2147483549 : Int) ≠ 0 by decide)
      have q2 := Int.emod_lt_of_pos x (show (0 : Int) < 2147483549 by decide)
      simp only [mulOk, Bool.or_eq_true, Bool.and_eq_true, decide_eq_true_eq]
      omega
    have m3 : mulOk (c + 1) 7573 = true := by simp [mulOk]
    refine ⟨(((s + 54319 * (c + 1)) ^ 3 % 2147483549 * ((s + 54319 * (c + 1)) ^ 3 % 2147483549 % 30097 + 17) + (c + 1) * 7573) % 2147483629 / 32) % n, [.int d, .int s, .int (c + 1)], Int.emod_nonneg _ (by omega), Int.emod_lt_of_pos _ hn, ?_, d, s, c + 1, by simp [hlt], h1, h2, h3, by omega, by omega⟩
    simp [runD, ir_l_take, evSs, evS, evE, evEs, hb, idxP, atI, ixN, cmpP, hd, bltP, bopP, tgP, stoP, hn, lstAt, hset, hn3, hc, m1, m2, m3]

/-! ### frames -/
/-- M' is M but for the places in S, and longer -/
structure Frm (S : List Nat) (M M' : Mm) : Prop where
  len : M.length ≤ M'.length
  at_ : ∀ i, i ∉ S → i < M.length → M'[i]? = M[i]?
theorem Frm.refl {S : List Nat} {M : Mm} : Frm S M M := ⟨Nat.le_refl _, fun _ _ _ => rfl⟩
theorem Frm.trans {S : List Nat} {M M1 M2 : Mm} (a : Frm S M M1) (b : Frm S M1 M2) : Frm S M M2 :=
  ⟨Nat.le_trans a.len b.len, fun i h1 h2 => (b.at_ i h1 (Nat.lt_of_lt_of_le h2 a.len)).trans (a.at_ i h1 h2)⟩
theorem Frm.mono {S S' : List Nat} {M M1 : Mm} (a : Frm S M M1) (h : ∀ i ∈ S, i ∈ S') : Frm S' M M1 := ⟨a.len, fun i h1 h2 => a.at_ i (fun z => h1 (h i z)) h2⟩
theorem Frm.get {S : List Nat} {M M1 : Mm} (a : Frm S M M1) {i : Nat} {o : Ob} (h : M[i]? = some o) (hs : i ∉ S) : M1[i]? = some o := by
  rw [a.at_ i hs (List.getElem?_eq_some_iff.mp h).1, h]
theorem Frm.set {M : Mm} {i : Nat} {o : Ob} {S : List Nat} (h : i ∈ S) : Frm S M (M.set i o) :=
  ⟨by simp, fun j hj _ => List.getElem?_set_ne (fun z => hj (by rw [← z]; exact h))⟩
theorem Frm.app {M : Mm} {L : List Ob} {S : List Nat} : Frm S M (M ++ L) := ⟨by simp, fun j _ h => List.getElem?_append_left h⟩
theorem Frm.lt {S : List Nat} {M M1 : Mm} (a : Frm S M M1) {i : Nat} (h : i < M.length) : i < M1.length := Nat.lt_of_lt_of_le h a.len
theorem lt_of {M : Mm} {i : Nat} {o : Ob} (h : M[i]? = some o) : i < M.length := (List.getElem?_eq_some_iff.mp h).1
theorem Bx.frm {S : List Nat} {M M1 : Mm} {b : Nat} {k k' : Int} (h : Bx M b k) (a : Frm S M M1) (hs : b ∉ S) (hk : k ≤ k') : Bx M1 b k' := by
  obtain ⟨d, s, c, hb, h1, h2, h3, h4, h5⟩ := h
  exact ⟨d, s, c, a.get hb hs, h1, h2, h3, h4, by omega⟩

/-! ### events and what they do -/
inductive Ev where
  | put (k : Str) (v : Int) | drop (k : Str) | join (r : Int) | read (r u : Int) | save (r : Int) | load (r c : Int) | wait
def Ev.pv : Ev → PV
  | .put k v => .tup [.str "put", .str k, .int v]
  | .drop k => .tup [.str "drop", .str k]
  | .join r => .tup [.str "join", .int r]
  | .read r u => .tup [.str "read", .int r, .int u]
  | .save r => .tup [.str "save", .int r]
  | .load r c => .tup [.str "load", .int r, .int c]
  | .wait => .tup [.str "wait"]
/-- places of readers, of copies, how many entries -/
structure Ws where
  seats : List (Key × PV)
  copies : List PV
  many : Int
def Ws.step (w : Ws) : Ev → Option Ws
  | .put _ _ => some { w with many := w.many + 1 }
  | .drop _ => some { w with many := w.many + 1 }
  | .join r => some { w with seats := putD w.seats (.inl r) (.int 0) }
  | .read r u => some { w with seats := putD w.seats (.inl r) (.int u) }
  | .save r => (getD w.seats (.inl r)).map fun v => { w with copies := w.copies ++ [v] }
  | .load r c => (atI w.copies c).map fun v => { w with seats := putD w.seats (.inl r) v }
  | .wait => some w
def wdic (s c : Nat) (m : Int) : Ob := .dic [(.inr "seats", .ref s), (.inr "copies", .ref c), (.inr "many", .int m)]
structure WAt (M : Mm) (w s c : Nat) (ws : Ws) : Prop where
  w_ : M[w]? = some (wdic s c ws.many)
  s_ : M[s]? = some (.dic ws.seats)
  c_ : M[c]? = some (.lst ws.copies)
  ne : w ≠ s
theorem WAt.ne2 {M : Mm} {w s c : Nat} {ws : Ws} (h : WAt M w s c ws) : w ≠ c ∧ s ≠ c := by
  constructor
  · intro e; subst e; have := h.w_; rw [h.c_] at this; cases this
  · intro e; subst e; have := h.s_; rw [h.c_] at this; cases this
theorem WAt.frm {S : List Nat} {M M1 : Mm} {w s c : Nat} {ws : Ws} (h : WAt M w s c ws) (a : Frm S M M1) (hw : w ∉ S) (hs : s ∉ S) (hc : c ∉ S) : WAt M1 w s c ws :=
  ⟨a.get h.w_ hw, a.get h.s_ hs, a.get h.c_ hc, h.ne⟩
theorem moved_ok (cf : CF) {M : Mm} {w s c : Nat} {ws ws' : Ws} {e : Ev} (h : WAt M w s c ws) (he : ws.step e = some ws') (h1 : ws.seats.length < 1000) (h2 : ws.copies.length < 1000) :
    ∃ M', runD cf ir_l_moved [.ref w, e.pv] M = some (.non, M') ∧ WAt M' w s c ws' ∧ Frm [w, s, c] M M' ∧ M'.length = M.length := by
  obtain ⟨nwc, nsc⟩ := h.ne2
  have hw := h.w_
  have hs := h.s_
  have hc := h.c_
  have ne := h.ne
  have lw := lt_of hw
  have ls := lt_of hs
  have lc := lt_of hc
  have z1 : ws.seats.length < 16777216 := by omega
  have z2 : ws.copies.length < 16777216 := by omega
  have s1 : ∀ x, (M.set w x)[s]? = M[s]? := fun x => List.getElem?_set_ne ne
  have s2 : ∀ x, (M.set w x)[c]? = M[c]? := fun x => List.getElem?_set_ne nwc
  unfold wdic at hw
  cases e with
  | put k v =>
    simp only [Ws.step] at he
    cases he
    refine ⟨M.set w (wdic s c (ws.many + 1)), ?_, ⟨by simp [lw], by rw [List.getElem?_set_ne ne]; exact hs, by rw [List.getElem?_set_ne nwc]; exact hc, ne⟩, Frm.set (by simp), by simp⟩
    simp [runD, ir_l_moved, Ev.pv, evSs, evS, evE, evEs, tgP, idxP, atI, ixN, cmpP, isIn, inP, flatP, eqF, str_inj, hw, keyOf, getD, stoP, putD, bopP, wdic, sizeLine]
  | drop k =>
    simp only [Ws.step] at he
    cases he
    refine ⟨M.set w (wdic s c (ws.many + 1)), ?_, ⟨by simp [lw], by rw [List.getElem?_set_ne ne]; exact hs, by rw [List.getElem?_set_ne nwc]; exact hc, ne⟩, Frm.set (by simp), by simp⟩
    simp [runD, ir_l_moved, Ev.pv, evSs, evS, evE, evEs, tgP, idxP, atI, ixN, cmpP, isIn, inP, flatP, eqF, str_inj, hw, keyOf, getD, stoP, putD, bopP, wdic, sizeLine]
  | join r =>
    simp only [Ws.step] at he
    cases he
    refine ⟨M.set s (.dic (putD ws.seats (.inl r) (.int 0))), ?_, ⟨by rw [List.getElem?_set_ne (Ne.symm ne)]; exact h.w_, by simp [ls], by rw [List.getElem?_set_ne nsc]; exact hc, ne⟩, Frm.set (by simp), by simp⟩
    simp [runD, ir_l_moved, Ev.pv, evSs, evS, evE, evEs, tgP, idxP, atI, ixN, cmpP, isIn, inP, flatP, eqF, eqP, eqS, str_inj, hw, hs, keyOf, getD, stoP, bopP, sizeLine, z1]
  | read r u =>
    simp only [Ws.step] at he
    cases he
    refine ⟨M.set s (.dic (putD ws.seats (.inl r) (.int u))), ?_, ⟨by rw [List.getElem?_set_ne (Ne.symm ne)]; exact h.w_, by simp [ls], by rw [List.getElem?_set_ne nsc]; exact hc, ne⟩, Frm.set (by simp), by simp⟩
    simp [runD, ir_l_moved, Ev.pv, evSs, evS, evE, evEs, tgP, idxP, atI, ixN, cmpP, isIn, inP, flatP, eqF, eqP, eqS, str_inj, hw, hs, keyOf, getD, stoP, bopP, sizeLine, z1]
  | save r =>
    simp only [Ws.step] at he
    obtain ⟨v, hv, he⟩ := Option.map_eq_some_iff.mp he
    subst he
    refine ⟨M.set c (.lst (ws.copies ++ [v])), ?_, ⟨by rw [List.getElem?_set_ne (Ne.symm nwc)]; exact h.w_, by rw [List.getElem?_set_ne (Ne.symm nsc)]; exact hs, by simp [lc], ne⟩, Frm.set (by simp), by simp⟩
    have hv' : (List.find? (fun kv => decide (kv.1 = Sum.inl r)) ws.seats).map (·.2) = some v := hv
    obtain ⟨kv, hk1, hk2⟩ := Option.map_eq_some_iff.mp hv'
    simp [runD, ir_l_moved, Ev.pv, evSs, evS, evE, evEs, tgP, idxP, atI, ixN, cmpP, isIn, inP, flatP, eqF, eqP, eqS, str_inj, hw, hs, hc, keyOf, getD, mthP, mtOk, lstAt, bopP, sizeLine, z2, hk1, hk2]
  | load r cc =>
    simp only [Ws.step] at he
    obtain ⟨v, hv, he⟩ := Option.map_eq_some_iff.mp he
    subst he
    refine ⟨M.set s (.dic (putD ws.seats (.inl r) v)), ?_, ⟨by rw [List.getElem?_set_ne (Ne.symm ne)]; exact h.w_, by simp [ls], by rw [List.getElem?_set_ne nsc]; exact hc, ne⟩, Frm.set (by simp), by simp⟩
    have hix : idxP M (.ref c) (.int cc) = some v := by simp only [idxP, hc]; exact hv
    have hi0 : idxP M (.ref w) (.str "seats") = some (.ref s) := by simp [idxP, hw, keyOf, getD]
    have hi1 : idxP M (.ref w) (.str "copies") = some (.ref c) := by simp [idxP, hw, keyOf, getD, str_inj]
    have hj : ∀ (l : List PV) (j : Nat) (x : PV), l[j]? = some x → idxP M (.tup l) (.int (j : Nat)) = some x := fun l j x e => by
      have q := (List.getElem?_eq_some_iff.mp e).1
      have e' : ixN l.length (j : Nat) = some j := by simp [ixN, q]
      show (ixN l.length (j : Nat)).bind (fun j => l[j]?) = some x
      rw [e']; exact e
    have j0 : ∀ l x, idxP M (.tup (x :: l)) (.int 0) = some x := fun l x => hj _ 0 x rfl
    have j1 : ∀ l x y, idxP M (.tup (y :: x :: l)) (.int 1) = some x := fun l x y => hj _ 1 x rfl
    have j2 : ∀ l x y z, idxP M (.tup (z :: y :: x :: l)) (.int 2) = some x := fun l x y z => hj _ 2 x rfl
    simp [runD, ir_l_moved, Ev.pv, evSs, evS, evE, evEs, tgP, j0, j1, j2, hi0, hi1, hix, cmpP, isIn, inP, flatP, eqF, eqP, eqS, str_inj, hs, keyOf, stoP, sizeLine, z1]
  | wait =>
    simp only [Ws.step] at he
    cases he
    refine ⟨M, ?_, h, .refl, rfl⟩
    simp [runD, ir_l_moved, Ev.pv, evSs, evS, evE, evEs, tgP, idxP, atI, ixN, cmpP, isIn, inP, flatP, eqF, eqP, eqS, str_inj, sizeLine]
end Mp

/-! Ml2: loops by invariants; of, event. -/
namespace Mp
open PySem L2

theorem forL_inv {src : Src} {bind : PV → Sg → Option Sg} {body : Sg → Mm → Option (Fl × Mm)} (I : Nat → Sg → Mm → Prop) {n : Nat}
    (turn : ∀ i sg M, i < n → I i sg M → ∃ x sg1 sg2 M2, src.get M i = some (some x) ∧ bind x sg = some sg1 ∧ body sg1 M = some (.nx sg2, M2) ∧ I (i + 1) sg2 M2)
    (stop : ∀ sg M, I n sg M → src.get M n = some none) : ∀ (m i : Nat) (sg : Sg) (M : Mm), n - i < m → i ≤ n → I i sg M → ∃ sg' M', forL src bind body m i sg M = some (.nx sg', M') ∧ I n sg' M'
  | 0, _, _, _, h, _, _ => by omega
  | m + 1, i, sg, M, h, hi, hI => by
    by_cases e : i = n
    · subst e
      exact ⟨sg, M, by simp only [forL, stop sg M hI], hI⟩
    · obtain ⟨x, sg1, sg2, M2, h1, h2, h3, h4⟩ := turn i sg M (by omega) hI
      obtain ⟨sg', M', h5, h6⟩ := forL_inv I turn stop m (i + 1) sg2 M2 (by omega) (by omega) h4
      exact ⟨sg', M', by simp only [forL, h1, h2, h3, h5], h6⟩
theorem for_inv {src : Src} {bind : PV → Sg → Option Sg} {body : Sg → Mm → Option (Fl × Mm)} (I : Nat → Sg → Mm → Prop) {n : Nat} {sg : Sg} {M : Mm} (hn : n < 100000) (h0 : I 0 sg M)
    (turn : ∀ i sg M, i < n → I i sg M → ∃ x sg1 sg2 M2, src.get M i = some (some x) ∧ bind x sg = some sg1 ∧ body sg1 M = some (.nx sg2, M2) ∧ I (i + 1) sg2 M2)
    (stop : ∀ sg M, I n sg M → src.get M n = some none) : ∃ sg' M', forL src bind body bigN 0 sg M = some (.nx sg', M') ∧ I n sg' M' :=
  forL_inv I turn stop bigN 0 sg M (by unfold bigN; omega) (Nat.zero_le _) h0
theorem lcL_inv {src : Src} {bind : PV → Sg → Option Sg} {c e : Sg → Mm → R} {d : Nat} {sg : Sg} (I : Nat → Mm → Prop) {n : Nat}
    (turn : ∀ i M, i < n → I i M → ∃ x sg1, src.get M i = some (some x) ∧ bind x sg = some sg1 ∧ ((∃ M1 y M2 acc, c sg1 M = some (.bl true, M1) ∧ e sg1 M1 = some (y, M2) ∧ lstAt M2 d = some acc ∧ acc.length < 16777216 ∧ I (i + 1) (M2.set d (.lst (acc ++ [y])))) ∨ (∃ M1, c sg1 M = some (.bl false, M1) ∧ I (i + 1) M1)))
    (stop : ∀ M, I n M → src.get M n = some none) : ∀ (m i : Nat) (M : Mm), n - i < m → i ≤ n → I i M → ∃ M', lcL src bind c e d sg m i M = some M' ∧ I n M'
  | 0, _, _, h, _, _ => by omega
  | m + 1, i, M, h, hi, hI => by
    by_cases e1 : i = n
    · subst e1
      exact ⟨M, by simp only [lcL, stop M hI], hI⟩
    · obtain ⟨x, sg1, h1, h2, h3⟩ := turn i M (by omega) hI
      rcases h3 with ⟨M1, y, M2, acc, k1, k2, k3, k4, k5⟩ | ⟨M1, k1, k2⟩
      · obtain ⟨M', h5, h6⟩ := lcL_inv I turn stop m (i + 1) _ (by omega) (by omega) k5
        exact ⟨M', by simp only [lcL, h1, h2, k1, k2, k3]; rw [if_pos (show acc.length < sizeLine from k4)]; exact h5, h6⟩
      · obtain ⟨M', h5, h6⟩ := lcL_inv I turn stop m (i + 1) M1 (by omega) (by omega) k2
        exact ⟨M', by simp only [lcL, h1, h2, k1, h5], h6⟩
theorem lc_inv {src : Src} {bind : PV → Sg → Option Sg} {c e : Sg → Mm → R} {d : Nat} {sg : Sg} (I : Nat → Mm → Prop) {n : Nat} {M : Mm} (hn : n < 100000) (h0 : I 0 M)
    (turn : ∀ i M, i < n → I i M → ∃ x sg1, src.get M i = some (some x) ∧ bind x sg = some sg1 ∧ ((∃ M1 y M2 acc, c sg1 M = some (.bl true, M1) ∧ e sg1 M1 = some (y, M2) ∧ lstAt M2 d = some acc ∧ acc.length < 16777216 ∧ I (i + 1) (M2.set d (.lst (acc ++ [y])))) ∨ (∃ M1, c sg1 M = some (.bl false, M1) ∧ I (i + 1) M1)))
    (stop : ∀ M, I n M → src.get M n = some none) : ∃ M', lcL src bind c e d sg bigN 0 M = some M' ∧ I n M' :=
  lcL_inv I turn stop bigN 0 M (by unfold bigN; omega) (Nat.zero_le _) h0

/-! ### what the calls do -/
def HT (cf : CF) : Prop := ∀ (M : Mm) (b : Nat) (k n : Int), Bx M b k → k < 1000000000000 → 0 < n → n < 1000000000 →
  ∃ (r : Int) (l : List PV), 0 ≤ r ∧ r < n ∧ cf i_l_take [.ref b, .int n] M = some (.int r, M.set b (.lst l)) ∧ Bx (M.set b (.lst l)) b (k + 1)
theorem ht (j : Nat) : HT (cfN tab (j + 1)) := fun M b k n h hk h1 h2 => take_ok (cfN tab j) h hk h1 h2
def HO (cf : CF) : Prop := ∀ (M : Mm) (b n : Nat) (k : Int) (xs : List PV), Bx M b k → k < 1000000000000 → M[n]? = some (.lst xs) → n ≠ b → xs ≠ [] → xs.length < 1000 →
  ∃ (x : PV) (l : List PV), x ∈ xs ∧ cf i_l_of [.ref b, .ref n] M = some (x, M.set b (.lst l)) ∧ Bx (M.set b (.lst l)) b (k + 1)
theorem of_ok {cf : CF} (T : HT cf) {M : Mm} {b n : Nat} {k : Int} {xs : List PV} (h : Bx M b k) (hk : k < 1000000000000) (hx : M[n]? = some (.lst xs)) (ne : n ≠ b) (h0 : xs ≠ []) (hl : xs.length < 1000) :
    ∃ (x : PV) (l : List PV), x ∈ xs ∧ runD cf ir_l_of [.ref b, .ref n] M = some (x, M.set b (.lst l)) ∧ Bx (M.set b (.lst l)) b (k + 1) := by
  have hp : 0 < xs.length := List.length_pos_iff.mpr h0
  obtain ⟨r, l, r0, r1, e, B⟩ := T M b k xs.length h hk (by omega) (by omega)
  have hr : r.toNat < xs.length := by omega
  refine ⟨xs[r.toNat], l, List.getElem_mem hr, ?_, B⟩
  have e2 : (M.set b (.lst l))[n]? = some (.lst xs) := by rw [List.getElem?_set_ne (Ne.symm ne)]; exact hx
  have e3 : idxP (M.set b (.lst l)) (.ref n) (.int r) = some xs[r.toNat] := by
    simp only [idxP, e2, atI, ixN, if_pos r0, if_pos r1]
    exact List.getElem?_eq_getElem hr
  simp [runD, ir_l_of, evSs, evS, evE, evEs, bltP, hx, e, e3]
theorem ho (j : Nat) : HO (cfN tab (j + 2)) := fun M b n k xs h hk hx ne h0 hl => of_ok (ht j) h hk hx ne h0 hl

/-! ### an event -/
structure WsOk (ws : Ws) (n : Nat) : Prop where
  m0 : 0 ≤ ws.many
  m1 : ws.many ≤ n
  seats : ∀ kv ∈ ws.seats, ∃ p v : Int, kv = (.inl p, .int v) ∧ 0 ≤ p ∧ p ≤ 3 ∧ 0 ≤ v
  copies : ∀ x ∈ ws.copies, ∃ v : Int, x = .int v ∧ 0 ≤ v
  sl : ws.seats.length ≤ n
  cl : ws.copies.length ≤ n
def KeyOk (k : Str) : Prop := ∃ s : String, s ∈ ["a", "b", "c"] ∧ k = Str.ofString s
def EvOk : Ev → Prop
  | .put k v => KeyOk k ∧ -4 ≤ v ∧ v ≤ 4
  | .drop k => KeyOk k
  | .join r => 0 ≤ r ∧ r ≤ 3
  | .read r u => 0 ≤ r ∧ r ≤ 3 ∧ 0 ≤ u
  | .save r => 0 ≤ r ∧ r ≤ 3
  | .load r c => 0 ≤ r ∧ r ≤ 3 ∧ 0 ≤ c
  | .wait => True
theorem getD_mem {kvs : List (Key × PV)} {k : Key} {v : PV} (h : getD kvs k = some v) : (k, v) ∈ kvs := by
  unfold getD at h
  obtain ⟨kv, h1, h2⟩ := Option.map_eq_some_iff.mp h
  have h3 := List.mem_of_find?_eq_some h1
  have h4 := List.find?_some h1
  simp at h4
  rw [← h2, ← h4]; exact h3
theorem putD_len (kvs : List (Key × PV)) (k : Key) (v : PV) : (putD kvs k v).length ≤ kvs.length + 1 := by
  unfold putD; split <;> simp
theorem putD_mem {kvs : List (Key × PV)} {k : Key} {v : PV} {x : Key × PV} (h : x ∈ putD kvs k v) : x ∈ kvs ∨ x = (k, v) := by
  unfold putD at h
  split at h
  · obtain ⟨y, h1, h2⟩ := List.mem_map.mp h
    split at h2
    · rename_i e; right; rw [← h2, e]
    · left; rw [← h2]; exact h1
  · rcases List.mem_append.mp h with h | h
    · exact .inl h
    · right; simpa using h
theorem step_ok {ws ws' : Ws} {n : Nat} {e : Ev} (h : WsOk ws n) (he : EvOk e) (hs : ws.step e = some ws') : WsOk ws' (n + 1) := by
  obtain ⟨m0, m1, hse, hco, sl, cl⟩ := h
  have put : ∀ (p v : Int), 0 ≤ p → p ≤ 3 → 0 ≤ v → WsOk { ws with seats := putD ws.seats (.inl p) (.int v) } (n + 1) := fun p v h1 h2 h3 =>
    ⟨m0, by show ws.many ≤ _; omega, fun kv hk => (putD_mem hk).elim (hse kv) (fun z => ⟨p, v, z, h1, h2, h3⟩), hco, Nat.le_trans (putD_len _ _ _) (by omega), by show ws.copies.length ≤ _; omega⟩
  cases e with
  | put k v => simp only [Ws.step] at hs; cases hs; exact ⟨by show 0 ≤ ws.many + 1; omega, by show ws.many + 1 ≤ _; omega, hse, hco, by show ws.seats.length ≤ _; omega, by show ws.copies.length ≤ _; omega⟩
  | drop k => simp only [Ws.step] at hs; cases hs; exact ⟨by show 0 ≤ ws.many + 1; omega, by show ws.many + 1 ≤ _; omega, hse, hco, by show ws.seats.length ≤ _; omega, by show ws.copies.length ≤ _; omega⟩
  | join r => simp only [Ws.step] at hs; cases hs; exact put r 0 he.1 he.2 (by omega)
  | read r u => simp only [Ws.step] at hs; cases hs; exact put r u he.1 he.2.1 he.2.2
  | save r =>
    simp only [Ws.step] at hs
    obtain ⟨v, h1, h2⟩ := Option.map_eq_some_iff.mp hs
    subst h2
    obtain ⟨p, i, e, _, _, hi⟩ := hse _ (getD_mem h1)
    cases e
    exact ⟨m0, by show ws.many ≤ _; omega, hse, fun x hx => (List.mem_append.mp hx).elim (hco x) (fun z => ⟨i, by simpa using z, hi⟩), by show ws.seats.length ≤ _; omega, by show (ws.copies ++ _).length ≤ _; simp; omega⟩
  | load r c =>
    simp only [Ws.step] at hs
    obtain ⟨v, h1, h2⟩ := Option.map_eq_some_iff.mp hs
    subst h2
    have hm : v ∈ ws.copies := by
      unfold atI at h1
      obtain ⟨j, _, h3⟩ := Option.bind_eq_some_iff.mp h1
      exact List.mem_of_getElem? h3
    obtain ⟨i, rfl, hi⟩ := hco v hm
    exact put r i he.1 he.2.1 hi
  | wait => simp only [Ws.step] at hs; cases hs; exact ⟨m0, by omega, hse, hco, by omega, by omega⟩
/-- can it come now -/
def canB (ws : Ws) : Ev → Bool
  | .read r u => (match getD ws.seats (.inl r) with | some (.int s) => decide (s < u) && decide (u ≤ ws.many) | _ => false)
  | .save r => (getD ws.seats (.inl r)).isSome
  | .load _ c => decide (c < (ws.copies.length : Int))
  | _ => true
end Mp

/-! Ml2b: values as data. -/
namespace Mp
open PySem L2

theorem mapM_some {α β : Type} {f : α → Option β} {g : α → β} : ∀ {xs : List α}, (∀ x ∈ xs, f x = some (g x)) → xs.mapM f = some (xs.map g)
  | [], _ => rfl
  | x :: xs, h => by
    rw [List.mapM_cons, h x (by simp), mapM_some (xs := xs) (fun y hy => h y (by simp [hy]))]
    rfl
def fd : PV → PyData
  | .bl b => .bool b | .int i => .int i | .str s => .str s | _ => .none
/-- a flat value whose text is good -/
def FlOk : PV → Prop
  | .non => True | .bl _ => True | .int _ => True | .str s => PyData.canLay0 (.str s) = true | _ => False
theorem toD_flat {k : Nat} {M : Mm} {x : PV} (h : FlOk x) : toD (k + 1) M x = some (fd x) := by
  cases x <;> first | rfl | exact h.elim
theorem lay_flat {x : PV} (h : FlOk x) : PyData.canLay0 (fd x) = true ∧ PyData.depth (fd x) = 0 := by
  cases x <;> first | exact h.elim | exact ⟨h, rfl⟩ | exact ⟨rfl, rfl⟩
theorem layAll {xs : List PyData} : (∀ x ∈ xs, PyData.canLay0 x = true) → PyData.canLayAll0 xs = true := by
  intro h
  induction xs with
  | nil => rfl
  | cons x xs ih => rw [PyData.canLayAll0, h x (by simp), ih (fun y hy => h y (by simp [hy]))]; rfl
theorem depAll {xs : List PyData} {n : Nat} : (∀ x ∈ xs, PyData.depth x ≤ n) → PyData.depthAll xs ≤ n := by
  intro h
  induction xs with
  | nil => exact Nat.zero_le _
  | cons x xs ih => rw [PyData.depthAll]; exact Nat.max_le.mpr ⟨h x (by simp), ih (fun y hy => h y (by simp [hy]))⟩
/-- x reads as d, and d is good -/
structure Rd (k : Nat) (M : Mm) (x : PV) (d : PyData) : Prop where
  to : toD k M x = some d
  lay : PyData.canLay0 d = true
  dep : PyData.depth d < k
theorem Rd.flat {k : Nat} {M : Mm} {x : PV} (h : FlOk x) : Rd (k + 1) M x (fd x) := ⟨toD_flat h, (lay_flat h).1, by rw [(lay_flat h).2]; omega⟩
theorem Rd.tup {k : Nat} {M : Mm} {xs : List PV} {g : PV → PyData} (h : ∀ x ∈ xs, Rd k M x (g x)) (hk : 0 < k) : Rd (k + 1) M (.tup xs) (.tuple (xs.map g)) :=
  ⟨by simp only [toD]; rw [mapM_some (fun x hx => (h x hx).to)]; rfl,
   by rw [PyData.canLay0]; exact layAll (by intro y hy; obtain ⟨x, hx, rfl⟩ := List.mem_map.mp hy; exact (h x hx).lay),
   by rw [PyData.depth]; have := depAll (xs := xs.map g) (n := k - 1) (by intro y hy; obtain ⟨x, hx, rfl⟩ := List.mem_map.mp hy; have := (h x hx).dep; omega); omega⟩
theorem Rd.lst {k : Nat} {M : Mm} {n : Nat} {xs : List PV} {g : PV → PyData} (hn : M[n]? = some (.lst xs)) (h : ∀ x ∈ xs, Rd k M x (g x)) (hk : 0 < k) : Rd (k + 1) M (.ref n) (.list (xs.map g)) :=
  ⟨by simp only [toD, hn]; rw [mapM_some (fun x hx => (h x hx).to)]; rfl,
   by rw [PyData.canLay0]; exact layAll (by intro y hy; obtain ⟨x, hx, rfl⟩ := List.mem_map.mp hy; exact (h x hx).lay),
   by rw [PyData.depth]; have := depAll (xs := xs.map g) (n := k - 1) (by intro y hy; obtain ⟨x, hx, rfl⟩ := List.mem_map.mp hy; have := (h x hx).dep; omega); omega⟩
theorem Rd.up {k : Nat} {M : Mm} : ∀ {x : PV} {d : PyData}, Rd k M x d → Rd (k + 1) M x d := by
  suffices h : ∀ (k : Nat) (x : PV) (d : PyData), toD k M x = some d → toD (k + 1) M x = some d from
    fun {x d} q => ⟨h _ _ _ q.to, q.lay, Nat.lt_succ_of_lt q.dep⟩
  have mm : ∀ (k : Nat), (∀ (x : PV) (d : PyData), toD k M x = some d → toD (k + 1) M x = some d) → ∀ (xs : List PV) (ds : List PyData), xs.mapM (toD k M) = some ds → xs.mapM (toD (k + 1) M) = some ds := by
    intro k ih xs
    induction xs with
    | nil => intro ds h; exact h
    | cons x xs ih2 =>
      intro ds h
      rw [List.mapM_cons] at h ⊢
      obtain ⟨d, h1, h2⟩ := Option.bind_eq_some_iff.mp h
      obtain ⟨es, h3, h4⟩ := Option.bind_eq_some_iff.mp h2
      rw [ih _ _ h1, ih2 _ h3]
      exact h4
  intro k
  induction k with
  | zero => intro x d h; cases x <;> cases h
  | succ k ih =>
    intro x d h
    cases x with
    | tup xs =>
      simp only [toD] at h ⊢
      obtain ⟨ds, h1, h2⟩ := Option.map_eq_some_iff.mp h
      rw [mm k ih _ _ h1]; exact congrArg some h2
    | ref n =>
      simp only [toD] at h ⊢
      cases e : M[n]? with
      | none => rw [e] at h; cases h
      | some o =>
        cases o with
        | dic _ => rw [e] at h; cases h
        | ins _ _ => rw [e] at h; cases h
        | lst xs =>
          rw [e] at h
          obtain ⟨ds, h1, h2⟩ := Option.map_eq_some_iff.mp h
          show Option.map _ _ = _
          rw [mm k ih _ _ h1]; exact congrArg some h2
    | _ => exact h
theorem Rd.le {k j : Nat} {M : Mm} {x : PV} {d : PyData} (h : Rd k M x d) (hj : k ≤ j) : Rd j M x d := by
  induction hj with
  | refl => exact h
  | step _ ih => exact ih.up
theorem Rd.shaped {k : Nat} {M : Mm} {x : PV} {d : PyData} (h : Rd k M x d) (hk : k ≤ 20) : toD 20 M x = some d ∧ SeqAt.shaped d = true := by
  have h' := h.le hk
  refine ⟨h'.to, ?_⟩
  unfold SeqAt.shaped
  rw [h'.lay]
  have := h'.dep
  simp; omega
mutual
theorem eqv_refl : ∀ (d : PyData), PyData.canLay0 d = true → PyData.eqv d d = true
  | .none, _ => by simp [PyData.eqv]
  | .bool b, _ => by simp [PyData.eqv]
  | .int i, _ => by simp [PyData.eqv]
  | .str s, _ => by simp [PyData.eqv]
  | .list xs, h => by rw [PyData.canLay0] at h; rw [PyData.eqv]; exact eqvAll_refl xs h
  | .tuple xs, h => by rw [PyData.canLay0] at h; rw [PyData.eqv]; exact eqvAll_refl xs h
  | .dict _, h => by simp [PyData.canLay0] at h
theorem eqvAll_refl : ∀ (xs : List PyData), PyData.canLayAll0 xs = true → PyData.eqvAll xs xs = true
  | [], _ => by simp [PyData.eqvAll]
  | x :: xs, h => by
    rw [PyData.canLayAll0, Bool.and_eq_true] at h
    rw [PyData.eqvAll, eqv_refl x h.1, eqvAll_refl xs h.2]; rfl
end
theorem eqP_refl {j : Nat} {M : Mm} {x y : PV} {d : PyData} (hx : Rd j M x d) (hy : Rd j M y d) (hj : j ≤ 20) (hs : eqS x y = none) : eqP M x y = some true := by
  simp only [eqP, hs, (hx.shaped hj).1, (hy.shaped hj).1, (hx.shaped hj).2]
  simp [eqv_refl d hx.lay]
theorem eqP_nil {j : Nat} {M : Mm} {n m : Nat} {xs : List PV} {g : PV → PyData} (hn : M[n]? = some (.lst xs)) (hm : M[m]? = some (.lst [])) (h : ∀ x ∈ xs, Rd j M x (g x)) (h0 : 0 < j) (hj : j < 20) :
    eqP M (.ref n) (.ref m) = some xs.isEmpty := by
  have a := (Rd.lst hn h h0).shaped (by omega)
  have b := (Rd.lst (k := 1) (g := fd) hm (by simp) (by omega)).shaped (by omega)
  simp only [eqP, eqS, a.1, b.1, a.2, b.2]
  cases xs <;> simp [PyData.eqv, PyData.eqvAll]
@[simp] theorem eqP_str {M : Mm} {a b : Str} : eqP M (.str a) (.str b) = some (decide (a = b)) := rfl
@[simp] theorem eqP_int {M : Mm} {a b : Int} : eqP M (.int a) (.int b) = some (decide (a = b)) := rfl
@[simp] theorem eqP_bl {M : Mm} {a b : Bool} : eqP M (.bl a) (.bl b) = some (decide (a = b)) := rfl
end Mp

/-! Ml3: a drawn event. -/
namespace Mp
open PySem L2

def Strs (M : Mm) (n : Nat) (P : Str → Prop) : Prop := ∃ ks : List Str, M[n]? = some (.lst (ks.map .str)) ∧ ks ≠ [] ∧ ks.length < 1000 ∧ ∀ k ∈ ks, P k
def HE (cf : CF) : Prop := ∀ (M : Mm) (b w s c nn : Nat) (k f : Int) (ws : Ws) (n : Nat) (z : Str), Bx M b k → k < 900000000000 → WAt M w s c ws → WsOk ws n → n < 100000 → b ≠ w → b ≠ s → b ≠ c → nn ≠ b → Strs M nn KeyOk → 1 ≤ f → f ≤ 4 → 0 < z.length → z.length < 1000 →
  ∃ (v : PV) (M' : Mm), cf i_l_event [.ref b, .ref w, .int f, .ref nn, .str z] M = some (v, M') ∧ Frm [b] M M' ∧ Bx M' b (k + 5) ∧ (v = .non ∨ ∃ e ws', v = e.pv ∧ EvOk e ∧ ws.step e = some ws' ∧ canB ws e = true)
theorem event_ok {cf : CF} (T : HT cf) (O : HO cf) {M : Mm} {b w s c nn : Nat} {k f : Int} {ws : Ws} {n : Nat} {z : Str} (h : Bx M b k) (hk : k < 900000000000) (hw : WAt M w s c ws) (ho : WsOk ws n) (hn : n < 100000) (n1 : b ≠ w) (n2 : b ≠ s) (n3 : b ≠ c) (n4 : nn ≠ b) (hq : Strs M nn KeyOk) (f1 : 1 ≤ f) (f2 : f ≤ 4) (z1 : 0 < z.length) (z2 : z.length < 1000) :
    ∃ (v : PV) (M' : Mm), runD cf ir_l_event [.ref b, .ref w, .int f, .ref nn, .str z] M = some (v, M') ∧ Frm [b] M M' ∧ Bx M' b (k + 5) ∧ (v = .non ∨ ∃ e ws', v = e.pv ∧ EvOk e ∧ ws.step e = some ws' ∧ canB ws e = true) := by
  obtain ⟨ks, q1, q2, q3, q4⟩ := hq
  obtain ⟨r1, l1, a1, a2, e1, B1⟩ := T M b k z.length h (by omega) (by omega) (by omega)
  have g1 : Frm [b] M (M.set b (.lst l1)) := Frm.set (by simp)
  generalize eM1 : M.set b (.lst l1) = M1 at e1 B1 g1
  obtain ⟨r2, l2, b1, b2, e2, B2⟩ := T M1 b (k + 1) f B1 (by omega) (by omega) (by omega)
  have g2 : Frm [b] M (M1.set b (.lst l2)) := g1.trans (Frm.set (by simp))
  generalize eM2 : M1.set b (.lst l2) = M2 at e2 B2 g2
  obtain ⟨x3, l3, c1, e3, B3⟩ := O M2 b nn (k + 1 + 1) (ks.map .str) B2 (by omega) (g2.get q1 (by simpa using n4)) n4 (by simpa using q2) (by simpa using q3)
  have g3 : Frm [b] M (M2.set b (.lst l3)) := g2.trans (Frm.set (by simp))
  generalize eM3 : M2.set b (.lst l3) = M3 at e3 B3 g3
  obtain ⟨key, ck, rfl⟩ := List.mem_map.mp c1
  have hkey := q4 key ck
  have W3 : WAt M3 w s c ws := hw.frm g3 (by simpa using n1.symm) (by simpa using n2.symm) (by simpa using n3.symm)
  -- the sign that was drawn
  have hlz : z.cps.toList.length = z.length := by simp [Str.length]
  have hr : r1.toNat < z.cps.toList.length := by omega
  generalize ech : z.cps.toList[r1.toNat] = ch
  have hix : idxP M1 (.str z) (.int r1) = some (.str ⟨#[ch]⟩) := by
    have : atI z.cps.toList r1 = some ch := by
      simp only [atI, ixN, if_pos a1]
      rw [if_pos (by rw [hlz]; exact a2)]
      show z.cps.toList[r1.toNat]? = some ch
      rw [List.getElem?_eq_getElem hr, ech]
    simp only [idxP, this]
    rw [if_pos (show z.length ≤ sizeLine by have : sizeLine = 16777216 := rfl; omega)]
    rfl
  generalize (⟨#[ch]⟩ : Str) = wy at hix
  have hlen : bltP M .len [.str z] = some (.int z.length, M) := by
    simp only [bltP]; rw [if_pos (show z.length ≤ sizeLine by have : sizeLine = 16777216 := rfl; omega)]
  have hwd := W3.w_
  unfold wdic at hwd
  have hsd := W3.s_
  have hcd := W3.c_
  have iS : ∀ {N : Mm}, Frm [b] M3 N → idxP N (.ref w) (.str "seats") = some (.ref s) := fun {N} fr => by
    have := fr.get hwd (by simpa using n1.symm)
    simp [idxP, this, keyOf, getD]
  have iC : ∀ {N : Mm}, Frm [b] M3 N → idxP N (.ref w) (.str "copies") = some (.ref c) := fun {N} fr => by
    have := fr.get hwd (by simpa using n1.symm)
    simp [idxP, this, keyOf, getD]
  have iM : ∀ {N : Mm}, Frm [b] M3 N → idxP N (.ref w) (.str "many") = some (.int ws.many) := fun {N} fr => by
    have := fr.get hwd (by simpa using n1.symm)
    simp [idxP, this, keyOf, getD]
  by_cases hp : wy = "p"
  · obtain ⟨r4, l4, d1, d2, e4, B4⟩ := T M3 b (k + 1 + 1 + 1) 9 B3 (by omega) (by omega) (by omega)
    refine ⟨(Ev.put key (r4 - 4)).pv, M3.set b (.lst l4), ?_, g3.trans (Frm.set (by simp)), B4.frm (S := []) .refl (by simp) (by omega), .inr ⟨.put key (r4 - 4), _, rfl, ⟨hkey, by omega, by omega⟩, rfl, rfl⟩⟩
    simp [runD, ir_l_event, evSs, evS, evE, evEs, tgP, setAll, hlen, e1, hix, e2, e3, hp, cmpP, eqP, eqS, e4, Ev.pv, sizeLine, bopP]
  by_cases hd : wy = "d"
  · refine ⟨(Ev.drop key).pv, M3, ?_, g3, B3.frm (S := []) .refl (by simp) (by omega), .inr ⟨.drop key, _, rfl, hkey, rfl, rfl⟩⟩
    simp [runD, ir_l_event, evSs, evS, evE, evEs, tgP, setAll, hlen, e1, hix, e2, e3, hd, cmpP, eqP, eqS, isIn, inP, flatP, eqF, Ev.pv, sizeLine]
  by_cases hww : wy = "w"
  · refine ⟨Ev.wait.pv, M3, ?_, g3, B3.frm (S := []) .refl (by simp) (by omega), .inr ⟨.wait, _, rfl, trivial, rfl, rfl⟩⟩
    simp [runD, ir_l_event, evSs, evS, evE, evEs, tgP, setAll, hlen, e1, hix, e2, e3, hww, cmpP, eqP, eqS, isIn, inP, flatP, eqF, Ev.pv, sizeLine]
  have hin : (Str.ofString "d" == wy || Str.ofString "w" == wy) = false := by
    rw [beq_eq_false_iff_ne.mpr (Ne.symm hd), beq_eq_false_iff_ne.mpr (Ne.symm hww)]; rfl
  have hdd : (Str.ofString "d" == wy) = false := beq_eq_false_iff_ne.mpr (Ne.symm hd)
  have hdw : (Str.ofString "w" == wy) = false := beq_eq_false_iff_ne.mpr (Ne.symm hww)
  by_cases hj : wy = "j"
  · refine ⟨(Ev.join r2).pv, M3, ?_, g3, B3.frm (S := []) .refl (by simp) (by omega), .inr ⟨.join r2, _, rfl, ⟨b1, by omega⟩, rfl, rfl⟩⟩
    simp [runD, ir_l_event, evSs, evS, evE, evEs, tgP, setAll, hlen, e1, hix, e2, e3, hj, cmpP, eqP, eqS, isIn, inP, flatP, eqF, Ev.pv, sizeLine]
  by_cases hl : wy = "l"
  · have fA : Frm [b] M3 (M3 ++ [.lst []]) := Frm.app
    have q1 := iC (.refl : Frm [b] M3 M3)
    have q2 := iC fA
    have q3 : (M3 ++ [.lst []])[c]? = some (.lst ws.copies) := fA.get hcd (by simpa using n3.symm)
    have q4 : (M3 ++ [.lst []])[M3.length]? = some (.lst []) := by simp
    have q5 := eqP_nil (j := 1) (g := fd) q3 q4 (by intro x hx; obtain ⟨v, rfl, _⟩ := ho.copies x hx; exact Rd.flat trivial) (by omega) (by omega)
    by_cases hne : ws.copies = []
    · refine ⟨.non, M3 ++ [.lst []], ?_, g3.trans fA, B3.frm (S := []) .app (by simp) (by omega), .inl rfl⟩
      rw [hne] at q5
      simp [runD, ir_l_event, evSs, evS, evE, evEs, tgP, setAll, hlen, e1, hix, e2, e3, hl, cmpP, isIn, inP, flatP, eqF, sizeLine, q1, q2, q5]
    · have hpos : 0 < ws.copies.length := List.length_pos_iff.mpr hne
      have hcl := ho.cl
      obtain ⟨r4, l4, d1, d2, e4, B4⟩ := T (M3 ++ [.lst []]) b (k + 1 + 1 + 1) ws.copies.length (B3.frm (S := []) .app (by simp) (by omega)) (by omega) (by omega) (by omega)
      have hst : (atI ws.copies r4) = some (ws.copies[r4.toNat]'(by omega)) := by
        simp only [atI, ixN, if_pos d1, if_pos d2]
        exact List.getElem?_eq_getElem (by omega)
      refine ⟨(Ev.load r2 r4).pv, _, ?_, (g3.trans fA).trans (Frm.set (by simp)), B4.frm (S := []) .refl (by simp) (by omega), .inr ⟨.load r2 r4, _, rfl, ⟨b1, by omega, d1⟩, by simp only [Ws.step, hst]; rfl, decide_eq_true d2⟩⟩
      have q5' : eqP (M3 ++ [.lst []]) (.ref c) (.ref M3.length) = some false := by rw [q5]; cases hh : ws.copies with | nil => exact absurd hh hne | cons _ _ => rfl
      have hlc : bltP (M3 ++ [.lst []]) .len [.ref c] = some (.int ws.copies.length, M3 ++ [.lst []]) := by simp only [bltP, q3]
      simp [runD, ir_l_event, evSs, evS, evE, evEs, tgP, setAll, hlen, e1, hix, e2, e3, hl, cmpP, isIn, inP, flatP, eqF, sizeLine, q1, q2, q5', hlc, e4, Ev.pv]
  have p1 := iS (.refl : Frm [b] M3 M3)
  have p2 := iM (.refl : Frm [b] M3 M3)
  have hpf : eqP M3 (.str wy) (.str "p") = some false := by simp [eqP, eqS, hp]
  have hjf : eqP M3 (.str wy) (.str "j") = some false := by simp [eqP, eqS, hj]
  have hlf : eqP M3 (.str wy) (.str "l") = some false := by simp [eqP, eqS, hl]
  have hni : isIn M3 (.int r2) (.ref s) = some (getD ws.seats (.inl r2)).isSome := by simp only [isIn, hsd, keyOf]; rfl
  cases hg : getD ws.seats (.inl r2) with
  | none =>
    rw [hg] at hni
    refine ⟨(Ev.join r2).pv, M3, ?_, g3, B3.frm (S := []) .refl (by simp) (by omega), .inr ⟨.join r2, _, rfl, ⟨b1, by omega⟩, rfl, rfl⟩⟩
    simp [runD, ir_l_event, evSs, evS, evE, evEs, tgP, setAll, hlen, e1, hix, e2, e3, cmpP, hpf, hjf, hlf, isIn, inP, flatP, eqF, hdd, hdw, sizeLine, p1, Ev.pv]
    simp [isIn, hsd, keyOf, hg]
  | some v =>
    rw [hg] at hni
    obtain ⟨p, v', e', _, _, hv0⟩ := ho.seats _ (getD_mem hg)
    cases e'
    by_cases hs : wy = "s"
    · refine ⟨(Ev.save r2).pv, M3, ?_, g3, B3.frm (S := []) .refl (by simp) (by omega), .inr ⟨.save r2, _, rfl, ⟨b1, by omega⟩, by simp only [Ws.step, hg]; rfl, by simp [canB, hg]⟩⟩
      simp [runD, ir_l_event, evSs, evS, evE, evEs, tgP, setAll, hlen, e1, hix, e2, e3, cmpP, hs, isIn, inP, flatP, eqF, sizeLine, p1, Ev.pv, eqP, eqS, hsd, keyOf, hg]
    have hsf : eqP M3 (.str wy) (.str "s") = some false := by simp [eqP, eqS, hs]
    have p3 : idxP M3 (.ref s) (.int r2) = some (.int v') := by simp only [idxP, hsd, keyOf]; exact hg
    by_cases hgap : 0 < ws.many - v'
    · have hm1 := ho.m1
      obtain ⟨r4, l4, d1, d2, e4, B4⟩ := T M3 b (k + 1 + 1 + 1) (ws.many - v') B3 (by omega) (by omega) (by omega)
      refine ⟨(Ev.read r2 (v' + 1 + r4)).pv, _, ?_, g3.trans (Frm.set (by simp)), B4.frm (S := []) .refl (by simp) (by omega), .inr ⟨.read r2 (v' + 1 + r4), _, rfl, ⟨b1, by omega, by omega⟩, rfl, by simp only [canB, hg]; rw [decide_eq_true (by omega), decide_eq_true (by omega)]; rfl⟩⟩
      have hgap' : v' < ws.many := by omega
      simp [runD, ir_l_event, evSs, evS, evE, evEs, tgP, setAll, hlen, e1, hix, e2, e3, cmpP, hpf, hjf, hlf, hsf, isIn, inP, flatP, eqF, hdd, hdw, sizeLine, p1, p2, p3, Ev.pv, hsd, keyOf, hg, bopP, hgap, hgap', e4]
    · refine ⟨.non, M3, ?_, g3, B3.frm (S := []) .refl (by simp) (by omega), .inl rfl⟩
      have hgap' : ¬ v' < ws.many := by omega
      simp [runD, ir_l_event, evSs, evS, evE, evEs, tgP, setAll, hlen, e1, hix, e2, e3, cmpP, hpf, hjf, hlf, hsf, isIn, inP, flatP, eqF, hdd, hdw, sizeLine, p1, p2, p3, Ev.pv, hsd, keyOf, hg, bopP, hgap, hgap']
theorem he (j : Nat) : HE (cfN tab (j + 3)) := fun M b w s c nn k f ws n z h hk hw ho hn n1 n2 n3 n4 hq f1 f2 z1 z2 => event_ok (ht (j + 1)) (Mp.ho j) h hk hw ho hn n1 n2 n3 n4 hq f1 f2 z1 z2
end Mp

/-! Ml4: the drawn table. -/
namespace Mp
open PySem L2

theorem Frm.comp {S T : List Nat} {M0 M M' : Mm} (a : Frm S M0 M) (b : Frm T M M') (h : ∀ i ∈ T, i ∈ S ∨ M0.length ≤ i) : Frm S M0 M' :=
  ⟨Nat.le_trans a.len b.len, fun i h1 h2 => by
    rw [b.at_ i (fun z => (h i z).elim h1 (fun q => absurd h2 (by omega))) (Nat.lt_of_lt_of_le h2 a.len)]
    exact a.at_ i h1 h2⟩
theorem Frm.wr {S : List Nat} {M0 M : Mm} {j : Nat} {x : Ob} (a : Frm S M0 M) (h : M0.length ≤ j) : Frm S M0 (M.set j x) :=
  a.comp (Frm.set (S := [j]) (by simp)) (by simp; exact .inr h)
theorem Frm.wr2 {S : List Nat} {M0 M : Mm} {L : List Ob} (a : Frm S M0 M) : Frm S M0 (M ++ L) := a.trans .app
def Ws.run (ws : Ws) : List Ev → Option Ws
  | [] => some ws
  | e :: es => (ws.step e).bind fun w => w.run es
theorem Ws.run_app {ws1 ws2 : Ws} {es : List Ev} {e : Ev} : ∀ {ws : Ws}, ws.run es = some ws1 → ws1.step e = some ws2 → ws.run (es ++ [e]) = some ws2 := by
  induction es with
  | nil => intro ws h1 h2; cases h1; simp [Ws.run, h2]
  | cons a es ih =>
    intro ws h1 h2
    obtain ⟨w, h3, h4⟩ := Option.bind_eq_some_iff.mp h1
    show (ws.step a).bind _ = _
    rw [h3]; exact ih h4 h2
def w0 : Ws := ⟨[], [], 0⟩
/-- can the event at i come -/
def okE (es : List Ev) (i : Nat) : Bool := match w0.run (es.take i) with | some ws => canB ws (es.getD i .wait) | none => false
theorem okE_app {es : List Ev} {e : Ev} {ws : Ws} (h : ∀ i, i < es.length → okE es i = true) (hr : w0.run es = some ws) (hc : canB ws e = true) : ∀ i, i < (es ++ [e]).length → okE (es ++ [e]) i = true := by
  intro i hi
  by_cases hlt : i < es.length
  · have h1 := h i hlt
    unfold okE at h1 ⊢
    rw [List.take_append_of_le_length (by omega)]
    have : (es ++ [e]).getD i .wait = es.getD i .wait := by
      rw [List.getD_eq_getElem?_getD, List.getD_eq_getElem?_getD, List.getElem?_append_left hlt]
    rw [this]; exact h1
  · have he : i = es.length := by simp at hi; omega
    subst he
    unfold okE
    rw [List.take_append_of_le_length (Nat.le_refl _), List.take_length, hr]
    have : (es ++ [e]).getD es.length .wait = e := by rw [List.getD_eq_getElem?_getD]; simp
    simp only [this]; exact hc
theorem w0_ok : WsOk w0 0 := ⟨by decide, by decide, by simp [w0], by simp [w0], by decide, by decide⟩
theorem WsOk.mono {ws : Ws} {n m : Nat} (h : WsOk ws n) (hm : n ≤ m) : WsOk ws m := ⟨h.m0, by have := h.m1; omega, h.seats, h.copies, Nat.le_trans h.sl hm, Nat.le_trans h.cl hm⟩
abbrev wE : E := (.dct [.inr "seats", .inr "copies", .inr "many"] (.cons .dnew (.cons (.lst .nil) (.cons (.con (.int 0)) .nil))))
theorem wE_ok (cf : CF) (sg : Sg) (M : Mm) : ∃ M', evE cf wE sg M = some (.ref M.length, M') ∧ WAt M' M.length (M.length + 1) (M.length + 2) w0 ∧ Frm [] M M' ∧ M'.length = M.length + 3 := by
  refine ⟨M ++ [wdic (M.length + 1) (M.length + 2) 0, .dic [], .lst []], ?_, ⟨?_, ?_, ?_, by omega⟩, Frm.app, by simp⟩
  · have h1 : dicAt (M ++ [Ob.dic []] ++ [Ob.dic []] ++ [Ob.lst []]) M.length = some [] := by simp [dicAt]
    have h2 : (M ++ [Ob.dic []] ++ [Ob.dic []] ++ [Ob.lst []]).set M.length (wdic (M.length + 1) (M.length + 2) 0) = M ++ [wdic (M.length + 1) (M.length + 2) 0, .dic [], .lst []] := by simp
    rw [← h2]
    simp [evE, evEs, sizeLine, dicAt, putD, wdic]
  · simp [w0]
  · simp [w0]
  · simp [w0]
def Ev.word : Ev → Str
  | .put _ _ => "put" | .drop _ => "drop" | .join _ => "join" | .read _ _ => "read" | .save _ => "save" | .load _ _ => "load" | .wait => "wait"
def Ev.rest : Ev → List PV
  | .put k v => [.str k, .int v] | .drop k => [.str k] | .join r => [.int r] | .read r u => [.int r, .int u] | .save r => [.int r] | .load r c => [.int r, .int c] | .wait => []
theorem Ev.pv_eq (e : Ev) : e.pv = .tup (.str e.word :: e.rest) := by cases e <;> rfl
/-- a drawn table -/
structure TbOk (es : List Ev) (n : Nat) : Prop where
  run : ∃ ws, w0.run es = some ws ∧ WsOk ws n
  len : es.length ≤ n
  ok : ∀ e ∈ es, EvOk e
  vl : ∀ i, i < es.length → okE es i = true
theorem TbOk.nil : TbOk [] 0 := ⟨⟨w0, rfl, w0_ok⟩, Nat.le_refl _, by simp, by simp⟩
theorem TbOk.mono {es : List Ev} {n m : Nat} (h : TbOk es n) (hm : n ≤ m) : TbOk es m := ⟨by obtain ⟨ws, a, b⟩ := h.run; exact ⟨ws, a, b.mono hm⟩, Nat.le_trans h.len hm, h.ok, h.vl⟩
/-- a table being made: found at nf, the state at w -/
structure Mkg (M : Mm) (nf w s c : Nat) (es : List Ev) (ws : Ws) (n : Nat) : Prop where
  f_ : M[nf]? = some (.lst (es.map Ev.pv))
  w_ : WAt M w s c ws
  run : w0.run es = some ws
  len : es.length ≤ n
  wok : WsOk ws n
  ok : ∀ e ∈ es, EvOk e
  ne : nf ≠ w
  vl : ∀ i, i < es.length → okE es i = true
theorem Mkg.ne2 {M : Mm} {nf w s c : Nat} {es : List Ev} {ws : Ws} {n : Nat} (h : Mkg M nf w s c es ws n) : nf ≠ s := by
  intro e; subst e; have := h.w_.s_; rw [h.f_] at this; cases this
theorem Mkg.mono {M : Mm} {nf w s c : Nat} {es : List Ev} {ws : Ws} {n m : Nat} (h : Mkg M nf w s c es ws n) (hm : n ≤ m) : Mkg M nf w s c es ws m := ⟨h.f_, h.w_, h.run, Nat.le_trans h.len hm, h.wok.mono hm, h.ok, h.ne, h.vl⟩
theorem Mkg.frm {S : List Nat} {M M' : Mm} {nf w s c : Nat} {es : List Ev} {ws : Ws} {n : Nat} (h : Mkg M nf w s c es ws n) (a : Frm S M M') (h1 : nf ∉ S) (h2 : w ∉ S) (h3 : s ∉ S) (h4 : c ∉ S) : Mkg M' nf w s c es ws n := ⟨a.get h.f_ h1, h.w_.frm a h2 h3 h4, h.run, h.len, h.wok, h.ok, h.ne, h.vl⟩
def HM (cf : CF) : Prop := ∀ (M : Mm) (w s c : Nat) (ws ws' : Ws) (e : Ev), WAt M w s c ws → ws.step e = some ws' → ws.seats.length < 1000 → ws.copies.length < 1000 →
  ∃ M', cf i_l_moved [.ref w, e.pv] M = some (.non, M') ∧ WAt M' w s c ws' ∧ Frm [w, s, c] M M' ∧ M'.length = M.length
theorem hm (j : Nat) : HM (cfN tab (j + 1)) := fun M w s c ws ws' e h1 h2 h3 h4 => moved_ok (cfN tab j) h1 h2 h3 h4
/-- moved and append, in either order -/
theorem go_ok {cf : CF} (H : HM cf) {M : Mm} {nf w s c : Nat} {es : List Ev} {ws ws' : Ws} {n : Nat} {e : Ev} (h : Mkg M nf w s c es ws n) (hn : n < 500) (he : EvOk e) (hs : ws.step e = some ws') (hv : canB ws e = true) (hc : nf ≠ c) :
    ∃ M1 M2, cf i_l_moved [.ref w, e.pv] M = some (.non, M1) ∧ mtOk M1 .append (.ref nf) = true ∧ mthP M1 .append (.ref nf) [e.pv] = some (.non, M2) ∧ Mkg M2 nf w s c (es ++ [e]) ws' (n + 1) ∧ Frm [nf, w, s, c] M M2 := by
  obtain ⟨M1, e1, W1, f1, l1⟩ := H M w s c ws ws' e h.w_ hs (by have := h.wok.sl; omega) (by have := h.wok.cl; omega)
  have hf : M1[nf]? = some (.lst (es.map Ev.pv)) := f1.get h.f_ (by simp [h.ne, h.ne2, hc])
  have hl : (es.map Ev.pv).length < 16777216 := by have := h.len; simp; omega
  refine ⟨M1, M1.set nf (.lst (es.map Ev.pv ++ [e.pv])), e1, by simp [mtOk, lstAt, hf], ?_, ⟨?_, ?_, Ws.run_app h.run hs, ?_, step_ok h.wok he hs, ?_, h.ne, okE_app h.vl h.run hv⟩, ?_⟩
  · simp only [mthP, lstAt, hf]
    show (if _ then _ else _) = _
    rw [if_pos (show _ < sizeLine from hl)]
  · rw [List.map_append]; simp [lt_of hf]
  · exact W1.frm (S := [nf]) (Frm.set (by simp)) (by simp [h.ne.symm]) (by simp [h.ne2.symm]) (by simp [hc.symm])
  · simp; exact h.len
  · intro x hx
    rcases List.mem_append.mp hx with hx | hx
    · exact h.ok x hx
    · simp at hx; subst hx; exact he
  · exact (f1.mono (by simp +contextual)).trans (Frm.set (by simp))

def HTb (cf : CF) : Prop := ∀ (M : Mm) (b nn : Nat) (k f many most : Int) (z : Str), Bx M b k → k < 800000000000 → nn ≠ b → Strs M nn KeyOk → 1 ≤ f → f ≤ 4 → 0 < z.length → z.length < 1000 → 0 ≤ many → many ≤ 14 →
  ∃ (es : List Ev) (M' : Mm), cf i_l_table [.ref b, .int many, .int most, .int f, .ref nn, .str z] M = some (.tup (es.map Ev.pv), M') ∧ Frm [b] M M' ∧ Bx M' b (k + 70) ∧ TbOk es 14
theorem table_ok {cf : CF} (HEv : HE cf) (H : HM cf) {M : Mm} {b nn : Nat} {k f many most : Int} {z : Str} (h : Bx M b k) (hk : k < 800000000000) (n4 : nn ≠ b) (hq : Strs M nn KeyOk) (f1 : 1 ≤ f) (f2 : f ≤ 4) (z1 : 0 < z.length) (z2 : z.length < 1000) (m1 : 0 ≤ many) (m2 : many ≤ 14) :
    ∃ (es : List Ev) (M' : Mm), runD cf ir_l_table [.ref b, .int many, .int most, .int f, .ref nn, .str z] M = some (.tup (es.map Ev.pv), M') ∧ Frm [b] M M' ∧ Bx M' b (k + 70) ∧ TbOk es 14 := by
  have hbl : b < M.length := by obtain ⟨_, _, _, hb, _⟩ := h; exact lt_of hb
  have hnl : nn < M.length := by obtain ⟨_, hb, _⟩ := hq; exact lt_of hb
  obtain ⟨Mw, e1, W1, f1', l1⟩ := wE_ok cf ([some (.ref b), some (.int many), some (.int most), some (.int f), some (.ref nn), some (.str z), none, none, none, none, none]) (M ++ [.lst []])
  have f2' : Frm [] M Mw := Frm.trans .app f1'
  have fd1 : Mw[M.length]? = some (.lst []) := f1'.get (by simp) (by simp)
  simp only [List.length_append, List.length_singleton] at W1 e1 l1
  generalize hw_ : M.length + 1 = w at W1 e1
  generalize hs_ : w + 1 = s at W1
  generalize hc_ : w + 2 = c at W1
  generalize hf_ : M.length = nf at *
  let I : Nat → Sg → Mm → Prop := fun i sg N => ∃ o8 o9 o10 es ws, sg = [some (.ref b), some (.int many), some (.int most), some (.int f), some (.ref nn), some (.str z), some (.ref nf), some (.ref w), o8, o9, o10] ∧ Mkg N nf w s c es ws i ∧ Bx N b (k + 5 * i) ∧ Frm [b] M N
  obtain ⟨sg', M', e2, o8, o9, o10, es, ws, hsg, K, B, F⟩ := for_inv (src := .rng 0 many.toNat) (bind := tgP (.name 8)) (body := fun sg M => evSs cf b1_l_table sg M) I (n := many.toNat) (sg := [some (.ref b), some (.int many), some (.int most), some (.int f), some (.ref nn), some (.str z), some (.ref nf), some (.ref w), none, none, none]) (M := Mw) (by omega)
    ⟨none, none, none, [], w0, rfl, ⟨fd1, W1, rfl, Nat.le_refl _, w0_ok, by simp, by omega, by simp⟩, h.frm f2' (by simp) (by omega), f2'.mono (by simp)⟩
    (by
      intro i sg N hi hI
      obtain ⟨o8, o9, o10, es, ws, rfl, K, B, F⟩ := hI
      refine ⟨.int (0 + i), [some (.ref b), some (.int many), some (.int most), some (.int f), some (.ref nn), some (.str z), some (.ref nf), some (.ref w), some (.int (0 + i)), o9, o10], ?_⟩
      obtain ⟨v, N1, e3, F1, B1, hv⟩ := HEv N b w s c nn (k + 5 * i) f ws i z B (by omega) K.w_ K.wok (by omega) (by omega) (by omega) (by omega) n4 (by obtain ⟨ks, q, q'⟩ := hq; exact ⟨ks, F.get q (by simpa using n4), q'⟩) f1 f2 z1 z2
      have K1 : Mkg N1 nf w s c es ws i := K.frm F1 (by simp; omega) (by simp; omega) (by simp; omega) (by simp; omega)
      have iM : idxP N1 (.ref w) (.str "many") = some (.int ws.many) := by
        have := K1.w_.w_; simp [idxP, this, keyOf, getD, wdic]
      have iC : idxP N1 (.ref w) (.str "copies") = some (.ref c) := by
        have := K1.w_.w_; simp [idxP, this, keyOf, getD, wdic]
      have hlc : bltP N1 .len [.ref c] = some (.int ws.copies.length, N1) := by simp only [bltP, K1.w_.c_]
      have B2 : ∀ {N2 : Mm}, Frm [nf, w, s, c] N1 N2 → Bx N2 b (k + 5 * (i + 1 : Nat)) := fun fr => B1.frm fr (by simp; omega) (by omega)
      have F2 : ∀ {N2 : Mm}, Frm [nf, w, s, c] N1 N2 → Frm [b] M N2 := fun fr => (F.trans F1).comp fr (by simp; omega)
      have src : (Src.rng 0 many.toNat).get N i = some (some (.int (0 + i))) := by simp [Src.get, hi]
      rcases hv with rfl | ⟨e, ws', rfl, heo, hst, hcan⟩
      · refine ⟨[some (.ref b), some (.int many), some (.int most), some (.int f), some (.ref nn), some (.str z), some (.ref nf), some (.ref w), some (.int (0 + i)), some .non, some (.bl false)], N1, src, rfl, ?_, _, _, _, es, ws, rfl, K1.mono (by omega), B2 .refl, F2 .refl⟩
        simp [b1_l_table, evSs, evS, evE, evEs, tgP, e3, cmpP]
      · obtain ⟨Na, Nb, g1, g2, g3, g4, g5⟩ := go_ok H K1 (by omega) heo hst hcan (by omega)
        have full : ∃ x, isIn N1 (.str e.word) (.tup [.str "put", .str "drop"]) = some x := by simp [isIn, inP, flatP]
        obtain ⟨x, hx⟩ := full
        have ix0 : idxP N1 e.pv (.int 0) = some (.str e.word) := by rw [e.pv_eq]; simp [idxP, atI, ixN]
        rw [e.pv_eq] at e3 g1 g3 ix0
        generalize e.word = ew at *
        generalize e.rest = er at *
        by_cases go : (x && decide (most ≤ ws.many)) = false ∧ (ew ≠ "save" ∨ (ws.copies.length : Int) < 3)
        · refine ⟨[some (.ref b), some (.int many), some (.int most), some (.int f), some (.ref nn), some (.str z), some (.ref nf), some (.ref w), some (.int (0 + i)), some (.tup (.str ew :: er)), some (.bl false)], Nb, src, rfl, ?_, _, _, _, es ++ [e], ws', rfl, g4, B2 g5, F2 g5⟩
          obtain ⟨ga, gb⟩ := go
          cases x with
          | false => 
            by_cases hsv : ew = "save"
            · have h3 : (ws.copies.length : Int) < 3 := gb.resolve_left (fun q => q hsv)
              subst hsv
              simp [b1_l_table, evSs, evS, evE, evEs, tgP, e3, ix0, cmpP, hx, iC, hlc, h3, g1, g2, g3, sizeLine]
            · simp [b1_l_table, evSs, evS, evE, evEs, tgP, e3, ix0, cmpP, hx, hsv, iC, hlc, g1, g2, g3, sizeLine]
          | true =>
            simp at ga
            have ga' : ¬ most ≤ ws.many := by omega
            by_cases hsv : ew = "save"
            · have h3 : (ws.copies.length : Int) < 3 := gb.resolve_left (fun q => q hsv)
              subst hsv
              simp [b1_l_table, evSs, evS, evE, evEs, tgP, e3, ix0, cmpP, hx, iC, iM, hlc, h3, ga', g1, g2, g3, sizeLine]
            · simp [b1_l_table, evSs, evS, evE, evEs, tgP, e3, ix0, cmpP, hx, hsv, iC, iM, hlc, ga', g1, g2, g3, sizeLine]
        · refine ⟨[some (.ref b), some (.int many), some (.int most), some (.int f), some (.ref nn), some (.str z), some (.ref nf), some (.ref w), some (.int (0 + i)), some (.tup (.str ew :: er)), some (.bl (x && decide (most ≤ ws.many)))], N1, src, rfl, ?_, _, _, _, es, ws, rfl, K1.mono (by omega), B2 .refl, F2 .refl⟩
          by_cases hsv : ew = "save" ∧ ¬ (ws.copies.length : Int) < 3
          · obtain ⟨h1, h2⟩ := hsv
            subst h1
            cases x <;> by_cases hmm : most ≤ ws.many <;> simp [b1_l_table, evSs, evS, evE, evEs, tgP, e3, ix0, cmpP, hx, iC, iM, hlc, h2, hmm, sizeLine]
          · have hxx : x = true ∧ most ≤ ws.many := by
              cases x with
              | false => exact absurd ⟨rfl, (Classical.em (ew = "save")).elim (fun q => .inr (Classical.byContradiction fun z => hsv ⟨q, z⟩)) .inl⟩ go
              | true =>
                refine ⟨rfl, Classical.byContradiction fun zz => go ⟨by simp; omega, (Classical.em (ew = "save")).elim (fun q => .inr (Classical.byContradiction fun z => hsv ⟨q, z⟩)) .inl⟩⟩
            obtain ⟨rfl, hmm⟩ := hxx
            simp [b1_l_table, evSs, evS, evE, evEs, tgP, e3, ix0, cmpP, hx, iC, iM, hlc, hmm, sizeLine])
    (by intro sg N _; simp [Src.get])
  refine ⟨es, M', ?_, F, B.frm (S := []) .refl (by simp) (by omega), ⟨⟨ws, K.run, K.wok.mono (by omega)⟩, by have := K.len; omega, K.ok, K.vl⟩⟩
  subst hsg
  have hro : rngOk many = true := by simp [rngOk]; omega
  have hfin := K.f_
  have hE : ∀ (q : E) (sg0 : Sg), evE cf q sg0 (M ++ [.lst []]) = some (.ref w, Mw) → evE cf (.tup (.cons (.lst .nil) (.cons q .nil))) sg0 M = some (.tup [.ref nf, .ref w], Mw) := by
    intro q sg0 hq; simp [evE, evEs, hq, sizeLine, hf_]
  have hT : evE cf (.blt .tuple (.cons (.var 6) .nil)) [some (.ref b), some (.int many), some (.int most), some (.int f), some (.ref nn), some (.str z), some (.ref nf), some (.ref w), o8, o9, o10] M' = some (.tup (es.map Ev.pv), M') := by
    simp [evE, evEs, bltP, lstAt, hfin]
  simp [runD, ir_l_table, evSs, evS, hE wE _ e1, evI, tgP, setAll, evE.eq_1, hro, e2, hT]
theorem htb (j : Nat) : HTb (cfN tab (j + 4)) := fun M b nn k f many most z h hk n4 hq f1 f2 z1 z2 m1 m2 => table_ok (he j) (hm (j + 2)) h hk n4 hq f1 f2 z1 z2 m1 m2
end Mp

/-! Mk1: all of a comprehension of truths; loops that may return; good values. -/
namespace Mp
open PySem L2

@[simp] theorem ty_beq (a b : Ty) : (a == b) = decide (a = b) := rfl
theorem set_same' {N : Mm} {i : Nat} {o : Ob} (h : N[i]? = some o) : N.set i o = N := by
  apply List.ext_getElem?
  intro j
  by_cases e : i = j
  · subst e; rw [List.getElem?_set_self (lt_of h), h]
  · rw [List.getElem?_set_ne e]
theorem get_last {M : Mm} {a : Ob} : (M ++ [a])[M.length]? = some a := by simp
theorem at0 {x : PV} {l : List PV} : atI (x :: l) 0 = some x := by
  unfold atI ixN; rw [if_pos (by omega), if_pos (by simp only [List.length_cons]; omega)]; rfl
theorem at1 {x y : PV} {l : List PV} : atI (x :: y :: l) 1 = some y := by
  unfold atI ixN; rw [if_pos (by omega), if_pos (by simp only [List.length_cons]; omega)]; rfl
theorem at2 {x y z : PV} {l : List PV} : atI (x :: y :: z :: l) 2 = some z := by
  unfold atI ixN; rw [if_pos (by omega), if_pos (by simp only [List.length_cons]; omega)]; rfl
theorem Frm.comp' {S T : List Nat} {M0 M M' : Mm} (a : Frm S M0 M) (b : Frm T M M') (h : ∀ i ∈ T, i ∈ S ∨ M0.length ≤ i) : Frm S M0 M' :=
  ⟨Nat.le_trans a.len b.len, fun i h1 h2 => by
    rw [b.at_ i (fun z => (h i z).elim h1 (fun q => absurd h2 (by omega))) (Nat.lt_of_lt_of_le h2 a.len)]
    exact a.at_ i h1 h2⟩
theorem Frm.wr' {S : List Nat} {M0 M : Mm} {j : Nat} {x : Ob} (a : Frm S M0 M) (h : M0.length ≤ j) : Frm S M0 (M.set j x) :=
  a.comp' (Frm.set (S := [j]) (by simp)) (by simp; exact .inr h)
theorem e_chnT {cf : CF} {sg : Sg} {M M1 M2 M3 : Mm} {a b c : E} {x y z : PV} {o1 o2 : Co} {k : Bool} (h : evE cf a sg M = some (x, M1)) (h2 : evE cf b sg M1 = some (y, M2)) (h3 : cmpP M2 o1 x y = some true) (h4 : evE cf c sg M2 = some (z, M3)) (h5 : cmpP M3 o2 y z = some k) : evE cf (.chn o1 o2 a b c) sg M = some (.bl k, M3) := by
  rw [evE, h]; simp only [h2, h3, h4, h5]; rfl
theorem e_chnF {cf : CF} {sg : Sg} {M M1 M2 : Mm} {a b c : E} {x y : PV} {o1 o2 : Co} (h : evE cf a sg M = some (x, M1)) (h2 : evE cf b sg M1 = some (y, M2)) (h3 : cmpP M2 o1 x y = some false) : evE cf (.chn o1 o2 a b c) sg M = some (.bl false, M2) := by
  rw [evE, h]; simp only [h2, h3]
theorem blsOf_map : ∀ bs : List Bool, blsOf (bs.map .bl) = some bs
  | [] => rfl
  | b :: bs => by simp [blsOf, blsOf_map bs]
/-- all of truths that are made one by one -/
theorem all_lc {cf : CF} {own : List Nat} {t : Tg} {it : It} {e : E} {sg : Sg} {M M1 : Mm} {s : Src} (n : Nat) (bv : Nat → Bool) (hI : evI cf it sg M = some (s, M1)) (hn : n < 10000) (F0 : Frm [] M M1)
    (turn : ∀ i N, i < n → Frm [] M1 N → ∃ x sg1 N', s.get N i = some (some x) ∧ tgP t x (wipeP sg own) = some sg1 ∧ evE cf e sg1 N = some (.bl (bv i), N') ∧ Frm [] N N')
    (stop : ∀ N, Frm [] M1 N → s.get N n = some none) :
    ∃ M', evE cf (.blt .all (.cons (.lc own t it (.con (.bl true)) e) .nil)) sg M = some (.bl ((List.range n).all bv), M') ∧ Frm [] M M' := by
  obtain ⟨M2, e1, c1, F1⟩ := lc_inv (src := s) (bind := tgP t) (c := fun sg M => evE cf (.con (.bl true)) sg M) (e := fun sg M => evE cf e sg M) (d := M1.length) (sg := wipeP sg own) (fun i N => N[M1.length]? = some (.lst (((List.range i).map bv).map .bl)) ∧ Frm [] M1 N) (n := n) (M := M1 ++ [Ob.lst []]) (by omega)
    ⟨by simp, .app⟩
    (by
      intro i N hi hI
      obtain ⟨c1, F1⟩ := hI
      obtain ⟨x, sg1, N', q1, q2, q3, q4⟩ := turn i N hi F1
      have c2 := q4.get c1 (by simp)
      refine ⟨x, sg1, q1, q2, .inl ⟨N, .bl (bv i), N', ((List.range i).map bv).map .bl, e_con, q3, by simp only [lstAt, c2], by simp; omega, ?_, (F1.trans q4).wr' (Nat.le_refl _)⟩⟩
      rw [List.getElem?_set_self (lt_of c2), List.range_succ]
      simp)
    (by intro N hI; exact stop N hI.2)
  refine ⟨M2, ?_, F0.trans F1⟩
  have hE : evE cf (.lc own t it (.con (.bl true)) e) sg M = some (.ref M1.length, M2) := by
    rw [evE, hI]
    simp only [e1]
    rfl
  refine e_blt (es_one hE) ?_
  simp only [bltP, lstAt, c1, Option.bind_some, blsOf_map, Option.map_some]
  simp [List.all_map]
/-- a for that goes on as long as its turns say; the first that says no hands back v -/
theorem forL_till {src : Src} {bind : PV → Sg → Option Sg} {body : Sg → Mm → Option (Fl × Mm)} (I : Nat → Sg → Mm → Prop) (R : Mm → Prop) (ok : Nat → Bool) (v : PV) {n : Nat}
    (turn : ∀ i sg M, i < n → I i sg M → ∃ x sg1, src.get M i = some (some x) ∧ bind x sg = some sg1 ∧ ((ok i = true ∧ ∃ sg2 M2, body sg1 M = some (.nx sg2, M2) ∧ I (i + 1) sg2 M2) ∨ (ok i = false ∧ ∃ M2, body sg1 M = some (.ret v, M2) ∧ R M2)))
    (stop : ∀ sg M, I n sg M → src.get M n = some none) : ∀ (m i : Nat) (sg : Sg) (M : Mm), n - i < m → i ≤ n → I i sg M →
      ((∀ j, i ≤ j → j < n → ok j = true) ∧ ∃ sg' M', forL src bind body m i sg M = some (.nx sg', M') ∧ I n sg' M') ∨ ((∃ j, i ≤ j ∧ j < n ∧ ok j = false) ∧ ∃ M', forL src bind body m i sg M = some (.ret v, M') ∧ R M')
  | 0, _, _, _, h, _, _ => by omega
  | m + 1, i, sg, M, h, hi, hI => by
    by_cases e : i = n
    · subst e
      exact .inl ⟨fun j h1 h2 => by omega, sg, M, by simp only [forL, stop sg M hI], hI⟩
    · obtain ⟨x, sg1, h1, h2, h3⟩ := turn i sg M (by omega) hI
      rcases h3 with ⟨k1, sg2, M2, k2, k3⟩ | ⟨k1, M2, k2, k3⟩
      · rcases forL_till I R ok v turn stop m (i + 1) sg2 M2 (by omega) (by omega) k3 with ⟨a1, sg', M', a2, a3⟩ | ⟨⟨j, a1, a2, a3⟩, M', a4, a5⟩
        · refine .inl ⟨fun j h4 h5 => ?_, sg', M', by simp only [forL, h1, h2, k2, a2], a3⟩
          by_cases hj : j = i
          · rw [hj]; exact k1
          · exact a1 j (by omega) h5
        · exact .inr ⟨⟨j, by omega, a2, a3⟩, M', by simp only [forL, h1, h2, k2, a4], a5⟩
      · exact .inr ⟨⟨i, Nat.le_refl _, by omega, k1⟩, M2, by simp only [forL, h1, h2, k2], k3⟩

/-! ### good values -/
def Gd (b : List Nat) : Nat → Mm → PV → Prop
  | 0 => fun _ _ => False
  | k + 1 => fun M x =>
    match x with
    | .non => True
    | .bl _ => True
    | .int _ => True
    | .str s => s.length < 1000 ∧ PyData.canLay0 (.str s) = true
    | .tup xs => xs.length < 50 ∧ ∀ x ∈ xs, Gd b k M x
    | .ref n => n ∉ b ∧ ∃ xs, M[n]? = some (.lst xs) ∧ xs.length < 50 ∧ ∀ x ∈ xs, Gd b k M x
    | _ => False
theorem Gd.frm {b : List Nat} {M M' : Mm} (a : Frm b M M') : ∀ {k : Nat} {x : PV}, Gd b k M x → Gd b k M' x
  | 0, _, h => h.elim
  | k + 1, x, h => by
    cases x with
    | tup xs => exact ⟨h.1, fun x hx => (h.2 x hx).frm a⟩
    | ref n =>
      obtain ⟨h1, xs, h2, h3, h4⟩ := h
      exact ⟨h1, xs, a.get h2 h1, h3, fun x hx => (h4 x hx).frm a⟩
    | cl _ => exact h.elim
    | fn _ _ => exact h.elim
    | _ => exact h
theorem Gd.up {b : List Nat} {k : Nat} {M : Mm} : ∀ {x : PV}, Gd b k M x → Gd b (k + 1) M x := by
  induction k with
  | zero => intro x h; exact h.elim
  | succ k ih =>
    intro x h
    cases x with
    | tup xs => exact ⟨h.1, fun x hx => ih (h.2 x hx)⟩
    | ref n =>
      obtain ⟨h1, xs, h2, h3, h4⟩ := h
      exact ⟨h1, xs, h2, h3, fun x hx => ih (h4 x hx)⟩
    | cl _ => exact h.elim
    | fn _ _ => exact h.elim
    | _ => exact h
theorem Gd.le {b : List Nat} {k j : Nat} {M : Mm} {x : PV} (h : Gd b k M x) (hj : k ≤ j) : Gd b j M x := by
  induction hj with
  | refl => exact h
  | step _ ih => exact ih.up
theorem Gd.nins {b : List Nat} {k : Nat} {M : Mm} {x : PV} (h : Gd b k M x) : insP M x = false := by
  cases k with
  | zero => exact h.elim
  | succ k =>
    cases x with
    | ref n =>
      obtain ⟨h1, xs, h2, h3, h4⟩ := h
      simp [h2]
    | fn _ _ => exact h.elim
    | _ => rfl
/-- a good value reads as data -/
theorem Gd.rd {b : List Nat} {M : Mm} : ∀ {k : Nat} {x : PV}, Gd b k M x → ∃ d, Rd (k + 1) M x d
  | 0, _, h => h.elim
  | k + 1, x, h => by
    cases x with
    | non => exact ⟨_, Rd.flat (x := .non) trivial⟩
    | bl v => exact ⟨_, Rd.flat (x := .bl v) trivial⟩
    | int v => exact ⟨_, Rd.flat (x := .int v) trivial⟩
    | str s => exact ⟨_, Rd.flat (x := .str s) h.2⟩
    | tup xs =>
      refine ⟨_, Rd.tup (g := fun x => (toD (k + 1) M x).getD .none) (fun x hx => ?_) (by omega)⟩
      obtain ⟨d, hd⟩ := (h.2 x hx).rd
      rw [hd.to]; exact hd
    | ref n =>
      obtain ⟨h1, xs, h2, h3, h4⟩ := h
      refine ⟨_, Rd.lst (g := fun x => (toD (k + 1) M x).getD .none) h2 (fun x hx => ?_) (by omega)⟩
      obtain ⟨d, hd⟩ := (h4 x hx).rd
      rw [hd.to]; exact hd
    | cl _ => exact h.elim
    | fn _ _ => exact h.elim
/-- is it the empty tuple -/
theorem eq_unit {b : List Nat} {k : Nat} {M : Mm} {xs : List PV} (h : Gd b k M (.tup xs)) (hk : k < 18) : eqP M (.tup xs) (.tup []) = some xs.isEmpty := by
  obtain ⟨d, hd⟩ := h.rd
  have a := hd.shaped (by omega)
  have c : Rd 2 M (.tup []) (.tuple []) := Rd.tup (k := 1) (g := fd) (by simp) (by omega)
  have e := c.shaped (by omega)
  simp only [eqP, eqS, a.1, e.1, a.2, e.2]
  have hdt : ∃ ds, d = .tuple ds ∧ ds.length = xs.length := by
    have := hd.to
    simp only [toD] at this
    obtain ⟨ds, q1, q2⟩ := Option.map_eq_some_iff.mp this
    refine ⟨ds, q2.symm, ?_⟩
    clear q2 this a e hd h
    induction xs generalizing ds with
    | nil => simp at q1; subst q1; rfl
    | cons x xs ih =>
      rw [List.mapM_cons] at q1
      obtain ⟨d1, _, q3⟩ := Option.bind_eq_some_iff.mp q1
      obtain ⟨es, q4, q5⟩ := Option.bind_eq_some_iff.mp q3
      cases q5
      simp [ih es q4]
  obtain ⟨ds, rfl, hl⟩ := hdt
  cases xs with
  | nil => cases ds with
    | nil => simp [PyData.eqv, PyData.eqvAll]
    | cons _ _ => simp at hl
  | cons x xs => cases ds with
    | nil => simp at hl
    | cons _ _ => simp [PyData.eqv, PyData.eqvAll]
end Mp

/-! Mk2: is_number, is_count, is_key; is_plain, is_name; what they tell. -/
namespace Mp
open PySem L2

def abc26 : Str := "abcdefghijklmnopqrstuvwxyz"
def letB (c : Nat) : Bool := decide (c ∈ abc26.cps.toList)
def numB : PV → Bool
  | .int _ => true | _ => false
def cntB : PV → Bool
  | .int i => decide (0 ≤ i) | _ => false
def keyB : PV → Bool
  | .str s => decide (0 < s.length) && decide (s.length < 9) && s.cps.toList.all letB
  | _ => false
/-- a def of one argument that tells the truth f -/
def Tells (cf : CF) (n : Nat) (b : List Nat) (k : Nat) (f : PV → Bool) : Prop := ∀ (M : Mm) (x : PV), Gd b k M x → ∃ M', cf n [x] M = some (.bl (f x), M') ∧ Frm [] M M'
theorem num_ok {cf : CF} {b : List Nat} {k : Nat} {M : Mm} {x : PV} (h : Gd b k M x) : runD cf ir_is_number [x] M = some (.bl (numB x), M) := by
  cases k with
  | zero => exact h.elim
  | succ k =>
    cases x with
    | ref n =>
      obtain ⟨_, xs, h2, _⟩ := h
      simp [runD, ir_is_number, evSs, evS, evE, isTy, tyOf, h2, numB]
    | cl _ => exact h.elim
    | fn _ _ => exact h.elim
    | _ => simp [runD, ir_is_number, evSs, evS, evE, isTy, tyOf, numB]
theorem t_num (j : Nat) (b : List Nat) (k : Nat) : Tells (cfN tab (j + 1)) i_is_number b k numB := fun M x h => ⟨M, num_ok (cf := cfN tab j) h, .refl⟩
theorem cnt_ok {cf : CF} {b : List Nat} {k : Nat} (N : Tells cf i_is_number b k numB) {M : Mm} {x : PV} (h : Gd b k M x) : ∃ M', runD cf ir_is_count [x] M = some (.bl (cntB x), M') ∧ Frm [] M M' := by
  obtain ⟨M', e, F⟩ := N M x h
  refine ⟨M', ?_, F⟩
  cases x with
  | int i => simp only [numB] at e; simp [runD, ir_is_count, evSs, evS, evE, evEs, e, cmpP, cntB]
  | _ => simp only [numB] at e; simp [runD, ir_is_count, evSs, evS, evE, evEs, e, cntB]
theorem t_cnt (j : Nat) (b : List Nat) (k : Nat) : Tells (cfN tab (j + 2)) i_is_count b k cntB := fun M x h => cnt_ok (t_num j b k) h
theorem range_all {α : Type} (l : List α) (f : α → Bool) (g : Nat → Bool) (h : ∀ i (hi : i < l.length), g i = f l[i]) : (List.range l.length).all g = l.all f := by
  apply Bool.eq_iff_iff.mpr
  rw [List.all_eq_true, List.all_eq_true]
  constructor
  · intro q x hx
    obtain ⟨i, hi, rfl⟩ := List.mem_iff_getElem.mp hx
    rw [← h i hi]; exact q i (by simpa using hi)
  · intro q i hi
    have hi' : i < l.length := by simpa using hi
    rw [h i hi']; exact q _ (List.getElem_mem hi')
theorem key_ok {cf : CF} {b : List Nat} {k : Nat} {M : Mm} {x : PV} (h : Gd b k M x) : ∃ M', runD cf ir_is_key [x] M = some (.bl (keyB x), M') ∧ Frm [] M M' := by
  cases k with
  | zero => exact h.elim
  | succ k =>
    cases x with
    | str s =>
      have hsl : s.length ≤ 16777216 := by have := h.1; omega
      have hlen : bltP M .len [.str s] = some (.int s.length, M) := by
        simp only [bltP]; rw [if_pos (show s.length ≤ sizeLine by have : sizeLine = 16777216 := rfl; omega)]
      have hiso : evE cf (.isi (.var 0) [.str]) [some (.str s), none] M = some (.bl true, M) := e_isi (e_var rfl) (by simp [isTy, tyOf]) rfl
      have hL : evE cf (.blt .len (.cons (.var 0) .nil)) [some (.str s), none] M = some (.int s.length, M) := e_blt (es_one (e_var rfl)) hlen
      by_cases h1 : 0 < s.length ∧ s.length < 9
      · have hch : evE cf (.chn .lt .lt (.con (.int 0)) (.blt .len (.cons (.var 0) .nil)) (.con (.int 9))) [some (.str s), none] M = some (.bl true, M) := by
          exact e_chnT e_con hL (congrArg some (decide_eq_true (by omega))) e_con (congrArg some (decide_eq_true (by omega)))
        have hI : evI cf (.seq (.var 0)) [some (.str s), none] M = some (.str s, M) := by rw [evI, e_var (v := .str s) rfl]; rfl
        obtain ⟨M', e, F⟩ := all_lc (cf := cf) (own := [1]) (t := .name 1) (e := e1_is_key) (sg := [some (.str s), none]) s.cps.size (fun i => letB (s.cps.toList.getD i 0)) hI (by have : s.cps.size = s.length := rfl; omega) .refl
          (by
            intro i N hi _
            refine ⟨.str ⟨#[s.cps[i]]⟩, [some (.str s), some (.str ⟨#[s.cps[i]]⟩)], N, by simp [Src.get, hi], rfl, ?_, .refl⟩
            have hg : s.cps.toList.getD i 0 = s.cps[i] := by simp [hi]
            unfold e1_is_key
            refine e_cmp (e_var rfl) e_con ?_
            simp only [cmpP, isIn, sgn, Option.map_some, hg]
            rfl)
          (by intro N _; simp [Src.get])
        have hall : (List.range s.cps.size).all (fun i => letB (s.cps.toList.getD i 0)) = s.cps.toList.all letB := by
          have := range_all s.cps.toList letB (fun i => letB (s.cps.toList.getD i 0)) (fun i hi => by rw [List.getD_eq_getElem?_getD, List.getElem?_eq_getElem hi]; rfl)
          simpa using this
        rw [hall] at e
        refine ⟨M', ?_, F⟩
        have hk : keyB (.str s) = s.cps.toList.all letB := by
          show (decide (0 < s.length) && decide (s.length < 9) && s.cps.toList.all letB) = _
          rw [decide_eq_true h1.1, decide_eq_true h1.2]
          rfl
        rw [hk]
        exact run_ret rfl (ss_ret (e_andT hiso (e_andT hch e)))
      · have hch : evE cf (.chn .lt .lt (.con (.int 0)) (.blt .len (.cons (.var 0) .nil)) (.con (.int 9))) [some (.str s), none] M = some (.bl false, M) := by
          by_cases a1 : (0 : Int) < (s.length : Int)
          · exact e_chnT e_con hL (congrArg some (decide_eq_true a1)) e_con (congrArg some (decide_eq_false (by omega)))
          · exact e_chnF e_con hL (congrArg some (decide_eq_false a1))
        refine ⟨M, ?_, .refl⟩
        have hk : keyB (.str s) = false := by
          simp only [keyB]
          by_cases a1 : 0 < s.length
          · have a2 : ¬ s.length < 9 := fun q => h1 ⟨a1, q⟩
            simp [a2]
          · simp [a1]
        rw [hk]
        exact run_ret rfl (ss_ret (e_andT hiso (e_andF hch)))
    | ref n =>
      obtain ⟨_, xs, h2, _⟩ := h
      exact ⟨M, run_ret rfl (ss_ret (e_andF (e_isi (k := false) (e_var rfl) (by simp [isTy, tyOf, h2]) (by simp [h2])))), .refl⟩
    | cl _ => exact h.elim
    | fn _ _ => exact h.elim
    | _ => exact ⟨M, run_ret rfl (ss_ret (e_andF (e_isi (k := false) (e_var rfl) (by simp [isTy, tyOf]) rfl))), .refl⟩
theorem t_key (j : Nat) (b : List Nat) (k : Nat) : Tells (cfN tab (j + 1)) i_is_key b k keyB := fun M x h => key_ok (cf := cfN tab j) h
end Mp

/-! Ms: same, box. -/
namespace Mp
open PySem L2

/-! ### same -/
def Pt (R : PV → PV → Prop) (xs ys : List PV) : Prop := xs.length < 1000 ∧ xs.length = ys.length ∧ ∀ (i : Nat) (x y : PV), xs[i]? = some x → ys[i]? = some y → R x y
def Sm : Nat → Mm → PV → PV → Prop
  | 0 => fun _ _ _ => False
  | k + 1 => fun M x y =>
    match x, y with
    | .tup xs, .tup ys => Pt (Sm k M) xs ys
    | .ref n, .ref m => ∃ xs ys, M[n]? = some (.lst xs) ∧ M[m]? = some (.lst ys) ∧ Pt (Sm k M) xs ys
    | .non, .non => True
    | .bl a, .bl b => a = b
    | .int a, .int b => a = b
    | .str a, .str b => a = b
    | _, _ => False
theorem Sm.frm {M M' : Mm} (a : Frm [] M M') : ∀ {k : Nat} {x y : PV}, Sm k M x y → Sm k M' x y
  | 0, _, _, h => h.elim
  | k + 1, x, y, h => by
    cases x <;> cases y <;> first | exact h.elim | exact h | skip
    · exact ⟨h.1, h.2.1, fun i x y h1 h2 => (h.2.2 i x y h1 h2).frm a⟩
    · obtain ⟨xs, ys, h1, h2, h3, h4, h5⟩ := h
      exact ⟨xs, ys, a.get h1 (by simp), a.get h2 (by simp), h3, h4, fun i x y h1 h2 => (h5 i x y h1 h2).frm a⟩
theorem blsOf_rep : ∀ n : Nat, blsOf (List.replicate n (.bl true)) = some (List.replicate n true)
  | 0 => rfl
  | n + 1 => by simp [List.replicate_succ, blsOf, blsOf_rep n]
def HS (cf : CF) (k : Nat) : Prop := ∀ (M : Mm) (x y : PV), Sm k M x y → ∃ M', cf i_l_same [x, y] M = some (.bl true, M') ∧ Frm [] M M'
theorem same_all {cf : CF} {k : Nat} (H : HS cf k) {M : Mm} {x y : PV} {s t : Src} {xs ys : List PV} (hx : srcOf M x = some s) (hy : srcOf M y = some t) (hz : (s.isL && t.isL || s.isT && t.isT) = true)
    (gx : ∀ M', Frm [] M M' → ∀ i, s.get M' i = some xs[i]?) (gy : ∀ M', Frm [] M M' → ∀ i, t.get M' i = some ys[i]?) (hl : xs.length < 1000) (he : xs.length = ys.length) (h : ∀ (i : Nat) (x y : PV), xs[i]? = some x → ys[i]? = some y → Sm k M x y) :
    ∃ M', evE cf (.blt .all (.cons (.lc [2, 3] (.tup [2, 3]) (.zip (.var 0) (.var 1)) (.con (.bl true)) e1_l_same) .nil)) [some x, some y, none, none] M = some (.bl true, M') ∧ Frm [] M M' := by
  obtain ⟨M1, e1, c1, F1⟩ := lc_inv (src := .zip s t) (bind := tgP (.tup [2, 3])) (c := fun sg M => evE cf (.con (.bl true)) sg M) (e := fun sg M => evE cf e1_l_same sg M) (d := M.length) (sg := [some x, some y, none, none]) (fun i N => N[M.length]? = some (.lst (List.replicate i (.bl true))) ∧ Frm [] M N) (n := xs.length) (M := M ++ [Ob.lst []]) (by omega)
    ⟨by simp, .app⟩
    (by
      intro i N hi hI
      obtain ⟨c1, F1⟩ := hI
      have hi2 : i < ys.length := by omega
      have a1 := gx N F1 i
      have a2 := gy N F1 i
      rw [List.getElem?_eq_getElem hi] at a1
      rw [List.getElem?_eq_getElem hi2] at a2
      have sm := h i xs[i] ys[i] (List.getElem?_eq_getElem hi) (List.getElem?_eq_getElem hi2)
      obtain ⟨N1, e2, F2⟩ := H N _ _ (sm.frm F1)
      refine ⟨.tup [xs[i], ys[i]], [some x, some y, some xs[i], some ys[i]], by simp [Src.get, a1, a2], rfl, .inl ⟨N, .bl true, N1, List.replicate i (.bl true), by simp [evE], ?_, by simp [lstAt, F2.get c1 (by simp)], by simp; omega, ?_, ?_⟩⟩
      · simp [e1_l_same, evE, evEs, e2]
      · have := lt_of (F2.get c1 (by simp))
        simp [this, List.replicate_succ']
      · exact (F1.trans F2).wr (Nat.le_refl _))
    (by
      intro N hI
      obtain ⟨c1, F1⟩ := hI
      have a1 := gx N F1 xs.length
      have a2 := gy N F1 xs.length
      rw [he] at a2
      simp at a1 a2
      rw [he] at a1 ⊢
      simp [Src.get, a1, a2])
  refine ⟨M1, ?_, F1⟩
  have hI : evI cf (.zip (.var 0) (.var 1)) [some x, some y, none, none] M = some (.zip s t, M) := by
    simp only [evI, evE, List.getElem?_cons_zero, List.getElem?_cons_succ, hx, hy]
    rw [if_pos hz]
  have hE : evE cf (.lc [2, 3] (.tup [2, 3]) (.zip (.var 0) (.var 1)) (.con (.bl true)) e1_l_same) [some x, some y, none, none] M = some (.ref M.length, M1) := by
    rw [evE, hI]
    have hwp : wipeP [some x, some y, none, none] [2, 3] = [some x, some y, none, none] := rfl
    simp only [hwp, e1]; rfl
  generalize E.lc [2, 3] (.tup [2, 3]) (.zip (.var 0) (.var 1)) (.con (.bl true)) e1_l_same = q at hE
  simp [evE, evEs, hE, bltP, lstAt, c1, blsOf_rep]
theorem same_ok {cf : CF} {k : Nat} (H : HS cf k) {M : Mm} {x y : PV} (h : Sm (k + 1) M x y) : ∃ M', runD cf ir_l_same [x, y] M = some (.bl true, M') ∧ Frm [] M M' := by
  cases x with
  | tup xs =>
    cases y with
    | tup ys =>
      obtain ⟨h1, h2, h3⟩ := h
      obtain ⟨M', e, F⟩ := same_all H (M := M) (x := .tup xs) (y := .tup ys) (s := .tup xs) (t := .tup ys) rfl rfl rfl (fun _ _ _ => rfl) (fun _ _ _ => rfl) h1 h2 h3
      refine ⟨M', ?_, F⟩
      generalize hq : E.blt .all (.cons (.lc [2, 3] (.tup [2, 3]) (.zip (.var 0) (.var 1)) (.con (.bl true)) e1_l_same) .nil) = q at e
      simp [runD, ir_l_same, hq, evSs, evS, evE, evEs, isTy, tyOf, cmpP, bltP, h2, e]
    | _ => exact h.elim
  | ref n =>
    cases y with
    | ref m =>
      obtain ⟨xs, ys, q1, q2, h1, h2, h3⟩ := h
      obtain ⟨M', e, F⟩ := same_all H (M := M) (x := .ref n) (y := .ref m) (s := .lst n) (t := .lst m) (by simp [srcOf, lstAt, q1]) (by simp [srcOf, lstAt, q2]) rfl (fun N a i => by simp [Src.get, lstAt, a.get q1 (by simp)]) (fun N a i => by simp [Src.get, lstAt, a.get q2 (by simp)]) h1 h2 h3
      refine ⟨M', ?_, F⟩
      generalize hq : E.blt .all (.cons (.lc [2, 3] (.tup [2, 3]) (.zip (.var 0) (.var 1)) (.con (.bl true)) e1_l_same) .nil) = q at e
      simp [runD, ir_l_same, hq, evSs, evS, evE, evEs, isTy, tyOf, q1, q2, cmpP, bltP, h2, e]
    | _ => exact h.elim
  | non => cases y <;> first | exact h.elim | exact ⟨M, by simp [runD, ir_l_same, evSs, evS, evE, evEs, isTy, tyOf, cmpP, eqP, eqS], .refl⟩
  | bl b => cases y <;> first | exact h.elim | (cases (show b = _ from h); exact ⟨M, by simp [runD, ir_l_same, evSs, evS, evE, evEs, isTy, tyOf, cmpP, eqP, eqS], .refl⟩)
  | int b => cases y <;> first | exact h.elim | (cases (show b = _ from h); exact ⟨M, by simp [runD, ir_l_same, evSs, evS, evE, evEs, isTy, tyOf, cmpP, eqP, eqS], .refl⟩)
  | str b => cases y <;> first | exact h.elim | (cases (show b = _ from h); exact ⟨M, by simp [runD, ir_l_same, evSs, evS, evE, evEs, isTy, tyOf, cmpP, eqP, eqS], .refl⟩)
  | cl _ => cases y <;> exact h.elim
  | fn _ _ => cases y <;> exact h.elim
theorem hs (j : Nat) : ∀ k, HS (cfN tab (j + k)) k
  | 0 => fun _ _ _ h => h.elim
  | k + 1 => fun _ _ _ h => same_ok (hs j k) h
theorem Sm.lst {k : Nat} {M : Mm} {n m : Nat} {xs : List PV} (h1 : M[n]? = some (.lst xs)) (h2 : M[m]? = some (.lst xs)) (hl : xs.length < 1000) (h : ∀ x ∈ xs, Sm k M x x) : Sm (k + 1) M (.ref n) (.ref m) :=
  ⟨xs, xs, h1, h2, hl, rfl, fun i x y a b => by rw [a] at b; cases b; exact h x (List.mem_of_getElem? a)⟩
theorem Sm.tup {k : Nat} {M : Mm} {xs : List PV} (hl : xs.length < 1000) (h : ∀ x ∈ xs, Sm k M x x) : Sm (k + 1) M (.tup xs) (.tup xs) :=
  ⟨hl, rfl, fun i x y a b => by rw [a] at b; cases b; exact h x (List.mem_of_getElem? a)⟩
theorem Sm.flat {k : Nat} {M : Mm} {x : PV} (h : flatP x = true) : Sm (k + 1) M x x := by
  cases x <;> simp [flatP] at h <;> simp [Sm]
/-! ### the box -/
def HBx (cf : CF) : Prop := ∀ (M : Mm) (ns : List Int) (k : Nat), k ≤ 2 → ∃ M', cf i_l_box [.cl ns, .int k] M = some (.ref M.length, M') ∧ Bx M' M.length 0 ∧ Frm [] M M'
theorem box_ok (cf : CF) {M : Mm} {ns : List Int} {k : Nat} (hk : k ≤ 2) : ∃ M', runD cf ir_l_box [.cl ns, .int k] M = some (.ref M.length, M') ∧ Bx M' M.length 0 ∧ Frm [] M M' := by
  have key : ∀ c : Int, (∀ sg : Sg, sg[0]? = some (some (.cl ns)) → sg[1]? = some (some (.int k)) → evE cf (.ite (.cmp .lt (.var 1) (.blt .len (.cons (.var 0) .nil))) (.idx (.var 0) (.var 1)) (.con (.int 0))) sg M = some (.int c, M)) → ∃ M', runD cf ir_l_box [.cl ns, .int k] M = some (.ref M.length, M') ∧ Bx M' M.length 0 ∧ Frm [] M M' := by
    intro c hc
    have hc' := hc [some (.cl ns), some (.int k), none, none] rfl rfl
    generalize hq : E.ite (.cmp .lt (.var 1) (.blt .len (.cons (.var 0) .nil))) (.idx (.var 0) (.var 1)) (.con (.int 0)) = q at hc'
    let s : Int := (c % 2305843009213693921 + 43867 * k + 71) * 40129 % 2147483563
    let a : Int := if c < 0 then -c else c
    have ha : 0 ≤ a := by show 0 ≤ (if c < 0 then -c else c); split <;> omega
    have hp : (10 : Int) ^ 18 = 1000000000000000000 := by decide
    let d : Int := a * (if 1000000000000000000 ≤ a then 1 else 0)
    have m1 : mulOk 43867 k = true := by simp [mulOk]
    have m2 : ∀ x, mulOk x 40129 = true := fun x => by simp [mulOk]
    have m3 : ∀ (x : Int) (P : Prop) [Decidable P], mulOk x (if P then 1 else 0) = true := fun x P _ => by by_cases hP : P <;> simp [mulOk, hP]
    refine ⟨M ++ [Ob.lst [.int d, .int s, .int 0]], ?_, ⟨d, s, 0, get_last, ?_, Int.emod_nonneg _ (by decide), Int.emod_lt_of_pos _ (by decide), by decide, by decide⟩, .app⟩
    · have hb : ∀ b : Bool, (if b then (1 : Int) else 0) = if b = true then 1 else 0 := fun b => rfl
      simp [runD, ir_l_box, hq, evSs, evS, evE, evEs, tgP, hc', bltP, bopP, cmpP, m1, m2, m3, sizeLine, s, d, a]
    · show 0 ≤ a * (if 1000000000000000000 ≤ a then 1 else 0)
      split <;> omega
  by_cases hlt : k < ns.length
  · refine key ns[k] fun sg h0 h1 => ?_
    have hat : atI ns k = some ns[k] := by simp [atI, ixN, hlt]
    have : (k : Int) < ns.length := by omega
    simp [evE, evEs, h0, h1, bltP, cmpP, this, idxP, hat]
  · refine key 0 fun sg h0 h1 => ?_
    have : ¬ (k : Int) < ns.length := by omega
    simp [evE, evEs, h0, h1, bltP, cmpP, hlt]
theorem hbx (j : Nat) : HBx (cfN tab (j + 1)) := fun M ns k h => box_ok (cfN tab j) h
end Mp

/-! Mk3 (k66): is_row, is_read, is_view; what they tell. -/
namespace Mp
open PySem L2

def tupB : PV → Bool
  | .tup _ => true | _ => false
def nonB : PV → Bool
  | .non => true | _ => false
def rowB : PV → Bool
  | .tup [a, b, c] => cntB a && (keyB b && (nonB c || numB c))
  | _ => false
theorem isi_tup {cf : CF} {b : List Nat} {k : Nat} {sg : Sg} {M M1 : Mm} {a : E} {x : PV} (h : Gd b k M1 x) (he : evE cf a sg M = some (x, M1)) : evE cf (.isi a [.tuple]) sg M = some (.bl (tupB x), M1) := by
  refine e_isi he ?_ h.nins
  cases k with
  | zero => exact h.elim
  | succ k =>
    cases x with
    | ref n => obtain ⟨_, xs, h2, _⟩ := h; simp [isTy, tyOf, h2, tupB]
    | cl _ => exact h.elim
    | fn _ _ => exact h.elim
    | _ => simp [isTy, tyOf, tupB]
theorem len_ne {cf : CF} {sg : Sg} {M M1 : Mm} {a : E} {xs : List PV} {n : Nat} (he : evE cf a sg M = some (.tup xs, M1)) : evE cf (.cmp .ne (.blt .len (.cons a .nil)) (.con (.int n))) sg M = some (.bl (!decide (xs.length = n)), M1) := by
  refine e_cmp (e_blt (es_one he) (show bltP M1 .len [.tup xs] = some (.int xs.length, M1) by simp [bltP])) e_con ?_
  simp only [cmpP, eqP_int, Option.map_some]
  congr 2
  exact decide_eq_decide.mpr (by omega)
theorem ix_ {cf : CF} {sg : Sg} {M M1 : Mm} {a : E} {xs : List PV} {y : PV} {i : Int} (he : evE cf a sg M = some (.tup xs, M1)) (h : atI xs i = some y) : evE cf (.idx a (.con (.int i))) sg M = some (y, M1) := e_idx he e_con h
theorem row_ok {cf : CF} {b : List Nat} {k : Nat} (N : Tells cf i_is_number b k numB) (Ct : Tells cf i_is_count b k cntB) (Ky : Tells cf i_is_key b k keyB) {M : Mm} {x : PV} (h : Gd b (k + 1) M x) :
    ∃ M', runD cf ir_is_row [x] M = some (.bl (rowB x), M') ∧ Frm [] M M' := by
  have hv : evE cf (.var 0) [some x] M = some (x, M) := e_var rfl
  have hi := isi_tup (cf := cf) h hv
  by_cases ht : ∃ xs, x = .tup xs
  · obtain ⟨xs, rfl⟩ := ht
    have hl := len_ne (n := 3) hv
    by_cases h3 : xs.length = 3
    · match xs, h3 with
      | [a, c, d], _ =>
        have ga : Gd b k M a := h.2 a (by simp)
        have gc : Gd b k M c := h.2 c (by simp)
        have gd : Gd b k M d := h.2 d (by simp)
        obtain ⟨M1, e1, F1⟩ := Ct M a ga
        have hv1 : evE cf (.var 0) [some (.tup [a, c, d])] M1 = some (.tup [a, c, d], M1) := e_var rfl
        have ea : evE cf (.call i_is_count (.cons (.idx (.var 0) (.con (.int 0))) .nil)) [some (.tup [a, c, d])] M = some (.bl (cntB a), M1) := e_call (es_one (ix_ hv at0)) e1
        cases hc : cntB a with
        | false =>
          rw [hc] at ea
          refine ⟨M1, ?_, F1⟩
          have : rowB (.tup [a, c, d]) = false := by simp [rowB, hc]
          rw [this]
          exact run_ret rfl (ss_if (s_ifT (e_orF (e_not (k := true) hi) (e_orF hl (e_not (k := false) ea))) (ss_ret e_con)))
        | true =>
          rw [hc] at ea
          obtain ⟨M2, e2, F2⟩ := Ky M1 c (gc.frm (F1.mono (by simp)))
          have hv2 : evE cf (.var 0) [some (.tup [a, c, d])] M2 = some (.tup [a, c, d], M2) := e_var rfl
          have ec : evE cf (.call i_is_key (.cons (.idx (.var 0) (.con (.int 1))) .nil)) [some (.tup [a, c, d])] M1 = some (.bl (keyB c), M2) := e_call (es_one (ix_ hv1 at1)) e2
          have fin : ∀ {v : Bool} {M' : Mm}, evE cf (.and (.call i_is_key (.cons (.idx (.var 0) (.con (.int 1))) .nil)) (.or (.cmp .isN (.idx (.var 0) (.con (.int 2))) (.con .non)) (.call i_is_number (.cons (.idx (.var 0) (.con (.int 2))) .nil)))) [some (.tup [a, c, d])] M1 = some (.bl v, M') → runD cf ir_is_row [.tup [a, c, d]] M = some (.bl v, M') := fun q =>
            run_ret rfl (ss_cons (s_ifF (e_orF (e_not (k := true) hi) (e_orF hl (e_not (k := true) ea))) ss_nil) (ss_ret q))
          cases hk : keyB c with
          | false =>
            rw [hk] at ec
            refine ⟨M2, ?_, F1.trans F2⟩
            have : rowB (.tup [a, c, d]) = false := by simp [rowB, hk]
            rw [this]
            exact fin (e_andF ec)
          | true =>
            rw [hk] at ec
            have en : evE cf (.cmp .isN (.idx (.var 0) (.con (.int 2))) (.con .non)) [some (.tup [a, c, d])] M2 = some (.bl (nonB d), M2) := e_cmp (ix_ hv2 at2) e_con (by cases d <;> rfl)
            cases hd : nonB d with
            | true =>
              rw [hd] at en
              refine ⟨M2, ?_, F1.trans F2⟩
              have : rowB (.tup [a, c, d]) = true := by simp [rowB, hc, hk, hd]
              rw [this]
              exact fin (e_andT ec (e_orT en))
            | false =>
              rw [hd] at en
              obtain ⟨M3, e3, F3⟩ := N M2 d (gd.frm ((F1.trans F2).mono (by simp)))
              refine ⟨M3, ?_, (F1.trans F2).trans F3⟩
              have : rowB (.tup [a, c, d]) = numB d := by simp [rowB, hc, hk, hd]
              rw [this]
              exact fin (e_andT ec (e_orF en (e_call (es_one (ix_ hv2 at2)) e3)))
    · refine ⟨M, ?_, .refl⟩
      have : rowB (.tup xs) = false := by
        match xs, h3 with
        | [], _ => rfl
        | [_], _ => rfl
        | [_, _], _ => rfl
        | [_, _, _], q => exact absurd rfl q
        | _ :: _ :: _ :: _ :: _, _ => rfl
      rw [this]
      rw [decide_eq_false h3] at hl
      exact run_ret rfl (ss_if (s_ifT (e_orF (e_not (k := true) hi) (e_orT hl)) (ss_ret e_con)))
  · refine ⟨M, ?_, .refl⟩
    have h1 : tupB x = false := by
      cases x <;> first | rfl | exact absurd ⟨_, rfl⟩ ht
    have h2 : rowB x = false := by
      cases x <;> first | rfl | exact absurd ⟨_, rfl⟩ ht
    rw [h1] at hi
    rw [h2]
    exact run_ret rfl (ss_if (s_ifT (e_orT (e_not (k := false) hi)) (ss_ret e_con)))
theorem t_row (j : Nat) (b : List Nat) (k : Nat) : Tells (cfN tab (j + 3)) i_is_row b (k + 1) rowB := fun M x h => row_ok (t_num (j + 1) b k) (t_cnt j b k) (t_key (j + 1) b k) h
end Mp

/-! Mk4 (k66): is_read. -/
namespace Mp
open PySem L2

/-- a comprehension over a tuple, pure -/
theorem lc_tup {cf : CF} {own : List Nat} {t : Tg} {it : It} {c e : E} {sg : Sg} {M M1 : Mm} (xs : List PV) (p : PV → Bool) (g : PV → PV) (hI : evI cf it sg M = some (.tup xs, M1)) (hn : xs.length < 10000)
    (turn : ∀ x ∈ xs, ∀ N, ∃ sg1, tgP t x (wipeP sg own) = some sg1 ∧ evE cf c sg1 N = some (.bl (p x), N) ∧ (p x = true → evE cf e sg1 N = some (g x, N))) :
    evE cf (.lc own t it c e) sg M = some (.ref M1.length, M1 ++ [Ob.lst ((xs.filter p).map g)]) := by
  obtain ⟨M', h1, h2⟩ := lc_inv (src := .tup xs) (bind := tgP t) (c := fun sg M => evE cf c sg M) (e := fun sg M => evE cf e sg M) (d := M1.length) (sg := wipeP sg own) (fun i N => N = M1 ++ [Ob.lst (((xs.take i).filter p).map g)]) (n := xs.length) (M := M1 ++ [Ob.lst []]) (by omega) (by simp)
    (by
      intro i N hi hN
      subst hN
      obtain ⟨sg1, q1, q2, q3⟩ := turn xs[i] (List.getElem_mem hi) (M1 ++ [Ob.lst (((xs.take i).filter p).map g)])
      refine ⟨xs[i], sg1, by simp only [Src.get]; rw [List.getElem?_eq_getElem hi], q1, ?_⟩
      have hsp : xs.take (i + 1) = xs.take i ++ [xs[i]] := by rw [List.take_succ_eq_append_getElem hi]
      cases hp : p xs[i] with
      | true =>
        rw [hp] at q2
        refine .inl ⟨_, _, _, ((xs.take i).filter p).map g, q2, q3 hp, by simp [lstAt], ?_, ?_⟩
        · have := List.length_filter_le p (xs.take i)
          have h2 : (xs.take i).length ≤ i := by simp; omega
          simp; omega
        · rw [hsp, List.filter_append, List.map_append]; simp [hp]
      | false =>
        rw [hp] at q2
        refine .inr ⟨_, q2, ?_⟩
        rw [hsp, List.filter_append, List.map_append]; simp [hp])
    (by intro N hN; simp [Src.get])
  rw [List.take_length] at h2
  subst h2
  rw [evE, hI]
  simp only [h1]
  rfl
theorem filter_all {α : Type} (xs : List α) : xs.filter (fun _ => true) = xs := List.filter_eq_self.mpr (by simp)
theorem intsOf_int : ∀ ns : List Int, intsOf (ns.map PV.int) = some ns
  | [] => rfl
  | n :: ns => by simp [intsOf, intsOf_int ns]
theorem eqv_ints : ∀ ns ms : List Int, PyData.eqvAll (ns.map PyData.int) (ms.map PyData.int) = decide (ns = ms)
  | [], [] => by simp [PyData.eqvAll]
  | [], _ :: _ => by simp [PyData.eqvAll]
  | _ :: _, [] => by simp [PyData.eqvAll]
  | n :: ns, m :: ms => by
    rw [List.map_cons, List.map_cons, PyData.eqvAll, eqv_ints ns ms]
    have : PyData.eqv (.int n) (.int m) = decide (n = m) := by simp [PyData.eqv]; rfl
    rw [this]
    by_cases h1 : n = m <;> by_cases h2 : ns = ms <;> simp [h1, h2]
theorem eqP_ints {M : Mm} {a c : Nat} {ns ms : List Int} (h1 : M[a]? = some (.lst (ns.map .int))) (h2 : M[c]? = some (.lst (ms.map .int))) : eqP M (.ref a) (.ref c) = some (decide (ns = ms)) := by
  have r1 := (Rd.lst (k := 1) (g := fd) h1 (by intro x hx; obtain ⟨i, _, rfl⟩ := List.mem_map.mp hx; exact Rd.flat trivial) (by omega)).shaped (by omega)
  have r2 := (Rd.lst (k := 1) (g := fd) h2 (by intro x hx; obtain ⟨i, _, rfl⟩ := List.mem_map.mp hx; exact Rd.flat trivial) (by omega)).shaped (by omega)
  simp only [eqP, eqS, r1.1, r2.1, r1.2, r2.2]
  have e : ∀ ks : List Int, (ks.map PV.int).map fd = ks.map PyData.int := fun ks => by rw [List.map_map]; rfl
  rw [e, e]
  simp [PyData.eqv, eqv_ints]
def plc : PV → Int
  | .tup (.int i :: _) => i
  | _ => 0
def gotB (lo hi : Int) (got : List PV) : Bool := decide (got.map plc = usortI (got.map plc)) && (got.map plc).all fun p => decide (lo ≤ p) && decide (p < hi)
def readB (lo : Int) : PV → Bool
  | .tup [a, b, c] =>
    cntB a && (cntB b && (match b with | .int i => decide (lo < i) && (match c with | .tup got => got.all rowB && gotB lo i got | _ => false) | _ => false))
  | _ => false
theorem row_plc {x : PV} (h : rowB x = true) : ∃ r, x = .tup (.int (plc x) :: r) := by
  match x, h with
  | .tup [.int i, b, c], _ => exact ⟨[b, c], rfl⟩
  | .tup [.non, b, c], h => simp [rowB, cntB] at h
  | .tup [.bl _, b, c], h => simp [rowB, cntB] at h
  | .tup [.str _, b, c], h => simp [rowB, cntB] at h
  | .tup [.tup _, b, c], h => simp [rowB, cntB] at h
  | .tup [.ref _, b, c], h => simp [rowB, cntB] at h
  | .tup [.cl _, b, c], h => simp [rowB, cntB] at h
  | .tup [.fn _ _, b, c], h => simp [rowB, cntB] at h
theorem cnt_int {x : PV} (h : cntB x = true) : ∃ i : Int, x = .int i ∧ 0 ≤ i := by
  cases x <;> simp [cntB] at h
  exact ⟨_, rfl, h⟩
/-- the rows of a read, told -/
theorem got_ok {cf : CF} {b : List Nat} {k : Nat} (Rw_ : Tells cf i_is_row b k rowB) {M : Mm} {a : PV} {hi lo : Int} {got : List PV} (hg : ∀ x ∈ got, Gd b k M x) (hl : got.length < 50) (hr : got.all rowB = true) :
    ∃ M', evSs cf (.cons (.asg (.name 2) (.lc [3] (.name 3) (.seq (.idx (.var 0) (.con (.int 2)))) (.con (.bl true)) e2_is_read)) (.cons (.ret (.and (.cmp .eq (.var 2) (.blt .ssort (.cons (.var 2) .nil))) (.blt .all (.cons (.lc [4] (.name 4) (.seq (.var 2)) (.con (.bl true)) e1_is_read) .nil)))) .nil)) [some (.tup [a, .int hi, .tup got]), some (.int lo), none, none, none] M = some (.ret (.bl (gotB lo hi got)), M') ∧ Frm [] M M' := by
  let T : PV := .tup [a, .int hi, .tup got]
  let ns := got.map plc
  have hI : evI cf (.seq (.idx (.var 0) (.con (.int 2)))) [some T, some (.int lo), none, none, none] M = some (.tup got, M) := by
    rw [evI, ix_ (xs := [a, .int hi, .tup got]) (e_var rfl) at2]; rfl
  have e1 := lc_tup (cf := cf) (own := [3]) (t := .name 3) (c := .con (.bl true)) (e := e2_is_read) got (fun _ => true) (fun x => .int (plc x)) hI (by omega) (by
    intro x hx N
    obtain ⟨r, hr'⟩ := row_plc (List.all_eq_true.mp hr x hx)
    refine ⟨[some T, some (.int lo), none, some x, none], rfl, e_con, fun _ => ?_⟩
    unfold e2_is_read
    rw [hr']
    exact ix_ (e_var rfl) at0)
  rw [filter_all] at e1
  have hm : got.map (fun x => PV.int (plc x)) = ns.map PV.int := by rw [List.map_map]; rfl
  rw [hm] at e1
  let M1 : Mm := M ++ [Ob.lst (ns.map .int)]
  have hM1 : M1[M.length]? = some (.lst (ns.map .int)) := get_last
  let sg : Sg := [some T, some (.int lo), some (.ref M.length), none, none]
  have v2 : ∀ N, evE cf (.var 2) sg N = some (.ref M.length, N) := fun N => e_var rfl
  have e2 : evE cf (.blt .ssort (.cons (.var 2) .nil)) sg M1 = some (.ref M1.length, M1 ++ [Ob.lst ((usortI ns).map .int)]) := by
    refine e_blt (es_one (v2 M1)) ?_
    simp only [bltP, lstAt, hM1, Option.bind_some, intsOf_int]
    rw [if_pos (by simp [ns]; omega)]
  have F1 : Frm [] M1 (M1 ++ [Ob.lst ((usortI ns).map .int)]) := .app
  have hM2 := F1.get hM1 (by simp)
  generalize hE2 : M1 ++ [Ob.lst ((usortI ns).map .int)] = M2 at *
  have hM2' : M2[M1.length]? = some (.lst ((usortI ns).map .int)) := by rw [← hE2]; exact get_last
  have e3 : evE cf (.cmp .eq (.var 2) (.blt .ssort (.cons (.var 2) .nil))) sg M1 = some (.bl (decide (ns = usortI ns)), M2) := e_cmp (v2 M1) e2 (eqP_ints hM2 hM2')
  have F : Frm [] M M2 := Frm.trans .app F1
  have st : evS cf (.asg (.name 2) (.lc [3] (.name 3) (.seq (.idx (.var 0) (.con (.int 2)))) (.con (.bl true)) e2_is_read)) [some T, some (.int lo), none, none, none] M = some (.nx sg, M1) := s_asg e1 rfl
  cases hd : decide (ns = usortI ns) with
  | false =>
    rw [hd] at e3
    refine ⟨M2, ?_, F⟩
    have : gotB lo hi got = false := by unfold gotB; rw [show decide (got.map plc = usortI (got.map plc)) = false from hd]; rfl
    rw [this]
    exact ss_cons st (ss_ret (e_andF e3))
  | true =>
    rw [hd] at e3
    have hI2 : evI cf (.seq (.var 2)) sg M2 = some (.lst M.length, M2) := by
      rw [evI, v2 M2]; simp [srcOf, lstAt, hM2]
    obtain ⟨M3, e4, F3⟩ := all_lc (cf := cf) (own := [4]) (t := .name 4) (e := e1_is_read) (sg := sg) ns.length (fun i => decide (lo ≤ ns.getD i 0) && decide (ns.getD i 0 < hi)) hI2 (by simp [ns]; omega) .refl
      (by
        intro i N hi' FN
        have hN := FN.get hM2 (by simp)
        have hgi : ns.getD i 0 = ns[i] := by simp [List.getD_eq_getElem?_getD, hi']
        refine ⟨.int ns[i], [some T, some (.int lo), some (.ref M.length), none, some (.int ns[i])], N, by simp [Src.get, lstAt, hN, hi'], rfl, ?_, .refl⟩
        unfold e1_is_read
        rw [hgi]
        have q1 : evE cf (.var 1) [some T, some (.int lo), some (.ref M.length), none, some (.int ns[i])] N = some (.int lo, N) := e_var rfl
        have q2 : evE cf (.var 4) [some T, some (.int lo), some (.ref M.length), none, some (.int ns[i])] N = some (.int ns[i], N) := e_var rfl
        by_cases h1 : lo ≤ ns[i]
        · rw [decide_eq_true h1, Bool.true_and]
          exact e_chnT q1 q2 (congrArg some (decide_eq_true h1)) (ix_ (xs := [a, .int hi, .tup got]) (e_var rfl) at1) rfl
        · rw [decide_eq_false h1, Bool.false_and]
          exact e_chnF q1 q2 (congrArg some (decide_eq_false h1)))
      (by
        intro N FN
        have hN := FN.get hM2 (by simp)
        simp [Src.get, lstAt, hN])
    rw [range_all ns (fun p => decide (lo ≤ p) && decide (p < hi)) _ (fun i hi' => by rw [List.getD_eq_getElem?_getD, List.getElem?_eq_getElem hi']; rfl)] at e4
    refine ⟨M3, ?_, F.trans F3⟩
    have : gotB lo hi got = ns.all (fun p => decide (lo ≤ p) && decide (p < hi)) := by unfold gotB; rw [show decide (got.map plc = usortI (got.map plc)) = true from hd]; rfl
    rw [this]
    exact ss_cons st (ss_ret (e_andT e3 e4))
end Mp

/-! Mk5 (k66): is_read, is_view. -/
namespace Mp
open PySem L2

def TellR (cf : CF) (b : List Nat) (k : Nat) : Prop := ∀ (M : Mm) (x : PV) (lo : Int), Gd b k M x → ∃ M', cf i_is_read [x, .int lo] M = some (.bl (readB lo x), M') ∧ Frm [] M M'
theorem read_ok {cf : CF} {b : List Nat} {q : Nat} (Ct : Tells cf i_is_count b (q + 2) cntB) (R : Tells cf i_is_row b (q + 1) rowB) {M : Mm} {x : PV} {lo : Int} (h : Gd b (q + 3) M x) :
    ∃ M', runD cf ir_is_read [x, .int lo] M = some (.bl (readB lo x), M') ∧ Frm [] M M' := by
  have hv : evE cf (.var 0) [some x, some (.int lo), none, none, none] M = some (x, M) := e_var rfl
  have hi := isi_tup (cf := cf) h hv
  by_cases ht : ∃ xs, x = .tup xs
  · obtain ⟨xs, rfl⟩ := ht
    have hl := len_ne (n := 3) hv
    by_cases h3 : xs.length = 3
    · match xs, h3 with
      | [a, c, d], _ =>
        have ga : Gd b (q + 2) M a := h.2 a (by simp)
        have gc : Gd b (q + 2) M c := h.2 c (by simp)
        have gd : Gd b (q + 2) M d := h.2 d (by simp)
        let sg : Sg := [some (.tup [a, c, d]), some (.int lo), none, none, none]
        have hvv : ∀ N, evE cf (.var 0) sg N = some (.tup [a, c, d], N) := fun N => e_var rfl
        obtain ⟨M1, e1, F1⟩ := Ct M a ga
        have ea : evE cf (.call i_is_count (.cons (.idx (.var 0) (.con (.int 0))) .nil)) sg M = some (.bl (cntB a), M1) := e_call (es_one (ix_ (hvv M) at0)) e1
        cases hca : cntB a with
        | false =>
          rw [hca] at ea
          refine ⟨M1, ?_, F1⟩
          have : readB lo (.tup [a, c, d]) = false := by simp [readB, hca]
          rw [this]
          exact run_ret rfl (ss_if (s_ifT (e_orF (e_not (k := true) hi) (e_orF hl (e_orT (e_not (k := false) ea)))) (ss_ret e_con)))
        | true =>
          rw [hca] at ea
          obtain ⟨M2, e2, F2⟩ := Ct M1 c (gc.frm (F1.mono (by simp)))
          have ec : evE cf (.call i_is_count (.cons (.idx (.var 0) (.con (.int 1))) .nil)) sg M1 = some (.bl (cntB c), M2) := e_call (es_one (ix_ (hvv M1) at1)) e2
          cases hcc : cntB c with
          | false =>
            rw [hcc] at ec
            refine ⟨M2, ?_, F1.trans F2⟩
            have : readB lo (.tup [a, c, d]) = false := by simp [readB, hcc]
            rw [this]
            exact run_ret rfl (ss_if (s_ifT (e_orF (e_not (k := true) hi) (e_orF hl (e_orF (e_not (k := true) ea) (e_not (k := false) ec)))) (ss_ret e_con)))
          | true =>
            rw [hcc] at ec
            obtain ⟨u, rfl, hu⟩ := cnt_int hcc
            have F12 := F1.trans F2
            have gd2 := gd.frm (F12.mono (by simp))
            have st1 : ∀ {w : Option (Fl × Mm)} {ss : Ss}, evSs cf ss sg M2 = w → evSs cf (.cons (.iff (.or (.not (.isi (.var 0) [.tuple])) (.or (.cmp .ne (.blt .len (.cons (.var 0) .nil)) (.con (.int 3))) (.or (.not (.call i_is_count (.cons (.idx (.var 0) (.con (.int 0))) .nil))) (.not (.call i_is_count (.cons (.idx (.var 0) (.con (.int 1))) .nil)))))) (.cons (.ret (.con (.bl false))) .nil) .nil) ss) sg M = w := fun q =>
              ss_cons (s_ifF (e_orF (e_not (k := true) hi) (e_orF hl (e_orF (e_not (k := true) ea) (e_not (k := true) ec)))) ss_nil) q
            have cle : evE cf (.cmp .le (.idx (.var 0) (.con (.int 1))) (.var 1)) sg M2 = some (.bl (decide (u ≤ lo)), M2) := e_cmp (ix_ (hvv M2) at1) (e_var (v := .int lo) rfl) rfl
            by_cases hul : u ≤ lo
            · rw [decide_eq_true hul] at cle
              refine ⟨M2, ?_, F12⟩
              have : readB lo (.tup [a, .int u, d]) = false := by simp [readB, hca, show ¬ lo < u by omega]
              rw [this]
              exact run_ret rfl (st1 (ss_if (s_ifT (e_orT cle) (ss_ret e_con))))
            · rw [decide_eq_false hul] at cle
              have hul' : lo < u := by omega
              have hid := isi_tup (cf := cf) gd2 (ix_ (hvv M2) at2)
              by_cases hdt : ∃ got, d = .tup got
              · obtain ⟨got, rfl⟩ := hdt
                have hI : evI cf (.seq (.idx (.var 0) (.con (.int 2)))) sg M2 = some (.tup got, M2) := by rw [evI, ix_ (hvv M2) at2]; rfl
                obtain ⟨M3, e3, F3⟩ := all_lc (cf := cf) (own := [3]) (t := .name 3) (e := .call i_is_row (.cons (.var 3) .nil)) (sg := sg) got.length (fun i => rowB (got.getD i .non)) hI (by have := gd.1; omega) .refl
                  (by
                    intro i N hi' FN
                    obtain ⟨N', e', F'⟩ := R N got[i] ((gd2.2 got[i] (List.getElem_mem hi')).frm (FN.mono (by simp)))
                    have hgi : got.getD i .non = got[i] := by simp [List.getD_eq_getElem?_getD, hi']
                    refine ⟨got[i], [some (.tup [a, .int u, .tup got]), some (.int lo), none, some got[i], none], N', by simp [Src.get, hi'], rfl, ?_, F'⟩
                    rw [hgi]
                    exact e_call (es_one (e_var rfl)) e')
                  (by intro N FN; simp [Src.get])
                rw [range_all got rowB _ (fun i hi' => by rw [List.getD_eq_getElem?_getD, List.getElem?_eq_getElem hi']; rfl)] at e3
                have F123 := F12.trans F3
                cases hr : got.all rowB with
                | false =>
                  rw [hr] at e3
                  refine ⟨M3, ?_, F123⟩
                  have : readB lo (.tup [a, .int u, .tup got]) = false := by simp only [readB, hr]; simp
                  rw [this]
                  exact run_ret rfl (st1 (ss_if (s_ifT (e_orF cle (e_orF (e_not (k := true) hid) (e_not (k := false) e3))) (ss_ret e_con))))
                | true =>
                  rw [hr] at e3
                  obtain ⟨M4, e4, F4⟩ := got_ok (cf := cf) R (M := M3) (a := a) (hi := u) (lo := lo) (got := got) (fun x hx => (gd2.2 x hx).frm (F3.mono (by simp))) gd.1 hr
                  refine ⟨M4, ?_, F123.trans F4⟩
                  have : readB lo (.tup [a, .int u, .tup got]) = gotB lo u got := by simp only [readB, hr, hca, hcc, decide_eq_true hul']; simp
                  rw [this]
                  exact run_ret rfl (st1 (ss_cons (s_ifF (e_orF cle (e_orF (e_not (k := true) hid) (e_not (k := true) e3))) ss_nil) e4))
              · refine ⟨M2, ?_, F12⟩
                have h1 : tupB d = false := by cases d <;> first | rfl | exact absurd ⟨_, rfl⟩ hdt
                have h2 : readB lo (.tup [a, .int u, d]) = false := by cases d <;> first | (simp [readB]; done) | exact absurd ⟨_, rfl⟩ hdt
                rw [h1] at hid
                rw [h2]
                exact run_ret rfl (st1 (ss_if (s_ifT (e_orF cle (e_orT (e_not (k := false) hid))) (ss_ret e_con))))
    · refine ⟨M, ?_, .refl⟩
      have : readB lo (.tup xs) = false := by
        match xs, h3 with
        | [], _ => rfl
        | [_], _ => rfl
        | [_, _], _ => rfl
        | [_, _, _], q => exact absurd rfl q
        | _ :: _ :: _ :: _ :: _, _ => rfl
      rw [this]
      rw [decide_eq_false h3] at hl
      exact run_ret rfl (ss_if (s_ifT (e_orF (e_not (k := true) hi) (e_orT hl)) (ss_ret e_con)))
  · refine ⟨M, ?_, .refl⟩
    have h1 : tupB x = false := by cases x <;> first | rfl | exact absurd ⟨_, rfl⟩ ht
    have h2 : readB lo x = false := by cases x <;> first | rfl | exact absurd ⟨_, rfl⟩ ht
    rw [h1] at hi
    rw [h2]
    exact run_ret rfl (ss_if (s_ifT (e_orT (e_not (k := false) hi)) (ss_ret e_con)))
theorem t_read (j : Nat) (b : List Nat) (q : Nat) : TellR (cfN tab (j + 4)) b (q + 3) := fun M x lo h => read_ok (t_cnt (j + 1) b (q + 2)) (t_row j b q) h
def goB : Int → Int → List PV → Bool
  | _, _, [] => true
  | lo, t, x :: r => readB lo x && (match x with | .tup [.int a, .int u, _] => decide (t < a) && goB u a r | _ => false)
def viewB : PV → Bool
  | .tup xs => goB 0 (-1) xs
  | _ => false
theorem read_form {lo : Int} {x : PV} (h : readB lo x = true) : ∃ (a u : Int) (got : List PV), x = .tup [.int a, .int u, .tup got] := by
  cases x with
  | tup xs =>
    match xs, h with
    | [a, c, d], h =>
      simp only [readB, Bool.and_eq_true] at h
      obtain ⟨h1, h2, h3⟩ := h
      obtain ⟨i, rfl, _⟩ := cnt_int h1
      obtain ⟨u, rfl, _⟩ := cnt_int h2
      simp only [Bool.and_eq_true] at h3
      cases d <;> first | exact ⟨i, u, _, rfl⟩ | (simp at h3)
  | _ => simp [readB] at h
theorem view_for {cf : CF} {b : List Nat} {k : Nat} (R : TellR cf b k) (xs : List PV) : ∀ (rest pre : List PV) (m : Nat) (lo t : Int) (o3 : Option PV) (M : Mm), xs = pre ++ rest → rest.length < m → (∀ x ∈ rest, Gd b k M x) →
    ∃ M', Frm [] M M' ∧ ((goB lo t rest = true ∧ ∃ sg', forL (.tup xs) (tgP (.name 3)) (fun sg M => evSs cf b1_is_view sg M) m pre.length [some (.tup xs), some (.int lo), some (.int t), o3] M = some (.nx sg', M')) ∨ (goB lo t rest = false ∧ forL (.tup xs) (tgP (.name 3)) (fun sg M => evSs cf b1_is_view sg M) m pre.length [some (.tup xs), some (.int lo), some (.int t), o3] M = some (.ret (.bl false), M')))
  | [], pre, m, lo, t, o3, M, hx, hm, hg => by
    obtain ⟨m, rfl⟩ : ∃ m', m = m' + 1 := ⟨m - 1, by simp at hm; omega⟩
    have : (Src.tup xs).get M pre.length = some none := by simp [Src.get, hx]
    exact ⟨M, .refl, .inl ⟨rfl, [some (.tup xs), some (.int lo), some (.int t), o3], by simp only [forL, this]⟩⟩
  | x :: r, pre, m, lo, t, o3, M, hx, hm, hg => by
    obtain ⟨m, rfl⟩ : ∃ m', m = m' + 1 := ⟨m - 1, by simp at hm; omega⟩
    have hget : (Src.tup xs).get M pre.length = some (some x) := by simp [Src.get, hx]
    obtain ⟨M1, e1, F1⟩ := R M x lo (hg x (by simp))
    let sg : Sg := [some (.tup xs), some (.int lo), some (.int t), some x]
    have hb : tgP (.name 3) x [some (.tup xs), some (.int lo), some (.int t), o3] = some sg := rfl
    have ec : evE cf (.call i_is_read (.cons (.var 3) (.cons (.var 1) .nil))) sg M = some (.bl (readB lo x), M1) := e_call (es_cons (e_var rfl) (es_one (e_var rfl))) e1
    cases hr : readB lo x with
    | false =>
      rw [hr] at ec
      have : evSs cf b1_is_view sg M = some (.ret (.bl false), M1) := ss_if (s_ifT (e_orT (e_not (k := false) ec)) (ss_ret e_con))
      refine ⟨M1, F1, .inr ⟨by simp [goB, hr], ?_⟩⟩
      simp only [forL, hget, hb, this]
    | true =>
      rw [hr] at ec
      obtain ⟨a, u, got, rfl⟩ := read_form hr
      have ele : evE cf (.cmp .le (.idx (.var 3) (.con (.int 0))) (.var 2)) sg M1 = some (.bl (decide (a ≤ t)), M1) := e_cmp (ix_ (xs := [.int a, .int u, .tup got]) (e_var rfl) at0) (e_var (v := .int t) rfl) rfl
      by_cases ha : a ≤ t
      · rw [decide_eq_true ha] at ele
        have : evSs cf b1_is_view sg M = some (.ret (.bl false), M1) := ss_if (s_ifT (e_orF (e_not (k := true) ec) ele) (ss_ret e_con))
        refine ⟨M1, F1, .inr ⟨by simp [goB, show ¬ t < a by omega], ?_⟩⟩
        simp only [forL, hget, hb, this]
      · rw [decide_eq_false ha] at ele
        have esl : evE cf (.slc false true (.var 3) (.con .non) (.con (.int 2))) sg M1 = some (.tup [.int a, .int u], M1) := by
          rw [evE, e_var (v := .tup [.int a, .int u, .tup got]) rfl]
          simp only [e_con]
          rfl
        have hbody : evSs cf b1_is_view sg M = some (.nx [some (.tup xs), some (.int u), some (.int a), some (.tup [.int a, .int u, .tup got])], M1) :=
          ss_cons (s_ifF (e_orF (e_not (k := true) ec) ele) ss_nil) (ss_cons (s_asg esl rfl) ss_nil)
        obtain ⟨M2, F2, h2⟩ := view_for R xs r (pre ++ [.tup [.int a, .int u, .tup got]]) m u a (some (.tup [.int a, .int u, .tup got])) M1 (by rw [hx]; simp) (by simp at hm; omega) (fun y hy => (hg y (by simp [hy])).frm (F1.mono (by simp)))
        have hgo : goB lo t (.tup [.int a, .int u, .tup got] :: r) = goB u a r := by simp [goB, hr, show t < a by omega]
        have hlen : (pre ++ [PV.tup [.int a, .int u, .tup got]]).length = pre.length + 1 := by simp
        rw [hlen] at h2
        refine ⟨M2, F1.trans F2, ?_⟩
        rw [hgo]
        simp only [forL, hget, hb, hbody]
        exact h2
theorem view_ok {cf : CF} {b : List Nat} {k : Nat} (R : TellR cf b k) {M : Mm} {x : PV} (h : Gd b (k + 1) M x) : ∃ M', runD cf ir_is_view [x] M = some (.bl (viewB x), M') ∧ Frm [] M M' := by
  have hv : evE cf (.var 0) [some x, none, none, none] M = some (x, M) := e_var rfl
  have hi := isi_tup (cf := cf) h hv
  by_cases ht : ∃ xs, x = .tup xs
  · obtain ⟨xs, rfl⟩ := ht
    obtain ⟨M', F, h2⟩ := view_for R xs xs [] bigN 0 (-1) none M rfl (by have := h.1; unfold bigN; omega) h.2
    have hT : evE cf (.tup (.cons (.con (.int 0)) (.cons (.neg (.con (.int 1))) .nil))) [some (.tup xs), none, none, none] M = some (.tup [.int 0, .int (-1)], M) := e_tup (es_cons e_con (es_one (by rw [evE, e_con]))) (by simp)
    have hI : evI cf (.seq (.var 0)) [some (.tup xs), some (.int 0), some (.int (-1)), none] M = some (.tup xs, M) := by rw [evI, e_var (v := .tup xs) rfl]; rfl
    refine ⟨M', ?_, F⟩
    have h0 : evS cf (.iff (.not (.isi (.var 0) [.tuple])) (.cons (.ret (.con (.bl false))) .nil) .nil) [some (.tup xs), none, none, none] M = some (.nx [some (.tup xs), none, none, none], M) := s_ifF (e_not (k := true) hi) ss_nil
    have h1 : evS cf (.asg (.tup [1, 2]) (.tup (.cons (.con (.int 0)) (.cons (.neg (.con (.int 1))) .nil)))) [some (.tup xs), none, none, none] M = some (.nx [some (.tup xs), some (.int 0), some (.int (-1)), none], M) := s_asg hT rfl
    rcases h2 with ⟨g, sg', e⟩ | ⟨g, e⟩
    · have h3 : evS cf (.for_ (.name 3) (.seq (.var 0)) b1_is_view) [some (.tup xs), some (.int 0), some (.int (-1)), none] M = some (.nx sg', M') := by rw [evS, hI]; exact e
      rw [show viewB (.tup xs) = true from g]
      exact run_ret rfl (ss_cons h0 (ss_cons h1 (ss_cons h3 (ss_ret e_con))))
    · have h3 : evS cf (.for_ (.name 3) (.seq (.var 0)) b1_is_view) [some (.tup xs), some (.int 0), some (.int (-1)), none] M = some (.ret (.bl false), M') := by rw [evS, hI]; exact e
      rw [show viewB (.tup xs) = false from g]
      refine run_ret rfl (ss_cons h0 (ss_cons h1 ?_))
      rw [evSs, h3]
  · refine ⟨M, ?_, .refl⟩
    have h1 : tupB x = false := by cases x <;> first | rfl | exact absurd ⟨_, rfl⟩ ht
    have h2 : viewB x = false := by cases x <;> first | rfl | exact absurd ⟨_, rfl⟩ ht
    rw [h1] at hi
    rw [h2]
    exact run_ret rfl (ss_if (s_ifT (e_not (k := false) hi) (ss_ret e_con)))
theorem t_view (j : Nat) (b : List Nat) (q : Nat) : Tells (cfN tab (j + 5)) i_is_view b (q + 4) viewB := fun M x h => view_ok (t_read j b q) h
end Mp

/-! Mg1 (k66): the law's own log; bare, leave. -/
namespace Mp
open PySem L2

def ldic (o : Nat) : List (Key × PV) := [(.inr "rows", .ref (o + 1)), (.inr "gone", .ref (o + 2)), (.inr "since", .ref (o + 3)), (.inr "seats", .ref (o + 4)), (.inr "tables", .ref (o + 5)), (.inr "copies", .ref (o + 6)), (.inr "heard", .ref (o + 7))]
structure Lg (M : Mm) (o : Nat) (rs : List PV) (g si se tb : List (Key × PV)) (co he : List PV) : Prop where
  o_ : M[o]? = some (.dic (ldic o))
  r_ : M[o + 1]? = some (.lst rs)
  g_ : M[o + 2]? = some (.dic g)
  si_ : M[o + 3]? = some (.dic si)
  se_ : M[o + 4]? = some (.dic se)
  tb_ : M[o + 5]? = some (.dic tb)
  co_ : M[o + 6]? = some (.lst co)
  he_ : M[o + 7]? = some (.lst he)
section
variable {M : Mm} {o : Nat} {rs : List PV} {g si se tb : List (Key × PV)} {co he : List PV}
theorem Lg.ir (h : Lg M o rs g si se tb co he) : idxP M (.ref o) (.str "rows") = some (.ref (o + 1)) := by simp [idxP, h.o_, keyOf, getD, ldic]
theorem Lg.ig (h : Lg M o rs g si se tb co he) : idxP M (.ref o) (.str "gone") = some (.ref (o + 2)) := by simp [idxP, h.o_, keyOf, getD, ldic]
theorem Lg.isi (h : Lg M o rs g si se tb co he) : idxP M (.ref o) (.str "since") = some (.ref (o + 3)) := by simp [idxP, h.o_, keyOf, getD, ldic]
theorem Lg.ise (h : Lg M o rs g si se tb co he) : idxP M (.ref o) (.str "seats") = some (.ref (o + 4)) := by simp [idxP, h.o_, keyOf, getD, ldic]
theorem Lg.itb (h : Lg M o rs g si se tb co he) : idxP M (.ref o) (.str "tables") = some (.ref (o + 5)) := by simp [idxP, h.o_, keyOf, getD, ldic]
theorem Lg.ico (h : Lg M o rs g si se tb co he) : idxP M (.ref o) (.str "copies") = some (.ref (o + 6)) := by simp [idxP, h.o_, keyOf, getD, ldic]
theorem Lg.ihe (h : Lg M o rs g si se tb co he) : idxP M (.ref o) (.str "heard") = some (.ref (o + 7)) := by simp [idxP, h.o_, keyOf, getD, ldic]
theorem Lg.sr (h : Lg M o rs g si se tb co he) (x : List PV) : Lg (M.set (o + 1) (.lst x)) o x g si se tb co he := by
  have := lt_of h.r_
  constructor <;> first | (rw [List.getElem?_set_self (by omega)]; done) | (rw [List.getElem?_set_ne (by omega)]; first | exact h.o_ | exact h.r_ | exact h.g_ | exact h.si_ | exact h.se_ | exact h.tb_ | exact h.co_ | exact h.he_)
theorem Lg.sg (h : Lg M o rs g si se tb co he) (x : List (Key × PV)) : Lg (M.set (o + 2) (.dic x)) o rs x si se tb co he := by
  have := lt_of h.g_
  constructor <;> first | (rw [List.getElem?_set_self (by omega)]; done) | (rw [List.getElem?_set_ne (by omega)]; first | exact h.o_ | exact h.r_ | exact h.g_ | exact h.si_ | exact h.se_ | exact h.tb_ | exact h.co_ | exact h.he_)
theorem Lg.ssi (h : Lg M o rs g si se tb co he) (x : List (Key × PV)) : Lg (M.set (o + 3) (.dic x)) o rs g x se tb co he := by
  have := lt_of h.si_
  constructor <;> first | (rw [List.getElem?_set_self (by omega)]; done) | (rw [List.getElem?_set_ne (by omega)]; first | exact h.o_ | exact h.r_ | exact h.g_ | exact h.si_ | exact h.se_ | exact h.tb_ | exact h.co_ | exact h.he_)
theorem Lg.sse (h : Lg M o rs g si se tb co he) (x : List (Key × PV)) : Lg (M.set (o + 4) (.dic x)) o rs g si x tb co he := by
  have := lt_of h.se_
  constructor <;> first | (rw [List.getElem?_set_self (by omega)]; done) | (rw [List.getElem?_set_ne (by omega)]; first | exact h.o_ | exact h.r_ | exact h.g_ | exact h.si_ | exact h.se_ | exact h.tb_ | exact h.co_ | exact h.he_)
theorem Lg.stb (h : Lg M o rs g si se tb co he) (x : List (Key × PV)) : Lg (M.set (o + 5) (.dic x)) o rs g si se x co he := by
  have := lt_of h.tb_
  constructor <;> first | (rw [List.getElem?_set_self (by omega)]; done) | (rw [List.getElem?_set_ne (by omega)]; first | exact h.o_ | exact h.r_ | exact h.g_ | exact h.si_ | exact h.se_ | exact h.tb_ | exact h.co_ | exact h.he_)
theorem Lg.sco (h : Lg M o rs g si se tb co he) (x : List PV) : Lg (M.set (o + 6) (.lst x)) o rs g si se tb x he := by
  have := lt_of h.co_
  constructor <;> first | (rw [List.getElem?_set_self (by omega)]; done) | (rw [List.getElem?_set_ne (by omega)]; first | exact h.o_ | exact h.r_ | exact h.g_ | exact h.si_ | exact h.se_ | exact h.tb_ | exact h.co_ | exact h.he_)
theorem Lg.she (h : Lg M o rs g si se tb co he) (x : List PV) : Lg (M.set (o + 7) (.lst x)) o rs g si se tb co x := by
  have := lt_of h.he_
  constructor <;> first | (rw [List.getElem?_set_self (by omega)]; done) | (rw [List.getElem?_set_ne (by omega)]; first | exact h.o_ | exact h.r_ | exact h.g_ | exact h.si_ | exact h.se_ | exact h.tb_ | exact h.co_ | exact h.he_)
theorem Lg.frm {S : List Nat} {M' : Mm} (h : Lg M o rs g si se tb co he) (a : Frm S M M') (hs : ∀ i ∈ S, o + 7 < i) : Lg M' o rs g si se tb co he := by
  have n : ∀ i, i ≤ o + 7 → i ∉ S := fun i hi q => by have := hs i q; omega
  exact ⟨a.get h.o_ (n _ (by omega)), a.get h.r_ (n _ (by omega)), a.get h.g_ (n _ (by omega)), a.get h.si_ (n _ (by omega)), a.get h.se_ (n _ (by omega)), a.get h.tb_ (n _ (by omega)), a.get h.co_ (n _ (by omega)), a.get h.he_ (n _ (by omega))⟩
end
theorem bare_ok (cf : CF) (M : Mm) : ∃ M', runD cf ir_l_bare [] M = some (.ref M.length, M') ∧ Lg M' M.length [] [] [] [] [] [] [] ∧ Frm [] M M' ∧ M'.length = M.length + 8 := by
  refine ⟨M ++ [.dic (ldic M.length), .lst [], .dic [], .dic [], .dic [], .dic [], .lst [], .lst []], ?_, ⟨?_, ?_, ?_, ?_, ?_, ?_, ?_, ?_⟩, Frm.app, by simp⟩
  · have h1 : dicAt (M ++ [Ob.dic []] ++ [Ob.lst []] ++ [Ob.dic []] ++ [Ob.dic []] ++ [Ob.dic []] ++ [Ob.dic []] ++ [Ob.lst []] ++ [Ob.lst []]) M.length = some [] := by simp [dicAt]
    have h2 : (M ++ [Ob.dic []] ++ [Ob.lst []] ++ [Ob.dic []] ++ [Ob.dic []] ++ [Ob.dic []] ++ [Ob.dic []] ++ [Ob.lst []] ++ [Ob.lst []]).set M.length (.dic (ldic M.length)) = M ++ [.dic (ldic M.length), .lst [], .dic [], .dic [], .dic [], .dic [], .lst [], .lst []] := by simp
    rw [← h2]
    simp [runD, ir_l_bare, evSs, evS, evE, evEs, sizeLine, dicAt, putD, ldic]
  all_goals simp [ldic]
def RowOk (x : PV) : Prop := ∃ (k : Str) (v : PV), x = .tup [.str k, v] ∧ KeyOk k ∧ (v = .non ∨ ∃ i : Int, v = .int i)
def SiOk (si : List (Key × PV)) : Prop := ∀ kv ∈ si, ∃ i : Int, kv.2 = .int i
theorem leave_ok (cf : CF) {M : Mm} {o : Nat} {rs : List PV} {g si se tb : List (Key × PV)} {co he : List PV} {age now : Int} (h : Lg M o rs g si se tb co he) (hr : ∀ x ∈ rs, RowOk x) (hs : SiOk si) (hl : rs.length ≤ 14) (hg : g.length < 100000) :
    ∃ g' M', runD cf ir_l_leave [.ref o, .int age, .int now] M = some (.non, M') ∧ Lg M' o rs g' si se tb co he ∧ g'.length ≤ g.length + 14 ∧ Frm [o + 2] M M' ∧ M'.length = M.length := by
  let I : Nat → Sg → Mm → Prop := fun i sg N => ∃ (g' : List (Key × PV)) (o3 o4 o5 : Option PV), sg = [some (.ref o), some (.int age), some (.int now), o3, o4, o5] ∧ Lg N o rs g' si se tb co he ∧ g'.length ≤ g.length + i ∧ Frm [o + 2] M N ∧ N.length = M.length
  obtain ⟨sg', M', e, g', o3, o4, o5, hsg, L, gl, F, ln⟩ := for_inv (src := .en (.lst (o + 1))) (bind := tgP (.nst 3 [4, 5])) (body := fun sg M => evSs cf b1_l_leave sg M) I (n := rs.length) (sg := [some (.ref o), some (.int age), some (.int now), none, none, none]) (M := M) (by omega)
    ⟨g, none, none, none, rfl, h, by omega, .refl, rfl⟩
    (by
      intro i sg N hi hI
      obtain ⟨g', o3, o4, o5, rfl, L, gl, F, ln⟩ := hI
      obtain ⟨k, v, hx, hk, hv⟩ := hr rs[i] (List.getElem_mem hi)
      let sg : Sg := [some (.ref o), some (.int age), some (.int now), some (.int i), some (.str k), some v]
      have hget : (Src.en (.lst (o + 1))).get N i = some (some (.tup [.int i, .tup [.str k, v]])) := by simp [Src.get, lstAt, L.r_, hi, hx]
      have e0 : ∀ {N : Mm}, evE cf (.var 0) sg N = some (.ref o, N) := e_var rfl
      have e3 : ∀ {N : Mm}, evE cf (.var 3) sg N = some (.int i, N) := e_var rfl
      have skip : evSs cf b1_l_leave sg N = some (.nx sg, N) → ∃ x sg1 sg2 M2, (Src.en (.lst (o + 1))).get N i = some (some x) ∧ tgP (.nst 3 [4, 5]) x [some (.ref o), some (.int age), some (.int now), o3, o4, o5] = some sg1 ∧ (fun sg M => evSs cf b1_l_leave sg M) sg1 N = some (.nx sg2, M2) ∧ I (i + 1) sg2 M2 := fun q =>
        ⟨_, sg, sg, N, hget, rfl, q, g', _, _, _, rfl, L, by omega, F, ln⟩
      have eN : evE cf (.cmp .isN (.var 5) (.con .non)) sg N = some (.bl (nonB v), N) := e_cmp (e_var (v := v) rfl) e_con (by cases v <;> rfl)
      cases hn : nonB v with
      | false =>
        rw [hn] at eN
        exact skip (ss_cons (s_ifF (e_andF eN) ss_nil) ss_nil)
      | true =>
        rw [hn] at eN
        have eS : evE cf (.idx (.var 0) (.con (.str "since"))) sg N = some (.ref (o + 3), N) := e_idx e0 e_con L.isi
        have eI : evE cf (.cmp .isin (.var 3) (.idx (.var 0) (.con (.str "since")))) sg N = some (.bl (getD si (.inl i)).isSome, N) := e_cmp e3 eS (by simp only [cmpP, isIn, L.si_, keyOf, Option.map_some])
        cases hgd : getD si (.inl (i : Int)) with
        | none =>
          rw [hgd] at eI
          exact skip (ss_cons (s_ifF (e_andT eN (e_andF eI)) ss_nil) ss_nil)
        | some w =>
          rw [hgd] at eI
          obtain ⟨s, hs'⟩ := hs _ (getD_mem hgd)
          have hs'' : w = .int s := hs'
          subst hs''
          have eX : evE cf (.idx (.idx (.var 0) (.con (.str "since"))) (.var 3)) sg N = some (.int s, N) := e_idx eS e3 (by simp only [idxP, L.si_, keyOf, Option.bind_some]; exact hgd)
          have eL : evE cf (.cmp .le (.bop .add (.idx (.idx (.var 0) (.con (.str "since"))) (.var 3)) (.var 1)) (.var 2)) sg N = some (.bl (decide (s + age ≤ now)), N) := e_cmp (e_bop eX (e_var (v := .int age) rfl) rfl) (e_var (v := .int now) rfl) rfl
          by_cases hd : s + age ≤ now
          · rw [decide_eq_true hd] at eL
            have hst : stoP N (.ref (o + 2)) (.int i) (.bl true) = some (N.set (o + 2) (.dic (putD g' (.inl i) (.bl true)))) := by
              simp only [stoP, L.g_, keyOf, Option.bind_some]
              rw [if_pos (by have : sizeLine = 16777216 := rfl; omega)]
            have hb : evSs cf b1_l_leave sg N = some (.nx sg, N.set (o + 2) (.dic (putD g' (.inl i) (.bl true)))) :=
              ss_cons (s_ifT (e_andT eN (e_andT eI eL)) (ss_cons (s_sto e_con (e_idx e0 e_con L.ig) e3 hst) ss_nil)) ss_nil
            refine ⟨_, sg, sg, _, hget, rfl, hb, _, _, _, _, rfl, L.sg _, ?_, F.trans (Frm.set (by simp)), by simp [ln]⟩
            have := putD_len g' (.inl i) (.bl true)
            omega
          · rw [decide_eq_false hd] at eL
            exact skip (ss_cons (s_ifF (e_andT eN (e_andT eI eL)) ss_nil) ss_nil))
    (by
      intro sg N hI
      obtain ⟨g', o3, o4, o5, rfl, L, gl, F, ln⟩ := hI
      simp [Src.get, lstAt, L.r_])
  refine ⟨g', M', ?_, L, by omega, F, ln⟩
  have hI : evI cf (.enum (.idx (.var 0) (.con (.str "rows")))) [some (.ref o), some (.int age), some (.int now), none, none, none] M = some (.en (.lst (o + 1)), M) := by
    rw [evI, e_idx (e_var rfl) e_con h.ir]
    simp [srcOf, lstAt, h.r_, Src.isL]
  have hf : evS cf (.for_ (.nst 3 [4, 5]) (.enum (.idx (.var 0) (.con (.str "rows")))) b1_l_leave) [some (.ref o), some (.int age), some (.int now), none, none, none] M = some (.nx sg', M') := by rw [evS, hI]; exact e
  exact run_nx rfl (ss_cons hf ss_nil)
end Mp

/-! Mg2 (k66): swept. -/
namespace Mp
open PySem L2

theorem e_mth {cf : CF} {sg : Sg} {M M1 M2 : Mm} {o : E} {es : Es} {m : Mt} {x : PV} {xs : List PV} {q : R} (h : evE cf o sg M = some (x, M1)) (hk : mtOk M1 m x = true) (h2 : evEs cf es sg M1 = some (xs, M2)) (h3 : mthP M2 m x xs = q) : evE cf (.mth m o es) sg M = q := by
  rw [evE, h]; simp only [hk, h2]; exact h3
theorem cut_mem {xs : List PV} {a c : Option Int} {x : PV} (h : x ∈ cutP xs a c) : x ∈ xs := List.mem_of_mem_drop (List.mem_of_mem_take h)
theorem cut_hi {xs : List PV} {u : Nat} : cutP xs none (some (u : Int)) = xs.take u := by
  unfold cutP
  rw [HT.sIx_nat, HT.sIx_none]
  rw [List.drop_zero, Nat.sub_zero]
  by_cases h : u ≤ xs.length
  · rw [Nat.min_eq_left h]
  · rw [Nat.min_eq_right (by omega), List.take_of_length_le (Nat.le_refl _), List.take_of_length_le (by omega)]
theorem lc_pure {src : Src} {bind : PV → Sg → Option Sg} {c e : Sg → Mm → R} {sg : Sg} {M1 : Mm} {xs : List PV} (p : PV → Bool) (g : PV → PV)
    (hs : ∀ acc i, src.get (M1 ++ [.lst acc]) i = some xs[i]?)
    (h : ∀ x ∈ xs, ∀ acc, ∃ sg1, bind x sg = some sg1 ∧ c sg1 (M1 ++ [.lst acc]) = some (.bl (p x), M1 ++ [.lst acc]) ∧ (p x = true → e sg1 (M1 ++ [.lst acc]) = some (g x, M1 ++ [.lst acc]))) (hl : xs.length < 100000) :
    lcL src bind c e M1.length sg bigN 0 (M1 ++ [.lst []]) = some (M1 ++ [.lst ((xs.filter p).map g)]) := by
  obtain ⟨M', h1, h2⟩ := lc_inv (src := src) (bind := bind) (c := c) (e := e) (d := M1.length) (sg := sg) (fun i N => N = M1 ++ [.lst (((xs.take i).filter p).map g)]) (n := xs.length) (M := M1 ++ [.lst []]) hl (by simp)
    (by
      intro i N hi hN
      subst hN
      obtain ⟨sg1, q1, q2, q3⟩ := h xs[i] (List.getElem_mem hi) (((xs.take i).filter p).map g)
      refine ⟨xs[i], sg1, by rw [hs, List.getElem?_eq_getElem hi], q1, ?_⟩
      have hsp : xs.take (i + 1) = xs.take i ++ [xs[i]] := by rw [List.take_succ_eq_append_getElem hi]
      cases hp : p xs[i] with
      | true =>
        rw [hp] at q2
        refine .inl ⟨_, _, _, ((xs.take i).filter p).map g, q2, q3 hp, by simp [lstAt], ?_, ?_⟩
        · have := List.length_filter_le p (xs.take i)
          have h2 : (xs.take i).length ≤ i := by simp; omega
          simp; omega
        · rw [hsp, List.filter_append, List.map_append]; simp [hp]
      | false =>
        rw [hp] at q2
        refine .inr ⟨_, q2, ?_⟩
        rw [hsp, List.filter_append, List.map_append]; simp [hp])
    (by intro N hN; subst hN; rw [hs]; simp)
  rw [List.take_length] at h2
  rw [h1, h2]
def key1 : PV → PV
  | .tup [x, _] => x
  | _ => .non
def HLv (cf : CF) : Prop := ∀ (M : Mm) (o : Nat) (rs : List PV) (g si se tb : List (Key × PV)) (co he : List PV) (age now : Int), Lg M o rs g si se tb co he → (∀ x ∈ rs, RowOk x) → SiOk si → rs.length ≤ 14 → g.length < 100000 →
    ∃ g' M', cf i_l_leave [.ref o, .int age, .int now] M = some (.non, M') ∧ Lg M' o rs g' si se tb co he ∧ g'.length ≤ g.length + 14 ∧ Frm [o + 2] M M' ∧ M'.length = M.length
theorem hlv (j : Nat) : HLv (cfN tab (j + 1)) := fun M o rs g si se tb co he age now h hr hs hl hg => leave_ok (cfN tab j) h hr hs hl hg
theorem swept_ok {cf : CF} (Lv : HLv cf) {M : Mm} {o : Nat} {rs : List PV} {g si se tb : List (Key × PV)} {co he : List PV} {age now : Int} {u : Nat} (h : Lg M o rs g si se tb co he) (hr : ∀ x ∈ rs, RowOk x) (hs : SiOk si) (hl : rs.length ≤ 14) (hg : g.length < 90000) (hsl : si.length < 90000) (hu : u ≤ rs.length) :
    ∃ g' si' M', runD cf ir_l_swept [.ref o, .int age, .int now, .int u] M = some (.non, M') ∧ Lg M' o rs g' si' se tb co he ∧ SiOk si' ∧ g'.length ≤ g.length + 28 ∧ si'.length ≤ si.length + 14 ∧ Frm [o + 2, o + 3] M M' := by
  have ho := lt_of h.he_
  let ks : List PV := (rs.take u).map key1
  have hkl : ks.length = u := by simp [ks]; omega
  have hkf : ∀ x ∈ ks, ∃ k : Str, x = .str k := by
    intro x hx
    obtain ⟨y, hy, rfl⟩ := List.mem_map.mp hx
    obtain ⟨k, v, rfl, _⟩ := hr y (List.mem_of_mem_take hy)
    exact ⟨k, rfl⟩
  -- the keys
  let sg0 : Sg := [some (.ref o), some (.int age), some (.int now), some (.int u), none, none, none, none]
  have eR : evE cf (.idx (.var 0) (.con (.str "rows"))) sg0 M = some (.ref (o + 1), M) := e_idx (e_var rfl) e_con h.ir
  have eSl : evE cf (.slc false true (.idx (.var 0) (.con (.str "rows"))) (.con .non) (.var 3)) sg0 M = some (.ref M.length, M ++ [Ob.lst (rs.take u)]) := by
    rw [evE, eR]
    simp only [e_con, e_var (v := .int u) (show sg0[3]? = some (some (.int u)) from rfl), slcP, optI, lstAt, h.r_, cut_hi]
  generalize hM1 : M ++ [Ob.lst (rs.take u)] = M1 at eSl
  have g1 : M1[M.length]? = some (.lst (rs.take u)) := by rw [← hM1]; exact get_last
  have l1 : M1.length = M.length + 1 := by rw [← hM1]; simp
  have hI : evI cf (.seq (.slc false true (.idx (.var 0) (.con (.str "rows"))) (.con .non) (.var 3))) sg0 M = some (.lst M.length, M1) := by
    rw [evI, eSl]; simp [srcOf, lstAt, g1]
  have hlc := lc_pure (src := .lst M.length) (bind := tgP (.tup [6, 7])) (c := fun sg M => evE cf (.con (.bl true)) sg M) (e := fun sg M => evE cf (.var 6) sg M) (sg := wipeP sg0 [6, 7]) (M1 := M1) (xs := rs.take u) (fun _ => true) key1
    (by
      intro acc i
      have : (M1 ++ [Ob.lst acc])[M.length]? = some (.lst (rs.take u)) := (Frm.app (S := [])).get g1 (by simp)
      simp [Src.get, lstAt, this])
    (by
      intro x hx acc
      obtain ⟨k, v, rfl, _⟩ := hr x (List.mem_of_mem_take hx)
      exact ⟨[some (.ref o), some (.int age), some (.int now), some (.int u), none, none, some (.str k), some v], rfl, e_con, fun _ => e_var rfl⟩)
    (by simp; omega)
  rw [filter_all] at hlc
  have eLC : evE cf (.lc [6, 7] (.tup [6, 7]) (.seq (.slc false true (.idx (.var 0) (.con (.str "rows"))) (.con .non) (.var 3))) (.con (.bl true)) (.var 6)) sg0 M = some (.ref M1.length, M1 ++ [Ob.lst ks]) := by
    rw [evE, hI]; simp only [hlc]; rfl
  let kl := M1.length
  have g2 : (M1 ++ [Ob.lst ks])[kl]? = some (.lst ks) := get_last
  have F2 : Frm [] M (M1 ++ [Ob.lst ks]) := by rw [← hM1]; exact Frm.trans .app .app
  generalize hM2 : M1 ++ [Ob.lst ks] = M2 at *
  have L2 : Lg M2 o rs g si se tb co he := h.frm F2 (by simp)
  -- the loop
  let I : Nat → Sg → Mm → Prop := fun i sg N => ∃ (g' si' : List (Key × PV)) (o5 : Option PV), sg = [some (.ref o), some (.int age), some (.int now), some (.int u), some (.ref kl), o5, none, none] ∧ Lg N o rs g' si' se tb co he ∧ SiOk si' ∧ g'.length ≤ g.length + i ∧ si'.length ≤ si.length + i ∧ N[kl]? = some (.lst ks) ∧ Frm [o + 2, o + 3] M N
  obtain ⟨sg', M3, e3, g3, si3, o5, hsg, L3, hs3, gl3, sl3, gk3, F3⟩ := for_inv (src := .rng 0 u) (bind := tgP (.name 5)) (body := fun sg M => evSs cf b1_l_swept sg M) I (n := u) (sg := [some (.ref o), some (.int age), some (.int now), some (.int u), some (.ref kl), none, none, none]) (M := M2) (by omega)
    ⟨g, si, none, rfl, L2, hs, by omega, by omega, g2, F2.mono (by simp)⟩
    (by
      intro i sg N hi hI
      obtain ⟨g', si', o5, rfl, L, hs', gl, sl, gk, F⟩ := hI
      let sg : Sg := [some (.ref o), some (.int age), some (.int now), some (.int u), some (.ref kl), some (.int (0 + i)), none, none]
      have hik : i < ks.length := by omega
      have e0 : ∀ {N : Mm}, evE cf (.var 0) sg N = some (.ref o, N) := e_var rfl
      have e4 : ∀ {N : Mm}, evE cf (.var 4) sg N = some (.ref kl, N) := e_var rfl
      have e5 : ∀ {N : Mm}, evE cf (.var 5) sg N = some (.int (0 + i), N) := e_var rfl
      have eX : evE cf (.idx (.var 4) (.var 5)) sg N = some (ks[i], N) := e_idx e4 e5 (by
        simp only [idxP, gk, atI, ixN]
        rw [if_pos (by omega), if_pos (by omega)]
        show ks[(0 + (i : Int)).toNat]? = some ks[i]
        rw [show (0 + (i : Int)).toNat = i by omega, List.getElem?_eq_getElem hik])
      obtain ⟨k, hk⟩ := hkf ks[i] (List.getElem_mem hik)
      generalize hcut : cutP ks (some (0 + (i : Int) + 1)) none = ct
      have eC : evE cf (.slc true false (.var 4) (.bop .add (.var 5) (.con (.int 1))) (.con .non)) sg N = some (.ref N.length, N ++ [Ob.lst ct]) := by
        rw [evE, e4]
        simp only [e_bop e5 e_con (show bopP N .add (.int (0 + i)) (.int 1) = some (.int (0 + i + 1), N) from rfl), e_con, slcP, optI, lstAt, gk, hcut]
      have gN : (N ++ [Ob.lst ct])[N.length]? = some (.lst ct) := get_last
      have FN : Frm [] N (N ++ [Ob.lst ct]) := .app
      have L' := L.frm FN (by simp)
      have gk' := FN.get gk (by simp)
      have F' : Frm [o + 2, o + 3] M (N ++ [Ob.lst ct]) := F.trans (FN.mono (by simp))
      have hct : ct.all flatP = true := by
        rw [List.all_eq_true]
        intro x hx
        rw [← hcut] at hx
        obtain ⟨k', rfl⟩ := hkf x (cut_mem hx)
        rfl
      have eIn : evE cf (.cmp .isin (.idx (.var 4) (.var 5)) (.slc true false (.var 4) (.bop .add (.var 5) (.con (.int 1))) (.con .non))) sg N = some (.bl (ct.any fun y => eqF y ks[i]), N ++ [Ob.lst ct]) := e_cmp eX eC (by
        simp only [cmpP, isIn, gN, inP, hct, hk]; rfl)
      generalize N ++ [Ob.lst ct] = N1 at *
      -- gone
      have step1 : ∃ (g1 : List (Key × PV)) (N2 : Mm), evS cf (.iff (.cmp .isin (.idx (.var 4) (.var 5)) (.slc true false (.var 4) (.bop .add (.var 5) (.con (.int 1))) (.con .non))) (.cons (.sto (.idx (.var 0) (.con (.str "gone"))) (.var 5) (.con (.bl true))) .nil) .nil) sg N = some (.nx sg, N2) ∧ Lg N2 o rs g1 si' se tb co he ∧ g1.length ≤ g'.length + 1 ∧ N2[kl]? = some (.lst ks) ∧ Frm [o + 2, o + 3] M N2 := by
        cases hb : (ct.any fun y => eqF y ks[i]) with
        | false =>
          rw [hb] at eIn
          exact ⟨g', N1, s_ifF eIn ss_nil, L', by omega, gk', F'⟩
        | true =>
          rw [hb] at eIn
          have hst : stoP N1 (.ref (o + 2)) (.int (0 + i)) (.bl true) = some (N1.set (o + 2) (.dic (putD g' (.inl (0 + i)) (.bl true)))) := by
            simp only [stoP, L'.g_, keyOf, Option.bind_some]
            rw [if_pos (by have : sizeLine = 16777216 := rfl; omega)]
          refine ⟨_, _, s_ifT eIn (ss_cons (s_sto e_con (e_idx e0 e_con L'.ig) e5 hst) ss_nil), L'.sg _, putD_len _ _ _, ?_, F'.trans (Frm.set (by simp))⟩
          rw [List.getElem?_set_ne (by omega)]; exact gk'
      obtain ⟨g1, N2, s1, La, gla, gka, Fa⟩ := step1
      -- since
      have hmo : mtOk N2 .setd (.ref (o + 3)) = true := by simp [mtOk, dicAt, La.si_]
      have eSi : evE cf (.idx (.var 0) (.con (.str "since"))) sg N2 = some (.ref (o + 3), N2) := e_idx e0 e_con La.isi
      have hes : evEs cf (.cons (.var 5) (.cons (.var 2) .nil)) sg N2 = some ([.int (0 + i), .int now], N2) := es_cons e5 (es_one (e_var rfl))
      have step2 : ∃ (w : PV) (si1 : List (Key × PV)) (N3 : Mm), mthP N2 .setd (.ref (o + 3)) [.int (0 + i), .int now] = some (w, N3) ∧ Lg N3 o rs g1 si1 se tb co he ∧ SiOk si1 ∧ si1.length ≤ si'.length + 1 ∧ N3[kl]? = some (.lst ks) ∧ Frm [o + 2, o + 3] M N3 := by
        have hlt : si'.length < sizeLine := by have : sizeLine = 16777216 := rfl; omega
        cases hgd : getD si' (.inl (0 + (i : Int))) with
        | some w =>
          refine ⟨w, si', N2, ?_, La, hs', by omega, gka, Fa⟩
          simp only [mthP, dicAt, La.si_, Option.bind_some, keyOf]
          rw [if_pos hlt, hgd]
        | none =>
          refine ⟨.int now, putD si' (.inl (0 + i)) (.int now), N2.set (o + 3) (.dic (putD si' (.inl (0 + i)) (.int now))), ?_, La.ssi _, ?_, putD_len _ _ _, ?_, Fa.trans (Frm.set (by simp))⟩
          · simp only [mthP, dicAt, La.si_, Option.bind_some, keyOf]
            rw [if_pos hlt, hgd]
          · intro kv hkv
            rcases putD_mem hkv with q | q
            · exact hs' kv q
            · rw [q]; exact ⟨now, rfl⟩
          · rw [List.getElem?_set_ne (by omega)]; exact gka
      obtain ⟨w, si1, N3, e6, Lb, hsb, slb, gkb, Fb⟩ := step2
      have s2 : evS cf (.exp (.mth .setd (.idx (.var 0) (.con (.str "since"))) (.cons (.var 5) (.cons (.var 2) .nil)))) sg N2 = some (.nx sg, N3) := s_exp (e_mth eSi hmo hes e6)
      exact ⟨.int (0 + i), sg, sg, N3, by simp [Src.get, hi], rfl, ss_cons s1 (ss_cons s2 ss_nil), g1, si1, _, rfl, Lb, hsb, by omega, by omega, gkb, Fb⟩)
    (by intro sg N _; simp [Src.get])
  subst hsg
  obtain ⟨g4, M4, e4, L4, gl4, F4, _⟩ := Lv M3 o rs g3 si3 se tb co he age now L3 hr hs3 hl (by omega)
  refine ⟨g4, si3, M4, ?_, L4, hs3, by omega, by omega, F3.trans (F4.mono (by simp))⟩
  have hro : rngOk (u : Int) = true := by simp [rngOk]; omega
  have hI2 : evI cf (.rng1 (.var 3)) [some (.ref o), some (.int age), some (.int now), some (.int u), some (.ref kl), none, none, none] M2 = some (.rng 0 u, M2) := by
    rw [evI, e_var (v := .int u) rfl]; simp [hro]
  have hf : evS cf (.for_ (.name 5) (.rng1 (.var 3)) b1_l_swept) [some (.ref o), some (.int age), some (.int now), some (.int u), some (.ref kl), none, none, none] M2 = some (.nx [some (.ref o), some (.int age), some (.int now), some (.int u), some (.ref kl), o5, none, none], M3) := by rw [evS, hI2]; exact e3
  exact run_nx rfl (ss_cons (s_asg eLC rfl) (ss_cons hf (ss_cons (s_exp (e_call (es_cons (e_var rfl) (es_cons (e_var rfl) (es_one (e_var rfl)))) e4)) ss_nil)))
end Mp

/-! Mg3 (k66): heard. -/
namespace Mp
open PySem L2

/-- what a read heard -/
structure GotOk (lo hi : Int) (got : List PV) : Prop where
  asc : (got.map plc).Pairwise (· < ·)
  el : ∀ x ∈ got, ∃ (i : Int) (k : Str) (v : PV), x = .tup [.int i, .str k, v] ∧ KeyOk k ∧ (v = .non ∨ ∃ j : Int, v = .int j) ∧ lo ≤ i ∧ i < hi
theorem GotOk.nil {lo hi : Int} : GotOk lo hi [] := ⟨by simp, by simp⟩
theorem GotOk.mono {lo hi hi' : Int} {got : List PV} (h : GotOk lo hi got) (hh : hi ≤ hi') : GotOk lo hi' got := ⟨h.asc, fun x hx => by
  obtain ⟨i, k, v, a, b, c, d, e⟩ := h.el x hx
  exact ⟨i, k, v, a, b, c, d, by omega⟩⟩
theorem GotOk.snoc {lo hi : Int} {got : List PV} {k : Str} {v : PV} (h : GotOk lo hi got) (hl : lo ≤ hi) (hk : KeyOk k) (hv : v = .non ∨ ∃ j : Int, v = .int j) : GotOk lo (hi + 1) (got ++ [.tup [.int hi, .str k, v]]) := by
  refine ⟨?_, fun x hx => ?_⟩
  · rw [List.map_append, List.pairwise_append]
    refine ⟨h.asc, by simp, fun a ha c hc => ?_⟩
    obtain ⟨x, hx, rfl⟩ := List.mem_map.mp ha
    obtain ⟨i, k', v', rfl, _, _, _, hi'⟩ := h.el x hx
    simp at hc
    subst hc
    exact hi'
  · rcases List.mem_append.mp hx with hx | hx
    · exact (h.mono (by omega)).el x hx
    · simp at hx
      exact ⟨hi, k, v, hx, hk, hv, hl, by omega⟩
theorem dropD_len (d : List (Key × PV)) (k : Key) : (dropD d k).length ≤ d.length := List.length_filter_le _ _
theorem heard_ok (cf : CF) {M : Mm} {o n : Nat} {rs : List PV} {g si se tb d : List (Key × PV)} {co he : List PV} {p s u : Int} (h : Lg M o rs g si se tb co he) (hr : ∀ x ∈ rs, RowOk x) (hl : rs.length ≤ 14)
    (hse : getD se (.inl p) = some (.int s)) (s0 : 0 ≤ s) (su : s ≤ u) (ur : u ≤ (rs.length : Int)) (htb : getD tb (.inl p) = some (.ref n)) (hn : o + 7 < n) (hd : M[n]? = some (.dic d)) (hdl : d.length < 90000) (hsl : se.length < 90000) :
    ∃ got d' M', runD cf ir_l_heard [.ref o, .int p, .int u] M = some (.ref M.length, M') ∧ Lg M' o rs g si (putD se (.inl p) (.int u)) tb co he ∧ M'[M.length]? = some (.lst got) ∧ GotOk s u got ∧ got.length ≤ 14 ∧ M'[n]? = some (.dic d') ∧ d'.length ≤ d.length + 14 ∧ Frm [o + 4, n] M M' := by
  have hnl := lt_of hd
  have hol := lt_of h.he_
  let gl := M.length
  let I : Nat → Sg → Mm → Prop := fun i sg N => ∃ (got : List PV) (d' : List (Key × PV)) (o4 : Option PV), sg = [some (.ref o), some (.int p), some (.int u), some (.ref gl), o4] ∧ Lg N o rs g si se tb co he ∧ N[gl]? = some (.lst got) ∧ GotOk s (s + i) got ∧ got.length ≤ i ∧ N[n]? = some (.dic d') ∧ d'.length ≤ d.length + i ∧ Frm [n] M N
  have F0 : Frm [] M (M ++ [Ob.lst []]) := .app
  obtain ⟨sg', M1, e1, got, d1, o4, hsg, L1, g1, G1, gl1, n1, dl1, F1⟩ := for_inv (src := .rng s (u - s).toNat) (bind := tgP (.name 4)) (body := fun sg M => evSs cf b1_l_heard sg M) I (n := (u - s).toNat) (sg := [some (.ref o), some (.int p), some (.int u), some (.ref gl), none]) (M := M ++ [Ob.lst []]) (by omega)
    ⟨[], d, none, rfl, h.frm F0 (by simp), get_last, .nil, by simp, F0.get hd (by simp), by omega, F0.mono (by simp)⟩
    (by
      intro i sg N hi hI
      obtain ⟨got, d', o4, rfl, L, hg, G, gll, hn', dl, F⟩ := hI
      let sg : Sg := [some (.ref o), some (.int p), some (.int u), some (.ref gl), some (.int (s + i))]
      have hir : (s + i).toNat < rs.length := by omega
      obtain ⟨k, v, hx, hk, hv⟩ := hr rs[(s + i).toNat] (List.getElem_mem hir)
      have e0 : ∀ {N : Mm}, evE cf (.var 0) sg N = some (.ref o, N) := e_var rfl
      have e1 : ∀ {N : Mm}, evE cf (.var 1) sg N = some (.int p, N) := e_var rfl
      have e3 : ∀ {N : Mm}, evE cf (.var 3) sg N = some (.ref gl, N) := e_var rfl
      have e4 : ∀ {N : Mm}, evE cf (.var 4) sg N = some (.int (s + i), N) := e_var rfl
      have eRow : ∀ {N : Mm}, Lg N o rs g si se tb co he → evE cf (.idx (.idx (.var 0) (.con (.str "rows"))) (.var 4)) sg N = some (.tup [.str k, v], N) := fun {N} L => e_idx (e_idx e0 e_con L.ir) e4 (by
        simp only [idxP, L.r_, atI, ixN]
        rw [if_pos (by omega), if_pos (by omega)]
        show rs[(s + i).toNat]? = _
        rw [List.getElem?_eq_getElem hir, hx])
      have eTab : ∀ {N : Mm}, Lg N o rs g si se tb co he → evE cf (.idx (.idx (.var 0) (.con (.str "tables"))) (.var 1)) sg N = some (.ref n, N) := fun {N} L => e_idx (e_idx e0 e_con L.itb) e1 (by
        simp only [idxP, L.tb_, keyOf, Option.bind_some]; exact htb)
      have eNo : evE cf (.cmp .notin (.var 4) (.idx (.var 0) (.con (.str "gone")))) sg N = some (.bl (!(getD g (.inl (s + i))).isSome), N) := e_cmp e4 (e_idx e0 e_con L.ig) (by simp only [cmpP, isIn, L.g_, keyOf, Option.map_some])
      have hget : (Src.rng s (u - s).toNat).get N i = some (some (.int (s + i))) := by simp [Src.get, hi]
      cases hgo : (getD g (.inl (s + (i : Int)))).isSome with
      | true =>
        rw [hgo] at eNo
        exact ⟨_, sg, sg, N, hget, rfl, ss_cons (s_ifF eNo ss_nil) ss_nil, got, d', _, rfl, L, hg, G.mono (by omega), by omega, hn', by omega, F⟩
      | false =>
        rw [hgo] at eNo
        have ngl : n ≠ gl := by have : gl = M.length := rfl; omega
        -- append
        have eT : evE cf (.bop .add (.tup (.cons (.var 4) .nil)) (.idx (.idx (.var 0) (.con (.str "rows"))) (.var 4))) sg N = some (.tup [.int (s + i), .str k, v], N) := e_bop (e_tup (es_one e4) (by simp)) (eRow L) (by simp [bopP, sizeLine])
        have a1 : evS cf (.exp (.mth .append (.var 3) (.cons (.bop .add (.tup (.cons (.var 4) .nil)) (.idx (.idx (.var 0) (.con (.str "rows"))) (.var 4))) .nil))) sg N = some (.nx sg, N.set gl (.lst (got ++ [.tup [.int (s + i), .str k, v]]))) :=
          s_exp (e_mth (q := some (.non, N.set gl (.lst (got ++ [.tup [.int (s + i), .str k, v]])))) e3 (by simp [mtOk, lstAt, hg]) (es_one eT) (by
            simp only [mthP, lstAt, hg, Option.bind_some]
            rw [if_pos (by have : sizeLine = 16777216 := rfl; omega)]))
        have Fa : Frm [gl] N (N.set gl (.lst (got ++ [.tup [.int (s + i), .str k, v]]))) := Frm.set (by simp)
        have La := L.frm Fa (by intro j hj; simp at hj; have : gl = M.length := rfl; omega)
        have ga : (N.set gl (.lst (got ++ [.tup [.int (s + i), .str k, v]])))[gl]? = some (.lst (got ++ [.tup [.int (s + i), .str k, v]])) := List.getElem?_set_self (lt_of hg)
        have na := Fa.get hn' (by simpa using ngl)
        have FMa : Frm [n] M (N.set gl (.lst (got ++ [.tup [.int (s + i), .str k, v]]))) := F.wr' (Nat.le_refl _)
        generalize N.set gl (.lst (got ++ [.tup [.int (s + i), .str k, v]])) = Na at *
        -- pop
        have eK : ∀ {N : Mm}, Lg N o rs g si se tb co he → evE cf (.idx (.idx (.idx (.var 0) (.con (.str "rows"))) (.var 4)) (.con (.int 0))) sg N = some (.str k, N) := fun L => ix_ (eRow L) at0
        have eV : ∀ {N : Mm}, Lg N o rs g si se tb co he → evE cf (.idx (.idx (.idx (.var 0) (.con (.str "rows"))) (.var 4)) (.con (.int 1))) sg N = some (v, N) := fun L => ix_ (eRow L) at1
        have pop : ∃ (w : PV) (d1 : List (Key × PV)) (Nb : Mm), mthP Na .dpop2 (.ref n) [.str k, .non] = some (w, Nb) ∧ Nb[n]? = some (.dic d1) ∧ d1.length ≤ d'.length ∧ Frm [n] Na Nb := by
          cases hgk : getD d' (.inr k) with
          | some w => exact ⟨w, dropD d' (.inr k), Na.set n (.dic (dropD d' (.inr k))), by simp only [mthP, dicAt, na, Option.bind_some, keyOf, Option.map_some, hgk], List.getElem?_set_self (lt_of na), dropD_len _ _, Frm.set (by simp)⟩
          | none => exact ⟨.non, d', Na, by simp only [mthP, dicAt, na, Option.bind_some, keyOf, Option.map_some, hgk], na, Nat.le_refl _, .refl⟩
        obtain ⟨w, d1, Nb, p1, nb, dlb, Fb⟩ := pop
        have a2 : evS cf (.exp (.mth .dpop2 (.idx (.idx (.var 0) (.con (.str "tables"))) (.var 1)) (.cons (.idx (.idx (.idx (.var 0) (.con (.str "rows"))) (.var 4)) (.con (.int 0))) (.cons (.con .non) .nil)))) sg Na = some (.nx sg, Nb) :=
          s_exp (e_mth (eTab La) (by simp [mtOk, dicAt, na]) (es_cons (eK La) (es_one e_con)) p1)
        have Lb := La.frm Fb (by intro j hj; simp at hj; omega)
        have gb := Fb.get ga (by simpa using ngl.symm)
        -- put
        have put : ∃ (d2 : List (Key × PV)) (Nc : Mm), evS cf (.iff (.cmp .isNN (.idx (.idx (.idx (.var 0) (.con (.str "rows"))) (.var 4)) (.con (.int 1))) (.con .non)) (.cons (.sto (.idx (.idx (.var 0) (.con (.str "tables"))) (.var 1)) (.idx (.idx (.idx (.var 0) (.con (.str "rows"))) (.var 4)) (.con (.int 0))) (.idx (.idx (.idx (.var 0) (.con (.str "rows"))) (.var 4)) (.con (.int 1)))) .nil) .nil) sg Nb = some (.nx sg, Nc) ∧ Nc[n]? = some (.dic d2) ∧ d2.length ≤ d1.length + 1 ∧ Frm [n] Nb Nc := by
          have eC : evE cf (.cmp .isNN (.idx (.idx (.idx (.var 0) (.con (.str "rows"))) (.var 4)) (.con (.int 1))) (.con .non)) sg Nb = some (.bl (!nonB v), Nb) := e_cmp (eV Lb) e_con (by cases v <;> rfl)
          cases hnv : nonB v with
          | true =>
            rw [hnv] at eC
            exact ⟨d1, Nb, s_ifF eC ss_nil, nb, by omega, .refl⟩
          | false =>
            rw [hnv] at eC
            have hst : stoP Nb (.ref n) (.str k) v = some (Nb.set n (.dic (putD d1 (.inr k) v))) := by
              simp only [stoP, nb, keyOf, Option.bind_some]
              rw [if_pos (by have : sizeLine = 16777216 := rfl; omega)]
            exact ⟨_, _, s_ifT eC (ss_cons (s_sto (eV Lb) (eTab Lb) (eK Lb) hst) ss_nil), List.getElem?_set_self (lt_of nb), putD_len _ _ _, Frm.set (by simp)⟩
        obtain ⟨d2, Nc, a3, nc, dlc, Fc⟩ := put
        have Lc := Lb.frm Fc (by intro j hj; simp at hj; omega)
        have gc := Fc.get gb (by simpa using ngl.symm)
        refine ⟨_, sg, sg, Nc, hget, rfl, ss_cons (s_ifT eNo (ss_cons a1 (ss_cons a2 (ss_cons a3 ss_nil)))) ss_nil, _, d2, _, rfl, Lc, gc, ?_, by simp; omega, nc, by omega, (FMa.trans Fb).trans Fc⟩
        have := G.snoc (k := k) (v := v) (by omega) hk hv
        rw [show s + (i : Int) + 1 = s + ((i + 1 : Nat) : Int) by omega] at this
        exact this)
    (by intro sg N _; simp [Src.get])
  subst hsg
  have hst : stoP M1 (.ref (o + 4)) (.int p) (.int u) = some (M1.set (o + 4) (.dic (putD se (.inl p) (.int u)))) := by
    simp only [stoP, L1.se_, keyOf, Option.bind_some]
    rw [if_pos (by have : sizeLine = 16777216 := rfl; omega)]
  have Fs : Frm [o + 4] M1 (M1.set (o + 4) (.dic (putD se (.inl p) (.int u)))) := Frm.set (by simp)
  have hglM : gl = M.length := rfl
  refine ⟨got, d1, M1.set (o + 4) (.dic (putD se (.inl p) (.int u))), ?_, L1.sse _, Fs.get g1 (by simp; omega), G1.mono (by omega), by omega, Fs.get n1 (by simp; omega), by omega, (F1.mono (by simp)).trans (Fs.mono (by simp))⟩
  have hro : (rngOk s && rngOk u) = true := by simp [rngOk]; omega
  let sgA : Sg := [some (.ref o), some (.int p), some (.int u), some (.ref gl), none]
  have L0 := h.frm F0 (by simp)
  have hI : evI cf (.rng2 (.idx (.idx (.var 0) (.con (.str "seats"))) (.var 1)) (.var 2)) sgA (M ++ [Ob.lst []]) = some (.rng s (u - s).toNat, M ++ [Ob.lst []]) := by
    rw [evI, e_idx (z := .int s) (e_idx (e_var rfl) e_con L0.ise) (e_var (v := .int p) rfl) (by simp only [idxP, L0.se_, keyOf, Option.bind_some]; exact hse)]
    simp only [e_var (v := .int u) (show sgA[2]? = some (some (.int u)) from rfl)]
    rw [if_pos hro]
  have hf : evS cf (.for_ (.name 4) (.rng2 (.idx (.idx (.var 0) (.con (.str "seats"))) (.var 1)) (.var 2)) b1_l_heard) sgA (M ++ [Ob.lst []]) = some (.nx [some (.ref o), some (.int p), some (.int u), some (.ref gl), o4], M1) := by rw [evS, hI]; exact e1
  have hl0 : evE cf (.lst .nil) [some (.ref o), some (.int p), some (.int u), none, none] M = some (.ref M.length, M ++ [Ob.lst []]) := e_lst es_nil (by simp)
  exact run_ret rfl (ss_cons (sg1 := sgA) (M1 := M ++ [Ob.lst []]) (s_asg hl0 rfl) (ss_cons hf (ss_cons (s_sto (e_var rfl) (e_idx (e_var rfl) e_con L1.ise) (e_var rfl) hst) (ss_ret (e_var rfl)))))
end Mp

/-! Mg4 (k66): did. -/
namespace Mp
open PySem L2

theorem getD_putS {kvs : List (Key × PV)} {k : Key} {v : PV} : getD (putD kvs k v) k = some v := by
  unfold getD putD
  split
  · rename_i h
    induction kvs with
    | nil => simp at h
    | cons a r ih =>
      by_cases e : a.1 = k
      · simp [e]
      · simp only [List.any_cons, decide_eq_false e, Bool.false_or] at h
        simpa [e] using ih h
  · rename_i h
    simp only [List.any_eq_true, decide_eq_true_eq, not_exists, not_and] at h
    have : kvs.find? (fun kv => decide (kv.1 = k)) = none := List.find?_eq_none.mpr fun x hx => by simpa using h x hx
    simp [List.find?_append, this]
theorem getD_putN {kvs : List (Key × PV)} {k k' : Key} {v : PV} (hk : k' ≠ k) : getD (putD kvs k v) k' = getD kvs k' := by
  unfold getD putD
  split
  · rename_i h
    clear h
    induction kvs with
    | nil => rfl
    | cons a r ih =>
      by_cases e : a.1 = k
      · have e2 : ¬ k = k' := fun q => hk q.symm
        have e3 : ¬ a.1 = k' := fun q => hk (q.symm.trans e)
        simpa [e, e2, e3, List.find?_cons] using ih
      · by_cases e3 : a.1 = k'
        · simp [e, e3, List.find?_cons, hk]
        · simpa [e, e3, List.find?_cons] using ih
  · simp [List.find?_append, Ne.symm hk]
/-- what stands: what was before o, the lists behind o + 7; dicts behind stay dicts -/
structure Kp (o : Nat) (M M' : Mm) : Prop where
  len : M.length ≤ M'.length
  low : ∀ i, i < o → i < M.length → M'[i]? = M[i]?
  ls : ∀ n xs, o + 7 < n → M[n]? = some (.lst xs) → M'[n]? = some (.lst xs)
  ds : ∀ n d, o + 7 < n → M[n]? = some (.dic d) → ∃ d', M'[n]? = some (.dic d') ∧ d'.length ≤ d.length + 14
theorem Kp.of {o : Nat} {M M' : Mm} {S : List Nat} (a : Frm S M M') (hs : ∀ i ∈ S, o ≤ i ∧ i ≤ o + 7) : Kp o M M' :=
  ⟨a.len, fun i hi h => a.at_ i (fun q => by have := hs i q; omega) h, fun n xs hn h => a.get h (fun q => by have := hs n q; omega), fun n d hn h => ⟨d, a.get h (fun q => by have := hs n q; omega), by omega⟩⟩
structure Lw (M : Mm) (o : Nat) (rs : List PV) (g si tb : List (Key × PV)) (co he : List PV) (ws : Ws) (G : Nat) : Prop where
  lg : Lg M o rs g si ws.seats tb co he
  row : ∀ x ∈ rs, RowOk x
  many : (rs.length : Int) = ws.many
  sok : SiOk si
  gl : g.length ≤ G
  sil : si.length ≤ G
  tbl : tb.length ≤ G
  tbr : ∀ (p : Int) v, getD ws.seats (.inl p) = some v → ∃ n d, getD tb (.inl p) = some (.ref n) ∧ o + 7 < n ∧ M[n]? = some (.dic d) ∧ d.length ≤ G
  col : co.length = ws.copies.length
  cor : ∀ (i : Nat) v, ws.copies[i]? = some v → ∃ n d, co[i]? = some (.tup [v, .ref n]) ∧ o + 7 < n ∧ M[n]? = some (.dic d) ∧ d.length ≤ G
/-- the same log, a later memory -/
theorem Lw.keep {M M' : Mm} {o : Nat} {rs : List PV} {g si tb g' si' : List (Key × PV)} {co he he' : List PV} {ws : Ws} {G : Nat} (h : Lw M o rs g si tb co he ws G) (L : Lg M' o rs g' si' ws.seats tb co he') (k : Kp o M M') (hs : SiOk si') (hg : g'.length ≤ g.length + 28) (hsi : si'.length ≤ si.length + 28) : Lw M' o rs g' si' tb co he' ws (G + 28) := by
  refine ⟨L, h.row, h.many, hs, by have := h.gl; omega, by have := h.sil; omega, by have := h.tbl; omega, fun p v e => ?_, h.col, fun i v e => ?_⟩
  · obtain ⟨n, d, a, b, c, q⟩ := h.tbr p v e
    obtain ⟨d', c', q'⟩ := k.ds n d b c
    exact ⟨n, d', a, b, c', by omega⟩
  · obtain ⟨n, d, a, b, c, q⟩ := h.cor i v e
    obtain ⟨d', c', q'⟩ := k.ds n d b c
    exact ⟨n, d', a, b, c', by omega⟩
end Mp

/-! Mg5 (k66): did. -/
namespace Mp
open PySem L2

def HHd (cf : CF) : Prop := ∀ (M : Mm) (o n : Nat) (rs : List PV) (g si se tb d : List (Key × PV)) (co he : List PV) (p s u : Int), Lg M o rs g si se tb co he → (∀ x ∈ rs, RowOk x) → rs.length ≤ 14 →
    getD se (.inl p) = some (.int s) → 0 ≤ s → s ≤ u → u ≤ (rs.length : Int) → getD tb (.inl p) = some (.ref n) → o + 7 < n → M[n]? = some (.dic d) → d.length < 90000 → se.length < 90000 →
    ∃ got d' M', cf i_l_heard [.ref o, .int p, .int u] M = some (.ref M.length, M') ∧ Lg M' o rs g si (putD se (.inl p) (.int u)) tb co he ∧ M'[M.length]? = some (.lst got) ∧ GotOk s u got ∧ got.length ≤ 14 ∧ M'[n]? = some (.dic d') ∧ d'.length ≤ d.length + 14 ∧ Frm [o + 4, n] M M'
theorem hhd (j : Nat) : HHd (cfN tab (j + 1)) := fun M o n rs g si se tb d co he p s u h hr hl hse s0 su ur htb hn hd hdl hsl => heard_ok (cfN tab j) h hr hl hse s0 su ur htb hn hd hdl hsl
theorem in2 {cf : CF} {sg : Sg} {N : Mm} {w a b : String} (h : sg[2]? = some (some (.str (Str.ofString w)))) : evE cf (.cmp .isin (.var 2) (.tup (.cons (.con (.str (Str.ofString a))) (.cons (.con (.str (Str.ofString b))) .nil)))) sg N = some (.bl (a == w || b == w), N) :=
  e_cmp (e_var h) (e_tup (es_cons e_con (es_one e_con)) (by simp)) (by simp [cmpP, isIn, inP, flatP, eqF])
theorem eq2 {cf : CF} {sg : Sg} {N : Mm} {w a : String} (h : sg[2]? = some (some (.str (Str.ofString w)))) : evE cf (.cmp .eq (.var 2) (.con (.str (Str.ofString a)))) sg N = some (.bl (w == a), N) :=
  e_cmp (e_var h) e_con (by simp only [cmpP, eqP_str, str_eq]; rfl)
abbrev Heard (M' : Mm) (o : Nat) (ws : Ws) (e : Ev) (v : PV) : Prop := ∀ r u, e = .read r u → ∃ n got s, v = .ref n ∧ o + 7 < n ∧ M'[n]? = some (.lst got) ∧ GotOk s u got ∧ got.length ≤ 14 ∧ getD ws.seats (.inl r) = some (.int s)
/-- put or drop -/
theorem did_app {cf : CF} {M : Mm} {o : Nat} {rs : List PV} {g si tb : List (Key × PV)} {co he : List PV} {ws ws' : Ws} {G : Nat} {x : PV} (h : Lw M o rs g si tb co he ws G) (hl : rs.length ≤ 14) (hx : RowOk x) (hw : ws' = { ws with many := ws.many + 1 }) :
    mthP M .append (.ref (o + 1)) [x] = some (.non, M.set (o + 1) (.lst (rs ++ [x]))) ∧ Lw (M.set (o + 1) (.lst (rs ++ [x]))) o (rs ++ [x]) g si tb co he ws' (G + 28) ∧ Kp o M (M.set (o + 1) (.lst (rs ++ [x]))) := by
  have k : Kp o M (M.set (o + 1) (.lst (rs ++ [x]))) := Kp.of (S := [o + 1]) (Frm.set (by simp)) (by simp)
  refine ⟨?_, ?_, k⟩
  · simp only [mthP, lstAt, h.lg.r_, Option.bind_some]
    rw [if_pos (by have : sizeLine = 16777216 := rfl; omega)]
  · subst hw
    refine ⟨h.lg.sr _, ?_, ?_, h.sok, by have := h.gl; omega, by have := h.sil; omega, by have := h.tbl; omega, fun p v e => ?_, h.col, fun i v e => ?_⟩
    · intro y hy
      rcases List.mem_append.mp hy with hy | hy
      · exact h.row y hy
      · simp at hy; rw [hy]; exact hx
    · have := h.many
      show (((rs ++ [x]).length : Nat) : Int) = ws.many + 1
      simp; omega
    · obtain ⟨n, d, a, b, c, q⟩ := h.tbr p v e
      obtain ⟨d', c', q'⟩ := k.ds n d b c
      exact ⟨n, d', a, b, c', by omega⟩
    · obtain ⟨n, d, a, b, c, q⟩ := h.cor i v e
      obtain ⟨d', c', q'⟩ := k.ds n d b c
      exact ⟨n, d', a, b, c', by omega⟩
/-- a reader is set: join, load -/
theorem did_sto {M : Mm} {o : Nat} {rs : List PV} {g si tb : List (Key × PV)} {co he : List PV} {ws : Ws} {G : Nat} {p : Int} {v : PV} {d : List (Key × PV)} (h : Lw M o rs g si tb co he ws G) (hG : G < 80000) (hsl : ws.seats.length < 80000) (hd : d.length ≤ G + 14) :
    ∃ M1 M2, stoP (M ++ [Ob.dic d]) (.ref (o + 4)) (.int p) v = some M1 ∧ Lg M1 o rs g si (putD ws.seats (.inl p) v) tb co he ∧ stoP M1 (.ref (o + 5)) (.int p) (.ref M.length) = some M2 ∧ Lw M2 o rs g si (putD tb (.inl p) (.ref M.length)) co he { ws with seats := putD ws.seats (.inl p) v } (G + 28) ∧ Kp o M M2 := by
  have ho := lt_of h.lg.he_
  have F0 : Frm [] M (M ++ [Ob.dic d]) := .app
  have L0 := h.lg.frm F0 (by simp)
  have g0 : (M ++ [Ob.dic d])[M.length]? = some (.dic d) := get_last
  generalize M ++ [Ob.dic d] = N at *
  have L1 := L0.sse (putD ws.seats (.inl p) v)
  have F1 : Frm [o + 4, o + 5] N (N.set (o + 4) (.dic (putD ws.seats (.inl p) v))) := Frm.set (by simp)
  have L2 := L1.stb (putD tb (.inl p) (.ref M.length))
  have F2 : Frm [o + 4, o + 5] N ((N.set (o + 4) (.dic (putD ws.seats (.inl p) v))).set (o + 5) (.dic (putD tb (.inl p) (.ref M.length)))) := F1.trans (Frm.set (by simp))
  have Fa : Frm [o + 4, o + 5] M ((N.set (o + 4) (.dic (putD ws.seats (.inl p) v))).set (o + 5) (.dic (putD tb (.inl p) (.ref M.length)))) := (F0.mono (by simp)).trans F2
  have k : Kp o M ((N.set (o + 4) (.dic (putD ws.seats (.inl p) v))).set (o + 5) (.dic (putD tb (.inl p) (.ref M.length)))) := Kp.of Fa (by simp)
  have g2 := F2.get g0 (by simp; omega)
  refine ⟨_, _, ?_, L1, ?_, ⟨L2, h.row, h.many, h.sok, by have := h.gl; omega, by have := h.sil; omega, ?_, fun q w e => ?_, h.col, fun i w e => ?_⟩, k⟩
  · simp only [stoP, L0.se_, keyOf, Option.bind_some]
    rw [if_pos (by have : sizeLine = 16777216 := rfl; omega)]
  · simp only [stoP, L1.tb_, keyOf, Option.bind_some]
    rw [if_pos (by have : sizeLine = 16777216 := rfl; have := h.tbl; omega)]
  · have := putD_len tb (.inl p) (.ref M.length)
    have := h.tbl
    omega
  · by_cases hq : q = p
    · subst hq
      exact ⟨M.length, d, getD_putS, ho, g2, by omega⟩
    · have hne : (Sum.inl q : Key) ≠ .inl p := fun z => hq (Sum.inl.inj z)
      have e' : getD (putD ws.seats (.inl p) v) (.inl q) = some w := e
      rw [getD_putN hne] at e'
      obtain ⟨n, d1, a, b, c, z⟩ := h.tbr q w e'
      obtain ⟨d', c', q'⟩ := k.ds n d1 b c
      exact ⟨n, d', by rw [getD_putN hne]; exact a, b, c', by omega⟩
  · obtain ⟨n, d1, a, b, c, q⟩ := h.cor i w e
    obtain ⟨d', c', q'⟩ := k.ds n d1 b c
    exact ⟨n, d', a, b, c', by omega⟩
end Mp

/-! Mg6 (k66): did, whole. -/
namespace Mp
open PySem L2

theorem Lw.mono {M : Mm} {o : Nat} {rs : List PV} {g si tb : List (Key × PV)} {co he : List PV} {ws : Ws} {G G' : Nat} (h : Lw M o rs g si tb co he ws G) (hG : G ≤ G') : Lw M o rs g si tb co he ws G' := by
  refine ⟨h.lg, h.row, h.many, h.sok, Nat.le_trans h.gl hG, Nat.le_trans h.sil hG, Nat.le_trans h.tbl hG, fun p v e => ?_, h.col, fun i v e => ?_⟩
  · obtain ⟨n, d, a, b, c, q⟩ := h.tbr p v e
    exact ⟨n, d, a, b, c, by omega⟩
  · obtain ⟨n, d, a, b, c, q⟩ := h.cor i v e
    exact ⟨n, d, a, b, c, by omega⟩
theorem Kp.trans {o : Nat} {M1 M2 M3 : Mm} (a : Frm [] M1 M2) (b : Kp o M2 M3) : Kp o M1 M3 :=
  ⟨Nat.le_trans a.len b.len, fun i h1 h2 => (b.low i h1 (Nat.lt_of_lt_of_le h2 a.len)).trans (a.at_ i (by simp) h2), fun n xs h1 h2 => b.ls n xs h1 (a.get h2 (by simp)), fun n d h1 h2 => b.ds n d h1 (a.get h2 (by simp))⟩
theorem s_sto2 {cf : CF} {sg : Sg} {M M1 M2 M3 M4 M5 M6 M7 : Mm} {o1 i1 o2 i2 v : E} {x y p q p2 q2 : PV} (h : evE cf v sg M = some (.tup [x, y], M1)) (h1 : evE cf o1 sg M1 = some (p, M2)) (h2 : evE cf i1 sg M2 = some (q, M3)) (h3 : stoP M3 p q x = some M4) (h4 : evE cf o2 sg M4 = some (p2, M5)) (h5 : evE cf i2 sg M5 = some (q2, M6)) (h6 : stoP M6 p2 q2 y = some M7) : evS cf (.sto2 o1 i1 o2 i2 v) sg M = some (.nx sg, M7) := by
  rw [evS, h]; simp only [h1, h2, h3, h4, h5, h6]; rfl
theorem did_ok {cf : CF} (Hd : HHd cf) {M : Mm} {o : Nat} {rs : List PV} {g si tb : List (Key × PV)} {co he : List PV} {ws ws' : Ws} {G m : Nat} {e : Ev} (h : Lw M o rs g si tb co he ws G) (hG : G < 79000) (hl : rs.length ≤ 14) (wo : WsOk ws m) (hm : m < 1000) (eo : EvOk e) (hst : ws.step e = some ws') (hc : canB ws e = true) :
    ∃ v rs' tb' co' M', runD cf ir_l_did [.ref o, e.pv] M = some (v, M') ∧ Lw M' o rs' g si tb' co' he ws' (G + 56) ∧ Kp o M M' ∧ Heard M' o ws e v := by
  have ho := lt_of h.lg.he_
  have hsl := wo.sl
  have hcl := wo.cl
  cases e with
  | put k v =>
    have hw : ws' = { ws with many := ws.many + 1 } := by simpa [Ws.step] using hst.symm
    obtain ⟨a1, a2, a3⟩ := did_app (cf := cf) (x := .tup [.str k, .int v]) h hl ⟨k, .int v, rfl, eo.1, .inr ⟨v, rfl⟩⟩ hw
    let sg : Sg := [some (.ref o), some (.tup [.str "put", .str k, .int v]), some (.str "put"), none]
    have e1 : ∀ {N : Mm}, evE cf (.var 1) sg N = some (.tup [.str "put", .str k, .int v], N) := e_var rfl
    have eT : evE cf (.tup (.cons (.idx (.var 1) (.con (.int 1))) (.cons (.ite (.cmp .eq (.var 2) (.con (.str "put"))) (.idx (.var 1) (.con (.int 2))) (.con .non)) .nil))) sg M = some (.tup [.str k, .int v], M) :=
      e_tup (es_cons (ix_ e1 at1) (es_one (e_iteT (eq2 (w := "put") rfl) (ix_ e1 at2)))) (by simp)
    have s1 : evS cf (.exp (.mth .append (.idx (.var 0) (.con (.str "rows"))) (.cons (.tup (.cons (.idx (.var 1) (.con (.int 1))) (.cons (.ite (.cmp .eq (.var 2) (.con (.str "put"))) (.idx (.var 1) (.con (.int 2))) (.con .non)) .nil))) .nil))) sg M = some (.nx sg, M.set (o + 1) (.lst (rs ++ [.tup [.str k, .int v]]))) :=
      s_exp (e_mth (e_idx (e_var rfl) e_con h.lg.ir) (by simp [mtOk, lstAt, h.lg.r_]) (es_one eT) a1)
    have eR : evE cf (.bop .sub (.blt .len (.cons (.idx (.var 0) (.con (.str "rows"))) .nil)) (.con (.int 1))) sg (M.set (o + 1) (.lst (rs ++ [.tup [.str k, .int v]]))) = some (.int (((rs ++ [PV.tup [.str k, .int v]]).length : Int) - 1), M.set (o + 1) (.lst (rs ++ [.tup [.str k, .int v]]))) :=
      e_bop (e_blt (q := some (.int ((rs ++ [PV.tup [.str k, .int v]]).length : Int), _)) (es_one (e_idx (e_var rfl) e_con a2.lg.ir)) (by simp only [bltP, a2.lg.r_])) e_con rfl
    exact ⟨_, _, _, _, _, run_ret rfl (ss_cons (s_asg (ix_ (xs := [.str "put", .str k, .int v]) (e_var rfl) at0) rfl) (ss_if (s_ifT (in2 (w := "put") rfl) (ss_cons s1 (ss_ret eR))))), a2.mono (by omega), a3, fun r u z => by cases z⟩
  | drop k =>
    have hw : ws' = { ws with many := ws.many + 1 } := by simpa [Ws.step] using hst.symm
    obtain ⟨a1, a2, a3⟩ := did_app (cf := cf) (x := .tup [.str k, .non]) h hl ⟨k, .non, rfl, eo, .inl rfl⟩ hw
    let sg : Sg := [some (.ref o), some (.tup [.str "drop", .str k]), some (.str "drop"), none]
    have e1 : ∀ {N : Mm}, evE cf (.var 1) sg N = some (.tup [.str "drop", .str k], N) := e_var rfl
    have eT : evE cf (.tup (.cons (.idx (.var 1) (.con (.int 1))) (.cons (.ite (.cmp .eq (.var 2) (.con (.str "put"))) (.idx (.var 1) (.con (.int 2))) (.con .non)) .nil))) sg M = some (.tup [.str k, .non], M) :=
      e_tup (es_cons (ix_ e1 at1) (es_one (e_iteF (eq2 (w := "drop") rfl) e_con))) (by simp)
    have s1 : evS cf (.exp (.mth .append (.idx (.var 0) (.con (.str "rows"))) (.cons (.tup (.cons (.idx (.var 1) (.con (.int 1))) (.cons (.ite (.cmp .eq (.var 2) (.con (.str "put"))) (.idx (.var 1) (.con (.int 2))) (.con .non)) .nil))) .nil))) sg M = some (.nx sg, M.set (o + 1) (.lst (rs ++ [.tup [.str k, .non]]))) :=
      s_exp (e_mth (e_idx (e_var rfl) e_con h.lg.ir) (by simp [mtOk, lstAt, h.lg.r_]) (es_one eT) a1)
    have eR : evE cf (.bop .sub (.blt .len (.cons (.idx (.var 0) (.con (.str "rows"))) .nil)) (.con (.int 1))) sg (M.set (o + 1) (.lst (rs ++ [.tup [.str k, .non]]))) = some (.int (((rs ++ [PV.tup [.str k, .non]]).length : Int) - 1), M.set (o + 1) (.lst (rs ++ [.tup [.str k, .non]]))) :=
      e_bop (e_blt (q := some (.int ((rs ++ [PV.tup [.str k, .non]]).length : Int), _)) (es_one (e_idx (e_var rfl) e_con a2.lg.ir)) (by simp only [bltP, a2.lg.r_])) e_con rfl
    exact ⟨_, _, _, _, _, run_ret rfl (ss_cons (s_asg (ix_ (xs := [.str "drop", .str k]) (e_var rfl) at0) rfl) (ss_if (s_ifT (in2 (w := "drop") rfl) (ss_cons s1 (ss_ret eR))))), a2.mono (by omega), a3, fun r u z => by cases z⟩
  | read r u =>
    have hw : ws' = { ws with seats := putD ws.seats (.inl r) (.int u) } := by simpa [Ws.step] using hst.symm
    obtain ⟨s, hs⟩ : ∃ s, getD ws.seats (.inl r) = some (.int s) := by
      simp only [canB] at hc
      split at hc
      · exact ⟨_, by assumption⟩
      · simp at hc
    simp only [canB, hs, Bool.and_eq_true, decide_eq_true_eq] at hc
    obtain ⟨_, s', q1, _, _, q2⟩ := wo.seats _ (getD_mem hs)
    cases q1
    obtain ⟨n, d, b1, b2, b3, b4⟩ := h.tbr r _ hs
    have hmn := h.many
    obtain ⟨got, d', M', e1, L1, g1, G1, gl1, n1, dl1, F1⟩ := Hd M o n rs g si ws.seats tb d co he r s u h.lg h.row hl hs q2 (by omega) (by omega) b1 b2 b3 (by omega) (by omega)
    have kls : ∀ i xs, o + 7 < i → M[i]? = some (.lst xs) → M'[i]? = some (.lst xs) := by
      intro i xs hi hx
      refine F1.get hx ?_
      have hne : i ≠ n := by
        intro z
        subst z
        rw [b3] at hx
        cases hx
      simp; omega
    have kds : ∀ i dd, o + 7 < i → M[i]? = some (.dic dd) → ∃ d', M'[i]? = some (.dic d') ∧ d'.length ≤ dd.length + 14 := by
      intro i dd hi hx
      by_cases z : i = n
      · subst z
        rw [b3] at hx
        cases hx
        exact ⟨d', n1, dl1⟩
      · exact ⟨dd, F1.get hx (by simp; omega), by omega⟩
    have k : Kp o M M' := ⟨F1.len, fun i hi hlt => F1.at_ i (by simp; omega) hlt, kls, kds⟩
    refine ⟨_, rs, tb, co, M', run_ret rfl (ss_cons (s_asg (ix_ (xs := [.str "read", .int r, .int u]) (e_var rfl) at0) rfl) (ss_cons (s_ifF (in2 (w := "read") rfl) ss_nil) (ss_if (s_ifT (eq2 (w := "read") rfl) (ss_ret (e_call (es_cons (e_var rfl) (es_cons (ix_ (xs := [.str "read", .int r, .int u]) (e_var rfl) at1) (es_one (ix_ (xs := [.str "read", .int r, .int u]) (e_var rfl) at2)))) e1)))))), ?_, k, ?_⟩
    · subst hw
      refine ⟨L1, h.row, h.many, h.sok, by have := h.gl; omega, by have := h.sil; omega, by have := h.tbl; omega, fun p v ee => ?_, h.col, fun i v ee => ?_⟩
      · have : ∃ v', getD ws.seats (.inl p) = some v' := by
          by_cases hq : p = r
          · subst hq; exact ⟨_, hs⟩
          · have e' : getD (putD ws.seats (.inl r) (.int u)) (.inl p) = some v := ee
            rw [getD_putN (fun z => hq (Sum.inl.inj z))] at e'
            exact ⟨_, e'⟩
        obtain ⟨v', hv'⟩ := this
        obtain ⟨n2, d2, a, b, c, q⟩ := h.tbr p v' hv'
        obtain ⟨d3, c', q'⟩ := k.ds n2 d2 b c
        exact ⟨n2, d3, a, b, c', by omega⟩
      · obtain ⟨n2, d2, a, b, c, q⟩ := h.cor i v ee
        obtain ⟨d3, c', q'⟩ := k.ds n2 d2 b c
        exact ⟨n2, d3, a, b, c', by omega⟩
    · intro r' u' z
      cases z
      exact ⟨M.length, got, s, rfl, ho, g1, G1, gl1, hs⟩
  | save r =>
    simp only [Ws.step] at hst
    obtain ⟨v, hv, hw⟩ := Option.map_eq_some_iff.mp hst
    obtain ⟨n, d, b1, b2, b3, b4⟩ := h.tbr r _ hv
    let sg : Sg := [some (.ref o), some (.tup [.str "save", .int r]), some (.str "save"), none]
    have e1 : ∀ {N : Mm}, evE cf (.var 1) sg N = some (.tup [.str "save", .int r], N) := e_var rfl
    have eP : ∀ {N : Mm}, evE cf (.idx (.var 1) (.con (.int 1))) sg N = some (.int r, N) := ix_ e1 at1
    have F0 : Frm [] M (M ++ [Ob.dic d]) := .app
    have eT : evE cf (.tup (.cons (.idx (.idx (.var 0) (.con (.str "seats"))) (.idx (.var 1) (.con (.int 1)))) (.cons (.blt .dict (.cons (.idx (.idx (.var 0) (.con (.str "tables"))) (.idx (.var 1) (.con (.int 1)))) .nil)) .nil))) sg M = some (.tup [v, .ref M.length], M ++ [Ob.dic d]) :=
      e_tup (es_cons (e_idx (e_idx (e_var rfl) e_con h.lg.ise) eP (by simp only [idxP, h.lg.se_, keyOf, Option.bind_some]; exact hv)) (es_one (e_blt (es_one (e_idx (z := .ref n) (e_idx (e_var rfl) e_con h.lg.itb) eP (by simp only [idxP, h.lg.tb_, keyOf, Option.bind_some]; exact b1))) (by simp only [bltP, dicAt, b3, Option.map_some])))) (by simp)
    have L0 := h.lg.frm F0 (by simp)
    have g0 : (M ++ [Ob.dic d])[M.length]? = some (.dic d) := get_last
    have hap : mthP (M ++ [Ob.dic d]) .append (.ref (o + 6)) [.tup [v, .ref M.length]] = some (.non, (M ++ [Ob.dic d]).set (o + 6) (.lst (co ++ [.tup [v, .ref M.length]]))) := by
      simp only [mthP, lstAt, L0.co_, Option.bind_some]
      rw [if_pos (by have : sizeLine = 16777216 := rfl; have := h.col; omega)]
    have s1 : evS cf (.exp (.mth .append (.idx (.var 0) (.con (.str "copies"))) (.cons (.tup (.cons (.idx (.idx (.var 0) (.con (.str "seats"))) (.idx (.var 1) (.con (.int 1)))) (.cons (.blt .dict (.cons (.idx (.idx (.var 0) (.con (.str "tables"))) (.idx (.var 1) (.con (.int 1)))) .nil)) .nil))) .nil))) sg M = some (.nx sg, (M ++ [Ob.dic d]).set (o + 6) (.lst (co ++ [.tup [v, .ref M.length]]))) :=
      s_exp (e_mth (e_idx (e_var rfl) e_con h.lg.ico) (by simp [mtOk, lstAt, h.lg.co_]) (es_one eT) hap)
    have L1 := L0.sco (co ++ [.tup [v, .ref M.length]])
    have F1 : Frm [o + 6] (M ++ [Ob.dic d]) ((M ++ [Ob.dic d]).set (o + 6) (.lst (co ++ [.tup [v, .ref M.length]]))) := Frm.set (by simp)
    have g1 := F1.get g0 (by simp; omega)
    have F : Frm [o + 6] M ((M ++ [Ob.dic d]).set (o + 6) (.lst (co ++ [.tup [v, .ref M.length]]))) := (F0.mono (by simp)).trans F1
    generalize (M ++ [Ob.dic d]).set (o + 6) (.lst (co ++ [.tup [v, .ref M.length]])) = M' at *
    have k : Kp o M M' := Kp.of F (by simp)
    have eR : evE cf (.bop .sub (.blt .len (.cons (.idx (.var 0) (.con (.str "copies"))) .nil)) (.con (.int 1))) sg M' = some (.int (((co ++ [PV.tup [v, .ref M.length]]).length : Int) - 1), M') :=
      e_bop (e_blt (q := some (.int ((co ++ [PV.tup [v, .ref M.length]]).length : Int), M')) (es_one (e_idx (e_var rfl) e_con L1.ico)) (by simp only [bltP, L1.co_])) e_con rfl
    refine ⟨_, rs, tb, co ++ [.tup [v, .ref M.length]], M', run_ret rfl (ss_cons (s_asg (ix_ (xs := [.str "save", .int r]) (e_var rfl) at0) rfl) (ss_cons (s_ifF (in2 (w := "save") rfl) ss_nil) (ss_cons (s_ifF (eq2 (w := "save") rfl) ss_nil) (ss_if (s_ifT (eq2 (w := "save") rfl) (ss_cons s1 (ss_ret eR))))))), ?_, k, fun r u z => by cases z⟩
    subst hw
    refine ⟨L1, h.row, h.many, h.sok, by have := h.gl; omega, by have := h.sil; omega, by have := h.tbl; omega, fun p w ee => ?_, by simp [h.col], fun i w ee => ?_⟩
    · obtain ⟨n2, d2, a, b, c, q⟩ := h.tbr p w ee
      obtain ⟨d3, c', q'⟩ := k.ds n2 d2 b c
      exact ⟨n2, d3, a, b, c', by omega⟩
    · have ee' : (ws.copies ++ [v])[i]? = some w := ee
      by_cases hi : i < ws.copies.length
      · rw [List.getElem?_append_left hi] at ee'
        obtain ⟨n2, d2, a, b, c, q⟩ := h.cor i w ee'
        obtain ⟨d3, c', q'⟩ := k.ds n2 d2 b c
        exact ⟨n2, d3, by rw [List.getElem?_append_left (by rw [h.col]; exact hi)]; exact a, b, c', by omega⟩
      · have hi2 : i = ws.copies.length := by
          have := (List.getElem?_eq_some_iff.mp ee').1
          simp at this; omega
        subst hi2
        simp at ee'
        subst ee'
        refine ⟨M.length, d, ?_, ho, g1, by omega⟩
        rw [← h.col]; simp
  | join r =>
    have hw : ws' = { ws with seats := putD ws.seats (.inl r) (.int 0) } := by simpa [Ws.step] using hst.symm
    subst hw
    have F0 : Frm [] M (M ++ [Ob.dic []]) := .app
    have h0 := h.keep (h.lg.frm F0 (by simp)) (Kp.of F0 (by simp)) h.sok (by omega) (by omega)
    have g0 : (M ++ [Ob.dic []])[M.length]? = some (.dic []) := get_last
    obtain ⟨M1, M2, q1, L1, q2, hL, k⟩ := did_sto (p := r) (v := .int 0) (d := []) h0 (by omega) (by omega) (by simp)
    have Fn : Frm [] (M ++ [Ob.dic []]) ((M ++ [Ob.dic []]) ++ [Ob.dic []]) := .app
    have Ln := h0.lg.frm Fn (by simp)
    have eD : evE cf (.ite (.cmp .eq (.var 2) (.con (.str "join"))) (.tup (.cons (.con (.int 0)) (.cons .dnew .nil))) (.idx (.idx (.var 0) (.con (.str "copies"))) (.idx (.var 1) (.con (.int 2))))) [some (.ref o), some (.tup [.str "join", .int r]), some (.str "join"), none] M = some (.tup [.int 0, .ref M.length], M ++ [Ob.dic []]) :=
      e_iteT (eq2 (w := "join") rfl) (e_tup (es_cons e_con (es_one (by rw [evE]))) (by simp))
    let sg : Sg := [some (.ref o), some (.tup [.str "join", .int r]), some (.str "join"), some (.tup [.int 0, .ref M.length])]
    have e3 : ∀ {N : Mm}, evE cf (.var 3) sg N = some (.tup [.int 0, .ref M.length], N) := e_var rfl
    have e1 : ∀ {N : Mm}, evE cf (.idx (.var 1) (.con (.int 1))) sg N = some (.int r, N) := ix_ (xs := [.str "join", .int r]) (e_var rfl) at1
    generalize hN : M ++ [Ob.dic []] = N at *
    have eT : evE cf (.tup (.cons (.idx (.var 3) (.con (.int 0))) (.cons (.blt .dict (.cons (.idx (.var 3) (.con (.int 1))) .nil)) .nil))) sg N = some (.tup [.int 0, .ref N.length], N ++ [Ob.dic []]) :=
      e_tup (es_cons (ix_ e3 at0) (es_one (e_blt (es_one (ix_ e3 at1)) (by simp only [bltP, dicAt, g0, Option.map_some])))) (by simp)
    have s2 := s_sto2 eT (e_idx (a := .var 0) (b := .con (.str "seats")) (e_var rfl) e_con Ln.ise) e1 q1 (e_idx (a := .var 0) (b := .con (.str "tables")) (e_var rfl) e_con L1.itb) e1 q2
    refine ⟨_, rs, _, co, M2, run_ret rfl (ss_cons (s_asg (ix_ (xs := [.str "join", .int r]) (e_var rfl) at0) rfl) (ss_cons (s_ifF (in2 (w := "join") rfl) ss_nil) (ss_cons (s_ifF (eq2 (w := "join") rfl) ss_nil) (ss_cons (s_ifF (eq2 (w := "join") rfl) ss_nil) (ss_cons (s_ifT (in2 (w := "join") rfl) (ss_cons (s_asg eD rfl) (ss_cons s2 ss_nil))) (ss_ret e_con)))))), hL.mono (by omega), Kp.trans F0 k, fun r u z => by cases z⟩
  | load r c =>
    simp only [Ws.step] at hst
    obtain ⟨v, hv, hw⟩ := Option.map_eq_some_iff.mp hst
    subst hw
    simp only [canB, decide_eq_true_eq] at hc
    have hc0 : 0 ≤ c := eo.2.2
    have hv' : ws.copies[c.toNat]? = some v := by
      have := hv
      unfold atI ixN at this
      rw [if_pos hc0, if_pos hc] at this
      exact this
    obtain ⟨n, d, b1, b2, b3, b4⟩ := h.cor c.toNat v hv'
    obtain ⟨M1, M2, q1, L1, q2, hL, k⟩ := did_sto (p := r) (v := v) (d := d) h (by omega) (by omega) (by omega)
    have Fn : Frm [] M (M ++ [Ob.dic d]) := .app
    have Ln := h.lg.frm Fn (by simp)
    let sg0 : Sg := [some (.ref o), some (.tup [.str "load", .int r, .int c]), some (.str "load"), none]
    have eD : evE cf (.ite (.cmp .eq (.var 2) (.con (.str "join"))) (.tup (.cons (.con (.int 0)) (.cons .dnew .nil))) (.idx (.idx (.var 0) (.con (.str "copies"))) (.idx (.var 1) (.con (.int 2))))) sg0 M = some (.tup [v, .ref n], M) :=
      e_iteF (eq2 (w := "load") rfl) (e_idx (e_idx (e_var rfl) e_con h.lg.ico) (ix_ (xs := [.str "load", .int r, .int c]) (e_var rfl) at2) (by
        simp only [idxP, h.lg.co_, atI, ixN]
        rw [if_pos hc0, if_pos (by rw [h.col]; exact hc)]
        exact b1))
    let sg : Sg := [some (.ref o), some (.tup [.str "load", .int r, .int c]), some (.str "load"), some (.tup [v, .ref n])]
    have e3 : ∀ {N : Mm}, evE cf (.var 3) sg N = some (.tup [v, .ref n], N) := e_var rfl
    have e1 : ∀ {N : Mm}, evE cf (.idx (.var 1) (.con (.int 1))) sg N = some (.int r, N) := ix_ (xs := [.str "load", .int r, .int c]) (e_var rfl) at1
    have eT : evE cf (.tup (.cons (.idx (.var 3) (.con (.int 0))) (.cons (.blt .dict (.cons (.idx (.var 3) (.con (.int 1))) .nil)) .nil))) sg M = some (.tup [v, .ref M.length], M ++ [Ob.dic d]) :=
      e_tup (es_cons (ix_ e3 at0) (es_one (e_blt (es_one (ix_ e3 at1)) (by simp only [bltP, dicAt, b3, Option.map_some])))) (by simp)
    have s2 := s_sto2 eT (e_idx (a := .var 0) (b := .con (.str "seats")) (e_var rfl) e_con Ln.ise) e1 q1 (e_idx (a := .var 0) (b := .con (.str "tables")) (e_var rfl) e_con L1.itb) e1 q2
    refine ⟨_, rs, _, co, M2, run_ret rfl (ss_cons (s_asg (ix_ (xs := [.str "load", .int r, .int c]) (e_var rfl) at0) rfl) (ss_cons (s_ifF (in2 (w := "load") rfl) ss_nil) (ss_cons (s_ifF (eq2 (w := "load") rfl) ss_nil) (ss_cons (s_ifF (eq2 (w := "load") rfl) ss_nil) (ss_cons (s_ifT (in2 (w := "load") rfl) (ss_cons (s_asg eD rfl) (ss_cons s2 ss_nil))) (ss_ret e_con)))))), hL.mono (by omega), k, fun r u z => by cases z⟩
  | wait =>
    have hw : ws' = ws := by simpa [Ws.step] using hst.symm
    subst hw
    refine ⟨_, rs, tb, co, M, run_ret rfl (ss_cons (s_asg (ix_ (xs := [.str "wait"]) (e_var rfl) at0) rfl) (ss_cons (s_ifF (in2 (w := "wait") rfl) ss_nil) (ss_cons (s_ifF (eq2 (w := "wait") rfl) ss_nil) (ss_cons (s_ifF (eq2 (w := "wait") rfl) ss_nil) (ss_cons (s_ifF (in2 (w := "wait") rfl) ss_nil) (ss_ret e_con)))))), h.mono (by omega), Kp.of (S := []) .refl (by simp), fun r u z => by cases z⟩
end Mp

/-! Mg7 (k66): run. -/
namespace Mp
open PySem L2

theorem Ws.run_append {es fs : List Ev} : ∀ {ws : Ws}, ws.run (es ++ fs) = (ws.run es).bind fun w => w.run fs := by
  induction es with
  | nil => intro ws; rfl
  | cons a es ih =>
    intro ws
    show (ws.step a).bind _ = ((ws.step a).bind _).bind _
    cases ws.step a with
    | none => rfl
    | some w => exact ih
theorem run_ok {es : List Ev} : ∀ {ws ws' : Ws} {n : Nat}, WsOk ws n → (∀ e ∈ es, EvOk e) → ws.run es = some ws' → WsOk ws' (n + es.length) := by
  induction es with
  | nil => intro ws ws' n h _ e; cases e; exact h
  | cons a es ih =>
    intro ws ws' n h ho e
    obtain ⟨w, h1, h2⟩ := Option.bind_eq_some_iff.mp e
    have := ih (step_ok h (ho a (by simp)) h1) (fun x hx => ho x (by simp [hx])) h2
    exact this.mono (by simp; omega)
/-- puts and drops -/
def pdB : Ev → Bool
  | .put _ _ => true | .drop _ => true | _ => false
def cnt (es : List Ev) : Nat := (es.filter pdB).length
theorem cnt_run {es : List Ev} : ∀ {ws ws' : Ws}, ws.run es = some ws' → ws'.many = ws.many + cnt es := by
  induction es with
  | nil => intro ws ws' e; cases e; simp [cnt]
  | cons a es ih =>
    intro ws ws' e
    obtain ⟨w, h1, h2⟩ := Option.bind_eq_some_iff.mp e
    have h3 := ih h2
    have h4 : w.many = ws.many + (if pdB a then 1 else 0) := by
      cases a <;> simp only [Ws.step] at h1 <;> first
        | (cases h1; simp [pdB]; done)
        | (obtain ⟨v, _, h5⟩ := Option.map_eq_some_iff.mp h1; subst h5; simp [pdB])
    rw [h3, h4]
    unfold cnt
    by_cases hp : pdB a = true
    · simp [hp]; omega
    · simp [hp]
theorem Kp.frm {o : Nat} {M0 N N' : Mm} (a : Frm [] M0 N) (k : Kp o N N') (h : M0.length ≤ o) : Frm [] M0 N' :=
  ⟨Nat.le_trans a.len k.len, fun i h1 h2 => (k.low i (by omega) (Nat.lt_of_lt_of_le h2 a.len)).trans (a.at_ i h1 h2)⟩
theorem Kp.comp {o : Nat} {M1 M2 M3 : Mm} (a : Frm [] M1 M2) (b : Kp o M2 M3) : Kp o M1 M3 := Kp.trans a b
/-- what the log heard -/
def HFt (es : List Ev) (N : Mm) (o : Nat) (he : List PV) : Prop := ∀ (i : Nat) (r u : Int), i < he.length → es[i]? = some (.read r u) → ∃ n got s ws, he[i]? = some (.ref n) ∧ o + 7 < n ∧ N[n]? = some (.lst got) ∧ GotOk s u got ∧ got.length ≤ 14 ∧ w0.run (es.take i) = some ws ∧ getD ws.seats (.inl r) = some (.int s)
theorem HFt.keep {es : List Ev} {N N' : Mm} {o : Nat} {he : List PV} (h : HFt es N o he) (k : Kp o N N') : HFt es N' o he := fun i r u hi e => by
  obtain ⟨n, got, s, ws, a, b, c, d⟩ := h i r u hi e
  exact ⟨n, got, s, ws, a, b, k.ls n got b c, d⟩
def HSw (cf : CF) : Prop := ∀ (M : Mm) (o : Nat) (rs : List PV) (g si se tb : List (Key × PV)) (co he : List PV) (age now : Int) (u : Nat), Lg M o rs g si se tb co he → (∀ x ∈ rs, RowOk x) → SiOk si → rs.length ≤ 14 → g.length < 90000 → si.length < 90000 → u ≤ rs.length →
    ∃ g' si' M', cf i_l_swept [.ref o, .int age, .int now, .int u] M = some (.non, M') ∧ Lg M' o rs g' si' se tb co he ∧ SiOk si' ∧ g'.length ≤ g.length + 28 ∧ si'.length ≤ si.length + 14 ∧ Frm [o + 2, o + 3] M M'
theorem hsw (j : Nat) : HSw (cfN tab (j + 2)) := fun M o rs g si se tb co he age now u h hr hs hl hg hsl hu => swept_ok (hlv j) h hr hs hl hg hsl hu
def HDd (cf : CF) : Prop := ∀ (M : Mm) (o : Nat) (rs : List PV) (g si tb : List (Key × PV)) (co he : List PV) (ws ws' : Ws) (G m : Nat) (e : Ev), Lw M o rs g si tb co he ws G → G < 79000 → rs.length ≤ 14 → WsOk ws m → m < 1000 → EvOk e → ws.step e = some ws' → canB ws e = true →
    ∃ v rs' tb' co' M', cf i_l_did [.ref o, e.pv] M = some (v, M') ∧ Lw M' o rs' g si tb' co' he ws' (G + 56) ∧ Kp o M M' ∧ Heard M' o ws e v
theorem hdd (j : Nat) : HDd (cfN tab (j + 2)) := fun M o rs g si tb co he ws ws' G m e h hG hl wo hm eo hst hc => did_ok (hhd j) h hG hl wo hm eo hst hc
def HBa (cf : CF) : Prop := ∀ M : Mm, ∃ M', cf i_l_bare [] M = some (.ref M.length, M') ∧ Lg M' M.length [] [] [] [] [] [] [] ∧ Frm [] M M' ∧ M'.length = M.length + 8
theorem hba (j : Nat) : HBa (cfN tab (j + 1)) := fun M => bare_ok (cfN tab j) M
/-- a broom -/
def BrOk (es : List Ev) (x : PV) : Prop := ∃ (at_ : Int) (u : Nat), x = .tup [.int at_, .int u] ∧ ∀ now : Nat, at_ = now → u ≤ cnt (es.take now)
def HRn (cf : CF) : Prop := ∀ (M : Mm) (es : List Ev) (age : Int) (brs : List PV), TbOk es 14 → (∀ x ∈ brs, BrOk es x) → brs.length ≤ 15 →
    ∃ he M', cf i_l_run [.tup (es.map Ev.pv), .int age, .tup brs] M = some (.ref M.length, M') ∧ M'[M.length]? = some (.dic (ldic M.length)) ∧ M'[M.length + 7]? = some (.lst he) ∧ he.length = es.length ∧ HFt es M' M.length he ∧ Frm [] M M'
theorem run_ok' {cf : CF} (Ba : HBa cf) (Lv : HLv cf) (Sw : HSw cf) (Dd : HDd cf) {M : Mm} {es : List Ev} {age : Int} {brs : List PV} (ht : TbOk es 14) (hb : ∀ x ∈ brs, BrOk es x) (hbl : brs.length ≤ 15) :
    ∃ he M', runD cf ir_l_run [.tup (es.map Ev.pv), .int age, .tup brs] M = some (.ref M.length, M') ∧ M'[M.length]? = some (.dic (ldic M.length)) ∧ M'[M.length + 7]? = some (.lst he) ∧ he.length = es.length ∧ HFt es M' M.length he ∧ Frm [] M M' := by
  obtain ⟨M1, e1, L1, F1, l1⟩ := Ba M
  have hlen := ht.len
  obtain ⟨wsF, hrF, _⟩ := ht.run
  generalize ho : M.length = o at *
  let T : PV := .tup (es.map Ev.pv)
  let sgN : Option PV → Option PV → Option PV → Sg := fun o4 o5 o6 => [some T, some (.int age), some (.tup brs), some (.ref o), o4, o5, o6]
  let I : Nat → Sg → Mm → Prop := fun i sg N => ∃ (rs : List PV) (g si tb : List (Key × PV)) (co he : List PV) (ws : Ws) (o4 o5 o6 : Option PV), sg = sgN o4 o5 o6 ∧ Lw N o rs g si tb co he ws (600 * i) ∧ w0.run (es.take i) = some ws ∧ he.length = min i es.length ∧ HFt es N o he ∧ Frm [] M N
  obtain ⟨sg', M2, e2, rs, g, si, tb, co, he, ws, o4, o5, o6, hsg, W, R, hel, hf, F⟩ := for_inv (src := .rng 0 (es.length + 1)) (bind := tgP (.name 4)) (body := fun sg M => evSs cf b2_l_run sg M) I (n := es.length + 1) (sg := sgN none none none) (M := M1) (by omega)
    ⟨[], [], [], [], [], [], w0, none, none, none, rfl, ⟨L1, by simp, by simp [w0], by intro kv h; simp at h, by simp, by simp, by simp, by intro p v h; simp [w0, getD] at h, by simp [w0], by intro i v h; simp [w0] at h⟩, by simp [Ws.run], by simp, by intro i r u h; simp at h, F1⟩
    (by
      intro i sg N hi hI
      obtain ⟨rs, g, si, tb, co, he, ws, o4, o5, o6, rfl, W, R, hel, hf, F⟩ := hI
      have hwo := (run_ok w0_ok (fun e h => ht.ok e (List.mem_of_mem_take h)) R).mono (show 0 + (es.take i).length ≤ 14 by simp; omega)
      have hmany := cnt_run R
      have hrl : rs.length ≤ 14 := by have := W.many; have := hwo.m1; omega
      have hrc : rs.length = cnt (es.take i) := by
        have := W.many
        simp [w0] at hmany
        omega
      have nowI : (0 + (i : Int)) = i := by omega
      -- leave
      obtain ⟨g1, Na, ea, La, gla, Fa, _⟩ := Lv N o rs g si ws.seats tb co he age (0 + i) W.lg W.row W.sok hrl (by have := W.gl; omega)
      have ka : Kp o N Na := Kp.of Fa (by simp)
      have Wa := W.keep La ka W.sok (by omega) (by omega)
      have sa : evS cf (.exp (.call i_l_leave (.cons (.var 3) (.cons (.var 1) (.cons (.var 4) .nil))))) (sgN (some (.int (0 + i))) o5 o6) N = some (.nx (sgN (some (.int (0 + i))) o5 o6), Na) := s_exp (e_call (es_cons (e_var rfl) (es_cons (e_var rfl) (es_one (e_var rfl)))) ea)
      -- brooms
      let J : Nat → Sg → Mm → Prop := fun j sg N' => ∃ (g' si' : List (Key × PV)) (p5 p6 : Option PV), sg = sgN (some (.int (0 + i))) p5 p6 ∧ Lw N' o rs g' si' tb co he ws (600 * i + 28 + 28 * j) ∧ HFt es N' o he ∧ Frm [] M N'
      obtain ⟨sgb, Nb, eb, gb, sib, p5, p6, hsgb, Wb, hfb, Fb⟩ := for_inv (src := .tup brs) (bind := tgP (.tup [5, 6])) (body := fun sg M => evSs cf b1_l_run sg M) J (n := brs.length) (sg := sgN (some (.int (0 + i))) o5 o6) (M := Na) (by omega)
        ⟨g1, si, o5, o6, rfl, Wa, hf.keep ka, ka.frm F (by omega)⟩
        (by
          intro j sg N' hj hJ
          obtain ⟨g', si', p5, p6, rfl, W', hf', F'⟩ := hJ
          obtain ⟨at_, u, hx, hu⟩ := hb brs[j] (List.getElem_mem hj)
          let sg : Sg := sgN (some (.int (0 + i))) (some (.int at_)) (some (.int u))
          have hget : (Src.tup brs).get N' j = some (some (.tup [.int at_, .int u])) := by simp [Src.get, hj, hx]
          have ec : evE cf (.cmp .eq (.var 5) (.var 4)) sg N' = some (.bl (decide (at_ = 0 + i)), N') := e_cmp (e_var (v := .int at_) rfl) (e_var (v := .int (0 + i)) rfl) rfl
          by_cases hat : at_ = 0 + (i : Int)
          · rw [decide_eq_true hat] at ec
            obtain ⟨g2, si2, Nc, ec2, Lc, sok2, gl2, sl2, Fc⟩ := Sw N' o rs g' si' ws.seats tb co he age (0 + i) u W'.lg W'.row W'.sok hrl (by have := W'.gl; omega) (by have := W'.sil; omega) (by rw [hrc]; exact hu i (by omega))
            have kc : Kp o N' Nc := Kp.of Fc (by simp)
            have Wc := W'.keep Lc kc sok2 (by omega) (by omega)
            have sb : evSs cf b1_l_run sg N' = some (.nx sg, Nc) := ss_cons (s_ifT ec (ss_cons (s_exp (e_call (es_cons (e_var rfl) (es_cons (e_var rfl) (es_cons (e_var rfl) (es_one (e_var rfl))))) ec2)) ss_nil)) ss_nil
            exact ⟨_, sg, sg, Nc, hget, rfl, sb, g2, si2, _, _, rfl, Wc.mono (by omega), hf'.keep kc, kc.frm F' (by omega)⟩
          · rw [decide_eq_false hat] at ec
            exact ⟨_, sg, sg, N', hget, rfl, ss_cons (s_ifF ec ss_nil) ss_nil, g', si', _, _, rfl, W'.mono (by omega), hf', F'⟩)
        (by intro sg N' _; simp [Src.get])
      subst hsgb
      have sb : evS cf (.for_ (.tup [5, 6]) (.seq (.var 2)) b1_l_run) (sgN (some (.int (0 + i))) o5 o6) Na = some (.nx (sgN (some (.int (0 + i))) p5 p6), Nb) := by
        rw [evS, evI, e_var (v := .tup brs) rfl]
        exact eb
      have eL : ∀ N, evE cf (.cmp .lt (.var 4) (.blt .len (.cons (.var 0) .nil))) (sgN (some (.int (0 + i))) p5 p6) N = some (.bl (decide ((0 + (i : Int)) < es.length)), N) := fun N =>
        e_cmp (e_var (v := .int (0 + i)) rfl) (e_blt (q := some (.int (es.length : Int), N)) (es_one (e_var (v := T) rfl)) (by simp [bltP, T])) rfl
      have hget : (Src.rng 0 (es.length + 1)).get N i = some (some (.int (0 + i))) := by simp [Src.get]; omega
      by_cases hie : i < es.length
      · -- the event
        have hev : es.getD i .wait = es[i] := by simp [List.getD_eq_getElem?_getD, hie]
        have hcan : canB ws es[i] = true := by
          have := ht.vl i hie
          unfold okE at this
          rw [R] at this
          simpa only [hev] using this
        have hsp : es.take (i + 1) = es.take i ++ [es[i]] := by rw [List.take_succ_eq_append_getElem hie]
        obtain ⟨ws', hst⟩ : ∃ ws', ws.step es[i] = some ws' := by
          have h1 : es = es.take (i + 1) ++ es.drop (i + 1) := (List.take_append_drop _ _).symm
          rw [h1, Ws.run_append] at hrF
          obtain ⟨w1, h2, _⟩ := Option.bind_eq_some_iff.mp hrF
          rw [hsp, Ws.run_append, R] at h2
          obtain ⟨w2, h3, _⟩ := Option.bind_eq_some_iff.mp (show (ws.step es[i]).bind (fun w => w.run []) = some w1 from h2)
          exact ⟨w2, h3⟩
        obtain ⟨v, rs', tb', co', Nd, ed, Wd, kd, hd⟩ := Dd Nb o rs gb sib tb co he ws ws' _ 14 es[i] Wb (by omega) hrl hwo (by omega) (ht.ok _ (List.getElem_mem hie)) hst hcan
        have eix : evE cf (.idx (.var 0) (.var 4)) (sgN (some (.int (0 + i))) p5 p6) Nb = some (es[i].pv, Nb) := e_idx (e_var (v := T) rfl) (e_var (v := .int (0 + i)) rfl) (by
          simp only [idxP, T, atI, ixN]
          rw [if_pos (by omega), if_pos (by simp; omega)]
          show (es.map Ev.pv)[(0 + (i : Int)).toNat]? = _
          rw [show (0 + (i : Int)).toNat = i by omega]
          simp [hie])
        have hap : mthP Nd .append (.ref (o + 7)) [v] = some (.non, Nd.set (o + 7) (.lst (he ++ [v]))) := by
          simp only [mthP, lstAt, Wd.lg.he_, Option.bind_some]
          rw [if_pos (by have : sizeLine = 16777216 := rfl; omega)]
        have sd : evS cf (.exp (.mth .append (.idx (.var 3) (.con (.str "heard"))) (.cons (.call i_l_did (.cons (.var 3) (.cons (.idx (.var 0) (.var 4)) .nil))) .nil))) (sgN (some (.int (0 + i))) p5 p6) Nb = some (.nx (sgN (some (.int (0 + i))) p5 p6), Nd.set (o + 7) (.lst (he ++ [v]))) :=
          s_exp (e_mth (e_idx (e_var rfl) e_con Wb.lg.ihe) (by simp [mtOk, lstAt, Wb.lg.he_]) (es_one (e_call (es_cons (e_var rfl) (es_one eix)) ed)) hap)
        have ke : Kp o Nd (Nd.set (o + 7) (.lst (he ++ [v]))) := Kp.of (S := [o + 7]) (Frm.set (by simp)) (by simp)
        have We := Wd.keep (Wd.lg.she (he ++ [v])) ke Wd.sok (by omega) (by omega)
        have hfd := (hfb.keep kd).keep ke
        refine ⟨_, sgN (some (.int (0 + i))) o5 o6, sgN (some (.int (0 + i))) p5 p6, Nd.set (o + 7) (.lst (he ++ [v])), hget, rfl, ss_cons sa (ss_cons sb (ss_cons (s_ifT (by rw [eL, decide_eq_true (by omega)]) (ss_cons sd ss_nil)) ss_nil)), rs', gb, sib, tb', co', he ++ [v], ws', _, _, _, rfl, We.mono (by omega), ?_, by simp; omega, ?_, ke.frm (kd.frm Fb (by omega)) (by omega)⟩
        · rw [hsp]; exact Ws.run_app R hst
        · intro j r u hj hjr
          by_cases hjl : j < he.length
          · obtain ⟨n, got, s, w, a, b⟩ := hfd j r u hjl hjr
            exact ⟨n, got, s, w, by rw [List.getElem?_append_left hjl]; exact a, b⟩
          · have hji : j = i := by simp at hj; omega
            subst hji
            rw [List.getElem?_eq_getElem hie] at hjr
            obtain ⟨n, got, s, a, b, c, d1, d2, d3⟩ := hd r u (Option.some.inj hjr)
            refine ⟨n, got, s, ws, ?_, b, ke.ls n got b c, d1, d2, R, d3⟩
            rw [List.getElem?_append_right (by omega), show j - he.length = 0 by omega, a]
            rfl
      · have hie2 : i = es.length := by omega
        refine ⟨_, sgN (some (.int (0 + i))) o5 o6, sgN (some (.int (0 + i))) p5 p6, Nb, hget, rfl, ss_cons sa (ss_cons sb (ss_cons (s_ifF (by rw [eL, decide_eq_false (by omega)]) ss_nil) ss_nil)), rs, gb, sib, tb, co, he, ws, _, _, _, rfl, Wb.mono (by omega), ?_, by omega, hfb, Fb⟩
        rw [List.take_of_length_le (by omega)]
        rw [List.take_of_length_le (by omega)] at R
        exact R)
    (by intro sg N _; simp [Src.get])
  subst hsg
  refine ⟨he, M2, ?_, W.lg.o_, W.lg.he_, by omega, hf, F⟩
  have hI : evI cf (.rng1 (.bop .add (.blt .len (.cons (.var 0) .nil)) (.con (.int 1)))) (sgN none none none) M1 = some (.rng 0 (es.length + 1), M1) := by
    have e9 : evE cf (.bop .add (.blt .len (.cons (.var 0) .nil)) (.con (.int 1))) (sgN none none none) M1 = some (.int ((es.length : Int) + 1), M1) := e_bop (e_blt (q := some (.int (es.length : Int), M1)) (es_one (e_var (v := T) rfl)) (by simp [bltP, T])) e_con rfl
    have hro : rngOk ((es.length : Int) + 1) = true := by simp [rngOk]; omega
    rw [evI, e9]
    simp only [hro, if_true]
    rfl
  have hf2 : evS cf (.for_ (.name 4) (.rng1 (.bop .add (.blt .len (.cons (.var 0) .nil)) (.con (.int 1)))) b2_l_run) (sgN none none none) M1 = some (.nx (sgN o4 o5 o6), M2) := by rw [evS, hI]; exact e2
  exact run_ret rfl (ss_cons (sg1 := sgN none none none) (M1 := M1) (s_asg (e_call es_nil e1) rfl) (ss_cons hf2 (ss_ret (e_var rfl))))
theorem hrn (j : Nat) : HRn (cfN tab (j + 3)) := fun M es age brs ht hb hbl => run_ok' (hba (j + 1)) (hlv (j + 1)) (hsw j) (hdd j) ht hb hbl
end Mp

/-! Mg8 (k66): many, tale, drawn_broom. -/
namespace Mp
open PySem L2

def pdP : PV → Bool
  | .tup (.str w :: _) => (Str.ofString "put" == w || Str.ofString "drop" == w)
  | _ => false
theorem pdP_pv (e : Ev) : pdP e.pv = pdB e := by cases e <;> simp [Ev.pv, pdP, pdB]
theorem cnt_take {es : List Ev} {n : Nat} : (((es.map Ev.pv).take n).filter pdP).length = cnt (es.take n) := by
  rw [← List.map_take, List.filter_map, List.length_map]
  unfold cnt
  congr 1
  apply List.filter_congr
  intro x _
  exact pdP_pv x
theorem cnt_mono {es : List Ev} {i j : Nat} (h : i ≤ j) : cnt (es.take i) ≤ cnt (es.take j) := by
  have : es.take i = (es.take j).take i := by rw [List.take_take, Nat.min_eq_left h]
  rw [this]
  unfold cnt
  exact ((List.take_sublist i (es.take j)).filter pdB).length_le
theorem cnt_le {es : List Ev} {i : Nat} : cnt (es.take i) ≤ es.length := by
  unfold cnt
  exact Nat.le_trans (List.length_filter_le _ _) (by simp; omega)
def HMn (cf : CF) : Prop := ∀ (M : Mm) (es : List Ev) (n : Nat), es.length ≤ 14 → ∃ M', cf i_l_many [.tup (es.map Ev.pv), .int n] M = some (.int (cnt (es.take n)), M') ∧ Frm [] M M'
theorem many_ok (cf : CF) {M : Mm} {es : List Ev} {n : Nat} (hl : es.length ≤ 14) : ∃ M', runD cf ir_l_many [.tup (es.map Ev.pv), .int n] M = some (.int (cnt (es.take n)), M') ∧ Frm [] M M' := by
  let sg : Sg := [some (.tup (es.map Ev.pv)), some (.int n), none]
  have hI : evI cf (.seq (.slc false true (.var 0) (.con .non) (.var 1))) sg M = some (.tup ((es.map Ev.pv).take n), M) := by
    rw [evI, evE, e_var (v := .tup (es.map Ev.pv)) rfl]
    simp only [e_con, e_var (v := .int n) (show sg[1]? = some (some (.int n)) from rfl), slcP, optI, cut_hi]
    rfl
  have e1 := lc_tup (cf := cf) (own := [2]) (t := .name 2) (c := c1_l_many) (e := .var 2) ((es.map Ev.pv).take n) pdP id hI (by simp; omega) (by
    intro x hx N
    obtain ⟨e, he, rfl⟩ := List.mem_map.mp (List.mem_of_mem_take hx)
    refine ⟨[some (.tup (es.map Ev.pv)), some (.int n), some e.pv], rfl, ?_, fun _ => e_var rfl⟩
    unfold c1_l_many
    rw [e.pv_eq]
    refine e_cmp (ix_ (e_var rfl) at0) (e_tup (es_cons e_con (es_one e_con)) (by simp)) ?_
    simp [cmpP, isIn, inP, flatP, eqF, pdP])
  rw [List.map_id] at e1
  refine ⟨M ++ [Ob.lst (((es.map Ev.pv).take n).filter pdP)], ?_, .app⟩
  refine run_ret rfl (ss_ret (e_blt (es_one e1) ?_))
  simp only [bltP, get_last, cnt_take]
theorem hmn (j : Nat) : HMn (cfN tab (j + 1)) := fun M es n h => many_ok (cfN tab j) h
def HTl (cf : CF) : Prop := ∀ (M : Mm) (b : Nat) (k many : Int), Bx M b k → k < 800000000000 → 0 ≤ many → many ≤ 14 →
  ∃ (es : List Ev) (M' : Mm), cf i_l_tale [.ref b, .int many, .int 6, .int 2] M = some (.tup (es.map Ev.pv), M') ∧ Frm [b] M M' ∧ Bx M' b (k + 70) ∧ TbOk es 14
theorem tale_ok {cf : CF} (Tb : HTb cf) {M : Mm} {b : Nat} {k many : Int} (h : Bx M b k) (hk : k < 800000000000) (m1 : 0 ≤ many) (m2 : many ≤ 14) :
    ∃ (es : List Ev) (M' : Mm), runD cf ir_l_tale [.ref b, .int many, .int 6, .int 2] M = some (.tup (es.map Ev.pv), M') ∧ Frm [b] M M' ∧ Bx M' b (k + 70) ∧ TbOk es 14 := by
  have hbl : b < M.length := by obtain ⟨_, _, _, hb, _⟩ := h; exact lt_of hb
  have F0 : Frm [b] M (M ++ [Ob.lst [.str "a", .str "b", .str "c"]]) := .app
  have hq : Strs (M ++ [Ob.lst [.str "a", .str "b", .str "c"]]) M.length KeyOk := ⟨["a", "b", "c"], get_last, by simp, by simp, by
    intro x hx
    simp at hx
    rcases hx with rfl | rfl | rfl <;> exact ⟨_, by simp, rfl⟩⟩
  have hz : (("pppddrrrjwsl" : Str)).length = 12 := by decide
  obtain ⟨es, M', e1, F1, B1, t1⟩ := Tb (M ++ [Ob.lst [.str "a", .str "b", .str "c"]]) b M.length k 2 many 6 "pppddrrrjwsl" (h.frm (S := []) .app (by simp) (Int.le_refl _)) hk (by omega) hq (by omega) (by omega) (by rw [hz]; omega) (by rw [hz]; omega) m1 m2
  refine ⟨es, M', ?_, F0.trans F1, B1, t1⟩
  exact run_ret rfl (ss_ret (e_call (es_cons (e_var rfl) (es_cons (e_var rfl) (es_cons (e_var rfl) (es_cons (e_var rfl) (es_cons (e_lst (es_cons e_con (es_cons e_con (es_one e_con))) (by simp)) (es_one e_con)))))) e1))
theorem htl (j : Nat) : HTl (cfN tab (j + 5)) := fun M b k many h hk m1 m2 => tale_ok (htb j) h hk m1 m2
def HDb (cf : CF) : Prop := ∀ (M : Mm) (b : Nat) (k : Int) (es : List Ev), Bx M b k → k < 800000000000 → es.length ≤ 14 →
  ∃ (brs : List PV) (M' : Mm), cf i_l_drawn_broom [.ref b, .tup (es.map Ev.pv)] M = some (.tup brs, M') ∧ Frm [b] M M' ∧ Bx M' b (k + 60) ∧ (∀ x ∈ brs, BrOk es x) ∧ brs.length ≤ 15
theorem broom_ok {cf : CF} (T : HT cf) (Mn : HMn cf) {M : Mm} {b : Nat} {k : Int} {es : List Ev} (h : Bx M b k) (hk : k < 800000000000) (hl : es.length ≤ 14) :
    ∃ (brs : List PV) (M' : Mm), runD cf ir_l_drawn_broom [.ref b, .tup (es.map Ev.pv)] M = some (.tup brs, M') ∧ Frm [b] M M' ∧ Bx M' b (k + 60) ∧ (∀ x ∈ brs, BrOk es x) ∧ brs.length ≤ 15 := by
  have hbl : b < M.length := by obtain ⟨_, _, _, hb, _⟩ := h; exact lt_of hb
  let TT : PV := .tup (es.map Ev.pv)
  let I : Nat → Sg → Mm → Prop := fun i sg N => ∃ (nf u : Nat) (brs : List PV) (o4 o5 : Option PV), sg = [some (.ref b), some TT, some (.ref nf), some (.int u), o4, o5] ∧ M.length ≤ nf ∧ N[nf]? = some (.lst brs) ∧ (∀ x ∈ brs, BrOk es x) ∧ brs.length ≤ i ∧ u ≤ cnt (es.take i) ∧ Bx N b (k + 3 * i) ∧ Frm [b] M N
  obtain ⟨sg', M', e1, nf, u, brs, o4, o5, hsg, hnf, hg, hbr, hbl', hu, B, F⟩ := for_inv (src := .rng 0 (es.length + 1)) (bind := tgP (.name 4)) (body := fun sg M => evSs cf b1_l_drawn_broom sg M) I (n := es.length + 1) (sg := [some (.ref b), some TT, some (.ref M.length), some (.int 0), none, none]) (M := M ++ [Ob.lst []]) (by omega)
    ⟨M.length, 0, [], none, none, rfl, Nat.le_refl _, get_last, by simp, by simp, by omega, h.frm (S := []) .app (by simp) (by omega), .app⟩
    (by
      intro i sg N hi hI
      obtain ⟨nf, u, brs, o4, o5, rfl, hnf, hg, hbr, hbl', hu, B, F⟩ := hI
      have hget : (Src.rng 0 (es.length + 1)).get N i = some (some (.int (0 + i))) := by simp [Src.get]; omega
      obtain ⟨Na, ea, Fa⟩ := Mn N es i hl
      have ea' : cf i_l_many [TT, .int (0 + i)] N = some (.int (cnt (es.take i)), Na) := by rw [show (0 + (i : Int)) = i by omega]; exact ea
      let sg0 : Option PV → Sg := fun q => [some (.ref b), some TT, some (.ref nf), some (.int u), some (.int (0 + i)), q]
      have s1 : evS cf (.asg (.name 5) (.call i_l_many (.cons (.var 1) (.cons (.var 4) .nil)))) (sg0 o5) N = some (.nx (sg0 (some (.int (cnt (es.take i))))), Na) := s_asg (e_call (es_cons (e_var rfl) (es_one (e_var rfl))) ea') rfl
      have Ba : Bx Na b (k + 3 * i) := B.frm Fa (by simp) (Int.le_refl _)
      have ga := Fa.get hg (by simp)
      have FMa : Frm [b] M Na := F.trans (Fa.mono (by simp))
      have hcl := @cnt_le es i
      -- upto
      have step2 : ∃ (u' : Nat) (Nb : Mm), evS cf (.iff (.and (.cmp .gt (.var 5) (.var 3)) (.cmp .eq (.call i_l_take (.cons (.var 0) (.cons (.con (.int 2)) .nil))) (.con (.int 0)))) (.cons (.asg (.name 3) (.bop .add (.bop .add (.var 3) (.con (.int 1))) (.call i_l_take (.cons (.var 0) (.cons (.bop .sub (.var 5) (.var 3)) .nil))))) .nil) .nil) (sg0 (some (.int (cnt (es.take i))))) Na = some (.nx [some (.ref b), some TT, some (.ref nf), some (.int u'), some (.int (0 + i)), some (.int (cnt (es.take i)))], Nb) ∧ u' ≤ cnt (es.take i) ∧ Bx Nb b (k + 3 * i + 2) ∧ Frm [b] Na Nb := by
        have ec : evE cf (.cmp .gt (.var 5) (.var 3)) (sg0 (some (.int (cnt (es.take i))))) Na = some (.bl (decide ((u : Int) < cnt (es.take i))), Na) := e_cmp (e_var (v := .int (cnt (es.take i))) rfl) (e_var (v := .int u) rfl) rfl
        by_cases hc : (u : Int) < cnt (es.take i)
        · rw [decide_eq_true hc] at ec
          obtain ⟨r1, l1, a1, a2, t1, B1⟩ := T Na b (k + 3 * i) 2 Ba (by omega) (by omega) (by omega)
          have F1 : Frm [b] Na (Na.set b (.lst l1)) := Frm.set (by simp)
          generalize Na.set b (.lst l1) = Nb at *
          have ec2 : evE cf (.cmp .eq (.call i_l_take (.cons (.var 0) (.cons (.con (.int 2)) .nil))) (.con (.int 0))) (sg0 (some (.int (cnt (es.take i))))) Na = some (.bl (decide (r1 = 0)), Nb) := e_cmp (e_call (es_cons (e_var rfl) (es_one e_con)) t1) e_con rfl
          by_cases hr : r1 = 0
          · rw [decide_eq_true hr] at ec2
            obtain ⟨r2, l2, b1, b2, t2, B2⟩ := T Nb b (k + 3 * i + 1) ((cnt (es.take i) : Int) - u) B1 (by omega) (by omega) (by omega)
            have F2 : Frm [b] Nb (Nb.set b (.lst l2)) := Frm.set (by simp)
            generalize Nb.set b (.lst l2) = Nc at *
            refine ⟨(u + 1 + r2).toNat, Nc, ?_, by omega, B2.frm (S := []) .refl (by simp) (by omega), F1.trans F2⟩
            have hv : ((u : Int) + 1 + r2) = (((u + 1 + r2).toNat : Nat) : Int) := by omega
            refine s_ifT (e_andT ec ec2) (ss_cons (s_asg (x := .int ((u : Int) + 1 + r2)) (e_bop (e_bop (e_var (v := .int u) rfl) e_con rfl) (e_call (es_cons (e_var rfl) (es_one (e_bop (e_var (v := .int (cnt (es.take i))) rfl) (e_var (v := .int u) rfl) rfl))) t2) rfl) rfl) ?_)
            rw [hv]
            exact ss_nil
          · rw [decide_eq_false hr] at ec2
            exact ⟨u, Nb, s_ifF (e_andT ec ec2) ss_nil, hu, B1.frm (S := []) .refl (by simp) (by omega), F1⟩
        · rw [decide_eq_false hc] at ec
          exact ⟨u, Na, s_ifF (e_andF ec) ss_nil, hu, Ba.frm (S := []) .refl (by simp) (by omega), .refl⟩
      obtain ⟨u', Nb, s2, hu', Bb, Fb⟩ := step2
      have gb := Fb.get ga (by simp; omega)
      have FMb := FMa.trans Fb
      -- the row
      let sg1 : Sg := [some (.ref b), some TT, some (.ref nf), some (.int u'), some (.int (0 + i)), some (.int (cnt (es.take i)))]
      let row : PV := .tup [.int (0 + i), .int u']
      have eL : evE cf (.lst (.cons (.tup (.cons (.var 4) (.cons (.var 3) .nil))) .nil)) sg1 Nb = some (.ref Nb.length, Nb ++ [Ob.lst [row]]) := e_lst (es_one (e_tup (es_cons (e_var rfl) (es_one (e_var rfl))) (by simp))) (by simp)
      have F1 : Frm [b] Nb (Nb ++ [Ob.lst [row]]) := .app
      have g1 : (Nb ++ [Ob.lst [row]])[Nb.length]? = some (.lst [row]) := get_last
      have B1 : Bx (Nb ++ [Ob.lst [row]]) b (k + 3 * i + 2) := Bb.frm (S := []) .app (by simp) (Int.le_refl _)
      have hNbM : M.length ≤ Nb.length := FMb.len
      generalize Nb ++ [Ob.lst [row]] = Nc at *
      obtain ⟨r3, l3, c1, c2, t3, B3⟩ := T Nc b (k + 3 * i + 2) 3 B1 (by omega) (by omega) (by omega)
      have F3 : Frm [b] Nc (Nc.set b (.lst l3)) := Frm.set (by simp)
      generalize Nc.set b (.lst l3) = Nd at *
      have gd := F3.get g1 (by simp; omega)
      have gf := F3.get (F1.get gb (by simp; omega)) (by simp; omega)
      have eI : evE cf (.blt .int (.cons (.cmp .gt (.call i_l_take (.cons (.var 0) (.cons (.con (.int 3)) .nil))) (.con (.int 0))) .nil)) sg1 Nc = some (.int (if decide (0 < r3) then 1 else 0), Nd) := e_blt (es_one (e_cmp (e_call (es_cons (e_var rfl) (es_one e_con)) t3) e_con rfl)) rfl
      obtain ⟨add, hadd, hal, hmul⟩ : ∃ add : List PV, (∀ x ∈ add, x = row) ∧ add.length ≤ 1 ∧ bopP Nd .mul (.ref Nb.length) (.int (if decide (0 < r3) then 1 else 0)) = some (.ref Nd.length, Nd ++ [Ob.lst add]) := by
        by_cases hr : 0 < r3
        · refine ⟨[row], by simp, by simp, ?_⟩
          rw [decide_eq_true hr]
          simp [bopP, lstAt, gd, sizeLine]
        · refine ⟨[], by simp, by simp, ?_⟩
          rw [decide_eq_false hr]
          simp [bopP, lstAt, gd, sizeLine]
      have F4 : Frm [b] Nd (Nd ++ [Ob.lst add]) := .app
      have g4 : (Nd ++ [Ob.lst add])[Nd.length]? = some (.lst add) := get_last
      have gf4 := F4.get gf (by simp; omega)
      have B4 : Bx (Nd ++ [Ob.lst add]) b (k + 3 * i + 2 + 1) := B3.frm (S := []) .app (by simp) (Int.le_refl _)
      have FM4 : Frm [b] M (Nd ++ [Ob.lst add]) := ((FMb.trans F1).trans F3).trans F4
      generalize hNe : Nd ++ [Ob.lst add] = Ne at *
      have hap : bopP Ne .add (.ref nf) (.ref Nd.length) = some (.ref Ne.length, Ne ++ [Ob.lst (brs ++ add)]) := by
        simp only [bopP, lstAt, gf4, g4]
        rw [if_pos (by have : sizeLine = 16777216 := rfl; omega)]
      have s3 : evS cf (.asg (.name 2) (.bop .add (.var 2) (.bop .mul (.lst (.cons (.tup (.cons (.var 4) (.cons (.var 3) .nil))) .nil)) (.blt .int (.cons (.cmp .gt (.call i_l_take (.cons (.var 0) (.cons (.con (.int 3)) .nil))) (.con (.int 0))) .nil))))) sg1 Nb = some (.nx [some (.ref b), some TT, some (.ref Ne.length), some (.int u'), some (.int (0 + i)), some (.int (cnt (es.take i)))], Ne ++ [Ob.lst (brs ++ add)]) :=
        s_asg (e_bop (e_var rfl) (e_bop eL eI hmul) hap) rfl
      refine ⟨_, sg0 o5, _, Ne ++ [Ob.lst (brs ++ add)], hget, rfl, ss_cons s1 (ss_cons s2 (ss_cons s3 ss_nil)), Ne.length, u', brs ++ add, _, _, rfl, FM4.len, get_last, ?_, by simp; omega, Nat.le_trans hu' (cnt_mono (by omega)), B4.frm (S := []) .app (by simp) (by omega), FM4.trans .app⟩
      intro x hx
      rcases List.mem_append.mp hx with hx | hx
      · exact hbr x hx
      · rw [hadd x hx]
        refine ⟨0 + i, u', rfl, fun now hn => ?_⟩
        have : now = i := by omega
        rw [this]; exact hu')
    (by intro sg N _; simp [Src.get])
  subst hsg
  refine ⟨brs, M', ?_, F, B.frm (S := []) .refl (by simp) (by omega), hbr, by omega⟩
  have e0 : evE cf (.tup (.cons (.lst .nil) (.cons (.con (.int 0)) .nil))) [some (.ref b), some TT, none, none, none, none] M = some (.tup [.ref M.length, .int 0], M ++ [Ob.lst []]) := e_tup (es_cons (e_lst es_nil (by simp)) (es_one e_con)) (by simp)
  let sgA : Sg := [some (.ref b), some TT, some (.ref M.length), some (.int 0), none, none]
  have hI : evI cf (.rng1 (.bop .add (.blt .len (.cons (.var 1) .nil)) (.con (.int 1)))) sgA (M ++ [Ob.lst []]) = some (.rng 0 (es.length + 1), M ++ [Ob.lst []]) := by
    have e9 : evE cf (.bop .add (.blt .len (.cons (.var 1) .nil)) (.con (.int 1))) sgA (M ++ [Ob.lst []]) = some (.int ((es.length : Int) + 1), M ++ [Ob.lst []]) := e_bop (e_blt (q := some (.int (es.length : Int), M ++ [Ob.lst []])) (es_one (e_var (v := TT) rfl)) (by simp [bltP, TT])) e_con rfl
    have hro : rngOk ((es.length : Int) + 1) = true := by simp [rngOk]; omega
    rw [evI, e9]
    simp only [hro, if_true]
    rfl
  have hf2 : evS cf (.for_ (.name 4) (.rng1 (.bop .add (.blt .len (.cons (.var 1) .nil)) (.con (.int 1)))) b1_l_drawn_broom) sgA (M ++ [Ob.lst []]) = some (.nx [some (.ref b), some TT, some (.ref nf), some (.int u), o4, o5], M') := by rw [evS, hI]; exact e1
  exact run_ret rfl (ss_cons (sg1 := sgA) (M1 := M ++ [Ob.lst []]) (s_asg e0 rfl) (ss_cons hf2 (ss_ret (e_blt (es_one (e_var rfl)) (by simp only [bltP, lstAt, hg, Option.map_some])))))
theorem hdb (j : Nat) : HDb (cfN tab (j + 2)) := fun M b k es h hk hl => by
  have q := broom_ok (cf := cfN tab (j + 1)) (M := M) (b := b) (k := k) (es := es) (ht j) (hmn j) h hk hl
  obtain ⟨brs, M', q1, q2⟩ := q
  refine ⟨brs, M', ?_, q2⟩
  exact q1
end Mp

/-! Mg9 (k66): view. -/
namespace Mp
open PySem L2

/-- reads in a row, from the place lo after the time t, to the place s and the time t' -/
def Ch : Int → Int → List PV → Int → Int → Prop
  | lo, t, [], s, t' => lo = s ∧ t = t'
  | lo, t, x :: r, s, t' => ∃ (a u : Int) (got : List PV), x = .tup [.int a, .int u, .tup got] ∧ t < a ∧ lo < u ∧ GotOk lo u got ∧ got.length ≤ 14 ∧ Ch u a r s t'
theorem Ch.snoc {s t' a u : Int} {got : List PV} (h1 : t' < a) (h2 : s < u) (h3 : GotOk s u got) (h4 : got.length ≤ 14) : ∀ {xs : List PV} {lo t : Int}, Ch lo t xs s t' → Ch lo t (xs ++ [.tup [.int a, .int u, .tup got]]) u a
  | [], lo, t, h => by
    obtain ⟨rfl, rfl⟩ := h
    exact ⟨a, u, got, rfl, h1, h2, h3, h4, rfl, rfl⟩
  | x :: r, lo, t, h => by
    obtain ⟨a', u', g', e, q1, q2, q3, q4, q5⟩ := h
    exact ⟨a', u', g', e, q1, q2, q3, q4, Ch.snoc h1 h2 h3 h4 q5⟩
theorem key_abc {k : Str} (h : KeyOk k) : keyB (.str k) = true := by
  obtain ⟨s, hs, rfl⟩ := h
  simp at hs
  rcases hs with rfl | rfl | rfl <;> decide +kernel
theorem GotOk.rows {lo hi : Int} {got : List PV} (h : GotOk lo hi got) (h0 : 0 ≤ lo) : got.all rowB = true := by
  rw [List.all_eq_true]
  intro x hx
  obtain ⟨i, k, v, rfl, hk, hv, h1, h2⟩ := h.el x hx
  have hv' : (nonB v || numB v) = true := by rcases hv with rfl | ⟨j, rfl⟩ <;> rfl
  simp only [rowB, key_abc hk, hv', cntB, decide_eq_true (show 0 ≤ i by omega), Bool.and_self]
theorem GotOk.gotB {lo hi : Int} {got : List PV} (h : GotOk lo hi got) : gotB lo hi got = true := by
  unfold Mp.gotB
  rw [Bool.and_eq_true]
  constructor
  · exact decide_eq_true (usortI_uniq (S := fun k => decide (k ∈ got.map plc)) (by simp) h.asc (by simp))
  · rw [List.all_eq_true]
    intro p hp
    obtain ⟨x, hx, rfl⟩ := List.mem_map.mp hp
    obtain ⟨i, k, v, rfl, hk, hv, h1, h2⟩ := h.el x hx
    show (decide (lo ≤ i) && decide (i < hi)) = true
    rw [decide_eq_true h1, decide_eq_true h2]
    rfl
theorem readB_ok {lo a u : Int} {got : List PV} (h : GotOk lo u got) (h0 : 0 ≤ lo) (ha : 0 ≤ a) (hu : lo < u) : readB lo (.tup [.int a, .int u, .tup got]) = true := by
  simp only [readB, cntB, decide_eq_true ha, decide_eq_true hu, decide_eq_true (show 0 ≤ u by omega), h.rows h0, h.gotB, Bool.and_self]
theorem Ch.goB : ∀ {xs : List PV} {lo t s t' : Int}, Ch lo t xs s t' → 0 ≤ lo → -1 ≤ t → goB lo t xs = true
  | [], _, _, _, _, _, _, _ => rfl
  | x :: r, lo, t, s, t', h, h0, h1 => by
    obtain ⟨a, u, got, rfl, q1, q2, q3, q4, q5⟩ := h
    simp only [Mp.goB, readB_ok q3 h0 (show 0 ≤ a by omega) q2, decide_eq_true q1, q5.goB (by omega) (by omega), Bool.and_self]
def VwOk (i : Nat) (s : Int) (x : PV) : Prop := ∃ (xs : List PV) (t : Int), x = .tup xs ∧ xs.length ≤ i ∧ Ch 0 (-1) xs s t ∧ t < i
theorem VwOk.mono {i j : Nat} {s : Int} {x : PV} (h : VwOk i s x) (hij : i ≤ j) : VwOk j s x := by
  obtain ⟨xs, t, a, b, c, d⟩ := h
  exact ⟨xs, t, a, by omega, c, by omega⟩
/-- the views of all readers, of all copies -/
structure Vs (i : Nat) (ws : Ws) (fn : List (Key × PV)) (cs : List PV) : Prop where
  se : ∀ (p : Int) v, getD ws.seats (.inl p) = some v → ∃ s x, v = .int s ∧ getD fn (.inl p) = some x ∧ VwOk i s x
  cl : cs.length = ws.copies.length
  co : ∀ (j : Nat) v, ws.copies[j]? = some v → ∃ s x, v = .int s ∧ cs[j]? = some x ∧ VwOk i s x
  fl : fn.length ≤ i
theorem Vs.mono {i j : Nat} {ws : Ws} {fn : List (Key × PV)} {cs : List PV} (h : Vs i ws fn cs) (hij : i ≤ j) : Vs j ws fn cs := by
  refine ⟨fun p v e => ?_, h.cl, fun q v e => ?_, Nat.le_trans h.fl hij⟩
  · obtain ⟨s, x, a, b, c⟩ := h.se p v e
    exact ⟨s, x, a, b, c.mono hij⟩
  · obtain ⟨s, x, a, b, c⟩ := h.co q v e
    exact ⟨s, x, a, b, c.mono hij⟩
theorem Vs.put {i : Nat} {ws : Ws} {fn : List (Key × PV)} {cs : List PV} {r s : Int} {x : PV} (h : Vs i ws fn cs) (hx : VwOk (i + 1) s x) : Vs (i + 1) { ws with seats := putD ws.seats (.inl r) (.int s) } (putD fn (.inl r) x) cs := by
  refine ⟨fun p v e => ?_, h.cl, (h.mono (Nat.le_succ i)).co, by have := putD_len fn (.inl r) x; have := h.fl; omega⟩
  have e' : getD (putD ws.seats (.inl r) (.int s)) (.inl p) = some v := e
  by_cases hq : p = r
  · subst hq
    rw [getD_putS] at e'
    cases e'
    exact ⟨s, x, rfl, getD_putS, hx⟩
  · have hne : (Sum.inl p : Key) ≠ .inl r := fun z => hq (Sum.inl.inj z)
    rw [getD_putN hne] at e'
    obtain ⟨s', x', a, b, c⟩ := (h.mono (Nat.le_succ i)).se p v e'
    exact ⟨s', x', a, by rw [getD_putN hne]; exact b, c⟩
theorem eq9 {cf : CF} {sg : Sg} {N : Mm} {w a : String} (h : sg[9]? = some (some (.str (Str.ofString w)))) : evE cf (.cmp .eq (.var 9) (.con (.str (Str.ofString a)))) sg N = some (.bl (w == a), N) :=
  e_cmp (e_var h) e_con (by simp only [cmpP, eqP_str, str_eq]; rfl)
def HVw (cf : CF) : Prop := ∀ (M : Mm) (es : List Ev) (age : Int) (brs : List PV) (p s : Int) (ws : Ws), TbOk es 14 → (∀ x ∈ brs, BrOk es x) → brs.length ≤ 15 → w0.run es = some ws → getD ws.seats (.inl p) = some (.int s) →
    ∃ xs t M', cf i_l_view [.tup (es.map Ev.pv), .int age, .tup brs, .int p] M = some (.tup xs, M') ∧ xs.length ≤ 14 ∧ Ch 0 (-1) xs s t ∧ t < 14 ∧ Frm [] M M'
theorem view_ok' {cf : CF} (Rn : HRn cf) {M : Mm} {es : List Ev} {age : Int} {brs : List PV} {p s : Int} {wsF : Ws} (ht : TbOk es 14) (hb : ∀ x ∈ brs, BrOk es x) (hbl : brs.length ≤ 15) (hrF : w0.run es = some wsF) (hsp : getD wsF.seats (.inl p) = some (.int s)) :
    ∃ xs t M', runD cf ir_l_view [.tup (es.map Ev.pv), .int age, .tup brs, .int p] M = some (.tup xs, M') ∧ xs.length ≤ 14 ∧ Ch 0 (-1) xs s t ∧ t < 14 ∧ Frm [] M M' := by
  obtain ⟨he, M1, e1, d1, h1, hel, hf, F1⟩ := Rn M es age brs ht hb hbl
  have hlen := ht.len
  let T : PV := .tup (es.map Ev.pv)
  generalize hok : M.length = o at *
  let nf := M1.length
  let sgN : Option PV → Option PV → Option PV → Sg := fun o7 o8 o9 => [some T, some (.int age), some (.tup brs), some (.int p), some (.ref (o + 7)), some (.ref nf), some (.ref (nf + 1)), o7, o8, o9]
  let I : Nat → Sg → Mm → Prop := fun i sg N => ∃ (fn : List (Key × PV)) (cs : List PV) (ws : Ws) (o7 o8 o9 : Option PV), sg = sgN o7 o8 o9 ∧ N[nf]? = some (.dic fn) ∧ N[nf + 1]? = some (.lst cs) ∧ w0.run (es.take i) = some ws ∧ Vs i ws fn cs ∧ Frm [nf, nf + 1] M1 N
  have g2 : (M1 ++ [Ob.dic []] ++ [Ob.lst []])[nf]? = some (.dic []) := by simp [nf]
  have g3 : (M1 ++ [Ob.dic []] ++ [Ob.lst []])[nf + 1]? = some (.lst []) := by simp [nf]
  have F2 : Frm [nf, nf + 1] M1 (M1 ++ [Ob.dic []] ++ [Ob.lst []]) := Frm.trans .app .app
  obtain ⟨sg', M3, e3, fn, cs, ws, o7, o8, o9, hsg, hgf, hgc, hR, hV, F3⟩ := for_inv (src := .en (.tup (es.map Ev.pv))) (bind := tgP (.tup [7, 8])) (body := fun sg M => evSs cf b1_l_view sg M) I (n := es.length) (sg := sgN none none none) (M := M1 ++ [Ob.dic []] ++ [Ob.lst []]) (by omega)
    ⟨[], [], w0, none, none, none, rfl, g2, g3, by simp [Ws.run], ⟨by intro p v h; simp [w0, getD] at h, rfl, by intro j v h; simp [w0] at h, by simp⟩, F2⟩
    (by
      intro i sg N hi hI
      obtain ⟨fn, cs, ws, o7, o8, o9, rfl, hgf, hgc, hR, hV, F⟩ := hI
      have hget : (Src.en (.tup (es.map Ev.pv))).get N i = some (some (.tup [.int i, es[i].pv])) := by simp [Src.get, hi]
      have hwo := (run_ok w0_ok (fun e h => ht.ok e (List.mem_of_mem_take h)) hR).mono (show 0 + (es.take i).length ≤ 14 by simp; omega)
      have hev : es.getD i .wait = es[i] := by simp [List.getD_eq_getElem?_getD, hi]
      have hcan : canB ws es[i] = true := by
        have := ht.vl i hi
        unfold okE at this
        rw [hR] at this
        simpa only [hev] using this
      have hsp' : es.take (i + 1) = es.take i ++ [es[i]] := by rw [List.take_succ_eq_append_getElem hi]
      obtain ⟨ws', hst⟩ : ∃ ws', ws.step es[i] = some ws' := by
        have h1 : es = es.take (i + 1) ++ es.drop (i + 1) := (List.take_append_drop _ _).symm
        rw [h1, Ws.run_append] at hrF
        obtain ⟨w1, h2, _⟩ := Option.bind_eq_some_iff.mp hrF
        rw [hsp', Ws.run_append, hR] at h2
        obtain ⟨w2, h3, _⟩ := Option.bind_eq_some_iff.mp (show (ws.step es[i]).bind (fun w => w.run []) = some w1 from h2)
        exact ⟨w2, h3⟩
      have hR' : w0.run (es.take (i + 1)) = some ws' := by rw [hsp']; exact Ws.run_app hR hst
      have hok' := ht.ok es[i] (List.getElem_mem hi)
      have hel2 : i < he.length := by omega
      have hix : es[i]? = some es[i] := List.getElem?_eq_getElem hi
      generalize es[i] = e at *
      let sgE : Str → Sg := fun w => sgN (some (.int i)) (some e.pv) (some (.str w))
      -- a step that writes nothing, one that sets a reader, one that saves
      have fin : ∀ (w : Str) (N' : Mm) (fn' : List (Key × PV)) (cs' : List PV), evSs cf b1_l_view (sgN (some (.int i)) (some e.pv) o9) N = some (.nx (sgE w), N') → N'[nf]? = some (.dic fn') → N'[nf + 1]? = some (.lst cs') → Vs (i + 1) ws' fn' cs' → Frm [nf, nf + 1] M1 N' →
          ∃ x sg1 sg2 M2, (Src.en (.tup (es.map Ev.pv))).get N i = some (some x) ∧ tgP (.tup [7, 8]) x (sgN o7 o8 o9) = some sg1 ∧ (fun sg M => evSs cf b1_l_view sg M) sg1 N = some (.nx sg2, M2) ∧ I (i + 1) sg2 M2 := fun w N' fn' cs' q1 q2 q3 q4 q5 =>
        ⟨_, sgN (some (.int i)) (some e.pv) o9, sgE w, N', hget, rfl, q1, fn', cs', ws', _, _, _, rfl, q2, q3, hR', q4, q5⟩
      have sto : ∀ (r : Int) (x : PV), stoP N (.ref nf) (.int r) x = some (N.set nf (.dic (putD fn (.inl r) x))) := fun r x => by
        simp only [stoP, hgf, keyOf, Option.bind_some]
        rw [if_pos (by have : sizeLine = 16777216 := rfl; have := hV.fl; omega)]
      have hnl := lt_of hgf
      have hnl2 := lt_of hgc
      have s1 : ∀ (r : Int) (x : PV), (N.set nf (.dic (putD fn (.inl r) x)))[nf]? = some (.dic (putD fn (.inl r) x)) := fun r x => by simp [hnl]
      have s2 : ∀ (r : Int) (x : PV), (N.set nf (.dic (putD fn (.inl r) x)))[nf + 1]? = some (.lst cs) := fun r x => by rw [List.getElem?_set_ne (by omega)]; exact hgc
      have s3 : ∀ (r : Int) (x : PV), Frm [nf, nf + 1] M1 (N.set nf (.dic (putD fn (.inl r) x))) := fun r x => F.trans (Frm.set (by simp))
      have e5 : ∀ {sg : Sg} {N : Mm}, sg[5]? = some (some (.ref nf)) → evE cf (.var 5) sg N = some (.ref nf, N) := fun h => e_var h
      cases e with
      | put k v =>
        have hw : ws' = { ws with many := ws.many + 1 } := by simpa [Ws.step] using hst.symm
        subst hw
        have hV' := hV.mono (Nat.le_succ i)
        refine fin "put" N fn cs ?_ hgf hgc ⟨hV'.se, hV'.cl, hV'.co, hV'.fl⟩ F
        exact ss_cons (s_asg (ix_ (xs := [.str "put", .str k, .int v]) (e_var rfl) at0) rfl) (ss_cons (s_ifF (eq9 (w := "put") rfl) (ss_cons (s_ifF (eq9 (w := "put") rfl) (ss_cons (s_ifF (eq9 (w := "put") rfl) (ss_cons (s_ifF (eq9 (w := "put") rfl) ss_nil) ss_nil)) ss_nil)) ss_nil)) ss_nil)
      | drop k =>
        have hw : ws' = { ws with many := ws.many + 1 } := by simpa [Ws.step] using hst.symm
        subst hw
        have hV' := hV.mono (Nat.le_succ i)
        refine fin "drop" N fn cs ?_ hgf hgc ⟨hV'.se, hV'.cl, hV'.co, hV'.fl⟩ F
        exact ss_cons (s_asg (ix_ (xs := [.str "drop", .str k]) (e_var rfl) at0) rfl) (ss_cons (s_ifF (eq9 (w := "drop") rfl) (ss_cons (s_ifF (eq9 (w := "drop") rfl) (ss_cons (s_ifF (eq9 (w := "drop") rfl) (ss_cons (s_ifF (eq9 (w := "drop") rfl) ss_nil) ss_nil)) ss_nil)) ss_nil)) ss_nil)
      | wait =>
        have hw : ws' = ws := by simpa [Ws.step] using hst.symm
        subst hw
        refine fin "wait" N fn cs ?_ hgf hgc (hV.mono (Nat.le_succ i)) F
        exact ss_cons (s_asg (ix_ (xs := [.str "wait"]) (e_var rfl) at0) rfl) (ss_cons (s_ifF (eq9 (w := "wait") rfl) (ss_cons (s_ifF (eq9 (w := "wait") rfl) (ss_cons (s_ifF (eq9 (w := "wait") rfl) (ss_cons (s_ifF (eq9 (w := "wait") rfl) ss_nil) ss_nil)) ss_nil)) ss_nil)) ss_nil)
      | join r =>
        have hw : ws' = { ws with seats := putD ws.seats (.inl r) (.int 0) } := by simpa [Ws.step] using hst.symm
        subst hw
        refine fin "join" _ _ cs ?_ (s1 r (.tup [])) (s2 r (.tup [])) (hV.put ⟨[], -1, rfl, by simp, ⟨rfl, rfl⟩, by omega⟩) (s3 r (.tup []))
        exact ss_cons (s_asg (ix_ (xs := [.str "join", .int r]) (e_var rfl) at0) rfl) (ss_cons (s_ifT (eq9 (w := "join") rfl) (ss_cons (s_sto (e_tup es_nil (by simp)) (e_var rfl) (ix_ (xs := [.str "join", .int r]) (e_var rfl) at1) (sto r (.tup []))) ss_nil)) ss_nil)
      | read r u =>
        have hw : ws' = { ws with seats := putD ws.seats (.inl r) (.int u) } := by simpa [Ws.step] using hst.symm
        subst hw
        obtain ⟨n, got, s, wsx, a1, a2, a3, a4, a5, a6, a7⟩ := hf i r u hel2 hix
        rw [hR] at a6
        cases a6
        simp only [canB, a7, Bool.and_eq_true, decide_eq_true_eq] at hcan
        obtain ⟨s', x, q1, q2, xs, t, q3, q4, q5, q6⟩ := hV.se r _ a7
        cases q1
        subst q3
        have hgn := F.get a3 (show n ∉ [nf, nf + 1] by have := lt_of a3; simp [nf]; omega)
        have hgh := F.get h1 (show o + 7 ∉ [nf, nf + 1] by have := lt_of h1; simp [nf]; omega)
        let y : PV := .tup [.int i, .int u, .tup got]
        have eH : evE cf (.idx (.var 4) (.var 7)) (sgE "read") N = some (.ref n, N) := e_idx (e_var (v := .ref (o + 7)) rfl) (e_var (v := .int i) rfl) (by
          simp only [idxP, hgh, atI, ixN]
          rw [if_pos (by omega), if_pos (by omega)]
          show he[(i : Int).toNat]? = _
          rw [show (i : Int).toNat = i by omega]
          exact a1)
        have eE : ∀ {N : Mm}, evE cf (.var 8) (sgE "read") N = some (.tup [.str "read", .int r, .int u], N) := e_var rfl
        have eY : evE cf (.tup (.cons (.tup (.cons (.var 7) (.cons (.idx (.var 8) (.con (.int 2))) (.cons (.blt .tuple (.cons (.idx (.var 4) (.var 7)) .nil)) .nil)))) .nil)) (sgE "read") N = some (.tup [y], N) :=
          e_tup (es_one (e_tup (es_cons (e_var rfl) (es_cons (ix_ eE at2) (es_one (e_blt (es_one eH) (by simp only [bltP, lstAt, hgn, Option.map_some]))))) (by simp))) (by simp)
        have eX : evE cf (.idx (.var 5) (.idx (.var 8) (.con (.int 1)))) (sgE "read") N = some (.tup xs, N) := e_idx (e_var (v := .ref nf) rfl) (ix_ eE at1) (by simp only [idxP, hgf, keyOf, Option.bind_some]; exact q2)
        have eA : evE cf (.bop .add (.idx (.var 5) (.idx (.var 8) (.con (.int 1)))) (.tup (.cons (.tup (.cons (.var 7) (.cons (.idx (.var 8) (.con (.int 2))) (.cons (.blt .tuple (.cons (.idx (.var 4) (.var 7)) .nil)) .nil)))) .nil))) (sgE "read") N = some (.tup (xs ++ [y]), N) := e_bop eX eY (by
          simp only [bopP]
          rw [if_pos (by have : sizeLine = 16777216 := rfl; simp; omega)])
        refine fin "read" _ _ cs ?_ (s1 r (.tup (xs ++ [y]))) (s2 r (.tup (xs ++ [y]))) (hV.put ⟨xs ++ [y], i, rfl, by simp; omega, Ch.snoc (by omega) hcan.1 a4 a5 q5, by omega⟩) (s3 r (.tup (xs ++ [y])))
        exact ss_cons (s_asg (ix_ (xs := [.str "read", .int r, .int u]) (e_var rfl) at0) rfl) (ss_cons (s_ifF (eq9 (w := "read") rfl) (ss_cons (s_ifT (eq9 (w := "read") rfl) (ss_cons (s_sto eA (e_var rfl) (ix_ eE at1) (sto r (.tup (xs ++ [y])))) ss_nil)) ss_nil)) ss_nil)
      | save r =>
        simp only [Ws.step] at hst
        obtain ⟨v, hv, hw⟩ := Option.map_eq_some_iff.mp hst
        subst hw
        obtain ⟨s', x, q1, q2, q3⟩ := hV.se r _ hv
        subst q1
        have hcl := hwo.cl
        have hap : mthP N .append (.ref (nf + 1)) [x] = some (.non, N.set (nf + 1) (.lst (cs ++ [x]))) := by
          simp only [mthP, lstAt, hgc, Option.bind_some]
          rw [if_pos (by have : sizeLine = 16777216 := rfl; have := hV.cl; omega)]
        have eE : ∀ {N : Mm}, evE cf (.var 8) (sgE "save") N = some (.tup [.str "save", .int r], N) := e_var rfl
        have eX : evE cf (.idx (.var 5) (.idx (.var 8) (.con (.int 1)))) (sgE "save") N = some (x, N) := e_idx (e_var (v := .ref nf) rfl) (ix_ eE at1) (by simp only [idxP, hgf, keyOf, Option.bind_some]; exact q2)
        have hV' := hV.mono (Nat.le_succ i)
        refine fin "save" (N.set (nf + 1) (.lst (cs ++ [x]))) fn (cs ++ [x]) ?_ (by rw [List.getElem?_set_ne (by omega)]; exact hgf) (by simp [hnl2]) ⟨hV'.se, by simp [hV.cl], ?_, hV'.fl⟩ (F.trans (Frm.set (by simp)))
        · exact ss_cons (s_asg (ix_ (xs := [.str "save", .int r]) (e_var rfl) at0) rfl) (ss_cons (s_ifF (eq9 (w := "save") rfl) (ss_cons (s_ifF (eq9 (w := "save") rfl) (ss_cons (s_ifT (eq9 (w := "save") rfl) (ss_cons (s_exp (e_mth (e_var rfl) (by simp [mtOk, lstAt, hgc]) (es_one eX) hap)) ss_nil)) ss_nil)) ss_nil)) ss_nil)
        · intro j v ee
          have ee' : (ws.copies ++ [.int s'])[j]? = some v := ee
          by_cases hj : j < ws.copies.length
          · rw [List.getElem?_append_left hj] at ee'
            obtain ⟨s2, x2, b1, b2, b3⟩ := hV'.co j v ee'
            exact ⟨s2, x2, b1, by rw [List.getElem?_append_left (by rw [hV.cl]; exact hj)]; exact b2, b3⟩
          · have hj2 : j = ws.copies.length := by
              have := (List.getElem?_eq_some_iff.mp ee').1
              simp at this; omega
            subst hj2
            simp at ee'
            subst ee'
            refine ⟨s', x, rfl, ?_, q3.mono (Nat.le_succ i)⟩
            rw [← hV.cl]; simp
      | load r c =>
        simp only [Ws.step] at hst
        obtain ⟨v, hv, hw⟩ := Option.map_eq_some_iff.mp hst
        subst hw
        simp only [canB, decide_eq_true_eq] at hcan
        have hc0 : 0 ≤ c := hok'.2.2
        have hv' : ws.copies[c.toNat]? = some v := by
          have := hv
          unfold atI ixN at this
          rw [if_pos hc0, if_pos hcan] at this
          exact this
        obtain ⟨s', x, q1, q2, q3⟩ := hV.co c.toNat v hv'
        subst q1
        have eE : ∀ {N : Mm}, evE cf (.var 8) (sgE "load") N = some (.tup [.str "load", .int r, .int c], N) := e_var rfl
        have eX : evE cf (.idx (.var 6) (.idx (.var 8) (.con (.int 2)))) (sgE "load") N = some (x, N) := e_idx (e_var (v := .ref (nf + 1)) rfl) (ix_ eE at2) (by
          simp only [idxP, hgc, atI, ixN]
          rw [if_pos hc0, if_pos (by rw [hV.cl]; exact hcan)]
          exact q2)
        refine fin "load" _ _ cs ?_ (s1 r x) (s2 r x) (hV.put (q3.mono (Nat.le_succ i))) (s3 r x)
        exact ss_cons (s_asg (ix_ (xs := [.str "load", .int r, .int c]) (e_var rfl) at0) rfl) (ss_cons (s_ifF (eq9 (w := "load") rfl) (ss_cons (s_ifF (eq9 (w := "load") rfl) (ss_cons (s_ifF (eq9 (w := "load") rfl) (ss_cons (s_ifT (eq9 (w := "load") rfl) (ss_cons (s_sto eX (e_var rfl) (ix_ eE at1) (sto r x)) ss_nil)) ss_nil)) ss_nil)) ss_nil)) ss_nil))
    (by intro sg N _; simp [Src.get])
  subst hsg
  rw [List.take_length, hrF] at hR
  cases hR
  obtain ⟨s', x, q1, q2, xs, t, q3, q4, q5, q6⟩ := hV.se p _ hsp
  cases q1
  subst q3
  have FF : Frm [] M M3 := F1.comp F3 (by simp [nf]; have := F1.len; omega)
  refine ⟨xs, t, M3, ?_, by omega, q5, by omega, FF⟩
  have hih : idxP M1 (.ref o) (.str "heard") = some (.ref (o + 7)) := by simp [idxP, d1, keyOf, getD, ldic]
  have e0 : evE cf (.tup (.cons (.idx (.call i_l_run (.cons (.var 0) (.cons (.var 1) (.cons (.var 2) .nil)))) (.con (.str "heard"))) (.cons .dnew (.cons (.lst .nil) .nil)))) [some T, some (.int age), some (.tup brs), some (.int p), none, none, none, none, none, none] M = some (.tup [.ref (o + 7), .ref nf, .ref (M1 ++ [Ob.dic []]).length], M1 ++ [Ob.dic []] ++ [Ob.lst []]) :=
    e_tup (es_cons (e_idx (e_call (es_cons (e_var rfl) (es_cons (e_var rfl) (es_one (e_var rfl)))) e1) e_con hih) (es_cons (by rw [evE]) (es_one (e_lst es_nil (by simp))))) (by simp)
  rw [show (M1 ++ [Ob.dic []]).length = nf + 1 by simp [nf]] at e0
  have hI : evI cf (.enum (.var 0)) (sgN none none none) (M1 ++ [Ob.dic []] ++ [Ob.lst []]) = some (.en (.tup (es.map Ev.pv)), M1 ++ [Ob.dic []] ++ [Ob.lst []]) := by
    rw [evI, e_var (v := T) rfl]
    rfl
  have hf2 : evS cf (.for_ (.tup [7, 8]) (.enum (.var 0)) b1_l_view) (sgN none none none) (M1 ++ [Ob.dic []] ++ [Ob.lst []]) = some (.nx (sgN o7 o8 o9), M3) := by rw [evS, hI]; exact e3
  have hg : mthP M3 .get1 (.ref nf) [.int p] = some (.tup xs, M3) := by
    simp only [mthP, dicAt, hgf, keyOf, Option.bind_some, Option.map_some, q2, Option.getD_some]
  exact run_ret rfl (ss_cons (sg1 := sgN none none none) (M1 := M1 ++ [Ob.dic []] ++ [Ob.lst []]) (s_asg e0 rfl) (ss_cons hf2 (ss_ret (e_mth (e_var rfl) (by simp [mtOk, dicAt, hgf]) (es_one (e_var rfl)) hg))))
theorem hvw (j : Nat) : HVw (cfN tab (j + 4)) := fun M es age brs p s ws ht hb hbl hr hs => view_ok' (cf := cfN tab (j + 3)) (hrn j) ht hb hbl hr hs
end Mp

/-! Mg10 (k66): some. -/
namespace Mp
open PySem L2

def jlP : PV → Bool
  | .tup (.str w :: _) => (Str.ofString "join" == w || Str.ofString "load" == w)
  | _ => false
def snP : PV → PV
  | .tup (_ :: x :: _) => x
  | _ => .non
def rdr : Ev → Option Int
  | .join r => some r | .load r _ => some r | _ => none
theorem crowd_eq : ∀ es : List Ev, ((es.map Ev.pv).filter jlP).map snP = (es.filterMap rdr).map PV.int
  | [] => rfl
  | e :: es => by
    have ih := crowd_eq es
    cases e <;> simp [Ev.pv, jlP, rdr, List.filter_cons] <;> first | exact ih | exact ⟨rfl, ih⟩
theorem seat_step {p : Int} {ws ws' : Ws} {e : Ev} (h : ws.step e = some ws') (q : (getD ws.seats (.inl p)).isSome = true ∨ rdr e = some p) : (getD ws'.seats (.inl p)).isSome = true := by
  have put : ∀ (r : Int) (v : PV), ((getD ws.seats (.inl p)).isSome = true ∨ r = p) → (getD (putD ws.seats (.inl r) v) (.inl p)).isSome = true := fun r v q => by
    by_cases hr : p = r
    · subst hr; rw [getD_putS]; rfl
    · rw [getD_putN (fun z => hr (Sum.inl.inj z))]
      rcases q with q | q
      · exact q
      · exact absurd q.symm hr
  cases e with
  | put k v => simp only [Ws.step] at h; cases h; simpa [rdr] using q
  | drop k => simp only [Ws.step] at h; cases h; simpa [rdr] using q
  | wait => simp only [Ws.step] at h; cases h; simpa [rdr] using q
  | join r => simp only [Ws.step] at h; cases h; exact put r _ (by simpa [rdr] using q)
  | read r u => simp only [Ws.step] at h; cases h; exact put r _ (.inl (by simpa [rdr] using q))
  | save r =>
    simp only [Ws.step] at h
    obtain ⟨v, _, hw⟩ := Option.map_eq_some_iff.mp h
    subst hw
    simpa [rdr] using q
  | load r c =>
    simp only [Ws.step] at h
    obtain ⟨v, _, hw⟩ := Option.map_eq_some_iff.mp h
    subst hw
    exact put r _ (by simpa [rdr] using q)
theorem seat_run {p : Int} : ∀ {es : List Ev} {ws ws' : Ws}, ws.run es = some ws' → ((getD ws.seats (.inl p)).isSome = true ∨ ∃ e ∈ es, rdr e = some p) → (getD ws'.seats (.inl p)).isSome = true
  | [], ws, ws', h, q => by
    cases h
    simpa using q
  | e :: es, ws, ws', h, q => by
    obtain ⟨w, h1, h2⟩ := Option.bind_eq_some_iff.mp h
    refine seat_run h2 ?_
    rcases q with q | ⟨e', he, q⟩
    · exact .inl (seat_step h1 (.inl q))
    · rcases List.mem_cons.mp he with rfl | he
      · exact .inl (seat_step h1 (.inr q))
      · exact .inr ⟨e', he, q⟩
theorem insU_len (i : Int) : ∀ l : List Int, (insU i l).length ≤ l.length + 1
  | [] => by simp [insU]
  | j :: r => by
    unfold insU
    split
    · simp
    · split
      · simp
      · have := insU_len i r
        simp; omega
theorem usortI_len : ∀ l : List Int, (usortI l).length ≤ l.length
  | [] => by simp [usortI]
  | i :: r => by
    show (insU i (usortI r)).length ≤ _
    have := insU_len i (usortI r)
    have := usortI_len r
    simp; omega
def HSo (cf : CF) : Prop := ∀ (M : Mm) (b : Nat) (k : Int), Bx M b k → k < 700000000000 →
  ∃ (x1 x2 x3 x4 : PV) (xs : List PV) (s t : Int) (M' : Mm), cf i_l_some [.ref b, .int 2] M = some (.tup [x1, x2, x3, x4, .tup xs], M') ∧ Frm [b] M M' ∧ Bx M' b (k + 140) ∧ xs.length ≤ 14 ∧ Ch 0 (-1) xs s t ∧ t < 14
theorem some_ok {cf : CF} (T : HT cf) (O : HO cf) (Tl : HTl cf) (Db : HDb cf) (Vw : HVw cf) {M : Mm} {b : Nat} {k : Int} (h : Bx M b k) (hk : k < 700000000000) :
    ∃ (x1 x2 x3 x4 : PV) (xs : List PV) (s t : Int) (M' : Mm), runD cf ir_l_some [.ref b, .int 2] M = some (.tup [x1, x2, x3, x4, .tup xs], M') ∧ Frm [b] M M' ∧ Bx M' b (k + 140) ∧ xs.length ≤ 14 ∧ Ch 0 (-1) xs s t ∧ t < 14 := by
  have hbl : b < M.length := by obtain ⟨_, _, _, hb, _⟩ := h; exact lt_of hb
  -- the table
  obtain ⟨r1, l1, a1, a2, t1, B1⟩ := T M b k 7 h (by omega) (by omega) (by omega)
  have F1 : Frm [b] M (M.set b (.lst l1)) := Frm.set (by simp)
  generalize M.set b (.lst l1) = M1 at *
  obtain ⟨es, M2, t2, F2, B2, ht⟩ := Tl M1 b (k + 1) (8 + r1) B1 (by omega) (by omega) (by omega)
  have hlen := ht.len
  let TT : PV := .tup (es.map Ev.pv)
  let sg0 : Sg := [some (.ref b), some (.int 2), none, none, none, none, none, none]
  let sg1 : Sg := [some (.ref b), some (.int 2), some TT, none, none, none, none, none]
  have s1 : evS cf (.asg (.name 2) (.call i_l_tale (.cons (.var 0) (.cons (.bop .add (.con (.int 8)) (.call i_l_take (.cons (.var 0) (.cons (.con (.int 7)) .nil)))) (.cons (.con (.int 6)) (.cons (.var 1) .nil)))))) sg0 M = some (.nx sg1, M2) :=
    s_asg (e_call (es_cons (e_var rfl) (es_cons (e_bop e_con (e_call (es_cons (e_var rfl) (es_one e_con)) t1) rfl) (es_cons e_con (es_one (e_var rfl))))) t2) rfl
  -- the brooms, the age
  obtain ⟨brs, M3, t3, F3, B3, hbr, hbrl⟩ := Db M2 b (k + 1 + 70) es B2 (by omega) hlen
  let ages : List PV := [.int 0, .int 0, .int 1, .int 1, .int 2, .int 3]
  have F4 : Frm [b] M3 (M3 ++ [Ob.lst ages]) := .app
  have F23 := (F1.trans F2).trans F3
  have hb3 : b < M3.length := F23.lt hbl
  obtain ⟨age, l4, q4, t4, B4⟩ := O (M3 ++ [Ob.lst ages]) b M3.length (k + 1 + 70 + 60) ages (B3.frm (S := []) .app (by simp) (by omega)) (by omega) get_last (by omega) (by simp [ages]) (by simp [ages])
  have F4b : Frm [b] (M3 ++ [Ob.lst ages]) ((M3 ++ [Ob.lst ages]).set b (.lst l4)) := Frm.set (by simp)
  have F4c := (F23.trans F4).trans F4b
  obtain ⟨ag, rfl⟩ : ∃ ag, age = .int ag := by
    simp [ages] at q4
    rcases q4 with rfl | rfl | rfl | rfl <;> exact ⟨_, rfl⟩
  generalize hM4 : (M3 ++ [Ob.lst ages]).set b (.lst l4) = M4 at *
  let sg2 : Sg := [some (.ref b), some (.int 2), some TT, some (.tup brs), some (.int ag), none, none, none]
  have s2 : evS cf (.asg (.tup [3, 4]) (.tup (.cons (.call i_l_drawn_broom (.cons (.var 0) (.cons (.var 2) .nil))) (.cons (.call i_l_of (.cons (.var 0) (.cons (.lst (.cons (.con (.int 0)) (.cons (.con (.int 0)) (.cons (.con (.int 1)) (.cons (.con (.int 1)) (.cons (.con (.int 2)) (.cons (.con (.int 3)) .nil))))))) .nil))) .nil)))) sg1 M2 = some (.nx sg2, M4) :=
    s_asg (x := .tup [.tup brs, .int ag]) (e_tup (es_cons (e_call (es_cons (e_var rfl) (es_one (e_var rfl))) t3) (es_one (e_call (es_cons (e_var rfl) (es_one (e_lst (es_cons e_con (es_cons e_con (es_cons e_con (es_cons e_con (es_cons e_con (es_one e_con)))))) (by simp)))) t4))) (by simp)) rfl
  -- the crowd
  have hI : evI cf (.seq (.var 2)) sg2 M4 = some (.tup (es.map Ev.pv), M4) := by rw [evI, e_var (v := TT) rfl]; rfl
  have eL := lc_tup (cf := cf) (own := [7]) (t := .name 7) (it := .seq (.var 2)) (c := c1_l_some) (e := e2_l_some) (sg := sg2) (es.map Ev.pv) jlP snP hI (by simp; omega) (by
    intro x hx N
    obtain ⟨e, he, rfl⟩ := List.mem_map.mp hx
    refine ⟨[some (.ref b), some (.int 2), some TT, some (.tup brs), some (.int ag), none, none, some e.pv], rfl, ?_, fun hj => ?_⟩
    · unfold c1_l_some
      rw [e.pv_eq]
      refine e_cmp (ix_ (e_var rfl) at0) (e_tup (es_cons e_con (es_one e_con)) (by simp)) ?_
      simp [cmpP, isIn, inP, flatP, eqF, jlP]
    · unfold e2_l_some
      cases e <;> first
        | exact ix_ (e_var rfl) at1
        | (simp [Ev.pv, jlP] at hj))
  rw [crowd_eq] at eL
  let ns : List Int := es.filterMap rdr
  have hnl : ns.length ≤ 14 := Nat.le_trans (List.length_filterMap_le _ _) hlen
  have hul := usortI_len ns
  have g5 : (M4 ++ [Ob.lst (ns.map PV.int)])[M4.length]? = some (.lst (ns.map PV.int)) := get_last
  have F5 : Frm [b] M4 (M4 ++ [Ob.lst (ns.map PV.int)]) := .app
  have B5 : Bx (M4 ++ [Ob.lst (ns.map PV.int)]) b (k + 132) := B4.frm (S := []) .app (by simp) (by omega)
  generalize hM5 : M4 ++ [Ob.lst (ns.map PV.int)] = M5 at *
  let us : List PV := (usortI ns).map PV.int
  have eS : evE cf (.blt .ssort (.cons (.lc [7] (.name 7) (.seq (.var 2)) c1_l_some e2_l_some) .nil)) sg2 M4 = some (.ref M5.length, M5 ++ [Ob.lst us]) := by
    refine e_blt (es_one (show evE cf (.lc [7] (.name 7) (.seq (.var 2)) c1_l_some e2_l_some) sg2 M4 = some (.ref M4.length, M5) from hM5 ▸ eL)) ?_
    simp only [bltP, lstAt, g5, intsOf_int, Option.bind_some]
    rw [if_pos (by omega)]
  have g6 : (M5 ++ [Ob.lst us])[M5.length]? = some (.lst us) := get_last
  have F6 : Frm [b] M5 (M5 ++ [Ob.lst us]) := .app
  have B6 : Bx (M5 ++ [Ob.lst us]) b (k + 132) := B5.frm (S := []) .app (by simp) (by omega)
  have F56 := (F4c.trans F5).trans F6
  have hM5l : M3.length < M5.length := by
    have h1 : M4.length = M3.length + 1 := by rw [← hM4]; simp
    rw [← hM5]; simp; omega
  let c5 := M5.length
  have hc5 : M5.length = c5 := rfl
  have hbc : b < c5 := by omega
  generalize hM6 : M5 ++ [Ob.lst us] = M6 at *
  let sg3 : Sg := [some (.ref b), some (.int 2), some TT, some (.tup brs), some (.int ag), some (.ref c5), none, none]
  have s3 : evS cf (.asg (.name 5) (.blt .ssort (.cons (.lc [7] (.name 7) (.seq (.var 2)) c1_l_some e2_l_some) .nil))) sg2 M4 = some (.nx sg3, M6) := s_asg eS rfl
  -- is there one
  have F7 : Frm [b] M6 (M6 ++ [Ob.lst []]) := .app
  have g7 : (M6 ++ [Ob.lst []])[c5]? = some (.lst us) := F7.get g6 (by simp; omega)
  have g8 : (M6 ++ [Ob.lst []])[M6.length]? = some (.lst (([] : List Int).map PV.int)) := get_last
  have B7 : Bx (M6 ++ [Ob.lst []]) b (k + 132) := B6.frm (S := []) .app (by simp) (by omega)
  have F67 := F56.trans F7
  have eC : evE cf (.cmp .ne (.var 5) (.lst .nil)) sg3 M6 = some (.bl (!decide (usortI ns = [])), M6 ++ [Ob.lst []]) := e_cmp (e_var (v := .ref c5) rfl) (e_lst es_nil (by simp)) (by simp only [cmpP, eqP_ints g7 g8, Option.map_some])
  generalize M6 ++ [Ob.lst []] = M7 at *
  obtain ⟨wsF, hrF, hwF⟩ := ht.run
  by_cases hne : usortI ns = []
  · rw [decide_eq_true hne] at eC
    let sg4 : Sg := [some (.ref b), some (.int 2), some TT, some (.tup brs), some (.int ag), some (.ref c5), some .non, none]
    have s4 : evS cf (.asg (.name 6) (.ite (.cmp .ne (.var 5) (.lst .nil)) (.call i_l_of (.cons (.var 0) (.cons (.var 5) .nil))) (.con .non))) sg3 M6 = some (.nx sg4, M7) := s_asg (e_iteF eC e_con) rfl
    have eN : evE cf (.cmp .isNN (.var 6) (.con .non)) sg4 M7 = some (.bl false, M7) := e_cmp (e_var (v := .non) rfl) e_con rfl
    refine ⟨TT, .tup brs, .int ag, .non, [], 0, -1, M7, ?_, F67, B7.frm (S := []) .refl (by simp) (by omega), by simp, ⟨rfl, rfl⟩, by omega⟩
    exact run_ret rfl (ss_cons s1 (ss_cons s2 (ss_cons s3 (ss_cons s4 (ss_ret (e_tup (es_cons (e_var rfl) (es_cons (e_var rfl) (es_cons (e_var rfl) (es_cons (e_var rfl) (es_one (e_iteF eN (e_tup es_nil (by simp)))))))) (by simp)))))))
  · rw [decide_eq_false hne] at eC
    obtain ⟨x, l8, q8, t8, B8⟩ := O M7 b c5 (k + 132) us B7 (by omega) g7 (by omega) (by simpa [us] using hne) (by simp [us]; omega)
    have F8 : Frm [b] M7 (M7.set b (.lst l8)) := Frm.set (by simp)
    generalize M7.set b (.lst l8) = M8 at *
    obtain ⟨p, hp, rfl⟩ := List.mem_map.mp q8
    have hp' : p ∈ ns := (usortI_mem p ns).mp hp
    obtain ⟨e, hee, hep⟩ := List.mem_filterMap.mp hp'
    have hso := seat_run hrF (.inr ⟨e, hee, hep⟩)
    obtain ⟨v, hv⟩ := Option.isSome_iff_exists.mp hso
    obtain ⟨p', s, q1, _, _, _⟩ := hwF.seats _ (getD_mem hv)
    cases q1
    obtain ⟨xs, t, M9, t9, x1, x2, x3, F9⟩ := Vw M8 es ag brs p s wsF ht hbr hbrl hrF hv
    let sg4 : Sg := [some (.ref b), some (.int 2), some TT, some (.tup brs), some (.int ag), some (.ref c5), some (.int p), none]
    have s4 : evS cf (.asg (.name 6) (.ite (.cmp .ne (.var 5) (.lst .nil)) (.call i_l_of (.cons (.var 0) (.cons (.var 5) .nil))) (.con .non))) sg3 M6 = some (.nx sg4, M8) := s_asg (e_iteT eC (e_call (es_cons (e_var rfl) (es_one (e_var rfl))) t8)) rfl
    have eN : evE cf (.cmp .isNN (.var 6) (.con .non)) sg4 M8 = some (.bl true, M8) := e_cmp (e_var (v := .int p) rfl) e_con rfl
    refine ⟨TT, .tup brs, .int ag, .int p, xs, s, t, M9, ?_, (F67.trans F8).trans (F9.mono (by simp)), B8.frm F9 (by simp) (by omega), x1, x2, x3⟩
    exact run_ret rfl (ss_cons s1 (ss_cons s2 (ss_cons s3 (ss_cons s4 (ss_ret (e_tup (es_cons (e_var rfl) (es_cons (e_var rfl) (es_cons (e_var rfl) (es_cons (e_var rfl) (es_one (e_iteT eN (e_call (es_cons (e_var rfl) (es_cons (e_var rfl) (es_cons (e_var rfl) (es_one (e_var rfl))))) t9))))))) (by simp)))))))
theorem hso (j : Nat) : HSo (cfN tab (j + 6)) := fun M b k h hk => some_ok (cf := cfN tab (j + 5)) (ht (j + 4)) (ho (j + 3)) (htl j) (hdb (j + 3)) (hvw (j + 1)) h hk
end Mp

/-! Mh1 (k66): views and what is none, in plain Lean; lists of built values. -/
namespace Mp
open PySem L2

theorem Ch.app {ys : List PV} {s t' : Int} : ∀ {xs : List PV} {lo t : Int}, Ch lo t xs s t' → 0 ≤ lo → -1 ≤ t → Mp.goB lo t (xs ++ ys) = Mp.goB s t' ys
  | [], lo, t, h, _, _ => by
    obtain ⟨rfl, rfl⟩ := h
    rfl
  | x :: r, lo, t, h, h0, h1 => by
    obtain ⟨a, u, got, rfl, q1, q2, q3, q4, q5⟩ := h
    rw [List.cons_append]
    simp only [Mp.goB, readB_ok q3 h0 (show 0 ≤ a by omega) q2, decide_eq_true q1, q5.app (by omega) (by omega), Bool.true_and]
theorem Ch.le {s t' : Int} : ∀ {xs : List PV} {lo t : Int}, Ch lo t xs s t' → lo ≤ s ∧ t ≤ t'
  | [], lo, t, h => by
    obtain ⟨rfl, rfl⟩ := h
    exact ⟨Int.le_refl _, Int.le_refl _⟩
  | x :: r, lo, t, h => by
    obtain ⟨a, u, got, rfl, q1, q2, q3, q4, q5⟩ := h
    have := q5.le
    omega
theorem Ch.last {s t' : Int} : ∀ {xs : List PV} {lo t : Int}, Ch lo t xs s t' → xs ≠ [] → ∃ got, xs.getLast? = some (.tup [.int t', .int s, .tup got])
  | [], lo, t, h, q => absurd rfl q
  | [x], lo, t, h, _ => by
    obtain ⟨a, u, got, rfl, q1, q2, q3, q4, rfl, rfl⟩ := h
    exact ⟨got, rfl⟩
  | x :: y :: r, lo, t, h, _ => by
    obtain ⟨a, u, got, rfl, q1, q2, q3, q4, q5⟩ := h
    obtain ⟨g, hg⟩ := q5.last (by simp)
    exact ⟨g, by rw [List.getLast?_cons_cons]; exact hg⟩
theorem atI_last {xs : List PV} {x : PV} (h : xs.getLast? = some x) : atI xs (-1) = some x := by
  have hne : xs ≠ [] := by intro z; subst z; simp at h
  have hp : 0 < xs.length := List.length_pos_iff.mpr hne
  unfold atI ixN
  rw [if_neg (by omega), if_pos (by omega)]
  show xs[(-1 + (xs.length : Int)).toNat]? = some x
  rw [show (-1 + (xs.length : Int)).toNat = xs.length - 1 by omega, ← List.getLast?_eq_getElem?]
  exact h
/-! ### good values with no list in them -/
def puB : Nat → PV → Bool
  | 0, _ => false
  | _ + 1, .non => true
  | _ + 1, .bl _ => true
  | _ + 1, .int _ => true
  | _ + 1, .str s => decide (s.length < 1000) && PyData.canLay0 (.str s)
  | k + 1, .tup xs => decide (xs.length < 50) && xs.all (puB k)
  | _ + 1, _ => false
theorem pu_gd {b : List Nat} {M : Mm} : ∀ {k : Nat} {x : PV}, puB k x = true → Gd b k M x
  | 0, _, h => by simp [puB] at h
  | k + 1, x, h => by
    cases x with
    | non => trivial
    | bl _ => trivial
    | int _ => trivial
    | str s =>
      simp only [puB, Bool.and_eq_true, decide_eq_true_eq] at h
      exact h
    | tup xs =>
      simp only [puB, Bool.and_eq_true, decide_eq_true_eq, List.all_eq_true] at h
      exact ⟨h.1, fun x hx => pu_gd (h.2 x hx)⟩
    | _ => simp [puB] at h
theorem pu_up : ∀ {k : Nat} {x : PV}, puB k x = true → puB (k + 1) x = true
  | 0, _, h => by simp [puB] at h
  | k + 1, x, h => by
    cases x with
    | tup xs =>
      simp only [puB, Bool.and_eq_true, decide_eq_true_eq, List.all_eq_true] at h ⊢
      exact ⟨h.1, fun x hx => pu_up (k := k) (h.2 x hx)⟩
    | _ => simpa [puB] using h
theorem pu_le {k j : Nat} {x : PV} (h : puB k x = true) (hj : k ≤ j) : puB j x = true := by
  induction hj with
  | refl => exact h
  | step _ ih => exact pu_up ih
theorem pu_tup {k : Nat} {xs : List PV} (hl : xs.length < 50) (h : ∀ x ∈ xs, puB k x = true) : puB (k + 1) (.tup xs) = true := by
  simp only [puB, Bool.and_eq_true, decide_eq_true_eq, List.all_eq_true]
  exact ⟨hl, h⟩
theorem key_lay {k : Str} (h : KeyOk k) : puB 1 (.str k) = true := by
  obtain ⟨s, hs, rfl⟩ := h
  simp at hs
  rcases hs with rfl | rfl | rfl <;> decide +kernel
theorem GotOk.pu {lo hi : Int} {got : List PV} (h : GotOk lo hi got) (hl : got.length ≤ 14) : puB 3 (.tup got) = true := by
  refine pu_tup (by omega) fun x hx => ?_
  obtain ⟨i, k, v, rfl, hk, hv, _, _⟩ := h.el x hx
  refine pu_tup (by simp) fun y hy => ?_
  simp at hy
  rcases hy with rfl | rfl | rfl
  · rfl
  · exact key_lay hk
  · rcases hv with rfl | ⟨j, rfl⟩ <;> rfl
theorem read_pu {a u : Int} {got : List PV} (h : puB 3 (.tup got) = true) : puB 4 (.tup [.int a, .int u, .tup got]) = true := by
  refine pu_tup (by simp) fun y hy => ?_
  simp at hy
  rcases hy with rfl | rfl | rfl
  · rfl
  · rfl
  · exact h
theorem Ch.pu {s t' : Int} : ∀ {xs : List PV} {lo t : Int}, Ch lo t xs s t' → ∀ x ∈ xs, puB 4 x = true
  | [], lo, t, h => by simp
  | x :: r, lo, t, h => by
    obtain ⟨a, u, got, rfl, q1, q2, q3, q4, q5⟩ := h
    intro y hy
    rcases List.mem_cons.mp hy with rfl | hy
    · exact read_pu (q3.pu q4)
    · exact q5.pu y hy
/-- no read: whatever the place -/
theorem readB_tup {lo : Int} {xs : List PV} (h : ∀ x ∈ xs, ∃ ys, x = .tup ys) : readB lo (.tup xs) = false := by
  match xs, h with
  | [], _ => rfl
  | [_], _ => rfl
  | [_, _], _ => rfl
  | [a, _, _], h =>
    obtain ⟨ys, rfl⟩ := h a (by simp)
    rfl
  | _ :: _ :: _ :: _ :: _, _ => rfl
theorem Ch.tups {s t' : Int} : ∀ {xs : List PV} {lo t : Int}, Ch lo t xs s t' → ∀ x ∈ xs, ∃ ys, x = .tup ys
  | [], lo, t, h => by simp
  | x :: r, lo, t, h => by
    obtain ⟨a, u, got, rfl, q1, q2, q3, q4, q5⟩ := h
    intro y hy
    rcases List.mem_cons.mp hy with rfl | hy
    · exact ⟨_, rfl⟩
    · exact q5.tups y hy
theorem go_no {lo t : Int} {x : PV} {r : List PV} (h : readB lo x = false) : Mp.goB lo t (x :: r) = false := by
  show (readB lo x && _) = false
  rw [h, Bool.false_and]
theorem go_time {lo t a u : Int} {g : PV} {r : List PV} (h : a ≤ t) : Mp.goB lo t (.tup [.int a, .int u, g] :: r) = false := by
  simp [Mp.goB, show ¬ t < a by omega]
theorem read_lo {lo a u : Int} {g : PV} (h : u ≤ lo) : readB lo (.tup [.int a, .int u, g]) = false := by
  simp [readB, show ¬ lo < u by omega]
theorem read_rows {lo a u : Int} {g : List PV} (h : g.all rowB = false) : readB lo (.tup [.int a, .int u, .tup g]) = false := by
  simp only [readB, h, Bool.false_and, Bool.and_false]
theorem read_got {lo a u : Int} {g : List PV} (h : Mp.gotB lo u g = false) : readB lo (.tup [.int a, .int u, .tup g]) = false := by
  simp only [readB, h, Bool.and_false]
theorem read_ntup {lo a u : Int} {g : PV} (h : tupB g = false) : readB lo (.tup [.int a, .int u, g]) = false := by
  cases g <;> first | (simp [readB]; done) | (simp [tupB] at h)
theorem read_ncnt {lo : Int} {a u g : PV} (h : cntB a = false) : readB lo (.tup [a, u, g]) = false := by
  simp only [readB, h, Bool.false_and]
/-! ### lists of built values -/
/-- the list at n: good values, older than it, of which B holds -/
structure Mat (M : Mm) (n k : Nat) (B : PV → Prop) (xs : List PV) : Prop where
  g : M[n]? = some (.lst xs)
  p : ∀ x ∈ xs, Gd [] k (M.take n) x ∧ B x
theorem frm_take {M : Mm} {n : Nat} : Frm [] (M.take n) M := ⟨by simp; omega, fun i _ h => by
  rw [List.length_take] at h
  rw [List.getElem?_take_of_lt (by omega)]⟩
theorem frm_take2 {M M' : Mm} {n m : Nat} (F : Frm [] M M') (h : n ≤ m) (hm : m ≤ M'.length) : Frm [] (M.take n) (M'.take m) := ⟨by have := F.len; simp; omega, fun i _ hi => by
  rw [List.length_take] at hi
  rw [List.getElem?_take_of_lt (by omega), List.getElem?_take_of_lt (by omega)]
  exact F.at_ i (by simp) (by omega)⟩
theorem Mat.frm {M M' : Mm} {n k : Nat} {B : PV → Prop} {xs : List PV} (h : Mat M n k B xs) (F : Frm [] M M') : Mat M' n k B xs := by
  have hl := lt_of h.g
  refine ⟨F.get h.g (by simp), fun x hx => ⟨(h.p x hx).1.frm ?_, (h.p x hx).2⟩⟩
  exact frm_take2 F (Nat.le_refl _) (by have := F.len; omega)
/-- expressions that build -/
def Bds (cf : CF) (sg : Sg) (es : Es) (k : Nat) (B : PV → Prop) (c : Nat) : Prop := ∀ M, ∃ vs M', evEs cf es sg M = some (vs, M') ∧ Frm [] M M' ∧ (∀ v ∈ vs, Gd [] k M' v ∧ B v) ∧ vs.length = c
def Bd (cf : CF) (sg : Sg) (e : E) (k : Nat) (B : PV → Prop) : Prop := ∀ M, ∃ v M', evE cf e sg M = some (v, M') ∧ Frm [] M M' ∧ Gd [] k M' v ∧ B v
theorem bds_nil {cf : CF} {sg : Sg} {k : Nat} {B : PV → Prop} : Bds cf sg .nil k B 0 := fun M => ⟨[], M, es_nil, .refl, by simp, rfl⟩
theorem bds_cons {cf : CF} {sg : Sg} {e : E} {es : Es} {k c : Nat} {B : PV → Prop} (h : Bd cf sg e k B) (hs : Bds cf sg es k B c) : Bds cf sg (.cons e es) k B (c + 1) := fun M => by
  obtain ⟨v, M1, e1, F1, g1, b1⟩ := h M
  obtain ⟨vs, M2, e2, F2, g2, l2⟩ := hs M1
  refine ⟨v :: vs, M2, es_cons e1 e2, F1.trans F2, fun x hx => ?_, by simp [l2]⟩
  rcases List.mem_cons.mp hx with rfl | hx
  · exact ⟨g1.frm F2, b1⟩
  · exact g2 x hx
theorem bd_pu {cf : CF} {sg : Sg} {e : E} {k : Nat} {B : PV → Prop} {v : PV} (h : ∀ M, evE cf e sg M = some (v, M)) (hp : puB k v = true) (hb : B v) : Bd cf sg e k B := fun M => ⟨v, M, h M, .refl, pu_gd hp, hb⟩
/-- a new list -/
theorem mat_lst {cf : CF} {sg : Sg} {es : Es} {k c : Nat} {B : PV → Prop} (h : Bds cf sg es k B c) (hc : c ≤ 10000) (M : Mm) : ∃ n xs M', evE cf (.lst es) sg M = some (.ref n, M') ∧ Mat M' n k B xs ∧ xs.length = c ∧ M.length ≤ n ∧ Frm [] M M' := by
  obtain ⟨vs, M1, e1, F1, g1, l1⟩ := h M
  refine ⟨M1.length, vs, M1 ++ [Ob.lst vs], e_lst e1 (by omega), ⟨get_last, fun x hx => ?_⟩, l1, F1.len, F1.trans .app⟩
  rw [List.take_append_of_le_length (Nat.le_refl _), List.take_length]
  exact g1 x hx
/-- one list more -/
theorem mat_add {M : Mm} {n m k : Nat} {B : PV → Prop} {xs ys : List PV} (hx : Mat M n k B xs) (hy : Mat M m k B ys) (hl : xs.length + ys.length ≤ 1000) : ∃ M', bopP M .add (.ref n) (.ref m) = some (.ref M.length, M') ∧ Mat M' M.length k B (xs ++ ys) ∧ Frm [] M M' := by
  refine ⟨M ++ [Ob.lst (xs ++ ys)], ?_, ⟨get_last, fun x hx' => ?_⟩, .app⟩
  · simp only [bopP, lstAt, hx.g, hy.g]
    rw [if_pos (by have : sizeLine = 16777216 := rfl; omega)]
  · rw [List.take_append_of_le_length (Nat.le_refl _), List.take_length]
    rcases List.mem_append.mp hx' with h | h
    · exact ⟨(hx.p x h).1.frm frm_take, (hx.p x h).2⟩
    · exact ⟨(hy.p x h).1.frm frm_take, (hy.p x h).2⟩
theorem s_new {cf : CF} {sg : Sg} {es : Es} {k c i : Nat} {B : PV → Prop} (h : Bds cf sg es k B c) (hc : c ≤ 1000) (M : Mm) : ∃ n xs M', evS cf (.asg (.name i) (.lst es)) sg M = some (.nx (sg.set i (some (.ref n))), M') ∧ Mat M' n k B xs ∧ xs.length = c ∧ M.length ≤ n ∧ Frm [] M M' := by
  obtain ⟨n, xs, M', e1, h1, h2, h3, h4⟩ := mat_lst h (by omega) M
  exact ⟨n, xs, M', s_asg e1 rfl, h1, h2, h3, h4⟩
theorem s_more {cf : CF} {sg : Sg} {es : Es} {M : Mm} {k c i n : Nat} {B : PV → Prop} {xs : List PV} (hv : sg[i]? = some (some (.ref n))) (hm : Mat M n k B xs) (h : Bds cf sg es k B c) (hc : xs.length + c ≤ 1000) : ∃ n' xs' M', evS cf (.asg (.name i) (.bop .add (.var i) (.lst es))) sg M = some (.nx (sg.set i (some (.ref n'))), M') ∧ Mat M' n' k B xs' ∧ xs'.length = xs.length + c ∧ M.length ≤ n' ∧ Frm [] M M' := by
  obtain ⟨m, ys, M1, e1, h1, h2, h3, h4⟩ := mat_lst h (by omega) M
  obtain ⟨M2, e2, h5, F2⟩ := mat_add (hm.frm h4) h1 (by omega)
  exact ⟨M1.length, xs ++ ys, M2, s_asg (e_bop (e_var hv) e1 e2) rfl, h5, by simp [h2], h4.len, h4.trans F2⟩
/-- an append of a value with no list in it -/
theorem s_app {cf : CF} {sg : Sg} {e : E} {M M0 : Mm} {k i n : Nat} {B : PV → Prop} {xs : List PV} {v : PV} (hv : sg[i]? = some (some (.ref n))) (hm : Mat M n k B xs) (h : ∀ M, evE cf e sg M = some (v, M)) (hp : puB k v = true) (hb : B v) (hc : xs.length ≤ 1000) (F0 : Frm [] M0 M) (hn : M0.length ≤ n) : ∃ M', evS cf (.exp (.mth .append (.var i) (.cons e .nil))) sg M = some (.nx sg, M') ∧ Mat M' n k B (xs ++ [v]) ∧ Frm [] M0 M' := by
  refine ⟨M.set n (.lst (xs ++ [v])), ?_, ⟨by have := lt_of hm.g; simp [this], fun x hx => ?_⟩, F0.wr hn⟩
  · refine s_exp (e_mth (e_var hv) (by simp [mtOk, lstAt, hm.g]) (es_one (h M)) (q := some (.non, _)) ?_)
    simp only [mthP, lstAt, hm.g, Option.bind_some]
    rw [if_pos (by have : sizeLine = 16777216 := rfl; omega)]
  · have ht : (M.set n (.lst (xs ++ [v]))).take n = M.take n := by rw [List.take_set_of_le (Nat.le_refl _)]
    rw [ht]
    rcases List.mem_append.mp hx with h1 | h1
    · exact hm.p x h1
    · simp at h1
      subst h1
      exact ⟨pu_gd hp, hb⟩
/-- a comprehension over a list, with nothing made -/
theorem lc_lst {cf : CF} {own : List Nat} {t : Tg} {it : It} {e : E} {sg : Sg} {M M1 : Mm} {n : Nat} {xs : List PV} (g : PV → PV) (hI : evI cf it sg M = some (.lst n, M1)) (hn : M1[n]? = some (.lst xs)) (hl : xs.length < 10000)
    (turn : ∀ x ∈ xs, ∀ N, ∃ sg1, tgP t x (wipeP sg own) = some sg1 ∧ evE cf e sg1 N = some (g x, N)) :
    evE cf (.lc own t it (.con (.bl true)) e) sg M = some (.ref M1.length, M1 ++ [Ob.lst (xs.map g)]) := by
  have hlc := lc_pure (src := .lst n) (bind := tgP t) (c := fun sg M => evE cf (.con (.bl true)) sg M) (e := fun sg M => evE cf e sg M) (sg := wipeP sg own) (M1 := M1) (xs := xs) (fun _ => true) g
    (by
      intro acc i
      have : (M1 ++ [Ob.lst acc])[n]? = some (.lst xs) := (Frm.app (S := [])).get hn (by simp)
      simp [Src.get, lstAt, this])
    (by
      intro x hx acc
      obtain ⟨sg1, q1, q2⟩ := turn x hx (M1 ++ [.lst acc])
      exact ⟨sg1, q1, e_con, fun _ => q2⟩)
    (by omega)
  rw [filter_all] at hlc
  rw [evE, hI]; simp only [hlc]; rfl
end Mp

/-! Mh2 (k66): bent reads. -/
namespace Mp
open PySem L2

theorem e_neg {cf : CF} {sg : Sg} {M : Mm} {i : Int} : evE cf (.neg (.con (.int i))) sg M = some (.int (-i), M) := by rw [evE, e_con]
theorem str_small : ∀ m : Fin 14, ((m.val : Int).natAbs.log2 < 1920 ∧ puB 1 (.str (Str.ofString (toString (m.val : Int)))) = true) := by decide +kernel
abbrev BR (y : PV) : Prop := readB 0 y = false
abbrev BG (u : Int) (y : PV) : Prop := ∀ a : Int, readB 0 (.tup [.int a, .int u, y]) = false
theorem bg_rows {u : Int} {g : List PV} (h : g.all rowB = false) : BG u (.tup g) := fun _ => read_rows h
theorem bg_non {u : Int} {g : PV} (h : tupB g = false) : BG u g := fun _ => read_ntup h
theorem pu3 {a b c : PV} {k : Nat} (ha : puB k a = true) (hb : puB k b = true) (hc : puB k c = true) : puB (k + 1) (.tup [a, b, c]) = true := by
  refine pu_tup (by simp) fun y hy => ?_
  simp at hy
  rcases hy with rfl | rfl | rfl <;> assumption
/-- a list of one in a row -/
theorem bd_row {cf : CF} {sg : Sg} {u : Int} {es : Es} {c : PV} (h : ∀ M : Mm, ∃ xs, evEs cf es sg M = some (xs, M ++ [Ob.lst [c]]) ∧ (rowB (.tup xs) = false) ∧ xs.length = 3 ∧ ∀ x ∈ xs, x = .ref M.length ∨ puB 1 x = true) (hc : puB 1 c = true) : Bd cf sg (.tup (.cons (.tup es) .nil)) 4 (BG u) := fun M => by
  obtain ⟨xs, e, hr, hl, hx⟩ := h M
  refine ⟨.tup [.tup xs], M ++ [Ob.lst [c]], e_tup (es_one (e_tup e (by omega))) (by simp), .app, ⟨by simp, fun y hy => ?_⟩, bg_rows (by simp [hr])⟩
  simp at hy
  subst hy
  refine ⟨by omega, fun x hx' => ?_⟩
  rcases hx x hx' with rfl | q
  · exact ⟨by simp, [c], get_last, by simp, fun z hz => by simp at hz; subst hz; exact pu_gd hc⟩
  · exact pu_gd (k := 2) (pu_le q (by omega))
def HBr (cf : CF) : Prop := ∀ (M : Mm) (w u : Int) (got : List PV), 0 ≤ w → w < 14 → 0 < u → GotOk 0 u got → got.length ≤ 14 →
  ∃ n ys M', cf i_l_bent_reads [.int w, .int u, .tup got] M = some (.ref n, M') ∧ Mat M' n 5 BR ys ∧ ys.length = 35 ∧ Frm [] M M'
theorem bent_ok (cf : CF) {M : Mm} {w u : Int} {got : List PV} (hw0 : 0 ≤ w) (hw : w < 14) (hu : 0 < u) (hg : GotOk 0 u got) (hgl : got.length ≤ 14) :
    ∃ n ys M', runD cf ir_l_bent_reads [.int w, .int u, .tup got] M = some (.ref n, M') ∧ Mat M' n 5 BR ys ∧ ys.length = 35 ∧ Frm [] M M' := by
  have pg := hg.pu hgl
  have pg4 : puB 4 (.tup got) = true := pu_le pg (by omega)
  let sg0 : Sg := [some (.int w), some (.int u), some (.tup got), none, none, none]
  -- found
  have b1 : Bds cf sg0 (.cons (.tup (.cons (.var 0) (.cons (.con (.int 0)) (.cons (.var 2) .nil)))) (.cons (.tup (.cons (.neg (.con (.int 1))) (.cons (.var 1) (.cons (.var 2) .nil)))) (.cons (.tup (.cons (.con (.bl true)) (.cons (.var 1) (.cons (.var 2) .nil)))) (.cons (.tup (.cons (.var 0) (.cons (.var 1) .nil))) (.cons (.tup (.cons (.var 0) (.cons (.var 1) (.cons (.var 2) (.cons (.con (.int 0)) .nil))))) (.cons (.lst (.cons (.var 0) (.cons (.var 1) (.cons (.var 2) .nil)))) .nil)))))) 5 BR 6 := by
    refine bds_cons ?_ (bds_cons ?_ (bds_cons ?_ (bds_cons ?_ (bds_cons ?_ (bds_cons ?_ bds_nil)))))
    · exact bd_pu (v := .tup [.int w, .int 0, .tup got]) (fun M => (e_tup (es_cons (e_var rfl) (es_cons e_con (es_one (e_var rfl)))) (by simp))) (pu3 rfl rfl pg4) (read_lo (by omega))
    · exact bd_pu (v := .tup [.int (-1), .int u, .tup got]) (fun M => (e_tup (es_cons e_neg (es_cons (e_var rfl) (es_one (e_var rfl)))) (by simp))) (pu3 rfl rfl pg4) (read_ncnt rfl)
    · exact bd_pu (v := .tup [.bl true, .int u, .tup got]) (fun M => (e_tup (es_cons e_con (es_cons (e_var rfl) (es_one (e_var rfl)))) (by simp))) (pu3 rfl rfl pg4) (read_ncnt rfl)
    · exact bd_pu (v := .tup [.int w, .int u]) (fun M => (e_tup (es_cons (e_var rfl) (es_one (e_var rfl))) (by simp))) rfl rfl
    · refine bd_pu (v := .tup [.int w, .int u, .tup got, .int 0]) (fun M => (e_tup (es_cons (e_var rfl) (es_cons (e_var rfl) (es_cons (e_var rfl) (es_one e_con)))) (by simp))) (pu_tup (by simp) fun y hy => ?_) rfl
      simp at hy
      rcases hy with rfl | rfl | rfl | rfl <;> first | rfl | exact pg4
    · intro M
      refine ⟨.ref M.length, M ++ [Ob.lst [.int w, .int u, .tup got]], e_lst (es_cons (e_var rfl) (es_cons (e_var rfl) (es_one (e_var rfl)))) (by simp), .app, ⟨by simp, _, get_last, by simp, fun y hy => ?_⟩, rfl⟩
      simp at hy
      rcases hy with rfl | rfl | rfl
      · trivial
      · trivial
      · exact pu_gd pg4
  obtain ⟨n1, xs1, M1, e1, m1, l1, k1, F1⟩ := s_new (i := 3) b1 (by omega) M
  let sg1 : Sg := [some (.int w), some (.int u), some (.tup got), some (.ref n1), none, none]
  -- rows, first
  have b2 : Bds cf sg1 (.cons (.blt .list (.cons (.var 2) .nil)) (.cons (.bop .add (.var 2) (.tup (.cons (.tup (.cons (.var 1) (.cons (.con (.str "a")) (.cons (.con (.int 1)) .nil)))) .nil))) (.cons (.bop .add (.tup (.cons (.tup (.cons (.neg (.con (.int 1))) (.cons (.con (.str "a")) (.cons (.con (.int 1)) .nil)))) .nil)) (.var 2)) (.cons (.tup (.cons (.tup (.cons (.con (.int 0)) (.cons (.con (.str "A")) (.cons (.con (.int 1)) .nil)))) .nil)) (.cons (.tup (.cons (.tup (.cons (.con (.int 0)) (.cons (.con (.str "")) (.cons (.con (.int 1)) .nil)))) .nil)) (.cons (.con .non) (.cons (.tup (.cons (.con .non) .nil)) .nil))))))) 4 (BG u) 7 := by
    have ha : puB 2 (.tup [.int u, .str "a", .int 1]) = true := pu3 rfl (by decide +kernel) rfl
    have hb : puB 2 (.tup [.int (-1), .str "a", .int 1]) = true := pu3 rfl (by decide +kernel) rfl
    have hgp : ∀ x ∈ got, puB 2 x = true := by
      have := pg
      simp only [puB, Bool.and_eq_true, decide_eq_true_eq, List.all_eq_true] at this
      exact this.2
    have hl : got.length + 1 ≤ sizeLine := by have : sizeLine = 16777216 := rfl; omega
    refine bds_cons ?_ (bds_cons ?_ (bds_cons ?_ (bds_cons ?_ (bds_cons ?_ (bds_cons ?_ (bds_cons ?_ bds_nil))))))
    · intro M
      refine ⟨.ref M.length, M ++ [Ob.lst got], e_blt (es_one (e_var (v := .tup got) rfl)) rfl, .app, ⟨by simp, got, get_last, by omega, fun y hy => pu_gd (k := 3) (pu_le (hgp y hy) (by omega))⟩, bg_non rfl⟩
    · refine bd_pu (v := .tup (got ++ [.tup [.int u, .str "a", .int 1]])) (fun M => e_bop (e_var (v := .tup got) rfl) (y := .tup [.tup [.int u, .str "a", .int 1]]) ((e_tup (es_one (e_tup (es_cons (e_var rfl) (es_cons e_con (es_one e_con))) (by simp))) (by simp))) ?_) ?_ ?_
      · simp only [bopP]
        rw [if_pos (by simpa using hl)]
      · refine pu_le (pu_tup (k := 2) (by simp; omega) fun y hy => ?_) (by omega)
        rcases List.mem_append.mp hy with hy | hy
        · exact hgp y hy
        · simp at hy; subst hy; exact ha
      · intro a
        refine read_got ?_
        unfold gotB
        rw [Bool.and_eq_false_iff]
        right
        simp [plc]
    · refine bd_pu (v := .tup (.tup [.int (-1), .str "a", .int 1] :: got)) (fun M => e_bop (x := .tup [.tup [.int (-1), .str "a", .int 1]]) ((e_tup (es_one (e_tup (es_cons e_neg (es_cons e_con (es_one e_con))) (by simp))) (by simp))) (e_var (v := .tup got) rfl) ?_) ?_ ?_
      · simp only [bopP]
        rw [if_pos (by simp; omega)]
        rfl
      · refine pu_le (pu_tup (k := 2) (by simp; omega) fun y hy => ?_) (by omega)
        rcases List.mem_cons.mp hy with hy | hy
        · subst hy; exact hb
        · exact hgp y hy
      · exact bg_rows rfl
    · exact bd_pu (v := .tup [.tup [.int 0, .str "A", .int 1]]) (fun M => (e_tup (es_one (e_tup (es_cons e_con (es_cons e_con (es_one e_con))) (by simp))) (by simp))) (by decide +kernel) (bg_rows (by decide +kernel))
    · exact bd_pu (v := .tup [.tup [.int 0, .str "", .int 1]]) (fun M => (e_tup (es_one (e_tup (es_cons e_con (es_cons e_con (es_one e_con))) (by simp))) (by simp))) (by decide +kernel) (bg_rows (by decide +kernel))
    · exact bd_pu (v := .non) (fun M => e_con) rfl (bg_non rfl)
    · exact bd_pu (v := .tup [.non]) (fun M => (e_tup (es_one e_con) (by simp))) rfl (bg_rows rfl)
  obtain ⟨n2, xs2, M2, e2, m2, l2, k2, F2⟩ := s_new (i := 4) b2 (by omega) M1
  let sg2 : Nat → Sg := fun n => [some (.int w), some (.int u), some (.tup got), some (.ref n1), some (.ref n), none]
  have b3 : Bds cf (sg2 n2) (.cons (.tup (.cons (.tup (.cons (.con (.int 0)) (.cons (.con (.str "abcdefghi")) (.cons (.con .non) .nil)))) .nil)) (.cons (.tup (.cons (.tup (.cons (.con (.int 0)) (.cons (.con (.str "a")) (.cons (.con (.bl true)) .nil)))) .nil)) (.cons (.tup (.cons (.tup (.cons (.con (.int 0)) (.cons (.con (.str "a")) .nil))) .nil)) (.cons (.tup (.cons (.tup (.cons (.con (.int 0)) (.cons (.con (.int 1)) (.cons (.con (.int 1)) .nil)))) .nil)) (.cons (.tup (.cons (.tup (.cons (.con (.bl true)) (.cons (.con (.str "a")) (.cons (.con (.int 1)) .nil)))) .nil)) .nil))))) 4 (BG u) 5 := by
    refine bds_cons ?_ (bds_cons ?_ (bds_cons ?_ (bds_cons ?_ (bds_cons ?_ bds_nil))))
    · exact bd_pu (v := .tup [.tup [.int 0, .str "abcdefghi", .non]]) (fun M => (e_tup (es_one (e_tup (es_cons e_con (es_cons e_con (es_one e_con))) (by simp))) (by simp))) (by decide +kernel) (bg_rows (by decide +kernel))
    · exact bd_pu (v := .tup [.tup [.int 0, .str "a", .bl true]]) (fun M => (e_tup (es_one (e_tup (es_cons e_con (es_cons e_con (es_one e_con))) (by simp))) (by simp))) (by decide +kernel) (bg_rows (by decide +kernel))
    · exact bd_pu (v := .tup [.tup [.int 0, .str "a"]]) (fun M => (e_tup (es_one (e_tup (es_cons e_con (es_one e_con)) (by simp))) (by simp))) (by decide +kernel) (bg_rows (by decide +kernel))
    · exact bd_pu (v := .tup [.tup [.int 0, .int 1, .int 1]]) (fun M => (e_tup (es_one (e_tup (es_cons e_con (es_cons e_con (es_one e_con))) (by simp))) (by simp))) (by decide +kernel) (bg_rows (by decide +kernel))
    · exact bd_pu (v := .tup [.tup [.bl true, .str "a", .int 1]]) (fun M => (e_tup (es_one (e_tup (es_cons e_con (es_cons e_con (es_one e_con))) (by simp))) (by simp))) (by decide +kernel) (bg_rows (by decide +kernel))
  obtain ⟨n3, xs3, M3, e3, m3, l3, k3, F3⟩ := s_more (i := 4) rfl m2 b3 (by omega)
  have b4 : Bds cf (sg2 n3) (.cons (.tup (.cons (.tup (.cons (.con (.int 0)) (.cons (.con (.str "a")) (.cons (.con (.int 1)) .nil)))) (.cons (.tup (.cons (.con (.int 0)) (.cons (.con (.str "b")) (.cons (.con (.int 1)) .nil)))) .nil))) (.cons (.tup (.cons (.tup (.cons (.con (.int 0)) (.cons (.con (.str "a1")) (.cons (.con (.int 1)) .nil)))) .nil)) (.cons (.tup (.cons (.tup (.cons (.con (.int 0)) (.cons (.con (.str "a b")) (.cons (.con .non) .nil)))) .nil)) .nil))) 4 (BG u) 3 := by
    refine bds_cons ?_ (bds_cons ?_ (bds_cons ?_ bds_nil))
    · refine bd_pu (v := .tup [.tup [.int 0, .str "a", .int 1], .tup [.int 0, .str "b", .int 1]]) (fun M => (e_tup (es_cons (e_tup (es_cons e_con (es_cons e_con (es_one e_con))) (by simp)) (es_one (e_tup (es_cons e_con (es_cons e_con (es_one e_con))) (by simp)))) (by simp))) (by decide +kernel) (fun a => read_got ?_)
      simp [gotB, plc, usortI, insU]
    · exact bd_pu (v := .tup [.tup [.int 0, .str "a1", .int 1]]) (fun M => (e_tup (es_one (e_tup (es_cons e_con (es_cons e_con (es_one e_con))) (by simp))) (by simp))) (by decide +kernel) (bg_rows (by decide +kernel))
    · exact bd_pu (v := .tup [.tup [.int 0, .str "a b", .non]]) (fun M => (e_tup (es_one (e_tup (es_cons e_con (es_cons e_con (es_one e_con))) (by simp))) (by simp))) (by decide +kernel) (bg_rows (by decide +kernel))
  obtain ⟨n4, xs4, M4, e4, m4, l4, k4, F4⟩ := s_more (i := 4) rfl m3 b4 (by omega)
  have b5 : Bds cf (sg2 n4) (.cons (.tup (.cons (.tup (.cons (.con (.int 0)) (.cons (.con (.str "a")) (.cons (.con (.str "x")) .nil)))) .nil)) (.cons (.tup (.cons (.tup (.cons (.con (.int 0)) (.cons (.con (.str "a")) (.cons (.tup (.cons (.con (.int 1)) .nil)) .nil)))) .nil)) (.cons (.tup (.cons (.tup (.cons (.con .non) (.cons (.con (.str "a")) (.cons (.con (.int 1)) .nil)))) .nil)) (.cons (.tup (.cons (.tup (.cons (.con (.str "0")) (.cons (.con (.str "a")) (.cons (.con (.int 1)) .nil)))) .nil)) (.cons (.tup (.cons (.tup (.cons (.con (.int 0)) (.cons (.con .non) (.cons (.con (.int 1)) .nil)))) .nil)) .nil))))) 4 (BG u) 5 := by
    refine bds_cons ?_ (bds_cons ?_ (bds_cons ?_ (bds_cons ?_ (bds_cons ?_ bds_nil))))
    · exact bd_pu (v := .tup [.tup [.int 0, .str "a", .str "x"]]) (fun M => (e_tup (es_one (e_tup (es_cons e_con (es_cons e_con (es_one e_con))) (by simp))) (by simp))) (by decide +kernel) (bg_rows (by decide +kernel))
    · exact bd_pu (v := .tup [.tup [.int 0, .str "a", .tup [.int 1]]]) (fun M => (e_tup (es_one (e_tup (es_cons e_con (es_cons e_con (es_one (e_tup (es_one e_con) (by simp))))) (by simp))) (by simp))) (by decide +kernel) (bg_rows (by decide +kernel))
    · exact bd_pu (v := .tup [.tup [.non, .str "a", .int 1]]) (fun M => (e_tup (es_one (e_tup (es_cons e_con (es_cons e_con (es_one e_con))) (by simp))) (by simp))) (by decide +kernel) (bg_rows (by decide +kernel))
    · exact bd_pu (v := .tup [.tup [.str "0", .str "a", .int 1]]) (fun M => (e_tup (es_one (e_tup (es_cons e_con (es_cons e_con (es_one e_con))) (by simp))) (by simp))) (by decide +kernel) (bg_rows (by decide +kernel))
    · exact bd_pu (v := .tup [.tup [.int 0, .non, .int 1]]) (fun M => (e_tup (es_one (e_tup (es_cons e_con (es_cons e_con (es_one e_con))) (by simp))) (by simp))) (by decide +kernel) (bg_rows (by decide +kernel))
  obtain ⟨n5, xs5, M5, e5, m5, l5, k5, F5⟩ := s_more (i := 4) rfl m4 b5 (by omega)
  have b6 : Bds cf (sg2 n5) (.cons (.tup (.cons (.tup (.cons (.con (.int 0)) (.cons (.lst (.cons (.con (.str "a")) .nil)) (.cons (.con (.int 1)) .nil)))) .nil)) (.cons (.tup (.cons (.tup (.cons (.lst (.cons (.con (.int 0)) .nil)) (.cons (.con (.str "a")) (.cons (.con (.int 1)) .nil)))) .nil)) (.cons (.tup (.cons (.tup (.cons (.con (.int 0)) (.cons (.con (.str "a")) (.cons (.lst (.cons (.con (.int 1)) .nil)) .nil)))) .nil)) (.cons (.tup (.cons (.tup (.cons (.tup (.cons (.con (.int 0)) .nil)) (.cons (.con (.str "a")) (.cons (.con (.int 1)) .nil)))) .nil)) .nil)))) 4 (BG u) 4 := by
    have ka : puB 1 (.str "a") = true := by decide +kernel
    refine bds_cons ?_ (bds_cons ?_ (bds_cons ?_ (bds_cons ?_ bds_nil)))
    · refine bd_row (c := .str "a") (fun M => ⟨[.int 0, .ref M.length, .int 1], es_cons e_con (es_cons (e_lst (es_one e_con) (by simp)) (es_one e_con)), rfl, rfl, fun x hx => ?_⟩) ka
      simp at hx
      rcases hx with rfl | rfl | rfl <;> first | exact .inl rfl | exact .inr rfl
    · refine bd_row (c := .int 0) (fun M => ⟨[.ref M.length, .str "a", .int 1], es_cons (e_lst (es_one e_con) (by simp)) (es_cons e_con (es_one e_con)), rfl, rfl, fun x hx => ?_⟩) rfl
      simp at hx
      rcases hx with rfl | rfl | rfl <;> first | exact .inl rfl | exact .inr ka | exact .inr rfl
    · refine bd_row (c := .int 1) (fun M => ⟨[.int 0, .str "a", .ref M.length], es_cons e_con (es_cons e_con (es_one (e_lst (es_one e_con) (by simp)))), by simp [rowB, nonB, numB], rfl, fun x hx => ?_⟩) rfl
      simp at hx
      rcases hx with rfl | rfl | rfl <;> first | exact .inl rfl | exact .inr ka | exact .inr rfl
    · exact bd_pu (v := .tup [.tup [.tup [.int 0], .str "a", .int 1]]) (fun M => (e_tup (es_one (e_tup (es_cons (e_tup (es_one e_con) (by simp)) (es_cons e_con (es_one e_con))) (by simp))) (by simp))) (by decide +kernel) (bg_rows (by decide +kernel))
  obtain ⟨n6, xs6, M6, e6, m6, l6, k6, F6⟩ := s_more (i := 4) rfl m5 b6 (by omega)
  -- the reads of these rows
  have hl6 : xs6.length = 24 := by omega
  have F16 : Frm [] M1 M6 := (((F2.trans F3).trans F4).trans F5).trans F6
  have m1' := m1.frm F16
  have hI : evI cf (.seq (.var 4)) (sg2 n6) M6 = some (.lst n6, M6) := by
    rw [evI, e_var (v := .ref n6) rfl]
    simp [srcOf, lstAt, m6.g]
  have eL := lc_lst (cf := cf) (own := [5]) (t := .name 5) (e := e1_l_bent_reads) (sg := sg2 n6) (fun x => .tup [.int w, .int u, x]) hI m6.g (by omega) (by
    intro x hx N
    exact ⟨[some (.int w), some (.int u), some (.tup got), some (.ref n1), some (.ref n6), some x], rfl, e_tup (es_cons (e_var rfl) (es_cons (e_var rfl) (es_one (e_var rfl)))) (by simp)⟩)
  have F7 : Frm [] M6 (M6 ++ [Ob.lst (xs6.map fun x => .tup [.int w, .int u, x])]) := .app
  have m7 : Mat (M6 ++ [Ob.lst (xs6.map fun x => .tup [.int w, .int u, x])]) M6.length 5 BR (xs6.map fun x => .tup [.int w, .int u, x]) := by
    refine ⟨get_last, fun y hy => ?_⟩
    rw [List.take_append_of_le_length (Nat.le_refl _), List.take_length]
    obtain ⟨x, hx, rfl⟩ := List.mem_map.mp hy
    obtain ⟨q1, q2⟩ := m6.p x hx
    refine ⟨⟨by simp, fun z hz => ?_⟩, q2 w⟩
    simp at hz
    rcases hz with rfl | rfl | rfl
    · trivial
    · trivial
    · exact q1.frm frm_take
  obtain ⟨M8, e8, m8, F8⟩ := mat_add (m1'.frm F7) m7 (by simp; omega)
  have e7 : evS cf (.asg (.name 3) (.bop .add (.var 3) (.lc [5] (.name 5) (.seq (.var 4)) (.con (.bl true)) e1_l_bent_reads))) (sg2 n6) M6 = some (.nx [some (.int w), some (.int u), some (.tup got), some (.ref (M6 ++ [Ob.lst (xs6.map fun x => PV.tup [.int w, .int u, x])]).length), some (.ref n6), none], M8) := s_asg (e_bop (e_var rfl) eL e8) rfl
  generalize (M6 ++ [Ob.lst (xs6.map fun x => PV.tup [.int w, .int u, x])]).length = n8 at *
  let sg8 : Sg := [some (.int w), some (.int u), some (.tup got), some (.ref n8), some (.ref n6), none]
  have b9 : Bds cf sg8 (.cons (.tup (.cons (.blt .str (.cons (.var 0) .nil)) (.cons (.var 1) (.cons (.var 2) .nil)))) (.cons (.tup (.cons (.var 0) (.cons (.con .non) (.cons (.var 2) .nil)))) (.cons (.con .non) (.cons (.tup .nil) (.cons (.con (.int 7)) .nil))))) 5 BR 5 := by
    obtain ⟨s1, s2⟩ := str_small ⟨w.toNat, by omega⟩
    have hwn : ((w.toNat : Nat) : Int) = w := by omega
    simp only [hwn] at s1 s2
    refine bds_cons ?_ (bds_cons ?_ (bds_cons ?_ (bds_cons ?_ (bds_cons ?_ bds_nil))))
    · refine bd_pu (v := .tup [.str (Str.ofString (toString w)), .int u, .tup got]) (fun M => e_tup (es_cons (e_blt (es_one (e_var (v := .int w) rfl)) ?_) (es_cons (e_var rfl) (es_one (e_var rfl)))) (by simp)) (pu3 (pu_le s2 (by omega)) rfl pg4) (read_ncnt rfl)
      simp only [bltP]
      rw [if_pos s1]
    · exact bd_pu (v := .tup [.int w, .non, .tup got]) (fun M => (e_tup (es_cons (e_var rfl) (es_cons e_con (es_one (e_var rfl)))) (by simp))) (pu3 rfl rfl pg4) (by simp [BR, readB, cntB])
    · exact bd_pu (v := .non) (fun M => e_con) rfl rfl
    · exact bd_pu (v := .tup []) (fun M => e_tup es_nil (by simp)) rfl rfl
    · exact bd_pu (v := .int 7) (fun M => e_con) rfl rfl
  obtain ⟨n9, xs9, M9, e9, m9, l9, k9, F9⟩ := mat_lst b9 (by omega) M8
  obtain ⟨M10, e10, m10, F10⟩ := mat_add (m8.frm F9) m9 (by simp; omega)
  refine ⟨M9.length, _, M10, ?_, m10, by simp; omega, (((F1.trans F16).trans F7).trans F8).trans (F9.trans F10)⟩
  exact run_ret rfl (ss_cons e1 (ss_cons e2 (ss_cons e3 (ss_cons e4 (ss_cons e5 (ss_cons e6 (ss_cons e7 (ss_ret (e_bop (e_var rfl) e9 e10)))))))))
theorem hbr (j : Nat) : HBr (cfN tab (j + 1)) := fun M w u got h1 h2 h3 h4 h5 => bent_ok (cfN tab j) h1 h2 h3 h4 h5
end Mp

/-! Mh3 (k66): right. -/
namespace Mp
open PySem L2

abbrev BV (v : Bool) (x : PV) : Prop := viewB x = v
abbrev chkE (i : Nat) (v : Bool) : E := .call i_l_same (.cons (.call i_is_view (.cons (.var i) .nil)) (.cons (.con (.bl v)) .nil))
theorem chk {cf : CF} (V : Tells cf i_is_view [] 6 viewB) (S : HS cf 1) {sg : Sg} {i : Nat} {x : PV} {M : Mm} {v : Bool} (hv : sg[i]? = some (some x)) (hx : Gd [] 6 M x) (hb : viewB x = v) : ∃ M', evE cf (chkE i v) sg M = some (.bl true, M') ∧ Frm [] M M' := by
  obtain ⟨M1, e1, F1⟩ := V M x hx
  rw [hb] at e1
  obtain ⟨M2, e2, F2⟩ := S M1 (.bl v) (.bl v) rfl
  exact ⟨M2, e_call (es_cons (e_call (es_one (e_var hv)) e1) (es_one e_con)) e2, F1.trans F2⟩
theorem all_mat {cf : CF} (V : Tells cf i_is_view [] 6 viewB) (S : HS cf 1) {sg : Sg} {i n : Nat} {M : Mm} {v : Bool} {xs : List PV} (hv : sg[i]? = some (some (.ref n))) (hm : Mat M n 6 (BV v) xs) (hl : xs.length < 1000) (hs : 11 < sg.length) :
    ∃ M', evE cf (.blt .all (.cons (.lc [11] (.name 11) (.seq (.var i)) (.con (.bl true)) (chkE 11 v)) .nil)) sg M = some (.bl true, M') ∧ Frm [] M M' := by
  have hI : evI cf (.seq (.var i)) sg M = some (.lst n, M) := by
    rw [evI, e_var hv]
    simp [srcOf, lstAt, hm.g]
  obtain ⟨M', e, F⟩ := all_lc (cf := cf) (own := [11]) (t := .name 11) (e := chkE 11 v) (sg := sg) xs.length (fun _ => true) hI (by omega) .refl
    (by
      intro j N hj FN
      have hmN := hm.frm FN
      obtain ⟨q1, q2⟩ := hmN.p xs[j] (List.getElem_mem hj)
      have hv' : (((wipeP sg [11]).set 11 (some xs[j])))[11]? = some (some xs[j]) := by
        show (((sg.set 11 none).set 11 (some xs[j])))[11]? = _
        simp [hs]
      obtain ⟨N', e', F'⟩ := chk V S hv' (q1.frm frm_take) q2
      refine ⟨xs[j], _, N', ?_, rfl, e', F'⟩
      simp [Src.get, lstAt, hmN.g, hj])
    (by
      intro N FN
      have hmN := hm.frm FN
      simp [Src.get, lstAt, hmN.g])
  refine ⟨M', ?_, F⟩
  have : (List.range xs.length).all (fun _ => true) = true := by simp
  rw [this] at e
  exact e
theorem cut_1 {x : PV} {r : List PV} : cutP (x :: r) (some 1) none = r := by
  unfold cutP
  rw [show (1 : Int) = ((1 : Nat) : Int) from rfl, HT.sIx_nat, HT.sIx_none]
  rw [show min 1 (x :: r).length = 1 by simp]
  simp
def HRt (cf : CF) : Prop := ∀ (M : Mm) (b : Nat) (k : Int), Bx M b k → k < 700000000000 → ∃ M', cf i_l_right [.ref b] M = some (.bl true, M') ∧ Frm [b] M M' ∧ Bx M' b (k + 140)
theorem view_add {xs ys : List PV} {s t : Int} (h : Ch 0 (-1) xs s t) (hy : Mp.goB s t ys = false) : viewB (.tup (xs ++ ys)) = false := by
  show Mp.goB 0 (-1) (xs ++ ys) = false
  rw [h.app (by omega) (by omega)]
  exact hy
abbrev ifS : S := (.iff (.cmp .ne (.var 5) (.tup .nil)) (.cons (.asg (.tup [7, 8]) (.tup (.cons (.idx (.var 5) (.con (.int 0))) (.cons (.idx (.var 5) (.neg (.con (.int 1)))) .nil)))) (.cons (.asg (.name 6) (.bop .add (.var 6) (.lst (.cons (.bop .add (.var 5) (.tup (.cons (.var 8) .nil))) (.cons (.bop .add (.tup (.cons (.var 7) .nil)) (.var 5)) (.cons (.bop .add (.var 5) (.tup (.cons (.tup (.cons (.idx (.var 8) (.con (.int 0))) (.cons (.bop .add (.idx (.var 8) (.con (.int 1))) (.con (.int 1))) (.cons (.tup .nil) .nil)))) .nil))) .nil)))))) (.cons (.exp (.mth .append (.var 6) (.cons (.bop .add (.var 5) (.tup (.cons (.tup (.cons (.bop .add (.idx (.var 8) (.con (.int 0))) (.con (.int 1))) (.cons (.idx (.var 8) (.con (.int 1))) (.cons (.tup .nil) .nil)))) .nil))) .nil))) (.cons (.asg (.name 6) (.bop .add (.var 6) (.lc [10] (.name 10) (.seq (.call i_l_bent_reads (.cons (.idx (.var 7) (.con (.int 0))) (.cons (.idx (.var 7) (.con (.int 1))) (.cons (.idx (.var 7) (.con (.int 2))) .nil))))) (.con (.bl true)) e3_l_right))) (.cons (.exp (.mth .append (.var 6) (.cons (.bop .add (.tup (.cons (.tup (.cons (.bop .add (.idx (.var 8) (.con (.int 0))) (.con (.int 1))) (.cons (.bop .add (.idx (.var 8) (.con (.int 1))) (.con (.int 1))) (.cons (.tup .nil) .nil)))) .nil)) (.var 5)) .nil))) .nil))))) .nil)
/-- the part for a view that is not empty -/
theorem if_ok {cf : CF} (Br : HBr cf) {M0 M : Mm} {b n : Nat} {x1 x2 x3 x4 : PV} {xs ms : List PV} {s t : Int} (hc : Ch 0 (-1) xs s t) (hxl : xs.length ≤ 14) (ht : t < 14) (hm : Mat M n 6 (BV false) ms) (hml : ms.length = 12) (F0 : Frm [] M0 M) (hn : M0.length ≤ n) :
    ∃ n' ms' M' o7 o8, evS cf ifS [some (.ref b), some x1, some x2, some x3, some x4, some (.tup xs), some (.ref n), none, none, none, none, none] M = some (.nx [some (.ref b), some x1, some x2, some x3, some x4, some (.tup xs), some (.ref n'), o7, o8, none, none, none], M') ∧ Mat M' n' 6 (BV false) ms' ∧ ms'.length ≤ 60 ∧ Frm [] M0 M' ∧ M0.length ≤ n' := by
  have px : ∀ x ∈ xs, puB 5 x = true := fun x hx => pu_le (hc.pu x hx) (by omega)
  have pxs : puB 6 (.tup xs) = true := pu_tup (by omega) px
  let sgR : Nat → Option PV → Option PV → Sg := fun n o7 o8 => [some (.ref b), some x1, some x2, some x3, some x4, some (.tup xs), some (.ref n), o7, o8, none, none, none]
  have hq := eq_unit (b := []) (k := 6) (M := M) (pu_gd pxs) (by omega)
  have eC : evE cf (.cmp .ne (.var 5) (.tup .nil)) (sgR n none none) M = some (.bl (!xs.isEmpty), M) := e_cmp (e_var (v := .tup xs) rfl) (e_tup es_nil (by simp)) (by simp only [cmpP, hq, Option.map_some])
  cases hxs : xs with
  | nil =>
    subst hxs
    exact ⟨n, ms, M, none, none, s_ifF eC ss_nil, hm, by omega, F0, hn⟩
  | cons x0 r =>
    have hne : xs ≠ [] := by rw [hxs]; simp
    obtain ⟨gl, hlast⟩ := hc.last hne
    have hlI := atI_last hlast
    have hc0 := hc
    rw [hxs] at hc
    obtain ⟨a, u, got, rfl, q1, q2, q3, q4, q5⟩ := hc
    have hle := q5.le
    have p0 : puB 5 (.tup [.int a, .int u, .tup got]) = true := px _ (by rw [hxs]; simp)
    let la : PV := .tup [.int t, .int s, .tup gl]
    have pla : puB 5 la = true := px la (List.mem_of_getLast? hlast)
    have hemp : xs.isEmpty = false := by rw [hxs]; rfl
    rw [hemp] at eC
    rw [← hxs]
    let fi : PV := .tup [.int a, .int u, .tup got]
    have hsz : ∀ c : Nat, c ≤ 100 → c ≤ sizeLine := fun c h => by have : sizeLine = 16777216 := rfl; omega
    have at0' : atI xs 0 = some fi := by rw [hxs]; exact at0
    -- first, last
    have sa : evS cf (.asg (.tup [7, 8]) (.tup (.cons (.idx (.var 5) (.con (.int 0))) (.cons (.idx (.var 5) (.neg (.con (.int 1)))) .nil)))) (sgR n none none) M = some (.nx (sgR n (some fi) (some la)), M) :=
      s_asg (x := .tup [fi, la]) (e_tup (es_cons (ix_ (e_var (v := .tup xs) rfl) at0') (es_one (e_idx (e_var (v := .tup xs) rfl) e_neg hlI))) (by simp)) rfl
    have v5 : ∀ {n : Nat} {N : Mm}, evE cf (.var 5) (sgR n (some fi) (some la)) N = some (.tup xs, N) := e_var rfl
    have v7 : ∀ {n : Nat} {N : Mm}, evE cf (.var 7) (sgR n (some fi) (some la)) N = some (fi, N) := e_var rfl
    have v8 : ∀ {n : Nat} {N : Mm}, evE cf (.var 8) (sgR n (some fi) (some la)) N = some (la, N) := e_var rfl
    have l0 : ∀ {n : Nat} {N : Mm}, evE cf (.idx (.var 8) (.con (.int 0))) (sgR n (some fi) (some la)) N = some (.int t, N) := ix_ v8 at0
    have l1 : ∀ {n : Nat} {N : Mm}, evE cf (.idx (.var 8) (.con (.int 1))) (sgR n (some fi) (some la)) N = some (.int s, N) := ix_ v8 at1
    have l0p : ∀ {n : Nat} {N : Mm}, evE cf (.bop .add (.idx (.var 8) (.con (.int 0))) (.con (.int 1))) (sgR n (some fi) (some la)) N = some (.int (t + 1), N) := e_bop l0 e_con rfl
    have l1p : ∀ {n : Nat} {N : Mm}, evE cf (.bop .add (.idx (.var 8) (.con (.int 1))) (.con (.int 1))) (sgR n (some fi) (some la)) N = some (.int (s + 1), N) := e_bop l1 e_con rfl
    have addR : ∀ (y : PV) (N : Mm), bopP N .add (.tup xs) (.tup [y]) = some (.tup (xs ++ [y]), N) := fun y N => by
      simp only [bopP]
      rw [if_pos (hsz _ (by simp; omega))]
    have addL : ∀ (y : PV) (N : Mm), bopP N .add (.tup [y]) (.tup xs) = some (.tup (y :: xs), N) := fun y N => by
      simp only [bopP]
      rw [if_pos (hsz _ (by simp; omega))]
      rfl
    have pR : ∀ y : PV, puB 5 y = true → puB 6 (.tup (xs ++ [y])) = true := fun y hy => pu_tup (by simp; omega) fun z hz => by
      rcases List.mem_append.mp hz with h | h
      · exact px z h
      · simp at h; subst h; exact hy
    have pL : ∀ y : PV, puB 5 y = true → puB 6 (.tup (y :: xs)) = true := fun y hy => pu_tup (by simp; omega) fun z hz => by
      rcases List.mem_cons.mp hz with h | h
      · subst h; exact hy
      · exact px z h
    have bB : Bds cf (sgR n (some fi) (some la)) (.cons (.bop .add (.var 5) (.tup (.cons (.var 8) .nil))) (.cons (.bop .add (.tup (.cons (.var 7) .nil)) (.var 5)) (.cons (.bop .add (.var 5) (.tup (.cons (.tup (.cons (.idx (.var 8) (.con (.int 0))) (.cons (.bop .add (.idx (.var 8) (.con (.int 1))) (.con (.int 1))) (.cons (.tup .nil) .nil)))) .nil))) .nil))) 6 (BV false) 3 := by
      refine bds_cons ?_ (bds_cons ?_ (bds_cons ?_ bds_nil))
      · exact bd_pu (fun M => e_bop v5 (e_tup (es_one v8) (by simp)) (addR la M)) (pR la pla) (view_add hc0 (go_no (read_lo (Int.le_refl _))))
      · refine bd_pu (fun M => e_bop (e_tup (es_one v7) (by simp)) v5 (addL fi M)) (pL fi p0) ?_
        show Mp.goB 0 (-1) (fi :: xs) = false
        rw [hxs]
        show (readB 0 fi && (decide (-1 < a) && Mp.goB u a (.tup [.int a, .int u, .tup got] :: r))) = false
        rw [go_no (read_lo (Int.le_refl _))]
        simp
      · exact bd_pu (fun M => e_bop v5 (e_tup (es_one (e_tup (es_cons l0 (es_cons l1p (es_one (e_tup es_nil (by simp))))) (by simp))) (by simp)) (addR _ M)) (pR _ rfl) (view_add hc0 (go_time (Int.le_refl _)))
    obtain ⟨n1, ms1, M1, e1, m1, len1, k1, F1⟩ := s_more (i := 6) rfl hm bB (by omega)
    have F01 := F0.trans F1
    have hn1 : M0.length ≤ n1 := Nat.le_trans F0.len k1
    obtain ⟨M2, e2, m2, F2⟩ := s_app (cf := cf) (sg := sgR n1 (some fi) (some la)) (i := 6) (v := .tup (xs ++ [.tup [.int (t + 1), .int s, .tup []]])) (e := .bop .add (.var 5) (.tup (.cons (.tup (.cons (.bop .add (.idx (.var 8) (.con (.int 0))) (.con (.int 1))) (.cons (.idx (.var 8) (.con (.int 1))) (.cons (.tup .nil) .nil)))) .nil))) rfl m1 (fun M => e_bop v5 (e_tup (es_one (e_tup (es_cons l0p (es_cons l1 (es_one (e_tup es_nil (by simp))))) (by simp))) (by simp)) (addR _ M)) (pR _ rfl) (view_add hc0 (go_no (read_lo (Int.le_refl _)))) (by omega) F01 hn1
    -- bent reads
    obtain ⟨nb, ys, M3, eb, mb, lb, F3⟩ := Br M2 a u got (by omega) (by omega) q2 q3 q4
    have eb' : evE cf (.call i_l_bent_reads (.cons (.idx (.var 7) (.con (.int 0))) (.cons (.idx (.var 7) (.con (.int 1))) (.cons (.idx (.var 7) (.con (.int 2))) .nil)))) (sgR n1 (some fi) (some la)) M2 = some (.ref nb, M3) := e_call (es_cons (ix_ v7 at0) (es_cons (ix_ v7 at1) (es_one (ix_ v7 at2)))) eb
    have hI : evI cf (.seq (.call i_l_bent_reads (.cons (.idx (.var 7) (.con (.int 0))) (.cons (.idx (.var 7) (.con (.int 1))) (.cons (.idx (.var 7) (.con (.int 2))) .nil))))) (sgR n1 (some fi) (some la)) M2 = some (.lst nb, M3) := by
      rw [evI, eb']
      simp [srcOf, lstAt, mb.g]
    have hrl : r.length ≤ 13 := by have := hxl; rw [hxs] at this; simp at this; omega
    have eL := lc_lst (cf := cf) (own := [10]) (t := .name 10) (e := e3_l_right) (sg := sgR n1 (some fi) (some la)) (fun x => .tup (x :: r)) hI mb.g (by omega) (by
      intro x hx N
      let sgx : Sg := [some (.ref b), some x1, some x2, some x3, some x4, some (.tup xs), some (.ref n1), some fi, some la, none, some x, none]
      refine ⟨sgx, rfl, ?_⟩
      have es : evE cf (.slc true false (.var 5) (.con (.int 1)) (.con .non)) sgx N = some (.tup r, N) := by
        rw [evE, e_var (v := .tup xs) rfl]
        simp only [e_con, slcP, optI]
        rw [hxs, cut_1]
      refine e_bop (e_tup (es_one (e_var (v := x) rfl)) (by simp)) es ?_
      simp only [bopP]
      rw [if_pos (hsz _ (by simp; omega))]
      rfl)
    have F4 : Frm [] M3 (M3 ++ [Ob.lst (ys.map fun x => .tup (x :: r))]) := .app
    have m4 : Mat (M3 ++ [Ob.lst (ys.map fun x => .tup (x :: r))]) M3.length 6 (BV false) (ys.map fun x => .tup (x :: r)) := by
      refine ⟨get_last, fun y hy => ?_⟩
      rw [List.take_append_of_le_length (Nat.le_refl _), List.take_length]
      obtain ⟨x, hx, rfl⟩ := List.mem_map.mp hy
      obtain ⟨z1, z2⟩ := mb.p x hx
      refine ⟨⟨by simp; omega, fun z hz => ?_⟩, go_no z2⟩
      rcases List.mem_cons.mp hz with h | h
      · subst h; exact z1.frm frm_take
      · exact pu_gd (px z (by rw [hxs]; simp [h]))
    obtain ⟨M5, e5, m5, F5⟩ := mat_add ((m2.frm F3).frm F4) m4 (by simp; omega)
    generalize hn5 : (M3 ++ [Ob.lst (ys.map fun x => PV.tup (x :: r))]).length = n5 at *
    have e4 : evS cf (.asg (.name 6) (.bop .add (.var 6) (.lc [10] (.name 10) (.seq (.call i_l_bent_reads (.cons (.idx (.var 7) (.con (.int 0))) (.cons (.idx (.var 7) (.con (.int 1))) (.cons (.idx (.var 7) (.con (.int 2))) .nil))))) (.con (.bl true)) e3_l_right))) (sgR n1 (some fi) (some la)) M2 = some (.nx (sgR n5 (some fi) (some la)), M5) := s_asg (e_bop (e_var (v := .ref n1) rfl) eL e5) rfl
    have F05 := ((F2.trans F3).trans F4).trans F5
    have hn5' : M0.length ≤ n5 := by
      have := ((F2.trans F3).trans F4).len
      omega
    obtain ⟨M6, e6, m6, F6⟩ := s_app (cf := cf) (sg := sgR n5 (some fi) (some la)) (i := 6) (v := .tup (.tup [.int (t + 1), .int (s + 1), .tup []] :: xs)) (e := .bop .add (.tup (.cons (.tup (.cons (.bop .add (.idx (.var 8) (.con (.int 0))) (.con (.int 1))) (.cons (.bop .add (.idx (.var 8) (.con (.int 1))) (.con (.int 1))) (.cons (.tup .nil) .nil)))) .nil)) (.var 5)) rfl m5 (fun M => e_bop (e_tup (es_one (e_tup (es_cons l0p (es_cons l1p (es_one (e_tup es_nil (by simp))))) (by simp))) (by simp)) v5 (addL _ M)) (pL _ rfl) (by
      show Mp.goB 0 (-1) (.tup [.int (t + 1), .int (s + 1), .tup []] :: xs) = false
      rw [hxs]
      show (readB 0 (.tup [.int (t + 1), .int (s + 1), .tup []]) && (decide (-1 < t + 1) && Mp.goB (s + 1) (t + 1) (.tup [.int a, .int u, .tup got] :: r))) = false
      rw [go_no (read_lo (by omega))]
      simp) (by simp; omega) F05 hn5'
    refine ⟨n5, _, M6, some fi, some la, ?_, m6, by simp; omega, F6, hn5'⟩
    exact s_ifT eC (ss_cons sa (ss_cons e1 (ss_cons e2 (ss_cons e4 (ss_cons e6 ss_nil)))))
end Mp

/-! Mh4 (k66): right, whole; the law. -/
namespace Mp
open PySem L2

theorem right_ok {cf : CF} (So : HSo cf) (Br : HBr cf) (V : Tells cf i_is_view [] 6 viewB) (S : HS cf 1) {M : Mm} {b : Nat} {k : Int} (h : Bx M b k) (hk : k < 700000000000) :
    ∃ M', runD cf ir_l_right [.ref b] M = some (.bl true, M') ∧ Frm [b] M M' ∧ Bx M' b (k + 140) := by
  obtain ⟨x1, x2, x3, x4, xs, s, t, M1, e1, F1, B1, hxl, hc, ht⟩ := So M b k h hk
  have px : ∀ x ∈ xs, puB 5 x = true := fun x hx => pu_le (hc.pu x hx) (by omega)
  have px4 : puB 5 (.tup xs) = true := pu_tup (by omega) fun x hx => hc.pu x hx
  have pxs : puB 6 (.tup xs) = true := pu_up px4
  have hvw : viewB (.tup xs) = true := hc.goB (by omega) (by omega)
  let sg0 : Sg := [some (.ref b), none, none, none, none, none, none, none, none, none, none, none]
  let sg1 : Sg := [some (.ref b), some x1, some x2, some x3, some x4, some (.tup xs), none, none, none, none, none, none]
  let sgR : Nat → Option PV → Option PV → Option PV → Sg := fun n o7 o8 o9 => [some (.ref b), some x1, some x2, some x3, some x4, some (.tup xs), some (.ref n), o7, o8, o9, none, none]
  have s1 : evS cf (.asg (.tup [1, 2, 3, 4, 5]) (.call i_l_some (.cons (.var 0) (.cons (.con (.int 2)) .nil)))) sg0 M = some (.nx sg1, M1) := s_asg (e_call (es_cons (e_var rfl) (es_one e_con)) e1) rfl
  -- the view is one
  obtain ⟨M2, c1, F2⟩ := chk (cf := cf) V S (sg := sg1) (i := 5) (x := .tup xs) (M := M1) rfl (pu_gd pxs) hvw
  obtain ⟨M3, c2, F3⟩ := chk (cf := cf) V S (sg := sg1) (i := 5) (x := .tup xs) (M := M2) rfl (pu_gd pxs) hvw
  have s2 : evS cf (.iff (.or (.not (chkE 5 true)) (.not (chkE 5 true))) (.cons (.ret (.con (.bl false))) .nil) .nil) sg1 M1 = some (.nx sg1, M3) := s_ifF (e_orF (e_not (k := true) c1) (e_not (k := true) c2)) ss_nil
  have F13 := F2.trans F3
  -- what is none
  have b3 : Bds cf sg1 (.cons (.blt .list (.cons (.var 5) .nil)) (.cons (.con .non) (.cons (.con (.bl true)) (.cons (.con (.int 0)) (.cons (.con (.str "")) (.cons (.con (.str "ab")) (.cons (.tup (.cons (.con .non) .nil)) (.cons (.tup (.cons (.tup .nil) .nil)) (.cons (.tup (.cons (.lst .nil) .nil)) (.cons (.tup (.cons (.con (.int 0)) .nil)) (.cons (.bop .add (.var 5) (.tup (.cons (.var 5) .nil))) (.cons (.tup (.cons (.tup (.cons (.con (.int 0)) (.cons (.con (.int 1)) (.cons (.tup .nil) .nil)))) (.cons (.con (.int 5)) .nil))) .nil)))))))))))) 6 (BV false) 12 := by
    refine bds_cons ?_ (bds_cons ?_ (bds_cons ?_ (bds_cons ?_ (bds_cons ?_ (bds_cons ?_ (bds_cons ?_ (bds_cons ?_ (bds_cons ?_ (bds_cons ?_ (bds_cons ?_ (bds_cons ?_ bds_nil)))))))))))
    · intro M
      exact ⟨.ref M.length, M ++ [Ob.lst xs], e_blt (es_one (e_var (v := .tup xs) rfl)) rfl, .app, ⟨by simp, xs, get_last, by omega, fun y hy => pu_gd (k := 5) (px y hy)⟩, rfl⟩
    · exact bd_pu (v := .non) (fun M => e_con) rfl rfl
    · exact bd_pu (v := .bl true) (fun M => e_con) rfl rfl
    · exact bd_pu (v := .int 0) (fun M => e_con) rfl rfl
    · exact bd_pu (v := .str "") (fun M => e_con) (by decide +kernel) rfl
    · exact bd_pu (v := .str "ab") (fun M => e_con) (by decide +kernel) rfl
    · exact bd_pu (v := .tup [.non]) (fun M => e_tup (es_one e_con) (by simp)) rfl rfl
    · exact bd_pu (v := .tup [.tup []]) (fun M => e_tup (es_one (e_tup es_nil (by simp))) (by simp)) rfl rfl
    · intro M
      refine ⟨.tup [.ref M.length], M ++ [Ob.lst []], e_tup (es_one (e_lst es_nil (by simp))) (by simp), .app, ⟨by simp, fun y hy => ?_⟩, rfl⟩
      simp at hy
      subst hy
      exact ⟨by simp, [], get_last, by simp, by simp⟩
    · exact bd_pu (v := .tup [.int 0]) (fun M => e_tup (es_one e_con) (by simp)) rfl rfl
    · refine bd_pu (v := .tup (xs ++ [.tup xs])) (fun M => e_bop (e_var (v := .tup xs) rfl) (y := .tup [.tup xs]) (e_tup (es_one (e_var (v := .tup xs) rfl)) (by simp)) ?_) ?_ (view_add hc (go_no (readB_tup hc.tups)))
      · simp only [bopP]
        rw [if_pos (by have : sizeLine = 16777216 := rfl; simp; omega)]
      · refine pu_tup (by simp; omega) fun z hz => ?_
        rcases List.mem_append.mp hz with h | h
        · exact px z h
        · simp at h; subst h; exact px4
    · exact bd_pu (v := .tup [.tup [.int 0, .int 1, .tup []], .int 5]) (fun M => e_tup (es_cons (e_tup (es_cons e_con (es_cons e_con (es_one (e_tup es_nil (by simp))))) (by simp)) (es_one e_con)) (by simp)) rfl (by decide +kernel)
  obtain ⟨n3, ms3, M4, e3, m3, l3, k3, F4⟩ := s_new (i := 6) b3 (by omega) M3
  have F14 := F13.trans F4
  have hn3 : M1.length ≤ n3 := Nat.le_trans F13.len k3
  obtain ⟨n5, ms5, M5, o7, o8, e5, m5, l5, F15, hn5⟩ := if_ok (cf := cf) Br (b := b) (x1 := x1) (x2 := x2) (x3 := x3) (x4 := x4) hc hxl ht m3 l3 F14 hn3
  have b6 : Bds cf (sgR n5 o7 o8 none) (.cons (.tup (.cons (.tup (.cons (.con (.int 0)) (.cons (.con (.int 2)) (.cons (.tup .nil) .nil)))) (.cons (.tup (.cons (.con (.int 1)) (.cons (.con (.int 3)) (.cons (.tup (.cons (.tup (.cons (.con (.int 1)) (.cons (.con (.str "a")) (.cons (.con (.int 1)) .nil)))) .nil)) .nil)))) .nil))) (.cons (.tup (.cons (.tup (.cons (.con (.int 0)) (.cons (.con (.int 2)) (.cons (.tup (.cons (.tup (.cons (.con (.int 1)) (.cons (.con (.str "b")) (.cons (.con (.int 1)) .nil)))) (.cons (.tup (.cons (.con (.int 0)) (.cons (.con (.str "a")) (.cons (.con (.int 1)) .nil)))) .nil))) .nil)))) .nil)) .nil)) 6 (BV false) 2 := by
    refine bds_cons ?_ (bds_cons ?_ bds_nil)
    · exact bd_pu (v := .tup [.tup [.int 0, .int 2, .tup []], .tup [.int 1, .int 3, .tup [.tup [.int 1, .str "a", .int 1]]]]) (fun M => (e_tup (es_cons (e_tup (es_cons e_con (es_cons e_con (es_one (e_tup es_nil (by simp))))) (by simp)) (es_one (e_tup (es_cons e_con (es_cons e_con (es_one (e_tup (es_one (e_tup (es_cons e_con (es_cons e_con (es_one e_con))) (by simp))) (by simp))))) (by simp)))) (by simp))) (by decide +kernel) (by decide +kernel)
    · exact bd_pu (v := .tup [.tup [.int 0, .int 2, .tup [.tup [.int 1, .str "b", .int 1], .tup [.int 0, .str "a", .int 1]]]]) (fun M => (e_tup (es_one (e_tup (es_cons e_con (es_cons e_con (es_one (e_tup (es_cons (e_tup (es_cons e_con (es_cons e_con (es_one e_con))) (by simp)) (es_one (e_tup (es_cons e_con (es_cons e_con (es_one e_con))) (by simp)))) (by simp))))) (by simp))) (by simp))) (by decide +kernel) (by decide +kernel)
  obtain ⟨n6, ms6, M6, e6, m6, l6, k6, F6⟩ := s_more (i := 6) rfl m5 b6 (by omega)
  have F16 := F15.trans F6
  have hn6 : M1.length ≤ n6 := Nat.le_trans F15.len k6
  obtain ⟨M7, e7, m7, F17⟩ := s_app (cf := cf) (sg := sgR n6 o7 o8 none) (i := 6) (v := .tup [.tup [.int 0, .int 3, .tup [.tup [.int 0, .str "a", .int 1], .tup [.int 2, .str "a", .int 1], .tup [.int 1, .str "b", .non]]]]) (e := .tup (.cons (.tup (.cons (.con (.int 0)) (.cons (.con (.int 3)) (.cons (.tup (.cons (.tup (.cons (.con (.int 0)) (.cons (.con (.str "a")) (.cons (.con (.int 1)) .nil)))) (.cons (.tup (.cons (.con (.int 2)) (.cons (.con (.str "a")) (.cons (.con (.int 1)) .nil)))) (.cons (.tup (.cons (.con (.int 1)) (.cons (.con (.str "b")) (.cons (.con .non) .nil)))) .nil)))) .nil)))) .nil)) rfl m6 (fun M => (e_tup (es_one (e_tup (es_cons e_con (es_cons e_con (es_one (e_tup (es_cons (e_tup (es_cons e_con (es_cons e_con (es_one e_con))) (by simp)) (es_cons (e_tup (es_cons e_con (es_cons e_con (es_one e_con))) (by simp)) (es_one (e_tup (es_cons e_con (es_cons e_con (es_one e_con))) (by simp))))) (by simp))))) (by simp))) (by simp))) (by decide +kernel) (by decide +kernel) (by omega) F16 hn6
  obtain ⟨M8, c8, F8⟩ := all_mat (cf := cf) V S (sg := sgR n6 o7 o8 none) (i := 6) rfl m7 (by simp; omega) (by simp [sgR])
  have s8 : evS cf (.iff (.not (.blt .all (.cons (.lc [11] (.name 11) (.seq (.var 6)) (.con (.bl true)) e2_l_right) .nil))) (.cons (.ret (.con (.bl false))) .nil) .nil) (sgR n6 o7 o8 none) M7 = some (.nx (sgR n6 o7 o8 none), M8) := s_ifF (e_not (k := true) c8) ss_nil
  -- what is one
  have b9 : Bds cf (sgR n6 o7 o8 none) (.cons (.tup (.cons (.tup (.cons (.con (.int 0)) (.cons (.con (.int 2)) (.cons (.tup .nil) .nil)))) (.cons (.tup (.cons (.con (.int 1)) (.cons (.con (.int 3)) (.cons (.tup (.cons (.tup (.cons (.con (.int 2)) (.cons (.con (.str "a")) (.cons (.con (.int 1)) .nil)))) .nil)) .nil)))) .nil))) .nil) 6 (BV true) 1 := by
    refine bds_cons ?_ bds_nil
    exact bd_pu (v := .tup [.tup [.int 0, .int 2, .tup []], .tup [.int 1, .int 3, .tup [.tup [.int 2, .str "a", .int 1]]]]) (fun M => (e_tup (es_cons (e_tup (es_cons e_con (es_cons e_con (es_one (e_tup es_nil (by simp))))) (by simp)) (es_one (e_tup (es_cons e_con (es_cons e_con (es_one (e_tup (es_one (e_tup (es_cons e_con (es_cons e_con (es_one e_con))) (by simp))) (by simp))))) (by simp)))) (by simp))) (by decide +kernel) (by decide +kernel)
  obtain ⟨n9, ms9, M9, e9, m9, l9, k9, F9⟩ := s_new (i := 9) b9 (by omega) M8
  have b10 : Bds cf (sgR n6 o7 o8 (some (.ref n9))) (.cons (.tup (.cons (.tup (.cons (.con (.int 0)) (.cons (.con (.int 1)) (.cons (.tup (.cons (.tup (.cons (.con (.int 0)) (.cons (.con (.str "a")) (.cons (.con .non) .nil)))) .nil)) .nil)))) (.cons (.tup (.cons (.con (.int 5)) (.cons (.con (.int 9)) (.cons (.tup .nil) .nil)))) .nil))) (.cons (.tup (.cons (.tup (.cons (.con (.int 3)) (.cons (.con (.int 2)) (.cons (.tup (.cons (.tup (.cons (.con (.int 0)) (.cons (.con (.str "zz")) (.cons (.neg (.con (.int 4))) .nil)))) (.cons (.tup (.cons (.con (.int 1)) (.cons (.con (.str "zz")) (.cons (.con .non) .nil)))) .nil))) .nil)))) .nil)) (.cons (.tup .nil) .nil))) 6 (BV true) 3 := by
    refine bds_cons ?_ (bds_cons ?_ (bds_cons ?_ bds_nil))
    · exact bd_pu (v := .tup [.tup [.int 0, .int 1, .tup [.tup [.int 0, .str "a", .non]]], .tup [.int 5, .int 9, .tup []]]) (fun M => (e_tup (es_cons (e_tup (es_cons e_con (es_cons e_con (es_one (e_tup (es_one (e_tup (es_cons e_con (es_cons e_con (es_one e_con))) (by simp))) (by simp))))) (by simp)) (es_one (e_tup (es_cons e_con (es_cons e_con (es_one (e_tup es_nil (by simp))))) (by simp)))) (by simp))) (by decide +kernel) (by decide +kernel)
    · exact bd_pu (v := .tup [.tup [.int 3, .int 2, .tup [.tup [.int 0, .str "zz", .int (-4)], .tup [.int 1, .str "zz", .non]]]]) (fun M => (e_tup (es_one (e_tup (es_cons e_con (es_cons e_con (es_one (e_tup (es_cons (e_tup (es_cons e_con (es_cons e_con (es_one e_neg))) (by simp)) (es_one (e_tup (es_cons e_con (es_cons e_con (es_one e_con))) (by simp)))) (by simp))))) (by simp))) (by simp))) (by decide +kernel) (by decide +kernel)
    · exact bd_pu (v := .tup []) (fun M => e_tup es_nil (by simp)) rfl rfl
  obtain ⟨n10, ms10, M10, e10, m10, l10, k10, F10⟩ := s_more (i := 9) rfl m9 b10 (by omega)
  obtain ⟨M11, c11, F11⟩ := all_mat (cf := cf) V S (sg := sgR n6 o7 o8 (some (.ref n10))) (i := 9) rfl m10 (by omega) (by simp [sgR])
  have FF : Frm [] M1 M11 := F17.trans (((F8.trans F9).trans F10).trans F11)
  refine ⟨M11, ?_, F1.trans (FF.mono (by simp)), B1.frm FF (by simp) (Int.le_refl _)⟩
  exact run_ret rfl (ss_cons s1 (ss_cons s2 (ss_cons e3 (ss_cons e5 (ss_cons e6 (ss_cons e7 (ss_cons s8 (ss_cons e9 (ss_cons e10 (ss_ret c11))))))))))
theorem hrt (j : Nat) : HRt (cfN tab (j + 7)) := fun M b k h hk => by
  obtain ⟨M', q1, q2⟩ := right_ok (cf := cfN tab (j + 6)) (M := M) (b := b) (k := k) (hso j) (hbr (j + 5)) (t_view (j + 1) [] 2) (hs (j + 5) 1) h hk
  refine ⟨M', ?_, q2⟩
  exact q1
theorem good : ∀ ns : List Int, ns.length ≤ 63 → ∃ M', cfN tab 15 i_law [.cl ns] [] = some (.bl true, M') := by
  intro ns hl
  have Bb : HBx (cfN tab 14) := hbx 13
  have Rr : HRt (cfN tab 14) := hrt 7
  show ∃ M', runD (cfN tab 14) ir_law [.cl ns] [] = some (.bl true, M')
  generalize cfN tab 14 = cf at *
  let n : Nat := 1 + min 1 ns.length
  have hn : n ≤ 2 := by show 1 + min 1 ns.length ≤ 2; omega
  let I : Nat → Sg → Mm → Prop := fun i sg N => ∃ o1 o2 : Option PV, sg = [some (.cl ns), o1, o2, none]
  obtain ⟨sg', M', e1, _⟩ := for_inv (src := .rng 0 n) (bind := tgP (.name 1)) (body := fun sg M => evSs cf b1_law sg M) I (n := n) (sg := [some (.cl ns), none, none, none]) (M := []) (by omega)
    ⟨none, none, rfl⟩
    (by
      intro i sg N hi hI
      obtain ⟨o1, o2, rfl⟩ := hI
      have hi0 : (0 : Int) + i = i := by omega
      obtain ⟨N1, e2, B2, f2⟩ := Bb N ns i (by omega)
      let b := N.length
      let sg1 : Sg := [some (.cl ns), some (.int (0 + i)), some (.ref b), none]
      have s1 : evS cf (.asg (.name 2) (.call i_l_box (.cons (.var 0) (.cons (.var 1) .nil)))) [some (.cl ns), some (.int (0 + i)), o2, none] N = some (.nx sg1, N1) := by
        refine s_asg (e_call (es_cons (e_var rfl) (es_one (e_var (v := .int (0 + i)) rfl))) (q := some (.ref b, N1)) ?_) rfl
        rw [hi0]; exact e2
      obtain ⟨N2, e3, c3, B3, F3⟩ := lc_inv (src := .rng 0 6) (bind := tgP (.name 3)) (c := fun sg M => evE cf (.con (.bl true)) sg M) (e := fun sg M => evE cf (.call i_l_right (.cons (.var 2) .nil)) sg M) (d := N1.length) (sg := sg1) (fun j P => P[N1.length]? = some (.lst (List.replicate j (.bl true))) ∧ Bx P b (140 * j) ∧ Frm [b] N1 P) (n := 6) (M := N1 ++ [Ob.lst []]) (by omega)
        ⟨get_last, B2.frm (S := []) .app (by simp) (by omega), .app⟩
        (by
          intro j P hj hJ
          obtain ⟨c1, B1, F1⟩ := hJ
          obtain ⟨P2, e4, F4, B4⟩ := Rr P b (140 * j) B1 (by omega)
          have hb : b < N1.length := by obtain ⟨_, _, _, hb, _⟩ := B2; exact lt_of hb
          have c4 := F4.get c1 (by simp; omega)
          refine ⟨.int (0 + j), [some (.cl ns), some (.int (0 + i)), some (.ref b), some (.int (0 + j))], by simp [Src.get, hj], rfl, .inl ⟨P, .bl true, P2, List.replicate j (.bl true), e_con, e_call (es_one (e_var rfl)) e4, by simp only [lstAt, c4], by simp; omega, ?_, ?_, ?_⟩⟩
          · rw [List.getElem?_set_self (lt_of c4), List.replicate_succ']
          · have F5 : Frm [N1.length] P2 (P2.set N1.length (.lst (List.replicate j (.bl true) ++ [.bl true]))) := Frm.set (by simp)
            exact B4.frm F5 (by simp; omega) (by omega)
          · exact (F1.trans F4).comp (Frm.set (S := [N1.length]) (by simp)) (by simp))
        (by intro P _; simp [Src.get])
      have hI2 : evI cf (.rng1 (.con (.int 6))) sg1 N1 = some (.rng 0 6, N1) := by rw [evI, e_con]; rfl
      have eL : evE cf (.lc [3] (.name 3) (.rng1 (.con (.int 6))) (.con (.bl true)) (.call i_l_right (.cons (.var 2) .nil))) sg1 N1 = some (.ref N1.length, N2) := by
        rw [evE, hI2]
        have hwp : wipeP sg1 [3] = sg1 := rfl
        simp only [hwp, e3]; rfl
      have eA : evE cf (.blt .all (.cons (.lc [3] (.name 3) (.rng1 (.con (.int 6))) (.con (.bl true)) (.call i_l_right (.cons (.var 2) .nil))) .nil)) sg1 N1 = some (.bl true, N2) := by
        refine e_blt (es_one eL) ?_
        simp only [bltP, lstAt, c3, Option.bind_some, blsOf_rep, Option.map_some]
        simp
      exact ⟨.int (0 + i), [some (.cl ns), some (.int (0 + i)), o2, none], sg1, N2, by simp [Src.get, hi], rfl, ss_cons s1 (ss_cons (s_ifF (e_not (k := true) eA) ss_nil) ss_nil), _, _, rfl⟩)
    (by intro sg N _; simp [Src.get])
  have hI : evI cf (.rng1 (.bop .add (.con (.int 1)) (.blt .min2 (.cons (.con (.int 1)) (.cons (.blt .len (.cons (.var 0) .nil)) .nil))))) [some (.cl ns), none, none, none] [] = some (.rng 0 n, []) := by
    have h1 : evE cf (.bop .add (.con (.int 1)) (.blt .min2 (.cons (.con (.int 1)) (.cons (.blt .len (.cons (.var 0) .nil)) .nil)))) [some (.cl ns), none, none, none] [] = some (.int n, []) := by
      refine e_bop e_con (e_blt (es_cons e_con (es_one (e_blt (es_one (e_var rfl)) rfl))) rfl) ?_
      show some (PV.int (1 + (if (ns.length : Int) < 1 then (ns.length : Int) else 1)), ([] : Mm)) = some (.int ((1 + min 1 ns.length : Nat) : Int), [])
      congr 3
      split <;> omega
    rw [evI, h1]
    have hro : rngOk (n : Int) = true := by simp [rngOk]; omega
    simp only [hro]
    rfl
  refine ⟨M', run_ret rfl ?_⟩
  have hF : evS cf (.for_ (.name 1) (.rng1 (.bop .add (.con (.int 1)) (.blt .min2 (.cons (.con (.int 1)) (.cons (.blt .len (.cons (.var 0) .nil)) .nil))))) b1_law) [some (.cl ns), none, none, none] [] = some (.nx sg', M') := by rw [evS, hI]; exact e1
  exact ss_cons hF (ss_ret e_con)
end Mp

namespace Mp
open PySem L2
def topS (i : Nat) : Stmt := PySem.Challenge.pw_missedmarks_k66_what_is_no_view.main.body.getD i (.Pass ⟨0, 0, 0, 0⟩)
abbrev s_is_number : Stmt := topS 2
abbrev N_is_number : List Str := ["thing"]
theorem S_is_number : FnScope N_is_number ["thing"] (defScope s_is_number) := ⟨rfl, rfl, rfl, by decide +kernel, rfl, by decide +kernel, by decide +kernel⟩
abbrev s_is_count : Stmt := topS 3
abbrev N_is_count : List Str := ["thing"]
theorem S_is_count : FnScope N_is_count ["thing"] (defScope s_is_count) := ⟨rfl, rfl, rfl, by decide +kernel, rfl, by decide +kernel, by decide +kernel⟩
abbrev s_is_key : Stmt := topS 4
abbrev N_is_key : List Str := ["thing", "sign"]
theorem S_is_key : FnScope N_is_key ["thing"] (defScope s_is_key) := ⟨rfl, rfl, rfl, by decide +kernel, rfl, by decide +kernel, by decide +kernel⟩
abbrev s_is_row : Stmt := topS 7
abbrev N_is_row : List Str := ["thing"]
theorem S_is_row : FnScope N_is_row ["thing"] (defScope s_is_row) := ⟨rfl, rfl, rfl, by decide +kernel, rfl, by decide +kernel, by decide +kernel⟩
abbrev s_is_read : Stmt := topS 8
abbrev N_is_read : List Str := ["thing", "begin", "places", "row", "place"]
theorem S_is_read : FnScope N_is_read ["thing", "begin"] (defScope s_is_read) := ⟨rfl, rfl, rfl, by decide +kernel, rfl, by decide +kernel, by decide +kernel⟩
abbrev s_is_view : Stmt := topS 9
abbrev N_is_view : List Str := ["thing", "begin", "time", "part"]
theorem S_is_view : FnScope N_is_view ["thing"] (defScope s_is_view) := ⟨rfl, rfl, rfl, by decide +kernel, rfl, by decide +kernel, by decide +kernel⟩
abbrev s_l_box : Stmt := topS 11
abbrev N_l_box : List Str := ["_law_script", "_law_k", "_law_cell", "_law_seed"]
theorem S_l_box : FnScope N_l_box ["_law_script", "_law_k"] (defScope s_l_box) := ⟨rfl, rfl, rfl, by decide +kernel, rfl, by decide +kernel, by decide +kernel⟩
abbrev s_l_take : Stmt := topS 12
abbrev N_l_take : List Str := ["_law_box_here", "_law_span", "_law_found", "_law_once", "_law_odd"]
theorem S_l_take : FnScope N_l_take ["_law_box_here", "_law_span"] (defScope s_l_take) := ⟨rfl, rfl, rfl, by decide +kernel, rfl, by decide +kernel, by decide +kernel⟩
abbrev s_l_of : Stmt := topS 13
abbrev N_l_of : List Str := ["_law_box_here", "_law_some_here"]
theorem S_l_of : FnScope N_l_of ["_law_box_here", "_law_some_here"] (defScope s_l_of) := ⟨rfl, rfl, rfl, by decide +kernel, rfl, by decide +kernel, by decide +kernel⟩
abbrev s_l_same : Stmt := topS 14
abbrev N_l_same : List Str := ["_law_found", "_law_due", "_law_mine", "_law_its"]
theorem S_l_same : FnScope N_l_same ["_law_found", "_law_due"] (defScope s_l_same) := ⟨rfl, rfl, rfl, by decide +kernel, rfl, by decide +kernel, by decide +kernel⟩
abbrev s_l_bare : Stmt := topS 15
abbrev N_l_bare : List Str := []
theorem S_l_bare : FnScope N_l_bare [] (defScope s_l_bare) := ⟨rfl, rfl, rfl, by decide +kernel, rfl, by decide +kernel, by decide +kernel⟩
abbrev s_l_leave : Stmt := topS 16
abbrev N_l_leave : List Str := ["_law_w", "_law_keep", "_law_spot", "_law_k", "_law_key_so", "_law_worth"]
theorem S_l_leave : FnScope N_l_leave ["_law_w", "_law_keep", "_law_spot"] (defScope s_l_leave) := ⟨rfl, rfl, rfl, by decide +kernel, rfl, by decide +kernel, by decide +kernel⟩
abbrev s_l_swept : Stmt := topS 17
abbrev N_l_swept : List Str := ["_law_w", "_law_keep", "_law_spot", "_law_end", "_law_names", "_law_k", "_law_key_so", "_law_worth"]
theorem S_l_swept : FnScope N_l_swept ["_law_w", "_law_keep", "_law_spot", "_law_end"] (defScope s_l_swept) := ⟨rfl, rfl, rfl, by decide +kernel, rfl, by decide +kernel, by decide +kernel⟩
abbrev s_l_heard : Stmt := topS 18
abbrev N_l_heard : List Str := ["_law_w", "_law_p", "_law_upto_so", "_law_found", "_law_k"]
theorem S_l_heard : FnScope N_l_heard ["_law_w", "_law_p", "_law_upto_so"] (defScope s_l_heard) := ⟨rfl, rfl, rfl, by decide +kernel, rfl, by decide +kernel, by decide +kernel⟩
abbrev s_l_did : Stmt := topS 19
abbrev N_l_did : List Str := ["_law_w", "_law_event_so", "_law_word", "_law_own"]
theorem S_l_did : FnScope N_l_did ["_law_w", "_law_event_so"] (defScope s_l_did) := ⟨rfl, rfl, rfl, by decide +kernel, rfl, by decide +kernel, by decide +kernel⟩
abbrev s_l_run : Stmt := topS 20
abbrev N_l_run : List Str := ["_law_table_here", "_law_keep", "_law_broom", "_law_w", "_law_spot", "_law_when", "_law_end"]
theorem S_l_run : FnScope N_l_run ["_law_table_here", "_law_keep", "_law_broom"] (defScope s_l_run) := ⟨rfl, rfl, rfl, by decide +kernel, rfl, by decide +kernel, by decide +kernel⟩
abbrev s_l_event : Stmt := topS 21
abbrev N_l_event : List Str := ["_law_box_here", "_law_w", "_law_folk", "_law_names", "_law_words", "_law_way", "_law_p", "_law_key_so", "_law_gap"]
theorem S_l_event : FnScope N_l_event ["_law_box_here", "_law_w", "_law_folk", "_law_names", "_law_words"] (defScope s_l_event) := ⟨rfl, rfl, rfl, by decide +kernel, rfl, by decide +kernel, by decide +kernel⟩
abbrev s_l_moved : Stmt := topS 22
abbrev N_l_moved : List Str := ["_law_w", "_law_event_so", "_law_word"]
theorem S_l_moved : FnScope N_l_moved ["_law_w", "_law_event_so"] (defScope s_l_moved) := ⟨rfl, rfl, rfl, by decide +kernel, rfl, by decide +kernel, by decide +kernel⟩
abbrev s_l_table : Stmt := topS 23
abbrev N_l_table : List Str := ["_law_box_here", "_law_many_here", "_law_most", "_law_folk", "_law_names", "_law_words", "_law_found", "_law_w", "_law_turn", "_law_event_so", "_law_is_full"]
theorem S_l_table : FnScope N_l_table ["_law_box_here", "_law_many_here", "_law_most", "_law_folk", "_law_names", "_law_words"] (defScope s_l_table) := ⟨rfl, rfl, rfl, by decide +kernel, rfl, by decide +kernel, by decide +kernel⟩
abbrev s_l_many : Stmt := topS 24
abbrev N_l_many : List Str := ["_law_table_here", "_law_spot", "_law_event_so"]
theorem S_l_many : FnScope N_l_many ["_law_table_here", "_law_spot"] (defScope s_l_many) := ⟨rfl, rfl, rfl, by decide +kernel, rfl, by decide +kernel, by decide +kernel⟩
abbrev s_l_tale : Stmt := topS 25
abbrev N_l_tale : List Str := ["_law_box_here", "_law_tries", "_law_most", "_law_folk"]
theorem S_l_tale : FnScope N_l_tale ["_law_box_here", "_law_tries", "_law_most", "_law_folk"] (defScope s_l_tale) := ⟨rfl, rfl, rfl, by decide +kernel, rfl, by decide +kernel, by decide +kernel⟩
abbrev s_l_drawn_broom : Stmt := topS 26
abbrev N_l_drawn_broom : List Str := ["_law_box_here", "_law_table_here", "_law_found", "_law_end", "_law_spot", "_law_many_so"]
theorem S_l_drawn_broom : FnScope N_l_drawn_broom ["_law_box_here", "_law_table_here"] (defScope s_l_drawn_broom) := ⟨rfl, rfl, rfl, by decide +kernel, rfl, by decide +kernel, by decide +kernel⟩
abbrev s_l_view : Stmt := topS 27
abbrev N_l_view : List Str := ["_law_table_here", "_law_keep", "_law_broom", "_law_p", "_law_heard_here", "_law_found", "_law_copies", "_law_spot", "_law_event_so", "_law_word"]
theorem S_l_view : FnScope N_l_view ["_law_table_here", "_law_keep", "_law_broom", "_law_p"] (defScope s_l_view) := ⟨rfl, rfl, rfl, by decide +kernel, rfl, by decide +kernel, by decide +kernel⟩
abbrev s_l_some : Stmt := topS 28
abbrev N_l_some : List Str := ["_law_box_here", "_law_folk", "_law_table_here", "_law_broom", "_law_keep", "_law_crowd", "_law_p", "_law_event_so"]
theorem S_l_some : FnScope N_l_some ["_law_box_here", "_law_folk"] (defScope s_l_some) := ⟨rfl, rfl, rfl, by decide +kernel, rfl, by decide +kernel, by decide +kernel⟩
abbrev s_l_bent_reads : Stmt := topS 29
abbrev N_l_bent_reads : List Str := ["_law_when", "_law_end", "_law_got", "_law_found", "_law_rows_so", "_law_rows"]
theorem S_l_bent_reads : FnScope N_l_bent_reads ["_law_when", "_law_end", "_law_got"] (defScope s_l_bent_reads) := ⟨rfl, rfl, rfl, by decide +kernel, rfl, by decide +kernel, by decide +kernel⟩
abbrev s_l_right : Stmt := topS 30
abbrev N_l_right : List Str := ["_law_box_here", "_law_table_here", "_law_broom", "_law_keep", "_law_p", "_law_seen", "_law_matters", "_law_first", "_law_last", "_law_some_here", "_law_part", "_law_matter"]
theorem S_l_right : FnScope N_l_right ["_law_box_here"] (defScope s_l_right) := ⟨rfl, rfl, rfl, by decide +kernel, rfl, by decide +kernel, by decide +kernel⟩
abbrev s_law : Stmt := topS 31
abbrev N_law : List Str := ["_law_script", "_law_k", "_law_box_here", "_law_lap"]
theorem S_law : FnScope N_law ["_law_script"] (defScope s_law) := ⟨rfl, rfl, rfl, by decide +kernel, rfl, by decide +kernel, by decide +kernel⟩
def names : List Nx := [⟨.fn, "is_number", ["thing"], false⟩,
  ⟨.fn, "is_count", ["thing"], false⟩,
  ⟨.fn, "is_key", ["thing"], false⟩,
  ⟨.fn, "is_row", ["thing"], false⟩,
  ⟨.fn, "is_read", ["thing", "begin"], false⟩,
  ⟨.fn, "is_view", ["thing"], true⟩,
  ⟨.fn, "_law_box", ["_law_script", "_law_k"], false⟩,
  ⟨.fn, "_law_take", ["_law_box_here", "_law_span"], false⟩,
  ⟨.fn, "_law_of", ["_law_box_here", "_law_some_here"], false⟩,
  ⟨.fn, "_law_same", ["_law_found", "_law_due"], false⟩,
  ⟨.fn, "_law_bare", [], false⟩,
  ⟨.fn, "_law_leave", ["_law_w", "_law_keep", "_law_spot"], false⟩,
  ⟨.fn, "_law_swept", ["_law_w", "_law_keep", "_law_spot", "_law_end"], false⟩,
  ⟨.fn, "_law_heard", ["_law_w", "_law_p", "_law_upto_so"], false⟩,
  ⟨.fn, "_law_did", ["_law_w", "_law_event_so"], false⟩,
  ⟨.fn, "_law_run", ["_law_table_here", "_law_keep", "_law_broom"], false⟩,
  ⟨.fn, "_law_event", ["_law_box_here", "_law_w", "_law_folk", "_law_names", "_law_words"], false⟩,
  ⟨.fn, "_law_moved", ["_law_w", "_law_event_so"], false⟩,
  ⟨.fn, "_law_table", ["_law_box_here", "_law_many_here", "_law_most", "_law_folk", "_law_names", "_law_words"], false⟩,
  ⟨.fn, "_law_many", ["_law_table_here", "_law_spot"], false⟩,
  ⟨.fn, "_law_tale", ["_law_box_here", "_law_tries", "_law_most", "_law_folk"], false⟩,
  ⟨.fn, "_law_drawn_broom", ["_law_box_here", "_law_table_here"], false⟩,
  ⟨.fn, "_law_view", ["_law_table_here", "_law_keep", "_law_broom", "_law_p"], false⟩,
  ⟨.fn, "_law_some", ["_law_box_here", "_law_folk"], false⟩,
  ⟨.fn, "_law_bent_reads", ["_law_when", "_law_end", "_law_got"], false⟩,
  ⟨.fn, "_law_right", ["_law_box_here"], false⟩,
  ⟨.fn, "law", ["_law_script"], false⟩]
structure Txt (K : PySem.W.Frag) (w : World) (mg : Str → Option Value) : Prop where
  b_abs : mg "abs" = none
  b_all : mg "all" = none
  b_bool : mg "bool" = none
  b_dict : mg "dict" = none
  b_enumerate : mg "enumerate" = none
  b_int : mg "int" = none
  b_isinstance : mg "isinstance" = none
  b_len : mg "len" = none
  b_list : mg "list" = none
  b_min : mg "min" = none
  b_range : mg "range" = none
  b_set : mg "set" = none
  b_sorted : mg "sorted" = none
  b_str : mg "str" = none
  b_tuple : mg "tuple" = none
  b_zip : mg "zip" = none
  c_LETTERS : ∃ t, mg "LETTERS" = some (.str "abcdefghijklmnopqrstuvwxyz" t)
  c_TRIPLE : ∃ t, mg "TRIPLE" = some (.int 3 t)
section
variable {P : Program} {w : World} {K : PySem.W.Frag} {mg : Str → Option Value} {base : Heap} {f : Addr} {fd : FuncData} {k : Nat} {cf cf' : CF}
theorem ok_is_number (T : Txt K w mg) (C : Calls2 P w K mg base names cf k) (F : FunD K "is_number" "is_number" (defArgs s_is_number) (defBody s_is_number) (defScope s_is_number) [] [] f fd) (hcf : ∀ xs M, cf' 0 xs M = runD cf ir_is_number xs M) :
    FnOk P w K mg base CX0 (k + 1) f fd ["thing"] (spEv K cf' 0 1) := by
  refine def_ok (d := ir_is_number) F S_is_number rfl rfl hcf fun cdv A outer s H E hr => ?_
  exact (xss_cons (xs_ret (xe_and (xe_isi1 (t := .int) rfl T.b_isinstance (xe_var 0) (pe_tyN (t := .int) rfl T.b_int (by decide +kernel))) (xe_one (xe_not (xe_isi1 (t := .bool) rfl T.b_isinstance (xe_var 0) (pe_tyN (t := .bool) rfl T.b_bool (by decide +kernel))))))) xss_nil)
theorem ok_is_count (T : Txt K w mg) (C : Calls2 P w K mg base names cf k) (F : FunD K "is_count" "is_count" (defArgs s_is_count) (defBody s_is_count) (defScope s_is_count) [] [] f fd) (hcf : ∀ xs M, cf' 1 xs M = runD cf ir_is_count xs M) :
    FnOk P w K mg base CX0 (k + 1) f fd ["thing"] (spEv K cf' 1 1) := by
  refine def_ok (d := ir_is_count) F S_is_count rfl rfl hcf fun cdv A outer s H E hr => ?_
  exact (xss_cons (xs_ret (xe_and (xe_call (C.own hr (n := 0) rfl) rfl (xa_cons (xe_var 0) xa_nil)) (xe_one (xe_cmp opx_ge (xe_var 0) xe_int (nomark _))))) xss_nil)
theorem ok_is_key (T : Txt K w mg) (C : Calls2 P w K mg base names cf k) (F : FunD K "is_key" "is_key" (defArgs s_is_key) (defBody s_is_key) (defScope s_is_key) [] [] f fd) (hcf : ∀ xs M, cf' 2 xs M = runD cf ir_is_key xs M) :
    FnOk P w K mg base CX0 (k + 1) f fd ["thing"] (spEv K cf' 2 1) := by
  refine def_ok (d := ir_is_key) F S_is_key rfl rfl hcf fun cdv A outer s H E hr => ?_
  exact (xss_cons (xs_ret (xe_and (xe_isi1 (t := .str) rfl T.b_isinstance (xe_var 0) (pe_tyN (t := .str) rfl T.b_str (by decide +kernel))) (xe_and (xe_chn opx_lt opx_lt xe_int (xe_blt cl_len (by rfl) T.b_len (by decide +kernel) (xa_cons (xe_var 0) xa_nil)) xe_int) (xe_one (xe_blt (cl_all_ rfl) (by rfl) T.b_all (by decide +kernel) (xa_cons (xe_lc (own := [("sign", 1)]) rfl S_is_key.nd (xi_seq (xe_var 0)) (blkOk_by (own := [("sign", 1)]) (N := N_is_key) (sc := defScope s_is_key) (by decide +kernel)) (fun _ _ _ _ _ => (xg_name 1 S_is_key.nd)) (fun _ _ _ _ _ => xts_nil) (fun _ _ _ _ _ => (xe_cmp (opx_in hr.units) (xe_var 1) (xe_gstrE rfl T.c_LETTERS) rfl)) (by decide)) xa_nil)))))) xss_nil)
theorem ok_is_row (T : Txt K w mg) (C : Calls2 P w K mg base names cf k) (F : FunD K "is_row" "is_row" (defArgs s_is_row) (defBody s_is_row) (defScope s_is_row) [] [] f fd) (hcf : ∀ xs M, cf' 3 xs M = runD cf ir_is_row xs M) :
    FnOk P w K mg base CX0 (k + 1) f fd ["thing"] (spEv K cf' 3 1) := by
  refine def_ok (d := ir_is_row) F S_is_row rfl rfl hcf fun cdv A outer s H E hr => ?_
  exact (xss_cons (xs_if (xt_w (xw_or (xt_not (xt_val (xe_isi1 (t := .tuple) rfl T.b_isinstance (xe_var 0) (pe_tyN (t := .tuple) rfl T.b_tuple (by decide +kernel))))) (xw_or (xt_cmp (opx_ne hr.units) (xe_blt cl_len (by rfl) T.b_len (by decide +kernel) (xa_cons (xe_var 0) xa_nil)) (xe_gint rfl T.c_TRIPLE) (nomark _)) (xw_or1 rfl (xt_not (xt_val (xe_call (C.own hr (n := 1) rfl) rfl (xa_cons (xe_idx hr.units (xe_var 0) xe_int (fun _ _ => rfl)) xa_nil)))))))) (xss_cons (xs_ret xe_bl) xss_nil) xss_nil) (xss_cons (xs_ret (xe_and (xe_call (C.own hr (n := 2) rfl) rfl (xa_cons (xe_idx hr.units (xe_var 0) xe_int (fun _ _ => rfl)) xa_nil)) (xe_one (xe_or (xe_cmp opx_isN (xe_idx hr.units (xe_var 0) xe_int (fun _ _ => rfl)) xe_non (nomark _)) (xe_one (xe_call (C.own hr (n := 0) rfl) rfl (xa_cons (xe_idx hr.units (xe_var 0) xe_int (fun _ _ => rfl)) xa_nil))))))) xss_nil))
theorem ok_is_read (T : Txt K w mg) (C : Calls2 P w K mg base names cf k) (F : FunD K "is_read" "is_read" (defArgs s_is_read) (defBody s_is_read) (defScope s_is_read) [] [] f fd) (hcf : ∀ xs M, cf' 4 xs M = runD cf ir_is_read xs M) :
    FnOk P w K mg base CX0 (k + 1) f fd ["thing", "begin"] (spEv K cf' 4 2) := by
  refine def_ok (d := ir_is_read) F S_is_read rfl rfl hcf fun cdv A outer s H E hr => ?_
  exact (xss_cons (xs_if (xt_w (xw_or (xt_not (xt_val (xe_isi1 (t := .tuple) rfl T.b_isinstance (xe_var 0) (pe_tyN (t := .tuple) rfl T.b_tuple (by decide +kernel))))) (xw_or (xt_cmp (opx_ne hr.units) (xe_blt cl_len (by rfl) T.b_len (by decide +kernel) (xa_cons (xe_var 0) xa_nil)) (xe_gint rfl T.c_TRIPLE) (nomark _)) (xw_or (xt_not (xt_val (xe_call (C.own hr (n := 1) rfl) rfl (xa_cons (xe_idx hr.units (xe_var 0) xe_int (fun _ _ => rfl)) xa_nil)))) (xw_or1 rfl (xt_not (xt_val (xe_call (C.own hr (n := 1) rfl) rfl (xa_cons (xe_idx hr.units (xe_var 0) xe_int (fun _ _ => rfl)) xa_nil))))))))) (xss_cons (xs_ret xe_bl) xss_nil) xss_nil) (xss_cons (xs_if (xt_w (xw_or (xt_cmp opx_le (xe_idx hr.units (xe_var 0) xe_int (fun _ _ => rfl)) (xe_var 1) (nomark _)) (xw_or (xt_not (xt_val (xe_isi1 (t := .tuple) rfl T.b_isinstance (xe_idx hr.units (xe_var 0) xe_int (fun _ _ => rfl)) (pe_tyN (t := .tuple) rfl T.b_tuple (by decide +kernel))))) (xw_or1 rfl (xt_not (xt_val (xe_blt (cl_all_ rfl) (by rfl) T.b_all (by decide +kernel) (xa_cons (xe_lc (own := [("row", 3)]) rfl S_is_read.nd (xi_seq (xe_idx hr.units (xe_var 0) xe_int (fun _ _ => rfl))) (blkOk_by (own := [("row", 3)]) (N := N_is_read) (sc := defScope s_is_read) (by decide +kernel)) (fun _ _ _ _ _ => (xg_name 3 S_is_read.nd)) (fun _ _ _ _ _ => xts_nil) (fun _ _ _ _ _ => (xe_call (C.own hr (n := 3) rfl) rfl (xa_cons (xe_var 3) xa_nil))) (by decide)) xa_nil)))))))) (xss_cons (xs_ret xe_bl) xss_nil) xss_nil) (xss_cons (xs_setLc (own := [("row", 3)]) (n := 2) rfl S_is_read.nd rfl rfl (sw_true rfl rfl rfl (by decide +kernel)) (xi_seq (xe_idx hr.units (xe_var 0) xe_int (fun _ _ => rfl))) (blkOk_by (own := [("row", 3)]) (N := N_is_read) (sc := defScope s_is_read) (by decide +kernel)) (fun _ _ _ _ _ => (xg_name 3 S_is_read.nd)) (fun _ _ _ _ _ => xts_nil) (fun _ _ _ _ _ => (xe_idx hr.units (xe_var 3) xe_int (fun _ _ => rfl))) (by decide)) (xss_cons (xs_ret (xe_and (xe_cmp (opx_eq hr.units) (xe_var 2) (xe_ssort rfl rfl T.b_sorted rfl T.b_set (xe_var 2)) (nomark _)) (xe_one (xe_blt (cl_all_ rfl) (by rfl) T.b_all (by decide +kernel) (xa_cons (xe_lc (own := [("place", 4)]) rfl S_is_read.nd (xi_seq (xe_var 2)) (blkOk_by (own := [("place", 4)]) (N := N_is_read) (sc := defScope s_is_read) (by decide +kernel)) (fun _ _ _ _ _ => (xg_name 4 S_is_read.nd)) (fun _ _ _ _ _ => xts_nil) (fun _ _ _ _ _ => (xe_chn opx_le opx_lt (xe_var 1) (xe_var 4) (xe_idx hr.units (xe_var 0) xe_int (fun _ _ => rfl)))) (by decide)) xa_nil))))) xss_nil))))
theorem ok_is_view (T : Txt K w mg) (C : Calls2 P w K mg base names cf k) (F : FunD K "is_view" "is_view" (defArgs s_is_view) (defBody s_is_view) (defScope s_is_view) [] [] f fd) (hcf : ∀ xs M, cf' 5 xs M = runD cf ir_is_view xs M) :
    FnOk P w K mg base CX0 (k + 1) f fd ["thing"] (spEv K cf' 5 1) := by
  refine def_ok (d := ir_is_view) F S_is_view rfl rfl hcf fun cdv A outer s H E hr => ?_
  exact (xss_cons (xs_if (xt_not (xt_val (xe_isi1 (t := .tuple) rfl T.b_isinstance (xe_var 0) (pe_tyN (t := .tuple) rfl T.b_tuple (by decide +kernel))))) (xss_cons (xs_ret xe_bl) xss_nil) xss_nil) (xss_cons (xs_asg (xe_tup (xa_cons xe_int (xa_cons (xe_neg xe_int) xa_nil))) (xg_tup rfl (xgs_cons (xg_name 1 S_is_view.nd) (xgs_cons (xg_name 2 S_is_view.nd) xgs_nil)))) (xss_cons (xs_for PassesOwn.never rfl (xi_seq (xe_var 0)) (xg_name 3 S_is_view.nd) (xss_cons (xs_if (xt_w (xw_or (xt_not (xt_val (xe_call (C.own hr (n := 4) rfl) rfl (xa_cons (xe_var 3) (xa_cons (xe_var 1) xa_nil))))) (xw_or1 rfl (xt_cmp opx_le (xe_idx hr.units (xe_var 3) xe_int (fun _ _ => rfl)) (xe_var 2) (nomark _))))) (xss_cons (xs_ret xe_bl) xss_nil) xss_nil) (xss_cons (xs_asg (xe_slc (xe_var 3) xo0 (xo1 xe_int)) (xg_tup rfl (xgs_cons (xg_name 2 S_is_view.nd) (xgs_cons (xg_name 1 S_is_view.nd) xgs_nil)))) xss_nil))) (xss_cons (xs_ret xe_bl) xss_nil))))
theorem ok_l_box (T : Txt K w mg) (C : Calls2 P w K mg base names cf k) (F : FunD K "_law_box" "_law_box" (defArgs s_l_box) (defBody s_l_box) (defScope s_l_box) [] [] f fd) (hcf : ∀ xs M, cf' 6 xs M = runD cf ir_l_box xs M) :
    FnOk P w K mg base CX0 (k + 1) f fd ["_law_script", "_law_k"] (spEv K cf' 6 2) := by
  refine def_ok (d := ir_l_box) F S_l_box rfl rfl hcf fun cdv A outer s H E hr => ?_
  exact (xss_cons (xs_asg (xe_if (xt_cmp opx_lt (xe_var 1) (xe_blt cl_len (by rfl) T.b_len (by decide +kernel) (xa_cons (xe_var 0) xa_nil)) (nomark _)) (xe_idx hr.units (xe_var 0) (xe_var 1) (fun _ _ => rfl)) xe_int) (xg_name 2 S_l_box.nd)) (xss_cons (xs_asg (xe_bop opx_mod (xe_bty cl_int (by rfl) T.b_int (by decide +kernel) (xa_cons (xe_bop opx_mul (xe_bop opx_add (xe_bop opx_add (xe_bop opx_mod (xe_bty cl_int (by rfl) T.b_int (by decide +kernel) (xa_cons (xe_var 2) xa_nil)) xe_int) (xe_bop opx_mul xe_int (xe_var 1))) xe_int) xe_int) xa_nil)) xe_int) (xg_name 3 S_l_box.nd)) (xss_cons (xs_ret (xe_lst (xa_cons (xe_bop opx_mul (xe_blt cl_abs (by rfl) T.b_abs (by decide +kernel) (xa_cons (xe_var 2) xa_nil)) (xe_bty cl_int (by rfl) T.b_int (by decide +kernel) (xa_cons (xe_cmp opx_ge (xe_blt cl_abs (by rfl) T.b_abs (by decide +kernel) (xa_cons (xe_var 2) xa_nil)) (xe_bop opx_pow xe_int xe_int) (nomark _)) xa_nil))) (xa_cons (xe_var 3) (xa_cons xe_int xa_nil))))) xss_nil)))
theorem ok_l_take (T : Txt K w mg) (C : Calls2 P w K mg base names cf k) (F : FunD K "_law_take" "_law_take" (defArgs s_l_take) (defBody s_l_take) (defScope s_l_take) [] [] f fd) (hcf : ∀ xs M, cf' 7 xs M = runD cf ir_l_take xs M) :
    FnOk P w K mg base CX0 (k + 1) f fd ["_law_box_here", "_law_span"] (spEv K cf' 7 2) := by
  refine def_ok (d := ir_l_take) F S_l_take rfl rfl hcf fun cdv A outer s H E hr => ?_
  exact (xss_cons (xs_if (xt_cmp opx_gt (xe_idx hr.units (xe_var 0) xe_int (fun _ _ => rfl)) xe_int (nomark _)) (xss_cons (xs_asg (xe_bop opx_mod (xe_bty cl_int (by rfl) T.b_int (by decide +kernel) (xa_cons (xe_idx hr.units (xe_var 0) xe_int (fun _ _ => rfl)) xa_nil)) (xe_var 1)) (xg_name 2 S_l_take.nd)) (xss_cons (xs_sto hr.units (xe_bop opx_fdiv (xe_idx hr.units (xe_var 0) xe_int (fun _ _ => rfl)) (xe_var 1)) (xe_var 0) xe_int) (xss_cons (xs_ret (xe_var 2)) xss_nil))) xss_nil) (xss_cons (xs_sto hr.units (xe_bop opx_add (xe_idx hr.units (xe_var 0) xe_int (fun _ _ => rfl)) xe_int) (xe_var 0) xe_int) (xss_cons (xs_asg (xe_bop opx_mod (xe_bty cl_int (by rfl) T.b_int (by decide +kernel) (xa_cons (xe_bop opx_pow (xe_bop opx_add (xe_idx hr.units (xe_var 0) xe_int (fun _ _ => rfl)) (xe_bop opx_mul xe_int (xe_idx hr.units (xe_var 0) xe_int (fun _ _ => rfl)))) xe_int) xa_nil)) xe_int) (xg_name 3 S_l_take.nd)) (xss_cons (xs_asg (xe_bop opx_add (xe_bop opx_mod (xe_bty cl_int (by rfl) T.b_int (by decide +kernel) (xa_cons (xe_var 3) xa_nil)) xe_int) xe_int) (xg_name 4 S_l_take.nd)) (xss_cons (xs_ret (xe_bop opx_mod (xe_bty cl_int (by rfl) T.b_int (by decide +kernel) (xa_cons (xe_bop opx_fdiv (xe_bop opx_mod (xe_bty cl_int (by rfl) T.b_int (by decide +kernel) (xa_cons (xe_bop opx_add (xe_bop opx_mul (xe_var 3) (xe_var 4)) (xe_bop opx_mul (xe_idx hr.units (xe_var 0) xe_int (fun _ _ => rfl)) xe_int)) xa_nil)) xe_int) xe_int) xa_nil)) (xe_var 1))) xss_nil)))))
theorem ok_l_of (T : Txt K w mg) (C : Calls2 P w K mg base names cf k) (F : FunD K "_law_of" "_law_of" (defArgs s_l_of) (defBody s_l_of) (defScope s_l_of) [] [] f fd) (hcf : ∀ xs M, cf' 8 xs M = runD cf ir_l_of xs M) :
    FnOk P w K mg base CX0 (k + 1) f fd ["_law_box_here", "_law_some_here"] (spEv K cf' 8 2) := by
  refine def_ok (d := ir_l_of) F S_l_of rfl rfl hcf fun cdv A outer s H E hr => ?_
  exact (xss_cons (xs_ret (xe_idx hr.units (xe_var 1) (xe_call (C.own hr (n := 7) rfl) rfl (xa_cons (xe_var 0) (xa_cons (xe_blt cl_len (by rfl) T.b_len (by decide +kernel) (xa_cons (xe_var 1) xa_nil)) xa_nil))) (fun _ _ => rfl))) xss_nil)
theorem ok_l_same (T : Txt K w mg) (C : Calls2 P w K mg base names cf k) (F : FunD K "_law_same" "_law_same" (defArgs s_l_same) (defBody s_l_same) (defScope s_l_same) [] [] f fd) (hcf : ∀ xs M, cf' 9 xs M = runD cf ir_l_same xs M) :
    FnOk P w K mg base CX0 (k + 1) f fd ["_law_found", "_law_due"] (spEv K cf' 9 2) := by
  refine def_ok (d := ir_l_same) F S_l_same rfl rfl hcf fun cdv A outer s H E hr => ?_
  exact (xss_cons (xs_if (xt_val (xe_isiT (ts := [.list, .tuple]) rfl T.b_isinstance (xe_var 1) (pa_cons (pe_tyN (t := .list) rfl T.b_list (by decide +kernel)) (pa_cons (pe_tyN (t := .tuple) rfl T.b_tuple (by decide +kernel)) pa_nil)) (by decide) (fun _ _ _ h => h))) (xss_cons (xs_if (xt_cmp (opx_ne hr.units) (xe_isi1 (t := .list) rfl T.b_isinstance (xe_var 0) (pe_tyN (t := .list) rfl T.b_list (by decide +kernel))) (xe_isi1 (t := .list) rfl T.b_isinstance (xe_var 1) (pe_tyN (t := .list) rfl T.b_list (by decide +kernel))) (nomark _)) (xss_cons (xs_ret xe_bl) xss_nil) xss_nil) (xss_cons (xs_if (xt_cmp (opx_ne hr.units) (xe_isi1 (t := .tuple) rfl T.b_isinstance (xe_var 0) (pe_tyN (t := .tuple) rfl T.b_tuple (by decide +kernel))) (xe_isi1 (t := .tuple) rfl T.b_isinstance (xe_var 1) (pe_tyN (t := .tuple) rfl T.b_tuple (by decide +kernel))) (nomark _)) (xss_cons (xs_ret xe_bl) xss_nil) xss_nil) (xss_cons (xs_ret (xe_and (xe_cmp (opx_eq hr.units) (xe_blt cl_len (by rfl) T.b_len (by decide +kernel) (xa_cons (xe_var 0) xa_nil)) (xe_blt cl_len (by rfl) T.b_len (by decide +kernel) (xa_cons (xe_var 1) xa_nil)) (nomark _)) (xe_one (xe_blt (cl_all_ rfl) (by rfl) T.b_all (by decide +kernel) (xa_cons (xe_lc (own := [("_law_mine", 2), ("_law_its", 3)]) rfl S_l_same.nd (xi_zip rfl T.b_zip (xe_var 0) (xe_var 1)) (blkOk_by (own := [("_law_mine", 2), ("_law_its", 3)]) (N := N_l_same) (sc := defScope s_l_same) (by decide +kernel)) (fun _ _ _ _ _ => (xg_tup rfl (xgs_cons (xg_name 2 S_l_same.nd) (xgs_cons (xg_name 3 S_l_same.nd) xgs_nil)))) (fun _ _ _ _ _ => xts_nil) (fun _ _ _ _ _ => (xe_call (C.own hr (n := 9) rfl) rfl (xa_cons (xe_var 2) (xa_cons (xe_var 3) xa_nil)))) (by decide)) xa_nil))))) xss_nil))) xss_nil) (xss_cons (xs_if (xt_w (xw_or (xt_cmp opx_isN (xe_var 1) xe_non (nomark _)) (xw_or1 rfl (xt_val (xe_isiT (ts := [.bool, .str]) rfl T.b_isinstance (xe_var 1) (pa_cons (pe_tyN (t := .bool) rfl T.b_bool (by decide +kernel)) (pa_cons (pe_tyN (t := .str) rfl T.b_str (by decide +kernel)) pa_nil)) (by decide) (fun _ _ _ h => h)))))) (xss_cons (xs_ret (xe_and (xe_cmp (opx_eq hr.units) (xe_var 0) (xe_var 1) (nomark _)) (xe_and (xe_cmp (opx_eq hr.units) (xe_isi1 (t := .bool) rfl T.b_isinstance (xe_var 0) (pe_tyN (t := .bool) rfl T.b_bool (by decide +kernel))) (xe_isi1 (t := .bool) rfl T.b_isinstance (xe_var 1) (pe_tyN (t := .bool) rfl T.b_bool (by decide +kernel))) (nomark _)) (xe_one (xe_cmp (opx_eq hr.units) (xe_cmp opx_isN (xe_var 0) xe_non (nomark _)) (xe_cmp opx_isN (xe_var 1) xe_non (nomark _)) (nomark _)))))) xss_nil) xss_nil) (xss_cons (xs_ret (xe_and (xe_isi1 (t := .int) rfl T.b_isinstance (xe_var 0) (pe_tyN (t := .int) rfl T.b_int (by decide +kernel))) (xe_and (xe_not (xe_isi1 (t := .bool) rfl T.b_isinstance (xe_var 0) (pe_tyN (t := .bool) rfl T.b_bool (by decide +kernel)))) (xe_one (xe_cmp (opx_eq hr.units) (xe_var 0) (xe_var 1) (nomark _)))))) xss_nil)))
theorem ok_l_bare (T : Txt K w mg) (C : Calls2 P w K mg base names cf k) (F : FunD K "_law_bare" "_law_bare" (defArgs s_l_bare) (defBody s_l_bare) (defScope s_l_bare) [] [] f fd) (hcf : ∀ xs M, cf' 10 xs M = runD cf ir_l_bare xs M) :
    FnOk P w K mg base CX0 (k + 1) f fd [] (spEv K cf' 10 0) := by
  refine def_ok (d := ir_l_bare) F S_l_bare rfl rfl hcf fun cdv A outer s H E hr => ?_
  exact (xss_cons (xs_ret (xe_dct (xp_str (xe_lst xa_nil) (xp_str xe_dnew (xp_str xe_dnew (xp_str xe_dnew (xp_str xe_dnew (xp_str (xe_lst xa_nil) (xp_str (xe_lst xa_nil) xp_nil))))))) rfl rfl (fun z => by cases z) (by decide))) xss_nil)
theorem ok_l_leave (T : Txt K w mg) (C : Calls2 P w K mg base names cf k) (F : FunD K "_law_leave" "_law_leave" (defArgs s_l_leave) (defBody s_l_leave) (defScope s_l_leave) [] [] f fd) (hcf : ∀ xs M, cf' 11 xs M = runD cf ir_l_leave xs M) :
    FnOk P w K mg base CX0 (k + 1) f fd ["_law_w", "_law_keep", "_law_spot"] (spEv K cf' 11 3) := by
  refine def_ok (d := ir_l_leave) F S_l_leave rfl rfl hcf fun cdv A outer s H E hr => ?_
  exact (xss_cons (xs_for PassesOwn.never rfl (xi_enum rfl T.b_enumerate (xe_idx hr.units (xe_var 0) xe_str (fun _ _ => rfl))) (xg_nst rfl (xg_name 3 S_l_leave.nd) (xgs_cons (xg_name 4 S_l_leave.nd) (xgs_cons (xg_name 5 S_l_leave.nd) xgs_nil))) (xss_cons (xs_if (xt_w (xw_and (xt_cmp opx_isN (xe_var 5) xe_non (nomark _)) (xw_and (xt_cmp (opx_in hr.units) (xe_var 3) (xe_idx hr.units (xe_var 0) xe_str (fun _ _ => rfl)) rfl) (xw_and1 rfl (xt_cmp opx_le (xe_bop opx_add (xe_idx hr.units (xe_idx hr.units (xe_var 0) xe_str (fun _ _ => rfl)) (xe_var 3) (fun _ _ => rfl)) (xe_var 1)) (xe_var 2) (nomark _)))))) (xss_cons (xs_sto hr.units xe_bl (xe_idx hr.units (xe_var 0) xe_str (fun _ _ => rfl)) (xe_var 3)) xss_nil) xss_nil) xss_nil)) xss_nil)
theorem ok_l_swept (T : Txt K w mg) (C : Calls2 P w K mg base names cf k) (F : FunD K "_law_swept" "_law_swept" (defArgs s_l_swept) (defBody s_l_swept) (defScope s_l_swept) [] [] f fd) (hcf : ∀ xs M, cf' 12 xs M = runD cf ir_l_swept xs M) :
    FnOk P w K mg base CX0 (k + 1) f fd ["_law_w", "_law_keep", "_law_spot", "_law_end"] (spEv K cf' 12 4) := by
  refine def_ok (d := ir_l_swept) F S_l_swept rfl rfl hcf fun cdv A outer s H E hr => ?_
  exact (xss_cons (xs_setLc (own := [("_law_key_so", 6), ("_law_worth", 7)]) (n := 4) rfl S_l_swept.nd rfl rfl (sw_true rfl rfl rfl (by decide +kernel)) (xi_seq (xe_slc (xe_idx hr.units (xe_var 0) xe_str (fun _ _ => rfl)) xo0 (xo1 (xe_var 3)))) (blkOk_by (own := [("_law_key_so", 6), ("_law_worth", 7)]) (N := N_l_swept) (sc := defScope s_l_swept) (by decide +kernel)) (fun _ _ _ _ _ => (xg_tup rfl (xgs_cons (xg_name 6 S_l_swept.nd) (xgs_cons (xg_name 7 S_l_swept.nd) xgs_nil)))) (fun _ _ _ _ _ => xts_nil) (fun _ _ _ _ _ => (xe_var 6)) (by decide)) (xss_cons (xs_for PassesOwn.never rfl (xi_rng1 rfl T.b_range (xe_var 3)) (xg_name 5 S_l_swept.nd) (xss_cons (xs_if (xt_cmp (opx_in hr.units) (xe_idx hr.units (xe_var 4) (xe_var 5) (fun _ _ => rfl)) (xe_slc (xe_var 4) (xo1 (xe_bop opx_add (xe_var 5) xe_int)) xo0) rfl) (xss_cons (xs_sto hr.units xe_bl (xe_idx hr.units (xe_var 0) xe_str (fun _ _ => rfl)) (xe_var 5)) xss_nil) xss_nil) (xss_cons (xs_exp (xe_setd (xe_idx hr.units (xe_var 0) xe_str (fun _ _ => rfl)) (xe_var 5) (xe_var 2) ⟨rfl, rfl, rfl, rfl⟩)) xss_nil))) (xss_cons (xs_exp (xe_call (C.own hr (n := 11) rfl) rfl (xa_cons (xe_var 0) (xa_cons (xe_var 1) (xa_cons (xe_var 2) xa_nil))))) xss_nil)))
theorem ok_l_heard (T : Txt K w mg) (C : Calls2 P w K mg base names cf k) (F : FunD K "_law_heard" "_law_heard" (defArgs s_l_heard) (defBody s_l_heard) (defScope s_l_heard) [] [] f fd) (hcf : ∀ xs M, cf' 13 xs M = runD cf ir_l_heard xs M) :
    FnOk P w K mg base CX0 (k + 1) f fd ["_law_w", "_law_p", "_law_upto_so"] (spEv K cf' 13 3) := by
  refine def_ok (d := ir_l_heard) F S_l_heard rfl rfl hcf fun cdv A outer s H E hr => ?_
  exact (xss_cons (xs_asg (xe_lst xa_nil) (xg_name 3 S_l_heard.nd)) (xss_cons (xs_for PassesOwn.never rfl (xi_rng2 rfl T.b_range (xe_idx hr.units (xe_idx hr.units (xe_var 0) xe_str (fun _ _ => rfl)) (xe_var 1) (fun _ _ => rfl)) (xe_var 2)) (xg_name 4 S_l_heard.nd) (xss_cons (xs_if (xt_cmp (opx_notin hr.units) (xe_var 4) (xe_idx hr.units (xe_var 0) xe_str (fun _ _ => rfl)) rfl) (xss_cons (xs_exp (xe_append (xe_var 3) (xe_bop opx_add (xe_tup (xa_cons (xe_var 4) xa_nil)) (xe_idx hr.units (xe_idx hr.units (xe_var 0) xe_str (fun _ _ => rfl)) (xe_var 4) (fun _ _ => rfl))))) (xss_cons (xs_exp (xe_dpop2 (xe_idx hr.units (xe_idx hr.units (xe_var 0) xe_str (fun _ _ => rfl)) (xe_var 1) (fun _ _ => rfl)) (xe_idx hr.units (xe_idx hr.units (xe_idx hr.units (xe_var 0) xe_str (fun _ _ => rfl)) (xe_var 4) (fun _ _ => rfl)) xe_int (fun _ _ => rfl)) xe_non ⟨rfl, rfl, rfl, rfl⟩)) (xss_cons (xs_if (xt_cmp opx_isNN (xe_idx hr.units (xe_idx hr.units (xe_idx hr.units (xe_var 0) xe_str (fun _ _ => rfl)) (xe_var 4) (fun _ _ => rfl)) xe_int (fun _ _ => rfl)) xe_non (nomark _)) (xss_cons (xs_sto hr.units (xe_idx hr.units (xe_idx hr.units (xe_idx hr.units (xe_var 0) xe_str (fun _ _ => rfl)) (xe_var 4) (fun _ _ => rfl)) xe_int (fun _ _ => rfl)) (xe_idx hr.units (xe_idx hr.units (xe_var 0) xe_str (fun _ _ => rfl)) (xe_var 1) (fun _ _ => rfl)) (xe_idx hr.units (xe_idx hr.units (xe_idx hr.units (xe_var 0) xe_str (fun _ _ => rfl)) (xe_var 4) (fun _ _ => rfl)) xe_int (fun _ _ => rfl))) xss_nil) xss_nil) xss_nil))) xss_nil) xss_nil)) (xss_cons (xs_sto hr.units (xe_var 2) (xe_idx hr.units (xe_var 0) xe_str (fun _ _ => rfl)) (xe_var 1)) (xss_cons (xs_ret (xe_var 3)) xss_nil))))
theorem ok_l_did (T : Txt K w mg) (C : Calls2 P w K mg base names cf k) (F : FunD K "_law_did" "_law_did" (defArgs s_l_did) (defBody s_l_did) (defScope s_l_did) [] [] f fd) (hcf : ∀ xs M, cf' 14 xs M = runD cf ir_l_did xs M) :
    FnOk P w K mg base CX0 (k + 1) f fd ["_law_w", "_law_event_so"] (spEv K cf' 14 2) := by
  refine def_ok (d := ir_l_did) F S_l_did rfl rfl hcf fun cdv A outer s H E hr => ?_
  exact (xss_cons (xs_asg (xe_idx hr.units (xe_var 1) xe_int (fun _ _ => rfl)) (xg_name 2 S_l_did.nd)) (xss_cons (xs_if (xt_cmp (opx_in hr.units) (xe_var 2) (xe_tup (xa_cons xe_str (xa_cons xe_str xa_nil))) rfl) (xss_cons (xs_exp (xe_append (xe_idx hr.units (xe_var 0) xe_str (fun _ _ => rfl)) (xe_tup (xa_cons (xe_idx hr.units (xe_var 1) xe_int (fun _ _ => rfl)) (xa_cons (xe_if (xt_cmp (opx_eq hr.units) (xe_var 2) xe_str (nomark _)) (xe_idx hr.units (xe_var 1) xe_int (fun _ _ => rfl)) xe_non) xa_nil))))) (xss_cons (xs_ret (xe_bop opx_sub (xe_blt cl_len (by rfl) T.b_len (by decide +kernel) (xa_cons (xe_idx hr.units (xe_var 0) xe_str (fun _ _ => rfl)) xa_nil)) xe_int)) xss_nil)) xss_nil) (xss_cons (xs_if (xt_cmp (opx_eq hr.units) (xe_var 2) xe_str (nomark _)) (xss_cons (xs_ret (xe_call (C.own hr (n := 13) rfl) rfl (xa_cons (xe_var 0) (xa_cons (xe_idx hr.units (xe_var 1) xe_int (fun _ _ => rfl)) (xa_cons (xe_idx hr.units (xe_var 1) xe_int (fun _ _ => rfl)) xa_nil))))) xss_nil) xss_nil) (xss_cons (xs_if (xt_cmp (opx_eq hr.units) (xe_var 2) xe_str (nomark _)) (xss_cons (xs_exp (xe_append (xe_idx hr.units (xe_var 0) xe_str (fun _ _ => rfl)) (xe_tup (xa_cons (xe_idx hr.units (xe_idx hr.units (xe_var 0) xe_str (fun _ _ => rfl)) (xe_idx hr.units (xe_var 1) xe_int (fun _ _ => rfl)) (fun _ _ => rfl)) (xa_cons (xe_bty cl_dict (by rfl) T.b_dict (by decide +kernel) (xa_cons (xe_idx hr.units (xe_idx hr.units (xe_var 0) xe_str (fun _ _ => rfl)) (xe_idx hr.units (xe_var 1) xe_int (fun _ _ => rfl)) (fun _ _ => rfl)) xa_nil)) xa_nil))))) (xss_cons (xs_ret (xe_bop opx_sub (xe_blt cl_len (by rfl) T.b_len (by decide +kernel) (xa_cons (xe_idx hr.units (xe_var 0) xe_str (fun _ _ => rfl)) xa_nil)) xe_int)) xss_nil)) xss_nil) (xss_cons (xs_if (xt_cmp (opx_in hr.units) (xe_var 2) (xe_tup (xa_cons xe_str (xa_cons xe_str xa_nil))) rfl) (xss_cons (xs_asg (xe_if (xt_cmp (opx_eq hr.units) (xe_var 2) xe_str (nomark _)) (xe_tup (xa_cons xe_int (xa_cons xe_dnew xa_nil))) (xe_idx hr.units (xe_idx hr.units (xe_var 0) xe_str (fun _ _ => rfl)) (xe_idx hr.units (xe_var 1) xe_int (fun _ _ => rfl)) (fun _ _ => rfl))) (xg_name 3 S_l_did.nd)) (xss_cons (xs_sto2 rfl hr.units (xe_tup (xa_cons (xe_idx hr.units (xe_var 3) xe_int (fun _ _ => rfl)) (xa_cons (xe_bty cl_dict (by rfl) T.b_dict (by decide +kernel) (xa_cons (xe_idx hr.units (xe_var 3) xe_int (fun _ _ => rfl)) xa_nil)) xa_nil))) (xe_idx hr.units (xe_var 0) xe_str (fun _ _ => rfl)) (xe_idx hr.units (xe_var 1) xe_int (fun _ _ => rfl)) (xe_idx hr.units (xe_var 0) xe_str (fun _ _ => rfl)) (xe_idx hr.units (xe_var 1) xe_int (fun _ _ => rfl))) xss_nil)) xss_nil) (xss_cons (xs_ret xe_non) xss_nil))))))
theorem ok_l_run (T : Txt K w mg) (C : Calls2 P w K mg base names cf k) (F : FunD K "_law_run" "_law_run" (defArgs s_l_run) (defBody s_l_run) (defScope s_l_run) [] [] f fd) (hcf : ∀ xs M, cf' 15 xs M = runD cf ir_l_run xs M) :
    FnOk P w K mg base CX0 (k + 1) f fd ["_law_table_here", "_law_keep", "_law_broom"] (spEv K cf' 15 3) := by
  refine def_ok (d := ir_l_run) F S_l_run rfl rfl hcf fun cdv A outer s H E hr => ?_
  exact (xss_cons (xs_asg (xe_call0 (C.own hr (n := 10) rfl) rfl) (xg_name 3 S_l_run.nd)) (xss_cons (xs_for PassesOwn.never rfl (xi_rng1 rfl T.b_range (xe_bop opx_add (xe_blt cl_len (by rfl) T.b_len (by decide +kernel) (xa_cons (xe_var 0) xa_nil)) xe_int)) (xg_name 4 S_l_run.nd) (xss_cons (xs_exp (xe_call (C.own hr (n := 11) rfl) rfl (xa_cons (xe_var 3) (xa_cons (xe_var 1) (xa_cons (xe_var 4) xa_nil))))) (xss_cons (xs_for PassesOwn.never rfl (xi_seq (xe_var 2)) (xg_tup rfl (xgs_cons (xg_name 5 S_l_run.nd) (xgs_cons (xg_name 6 S_l_run.nd) xgs_nil))) (xss_cons (xs_if (xt_cmp (opx_eq hr.units) (xe_var 5) (xe_var 4) (nomark _)) (xss_cons (xs_exp (xe_call (C.own hr (n := 12) rfl) rfl (xa_cons (xe_var 3) (xa_cons (xe_var 1) (xa_cons (xe_var 4) (xa_cons (xe_var 6) xa_nil)))))) xss_nil) xss_nil) xss_nil)) (xss_cons (xs_if (xt_cmp opx_lt (xe_var 4) (xe_blt cl_len (by rfl) T.b_len (by decide +kernel) (xa_cons (xe_var 0) xa_nil)) (nomark _)) (xss_cons (xs_exp (xe_append (xe_idx hr.units (xe_var 3) xe_str (fun _ _ => rfl)) (xe_call (C.own hr (n := 14) rfl) rfl (xa_cons (xe_var 3) (xa_cons (xe_idx hr.units (xe_var 0) (xe_var 4) (fun _ _ => rfl)) xa_nil))))) xss_nil) xss_nil) xss_nil)))) (xss_cons (xs_ret (xe_var 3)) xss_nil)))
theorem ok_l_event (T : Txt K w mg) (C : Calls2 P w K mg base names cf k) (F : FunD K "_law_event" "_law_event" (defArgs s_l_event) (defBody s_l_event) (defScope s_l_event) [] [] f fd) (hcf : ∀ xs M, cf' 16 xs M = runD cf ir_l_event xs M) :
    FnOk P w K mg base CX0 (k + 1) f fd ["_law_box_here", "_law_w", "_law_folk", "_law_names", "_law_words"] (spEv K cf' 16 5) := by
  refine def_ok (d := ir_l_event) F S_l_event rfl rfl hcf fun cdv A outer s H E hr => ?_
  exact (xss_cons (xs_par3 (m := 5) (n := 6) (l := 7) rfl S_l_event.nd rfl rfl rfl (by decide) (by decide) (by decide) rfl rfl rfl (xa_cons (xe_idx hr.units (xe_var 4) (xe_call (C.own hr (n := 7) rfl) rfl (xa_cons (xe_var 0) (xa_cons (xe_blt cl_len (by rfl) T.b_len (by decide +kernel) (xa_cons (xe_var 4) xa_nil)) xa_nil))) (fun _ _ => rfl)) (xa_cons (xe_call (C.own hr (n := 7) rfl) rfl (xa_cons (xe_var 0) (xa_cons (xe_var 2) xa_nil))) (xa_cons (xe_call (C.own hr (n := 8) rfl) rfl (xa_cons (xe_var 0) (xa_cons (xe_var 3) xa_nil))) xa_nil))) (by rfl)) (xss_cons (xs_if (xt_cmp (opx_eq hr.units) (xe_var 5) xe_str (nomark _)) (xss_cons (xs_ret (xe_tup (xa_cons xe_str (xa_cons (xe_var 7) (xa_cons (xe_bop opx_sub (xe_call (C.own hr (n := 7) rfl) rfl (xa_cons (xe_var 0) (xa_cons xe_int xa_nil))) xe_int) xa_nil))))) xss_nil) xss_nil) (xss_cons (xs_if (xt_cmp (opx_in hr.units) (xe_var 5) (xe_tup (xa_cons xe_str (xa_cons xe_str xa_nil))) rfl) (xss_cons (xs_ret (xe_if (xt_cmp (opx_eq hr.units) (xe_var 5) xe_str (nomark _)) (xe_tup (xa_cons xe_str (xa_cons (xe_var 7) xa_nil))) (xe_tup (xa_cons xe_str xa_nil)))) xss_nil) xss_nil) (xss_cons (xs_if (xt_cmp (opx_eq hr.units) (xe_var 5) xe_str (nomark _)) (xss_cons (xs_ret (xe_tup (xa_cons xe_str (xa_cons (xe_var 6) xa_nil)))) xss_nil) xss_nil) (xss_cons (xs_if (xt_cmp (opx_eq hr.units) (xe_var 5) xe_str (nomark _)) (xss_cons (xs_ret (xe_if (xt_cmp (opx_ne hr.units) (xe_idx hr.units (xe_var 1) xe_str (fun _ _ => rfl)) (xe_lst xa_nil) (nomark _)) (xe_tup (xa_cons xe_str (xa_cons (xe_var 6) (xa_cons (xe_call (C.own hr (n := 7) rfl) rfl (xa_cons (xe_var 0) (xa_cons (xe_blt cl_len (by rfl) T.b_len (by decide +kernel) (xa_cons (xe_idx hr.units (xe_var 1) xe_str (fun _ _ => rfl)) xa_nil)) xa_nil))) xa_nil)))) xe_non)) xss_nil) xss_nil) (xss_cons (xs_if (xt_cmp (opx_notin hr.units) (xe_var 6) (xe_idx hr.units (xe_var 1) xe_str (fun _ _ => rfl)) rfl) (xss_cons (xs_ret (xe_tup (xa_cons xe_str (xa_cons (xe_var 6) xa_nil)))) xss_nil) xss_nil) (xss_cons (xs_if (xt_cmp (opx_eq hr.units) (xe_var 5) xe_str (nomark _)) (xss_cons (xs_ret (xe_tup (xa_cons xe_str (xa_cons (xe_var 6) xa_nil)))) xss_nil) xss_nil) (xss_cons (xs_asg (xe_bop opx_sub (xe_idx hr.units (xe_var 1) xe_str (fun _ _ => rfl)) (xe_idx hr.units (xe_idx hr.units (xe_var 1) xe_str (fun _ _ => rfl)) (xe_var 6) (fun _ _ => rfl))) (xg_name 8 S_l_event.nd)) (xss_cons (xs_ret (xe_if (xt_cmp opx_gt (xe_var 8) xe_int (nomark _)) (xe_tup (xa_cons xe_str (xa_cons (xe_var 6) (xa_cons (xe_bop opx_add (xe_bop opx_add (xe_idx hr.units (xe_idx hr.units (xe_var 1) xe_str (fun _ _ => rfl)) (xe_var 6) (fun _ _ => rfl)) xe_int) (xe_call (C.own hr (n := 7) rfl) rfl (xa_cons (xe_var 0) (xa_cons (xe_var 8) xa_nil)))) xa_nil)))) xe_non)) xss_nil)))))))))
theorem ok_l_moved (T : Txt K w mg) (C : Calls2 P w K mg base names cf k) (F : FunD K "_law_moved" "_law_moved" (defArgs s_l_moved) (defBody s_l_moved) (defScope s_l_moved) [] [] f fd) (hcf : ∀ xs M, cf' 17 xs M = runD cf ir_l_moved xs M) :
    FnOk P w K mg base CX0 (k + 1) f fd ["_law_w", "_law_event_so"] (spEv K cf' 17 2) := by
  refine def_ok (d := ir_l_moved) F S_l_moved rfl rfl hcf fun cdv A outer s H E hr => ?_
  exact (xss_cons (xs_asg (xe_idx hr.units (xe_var 1) xe_int (fun _ _ => rfl)) (xg_name 2 S_l_moved.nd)) (xss_cons (xs_if (xt_cmp (opx_in hr.units) (xe_var 2) (xe_tup (xa_cons xe_str (xa_cons xe_str xa_nil))) rfl) (xss_cons (xs_sto hr.units (xe_bop opx_add (xe_idx hr.units (xe_var 0) xe_str (fun _ _ => rfl)) xe_int) (xe_var 0) xe_str) xss_nil) (xss_cons (xs_if (xt_cmp (opx_eq hr.units) (xe_var 2) xe_str (nomark _)) (xss_cons (xs_sto hr.units xe_int (xe_idx hr.units (xe_var 0) xe_str (fun _ _ => rfl)) (xe_idx hr.units (xe_var 1) xe_int (fun _ _ => rfl))) xss_nil) (xss_cons (xs_if (xt_cmp (opx_eq hr.units) (xe_var 2) xe_str (nomark _)) (xss_cons (xs_sto hr.units (xe_idx hr.units (xe_var 1) xe_int (fun _ _ => rfl)) (xe_idx hr.units (xe_var 0) xe_str (fun _ _ => rfl)) (xe_idx hr.units (xe_var 1) xe_int (fun _ _ => rfl))) xss_nil) (xss_cons (xs_if (xt_cmp (opx_eq hr.units) (xe_var 2) xe_str (nomark _)) (xss_cons (xs_exp (xe_append (xe_idx hr.units (xe_var 0) xe_str (fun _ _ => rfl)) (xe_idx hr.units (xe_idx hr.units (xe_var 0) xe_str (fun _ _ => rfl)) (xe_idx hr.units (xe_var 1) xe_int (fun _ _ => rfl)) (fun _ _ => rfl)))) xss_nil) (xss_cons (xs_if (xt_cmp (opx_eq hr.units) (xe_var 2) xe_str (nomark _)) (xss_cons (xs_sto hr.units (xe_idx hr.units (xe_idx hr.units (xe_var 0) xe_str (fun _ _ => rfl)) (xe_idx hr.units (xe_var 1) xe_int (fun _ _ => rfl)) (fun _ _ => rfl)) (xe_idx hr.units (xe_var 0) xe_str (fun _ _ => rfl)) (xe_idx hr.units (xe_var 1) xe_int (fun _ _ => rfl))) xss_nil) xss_nil) xss_nil)) xss_nil)) xss_nil)) xss_nil)) xss_nil))
theorem ok_l_table (T : Txt K w mg) (C : Calls2 P w K mg base names cf k) (F : FunD K "_law_table" "_law_table" (defArgs s_l_table) (defBody s_l_table) (defScope s_l_table) [] [] f fd) (hcf : ∀ xs M, cf' 18 xs M = runD cf ir_l_table xs M) :
    FnOk P w K mg base CX0 (k + 1) f fd ["_law_box_here", "_law_many_here", "_law_most", "_law_folk", "_law_names", "_law_words"] (spEv K cf' 18 6) := by
  refine def_ok (d := ir_l_table) F S_l_table rfl rfl hcf fun cdv A outer s H E hr => ?_
  exact (xss_cons (xs_par2 (m := 6) (n := 7) rfl S_l_table.nd rfl rfl (by decide) rfl rfl (xa_cons (xe_lst xa_nil) (xa_cons (xe_dct (xp_str xe_dnew (xp_str (xe_lst xa_nil) (xp_str xe_int xp_nil))) rfl rfl (fun z => by cases z) (by decide)) xa_nil)) (by rfl)) (xss_cons (xs_for PassesOwn.never rfl (xi_rng1 rfl T.b_range (xe_var 1)) (xg_name 8 S_l_table.nd) (xss_cons (xs_asg (xe_call (C.own hr (n := 16) rfl) rfl (xa_cons (xe_var 0) (xa_cons (xe_var 7) (xa_cons (xe_var 3) (xa_cons (xe_var 4) (xa_cons (xe_var 5) xa_nil)))))) (xg_name 9 S_l_table.nd)) (xss_cons (xs_asg (xe_and (xe_cmp opx_isNN (xe_var 9) xe_non (nomark _)) (xe_and (xe_cmp (opx_in hr.units) (xe_idx hr.units (xe_var 9) xe_int (fun _ _ => rfl)) (xe_tup (xa_cons xe_str (xa_cons xe_str xa_nil))) rfl) (xe_one (xe_cmp opx_ge (xe_idx hr.units (xe_var 7) xe_str (fun _ _ => rfl)) (xe_var 2) (nomark _))))) (xg_name 10 S_l_table.nd)) (xss_cons (xs_if (xt_w (xw_and (xt_cmp opx_isNN (xe_var 9) xe_non (nomark _)) (xw_and (xt_not (xt_val (xe_var 10))) (xw_and1 rfl (xt_w (xw_or (xt_cmp (opx_ne hr.units) (xe_idx hr.units (xe_var 9) xe_int (fun _ _ => rfl)) xe_str (nomark _)) (xw_or1 rfl (xt_cmp opx_lt (xe_blt cl_len (by rfl) T.b_len (by decide +kernel) (xa_cons (xe_idx hr.units (xe_var 7) xe_str (fun _ _ => rfl)) xa_nil)) xe_int (nomark _))))))))) (xss_cons (xs_exp (xe_call (C.own hr (n := 17) rfl) rfl (xa_cons (xe_var 7) (xa_cons (xe_var 9) xa_nil)))) (xss_cons (xs_exp (xe_append (xe_var 6) (xe_var 9))) xss_nil)) xss_nil) xss_nil)))) (xss_cons (xs_ret (xe_bty cl_tuple (by rfl) T.b_tuple (by decide +kernel) (xa_cons (xe_var 6) xa_nil))) xss_nil)))
theorem ok_l_many (T : Txt K w mg) (C : Calls2 P w K mg base names cf k) (F : FunD K "_law_many" "_law_many" (defArgs s_l_many) (defBody s_l_many) (defScope s_l_many) [] [] f fd) (hcf : ∀ xs M, cf' 19 xs M = runD cf ir_l_many xs M) :
    FnOk P w K mg base CX0 (k + 1) f fd ["_law_table_here", "_law_spot"] (spEv K cf' 19 2) := by
  refine def_ok (d := ir_l_many) F S_l_many rfl rfl hcf fun cdv A outer s H E hr => ?_
  exact (xss_cons (xs_ret (xe_blt cl_len (by rfl) T.b_len (by decide +kernel) (xa_cons (xe_lc (own := [("_law_event_so", 2)]) rfl S_l_many.nd (xi_seq (xe_slc (xe_var 0) xo0 (xo1 (xe_var 1)))) (blkOk_by (own := [("_law_event_so", 2)]) (N := N_l_many) (sc := defScope s_l_many) (by decide +kernel)) (fun _ _ _ _ _ => (xg_name 2 S_l_many.nd)) (fun _ _ _ _ _ => xts_one (xt_cmp (opx_in hr.units) (xe_idx hr.units (xe_var 2) xe_int (fun _ _ => rfl)) (xe_tup (xa_cons xe_str (xa_cons xe_str xa_nil))) rfl)) (fun _ _ _ _ _ => (xe_var 2)) (by decide)) xa_nil))) xss_nil)
theorem ok_l_tale (T : Txt K w mg) (C : Calls2 P w K mg base names cf k) (F : FunD K "_law_tale" "_law_tale" (defArgs s_l_tale) (defBody s_l_tale) (defScope s_l_tale) [] [] f fd) (hcf : ∀ xs M, cf' 20 xs M = runD cf ir_l_tale xs M) :
    FnOk P w K mg base CX0 (k + 1) f fd ["_law_box_here", "_law_tries", "_law_most", "_law_folk"] (spEv K cf' 20 4) := by
  refine def_ok (d := ir_l_tale) F S_l_tale rfl rfl hcf fun cdv A outer s H E hr => ?_
  exact (xss_cons (xs_ret (xe_call (C.own hr (n := 18) rfl) rfl (xa_cons (xe_var 0) (xa_cons (xe_var 1) (xa_cons (xe_var 2) (xa_cons (xe_var 3) (xa_cons (xe_lst (xa_cons xe_str (xa_cons xe_str (xa_cons xe_str xa_nil)))) (xa_cons xe_str xa_nil)))))))) xss_nil)
theorem ok_l_drawn_broom (T : Txt K w mg) (C : Calls2 P w K mg base names cf k) (F : FunD K "_law_drawn_broom" "_law_drawn_broom" (defArgs s_l_drawn_broom) (defBody s_l_drawn_broom) (defScope s_l_drawn_broom) [] [] f fd) (hcf : ∀ xs M, cf' 21 xs M = runD cf ir_l_drawn_broom xs M) :
    FnOk P w K mg base CX0 (k + 1) f fd ["_law_box_here", "_law_table_here"] (spEv K cf' 21 2) := by
  refine def_ok (d := ir_l_drawn_broom) F S_l_drawn_broom rfl rfl hcf fun cdv A outer s H E hr => ?_
  exact (xss_cons (xs_par2 (m := 2) (n := 3) rfl S_l_drawn_broom.nd rfl rfl (by decide) rfl rfl (xa_cons (xe_lst xa_nil) (xa_cons xe_int xa_nil)) (by rfl)) (xss_cons (xs_for PassesOwn.never rfl (xi_rng1 rfl T.b_range (xe_bop opx_add (xe_blt cl_len (by rfl) T.b_len (by decide +kernel) (xa_cons (xe_var 1) xa_nil)) xe_int)) (xg_name 4 S_l_drawn_broom.nd) (xss_cons (xs_asg (xe_call (C.own hr (n := 19) rfl) rfl (xa_cons (xe_var 1) (xa_cons (xe_var 4) xa_nil))) (xg_name 5 S_l_drawn_broom.nd)) (xss_cons (xs_if (xt_w (xw_and (xt_cmp opx_gt (xe_var 5) (xe_var 3) (nomark _)) (xw_and1 rfl (xt_cmp (opx_eq hr.units) (xe_call (C.own hr (n := 7) rfl) rfl (xa_cons (xe_var 0) (xa_cons xe_int xa_nil))) xe_int (nomark _))))) (xss_cons (xs_asg (xe_bop opx_add (xe_bop opx_add (xe_var 3) xe_int) (xe_call (C.own hr (n := 7) rfl) rfl (xa_cons (xe_var 0) (xa_cons (xe_bop opx_sub (xe_var 5) (xe_var 3)) xa_nil)))) (xg_name 3 S_l_drawn_broom.nd)) xss_nil) xss_nil) (xss_cons (xs_asg (xe_bop opx_add (xe_var 2) (xe_bop opx_mul (xe_lst (xa_cons (xe_tup (xa_cons (xe_var 4) (xa_cons (xe_var 3) xa_nil))) xa_nil)) (xe_bty cl_int (by rfl) T.b_int (by decide +kernel) (xa_cons (xe_cmp opx_gt (xe_call (C.own hr (n := 7) rfl) rfl (xa_cons (xe_var 0) (xa_cons xe_int xa_nil))) xe_int (nomark _)) xa_nil)))) (xg_name 2 S_l_drawn_broom.nd)) xss_nil)))) (xss_cons (xs_ret (xe_bty cl_tuple (by rfl) T.b_tuple (by decide +kernel) (xa_cons (xe_var 2) xa_nil))) xss_nil)))
theorem ok_l_view (T : Txt K w mg) (C : Calls2 P w K mg base names cf k) (F : FunD K "_law_view" "_law_view" (defArgs s_l_view) (defBody s_l_view) (defScope s_l_view) [] [] f fd) (hcf : ∀ xs M, cf' 22 xs M = runD cf ir_l_view xs M) :
    FnOk P w K mg base CX0 (k + 1) f fd ["_law_table_here", "_law_keep", "_law_broom", "_law_p"] (spEv K cf' 22 4) := by
  refine def_ok (d := ir_l_view) F S_l_view rfl rfl hcf fun cdv A outer s H E hr => ?_
  exact (xss_cons (xs_par3 (m := 4) (n := 5) (l := 6) rfl S_l_view.nd rfl rfl rfl (by decide) (by decide) (by decide) rfl rfl rfl (xa_cons (xe_idx hr.units (xe_call (C.own hr (n := 15) rfl) rfl (xa_cons (xe_var 0) (xa_cons (xe_var 1) (xa_cons (xe_var 2) xa_nil)))) xe_str (fun _ _ => rfl)) (xa_cons xe_dnew (xa_cons (xe_lst xa_nil) xa_nil))) (by rfl)) (xss_cons (xs_for PassesOwn.never rfl (xi_enum rfl T.b_enumerate (xe_var 0)) (xg_tup rfl (xgs_cons (xg_name 7 S_l_view.nd) (xgs_cons (xg_name 8 S_l_view.nd) xgs_nil))) (xss_cons (xs_asg (xe_idx hr.units (xe_var 8) xe_int (fun _ _ => rfl)) (xg_name 9 S_l_view.nd)) (xss_cons (xs_if (xt_cmp (opx_eq hr.units) (xe_var 9) xe_str (nomark _)) (xss_cons (xs_sto hr.units (xe_tup xa_nil) (xe_var 5) (xe_idx hr.units (xe_var 8) xe_int (fun _ _ => rfl))) xss_nil) (xss_cons (xs_if (xt_cmp (opx_eq hr.units) (xe_var 9) xe_str (nomark _)) (xss_cons (xs_sto hr.units (xe_bop opx_add (xe_idx hr.units (xe_var 5) (xe_idx hr.units (xe_var 8) xe_int (fun _ _ => rfl)) (fun _ _ => rfl)) (xe_tup (xa_cons (xe_tup (xa_cons (xe_var 7) (xa_cons (xe_idx hr.units (xe_var 8) xe_int (fun _ _ => rfl)) (xa_cons (xe_bty cl_tuple (by rfl) T.b_tuple (by decide +kernel) (xa_cons (xe_idx hr.units (xe_var 4) (xe_var 7) (fun _ _ => rfl)) xa_nil)) xa_nil)))) xa_nil))) (xe_var 5) (xe_idx hr.units (xe_var 8) xe_int (fun _ _ => rfl))) xss_nil) (xss_cons (xs_if (xt_cmp (opx_eq hr.units) (xe_var 9) xe_str (nomark _)) (xss_cons (xs_exp (xe_append (xe_var 6) (xe_idx hr.units (xe_var 5) (xe_idx hr.units (xe_var 8) xe_int (fun _ _ => rfl)) (fun _ _ => rfl)))) xss_nil) (xss_cons (xs_if (xt_cmp (opx_eq hr.units) (xe_var 9) xe_str (nomark _)) (xss_cons (xs_sto hr.units (xe_idx hr.units (xe_var 6) (xe_idx hr.units (xe_var 8) xe_int (fun _ _ => rfl)) (fun _ _ => rfl)) (xe_var 5) (xe_idx hr.units (xe_var 8) xe_int (fun _ _ => rfl))) xss_nil) xss_nil) xss_nil)) xss_nil)) xss_nil)) xss_nil))) (xss_cons (xs_ret (xe_get1 hr.units (xe_var 5) (xe_var 3) ⟨rfl, rfl, rfl, rfl⟩)) xss_nil)))
theorem ok_l_some (T : Txt K w mg) (C : Calls2 P w K mg base names cf k) (F : FunD K "_law_some" "_law_some" (defArgs s_l_some) (defBody s_l_some) (defScope s_l_some) [] [] f fd) (hcf : ∀ xs M, cf' 23 xs M = runD cf ir_l_some xs M) :
    FnOk P w K mg base CX0 (k + 1) f fd ["_law_box_here", "_law_folk"] (spEv K cf' 23 2) := by
  refine def_ok (d := ir_l_some) F S_l_some rfl rfl hcf fun cdv A outer s H E hr => ?_
  exact (xss_cons (xs_asg (xe_call (C.own hr (n := 20) rfl) rfl (xa_cons (xe_var 0) (xa_cons (xe_bop opx_add xe_int (xe_call (C.own hr (n := 7) rfl) rfl (xa_cons (xe_var 0) (xa_cons xe_int xa_nil)))) (xa_cons xe_int (xa_cons (xe_var 1) xa_nil))))) (xg_name 2 S_l_some.nd)) (xss_cons (xs_par2 (m := 3) (n := 4) rfl S_l_some.nd rfl rfl (by decide) rfl rfl (xa_cons (xe_call (C.own hr (n := 21) rfl) rfl (xa_cons (xe_var 0) (xa_cons (xe_var 2) xa_nil))) (xa_cons (xe_call (C.own hr (n := 8) rfl) rfl (xa_cons (xe_var 0) (xa_cons (xe_lst (xa_cons xe_int (xa_cons xe_int (xa_cons xe_int (xa_cons xe_int (xa_cons xe_int (xa_cons xe_int xa_nil))))))) xa_nil))) xa_nil)) (by rfl)) (xss_cons (xs_asg (xe_ssort rfl rfl T.b_sorted rfl T.b_set (xe_lc (own := [("_law_event_so", 7)]) rfl S_l_some.nd (xi_seq (xe_var 2)) (blkOk_by (own := [("_law_event_so", 7)]) (N := N_l_some) (sc := defScope s_l_some) (by decide +kernel)) (fun _ _ _ _ _ => (xg_name 7 S_l_some.nd)) (fun _ _ _ _ _ => xts_one (xt_cmp (opx_in hr.units) (xe_idx hr.units (xe_var 7) xe_int (fun _ _ => rfl)) (xe_tup (xa_cons xe_str (xa_cons xe_str xa_nil))) rfl)) (fun _ _ _ _ _ => (xe_idx hr.units (xe_var 7) xe_int (fun _ _ => rfl))) (by decide))) (xg_name 5 S_l_some.nd)) (xss_cons (xs_asg (xe_if (xt_cmp (opx_ne hr.units) (xe_var 5) (xe_lst xa_nil) (nomark _)) (xe_call (C.own hr (n := 8) rfl) rfl (xa_cons (xe_var 0) (xa_cons (xe_var 5) xa_nil))) xe_non) (xg_name 6 S_l_some.nd)) (xss_cons (xs_ret (xe_tup (xa_cons (xe_var 2) (xa_cons (xe_var 3) (xa_cons (xe_var 4) (xa_cons (xe_var 6) (xa_cons (xe_if (xt_cmp opx_isNN (xe_var 6) xe_non (nomark _)) (xe_call (C.own hr (n := 22) rfl) rfl (xa_cons (xe_var 2) (xa_cons (xe_var 4) (xa_cons (xe_var 3) (xa_cons (xe_var 6) xa_nil))))) (xe_tup xa_nil)) xa_nil))))))) xss_nil)))))
theorem ok_l_bent_reads (T : Txt K w mg) (C : Calls2 P w K mg base names cf k) (F : FunD K "_law_bent_reads" "_law_bent_reads" (defArgs s_l_bent_reads) (defBody s_l_bent_reads) (defScope s_l_bent_reads) [] [] f fd) (hcf : ∀ xs M, cf' 24 xs M = runD cf ir_l_bent_reads xs M) :
    FnOk P w K mg base CX0 (k + 1) f fd ["_law_when", "_law_end", "_law_got"] (spEv K cf' 24 3) := by
  refine def_ok (d := ir_l_bent_reads) F S_l_bent_reads rfl rfl hcf fun cdv A outer s H E hr => ?_
  exact (xss_cons (xs_asg (xe_lst (xa_cons (xe_tup (xa_cons (xe_var 0) (xa_cons xe_int (xa_cons (xe_var 2) xa_nil)))) (xa_cons (xe_tup (xa_cons (xe_neg xe_int) (xa_cons (xe_var 1) (xa_cons (xe_var 2) xa_nil)))) (xa_cons (xe_tup (xa_cons xe_bl (xa_cons (xe_var 1) (xa_cons (xe_var 2) xa_nil)))) (xa_cons (xe_tup (xa_cons (xe_var 0) (xa_cons (xe_var 1) xa_nil))) (xa_cons (xe_tup (xa_cons (xe_var 0) (xa_cons (xe_var 1) (xa_cons (xe_var 2) (xa_cons xe_int xa_nil))))) (xa_cons (xe_lst (xa_cons (xe_var 0) (xa_cons (xe_var 1) (xa_cons (xe_var 2) xa_nil)))) xa_nil))))))) (xg_name 3 S_l_bent_reads.nd)) (xss_cons (xs_asg (xe_lst (xa_cons (xe_bty cl_list (by rfl) T.b_list (by decide +kernel) (xa_cons (xe_var 2) xa_nil)) (xa_cons (xe_bop opx_add (xe_var 2) (xe_tup (xa_cons (xe_tup (xa_cons (xe_var 1) (xa_cons xe_str (xa_cons xe_int xa_nil)))) xa_nil))) (xa_cons (xe_bop opx_add (xe_tup (xa_cons (xe_tup (xa_cons (xe_neg xe_int) (xa_cons xe_str (xa_cons xe_int xa_nil)))) xa_nil)) (xe_var 2)) (xa_cons (xe_tup (xa_cons (xe_tup (xa_cons xe_int (xa_cons xe_str (xa_cons xe_int xa_nil)))) xa_nil)) (xa_cons (xe_tup (xa_cons (xe_tup (xa_cons xe_int (xa_cons xe_str (xa_cons xe_int xa_nil)))) xa_nil)) (xa_cons xe_non (xa_cons (xe_tup (xa_cons xe_non xa_nil)) xa_nil)))))))) (xg_name 4 S_l_bent_reads.nd)) (xss_cons (xs_asg (xe_bop opx_add (xe_var 4) (xe_lst (xa_cons (xe_tup (xa_cons (xe_tup (xa_cons xe_int (xa_cons xe_str (xa_cons xe_non xa_nil)))) xa_nil)) (xa_cons (xe_tup (xa_cons (xe_tup (xa_cons xe_int (xa_cons xe_str (xa_cons xe_bl xa_nil)))) xa_nil)) (xa_cons (xe_tup (xa_cons (xe_tup (xa_cons xe_int (xa_cons xe_str xa_nil))) xa_nil)) (xa_cons (xe_tup (xa_cons (xe_tup (xa_cons xe_int (xa_cons xe_int (xa_cons xe_int xa_nil)))) xa_nil)) (xa_cons (xe_tup (xa_cons (xe_tup (xa_cons xe_bl (xa_cons xe_str (xa_cons xe_int xa_nil)))) xa_nil)) xa_nil))))))) (xg_name 4 S_l_bent_reads.nd)) (xss_cons (xs_asg (xe_bop opx_add (xe_var 4) (xe_lst (xa_cons (xe_tup (xa_cons (xe_tup (xa_cons xe_int (xa_cons xe_str (xa_cons xe_int xa_nil)))) (xa_cons (xe_tup (xa_cons xe_int (xa_cons xe_str (xa_cons xe_int xa_nil)))) xa_nil))) (xa_cons (xe_tup (xa_cons (xe_tup (xa_cons xe_int (xa_cons xe_str (xa_cons xe_int xa_nil)))) xa_nil)) (xa_cons (xe_tup (xa_cons (xe_tup (xa_cons xe_int (xa_cons xe_str (xa_cons xe_non xa_nil)))) xa_nil)) xa_nil))))) (xg_name 4 S_l_bent_reads.nd)) (xss_cons (xs_asg (xe_bop opx_add (xe_var 4) (xe_lst (xa_cons (xe_tup (xa_cons (xe_tup (xa_cons xe_int (xa_cons xe_str (xa_cons xe_str xa_nil)))) xa_nil)) (xa_cons (xe_tup (xa_cons (xe_tup (xa_cons xe_int (xa_cons xe_str (xa_cons (xe_tup (xa_cons xe_int xa_nil)) xa_nil)))) xa_nil)) (xa_cons (xe_tup (xa_cons (xe_tup (xa_cons xe_non (xa_cons xe_str (xa_cons xe_int xa_nil)))) xa_nil)) (xa_cons (xe_tup (xa_cons (xe_tup (xa_cons xe_str (xa_cons xe_str (xa_cons xe_int xa_nil)))) xa_nil)) (xa_cons (xe_tup (xa_cons (xe_tup (xa_cons xe_int (xa_cons xe_non (xa_cons xe_int xa_nil)))) xa_nil)) xa_nil))))))) (xg_name 4 S_l_bent_reads.nd)) (xss_cons (xs_asg (xe_bop opx_add (xe_var 4) (xe_lst (xa_cons (xe_tup (xa_cons (xe_tup (xa_cons xe_int (xa_cons (xe_lst (xa_cons xe_str xa_nil)) (xa_cons xe_int xa_nil)))) xa_nil)) (xa_cons (xe_tup (xa_cons (xe_tup (xa_cons (xe_lst (xa_cons xe_int xa_nil)) (xa_cons xe_str (xa_cons xe_int xa_nil)))) xa_nil)) (xa_cons (xe_tup (xa_cons (xe_tup (xa_cons xe_int (xa_cons xe_str (xa_cons (xe_lst (xa_cons xe_int xa_nil)) xa_nil)))) xa_nil)) (xa_cons (xe_tup (xa_cons (xe_tup (xa_cons (xe_tup (xa_cons xe_int xa_nil)) (xa_cons xe_str (xa_cons xe_int xa_nil)))) xa_nil)) xa_nil)))))) (xg_name 4 S_l_bent_reads.nd)) (xss_cons (xs_asg (xe_bop opx_add (xe_var 3) (xe_lc (own := [("_law_rows", 5)]) rfl S_l_bent_reads.nd (xi_seq (xe_var 4)) (blkOk_by (own := [("_law_rows", 5)]) (N := N_l_bent_reads) (sc := defScope s_l_bent_reads) (by decide +kernel)) (fun _ _ _ _ _ => (xg_name 5 S_l_bent_reads.nd)) (fun _ _ _ _ _ => xts_nil) (fun _ _ _ _ _ => (xe_tup (xa_cons (xe_var 0) (xa_cons (xe_var 1) (xa_cons (xe_var 5) xa_nil))))) (by decide))) (xg_name 3 S_l_bent_reads.nd)) (xss_cons (xs_ret (xe_bop opx_add (xe_var 3) (xe_lst (xa_cons (xe_tup (xa_cons (xe_bty cl_str (by rfl) T.b_str (by decide +kernel) (xa_cons (xe_var 0) xa_nil)) (xa_cons (xe_var 1) (xa_cons (xe_var 2) xa_nil)))) (xa_cons (xe_tup (xa_cons (xe_var 0) (xa_cons xe_non (xa_cons (xe_var 2) xa_nil)))) (xa_cons xe_non (xa_cons (xe_tup xa_nil) (xa_cons xe_int xa_nil)))))))) xss_nil))))))))
theorem ok_l_right (T : Txt K w mg) (C : Calls2 P w K mg base names cf k) (F : FunD K "_law_right" "_law_right" (defArgs s_l_right) (defBody s_l_right) (defScope s_l_right) [] [] f fd) (hcf : ∀ xs M, cf' 25 xs M = runD cf ir_l_right xs M) :
    FnOk P w K mg base CX0 (k + 1) f fd ["_law_box_here"] (spEv K cf' 25 1) := by
  refine def_ok (d := ir_l_right) F S_l_right rfl rfl hcf fun cdv A outer s H E hr => ?_
  exact (xss_cons (xs_asg (xe_call (C.own hr (n := 23) rfl) rfl (xa_cons (xe_var 0) (xa_cons xe_int xa_nil))) (xg_tup rfl (xgs_cons (xg_name 1 S_l_right.nd) (xgs_cons (xg_name 2 S_l_right.nd) (xgs_cons (xg_name 3 S_l_right.nd) (xgs_cons (xg_name 4 S_l_right.nd) (xgs_cons (xg_name 5 S_l_right.nd) xgs_nil))))))) (xss_cons (xs_if (xt_w (xw_or (xt_not (xt_val (xe_call (C.own hr (n := 9) rfl) rfl (xa_cons (xe_call (C.own hr (n := 5) rfl) rfl (xa_cons (xe_var 5) xa_nil)) (xa_cons xe_bl xa_nil))))) (xw_or1 rfl (xt_not (xt_val (xe_call (C.own hr (n := 9) rfl) rfl (xa_cons (xe_callK0 (C.own hr (n := 5) rfl) rfl (xk_cons (xe_var 5) xk_nil)) (xa_cons xe_bl xa_nil)))))))) (xss_cons (xs_ret xe_bl) xss_nil) xss_nil) (xss_cons (xs_asg (xe_lst (xa_cons (xe_bty cl_list (by rfl) T.b_list (by decide +kernel) (xa_cons (xe_var 5) xa_nil)) (xa_cons xe_non (xa_cons xe_bl (xa_cons xe_int (xa_cons xe_str (xa_cons xe_str (xa_cons (xe_tup (xa_cons xe_non xa_nil)) (xa_cons (xe_tup (xa_cons (xe_tup xa_nil) xa_nil)) (xa_cons (xe_tup (xa_cons (xe_lst xa_nil) xa_nil)) (xa_cons (xe_tup (xa_cons xe_int xa_nil)) (xa_cons (xe_bop opx_add (xe_var 5) (xe_tup (xa_cons (xe_var 5) xa_nil))) (xa_cons (xe_tup (xa_cons (xe_tup (xa_cons xe_int (xa_cons xe_int (xa_cons (xe_tup xa_nil) xa_nil)))) (xa_cons xe_int xa_nil))) xa_nil))))))))))))) (xg_name 6 S_l_right.nd)) (xss_cons (xs_if (xt_cmp (opx_ne hr.units) (xe_var 5) (xe_tup xa_nil) (nomark _)) (xss_cons (xs_par2 (m := 7) (n := 8) rfl S_l_right.nd rfl rfl (by decide) rfl rfl (xa_cons (xe_idx hr.units (xe_var 5) xe_int (fun _ _ => rfl)) (xa_cons (xe_idx hr.units (xe_var 5) (xe_neg xe_int) (fun _ _ => rfl)) xa_nil)) (by rfl)) (xss_cons (xs_asg (xe_bop opx_add (xe_var 6) (xe_lst (xa_cons (xe_bop opx_add (xe_var 5) (xe_tup (xa_cons (xe_var 8) xa_nil))) (xa_cons (xe_bop opx_add (xe_tup (xa_cons (xe_var 7) xa_nil)) (xe_var 5)) (xa_cons (xe_bop opx_add (xe_var 5) (xe_tup (xa_cons (xe_tup (xa_cons (xe_idx hr.units (xe_var 8) xe_int (fun _ _ => rfl)) (xa_cons (xe_bop opx_add (xe_idx hr.units (xe_var 8) xe_int (fun _ _ => rfl)) xe_int) (xa_cons (xe_tup xa_nil) xa_nil)))) xa_nil))) xa_nil))))) (xg_name 6 S_l_right.nd)) (xss_cons (xs_exp (xe_append (xe_var 6) (xe_bop opx_add (xe_var 5) (xe_tup (xa_cons (xe_tup (xa_cons (xe_bop opx_add (xe_idx hr.units (xe_var 8) xe_int (fun _ _ => rfl)) xe_int) (xa_cons (xe_idx hr.units (xe_var 8) xe_int (fun _ _ => rfl)) (xa_cons (xe_tup xa_nil) xa_nil)))) xa_nil))))) (xss_cons (xs_asg (xe_bop opx_add (xe_var 6) (xe_lc (own := [("_law_part", 10)]) rfl S_l_right.nd (xi_seq (xe_call (C.own hr (n := 24) rfl) rfl (xa_cons (xe_idx hr.units (xe_var 7) xe_int (fun _ _ => rfl)) (xa_cons (xe_idx hr.units (xe_var 7) xe_int (fun _ _ => rfl)) (xa_cons (xe_idx hr.units (xe_var 7) xe_int (fun _ _ => rfl)) xa_nil))))) (blkOk_by (own := [("_law_part", 10)]) (N := N_l_right) (sc := defScope s_l_right) (by decide +kernel)) (fun _ _ _ _ _ => (xg_name 10 S_l_right.nd)) (fun _ _ _ _ _ => xts_nil) (fun _ _ _ _ _ => (xe_bop opx_add (xe_tup (xa_cons (xe_var 10) xa_nil)) (xe_slc (xe_var 5) (xo1 xe_int) xo0))) (by decide))) (xg_name 6 S_l_right.nd)) (xss_cons (xs_exp (xe_append (xe_var 6) (xe_bop opx_add (xe_tup (xa_cons (xe_tup (xa_cons (xe_bop opx_add (xe_idx hr.units (xe_var 8) xe_int (fun _ _ => rfl)) xe_int) (xa_cons (xe_bop opx_add (xe_idx hr.units (xe_var 8) xe_int (fun _ _ => rfl)) xe_int) (xa_cons (xe_tup xa_nil) xa_nil)))) xa_nil)) (xe_var 5)))) xss_nil))))) xss_nil) (xss_cons (xs_asg (xe_bop opx_add (xe_var 6) (xe_lst (xa_cons (xe_tup (xa_cons (xe_tup (xa_cons xe_int (xa_cons xe_int (xa_cons (xe_tup xa_nil) xa_nil)))) (xa_cons (xe_tup (xa_cons xe_int (xa_cons xe_int (xa_cons (xe_tup (xa_cons (xe_tup (xa_cons xe_int (xa_cons xe_str (xa_cons xe_int xa_nil)))) xa_nil)) xa_nil)))) xa_nil))) (xa_cons (xe_tup (xa_cons (xe_tup (xa_cons xe_int (xa_cons xe_int (xa_cons (xe_tup (xa_cons (xe_tup (xa_cons xe_int (xa_cons xe_str (xa_cons xe_int xa_nil)))) (xa_cons (xe_tup (xa_cons xe_int (xa_cons xe_str (xa_cons xe_int xa_nil)))) xa_nil))) xa_nil)))) xa_nil)) xa_nil)))) (xg_name 6 S_l_right.nd)) (xss_cons (xs_exp (xe_append (xe_var 6) (xe_tup (xa_cons (xe_tup (xa_cons xe_int (xa_cons xe_int (xa_cons (xe_tup (xa_cons (xe_tup (xa_cons xe_int (xa_cons xe_str (xa_cons xe_int xa_nil)))) (xa_cons (xe_tup (xa_cons xe_int (xa_cons xe_str (xa_cons xe_int xa_nil)))) (xa_cons (xe_tup (xa_cons xe_int (xa_cons xe_str (xa_cons xe_non xa_nil)))) xa_nil)))) xa_nil)))) xa_nil)))) (xss_cons (xs_if (xt_not (xt_val (xe_blt (cl_all_ rfl) (by rfl) T.b_all (by decide +kernel) (xa_cons (xe_lc (own := [("_law_matter", 11)]) rfl S_l_right.nd (xi_seq (xe_var 6)) (blkOk_by (own := [("_law_matter", 11)]) (N := N_l_right) (sc := defScope s_l_right) (by decide +kernel)) (fun _ _ _ _ _ => (xg_name 11 S_l_right.nd)) (fun _ _ _ _ _ => xts_nil) (fun _ _ _ _ _ => (xe_call (C.own hr (n := 9) rfl) rfl (xa_cons (xe_call (C.own hr (n := 5) rfl) rfl (xa_cons (xe_var 11) xa_nil)) (xa_cons xe_bl xa_nil)))) (by decide)) xa_nil)))) (xss_cons (xs_ret xe_bl) xss_nil) xss_nil) (xss_cons (xs_asg (xe_lst (xa_cons (xe_tup (xa_cons (xe_tup (xa_cons xe_int (xa_cons xe_int (xa_cons (xe_tup xa_nil) xa_nil)))) (xa_cons (xe_tup (xa_cons xe_int (xa_cons xe_int (xa_cons (xe_tup (xa_cons (xe_tup (xa_cons xe_int (xa_cons xe_str (xa_cons xe_int xa_nil)))) xa_nil)) xa_nil)))) xa_nil))) xa_nil)) (xg_name 9 S_l_right.nd)) (xss_cons (xs_asg (xe_bop opx_add (xe_var 9) (xe_lst (xa_cons (xe_tup (xa_cons (xe_tup (xa_cons xe_int (xa_cons xe_int (xa_cons (xe_tup (xa_cons (xe_tup (xa_cons xe_int (xa_cons xe_str (xa_cons xe_non xa_nil)))) xa_nil)) xa_nil)))) (xa_cons (xe_tup (xa_cons xe_int (xa_cons xe_int (xa_cons (xe_tup xa_nil) xa_nil)))) xa_nil))) (xa_cons (xe_tup (xa_cons (xe_tup (xa_cons xe_int (xa_cons xe_int (xa_cons (xe_tup (xa_cons (xe_tup (xa_cons xe_int (xa_cons xe_str (xa_cons (xe_neg xe_int) xa_nil)))) (xa_cons (xe_tup (xa_cons xe_int (xa_cons xe_str (xa_cons xe_non xa_nil)))) xa_nil))) xa_nil)))) xa_nil)) (xa_cons (xe_tup xa_nil) xa_nil))))) (xg_name 9 S_l_right.nd)) (xss_cons (xs_ret (xe_blt (cl_all_ rfl) (by rfl) T.b_all (by decide +kernel) (xa_cons (xe_lc (own := [("_law_matter", 11)]) rfl S_l_right.nd (xi_seq (xe_var 9)) (blkOk_by (own := [("_law_matter", 11)]) (N := N_l_right) (sc := defScope s_l_right) (by decide +kernel)) (fun _ _ _ _ _ => (xg_name 11 S_l_right.nd)) (fun _ _ _ _ _ => xts_nil) (fun _ _ _ _ _ => (xe_call (C.own hr (n := 9) rfl) rfl (xa_cons (xe_call (C.own hr (n := 5) rfl) rfl (xa_cons (xe_var 11) xa_nil)) (xa_cons xe_bl xa_nil)))) (by decide)) xa_nil))) xss_nil))))))))))
theorem ok_law (T : Txt K w mg) (C : Calls2 P w K mg base names cf k) (F : FunD K "law" "law" (defArgs s_law) (defBody s_law) (defScope s_law) [] [] f fd) (hcf : ∀ xs M, cf' 26 xs M = runD cf ir_law xs M) :
    FnOk P w K mg base CX0 (k + 1) f fd ["_law_script"] (spEv K cf' 26 1) := by
  refine def_ok (d := ir_law) F S_law rfl rfl hcf fun cdv A outer s H E hr => ?_
  exact (xss_cons (xs_for PassesOwn.never rfl (xi_rng1 rfl T.b_range (xe_bop opx_add xe_int (xe_blt (cl_min2 rfl) rfl T.b_min (by decide +kernel) (xa_cons xe_int (xa_cons (xe_blt cl_len (by rfl) T.b_len (by decide +kernel) (xa_cons (xe_var 0) xa_nil)) xa_nil))))) (xg_name 1 S_law.nd) (xss_cons (xs_asg (xe_call (C.own hr (n := 6) rfl) rfl (xa_cons (xe_var 0) (xa_cons (xe_var 1) xa_nil))) (xg_name 2 S_law.nd)) (xss_cons (xs_if (xt_not (xt_val (xe_blt (cl_all_ rfl) (by rfl) T.b_all (by decide +kernel) (xa_cons (xe_lc (own := [("_law_lap", 3)]) rfl S_law.nd (xi_rng1 rfl T.b_range xe_int) (blkOk_by (own := [("_law_lap", 3)]) (N := N_law) (sc := defScope s_law) (by decide +kernel)) (fun _ _ _ _ _ => (xg_name 3 S_law.nd)) (fun _ _ _ _ _ => xts_nil) (fun _ _ _ _ _ => (xe_call (C.own hr (n := 25) rfl) rfl (xa_cons (xe_var 2) xa_nil))) (by decide)) xa_nil)))) (xss_cons (xs_ret xe_bl) xss_nil) xss_nil) xss_nil))) (xss_cons (xs_ret xe_bl) xss_nil))
end
def d_is_number : He.DefD := ⟨("is_number", none), "is_number", "is_number", defArgs s_is_number, defBody s_is_number, defScope s_is_number, [], []⟩
def d_is_count : He.DefD := ⟨("is_count", none), "is_count", "is_count", defArgs s_is_count, defBody s_is_count, defScope s_is_count, [], []⟩
def d_is_key : He.DefD := ⟨("is_key", none), "is_key", "is_key", defArgs s_is_key, defBody s_is_key, defScope s_is_key, [], []⟩
def d_is_row : He.DefD := ⟨("is_row", none), "is_row", "is_row", defArgs s_is_row, defBody s_is_row, defScope s_is_row, [], []⟩
def d_is_read : He.DefD := ⟨("is_read", none), "is_read", "is_read", defArgs s_is_read, defBody s_is_read, defScope s_is_read, [], []⟩
def d_is_view : He.DefD := ⟨("is_view", none), "is_view", "is_view", defArgs s_is_view, defBody s_is_view, defScope s_is_view, [], []⟩
def d_l_box : He.DefD := ⟨("_law_box", none), "_law_box", "_law_box", defArgs s_l_box, defBody s_l_box, defScope s_l_box, [], []⟩
def d_l_take : He.DefD := ⟨("_law_take", none), "_law_take", "_law_take", defArgs s_l_take, defBody s_l_take, defScope s_l_take, [], []⟩
def d_l_of : He.DefD := ⟨("_law_of", none), "_law_of", "_law_of", defArgs s_l_of, defBody s_l_of, defScope s_l_of, [], []⟩
def d_l_same : He.DefD := ⟨("_law_same", none), "_law_same", "_law_same", defArgs s_l_same, defBody s_l_same, defScope s_l_same, [], []⟩
def d_l_bare : He.DefD := ⟨("_law_bare", none), "_law_bare", "_law_bare", defArgs s_l_bare, defBody s_l_bare, defScope s_l_bare, [], []⟩
def d_l_leave : He.DefD := ⟨("_law_leave", none), "_law_leave", "_law_leave", defArgs s_l_leave, defBody s_l_leave, defScope s_l_leave, [], []⟩
def d_l_swept : He.DefD := ⟨("_law_swept", none), "_law_swept", "_law_swept", defArgs s_l_swept, defBody s_l_swept, defScope s_l_swept, [], []⟩
def d_l_heard : He.DefD := ⟨("_law_heard", none), "_law_heard", "_law_heard", defArgs s_l_heard, defBody s_l_heard, defScope s_l_heard, [], []⟩
def d_l_did : He.DefD := ⟨("_law_did", none), "_law_did", "_law_did", defArgs s_l_did, defBody s_l_did, defScope s_l_did, [], []⟩
def d_l_run : He.DefD := ⟨("_law_run", none), "_law_run", "_law_run", defArgs s_l_run, defBody s_l_run, defScope s_l_run, [], []⟩
def d_l_event : He.DefD := ⟨("_law_event", none), "_law_event", "_law_event", defArgs s_l_event, defBody s_l_event, defScope s_l_event, [], []⟩
def d_l_moved : He.DefD := ⟨("_law_moved", none), "_law_moved", "_law_moved", defArgs s_l_moved, defBody s_l_moved, defScope s_l_moved, [], []⟩
def d_l_table : He.DefD := ⟨("_law_table", none), "_law_table", "_law_table", defArgs s_l_table, defBody s_l_table, defScope s_l_table, [], []⟩
def d_l_many : He.DefD := ⟨("_law_many", none), "_law_many", "_law_many", defArgs s_l_many, defBody s_l_many, defScope s_l_many, [], []⟩
def d_l_tale : He.DefD := ⟨("_law_tale", none), "_law_tale", "_law_tale", defArgs s_l_tale, defBody s_l_tale, defScope s_l_tale, [], []⟩
def d_l_drawn_broom : He.DefD := ⟨("_law_drawn_broom", none), "_law_drawn_broom", "_law_drawn_broom", defArgs s_l_drawn_broom, defBody s_l_drawn_broom, defScope s_l_drawn_broom, [], []⟩
def d_l_view : He.DefD := ⟨("_law_view", none), "_law_view", "_law_view", defArgs s_l_view, defBody s_l_view, defScope s_l_view, [], []⟩
def d_l_some : He.DefD := ⟨("_law_some", none), "_law_some", "_law_some", defArgs s_l_some, defBody s_l_some, defScope s_l_some, [], []⟩
def d_l_bent_reads : He.DefD := ⟨("_law_bent_reads", none), "_law_bent_reads", "_law_bent_reads", defArgs s_l_bent_reads, defBody s_l_bent_reads, defScope s_l_bent_reads, [], []⟩
def d_l_right : He.DefD := ⟨("_law_right", none), "_law_right", "_law_right", defArgs s_l_right, defBody s_l_right, defScope s_l_right, [], []⟩
def d_law : He.DefD := ⟨("law", none), "law", "law", defArgs s_law, defBody s_law, defScope s_law, [], []⟩
def fnD : List He.DefD := [d_is_number, d_is_count, d_is_key, d_is_row, d_is_read, d_is_view, d_l_box, d_l_take, d_l_of, d_l_same, d_l_bare, d_l_leave, d_l_swept, d_l_heard, d_l_did, d_l_run, d_l_event, d_l_moved, d_l_table, d_l_many, d_l_tale, d_l_drawn_broom, d_l_view, d_l_some, d_l_bent_reads, d_l_right, d_law]
def faD : List He.Fa := [.glo "is_number", .glo "is_count", .glo "is_key", .glo "is_row", .glo "is_read", .glo "is_view", .glo "_law_box", .glo "_law_take", .glo "_law_of", .glo "_law_same", .glo "_law_bare", .glo "_law_leave", .glo "_law_swept", .glo "_law_heard", .glo "_law_did", .glo "_law_run", .glo "_law_event", .glo "_law_moved", .glo "_law_table", .glo "_law_many", .glo "_law_tale", .glo "_law_drawn_broom", .glo "_law_view", .glo "_law_some", .glo "_law_bent_reads", .glo "_law_right", .glo "law", .free "abs", .free "all", .free "bool", .free "dict", .free "enumerate", .free "int", .free "isinstance", .free "len", .free "list", .free "min", .free "range", .free "set", .free "sorted", .free "str", .free "tuple", .free "zip", .str "LETTERS" "abcdefghijklmnopqrstuvwxyz", .int "TRIPLE" 3]
def tbD : List He.Tab := []
def exD : List (PySem.W.Frag → Bool) := []
abbrev Says (w : World) (h : Heap) (K : PySem.W.Frag) : Prop := He.SaysX faD fnD tbD [] (exAll exD) w h K
theorem all_ok {P : Program} {w : World} {K : PySem.W.Frag} {mg : Str → Option Value} {base h h0 : Heap} (X : K.In h) (G : h.Ns mainGlobals mg) (c : Says w h0 K) (T : Txt K w mg) : ∀ k, Calls2 P w K mg base names (cfN tab k) k := by
  intro k
  induction k with
  | zero =>
    intro n nm hn
    match n, hn with
    | 0, hn =>
      cases hn
      obtain ⟨fd, F⟩ := c.t.d.def_ 0 (d := d_is_number) rfl
      exact ⟨⟨fd, fn_zero, He.glo_ok X G (c.t.d.fact 0 (f := .glo "is_number") rfl), F.kp, F.bindsN (ps := ["thing"]) (fun _ _ _ _ _ _ us hl => match us, hl with | [_], _ => rfl), (fun z => by cases z)⟩, (fun xs M z e => by cases e)⟩
    | 1, hn =>
      cases hn
      obtain ⟨fd, F⟩ := c.t.d.def_ 1 (d := d_is_count) rfl
      exact ⟨⟨fd, fn_zero, He.glo_ok X G (c.t.d.fact 1 (f := .glo "is_count") rfl), F.kp, F.bindsN (ps := ["thing"]) (fun _ _ _ _ _ _ us hl => match us, hl with | [_], _ => rfl), (fun z => by cases z)⟩, (fun xs M z e => by cases e)⟩
    | 2, hn =>
      cases hn
      obtain ⟨fd, F⟩ := c.t.d.def_ 2 (d := d_is_key) rfl
      exact ⟨⟨fd, fn_zero, He.glo_ok X G (c.t.d.fact 2 (f := .glo "is_key") rfl), F.kp, F.bindsN (ps := ["thing"]) (fun _ _ _ _ _ _ us hl => match us, hl with | [_], _ => rfl), (fun z => by cases z)⟩, (fun xs M z e => by cases e)⟩
    | 3, hn =>
      cases hn
      obtain ⟨fd, F⟩ := c.t.d.def_ 3 (d := d_is_row) rfl
      exact ⟨⟨fd, fn_zero, He.glo_ok X G (c.t.d.fact 3 (f := .glo "is_row") rfl), F.kp, F.bindsN (ps := ["thing"]) (fun _ _ _ _ _ _ us hl => match us, hl with | [_], _ => rfl), (fun z => by cases z)⟩, (fun xs M z e => by cases e)⟩
    | 4, hn =>
      cases hn
      obtain ⟨fd, F⟩ := c.t.d.def_ 4 (d := d_is_read) rfl
      exact ⟨⟨fd, fn_zero, He.glo_ok X G (c.t.d.fact 4 (f := .glo "is_read") rfl), F.kp, F.bindsN (ps := ["thing", "begin"]) (fun _ _ _ _ _ _ us hl => match us, hl with | [_, _], _ => rfl), (fun z => by cases z)⟩, (fun xs M z e => by cases e)⟩
    | 5, hn =>
      cases hn
      obtain ⟨fd, F⟩ := c.t.d.def_ 5 (d := d_is_view) rfl
      exact ⟨⟨fd, fn_zero, He.glo_ok X G (c.t.d.fact 5 (f := .glo "is_view") rfl), F.kp, F.bindsN (ps := ["thing"]) (fun _ _ _ _ _ _ us hl => match us, hl with | [_], _ => rfl), (fun _ => kbinds (ps := ["thing"]) F (fun z => by cases z) fun _ _ _ _ _ _ ws hl => match ws, hl with | [_], _ => rfl)⟩, (fun xs M z e => by cases e)⟩
    | 6, hn =>
      cases hn
      obtain ⟨fd, F⟩ := c.t.d.def_ 6 (d := d_l_box) rfl
      exact ⟨⟨fd, fn_zero, He.glo_ok X G (c.t.d.fact 6 (f := .glo "_law_box") rfl), F.kp, F.bindsN (ps := ["_law_script", "_law_k"]) (fun _ _ _ _ _ _ us hl => match us, hl with | [_, _], _ => rfl), (fun z => by cases z)⟩, (fun xs M z e => by cases e)⟩
    | 7, hn =>
      cases hn
      obtain ⟨fd, F⟩ := c.t.d.def_ 7 (d := d_l_take) rfl
      exact ⟨⟨fd, fn_zero, He.glo_ok X G (c.t.d.fact 7 (f := .glo "_law_take") rfl), F.kp, F.bindsN (ps := ["_law_box_here", "_law_span"]) (fun _ _ _ _ _ _ us hl => match us, hl with | [_, _], _ => rfl), (fun z => by cases z)⟩, (fun xs M z e => by cases e)⟩
    | 8, hn =>
      cases hn
      obtain ⟨fd, F⟩ := c.t.d.def_ 8 (d := d_l_of) rfl
      exact ⟨⟨fd, fn_zero, He.glo_ok X G (c.t.d.fact 8 (f := .glo "_law_of") rfl), F.kp, F.bindsN (ps := ["_law_box_here", "_law_some_here"]) (fun _ _ _ _ _ _ us hl => match us, hl with | [_, _], _ => rfl), (fun z => by cases z)⟩, (fun xs M z e => by cases e)⟩
    | 9, hn =>
      cases hn
      obtain ⟨fd, F⟩ := c.t.d.def_ 9 (d := d_l_same) rfl
      exact ⟨⟨fd, fn_zero, He.glo_ok X G (c.t.d.fact 9 (f := .glo "_law_same") rfl), F.kp, F.bindsN (ps := ["_law_found", "_law_due"]) (fun _ _ _ _ _ _ us hl => match us, hl with | [_, _], _ => rfl), (fun z => by cases z)⟩, (fun xs M z e => by cases e)⟩
    | 10, hn =>
      cases hn
      obtain ⟨fd, F⟩ := c.t.d.def_ 10 (d := d_l_bare) rfl
      exact ⟨⟨fd, fn_zero, He.glo_ok X G (c.t.d.fact 10 (f := .glo "_law_bare") rfl), F.kp, F.bindsN (ps := []) (fun _ _ _ _ _ _ us hl => match us, hl with | [], _ => rfl), (fun z => by cases z)⟩, (fun xs M z e => by cases e)⟩
    | 11, hn =>
      cases hn
      obtain ⟨fd, F⟩ := c.t.d.def_ 11 (d := d_l_leave) rfl
      exact ⟨⟨fd, fn_zero, He.glo_ok X G (c.t.d.fact 11 (f := .glo "_law_leave") rfl), F.kp, F.bindsN (ps := ["_law_w", "_law_keep", "_law_spot"]) (fun _ _ _ _ _ _ us hl => match us, hl with | [_, _, _], _ => rfl), (fun z => by cases z)⟩, (fun xs M z e => by cases e)⟩
    | 12, hn =>
      cases hn
      obtain ⟨fd, F⟩ := c.t.d.def_ 12 (d := d_l_swept) rfl
      exact ⟨⟨fd, fn_zero, He.glo_ok X G (c.t.d.fact 12 (f := .glo "_law_swept") rfl), F.kp, F.bindsN (ps := ["_law_w", "_law_keep", "_law_spot", "_law_end"]) (fun _ _ _ _ _ _ us hl => match us, hl with | [_, _, _, _], _ => rfl), (fun z => by cases z)⟩, (fun xs M z e => by cases e)⟩
    | 13, hn =>
      cases hn
      obtain ⟨fd, F⟩ := c.t.d.def_ 13 (d := d_l_heard) rfl
      exact ⟨⟨fd, fn_zero, He.glo_ok X G (c.t.d.fact 13 (f := .glo "_law_heard") rfl), F.kp, F.bindsN (ps := ["_law_w", "_law_p", "_law_upto_so"]) (fun _ _ _ _ _ _ us hl => match us, hl with | [_, _, _], _ => rfl), (fun z => by cases z)⟩, (fun xs M z e => by cases e)⟩
    | 14, hn =>
      cases hn
      obtain ⟨fd, F⟩ := c.t.d.def_ 14 (d := d_l_did) rfl
      exact ⟨⟨fd, fn_zero, He.glo_ok X G (c.t.d.fact 14 (f := .glo "_law_did") rfl), F.kp, F.bindsN (ps := ["_law_w", "_law_event_so"]) (fun _ _ _ _ _ _ us hl => match us, hl with | [_, _], _ => rfl), (fun z => by cases z)⟩, (fun xs M z e => by cases e)⟩
    | 15, hn =>
      cases hn
      obtain ⟨fd, F⟩ := c.t.d.def_ 15 (d := d_l_run) rfl
      exact ⟨⟨fd, fn_zero, He.glo_ok X G (c.t.d.fact 15 (f := .glo "_law_run") rfl), F.kp, F.bindsN (ps := ["_law_table_here", "_law_keep", "_law_broom"]) (fun _ _ _ _ _ _ us hl => match us, hl with | [_, _, _], _ => rfl), (fun z => by cases z)⟩, (fun xs M z e => by cases e)⟩
    | 16, hn =>
      cases hn
      obtain ⟨fd, F⟩ := c.t.d.def_ 16 (d := d_l_event) rfl
      exact ⟨⟨fd, fn_zero, He.glo_ok X G (c.t.d.fact 16 (f := .glo "_law_event") rfl), F.kp, F.bindsN (ps := ["_law_box_here", "_law_w", "_law_folk", "_law_names", "_law_words"]) (fun _ _ _ _ _ _ us hl => match us, hl with | [_, _, _, _, _], _ => rfl), (fun z => by cases z)⟩, (fun xs M z e => by cases e)⟩
    | 17, hn =>
      cases hn
      obtain ⟨fd, F⟩ := c.t.d.def_ 17 (d := d_l_moved) rfl
      exact ⟨⟨fd, fn_zero, He.glo_ok X G (c.t.d.fact 17 (f := .glo "_law_moved") rfl), F.kp, F.bindsN (ps := ["_law_w", "_law_event_so"]) (fun _ _ _ _ _ _ us hl => match us, hl with | [_, _], _ => rfl), (fun z => by cases z)⟩, (fun xs M z e => by cases e)⟩
    | 18, hn =>
      cases hn
      obtain ⟨fd, F⟩ := c.t.d.def_ 18 (d := d_l_table) rfl
      exact ⟨⟨fd, fn_zero, He.glo_ok X G (c.t.d.fact 18 (f := .glo "_law_table") rfl), F.kp, F.bindsN (ps := ["_law_box_here", "_law_many_here", "_law_most", "_law_folk", "_law_names", "_law_words"]) (fun _ _ _ _ _ _ us hl => match us, hl with | [_, _, _, _, _, _], _ => rfl), (fun z => by cases z)⟩, (fun xs M z e => by cases e)⟩
    | 19, hn =>
      cases hn
      obtain ⟨fd, F⟩ := c.t.d.def_ 19 (d := d_l_many) rfl
      exact ⟨⟨fd, fn_zero, He.glo_ok X G (c.t.d.fact 19 (f := .glo "_law_many") rfl), F.kp, F.bindsN (ps := ["_law_table_here", "_law_spot"]) (fun _ _ _ _ _ _ us hl => match us, hl with | [_, _], _ => rfl), (fun z => by cases z)⟩, (fun xs M z e => by cases e)⟩
    | 20, hn =>
      cases hn
      obtain ⟨fd, F⟩ := c.t.d.def_ 20 (d := d_l_tale) rfl
      exact ⟨⟨fd, fn_zero, He.glo_ok X G (c.t.d.fact 20 (f := .glo "_law_tale") rfl), F.kp, F.bindsN (ps := ["_law_box_here", "_law_tries", "_law_most", "_law_folk"]) (fun _ _ _ _ _ _ us hl => match us, hl with | [_, _, _, _], _ => rfl), (fun z => by cases z)⟩, (fun xs M z e => by cases e)⟩
    | 21, hn =>
      cases hn
      obtain ⟨fd, F⟩ := c.t.d.def_ 21 (d := d_l_drawn_broom) rfl
      exact ⟨⟨fd, fn_zero, He.glo_ok X G (c.t.d.fact 21 (f := .glo "_law_drawn_broom") rfl), F.kp, F.bindsN (ps := ["_law_box_here", "_law_table_here"]) (fun _ _ _ _ _ _ us hl => match us, hl with | [_, _], _ => rfl), (fun z => by cases z)⟩, (fun xs M z e => by cases e)⟩
    | 22, hn =>
      cases hn
      obtain ⟨fd, F⟩ := c.t.d.def_ 22 (d := d_l_view) rfl
      exact ⟨⟨fd, fn_zero, He.glo_ok X G (c.t.d.fact 22 (f := .glo "_law_view") rfl), F.kp, F.bindsN (ps := ["_law_table_here", "_law_keep", "_law_broom", "_law_p"]) (fun _ _ _ _ _ _ us hl => match us, hl with | [_, _, _, _], _ => rfl), (fun z => by cases z)⟩, (fun xs M z e => by cases e)⟩
    | 23, hn =>
      cases hn
      obtain ⟨fd, F⟩ := c.t.d.def_ 23 (d := d_l_some) rfl
      exact ⟨⟨fd, fn_zero, He.glo_ok X G (c.t.d.fact 23 (f := .glo "_law_some") rfl), F.kp, F.bindsN (ps := ["_law_box_here", "_law_folk"]) (fun _ _ _ _ _ _ us hl => match us, hl with | [_, _], _ => rfl), (fun z => by cases z)⟩, (fun xs M z e => by cases e)⟩
    | 24, hn =>
      cases hn
      obtain ⟨fd, F⟩ := c.t.d.def_ 24 (d := d_l_bent_reads) rfl
      exact ⟨⟨fd, fn_zero, He.glo_ok X G (c.t.d.fact 24 (f := .glo "_law_bent_reads") rfl), F.kp, F.bindsN (ps := ["_law_when", "_law_end", "_law_got"]) (fun _ _ _ _ _ _ us hl => match us, hl with | [_, _, _], _ => rfl), (fun z => by cases z)⟩, (fun xs M z e => by cases e)⟩
    | 25, hn =>
      cases hn
      obtain ⟨fd, F⟩ := c.t.d.def_ 25 (d := d_l_right) rfl
      exact ⟨⟨fd, fn_zero, He.glo_ok X G (c.t.d.fact 25 (f := .glo "_law_right") rfl), F.kp, F.bindsN (ps := ["_law_box_here"]) (fun _ _ _ _ _ _ us hl => match us, hl with | [_], _ => rfl), (fun z => by cases z)⟩, (fun xs M z e => by cases e)⟩
    | 26, hn =>
      cases hn
      obtain ⟨fd, F⟩ := c.t.d.def_ 26 (d := d_law) rfl
      exact ⟨⟨fd, fn_zero, He.glo_ok X G (c.t.d.fact 26 (f := .glo "law") rfl), F.kp, F.bindsN (ps := ["_law_script"]) (fun _ _ _ _ _ _ us hl => match us, hl with | [_], _ => rfl), (fun z => by cases z)⟩, (fun xs M z e => by cases e)⟩
    | n + 27, hn => cases hn
  | succ k C =>
    intro n nm hn
    match n, hn with
    | 0, hn =>
      cases hn
      obtain ⟨fd, F⟩ := c.t.d.def_ 0 (d := d_is_number) rfl
      exact ⟨⟨fd, ok_is_number T C F (fun _ _ => rfl), He.glo_ok X G (c.t.d.fact 0 (f := .glo "is_number") rfl), F.kp, F.bindsN (ps := ["thing"]) (fun _ _ _ _ _ _ us hl => match us, hl with | [_], _ => rfl), (fun z => by cases z)⟩, (fun xs M z e => runD_len (d := ir_is_number) e)⟩
    | 1, hn =>
      cases hn
      obtain ⟨fd, F⟩ := c.t.d.def_ 1 (d := d_is_count) rfl
      exact ⟨⟨fd, ok_is_count T C F (fun _ _ => rfl), He.glo_ok X G (c.t.d.fact 1 (f := .glo "is_count") rfl), F.kp, F.bindsN (ps := ["thing"]) (fun _ _ _ _ _ _ us hl => match us, hl with | [_], _ => rfl), (fun z => by cases z)⟩, (fun xs M z e => runD_len (d := ir_is_count) e)⟩
    | 2, hn =>
      cases hn
      obtain ⟨fd, F⟩ := c.t.d.def_ 2 (d := d_is_key) rfl
      exact ⟨⟨fd, ok_is_key T C F (fun _ _ => rfl), He.glo_ok X G (c.t.d.fact 2 (f := .glo "is_key") rfl), F.kp, F.bindsN (ps := ["thing"]) (fun _ _ _ _ _ _ us hl => match us, hl with | [_], _ => rfl), (fun z => by cases z)⟩, (fun xs M z e => runD_len (d := ir_is_key) e)⟩
    | 3, hn =>
      cases hn
      obtain ⟨fd, F⟩ := c.t.d.def_ 3 (d := d_is_row) rfl
      exact ⟨⟨fd, ok_is_row T C F (fun _ _ => rfl), He.glo_ok X G (c.t.d.fact 3 (f := .glo "is_row") rfl), F.kp, F.bindsN (ps := ["thing"]) (fun _ _ _ _ _ _ us hl => match us, hl with | [_], _ => rfl), (fun z => by cases z)⟩, (fun xs M z e => runD_len (d := ir_is_row) e)⟩
    | 4, hn =>
      cases hn
      obtain ⟨fd, F⟩ := c.t.d.def_ 4 (d := d_is_read) rfl
      exact ⟨⟨fd, ok_is_read T C F (fun _ _ => rfl), He.glo_ok X G (c.t.d.fact 4 (f := .glo "is_read") rfl), F.kp, F.bindsN (ps := ["thing", "begin"]) (fun _ _ _ _ _ _ us hl => match us, hl with | [_, _], _ => rfl), (fun z => by cases z)⟩, (fun xs M z e => runD_len (d := ir_is_read) e)⟩
    | 5, hn =>
      cases hn
      obtain ⟨fd, F⟩ := c.t.d.def_ 5 (d := d_is_view) rfl
      exact ⟨⟨fd, ok_is_view T C F (fun _ _ => rfl), He.glo_ok X G (c.t.d.fact 5 (f := .glo "is_view") rfl), F.kp, F.bindsN (ps := ["thing"]) (fun _ _ _ _ _ _ us hl => match us, hl with | [_], _ => rfl), (fun _ => kbinds (ps := ["thing"]) F (fun z => by cases z) fun _ _ _ _ _ _ ws hl => match ws, hl with | [_], _ => rfl)⟩, (fun xs M z e => runD_len (d := ir_is_view) e)⟩
    | 6, hn =>
      cases hn
      obtain ⟨fd, F⟩ := c.t.d.def_ 6 (d := d_l_box) rfl
      exact ⟨⟨fd, ok_l_box T C F (fun _ _ => rfl), He.glo_ok X G (c.t.d.fact 6 (f := .glo "_law_box") rfl), F.kp, F.bindsN (ps := ["_law_script", "_law_k"]) (fun _ _ _ _ _ _ us hl => match us, hl with | [_, _], _ => rfl), (fun z => by cases z)⟩, (fun xs M z e => runD_len (d := ir_l_box) e)⟩
    | 7, hn =>
      cases hn
      obtain ⟨fd, F⟩ := c.t.d.def_ 7 (d := d_l_take) rfl
      exact ⟨⟨fd, ok_l_take T C F (fun _ _ => rfl), He.glo_ok X G (c.t.d.fact 7 (f := .glo "_law_take") rfl), F.kp, F.bindsN (ps := ["_law_box_here", "_law_span"]) (fun _ _ _ _ _ _ us hl => match us, hl with | [_, _], _ => rfl), (fun z => by cases z)⟩, (fun xs M z e => runD_len (d := ir_l_take) e)⟩
    | 8, hn =>
      cases hn
      obtain ⟨fd, F⟩ := c.t.d.def_ 8 (d := d_l_of) rfl
      exact ⟨⟨fd, ok_l_of T C F (fun _ _ => rfl), He.glo_ok X G (c.t.d.fact 8 (f := .glo "_law_of") rfl), F.kp, F.bindsN (ps := ["_law_box_here", "_law_some_here"]) (fun _ _ _ _ _ _ us hl => match us, hl with | [_, _], _ => rfl), (fun z => by cases z)⟩, (fun xs M z e => runD_len (d := ir_l_of) e)⟩
    | 9, hn =>
      cases hn
      obtain ⟨fd, F⟩ := c.t.d.def_ 9 (d := d_l_same) rfl
      exact ⟨⟨fd, ok_l_same T C F (fun _ _ => rfl), He.glo_ok X G (c.t.d.fact 9 (f := .glo "_law_same") rfl), F.kp, F.bindsN (ps := ["_law_found", "_law_due"]) (fun _ _ _ _ _ _ us hl => match us, hl with | [_, _], _ => rfl), (fun z => by cases z)⟩, (fun xs M z e => runD_len (d := ir_l_same) e)⟩
    | 10, hn =>
      cases hn
      obtain ⟨fd, F⟩ := c.t.d.def_ 10 (d := d_l_bare) rfl
      exact ⟨⟨fd, ok_l_bare T C F (fun _ _ => rfl), He.glo_ok X G (c.t.d.fact 10 (f := .glo "_law_bare") rfl), F.kp, F.bindsN (ps := []) (fun _ _ _ _ _ _ us hl => match us, hl with | [], _ => rfl), (fun z => by cases z)⟩, (fun xs M z e => runD_len (d := ir_l_bare) e)⟩
    | 11, hn =>
      cases hn
      obtain ⟨fd, F⟩ := c.t.d.def_ 11 (d := d_l_leave) rfl
      exact ⟨⟨fd, ok_l_leave T C F (fun _ _ => rfl), He.glo_ok X G (c.t.d.fact 11 (f := .glo "_law_leave") rfl), F.kp, F.bindsN (ps := ["_law_w", "_law_keep", "_law_spot"]) (fun _ _ _ _ _ _ us hl => match us, hl with | [_, _, _], _ => rfl), (fun z => by cases z)⟩, (fun xs M z e => runD_len (d := ir_l_leave) e)⟩
    | 12, hn =>
      cases hn
      obtain ⟨fd, F⟩ := c.t.d.def_ 12 (d := d_l_swept) rfl
      exact ⟨⟨fd, ok_l_swept T C F (fun _ _ => rfl), He.glo_ok X G (c.t.d.fact 12 (f := .glo "_law_swept") rfl), F.kp, F.bindsN (ps := ["_law_w", "_law_keep", "_law_spot", "_law_end"]) (fun _ _ _ _ _ _ us hl => match us, hl with | [_, _, _, _], _ => rfl), (fun z => by cases z)⟩, (fun xs M z e => runD_len (d := ir_l_swept) e)⟩
    | 13, hn =>
      cases hn
      obtain ⟨fd, F⟩ := c.t.d.def_ 13 (d := d_l_heard) rfl
      exact ⟨⟨fd, ok_l_heard T C F (fun _ _ => rfl), He.glo_ok X G (c.t.d.fact 13 (f := .glo "_law_heard") rfl), F.kp, F.bindsN (ps := ["_law_w", "_law_p", "_law_upto_so"]) (fun _ _ _ _ _ _ us hl => match us, hl with | [_, _, _], _ => rfl), (fun z => by cases z)⟩, (fun xs M z e => runD_len (d := ir_l_heard) e)⟩
    | 14, hn =>
      cases hn
      obtain ⟨fd, F⟩ := c.t.d.def_ 14 (d := d_l_did) rfl
      exact ⟨⟨fd, ok_l_did T C F (fun _ _ => rfl), He.glo_ok X G (c.t.d.fact 14 (f := .glo "_law_did") rfl), F.kp, F.bindsN (ps := ["_law_w", "_law_event_so"]) (fun _ _ _ _ _ _ us hl => match us, hl with | [_, _], _ => rfl), (fun z => by cases z)⟩, (fun xs M z e => runD_len (d := ir_l_did) e)⟩
    | 15, hn =>
      cases hn
      obtain ⟨fd, F⟩ := c.t.d.def_ 15 (d := d_l_run) rfl
      exact ⟨⟨fd, ok_l_run T C F (fun _ _ => rfl), He.glo_ok X G (c.t.d.fact 15 (f := .glo "_law_run") rfl), F.kp, F.bindsN (ps := ["_law_table_here", "_law_keep", "_law_broom"]) (fun _ _ _ _ _ _ us hl => match us, hl with | [_, _, _], _ => rfl), (fun z => by cases z)⟩, (fun xs M z e => runD_len (d := ir_l_run) e)⟩
    | 16, hn =>
      cases hn
      obtain ⟨fd, F⟩ := c.t.d.def_ 16 (d := d_l_event) rfl
      exact ⟨⟨fd, ok_l_event T C F (fun _ _ => rfl), He.glo_ok X G (c.t.d.fact 16 (f := .glo "_law_event") rfl), F.kp, F.bindsN (ps := ["_law_box_here", "_law_w", "_law_folk", "_law_names", "_law_words"]) (fun _ _ _ _ _ _ us hl => match us, hl with | [_, _, _, _, _], _ => rfl), (fun z => by cases z)⟩, (fun xs M z e => runD_len (d := ir_l_event) e)⟩
    | 17, hn =>
      cases hn
      obtain ⟨fd, F⟩ := c.t.d.def_ 17 (d := d_l_moved) rfl
      exact ⟨⟨fd, ok_l_moved T C F (fun _ _ => rfl), He.glo_ok X G (c.t.d.fact 17 (f := .glo "_law_moved") rfl), F.kp, F.bindsN (ps := ["_law_w", "_law_event_so"]) (fun _ _ _ _ _ _ us hl => match us, hl with | [_, _], _ => rfl), (fun z => by cases z)⟩, (fun xs M z e => runD_len (d := ir_l_moved) e)⟩
    | 18, hn =>
      cases hn
      obtain ⟨fd, F⟩ := c.t.d.def_ 18 (d := d_l_table) rfl
      exact ⟨⟨fd, ok_l_table T C F (fun _ _ => rfl), He.glo_ok X G (c.t.d.fact 18 (f := .glo "_law_table") rfl), F.kp, F.bindsN (ps := ["_law_box_here", "_law_many_here", "_law_most", "_law_folk", "_law_names", "_law_words"]) (fun _ _ _ _ _ _ us hl => match us, hl with | [_, _, _, _, _, _], _ => rfl), (fun z => by cases z)⟩, (fun xs M z e => runD_len (d := ir_l_table) e)⟩
    | 19, hn =>
      cases hn
      obtain ⟨fd, F⟩ := c.t.d.def_ 19 (d := d_l_many) rfl
      exact ⟨⟨fd, ok_l_many T C F (fun _ _ => rfl), He.glo_ok X G (c.t.d.fact 19 (f := .glo "_law_many") rfl), F.kp, F.bindsN (ps := ["_law_table_here", "_law_spot"]) (fun _ _ _ _ _ _ us hl => match us, hl with | [_, _], _ => rfl), (fun z => by cases z)⟩, (fun xs M z e => runD_len (d := ir_l_many) e)⟩
    | 20, hn =>
      cases hn
      obtain ⟨fd, F⟩ := c.t.d.def_ 20 (d := d_l_tale) rfl
      exact ⟨⟨fd, ok_l_tale T C F (fun _ _ => rfl), He.glo_ok X G (c.t.d.fact 20 (f := .glo "_law_tale") rfl), F.kp, F.bindsN (ps := ["_law_box_here", "_law_tries", "_law_most", "_law_folk"]) (fun _ _ _ _ _ _ us hl => match us, hl with | [_, _, _, _], _ => rfl), (fun z => by cases z)⟩, (fun xs M z e => runD_len (d := ir_l_tale) e)⟩
    | 21, hn =>
      cases hn
      obtain ⟨fd, F⟩ := c.t.d.def_ 21 (d := d_l_drawn_broom) rfl
      exact ⟨⟨fd, ok_l_drawn_broom T C F (fun _ _ => rfl), He.glo_ok X G (c.t.d.fact 21 (f := .glo "_law_drawn_broom") rfl), F.kp, F.bindsN (ps := ["_law_box_here", "_law_table_here"]) (fun _ _ _ _ _ _ us hl => match us, hl with | [_, _], _ => rfl), (fun z => by cases z)⟩, (fun xs M z e => runD_len (d := ir_l_drawn_broom) e)⟩
    | 22, hn =>
      cases hn
      obtain ⟨fd, F⟩ := c.t.d.def_ 22 (d := d_l_view) rfl
      exact ⟨⟨fd, ok_l_view T C F (fun _ _ => rfl), He.glo_ok X G (c.t.d.fact 22 (f := .glo "_law_view") rfl), F.kp, F.bindsN (ps := ["_law_table_here", "_law_keep", "_law_broom", "_law_p"]) (fun _ _ _ _ _ _ us hl => match us, hl with | [_, _, _, _], _ => rfl), (fun z => by cases z)⟩, (fun xs M z e => runD_len (d := ir_l_view) e)⟩
    | 23, hn =>
      cases hn
      obtain ⟨fd, F⟩ := c.t.d.def_ 23 (d := d_l_some) rfl
      exact ⟨⟨fd, ok_l_some T C F (fun _ _ => rfl), He.glo_ok X G (c.t.d.fact 23 (f := .glo "_law_some") rfl), F.kp, F.bindsN (ps := ["_law_box_here", "_law_folk"]) (fun _ _ _ _ _ _ us hl => match us, hl with | [_, _], _ => rfl), (fun z => by cases z)⟩, (fun xs M z e => runD_len (d := ir_l_some) e)⟩
    | 24, hn =>
      cases hn
      obtain ⟨fd, F⟩ := c.t.d.def_ 24 (d := d_l_bent_reads) rfl
      exact ⟨⟨fd, ok_l_bent_reads T C F (fun _ _ => rfl), He.glo_ok X G (c.t.d.fact 24 (f := .glo "_law_bent_reads") rfl), F.kp, F.bindsN (ps := ["_law_when", "_law_end", "_law_got"]) (fun _ _ _ _ _ _ us hl => match us, hl with | [_, _, _], _ => rfl), (fun z => by cases z)⟩, (fun xs M z e => runD_len (d := ir_l_bent_reads) e)⟩
    | 25, hn =>
      cases hn
      obtain ⟨fd, F⟩ := c.t.d.def_ 25 (d := d_l_right) rfl
      exact ⟨⟨fd, ok_l_right T C F (fun _ _ => rfl), He.glo_ok X G (c.t.d.fact 25 (f := .glo "_law_right") rfl), F.kp, F.bindsN (ps := ["_law_box_here"]) (fun _ _ _ _ _ _ us hl => match us, hl with | [_], _ => rfl), (fun z => by cases z)⟩, (fun xs M z e => runD_len (d := ir_l_right) e)⟩
    | 26, hn =>
      cases hn
      obtain ⟨fd, F⟩ := c.t.d.def_ 26 (d := d_law) rfl
      exact ⟨⟨fd, ok_law T C F (fun _ _ => rfl), He.glo_ok X G (c.t.d.fact 26 (f := .glo "law") rfl), F.kp, F.bindsN (ps := ["_law_script"]) (fun _ _ _ _ _ _ us hl => match us, hl with | [_], _ => rfl), (fun z => by cases z)⟩, (fun xs M z e => runD_len (d := ir_law) e)⟩
    | n + 27, hn => cases hn
theorem txt_of {w : World} {K : PySem.W.Frag} {mg : Str → Option Value} {h h0 : Heap} (X : K.In h) (G : h.Ns mainGlobals mg) (c : Says w h0 K) : Txt K w mg :=
  ⟨He.free_ok X G (c.t.d.fact 27 (f := .free "abs") rfl), He.free_ok X G (c.t.d.fact 28 (f := .free "all") rfl), He.free_ok X G (c.t.d.fact 29 (f := .free "bool") rfl), He.free_ok X G (c.t.d.fact 30 (f := .free "dict") rfl), He.free_ok X G (c.t.d.fact 31 (f := .free "enumerate") rfl), He.free_ok X G (c.t.d.fact 32 (f := .free "int") rfl), He.free_ok X G (c.t.d.fact 33 (f := .free "isinstance") rfl), He.free_ok X G (c.t.d.fact 34 (f := .free "len") rfl), He.free_ok X G (c.t.d.fact 35 (f := .free "list") rfl), He.free_ok X G (c.t.d.fact 36 (f := .free "min") rfl), He.free_ok X G (c.t.d.fact 37 (f := .free "range") rfl), He.free_ok X G (c.t.d.fact 38 (f := .free "set") rfl), He.free_ok X G (c.t.d.fact 39 (f := .free "sorted") rfl), He.free_ok X G (c.t.d.fact 40 (f := .free "str") rfl), He.free_ok X G (c.t.d.fact 41 (f := .free "tuple") rfl), He.free_ok X G (c.t.d.fact 42 (f := .free "zip") rfl), He.str_ok X G (c.t.d.fact 43 (f := .str "LETTERS" "abcdefghijklmnopqrstuvwxyz") rfl), He.int_ok X G (c.t.d.fact 44 (f := .int "TRIPLE" 3) rfl)⟩
abbrev Rw : PySem.W.OpenRow := PySem.W.OpenLaw.row PySem.Challenge.rw_missedmarks_k66_what_is_no_view
abbrev hk : PySem.W.Hook := He.hookX 8 faD fnD tbD [] (exAll exD)
def ob (s : PySem.W.SharedT) : He.AlX := He.obsX 8 faD fnD tbD [] (exAll exD) (HandSHeadRun.getT s)
theorem ob_eq (s : PySem.W.SharedT) : ob s = hk.obs s.abs := He.obsX_eq (HandSHeadRun.getT_eq s)
def looseN : List Str := [("is_number" : Str), ("is_count" : Str), ("is_key" : Str), ("is_row" : Str), ("is_read" : Str), ("is_view" : Str), ("_law_box" : Str), ("_law_take" : Str), ("_law_of" : Str), ("_law_same" : Str), ("_law_bare" : Str), ("_law_leave" : Str), ("_law_swept" : Str), ("_law_heard" : Str), ("_law_did" : Str), ("_law_run" : Str), ("_law_event" : Str), ("_law_moved" : Str), ("_law_table" : Str), ("_law_many" : Str), ("_law_tale" : Str), ("_law_drawn_broom" : Str), ("_law_view" : Str), ("_law_some" : Str), ("_law_bent_reads" : Str), ("_law_right" : Str), ("LETTERS" : Str), ("TRIPLE" : Str)]
set_option maxHeartbeats 0 in
theorem headrun (w : World) : HandSHeadRun.RunEq Rw (PySem.W.view Rw.prog [31]) hk ob 4000 looseN w :=
  PySem.W.byRow2 "special-get-raises" (P := fun w => HandSHeadRun.RunEq Rw (PySem.W.view Rw.prog [31]) hk ob 4000 looseN w) (fun w => by
    intro os
    kernel_rfl) (fun w => by
    intro os
    kernel_rfl) w
theorem cl_of {K : PySem.W.Frag} {H : Hp} {a : Addr} {ns : List Int} (o : Only H) (h : SqL K H a (ns.map V.int)) : CL K H a ns := by
  rcases h with (h | ⟨u, h⟩) | h
  · rcases o a with z | ⟨_, _, z⟩
    · rw [z] at h; cases h
    · rw [z] at h; cases h
  · exact .inl ⟨u, h⟩
  · exact .inr fun H' => .inr h
theorem facts {P : Program} {w : World} {K : PySem.W.Frag} {h : Heap} {mg : Str → Option Value} {f : Addr} (X : K.In h) (G : h.Ns mainGlobals mg) (hfa : mg ("law" : Str) = some (.ref f)) {h0 : Heap} (c : Says w h0 K) :
    ∃ fd : FuncData, (∀ (s : Shared) (v : Value), BindsTo s fd ⟨[v], []⟩ [("_law_script", v)]) ∧ ∀ base : Heap, K.In base → base.Ns mainGlobals mg → FnOk P w K mg base CX0 (14 + 1) f fd ["_law_script"] (spEv K (cfN tab (14 + 1)) 26 1) := by
  obtain ⟨fd, F⟩ := c.t.d.def_ 26 (d := d_law) rfl
  have e := hfa.symm.trans (He.glo_ok X G (c.t.d.fact 26 (f := .glo "law") rfl))
  cases e
  have b := FunD.bindsA (ps := ["_law_script"]) F fun _ _ _ _ _ _ us hl => match us, hl with | [_], _ => rfl
  exact ⟨fd, fun s v => b s [v] rfl, fun base hb hn => ok_law (txt_of X G c) (all_ok (base := base) X G c (txt_of X G c) 14) F fun _ _ => rfl⟩
end Mp
open PySem PySem.W PySem.Calls PyProof.Rows
set_option maxHeartbeats 0 in
theorem Mp.reduce (good : ∀ ns : List Int, ns.length ≤ 63 → ∃ M', Mp.cfN Mp.tab (14 + 1) 26 [.cl ns] [] = some (.bl true, M')) : PySem.Challenge.rw_missedmarks_k66_what_is_no_view.Holds := by
  w_on; o_law
  refine HandSHeadRun.head_any (r := OpenLaw.row PySem.Challenge.rw_missedmarks_k66_what_is_no_view) (q := view (OpenLaw.row PySem.Challenge.rw_missedmarks_k66_what_is_no_view).prog [31]) (H := Mp.hk) (ob := Mp.ob) (M := 4000) (loose := Mp.looseN) (d := HandSHeadRun.topDef (OpenLaw.row PySem.Challenge.rw_missedmarks_k66_what_is_no_view).prog 31) (kwd := []) Mp.ob_eq
    (by kernel_rfl) (fun s => by kernel_rfl) Mp.headrun (by kernel_rfl) (by kernel_rfl) (by kernel_rfl) (by rfl) (by first | assumption | decide +kernel) (by decide +kernel) ⟨rfl, rfl, rfl, rfl, rfl, by decide +kernel⟩ ?hw ?hc
  case hw => w_witness2
  case hc =>
    refine L2.walk_ofE (l := PySem.Challenge.rw_missedmarks_k66_what_is_no_view) (n := 63) (k := 14 + 1) (x := "_law_script") (CX := L2.CX0) rfl (by decide) (by kernel_rfl) ⟨rfl, by decide, by decide⟩ ?F (fun _ _ _ _ z => z)
    intro w mg fa h Y G hmg0
    obtain ⟨K, KX, c⟩ := Y
    have hmg : mg ("law" : PySem.Str) = some (.ref fa) := by
      have e : (HandSHeadRun.topDef (OpenLaw.row PySem.Challenge.rw_missedmarks_k66_what_is_no_view).prog 31).name = ("law" : PySem.Str) := by kernel_rfl
      rw [← e]
      exact hmg0
    obtain ⟨fd, hb, hF⟩ := Mp.facts (P := (PySem.Challenge.rw_missedmarks_k66_what_is_no_view).prog) (w := w) KX G hmg c
    refine ⟨K, fd, _, KX, hb, fun H a ns hl ho hS => ?_, hF⟩
    obtain ⟨M', e⟩ := good ns hl
    refine ⟨rfl, [], [], [.cl ns], _, M', ⟨rfl, List.nodup_nil, fun n a o h => by cases h⟩, .cons (.cl (Mp.cl_of ho hS)) .nil, e, fun r' u H' _ _ hv => ?_⟩
    cases hv
    rfl
set_option maxRecDepth 100000 in
set_option maxHeartbeats 0 in
theorem PySem.Challenge.cw_missedmarks_k66_what_is_no_view_holds : PySem.Challenge.rw_missedmarks_k66_what_is_no_view.Holds :=
  Mp.reduce Mp.good
