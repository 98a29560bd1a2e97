import PyProof.Rows.All
import Wide.All
import OpenK.AllK
import Wide.FinOn
import HandS.HeadHook4
import HandS.AnyAll
import HandS.ForMost
import HandS.HeadHook1
import HandS.SlotsVar
import HandS.Slots
import KE.SortData
import HandS.TupMul
import HandS.TupAny
import HandS.Deep
import HandS.IsInst
import HandS.More
import HandS.WordsDict
import KE.KSortedM
import KE.GoesMore
import HandS.Zip
import HandS.TryOnly
import HandS.Style
import HandS.Small
import HandS.Defaults
import HandS.IterVal
import HandS.HeadHook3
import KE.KRevSl
import HandS.Head0
import HandS.Head1
import HandS.Head2
import HandS.HeadEnd
import HandS.HeadHook2
import HandS.OwnEq
import HandS.DeepEq
import HandS.DictComp
import KE.KDictZip
import HandS.SetKeys
import HandS.SetBool
import HandS.Strs
import HandS.SetFor
import HandS.DictTup
import HandS.OwnIter
import HandS.TupSets
import HandS.FStr
import PyProof.TupleOfGen
import HandS.ExcValue
import HandS.HeadWalk
import PySem.Challenge.RW_missedmarks_k80_reads_in_the_place_of_wa
set_option Elab.async false
set_option linter.all false
set_option maxRecDepth 100000
set_option maxHeartbeats 4000000
set_option autoImplicit false
namespace Mp
open PySem
def tfD : List He.Defn := []
def tabs (K : PySem.W.Frag) : List Addr := tfD.map fun p => (He.cT K p).2
end Mp
namespace Mp
open PySem L2
inductive PV where
  | non | bl (b : Bool) | int (i : Int) | str (s : Str) | tup (xs : List PV) | ref (n : Nat) | cl (ns : List Int) | fn (n : Nat) (x : Str) | ptup (xs : List PV)
inductive Ob where
  | lst (xs : List PV)
  | dic (kvs : List (Key × PV))
  | ins (c : Str) (fs : List (Str × PV))
  | slt (c : Str) (vs : List (Option PV))
  | frz (kvs : List (Key × PV))
abbrev Mm := List Ob
abbrev Sg := List (Option PV)
def CL (K : PySem.W.Frag) (H : Hp) (a : Addr) (ns : List Int) : Prop :=
  (∃ o, H a = some (.frz o (.lst (ns.map V.int)))) ∨ ∀ H' : Hp, SqL K H' a (ns.map V.int)
theorem CL.sq {K : PySem.W.Frag} {H : Hp} {a : Addr} {ns : List Int} (h : CL K H a ns) : SqL K H a (ns.map V.int) := by
  rcases h with ⟨o, h⟩ | h
  · exact .inl (.inr ⟨o, h⟩)
  · exact h H
def PlT (H : Hp) (a : Addr) (vs : List V) : Prop := ∃ o : Obj, o.cls = .type "tuple" ∧ o.dict = none ∧ H a = some (.frz o (.tup vs))
theorem PlT.sqT {K : PySem.W.Frag} {H : Hp} {a : Addr} {vs : List V} (h : PlT H a vs) : SqT K H a vs := let ⟨o, _, _, h⟩ := h; .inl (.inr ⟨o, h⟩)
mutual
inductive RV (K : PySem.W.Frag) (r : List Addr) (H : Hp) : PV → V → Prop
  | non : RV K r H .non .non
  | bl (b : Bool) : RV K r H (.bl b) (.bl b)
  | int (i : Int) : RV K r H (.int i) (.int i)
  | str (s : Str) : RV K r H (.str s) (.str s)
  | tup {xs : List PV} {a : Addr} {vs : List V} : SqT K H a vs → RVs K r H xs vs → RV K r H (.tup xs) (.ref a)
  | ref {n : Nat} {a : Addr} : r[n]? = some a → RV K r H (.ref n) (.ref a)
  | cl {ns : List Int} {a : Addr} : CL K H a ns → RV K r H (.cl ns) (.ref a)
  | fn (n : Nat) (x : Str) : RV K r H (.fn n x) (.ref (He.ga K x))
  | ptup {xs : List PV} {a : Addr} {vs : List V} : PlT H a vs → RVs K r H xs vs → RV K r H (.ptup xs) (.ref a)
inductive RVs (K : PySem.W.Frag) (r : List Addr) (H : Hp) : List PV → List V → Prop
  | nil : RVs K r H [] []
  | cons {x : PV} {xs : List PV} {v : V} {vs : List V} : RV K r H x v → RVs K r H xs vs → RVs K r H (x :: xs) (v :: vs)
end
structure OwnsOk (H H' : Hp) : Prop where
  own : ∀ a x, H a = some (.own x) → H' a = some (.own x) ∨ (H' a = some (.xd []) ∧ ∃ φ, H' x = some (.ext φ))
  xd : ∀ a, H a = some (.xd []) → H' a = some (.xd [])
  ext : ∀ a φ, H a = some (.ext φ) → ∃ φ', H' a = some (.ext φ')
theorem OwnsOk.trans {H1 H2 H3 : Hp} (a : OwnsOk H1 H2) (b : OwnsOk H2 H3) : OwnsOk H1 H3 :=
  ⟨fun x y h => by
    rcases a.own x y h with h | ⟨h, φ, h2⟩
    · exact b.own x y h
    · exact .inr ⟨b.xd x h, b.ext y φ h2⟩, fun x h => b.xd x (a.xd x h), fun x φ h => let ⟨ψ, h2⟩ := a.ext x φ h; b.ext x ψ h2⟩
theorem OwnsOk.keep {H H' : Hp} (k : ∀ a o, (∀ ps, o ≠ .tbl ps) → H a = some o → H' a = some o) : OwnsOk H H' :=
  ⟨fun a x h => .inl (k a _ (fun _ z => by cases z) h), fun a h => k a _ (fun _ z => by cases z) h, fun a φ h => ⟨φ, k a _ (fun _ z => by cases z) h⟩⟩
def Stays (ho o : HO) : Prop := (∀ φ, ho = .ext φ → ∃ φ', o = .ext φ') ∧ (∀ x, ho ≠ .own x) ∧ ho ≠ .xd []
theorem OwnsOk.upd {H : Hp} {a : Addr} {ho o : HO} (h : H a = some ho) (hx : Stays ho o) : OwnsOk H (upd H a o) := by
  refine ⟨fun b x e => .inl ?_, fun b e => ?_, fun b φ e => ?_⟩
  · rw [upd_ne]; exact e
    intro z; subst z; rw [h] at e; cases e; exact hx.2.1 x rfl
  · rw [upd_ne]; exact e
    intro z; subst z; rw [h] at e; cases e; exact hx.2.2 rfl
  · by_cases z : b = a
    · subst z
      rw [h] at e; cases e
      obtain ⟨φ', e2⟩ := hx.1 φ rfl
      exact ⟨φ', by rw [← e2]; exact upd_same⟩
    · exact ⟨φ, by rw [upd_ne z]; exact e⟩
structure Ext0 (r r' : List Addr) (H H' : Hp) : Prop where
  pre : ∃ t, r' = r ++ t
  tups : ∀ a xs, H a = some (.tup xs) → H' a = some (.tup xs)
  frzs : ∀ a o u, H a = some (.frz o u) → H' a = some (.frz o u)
  owns : OwnsOk H H'
  tbs : ∀ a, GxR.TabG H a → GxR.TabG H' a
structure Ext (r r' : List Addr) (H H' : Hp) : Prop extends Ext0 r r' H H' where
  fresh : ∀ a, a ∈ r' → a ∉ r → H a = none
  oth : ∀ a o, a ∉ r → (∀ ps, o ≠ .tbl ps) → (∀ x, o ≠ .own x) → H a = some o → H' a = some o
  live : ∀ a o, H a = some o → ∃ o', H' a = some o'
theorem Ext.refl {r : List Addr} {H : Hp} : Ext r r H H := ⟨⟨⟨[], by simp⟩, fun _ _ h => h, fun _ _ _ h => h, .keep fun _ _ _ h => h, fun _ h => h⟩, fun a h1 h2 => absurd h1 h2, fun _ _ _ _ _ h => h, fun _ o h => ⟨o, h⟩⟩
theorem Ext.trans {r1 r2 r3 : List Addr} {H1 H2 H3 : Hp} (a : Ext r1 r2 H1 H2) (b : Ext r2 r3 H2 H3) : Ext r1 r3 H1 H3 := by
  obtain ⟨t, e1⟩ := a.pre
  obtain ⟨u, e2⟩ := b.pre
  refine ⟨⟨⟨t ++ u, by rw [e2, e1, List.append_assoc]⟩, fun x xs h => b.tups x xs (a.tups x xs h), fun x o u h => b.frzs x o u (a.frzs x o u h), a.owns.trans b.owns, fun x h => b.tbs x (a.tbs x h)⟩, fun x h3 h1 => ?_, fun x o h1 ht hw h => ?_, fun x o h => ?_⟩
  · by_cases h2 : x ∈ r2
    · exact a.fresh x h2 h1
    · have q := b.fresh x h3 h2
      cases e : H1 x with
      | none => rfl
      | some o =>
        obtain ⟨o', e'⟩ := a.live x o e
        rw [e'] at q; cases q
  · refine b.oth x o (fun h2 => ?_) ht hw (a.oth x o h1 ht hw h)
    rw [a.fresh x h2 h1] at h; cases h
  · obtain ⟨o', e'⟩ := a.live x o h
    exact b.live x o' e'
theorem Ext0.at {r r' : List Addr} {H H' : Hp} (e : Ext0 r r' H H') {n : Nat} {a : Addr} (h : r[n]? = some a) : r'[n]? = some a := by
  obtain ⟨t, rfl⟩ := e.pre
  rw [List.getElem?_append_left (List.getElem?_eq_some_iff.mp h).1]
  exact h
theorem Ext.at {r r' : List Addr} {H H' : Hp} (e : Ext r r' H H') {n : Nat} {a : Addr} (h : r[n]? = some a) : r'[n]? = some a := by
  obtain ⟨t, rfl⟩ := e.pre
  rw [List.getElem?_append_left (List.getElem?_eq_some_iff.mp h).1]
  exact h
section
variable {K : PySem.W.Frag} {r r' : List Addr} {H H' : Hp}
theorem Ext0.rd (e : Ext0 r r' H H') {a : Addr} {xs : List V} (h : Rd H a (.tup xs)) : Rd H' a (.tup xs) := by
  rcases h with h | ⟨o, h⟩
  · exact .inl (e.tups a xs h)
  · exact .inr ⟨o, e.frzs a o _ h⟩
theorem Ext0.sqT (e : Ext0 r r' H H') {a : Addr} {xs : List V} (h : SqT K H a xs) : SqT K H' a xs := by
  rcases h with h | h
  · exact .inl (e.rd h)
  · exact .inr h
theorem Ext0.cl (e : Ext0 r r' H H') {a : Addr} {ns : List Int} (h : CL K H a ns) : CL K H' a ns := by
  rcases h with ⟨o, h⟩ | h
  · exact .inl ⟨o, e.frzs a o _ h⟩
  · exact .inr h
theorem Ext0.plT (e : Ext0 r r' H H') {a : Addr} {xs : List V} (h : PlT H a xs) : PlT H' a xs := let ⟨o, h1, h2, h3⟩ := h; ⟨o, h1, h2, e.frzs a o _ h3⟩
mutual
theorem RV.ext0 (e : Ext0 r r' H H') : ∀ {x : PV} {v : V}, RV K r H x v → RV K r' H' x v
  | _, _, .non => .non
  | _, _, .bl b => .bl b
  | _, _, .int b => .int b
  | _, _, .str b => .str b
  | _, _, .tup h hs => .tup (e.sqT h) (RVs.ext0 e hs)
  | _, _, .ref h => .ref (e.at h)
  | _, _, .cl h => .cl (e.cl h)
  | _, _, .fn n x => .fn n x
  | _, _, .ptup h hs => .ptup (e.plT h) (RVs.ext0 e hs)
theorem RVs.ext0 (e : Ext0 r r' H H') : ∀ {x : List PV} {v : List V}, RVs K r H x v → RVs K r' H' x v
  | _, _, .nil => .nil
  | _, _, .cons h hs => .cons (RV.ext0 e h) (RVs.ext0 e hs)
end
theorem Ext.sqT (e : Ext r r' H H') {a : Addr} {xs : List V} (h : SqT K H a xs) : SqT K H' a xs := e.toExt0.sqT h
theorem Ext.cl (e : Ext r r' H H') {a : Addr} {ns : List Int} (h : CL K H a ns) : CL K H' a ns := e.toExt0.cl h
theorem RV.ext {x : PV} {v : V} (h : RV K r H x v) (e : Ext r r' H H') : RV K r' H' x v := RV.ext0 e.toExt0 h
theorem RVs.ext {x : List PV} {v : List V} (h : RVs K r H x v) (e : Ext r r' H H') : RVs K r' H' x v := RVs.ext0 e.toExt0 h
theorem RVs.length : ∀ {x : List PV} {v : List V}, RVs K r H x v → x.length = v.length
  | _, _, .nil => rfl
  | _, _, .cons _ hs => by simp [RVs.length hs]
theorem RVs.append : ∀ {x y : List PV} {v u : List V}, RVs K r H x v → RVs K r H y u → RVs K r H (x ++ y) (v ++ u)
  | _, _, _, _, .nil, h => h
  | _, _, _, _, .cons h hs, h' => .cons h (RVs.append hs h')
theorem RVs.get : ∀ {x : List PV} {v : List V} {i : Nat} {p : PV}, RVs K r H x v → x[i]? = some p → ∃ u, v[i]? = some u ∧ RV K r H p u
  | _, _, _, _, .nil, e => by simp at e
  | _, _, 0, _, .cons h _, e => by simp at e; subst e; exact ⟨_, rfl, h⟩
  | _, _, i + 1, p, .cons _ hs, e => by
    obtain ⟨u, h1, h2⟩ := RVs.get (i := i) hs (by simpa using e)
    exact ⟨u, by simpa using h1, h2⟩
theorem RVs.get' : ∀ {x : List PV} {v : List V} {i : Nat} {u : V}, RVs K r H x v → v[i]? = some u → ∃ p, x[i]? = some p ∧ RV K r H p u
  | _, _, _, _, .nil, e => by simp at e
  | _, _, 0, _, .cons h _, e => by simp at e; subst e; exact ⟨_, rfl, h⟩
  | _, _, i + 1, p, .cons _ hs, e => by
    obtain ⟨u, h1, h2⟩ := RVs.get' (i := i) hs (by simpa using e)
    exact ⟨u, by simpa using h1, h2⟩
theorem RVs.drop : ∀ {x : List PV} {v : List V} (n : Nat), RVs K r H x v → RVs K r H (x.drop n) (v.drop n)
  | _, _, 0, h => h
  | _, _, _ + 1, .nil => .nil
  | _, _, n + 1, .cons _ hs => RVs.drop n hs
theorem RVs.take : ∀ {x : List PV} {v : List V} (n : Nat), RVs K r H x v → RVs K r H (x.take n) (v.take n)
  | _, _, 0, h => .nil
  | _, _, _ + 1, .nil => .nil
  | _, _, n + 1, .cons h hs => .cons h (RVs.take n hs)
theorem RVs.set : ∀ {x : List PV} {v : List V} (n : Nat) {p : PV} {u : V}, RVs K r H x v → RV K r H p u → RVs K r H (x.set n p) (v.set n u)
  | _, _, _, _, _, .nil, _ => .nil
  | _, _, 0, _, _, .cons _ hs, h' => .cons h' hs
  | _, _, n + 1, _, _, .cons h hs, h' => .cons h (RVs.set n hs h')
theorem RVs.reverse : ∀ {x : List PV} {v : List V}, RVs K r H x v → RVs K r H x.reverse v.reverse
  | _, _, .nil => .nil
  | _, _, .cons h hs => by
    rw [List.reverse_cons, List.reverse_cons]
    exact RVs.append (RVs.reverse hs) (.cons h .nil)
def SlA (H : Hp) (a C dx : Addr) (us : List (Option V)) : Prop := dx ≠ a ∧ ((H a = some (SlX.SlO a C dx us) ∧ H dx = some (.xd [])) ∨ (us = [] ∧ H a = some (.ins C dx []) ∧ H dx = some (.own a)))
theorem SlA.slt {H : Hp} {a C dx : Addr} {us : List (Option V)} (h : SlA H a C dx us) : SlX.Slt H a C dx us := by
  rcases h.2 with h | ⟨h1, h2, h3⟩
  · exact .inr h
  · exact .inl ⟨h2, h1⟩
theorem SlA.ext {H H' : Hp} {a C dx : Addr} {us : List (Option V)} (e : OwnsOk H H') (h : H' a = H a) (g : SlA H a C dx us) : SlA H' a C dx us := by
  refine ⟨g.1, ?_⟩
  rcases g.2 with ⟨g1, g2⟩ | ⟨g1, g2, g3⟩
  · exact .inl ⟨h.trans g1, e.xd _ g2⟩
  · refine .inr ⟨g1, h.trans g2, ?_⟩
    rcases e.own _ _ g3 with z | ⟨_, φ, z⟩
    · exact z
    · rw [h, g2] at z; cases z
def RO (K : PySem.W.Frag) (r : List Addr) (H : Hp) (a : Addr) : Ob → Prop
  | .lst xs => ∃ vs, H a = some (.lst vs) ∧ RVs K r H xs vs
  | .dic kvs => ∃ vs, H a = some (.dK vs) ∧ vs.map (·.1) = kvs.map (·.1) ∧ RVs K r H (kvs.map (·.2)) (vs.map (·.2))
  | .ins c fs => ∃ dx vs, H a = some (.ins (He.ga K c) dx vs) ∧ H dx = some (.own a) ∧ dx ≠ a ∧ vs.map (·.1) = fs.map (·.1) ∧ RVs K r H (fs.map (·.2)) (vs.map (·.2))
  | .slt c vs => ∃ dx us, SlA H a (He.ga K c) dx us ∧ us.length = vs.length ∧ ∀ (i : Nat) (p : PV), vs[i]? = some (some p) → ∃ u, us[i]? = some (some u) ∧ RV K r H p u
  | .frz kvs => ∃ o vs, H a = some (.frz o (.dK vs)) ∧ vs.map (·.1) = kvs.map (·.1) ∧ RVs K r H (kvs.map (·.2)) (vs.map (·.2))
structure RH (K : PySem.W.Frag) (r : List Addr) (M : Mm) (H : Hp) : Prop where
  len : r.length = M.length
  nd : r.Nodup
  ob : ∀ (n : Nat) (a : Addr) (o : Ob), r[n]? = some a → M[n]? = some o → RO K r H a o
  tb : ∀ a ∈ tabs K, GxR.TabG H a
theorem RO.there {a : Addr} : ∀ {o : Ob}, RO K r H a o → ∃ ho, H a = some ho ∧ ((∀ kvs, o ≠ .frz kvs) → Mut (some ho))
  | .lst _, ⟨vs, h, _⟩ => ⟨_, h, fun _ => trivial⟩
  | .dic _, ⟨vs, h, _⟩ => ⟨_, h, fun _ => trivial⟩
  | .ins _ _, ⟨dx, vs, h, _⟩ => ⟨_, h, fun _ => trivial⟩
  | .slt _ _, ⟨dx, us, ⟨_, h⟩, _⟩ => by
    rcases h with ⟨h, _⟩ | ⟨_, h, _⟩
    · exact ⟨_, h, fun _ => trivial⟩
    · exact ⟨_, h, fun _ => trivial⟩
  | .frz kvs, ⟨_, vs, h, _⟩ => ⟨_, h, fun z => absurd rfl (z kvs)⟩
theorem RO.ext (e : Ext0 r r' H H') {a : Addr} (h : H' a = H a) : ∀ {o : Ob}, RO K r H a o → RO K r' H' a o
  | .lst _, ⟨vs, h1, h2⟩ => ⟨vs, h.trans h1, RVs.ext0 e h2⟩
  | .dic _, ⟨vs, h1, h2, h3⟩ => ⟨vs, h.trans h1, h2, RVs.ext0 e h3⟩
  | .ins _ _, ⟨dx, vs, h1, ho, hn, h2, h3⟩ => ⟨dx, vs, h.trans h1, (e.owns.own _ _ ho).elim (fun z => z) (fun ⟨_, φ, z⟩ => by rw [h, h1] at z; cases z), hn, h2, RVs.ext0 e h3⟩
  | .frz _, ⟨o, vs, h1, h2, h3⟩ => ⟨o, vs, h.trans h1, h2, RVs.ext0 e h3⟩
  | .slt _ _, ⟨dx, us, h1, h4, h5⟩ => ⟨dx, us, h1.ext e.owns h, h4, fun i p q => let ⟨u, a, b⟩ := h5 i p q; ⟨u, a, RV.ext0 e b⟩⟩
theorem RH.at {M : Mm} (h : RH K r M H) {n : Nat} {o : Ob} (e : M[n]? = some o) : ∃ a, r[n]? = some a ∧ RO K r H a o := by
  have h1 : n < r.length := by rw [h.len]; exact (List.getElem?_eq_some_iff.mp e).1
  exact ⟨r[n], List.getElem?_eq_getElem h1, h.ob n _ o (List.getElem?_eq_getElem h1) e⟩
theorem RH.there {M : Mm} (h : RH K r M H) {a : Addr} (m : a ∈ r) : ∃ ho, H a = some ho ∧ True := by
  obtain ⟨n, hn, e⟩ := List.mem_iff_getElem.mp m
  have h1 : n < M.length := by rw [← h.len]; exact hn
  obtain ⟨ho, q, _⟩ := (h.ob n a M[n] (by rw [List.getElem?_eq_getElem hn, e]) (List.getElem?_eq_getElem h1)).there
  exact ⟨ho, q, trivial⟩
theorem RH.same {M : Mm} (h : RH K r M H) (e : Ext0 r r H H') (k : ∀ a ∈ r, H' a = H a) : RH K r M H' :=
  ⟨h.len, h.nd, fun n a o h1 h2 => (h.ob n a o h1 h2).ext e (k a (List.mem_of_getElem? h1)), fun a ha => e.tbs a (h.tb a ha)⟩
theorem ext_new {p : Addr} {o : HO} (hp : H p = none) (t : List Addr) (ht : t = [p] ∨ t = [] := by first | exact .inl rfl | exact .inr rfl) : Ext r (r ++ t) H (upd H p o) := by
  refine ⟨⟨⟨t, rfl⟩, fun a xs h => by rw [upd_ne (ne_of_none h hp)]; exact h, fun a o u h => by rw [upd_ne (ne_of_none h hp)]; exact h, .keep fun a o _ h => by rw [upd_ne (ne_of_none h hp)]; exact h, fun a ⟨ps, h, h2⟩ => ⟨ps, by rw [upd_ne (ne_of_none h hp)]; exact h, h2⟩⟩, fun a h1 h2 => ?_, fun a o _ _ _ h => by rw [upd_ne (ne_of_none h hp)]; exact h, fun a o h => ⟨o, by rw [upd_ne (ne_of_none h hp)]; exact h⟩⟩
  rcases List.mem_append.mp h1 with h | h
  · exact absurd h h2
  · rcases ht with rfl | rfl
    · have : a = p := by simpa using h
      rw [this]; exact hp
    · cases h
theorem ext_new0 {p : Addr} {o : HO} (hp : H p = none) : Ext r r H (upd H p o) := by
  have := ext_new (r := r) (o := o) hp [] (.inr rfl)
  rwa [List.append_nil] at this
theorem RH.other {M : Mm} (h : RH K r M H) {p : Addr} (o : HO) (hp : H p = none) : RH K r M (upd H p o) :=
  h.same (ext_new0 hp).toExt0 fun a m => by
    obtain ⟨ho, e, _⟩ := h.there m
    exact upd_ne (ne_of_none e hp)
theorem RH.new {M : Mm} (h : RH K r M H) {p : Addr} {ho : HO} {o : Ob} (hp : H p = none) (q : RO K (r ++ [p]) (upd H p ho) p o) : RH K (r ++ [p]) (M ++ [o]) (upd H p ho) := by
  have np : p ∉ r := fun m => by
    obtain ⟨ho, e, _⟩ := h.there m
    rw [hp] at e; cases e
  refine ⟨by simp [h.len], ?_, fun n a o' h1 h2 => ?_, fun a ha => (ext_new (r := r) hp []).tbs a (h.tb a ha)⟩
  · rw [List.nodup_append]
    refine ⟨h.nd, by simp, fun a ha b hb => ?_⟩
    have : b = p := by simpa using hb
    subst this
    exact fun z => np (z ▸ ha)
  · by_cases hn : n < r.length
    · rw [List.getElem?_append_left hn] at h1
      rw [List.getElem?_append_left (by rw [← h.len]; exact hn)] at h2
      refine (h.ob n a o' h1 h2).ext (ext_new hp [p]).toExt0 (upd_ne fun z => ?_)
      subst z
      exact np (List.mem_of_getElem? h1)
    · have h3 : n = r.length := by
        have := (List.getElem?_eq_some_iff.mp h1).1
        simp at this
        omega
      subst h3
      rw [List.getElem?_append_right (Nat.le_refl _)] at h1
      rw [h.len, List.getElem?_append_right (Nat.le_refl _)] at h2
      simp at h1 h2
      subst h1; subst h2
      exact q
theorem ext_set {a : Addr} {o : HO} {ho : HO} (h : H a = some ho) (m : Mut (some ho)) (ma : a ∈ r) (hx : Stays ho o := by exact ⟨(fun _ z => nomatch z), (fun _ z => nomatch z), (fun z => nomatch z)⟩) : Ext r r H (upd H a o) := by
  refine ⟨⟨⟨[], by simp⟩, fun b xs e => ?_, fun b q u e => ?_, .upd h hx, fun b ⟨ps, e, e2⟩ => ⟨ps, ?_, e2⟩⟩, fun b h1 h2 => absurd h1 h2, fun b q hb _ _ e => ?_, fun b q e => ?_⟩
  · rw [upd_ne]; exact e
    intro z; subst z; rw [h] at e; cases e; exact m
  · rw [upd_ne]; exact e
    intro z; subst z; rw [h] at e; cases e; exact m
  · rw [upd_ne]; exact e
    intro z; subst z; rw [h] at e; cases e; exact m
  · rw [upd_ne]; exact e
    intro z; subst z; exact hb ma
  · by_cases hb : b = a
    · subst hb; exact ⟨o, upd_same⟩
    · exact ⟨q, by rw [upd_ne hb]; exact e⟩
theorem RH.set {M : Mm} (h : RH K r M H) {n : Nat} {a : Addr} {ho h0 : HO} {o : Ob} (e0 : H a = some h0) (m0 : Mut (some h0)) (ha : r[n]? = some a) (q : RO K r (upd H a ho) a o) (hx : Stays h0 ho := by exact ⟨(fun _ z => nomatch z), (fun _ z => nomatch z), (fun z => nomatch z)⟩) : RH K r (M.set n o) (upd H a ho) := by
  refine ⟨by simp [h.len], h.nd, fun k b o' h1 h2 => ?_, fun b hb => (ext_set (r := r) (o := ho) e0 m0 (List.mem_of_getElem? ha) hx).tbs b (h.tb b hb)⟩
  by_cases hk : k = n
  · subst hk
    rw [ha] at h1; cases h1
    rw [List.getElem?_set_self (by rw [← h.len]; exact (List.getElem?_eq_some_iff.mp ha).1)] at h2
    cases h2
    exact q
  · rw [List.getElem?_set_ne (fun z => hk z.symm)] at h2
    refine (h.ob k b o' h1 h2).ext (ext_set e0 m0 (List.mem_of_getElem? ha) hx).toExt0 (upd_ne fun z => ?_)
    subst z
    exact hk (nodup_ixA h.nd h1 ha)
where
  nodup_ixA {N : List Addr} (hN : N.Nodup) {i j : Nat} {x : Addr} (a : N[i]? = some x) (b : N[j]? = some x) : i = j := by
    obtain ⟨h1, e1⟩ := List.getElem?_eq_some_iff.mp a
    obtain ⟨h2, e2⟩ := List.getElem?_eq_some_iff.mp b
    exact (List.getElem_inj hN).mp (e1.trans e2.symm)
structure RS (K : PySem.W.Frag) (r : List Addr) (H : Hp) (sg : Sg) (s : L2.St) : Prop where
  len : sg.length = s.length
  at_ : ∀ (i : Nat) (p : PV), sg[i]? = some (some p) → ∃ v : V, s[i]? = some (some v) ∧ RV K r H p v
theorem RS.ext {sg : Sg} {s : L2.St} (h : RS K r H sg s) (e : Ext r r' H H') : RS K r' H' sg s :=
  ⟨h.len, fun i p q => let ⟨v, h1, h2⟩ := h.at_ i p q; ⟨v, h1, h2.ext e⟩⟩
theorem RS.set {sg : Sg} {s : L2.St} (h : RS K r H sg s) (i : Nat) {p : PV} {v : V} (q : RV K r H p v) : RS K r H (sg.set i (some p)) (s.set i (some v)) :=
  ⟨by simp [h.len], fun j p' e => by
    by_cases hj : i = j
    · subst hj
      by_cases hl : i < sg.length
      · rw [List.getElem?_set_self hl] at e
        cases e
        exact ⟨v, List.getElem?_set_self (by rw [← h.len]; exact hl), q⟩
      · rw [List.getElem?_eq_none (by simpa using hl)] at e; cases e
    · rw [List.getElem?_set_ne hj] at e
      rw [List.getElem?_set_ne hj]
      exact h.at_ j p' e⟩
end
def Post (K : PySem.W.Frag) (r : List Addr) (H : Hp) (z : PV) (M' : Mm) (Q : VK) : Prop := ∀ r' u H', Ext r r' H H' → RH K r' M' H' → RV K r' H' z u → Q u H'
end Mp
namespace Mp
open PySem L2
inductive Co where
  | eq | ne | lt | le | gt | ge | isin | notin | isN | isNN | eqw
  deriving DecidableEq
inductive Ty where
  | list | tuple | int | bool | str | dict
  deriving DecidableEq
inductive B where
  | len | int | abs | min2 | all | any | sum | tuple | list | sorted | ssort | min1 | max1 | dict | str | sortp | sortd | sortk | ssortt | ssortL | ptuple | dictp
  deriving DecidableEq
inductive Mt where
  | append | pop0 | pop1 | extend | get1 | dpop2 | setd | get2
  deriving DecidableEq
inductive Dw where
  | keys | items | vals
  deriving DecidableEq
inductive Bo where
  | add | sub | mul | fdiv | mod | pow
  deriving DecidableEq
inductive Tg where
  | name (i : Nat) | tup (is : List Nat) | nst (i : Nat) (is : List Nat)
mutual
inductive E where
  | var (i : Nat) | con (v : PV)
  | bop (o : Bo) (a b : E) | neg (a : E)
  | cmp (o : Co) (a b : E) | chn (o1 o2 : Co) (a b c : E)
  | and (a b : E) | or (a b : E) | not (a : E) | ite (c a b : E)
  | tup (es : Es) | lst (es : Es) | dnew | dct (ks : List Key) (vs : Es)
  | idx (a i : E) | slc (fl fh : Bool) (a lo hi : E)
  | call (f : Nat) (es : Es)
  | blt (b : B) (es : Es) | mth (m : Mt) (o : E) (es : Es)
  | isi (a : E) (ts : List Ty)
  | fld (c f : Str) (o : E) | mc (c m : Str) (f : Nat) (o : E) (es : Es) | mcs (c m : Str) (f : Nat) (o : E) (es : Es)
  | knot (tb : List (Str × List (Nat × Str))) (a : E) | kidx (tb : List (Str × List (Nat × Str))) (a : E) | callv (i : Nat) (fs : List (Nat × Str)) (es : Es) | rev (a : E)
  | lc (own : List Nat) (t : Tg) (it : It) (c e : E)
  | ssc (own : List Nat) (t : Tg) (it : It) (c e : E)
  | lc2 (own own1 : List Nat) (t : Tg) (it : It) (c : E) (t1 : Tg) (it1 : It) (c1 e : E) | callp (f : Nat) (es : Es) (p : List Nat) | mcp (c m : Str) (f : Nat) (o : E) (es : Es) (p : List Nat)
  | lcd (k : Dw) (own : List Nat) (t : Tg) (d c e : E) | dcd (k : Dw) (own : List Nat) (t : Tg) (d c ke e : E) | isc (c : Str) (a : E) | oeq (c : Str) (f : Nat) (a b : E) | dzip (a b : E) | ten (a : E) | oeqn (c : Str) (f : Nat) (a b : E) | fmt (a : E) | fst (es : Es) | rpr (c : Str) (f : Nat) (o : E)
  | sii (o : E) | ssct (own : List Nat) (t : Tg) (it : It) (c e : E)
  | nxk (ir ip : Nat) (a b : E) | sld (c f : Str) (i : Nat) (o : E) | sit (o : E) | lmc (c : Str) (f : Nat) (o : E) | calld (f : Nat) (es : Es) (ds : List PV)
  | ptup (es : Es) | nxg (own : List Nat) (t : Tg) (it : It) (c e : E) | callpd (f : Nat) (es : Es) (p : List Nat) (ds : List PV)
inductive Es where
  | nil | cons (e : E) (r : Es)
inductive It where
  | seq (e : E) | rng1 (a : E) | rng2 (a b : E) | rng3 (a b c : E) | enum (e : E) | zip (a b : E) | own (c : Str) (i : Nat) (e : E)
end
mutual
inductive S where
  | asg (t : Tg) (e : E) | sto (o i v : E) | exp (e : E) | ret (e : E)
  | iff (c : E) (a b : Ss) | for_ (t : Tg) (it : It) (b : Ss) | whl (c : E) (b : Ss)
  | pass | brk | cnt | stuck | ford (k : Dw) (t : Tg) (d : E) (b : Ss)
  | fset (c f : Str) (o v : E) | faug (c f : Str) (o v : E) | sto2 (o1 i1 o2 i2 v : E) | sset (c f : Str) (i : Nat) (o v : E) | asgl (is : List Nat) (e : E) | sset2 (c f1 : Str) (i1 : Nat) (o1 : E) (f2 : Str) (i2 : Nat) (o2 v : E)
inductive Ss where
  | nil | cons (s : S) (r : Ss)
end
abbrev R := Option (PV × Mm)
def bigN : Nat := 1000000
def enP : Nat → List PV → List PV
  | _, [] => []
  | i, x :: xs => .tup [.int i, x] :: enP (i + 1) xs
def keyOf : PV → Option Key
  | .int i => some (.inl i)
  | .str s => some (.inr s)
  | _ => none
def getD (kvs : List (Key × PV)) (k : Key) : Option PV := (kvs.find? fun kv => decide (kv.1 = k)).map (·.2)
def putD (kvs : List (Key × PV)) (k : Key) (v : PV) : List (Key × PV) :=
  if (kvs.any fun kv => decide (kv.1 = k)) = true then kvs.map (fun kv => if kv.1 = k then (kv.1, v) else kv) else kvs ++ [(k, v)]
def lstAt (M : Mm) (n : Nat) : Option (List PV) :=
  match M[n]? with
  | some (.lst xs) => some xs
  | _ => none
def dicAt (M : Mm) (n : Nat) : Option (List (Key × PV)) :=
  match M[n]? with
  | some (.dic xs) => some xs
  | _ => none
def toD : Nat → Mm → PV → Option PyData
  | 0, _, _ => none
  | n + 1, M, .tup xs => (xs.mapM (toD n M)).map .tuple
  | n + 1, M, .ref k =>
    match M[k]? with
    | some (.lst xs) => (xs.mapM (toD n M)).map .list
    | _ => none
  | _ + 1, _, .non => some .none
  | _ + 1, _, .bl b => some (.bool b)
  | _ + 1, _, .int i => some (.int i)
  | _ + 1, _, .str s => some (.str s)
  | _ + 1, _, .cl ns => some (.list (ns.map .int))
  | _ + 1, _, .fn _ _ => none
  | n + 1, M, .ptup xs => (xs.mapM (toD n M)).map .tuple
def eqS : PV → PV → Option Bool
  | .non, .non => some true | .non, .int _ => some false | .int _, .non => some false | .non, .bl _ => some false | .bl _, .non => some false
  | .non, .str _ => some false | .str _, .non => some false
  | .int i, .int j => some (decide (i = j)) | .bl i, .bl j => some (decide (i = j)) | .str i, .str j => some (decide (i = j))
  | .int _, .str _ => some false | .str _, .int _ => some false | .bl _, .str _ => some false | .str _, .bl _ => some false
  | _, _ => none
def eqP (M : Mm) (x y : PV) : Option Bool :=
  match eqS x y with
  | some b => some b
  | none =>
    match toD 20 M x, toD 20 M y with
    | some d, some e => if SeqAt.shaped d && SeqAt.shaped e then some (PyData.eqv d e) else none
    | _, _ => none
def flatP : PV → Bool
  | .non => true | .bl _ => true | .int _ => true | .str _ => true | _ => false
def eqF : PV → PV → Bool
  | .non, .non => true
  | .bl i, .bl j => i == j | .int i, .int j => i == j | .str i, .str j => i == j
  | .bl a, .int j => (if a then 1 else 0) == j | .int i, .bl b => i == (if b then 1 else 0)
  | _, _ => false
def inP (x : PV) (xs : List PV) : Option Bool := if flatP x && xs.all flatP then some (xs.any fun y => eqF y x) else none
def sgn : PV → Option Nat
  | .str s => match s.cps.toList with | [c] => some c | _ => none
  | _ => none
def inD (M : Mm) (x : PV) (n : Nat) : Option Bool :=
  match toD 20 M x, toD 20 M (.ref n) with
  | some d, some (.list ds) => if SeqAt.shaped d && SeqAt.shaped (.list ds) && decide (PyData.depth d ≤ 60) then some (ds.any fun z => PyData.eqv z d) else none
  | _, _ => none
def inDT (M : Mm) (x : PV) (xs : List PV) : Option Bool :=
  match toD 20 M x, toD 20 M (.tup xs) with
  | some d, some (.tuple ds) => if SeqAt.shaped d && SeqAt.shaped (.tuple ds) && decide (PyData.depth d ≤ 60) then some (ds.any fun z => PyData.eqv z d) else none
  | _, _ => none
def isIn (M : Mm) (x : PV) : PV → Option Bool
  | .tup xs => (match inP x xs with | some b => some b | none => inDT M x xs)
  | .str z => (sgn x).map fun c => decide (c ∈ z.cps.toList)
  | .ref n =>
    match M[n]? with
    | some (.lst xs) => (match inP x xs with | some b => some b | none => inD M x n)
    | some (.dic kvs) => (keyOf x).map fun k => (getD kvs k).isSome
    | some (.frz kvs) => (keyOf x).map fun k => (getD kvs k).isSome
    | _ => none
  | _ => none
def allW (f : PV → PV → Option Bool) : List PV → List PV → Option Bool
  | [], [] => some true
  | x :: xs, y :: ys => match f x y, allW f xs ys with | some a, some b => some (a && b) | _, _ => none
  | _, _ => none
def allD (f : PV → PV → Option Bool) (ls : List (Key × PV)) : List (Key × PV) → Option Bool
  | [] => some true
  | (k, v) :: r => match getD ls k with | some u => (match f v u, allD f ls r with | some a, some b => some (a && b) | _, _ => none) | none => some false
def eqW : Nat → Mm → PV → PV → Option Bool
  | 0, _, _, _ => none
  | k + 1, M, x, y =>
    if flatP x && flatP y then some (eqF x y) else
    match x, y with
    | .tup xs, .tup ys => if xs.length = ys.length then allW (eqW k M) xs ys else (allW (eqW k M) (xs.take ys.length) (ys.take xs.length)).map fun _ => false
    | .ref n, .ref m =>
      if n = m then some true else
      match M[n]?, M[m]? with
      | some (.lst xs), some (.lst ys) => if xs.length = ys.length then allW (eqW k M) xs ys else some false
      | some (.dic ks), some (.dic ls) => if ks.length = ls.length then allD (eqW k M) ls ks else some false
      | _, _ => none
    | _, _ => none
def cmpP (M : Mm) : Co → PV → PV → Option Bool
  | .eq, x, y => eqP M x y
  | .ne, x, y => (eqP M x y).map (!·)
  | .lt, .int i, .int j => some (decide (i < j))
  | .le, .int i, .int j => some (decide (i ≤ j))
  | .gt, .int i, .int j => some (decide (j < i))
  | .ge, .int i, .int j => some (decide (j ≤ i))
  | .isin, x, y => isIn M x y
  | .notin, x, y => (isIn M x y).map (!·)
  | .isN, x, .non => some (match x with | .non => true | _ => false)
  | .isNN, x, .non => some (match x with | .non => false | _ => true)
  | .eqw, .tup xs, .tup ys => allW (eqW 12 M) xs ys
  | _, _, _ => none
def mulOk (i j : Int) : Bool := (decide (-(2 ^ 64) < i) && decide (i < 2 ^ 64)) || (decide (-(2 ^ 64) < j) && decide (j < 2 ^ 64))
def bopP (M : Mm) : Bo → PV → PV → R
  | .add, .int i, .int j => some (.int (i + j), M)
  | .add, .str a, .str b => if a.length + b.length ≤ sizeLine then some (.str (a ++ b), M) else none
  | .add, .tup xs, .tup ys => if xs.length + ys.length ≤ sizeLine then some (.tup (xs ++ ys), M) else none
  | .add, .ref a, .ref b =>
    match lstAt M a, lstAt M b with
    | some xs, some ys => if xs.length + ys.length ≤ sizeLine then some (.ref M.length, M ++ [.lst (xs ++ ys)]) else none
    | _, _ => none
  | .sub, .int i, .int j => some (.int (i - j), M)
  | .mul, .int i, .int j => if mulOk i j then some (.int (i * j), M) else none
  | .mul, .ref a, .int j =>
    match lstAt M a with
    | some xs => if -(2 ^ 63) ≤ j ∧ j < 2 ^ 63 ∧ xs.length * j.toNat ≤ sizeLine then some (.ref M.length, M ++ [.lst (List.replicate j.toNat xs).flatten]) else none
    | _ => none
  | .mul, .tup xs, .int j => if 0 ≤ j ∧ j ≤ 1000 ∧ xs.length ≤ 1000 then some (.tup (List.replicate j.toNat xs).flatten, M) else none
  | .fdiv, .int i, .int j => if 0 < j ∧ j < 1073741824 then some (.int (i / j), M) else none
  | .mod, .int i, .int j => if 0 < j then some (.int (i % j), M) else none
  | .pow, .int i, .int j => if 0 ≤ j ∧ j ≤ 1000000 ∧ i.natAbs < 2 ^ 64 then some (.int (i ^ j.toNat), M) else none
  | _, _, _ => none
def idxP (M : Mm) : PV → PV → Option PV
  | .tup xs, .int i => atI xs i
  | .cl ns, .int i => (atI ns i).map .int
  | .str z, .int i => if z.length ≤ sizeLine then (atI z.cps.toList i).map fun c => .str ⟨#[c]⟩ else none
  | .ref n, y =>
    match M[n]?, y with
    | some (.lst xs), .int i => atI xs i
    | some (.dic kvs), y => (keyOf y).bind (getD kvs)
    | some (.frz kvs), y => (keyOf y).bind (getD kvs)
    | _, _ => none
  | _, _ => none
def optI : Bool → PV → Option (Option Int)
  | false, .non => some none
  | true, .int i => some (some i)
  | _, _ => none
def cutP (xs : List PV) (lo hi : Option Int) : List PV := (xs.drop (HT.sIx xs.length 0 lo)).take (HT.sIx xs.length xs.length hi - HT.sIx xs.length 0 lo)
def slcP (fl fh : Bool) (M : Mm) (x lo hi : PV) : R :=
  match optI fl lo, optI fh hi with
  | some a, some b =>
    match x with
    | .tup xs => some (.tup (cutP xs a b), M)
    | .ref n =>
      match lstAt M n with
      | some xs => some (.ref M.length, M ++ [.lst (cutP xs a b)])
      | none => none
    | _ => none
  | _, _ => none
def tyOf (M : Mm) : PV → Option Ty
  | .bl _ => some .bool
  | .int _ => some .int
  | .str _ => some .str
  | .tup _ => some .tuple
  | .cl _ => some .list
  | .ref n =>
    match M[n]? with
    | some (.lst _) => some .list
    | some (.dic _) => some .dict
    | some (.ins _ _) => none
    | some (.slt _ _) => none
    | some (.frz _) => none
    | none => none
  | .non => none
  | .fn _ _ => none
  | .ptup _ => some .tuple
@[simp] def insP (M : Mm) : PV → Bool
  | .ref n =>
    match M[n]? with
    | some (.ins _ _) => true
    | some (.slt _ _) => true
    | some (.frz _) => true
    | _ => false
  | .fn _ _ => true
  | _ => false
def insAt (M : Mm) (c : Str) (n : Nat) : Option (List (Str × PV)) :=
  match M[n]? with
  | some (.ins d fs) => if d = c then some fs else none
  | _ => none
def sltAt (M : Mm) (c : Str) (n : Nat) : Option (List (Option PV)) :=
  match M[n]? with
  | some (.slt d vs) => if d = c then some vs else none
  | some (.ins d []) => if d = c then some [] else none
  | _ => none
def lstNon (M : Mm) : PV → Bool
  | .non => true
  | .ref n => (lstAt M n).isSome
  | _ => false
def joinS : Str → List PV → Option Str
  | acc, [] => some acc
  | acc, .str y :: r => if (acc ++ y).length ≤ sizeLine then joinS (acc ++ y) r else none
  | _, _ => none
def putP (i : Nat) (v : PV) (vs : List (Option PV)) : List (Option PV) := (vs ++ List.replicate (i + 1 - vs.length) none).set i (some v)
def minI : List Int → Option Int
  | [] => none
  | i :: r => some (r.foldl (fun a b => if b < a then b else a) i)
def maxI : List Int → Option Int
  | [] => none
  | i :: r => some (r.foldl (fun a b => if a < b then b else a) i)
def keyN (xs : List PV) (k : Nat) : Option Str :=
  match xs[k]? with
  | some (.tup (_ :: .str z :: _)) => some z
  | _ => none
def nxkP (xs : List PV) (z : Str) (i n : Nat) : PV :=
  match (List.range n).find? (fun t => keyN xs (i + t) == some z) with
  | some t => .int (i + t : Nat)
  | none => .non
def insS (e : Str × PV) : List (Str × PV) → List (Str × PV)
  | [] => [e]
  | f :: r => if e.1.cps.toList < f.1.cps.toList then e :: f :: r else f :: insS e r
def sortS (l : List (Str × PV)) : List (Str × PV) := l.foldr insS []
def kvsS : List (Key × PV) → Option (List (Str × PV))
  | [] => some []
  | (.inr k, .int i) :: r => (kvsS r).map ((k, .int i) :: ·)
  | _ => none
def kvsI : List (Key × PV) → Option (List (Int × PV))
  | [] => some []
  | (.inl k, v) :: r => (kvsI r).map ((k, v) :: ·)
  | _ => none
def insK (e : Int × PV) : List (Int × PV) → List (Int × PV)
  | [] => [e]
  | f :: r => if e.1 ≤ f.1 then e :: f :: r else f :: insK e r
def sortK (l : List (Int × PV)) : List (Int × PV) := l.foldr insK []
def prsS : List PV → Option (List (Str × PV))
  | [] => some []
  | .tup [.str k, .int i] :: r => (prsS r).map ((k, .int i) :: ·)
  | _ => none
def putA (f : Str) (v : PV) : List (Str × PV) → List (Str × PV)
  | [] => [(f, v)]
  | (g, x) :: r => if g = f then (g, v) :: r else (g, x) :: putA f v r
def isTy (M : Mm) (x : PV) (t : Ty) : Bool :=
  match tyOf M x with
  | some u => u == t || (u == .bool && t == .int)
  | none => false
def intsOf : List PV → Option (List Int)
  | [] => some []
  | .int i :: r => (intsOf r).map (i :: ·)
  | _ => none
def blsOf : List PV → Option (List Bool)
  | [] => some []
  | .bl i :: r => (blsOf r).map (i :: ·)
  | _ => none
def insI (i : Int) : List Int → List Int
  | [] => [i]
  | j :: r => if i ≤ j then i :: j :: r else j :: insI i r
def sortI (ns : List Int) : List Int := ns.foldr insI []
def insU (i : Int) : List Int → List Int
  | [] => [i]
  | j :: r => if i < j then i :: j :: r else if i = j then j :: r else j :: insU i r
def usortI (ns : List Int) : List Int := ns.foldr insU []
def insT (k : Str) : List Str → List Str
  | [] => [k]
  | f :: r => if k.cps.toList < f.cps.toList then k :: f :: r else if k = f then f :: r else f :: insT k r
def usortT (ks : List Str) : List Str := ks.foldr insT []
def strsOf : List PV → Option (List Str)
  | [] => some []
  | .str i :: r => (strsOf r).map (i :: ·)
  | _ => none
def seqOf (M : Mm) : PV → Option (List PV)
  | .tup xs => some xs
  | .ref n => lstAt M n
  | .cl ns => some (ns.map .int)
  | .ptup xs => some xs
  | _ => none
def prKV : PV → Option (Key × PV)
  | .tup [k, v] => (keyOf k).map fun k => (k, v)
  | _ => none
def keysI : List (Key × PV) → Option (List Int)
  | [] => some []
  | (.inl i, _) :: r => (keysI r).map (i :: ·)
  | _ => none
def keysT : List (Key × PV) → Option (List Str)
  | [] => some []
  | (.inr k, _) :: r => (keysT r).map (k :: ·)
  | _ => none
def tupB : PyData → Bool
  | .tuple (_ :: _) => true
  | _ => false
def strB : PyData → Bool
  | .str _ => true
  | _ => false
def sortOk (ds : List PyData) : Bool := (ds.all fun d => ds.all fun d' => PySem.W.alike d d') && (ds.all tupB || ds.all strB) && decide (ds.length ≤ 1000) && ds.all (fun d => decide (PyData.depth d ≤ 20))
def bltP (M : Mm) : B → List PV → R
  | .len, [x] =>
    match x with
    | .str z => if z.length ≤ sizeLine then some (.int z.length, M) else none
    | .ref n =>
      match M[n]? with
      | some (.lst xs) => some (.int xs.length, M)
      | some (.dic xs) => some (.int xs.length, M)
      | _ => none
    | .tup xs => some (.int xs.length, M)
    | .cl ns => some (.int ns.length, M)
    | _ => none
  | .int, [.int i] => some (.int i, M)
  | .int, [.bl b] => some (.int (if b then 1 else 0), M)
  | .abs, [.int i] => some (.int (if i < 0 then -i else i), M)
  | .min2, [.int i, .int j] => some (.int (if j < i then j else i), M)
  | .all, [.ref n] => ((lstAt M n).bind blsOf).map fun bs => (.bl (bs.all id), M)
  | .any, [.ref n] => ((lstAt M n).bind blsOf).map fun bs => (.bl (bs.any id), M)
  | .sum, [.ref n] => ((lstAt M n).bind intsOf).map fun ns => (.int ns.sum, M)
  | .sortp, [.ref n] => ((lstAt M n).bind prsS).bind fun l => if l.length < 64 ∧ (l.map (·.1)).Nodup then some (.ref M.length, M ++ [.lst ((sortS l).map fun e => .tup [.str e.1, e.2])]) else none
  | .sortd, [.ref n] => (lstAt M n).bind fun xs => (xs.mapM (toD 20 M)).bind fun ds => if sortOk ds then some (.ref M.length, M ++ [.lst (((xs.zip ds).mergeSort (PySem.W.dataLe false (fun b => b.2))).map (·.1))]) else none
  | .sortk, [.ref n] => (dicAt M n).bind fun kvs => (keysT kvs).bind fun ks => if ks.length < 64 ∧ ks.Nodup then some (.ref M.length, M ++ [.lst ((sortS (ks.map fun k => (k, .non))).map fun e => .str e.1)]) else none
  | .min1, [.ref n] => (((lstAt M n).bind intsOf).bind minI).map fun m => (.int m, M)
  | .max1, [.ref n] => (((lstAt M n).bind intsOf).bind maxI).map fun m => (.int m, M)
  | .tuple, [.ref n] => (lstAt M n).map fun xs => (.tup xs, M)
  | .tuple, [.tup xs] => some (.tup xs, M)
  | .list, [x] => (seqOf M x).map fun xs => (.ref M.length, M ++ [.lst xs])
  | .sorted, [.ref n] =>
    match M[n]? with
    | some (.lst xs) => (intsOf xs).bind fun ns => if ns.length < 64 then some (.ref M.length, M ++ [.lst ((sortI ns).map .int)]) else none
    | some (.dic kvs) => (keysI kvs).bind fun ns => if ns.length < 64 then some (.ref M.length, M ++ [.lst ((sortI ns).map .int)]) else none
    | _ => none
  | .ssort, [.ref n] => ((lstAt M n).bind intsOf).bind fun ns => if ns.length < 64 then some (.ref M.length, M ++ [.lst ((usortI ns).map .int)]) else none
  | .ssortL, [.ref n] => ((lstAt M n).bind intsOf).bind fun ns => if ns.length < 4000 ∧ (usortI ns).length < 64 then some (.ref M.length, M ++ [.lst ((usortI ns).map .int)]) else none
  | .ssortt, [.ref n] => ((lstAt M n).bind strsOf).bind fun ns => if ns.length < 64 then some (.ref M.length, M ++ [.lst ((usortT ns).map .str)]) else none
  | .str, [.int i] => if i.natAbs.log2 < 1920 then some (.str (Str.ofString (toString i)), M) else none
  | .dict, [.ref n] => (dicAt M n).map fun xs => (.ref M.length, M ++ [.dic xs])
  | .ptuple, [.ref n] => (lstAt M n).map fun xs => (.ptup xs, M)
  | .dictp, [.ptup xs] => (xs.mapM prKV).map fun ps => (.ref M.length, M ++ [.dic (ps.foldl (fun acc kv => putD acc kv.1 kv.2) [])])
  | _, _ => none
def dropD (kvs : List (Key × PV)) (k : Key) : List (Key × PV) := kvs.filter fun kv => decide (kv.1 ≠ k)
def mthP (M : Mm) : Mt → PV → List PV → R
  | .append, .ref n, [y] => (lstAt M n).bind fun xs => if xs.length < sizeLine then some (.non, M.set n (.lst (xs ++ [y]))) else none
  | .extend, .ref n, [.ref b] => (lstAt M n).bind fun xs => (lstAt M b).bind fun zs => if xs.length + zs.length ≤ sizeLine then some (.non, M.set n (.lst (xs ++ zs))) else none
  | .pop1, .ref n, [.int i] => (lstAt M n).bind fun xs => (ixN xs.length i).bind fun j => (xs[j]?).map fun y => (y, M.set n (.lst (xs.eraseIdx j)))
  | .dpop2, .ref n, [k, d] => (dicAt M n).bind fun kvs => (keyOf k).map fun k =>
    match getD kvs k with
    | some v => (v, M.set n (.dic (dropD kvs k)))
    | none => (d, M)
  | .setd, .ref n, [k, d] => (dicAt M n).bind fun kvs => (keyOf k).bind fun k =>
    if kvs.length < sizeLine then
      match getD kvs k with
      | some v => some (v, M)
      | none => some (d, M.set n (.dic (putD kvs k d)))
    else none
  | .get1, .ref n, [k] => (dicAt M n).bind fun kvs => (keyOf k).map fun k => ((getD kvs k).getD .non, M)
  | .get2, .ref n, [k, d] => (dicAt M n).bind fun kvs => (keyOf k).map fun k => ((getD kvs k).getD d, M)
  | _, _, _ => none
def mtOk (M : Mm) : Mt → PV → Bool
  | .append, .ref n => (lstAt M n).isSome
  | .pop0, .ref n => (lstAt M n).isSome
  | .pop1, .ref n => (lstAt M n).isSome
  | .extend, .ref n => (lstAt M n).isSome
  | .get1, .ref n => (dicAt M n).isSome
  | .get2, .ref n => (dicAt M n).isSome
  | .dpop2, .ref n => (dicAt M n).isSome
  | .setd, .ref n => (dicAt M n).isSome
  | _, _ => false
def stoP (M : Mm) (o i v : PV) : Option Mm :=
  match o with
  | .ref n =>
    match M[n]?, i with
    | some (.lst xs), .int k => (ixN xs.length k).map fun j => M.set n (.lst (xs.set j v))
    | some (.dic kvs), i => (keyOf i).bind fun k => if kvs.length < sizeLine then some (M.set n (.dic (putD kvs k v))) else none
    | _, _ => none
  | _ => none
def setAll : List Nat → List PV → Sg → Option Sg
  | [], [], sg => some sg
  | i :: is, x :: xs, sg => setAll is xs (sg.set i (some x))
  | _, _, _ => none
def tgP : Tg → Mm → PV → Sg → Option Sg
  | .name i, _, x, sg => some (sg.set i (some x))
  | .tup is, _, .tup xs, sg => setAll is xs sg
  | .tup is, M, .ref n, sg => (lstAt M n).bind fun xs => setAll is xs sg
  | .nst i is, _, .tup [x, .tup xs], sg => setAll is xs (sg.set i (some x))
  | .nst i is, M, .tup [x, .ref n], sg => (lstAt M n).bind fun xs => setAll is xs (sg.set i (some x))
  | _, _, _, _ => none
def wipeP (sg : Sg) : List Nat → Sg
  | [] => sg
  | v :: vs => (wipeP sg vs).set v none
inductive Src where
  | tup (xs : List PV) | lst (n : Nat) | cl (ns : List Int) | str (z : Str) | rng (lo : Int) (n : Nat) | rngc (lo c : Int) (n : Nat)
  | en (s : Src) | zip (s t : Src)
def Src.get (M : Mm) : Src → Nat → Option (Option PV)
  | .tup xs, i => some xs[i]?
  | .lst n, i => (lstAt M n).map fun xs => xs[i]?
  | .cl ns, i => some ((ns[i]?).map .int)
  | .str z, i => some ((z.cps[i]?).map fun c => .str ⟨#[c]⟩)
  | .rng lo n, i => some (if i < n then some (.int (lo + i)) else none)
  | .rngc lo c n, i => some (if i < n then some (.int (lo + i * c)) else none)
  | .en s, i => (s.get M i).map fun o => o.map fun x => .tup [.int i, x]
  | .zip s t, i =>
    match s.get M i, t.get M i with
    | some (some x), some (some y) => some (some (.tup [x, y]))
    | some none, some _ => some none
    | some (some _), some none => some none
    | _, _ => none
def srcOf (M : Mm) : PV → Option Src
  | .tup xs => some (.tup xs)
  | .ptup xs => some (.tup xs)
  | .ref n => (lstAt M n).map fun _ => .lst n
  | .cl ns => some (.cl ns)
  | .str z => some (.str z)
  | _ => none
def Src.isL : Src → Bool
  | .lst _ => true | .cl _ => true | _ => false
def Src.isT : Src → Bool
  | .tup _ => true | _ => false
def rngOk (i : Int) : Bool := decide (-(2 ^ 62) ≤ i) && decide (i < 2 ^ 62)
inductive Fl where
  | nx (sg : Sg) | brk (sg : Sg) | ct (sg : Sg) | ret (v : PV)
def forL (s : Src) (bind : Mm → PV → Sg → Option Sg) (body : Sg → Mm → Option (Fl × Mm)) : Nat → Nat → Sg → Mm → Option (Fl × Mm)
  | 0, _, _, _ => none
  | m + 1, i, sg, M =>
    match s.get M i with
    | none => none
    | some none => some (.nx sg, M)
    | some (some x) =>
      match bind M x sg with
      | none => none
      | some sg1 =>
        match body sg1 M with
        | none => none
        | some (.nx sg2, M2) => forL s bind body m (i + 1) sg2 M2
        | some (.ct sg2, M2) => forL s bind body m (i + 1) sg2 M2
        | some (.brk sg2, M2) => some (.nx sg2, M2)
        | some (.ret v, M2) => some (.ret v, M2)
def whlL (c : Sg → Mm → R) (body : Sg → Mm → Option (Fl × Mm)) : Nat → Sg → Mm → Option (Fl × Mm)
  | 0, _, _ => none
  | m + 1, sg, M =>
    match c sg M with
    | some (.bl true, M1) =>
      match body sg M1 with
      | none => none
      | some (.nx sg2, M2) => whlL c body m sg2 M2
      | some (.ct sg2, M2) => whlL c body m sg2 M2
      | some (.brk sg2, M2) => some (.nx sg2, M2)
      | some (.ret v, M2) => some (.ret v, M2)
    | some (.bl false, M1) => some (.nx sg, M1)
    | _ => none
def lcL (s : Src) (bind : Mm → PV → Sg → Option Sg) (c e : Sg → Mm → R) (d : Nat) (sg : Sg) : Nat → Nat → Mm → Option Mm
  | 0, _, _ => none
  | m + 1, i, M =>
    match s.get M i with
    | none => none
    | some none => some M
    | some (some x) =>
      match bind M x sg with
      | none => none
      | some sg1 =>
        match c sg1 M with
        | some (.bl true, M1) =>
          match e sg1 M1 with
          | none => none
          | some (y, M2) =>
            match lstAt M2 d with
            | none => none
            | some acc => if acc.length < sizeLine then lcL s bind c e d sg m (i + 1) (M2.set d (.lst (acc ++ [y]))) else none
        | some (.bl false, M1) => lcL s bind c e d sg m (i + 1) M1
        | _ => none
def nxL (s : Src) (bind : Mm → PV → Sg → Option Sg) (c e : Sg → Mm → R) (sg : Sg) : Nat → Nat → Mm → R
  | 0, _, _ => none
  | m + 1, i, M =>
    match s.get M i with
    | none => none
    | some none => some (.non, M)
    | some (some x) =>
      match bind M x sg with
      | none => none
      | some sg1 =>
        match c sg1 M with
        | some (.bl true, M1) => e sg1 M1
        | some (.bl false, M1) => nxL s bind c e sg m (i + 1) M1
        | _ => none
def lc2L (s : Src) (bind : Mm → PV → Sg → Option Sg) (c : Sg → Mm → R) (inner : Sg → Mm → Option Mm) (sg : Sg) : Nat → Nat → Mm → Option Mm
  | 0, _, _ => none
  | m + 1, i, M =>
    match s.get M i with
    | none => none
    | some none => some M
    | some (some x) =>
      match bind M x sg with
      | none => none
      | some sg1 =>
        match c sg1 M with
        | some (.bl true, M1) =>
          match inner sg1 M1 with
          | none => none
          | some M2 => lc2L s bind c inner sg m (i + 1) M2
        | some (.bl false, M1) => lc2L s bind c inner sg m (i + 1) M1
        | _ => none
def dcL (s : Src) (bind : Mm → PV → Sg → Option Sg) (c ke e : Sg → Mm → R) (d : Nat) (sg : Sg) : Nat → Nat → Mm → Option Mm
  | 0, _, _ => none
  | m + 1, i, M =>
    match s.get M i with
    | none => none
    | some none => some M
    | some (some x) =>
      match bind M x sg with
      | none => none
      | some sg1 =>
        match c sg1 M with
        | some (.bl true, M1) =>
          match ke sg1 M1 with
          | none => none
          | some (y, M2) =>
            match e sg1 M2 with
            | none => none
            | some (z, M3) =>
              match dicAt M3 d, keyOf y with
              | some acc, some q => if acc.length < sizeLine then dcL s bind c ke e d sg m (i + 1) (M3.set d (.dic (putD acc q z))) else none
              | _, _ => none
        | some (.bl false, M1) => dcL s bind c ke e d sg m (i + 1) M1
        | _ => none
def permP (xs : List PV) (p : List Nat) : Option (List PV) := p.mapM fun i => xs[i]?
def scL (s : Src) (bind : Mm → PV → Sg → Option Sg) (c e : Sg → Mm → R) (sg : Sg) : Nat → Nat → List Int → Mm → Option (List Int × Mm)
  | 0, _, _, _ => none
  | m + 1, i, acc, M =>
    match s.get M i with
    | none => none
    | some none => some (acc, M)
    | some (some x) =>
      match bind M x sg with
      | none => none
      | some sg1 =>
        match c sg1 M with
        | some (.bl true, M1) =>
          match e sg1 M1 with
          | some (.int y, M2) => if acc.length < 60 then scL s bind c e sg m (i + 1) (acc ++ [y]) M2 else none
          | _ => none
        | some (.bl false, M1) => scL s bind c e sg m (i + 1) acc M1
        | _ => none
def stL (s : Src) (bind : Mm → PV → Sg → Option Sg) (c e : Sg → Mm → R) (sg : Sg) : Nat → Nat → List Str → Mm → Option (List Str × Mm)
  | 0, _, _, _ => none
  | m + 1, i, acc, M =>
    match s.get M i with
    | none => none
    | some none => some (acc, M)
    | some (some x) =>
      match bind M x sg with
      | none => none
      | some sg1 =>
        match c sg1 M with
        | some (.bl true, M1) =>
          match e sg1 M1 with
          | some (.str y, M2) => if acc.length < 60 then stL s bind c e sg m (i + 1) (acc ++ [y]) M2 else none
          | _ => none
        | some (.bl false, M1) => stL s bind c e sg m (i + 1) acc M1
        | _ => none
def keyP : Key → PV
  | .inl i => .int i
  | .inr s => .str s
def dwL : Dw → List (Key × PV) → List PV
  | .keys, kvs => kvs.map fun e => keyP e.1
  | .vals, kvs => kvs.map fun e => e.2
  | .items, kvs => kvs.map fun e => .tup [keyP e.1, e.2]
abbrev CF := Nat → List PV → Mm → R
mutual
def evE (cf : CF) : E → Sg → Mm → R
  | .var i, sg, M => match sg[i]? with | some (some v) => some (v, M) | _ => none
  | .con v, _, M => some (v, M)
  | .bop o a b, sg, M =>
    match evE cf a sg M with
    | some (x, M1) => match evE cf b sg M1 with | some (y, M2) => bopP M2 o x y | none => none
    | none => none
  | .neg a, sg, M => match evE cf a sg M with | some (.int i, M1) => some (.int (-i), M1) | _ => none
  | .cmp o a b, sg, M =>
    match evE cf a sg M with
    | some (x, M1) => match evE cf b sg M1 with | some (y, M2) => (cmpP M2 o x y).map fun k => (.bl k, M2) | none => none
    | none => none
  | .chn o1 o2 a b c, sg, M =>
    match evE cf a sg M with
    | some (x, M1) =>
      match evE cf b sg M1 with
      | some (y, M2) =>
        match cmpP M2 o1 x y with
        | some true => match evE cf c sg M2 with | some (z, M3) => (cmpP M3 o2 y z).map fun k => (.bl k, M3) | none => none
        | some false => some (.bl false, M2)
        | none => none
      | none => none
    | none => none
  | .and a b, sg, M => match evE cf a sg M with | some (.bl true, M1) => evE cf b sg M1 | some (.bl false, M1) => some (.bl false, M1) | _ => none
  | .or a b, sg, M => match evE cf a sg M with | some (.bl true, M1) => some (.bl true, M1) | some (.bl false, M1) => evE cf b sg M1 | _ => none
  | .not a, sg, M => match evE cf a sg M with | some (.bl k, M1) => some (.bl (!k), M1) | _ => none
  | .ite c a b, sg, M => match evE cf c sg M with | some (.bl true, M1) => evE cf a sg M1 | some (.bl false, M1) => evE cf b sg M1 | _ => none
  | .tup es, sg, M => match evEs cf es sg M with | some (xs, M1) => if xs.length ≤ sizeLine then some (.tup xs, M1) else none | none => none
  | .ptup es, sg, M => match evEs cf es sg M with | some (xs, M1) => if xs.length ≤ sizeLine then some (.ptup xs, M1) else none | none => none
  | .lst es, sg, M => match evEs cf es sg M with | some (xs, M1) => if xs.length ≤ sizeLine then some (.ref M1.length, M1 ++ [.lst xs]) else none | none => none
  | .dnew, _, M => some (.ref M.length, M ++ [.dic []])
  | .dct ks vs, sg, M =>
    match evEs cf vs sg (M ++ [.dic []]) with
    | some (xs, M1) =>
      if xs.length = ks.length ∧ ks.length ≤ 15 then
        match dicAt M1 M.length with
        | some [] => some (.ref M.length, M1.set M.length (.dic ((ks.zip xs).foldl (fun acc kv => putD acc kv.1 kv.2) [])))
        | _ => none
      else none
    | none => none
  | .idx a i, sg, M =>
    match evE cf a sg M with
    | some (x, M1) => match evE cf i sg M1 with | some (y, M2) => (idxP M2 x y).map fun v => (v, M2) | none => none
    | none => none
  | .slc fl fh a lo hi, sg, M =>
    match evE cf a sg M with
    | some (x, M1) =>
      match evE cf lo sg M1 with
      | some (y, M2) => match evE cf hi sg M2 with | some (z, M3) => slcP fl fh M3 x y z | none => none
      | none => none
    | none => none
  | .call f es, sg, M => match evEs cf es sg M with | some (xs, M1) => cf f xs M1 | none => none
  | .calld f es ds, sg, M => match evEs cf es sg M with | some (xs, M1) => cf f (xs ++ ds) M1 | none => none
  | .blt b es, sg, M => match evEs cf es sg M with | some (xs, M1) => bltP M1 b xs | none => none
  | .mth m o es, sg, M =>
    match evE cf o sg M with
    | some (x, M1) => if mtOk M1 m x then (match evEs cf es sg M1 with | some (xs, M2) => mthP M2 m x xs | none => none) else none
    | none => none
  | .isi a ts, sg, M => match evE cf a sg M with | some (x, M1) => if insP M1 x then none else some (.bl (ts.any (isTy M1 x)), M1) | none => none
  | .nxk ir ip a b, sg, M =>
    match evE cf a sg M with
    | some (.int i, M1) =>
      match evE cf b sg M1 with
      | some (.int j, M2) =>
        match sg[ir]?, sg[ip]? with
        | some (some (.ref n)), some (some (.int p)) =>
          match lstAt M2 n with
          | some xs =>
            match keyN xs p.toNat with
            | some z => if 0 ≤ p ∧ p < 2 ^ 62 ∧ 0 ≤ i ∧ i < 2 ^ 62 ∧ 0 ≤ j ∧ j < 2 ^ 62 ∧ (∀ t ∈ List.range (j - i).toNat, (keyN xs (i.toNat + t)).isSome = true) then some (nxkP xs z i.toNat (j - i).toNat, M2) else none
            | none => none
          | none => none
        | _, _ => none
      | _ => none
    | _ => none
  | .sld c _ i o, sg, M =>
    match evE cf o sg M with
    | some (.ref n, M1) => (sltAt M1 c n).bind fun vs => match vs[i]? with | some (some v) => some (v, M1) | _ => none
    | _ => none
  | .sit o, sg, M =>
    match evE cf o sg M with
    | some (.ref n, M1) => ((dicAt M1 n).bind kvsS).bind fun l => if l.length < 64 then some (.ref M1.length, M1 ++ [.lst ((sortS l).map fun e => .tup [.str e.1, e.2])]) else none
    | _ => none
  | .sii o, sg, M =>
    match evE cf o sg M with
    | some (.ref n, M1) => ((dicAt M1 n).bind kvsI).bind fun l => if l.length < 64 then some (.ref M1.length, M1 ++ [.lst ((sortK l).map fun e => .tup [.int e.1, e.2])]) else none
    | _ => none
  | .ssct own t it c e, sg, M =>
    match evI cf it sg M with
    | some (s, M1) => (stL s (tgP t) (fun sg M => evE cf c sg M) (fun sg M => evE cf e sg M) (wipeP sg own) bigN 0 [] M1).map fun q => (.ref q.2.length, q.2 ++ [.lst ((usortT q.1).map .str)])
    | none => none
  | .lmc c f o, sg, M =>
    match evE cf o sg M with
    | some (.ref n, M1) =>
      match insAt M1 c n with
      | some _ => match cf f [.ref n] M1 with | some (.int k, M2) => if 0 ≤ k ∧ k < 2 ^ 62 then some (.int k, M2) else none | _ => none
      | none => none
    | _ => none
  | .fld c f o, sg, M =>
    match evE cf o sg M with
    | some (.ref n, M1) => (insAt M1 c n).bind fun fs => (fs.lookup f).map fun v => (v, M1)
    | _ => none
  | .knot tb a, sg, M => match evE cf a sg M with | some (.str z, M1) => some (.bl (!(tb.any fun q => decide (q.1 = z))), M1) | _ => none
  | .kidx tb a, sg, M =>
    match evE cf a sg M with
    | some (.str z, M1) => (tb.find? fun q => decide (q.1 = z)).map fun q => (.tup (q.2.map fun p => .fn p.1 p.2), M1)
    | _ => none
  | .callv i fs es, sg, M =>
    match sg[i]? with
    | some (some (.fn n x)) => if (n, x) ∈ fs then (match evEs cf es sg M with | some (xs, M1) => cf n xs M1 | none => none) else none
    | _ => none
  | .rev a, sg, M => match evE cf a sg M with | some (.tup xs, M1) => some (.tup xs.reverse, M1) | _ => none
  | .mc c m f o es, sg, M =>
    match evE cf o sg M with
    | some (.ref n, M1) =>
      match insAt M1 c n with
      | some fs => if (fs.lookup m).isNone then (match evEs cf es sg M1 with | some (xs, M2) => cf f (.ref n :: xs) M2 | none => none) else none
      | none => none
    | _ => none
  | .mcs c m f o es, sg, M =>
    match evE cf o sg M with
    | some (.ref n, M1) =>
      match sltAt M1 c n with
      | some _ => match evEs cf es sg M1 with | some (xs, M2) => cf f (.ref n :: xs) M2 | none => none
      | none => none
    | _ => none
  | .lc own t it c e, sg, M =>
    match evI cf it sg M with
    | some (s, M1) => (lcL s (tgP t) (fun sg M => evE cf c sg M) (fun sg M => evE cf e sg M) M1.length (wipeP sg own) bigN 0 (M1 ++ [.lst []])).map fun M2 => (.ref M1.length, M2)
    | none => none
  | .nxg own t it c e, sg, M =>
    match evI cf it sg M with
    | some (s, M1) => nxL s (tgP t) (fun sg M => evE cf c sg M) (fun sg M => evE cf e sg M) (wipeP sg own) bigN 0 M1
    | none => none
  | .lc2 own own1 t it c t1 it1 c1 e, sg, M =>
    match evI cf it sg M with
    | some (s, M1) => (lc2L s (tgP t) (fun sg M => evE cf c sg M) (fun sg2 M2 =>
        match evI cf it1 sg2 M2 with
        | some (s1, M3) => lcL s1 (tgP t1) (fun sg M => evE cf c1 sg M) (fun sg M => evE cf e sg M) M1.length (wipeP sg2 own1) bigN 0 M3
        | none => none) (wipeP sg own) bigN 0 (M1 ++ [.lst []])).map fun M2 => (.ref M1.length, M2)
    | none => none
  | .mcp c m f o es p, sg, M =>
    match evE cf o sg M with
    | some (.ref n, M1) =>
      match insAt M1 c n with
      | some fs => if (fs.lookup m).isNone then (match evEs cf es sg M1 with | some (xs, M2) => (permP xs p).bind fun ys => cf f (.ref n :: ys) M2 | none => none) else none
      | none => none
    | _ => none
  | .lcd k own t d c e, sg, M =>
    match evE cf d sg M with
    | some (.ref n, _) =>
      match dicAt M n with
      | some kvs =>
        match evE cf d sg (M.set n (.frz kvs)) with
        | some (.ref m, M1) =>
          if m = n then
            (lcL (.tup (dwL k kvs)) (tgP t) (fun sg M => evE cf c sg M) (fun sg M => evE cf e sg M) M1.length (wipeP sg own) bigN 0 (M1 ++ [.lst []])).map fun M2 => (.ref M1.length, M2.set n (.dic kvs))
          else none
        | _ => none
      | none => none
    | _ => none
  | .dcd k own t d c ke e, sg, M =>
    match evE cf d sg M with
    | some (.ref n, _) =>
      match dicAt M n with
      | some kvs =>
        match evE cf d sg (M.set n (.frz kvs)) with
        | some (.ref m, M1) =>
          if m = n then
            (dcL (.tup (dwL k kvs)) (tgP t) (fun sg M => evE cf c sg M) (fun sg M => evE cf ke sg M) (fun sg M => evE cf e sg M) M1.length (wipeP sg own) bigN 0 (M1 ++ [.dic []])).map fun M2 => (.ref M1.length, M2.set n (.dic kvs))
          else none
        | _ => none
      | none => none
    | _ => none
  | .ten a, sg, M =>
    match evE cf a sg M with
    | some (.tup xs, M1) => some (.tup (enP 0 xs), M1)
    | some (.ref n, M1) => (lstAt M1 n).map fun xs => (.tup (enP 0 xs), M1)
    | _ => none
  | .dzip a b, sg, M =>
    match evE cf a sg M with
    | some (.ref n, M1) =>
      match evE cf b sg M1 with
      | some (.ref m, M2) =>
        match lstAt M2 n, lstAt M2 m with
        | some xs, some ys =>
          match xs.mapM keyOf with
          | some ks => some (.ref M2.length, M2 ++ [.dic ((ks.zip ys).foldl (fun acc kv => putD acc kv.1 kv.2) [])])
          | none => none
        | _, _ => none
      | _ => none
    | _ => none
  | .isc c a, sg, M =>
    match evE cf a sg M with
    | some (.ref n, M1) => match insAt M1 c n with | some _ => some (.bl true, M1) | none => (lstAt M1 n).map fun _ => (.bl false, M1)
    | some (.non, M1) => some (.bl false, M1)
    | _ => none
  | .oeq c f a b, sg, M =>
    match evE cf a sg M with
    | some (.ref n, M1) =>
      match evE cf b sg M1 with
      | some (.ref m, M2) =>
        match insAt M2 c n, insAt M2 c m with
        | some _, some _ => match cf f [.ref n, .ref m] M2 with | some (.bl q, M3) => some (.bl q, M3) | _ => none
        | _, _ => none
      | _ => none
    | _ => none
  | .oeqn c f a b, sg, M =>
    match evE cf a sg M with
    | some (.ref n, M1) =>
      match evE cf b sg M1 with
      | some (y, M2) =>
        match insAt M2 c n with
        | some _ => if lstNon M2 y then (match cf f [.ref n, y] M2 with | some (.bl q, M3) => some (.bl q, M3) | _ => none) else none
        | none => none
      | none => none
    | _ => none
  | .fmt a, sg, M =>
    match evE cf a sg M with
    | some (.str y, M1) => if y.length ≤ sizeLine then some (.str y, M1) else none
    | some (.int i, M1) => if i.natAbs.log2 < 1920 then some (.str (Str.ofString (toString i)), M1) else none
    | _ => none
  | .fst es, sg, M => match evEs cf es sg M with | some (xs, M1) => (joinS Str.empty xs).map fun y => (.str y, M1) | none => none
  | .rpr c f o, sg, M =>
    match evE cf o sg M with
    | some (.ref n, M1) =>
      match insAt M1 c n with
      | some _ => match cf f [.ref n] M1 with | some (.str y, M2) => some (.str y, M2) | _ => none
      | none => none
    | _ => none
  | .callp f es p, sg, M => match evEs cf es sg M with | some (xs, M1) => (permP xs p).bind fun ys => cf f ys M1 | none => none
  | .callpd f es p ds, sg, M => match evEs cf es sg M with | some (xs, M1) => (permP xs p).bind fun ys => cf f (ys ++ ds) M1 | none => none
  | .ssc own t it c e, sg, M =>
    match evI cf it sg M with
    | some (s, M1) => (scL s (tgP t) (fun sg M => evE cf c sg M) (fun sg M => evE cf e sg M) (wipeP sg own) bigN 0 [] M1).map fun q => (.ref q.2.length, q.2 ++ [.lst ((usortI q.1).map .int)])
    | none => none
def evEs (cf : CF) : Es → Sg → Mm → Option (List PV × Mm)
  | .nil, _, M => some ([], M)
  | .cons e r, sg, M =>
    match evE cf e sg M with
    | some (x, M1) => match evEs cf r sg M1 with | some (xs, M2) => some (x :: xs, M2) | none => none
    | none => none
def evI (cf : CF) : It → Sg → Mm → Option (Src × Mm)
  | .seq e, sg, M => match evE cf e sg M with | some (x, M1) => (srcOf M1 x).map fun s => (s, M1) | none => none
  | .own c i e, sg, M =>
    match evE cf e sg M with
    | some (.ref n, M1) =>
      match sltAt M1 c n with
      | some vs => match vs[i]? with | some (some (.ref m)) => (lstAt M1 m).map fun _ => (.lst m, M1) | _ => none
      | none => none
    | _ => none
  | .rng1 a, sg, M => match evE cf a sg M with | some (.int j, M1) => if rngOk j then some (.rng 0 j.toNat, M1) else none | _ => none
  | .rng2 a b, sg, M =>
    match evE cf a sg M with
    | some (.int i, M1) => match evE cf b sg M1 with | some (.int j, M2) => if rngOk i && rngOk j then some (.rng i (j - i).toNat, M2) else none | _ => none
    | _ => none
  | .rng3 a b c, sg, M =>
    match evE cf a sg M with
    | some (.int i, M1) =>
      match evE cf b sg M1 with
      | some (.int j, M2) =>
        match evE cf c sg M2 with
        | some (.int k, M3) => if rngOk i && rngOk j && decide (k = -1) then some (.rngc i (-1) (i - j).toNat, M3) else none
        | _ => none
      | _ => none
    | _ => none
  | .enum e, sg, M =>
    match evE cf e sg M with
    | some (x, M1) => match srcOf M1 x with | some s => if s.isL || s.isT then some (.en s, M1) else none | none => none
    | none => none
  | .zip a b, sg, M =>
    match evE cf a sg M with
    | some (x, M1) =>
      match evE cf b sg M1 with
      | some (y, M2) =>
        match srcOf M2 x, srcOf M2 y with
        | some s, some t => if (s.isL && t.isL) || (s.isT && t.isT) || (s.isT && t.isL) then some (.zip s t, M2) else none
        | _, _ => none
      | none => none
    | none => none
end
mutual
def evS (cf : CF) : S → Sg → Mm → Option (Fl × Mm)
  | .asg t e, sg, M => match evE cf e sg M with | some (x, M1) => (tgP t M1 x sg).map fun sg1 => (.nx sg1, M1) | none => none
  | .sto o i v, sg, M =>
    match evE cf v sg M with
    | some (x, M1) =>
      match evE cf o sg M1 with
      | some (y, M2) => match evE cf i sg M2 with | some (z, M3) => (stoP M3 y z x).map fun M4 => (.nx sg, M4) | none => none
      | none => none
    | none => none
  | .exp e, sg, M => match evE cf e sg M with | some (_, M1) => some (.nx sg, M1) | none => none
  | .ret e, sg, M => match evE cf e sg M with | some (x, M1) => some (.ret x, M1) | none => none
  | .iff c a b, sg, M => match evE cf c sg M with | some (.bl true, M1) => evSs cf a sg M1 | some (.bl false, M1) => evSs cf b sg M1 | _ => none
  | .for_ t it b, sg, M => match evI cf it sg M with | some (s, M1) => forL s (tgP t) (fun sg M => evSs cf b sg M) bigN 0 sg M1 | none => none
  | .ford k t d b, sg, M =>
    match evE cf d sg M with
    | some (.ref n, _) =>
      match dicAt M n with
      | some kvs =>
        match evE cf d sg (M.set n (.frz kvs)) with
        | some (.ref m, M1) => if m = n then (forL (.tup (dwL k kvs)) (tgP t) (fun sg M => evSs cf b sg M) bigN 0 sg M1).map fun q => (q.1, q.2.set n (.dic kvs)) else none
        | _ => none
      | none => none
    | _ => none
  | .whl c b, sg, M => whlL (fun sg M => evE cf c sg M) (fun sg M => evSs cf b sg M) bigN sg M
  | .pass, sg, M => some (.nx sg, M)
  | .brk, sg, M => some (.brk sg, M)
  | .cnt, sg, M => some (.ct sg, M)
  | .stuck, _, _ => none
  | .fset c f o v, sg, M =>
    match evE cf v sg M with
    | some (x, M1) =>
      match evE cf o sg M1 with
      | some (.ref n, M2) =>
        match insAt M2 c n with
        | some fs => if fs.length < 1000 then some (.nx sg, M2.set n (.ins c (putA f x fs))) else none
        | none => none
      | _ => none
    | none => none
  | .asgl is e, sg, M =>
    match evE cf e sg M with
    | some (.ref n, M1) => (lstAt M1 n).bind fun xs => (setAll is xs sg).map fun sg1 => (.nx sg1, M1)
    | _ => none
  | .sset c _ i o v, sg, M =>
    match evE cf v sg M with
    | some (x, M1) =>
      match evE cf o sg M1 with
      | some (.ref n, M2) =>
        match sltAt M2 c n with
        | some vs => some (.nx sg, M2.set n (.slt c (putP i x vs)))
        | none => none
      | _ => none
    | none => none
  | .sset2 c _ i1 o1 _ i2 o2 v, sg, M =>
    match evE cf v sg M with
    | some (.tup [x, y], M1) =>
      match evE cf o1 sg M1 with
      | some (.ref n, M2) =>
        match sltAt M2 c n with
        | some vs =>
          match evE cf o2 sg (M2.set n (.slt c (putP i1 x vs))) with
          | some (.ref m, M3) =>
            match sltAt M3 c m with
            | some us => some (.nx sg, M3.set m (.slt c (putP i2 y us)))
            | none => none
          | _ => none
        | none => none
      | _ => none
    | _ => none
  | .sto2 o1 i1 o2 i2 v, sg, M =>
    match evE cf v sg M with
    | some (.tup [x, y], M1) =>
      match evE cf o1 sg M1 with
      | some (p, M2) =>
        match evE cf i1 sg M2 with
        | some (q, M3) =>
          match stoP M3 p q x with
          | some M4 =>
            match evE cf o2 sg M4 with
            | some (p2, M5) =>
              match evE cf i2 sg M5 with
              | some (q2, M6) => (stoP M6 p2 q2 y).map fun M7 => (.nx sg, M7)
              | none => none
            | none => none
          | none => none
        | none => none
      | none => none
    | _ => none
  | .faug c f o v, sg, M =>
    match evE cf o sg M with
    | some (.ref n, M1) =>
      match insAt M1 c n with
      | some fs =>
        match fs.lookup f with
        | some (.int i) =>
          match evE cf v sg M1 with
          | some (.int j, M2) =>
            match insAt M2 c n with
            | some gs => if gs.length < 1000 then some (.nx sg, M2.set n (.ins c (putA f (.int (i + j)) gs))) else none
            | none => none
          | _ => none
        | _ => none
      | none => none
    | _ => none
def evSs (cf : CF) : Ss → Sg → Mm → Option (Fl × Mm)
  | .nil, sg, M => some (.nx sg, M)
  | .cons s r, sg, M =>
    match evS cf s sg M with
    | some (.nx sg1, M1) => evSs cf r sg1 M1
    | o => o
end
structure Df where
  np : Nat
  ns : Nat
  body : Ss
def runD (cf : CF) (d : Df) (xs : List PV) (M : Mm) : R :=
  if xs.length = d.np then
    match evSs cf d.body (xs.map some ++ List.replicate (d.ns - d.np) none) M with
    | some (.ret v, M1) => some (v, M1)
    | some (.nx _, M1) => some (.non, M1)
    | _ => none
  else none
abbrev Err := Str × List (Str × PV)
abbrev XF := Nat → List PV → Mm → Option (Err × Mm)
inductive Xp where
  | rais (c f : Str) (e : E)
  | call (n : Nat) (es : Es)
  | ifT (c : E) (p : Xp)
  | ifF (c : E) (p : Xp)
  | nx (s : S) (p : Xp)
def xpE (cf : CF) (xf : XF) : Xp → Sg → Mm → Option (Err × Sg × Mm)
  | .rais c f e, sg, M => match evE cf e sg M with | some (v, M1) => some ((c, [(f, v)]), sg, M1) | none => none
  | .call n es, sg, M => match evEs cf es sg M with | some (vs, M1) => (xf n vs M1).map fun q => (q.1, sg, q.2) | none => none
  | .ifT c p, sg, M => match evE cf c sg M with | some (.bl true, M1) => xpE cf xf p sg M1 | _ => none
  | .ifF c p, sg, M => match evE cf c sg M with | some (.bl false, M1) => xpE cf xf p sg M1 | _ => none
  | .nx s p, sg, M => match evS cf s sg M with | some (.nx sg1, M1) => xpE cf xf p sg1 M1 | _ => none
def runX (cf : CF) (xf : XF) (d : Df) (ps : List Xp) (xs : List PV) (M : Mm) : Option (Err × Mm) :=
  if xs.length = d.np then ps.findSome? fun p => (xpE cf xf p (xs.map some ++ List.replicate (d.ns - d.np) none) M).map fun q => (q.1, q.2.2) else none
def refE (xf : XF) (m : Nat) (xs : List PV) (M : Mm) : R :=
  match xf m xs M with
  | some ((c, [(fl, v)]), M1) => if c = ("NotJoined" : Str) ∧ fl = ("reader" : Str) then some (v, M1) else none
  | _ => none
def refQ (s : Str) (r : R) : R := r.map fun q => (.tup [.str s, q.1], q.2)
inductive Dx where
  | fn (d : Df) | mk (c : Str) (i : Nat) | cat (d : Df) (ps : List Xp) | catq (d : Df) (ps : List Xp) (s : Str)
def mkD (cf : CF) (c : Str) (i : Nat) (xs : List PV) (M : Mm) : R :=
  match cf i (.ref M.length :: xs) (M ++ [.ins c []]) with
  | some (.non, M1) => some (.ref M.length, M1)
  | _ => none
def cfN (tab : Nat → Option Dx) : Nat → CF
  | 0 => fun _ _ _ => none
  | k + 1 => fun f xs M =>
    match tab f with
    | some (.fn d) => runD (cfN tab k) d xs M
    | some (.mk c i) => mkD (cfN tab k) c i xs M
    | some (.cat d ps) => refE (fun _ => runX (cfN tab k) (fun _ _ _ => none) d ps) 0 xs M
    | some (.catq d ps s) => refQ s (refE (fun _ => runX (cfN tab k) (fun _ _ _ => none) d ps) 0 xs M)
    | none => none
end Mp
namespace L2
open PySem PySem.Spec PyProof.Rows
theorem tuple_mul1 (l : Addr) (items : Array Value) (n : Nat) (dd : Option Addr) (sl : Array (Option Value)) (x : Int) (u : Tok) (c0 : (decide (x < -(2 ^ 63)) || decide (x ≥ 2 ^ 63)) = false) (c1 : (items.isEmpty || x == 1) = true) :
    Meets (Builtin.«tuple.__mul__» ⟨[.ref l, .int x u], []⟩) (fun _ R s => s.heap.get? l = some { cls := .type "tuple", dict := dd, data := .seq items n, slots := sl } ∧ R (.ok (.ret (Value.ref l))) s) :=
  .of_wp fun prog w A R s h => by
    obtain ⟨hp, g, d, tk, os⟩ := s
    obtain ⟨hl, h⟩ := h
    have f1 := AutoSeq1.idx_int
    wp_walk using wpAny_loadPart' hl
    repeat (first
      | (refine wpAny_ite_false (decide_eq_false (by rw [c0]; exact Bool.false_ne_true)) ?_; wp_walk using wpAny_loadPart' hl)
      | (refine wpAny_ite_true (decide_eq_true c1) ?_; wp_walk using wpAny_loadPart' hl))
    exact ⟨_, rfl, h⟩
theorem tuple_mul0 (l : Addr) (items : Array Value) (n : Nat) (dd : Option Addr) (sl : Array (Option Value)) (x : Int) (u : Tok) (c0 : (decide (x < -(2 ^ 63)) || decide (x ≥ 2 ^ 63)) = false) (c1 : (items.isEmpty || x == 1) = false) (c2 : (decide (x ≤ 0) || items.isEmpty) = true) :
    Meets (Builtin.«tuple.__mul__» ⟨[.ref l, .int x u], []⟩) (fun _ R s => s.heap.get? l = some { cls := .type "tuple", dict := dd, data := .seq items n, slots := sl } ∧
      R (.ok (.ret (Value.ref s.heap.objs.size))) { s with heap := s.heap.push { cls := Value.type "tuple", data := Data.seq #[] }, toks := s.toks }) :=
  .of_wp fun prog w A R s h => by
    obtain ⟨hp, g, d, tk, os⟩ := s
    obtain ⟨hl, h⟩ := h
    have f1 := AutoSeq1.idx_int
    wp_walk using wpAny_loadPart' hl
    repeat (first
      | (refine wpAny_ite_false (decide_eq_false (by rw [c0]; exact Bool.false_ne_true)) ?_; wp_walk using wpAny_loadPart' hl)
      | (refine wpAny_ite_false (decide_eq_false (by rw [c1]; exact Bool.false_ne_true)) ?_; wp_walk using wpAny_loadPart' hl)
      | (refine wpAny_ite_true (decide_eq_true c2) ?_; wp_walk using wpAny_loadPart' hl))
    exact ⟨_, rfl, h⟩
def rRepT01 (K : PySem.W.Frag) : R2 := fun x y H Q => ∃ l k xs, x = .ref l ∧ y = .int k ∧ SqT K H l xs ∧ 0 ≤ k ∧ k ≤ 1000 ∧ (((k = 1 ∨ xs = []) ∧ Q (.ref l) H) ∨ (xs ≠ [] ∧ k = 0 ∧ ∀ p, H p = none → Q (.ref p) (upd H p (.tup []))))
section
variable {X : Cx}
theorem op_repT01 : OpR X (binaryOp .Mult) (rRepT01 X.K) := by
  intro pins s σ H x y v u Q I rx ry h
  obtain ⟨l, k, xs, rfl, rfl, hT, k0, k9, q⟩ := h
  cases rx
  obtain ⟨t, rfl⟩ := ry
  obtain ⟨its, r, ⟨⟨cls, dd, data, sl⟩, ho, hc, n, hd⟩, hs⟩ := I.tuple hT
  simp only at hc hd
  subst hc hd
  have hle : its.length = xs.length := r.length.symm
  have hb : (decide (k < -(2 ^ 63)) || decide (k ≥ 2 ^ 63)) = false := by simp; omega
  rcases q with ⟨hk, q⟩ | ⟨hne, rfl, q⟩
  · have c1 : (its.toArray.isEmpty || k == 1) = true := by
      rcases hk with rfl | rfl
      · simp
      · have : its = [] := List.eq_nil_of_length_eq_zero (by rw [hle]; rfl)
        subst this; rfl
    refine wpAny_binaryOp_repeat_ref (T := "tuple") (U := "int") (by decide) ⟨_, ho, rfl⟩ (fun s' => typeIs_int s' k t) noFill_tuple_mul F.fills_int_mul F.slot_int_rmul repeat_tuple F.slot_int_index.lookup
      (call_meets F.slot_int_rmul (typeIs_int s k t) F.entry_int_rmul (F.args_int_rmul_2 _ _) (int_rmul_tuple k t l its.toArray n dd sl)
        ⟨ho, rfl, ⟨_, ho, rfl⟩, call_meets F.slot_tuple_mul ⟨_, ho, rfl⟩ F.entry_tuple_mul (F.args_tuple_mul_2 _ _) (tuple_mul1 l its.toArray n dd sl k t hb c1) ⟨ho, ?_⟩⟩)
    exact ⟨.ref l, H, I, rfl, q⟩
  · have hn : its ≠ [] := fun e => hne (by
      rw [e] at hle
      exact List.eq_nil_of_length_eq_zero hle.symm)
    have hi : its.toArray.isEmpty = false := by
      cases its with
      | nil => exact absurd rfl hn
      | cons a b => rfl
    refine wpAny_binaryOp_repeat_ref (T := "tuple") (U := "int") (by decide) ⟨_, ho, rfl⟩ (fun s' => typeIs_int s' 0 t) noFill_tuple_mul F.fills_int_mul F.slot_int_rmul repeat_tuple F.slot_int_index.lookup
      (call_meets F.slot_int_rmul (typeIs_int s 0 t) F.entry_int_rmul (F.args_int_rmul_2 _ _) (int_rmul_tuple 0 t l its.toArray n dd sl)
        ⟨ho, rfl, ⟨_, ho, rfl⟩, call_meets F.slot_tuple_mul ⟨_, ho, rfl⟩ F.entry_tuple_mul (F.args_tuple_mul_2 _ _) (tuple_mul0 l its.toArray n dd sl 0 t (by decide) (by rw [hi]; rfl) (by rw [hi]; rfl)) ⟨ho, ?_⟩⟩)
    refine ⟨.ref s.heap.objs.size, _, I.laid (t' := s.toks) (o := .tup []) (fun b ob q => Heap.get?_push_of_some _ q) (Nat.le_refl _) ?_, rfl, q _ (I.hok.fresh (Nat.le_refl _))⟩
    exact ⟨by rw [sizeLine_eq]; exact Nat.zero_le _, [], .nil, IsTup.new _ _⟩
end
end L2
namespace Mp
open PySem L2
def TEv (K : PySem.W.Frag) (f : Sg → Mm → R) : TE := fun s H Q => ∃ r sg M z M', RS K r H sg s ∧ RH K r M H ∧ f sg M = some (z, M') ∧ Post K r H z M' Q
def TTv (K : PySem.W.Frag) (f : Sg → Mm → R) : TT := fun s H Q => ∃ r sg M b M', RS K r H sg s ∧ RH K r M H ∧ f sg M = some (.bl b, M') ∧ ∀ r' H', Ext r r' H H' → RH K r' M' H' → Q b H'
def TAv (K : PySem.W.Frag) (f : Sg → Mm → Option (List PV × Mm)) : TA := fun s H Q => ∃ r sg M xs M', RS K r H sg s ∧ RH K r M H ∧ f sg M = some (xs, M') ∧ ∀ r' vs H', Ext r r' H H' → RH K r' M' H' → RVs K r' H' xs vs → Q vs H'
def XE (X : Cx) (cf : CF) (e : Expr) (i : E) : Prop := PE X e (TEv X.K (evE cf i))
def XT (X : Cx) (cf : CF) (e : Expr) (i : E) : Prop := PT X e (TTv X.K (evE cf i))
def XW (X : Cx) (cf : CF) (e : Expr) (i : E) : Prop := PW X e (TTv X.K (evE cf i))
def XA (X : Cx) (cf : CF) (es : List Expr) (i : Es) : Prop := PA X es (TAv X.K (evEs cf i))
theorem pe_imp {X : Cx} {e : Expr} {t t' : TE} (h : PE X e t) (k : ∀ s H Q, t' s H Q → t s H Q) : PE X e t' := ⟨fun pins s σ H Q I q => h.run pins s σ H Q I (k _ _ _ q)⟩
theorem pt_imp {X : Cx} {e : Expr} {t t' : TT} (h : PT X e t) (k : ∀ s H Q, t' s H Q → t s H Q) : PT X e t' := ⟨fun pins s σ H Q I q => h.run pins s σ H Q I (k _ _ _ q)⟩
theorem pw_imp {X : Cx} {e : Expr} {t t' : TT} (h : PW X e t) (k : ∀ s H Q, t' s H Q → t s H Q) : PW X e t' := ⟨fun wh pins s σ H Q I q => h.run wh pins s σ H Q I (k _ _ _ q)⟩
theorem pa_imp {X : Cx} {e : List Expr} {t t' : TA} (h : PA X e t) (k : ∀ s H Q, t' s H Q → t s H Q) : PA X e t' := ⟨fun p pins s σ H Q I q => h.run p pins s σ H Q I (k _ _ _ q)⟩
section
variable {K : PySem.W.Frag} {r : List Addr} {H : Hp} {M : Mm} {Q : VK} {z : PV} {u : V} {p a : Addr} {xs : List PV} {vs : List V}
theorem Post.here (q : Post K r H z M Q) (h : RH K r M H) (v : RV K r H z u) : Q u H := q r u H .refl h v
theorem Post.tup (q : Post K r H (.tup xs) M Q) (h : RH K r M H) (v : RVs K r H xs vs) (hp : H p = none) : Q (.ref p) (upd H p (.tup vs)) :=
  q r _ _ (ext_new0 hp) (h.other _ hp) (.tup (.inl (.inl upd_same)) (v.ext (ext_new0 hp)))
theorem Post.lst (q : Post K r H (.ref M.length) (M ++ [.lst xs]) Q) (h : RH K r M H) (v : RVs K r H xs vs) (hp : H p = none) : Q (.ref p) (upd H p (.lst vs)) :=
  q (r ++ [p]) _ _ (ext_new hp [p]) (h.new hp ⟨vs, upd_same, v.ext (ext_new hp [p])⟩) (.ref (by rw [← h.len]; simp))
theorem Post.set {n : Nat} (q : Post K r H z (M.set n (.lst xs)) Q) (h : RH K r M H) {ws : List V} (e0 : H a = some (.lst ws)) (ha : r[n]? = some a) (v : RVs K r H xs vs) (hz : RV K r H z u) : Q u (upd H a (.lst vs)) := by
  have e := ext_set (r := r) (o := .lst vs) e0 trivial (List.mem_of_getElem? ha)
  exact q r _ _ e (h.set e0 trivial ha ⟨vs, upd_same, v.ext e⟩) (hz.ext e)
theorem lst_of {n : Nat} (h : RH K r M H) (e : lstAt M n = some xs) : ∃ a vs, r[n]? = some a ∧ H a = some (.lst vs) ∧ RVs K r H xs vs := by
  unfold lstAt at e
  split at e
  · rename_i ys e1
    cases e
    obtain ⟨a, h1, vs, h2, h3⟩ := h.at e1
    exact ⟨a, vs, h1, h2, h3⟩
  · cases e
theorem RV.refAt {n : Nat} (v : RV K r H (.ref n) u) (ha : r[n]? = some a) : u = .ref a := by
  cases v with
  | ref h => rw [ha] at h; cases h; rfl
end
section
variable {X : Cx} {cf : CF} {e a b c : Expr} {es : List Expr} {i ia ib ic : E} {pos : Pos}
theorem xe_var (j : Nat) {x : Str} (hN : X.N[j]? = some x := by rfl) (hv : Vis X.env.scope x := by first | exact Or.inl rfl | exact Or.inr (Or.inl rfl) | exact Or.inr (Or.inr rfl)) (hd : (x == ("__debug__" : Str)) = false := by decide)
    (hcd : (x == ("__classdict__" : Str)) = false := by decide) : XE X cf (.Name x pos) (.var j) := by
  refine pe_imp (pe_var hN hv hd hcd) fun s H Q h => ?_
  obtain ⟨r, sg, M, z, M', hs, hh, e, q⟩ := h
  simp only [evE] at e
  split at e
  · rename_i v ev
    cases e
    obtain ⟨v, h1, h2⟩ := hs.at_ j z ev
    exact ⟨v, h1, q.here hh h2⟩
  · cases e
theorem xe_con {v : PV} {w : V} (h : PE X e (tC w)) (hv : ∀ r H, RV X.K r H v w) : XE X cf e (.con v) := by
  refine pe_imp h fun s H Q h => ?_
  obtain ⟨r, sg, M, z, M', hs, hh, e, q⟩ := h
  simp only [evE] at e
  cases e
  exact q.here hh (hv r H)
theorem xe_int {n : Int} {j : Nat} : XE X cf (.Constant (.int n) j pos) (.con (.int n)) := xe_con pe_int fun _ _ => .int n
theorem xe_bl {n : Bool} {j : Nat} : XE X cf (.Constant (.bool n) j pos) (.con (.bl n)) := xe_con pe_bl fun _ _ => .bl n
theorem xe_str {n : Str} {j : Nat} : XE X cf (.Constant (.str n) j pos) (.con (.str n)) := xe_con pe_str fun _ _ => .str n
theorem xe_non {j : Nat} : XE X cf (.Constant .none j pos) (.con .non) := xe_con pe_non fun _ _ => .non
theorem xe_gstr {x : Str} {n : Str} {t : Tok} (hg : Gl X x) (hm : X.mg x = some (.str n t)) (hd : (x == ("__debug__" : Str)) = false := by decide) : XE X cf (.Name x pos) (.con (.str n)) :=
  xe_con (pe_glob (v := .str n) hg hm ⟨_, rfl⟩ hd) fun _ _ => .str n
theorem xe_gstrE {x : Str} {n : Str} (hg : Gl X x) (hm : ∃ t, X.mg x = some (.str n t)) (hd : (x == ("__debug__" : Str)) = false := by decide) : XE X cf (.Name x pos) (.con (.str n)) :=
  let ⟨_, h⟩ := hm; xe_gstr hg h hd
theorem xt_val (h : XE X cf e i) (he : ∀ whole, isTrue e X.env whole = (do let v ← whole; standAt e.pos; holding [v] (truthy v)) := by intro _; rfl) : XT X cf e i := by
  refine pt_imp (pt_val h he) fun s H Q h => ?_
  obtain ⟨r, sg, M, b, M', hs, hh, e, q⟩ := h
  refine ⟨r, sg, M, _, M', hs, hh, e, fun r' u H' x h' v => ?_⟩
  cases v
  exact ⟨b, rfl, q r' H' x h'⟩
theorem xt_not (h : XT X cf a ia) : XT X cf (.UnaryOp .Not a pos) (.not ia) := by
  refine pt_imp (pt_not h) fun s H Q h => ?_
  obtain ⟨r, sg, M, b, M', hs, hh, e, q⟩ := h
  simp only [evE] at e
  split at e
  · rename_i k M1 e1
    cases e
    exact ⟨r, sg, M, k, _, hs, hh, e1, q⟩
  · cases e
theorem xe_not (h : XE X cf a ia) : XE X cf (.UnaryOp .Not a pos) (.not ia) := by
  refine pe_imp (pe_not h) fun s H Q h => ?_
  obtain ⟨r, sg, M, z, M', hs, hh, e, q⟩ := h
  simp only [evE] at e
  split at e
  · rename_i k M1 e1
    cases e
    refine ⟨r, sg, M, _, _, hs, hh, e1, fun r' u H' x h' v => ?_⟩
    cases v
    exact ⟨k, rfl, q r' _ H' x h' (.bl _)⟩
  · cases e
theorem and_inv {K : PySem.W.Frag} {sg : Sg} {M M' : Mm} {z : PV} (e : evE cf (.and ia ib) sg M = some (z, M')) :
    (∃ M1, evE cf ia sg M = some (.bl true, M1) ∧ evE cf ib sg M1 = some (z, M')) ∨ (evE cf ia sg M = some (.bl false, M') ∧ z = .bl false) := by
  simp only [evE] at e
  split at e
  · rename_i M1 e1; exact .inl ⟨M1, e1, e⟩
  · rename_i M1 e1; cases e; exact .inr ⟨e1, rfl⟩
  · cases e
theorem or_inv {sg : Sg} {M M' : Mm} {z : PV} (e : evE cf (.or ia ib) sg M = some (z, M')) :
    (∃ M1, evE cf ia sg M = some (.bl false, M1) ∧ evE cf ib sg M1 = some (z, M')) ∨ (evE cf ia sg M = some (.bl true, M') ∧ z = .bl true) := by
  simp only [evE] at e
  split at e
  · rename_i M1 e1; cases e; exact .inr ⟨e1, rfl⟩
  · rename_i M1 e1; exact .inl ⟨M1, e1, e⟩
  · cases e
theorem xw_and1 {o : BoolOp} (ho : o = .And) (h : XT X cf a ia) : XW X cf (.BoolOp o [a] pos) ia := by subst ho; exact pw_and1 h
theorem xw_or1 {o : BoolOp} (ho : o = .Or) (h : XT X cf a ia) : XW X cf (.BoolOp o [a] pos) ia := by subst ho; exact pw_or1 h
theorem xw_and {rest : List Expr} (h : XT X cf a ia) (h2 : XW X cf (.BoolOp .And (b :: rest) pos) ib) : XW X cf (.BoolOp .And (a :: b :: rest) pos) (.and ia ib) := by
  refine pw_imp (pw_and h h2) fun s H Q h => ?_
  obtain ⟨r, sg, M, z, M', hs, hh, e, q⟩ := h
  rcases and_inv (K := X.K) e with ⟨M1, e1, e2⟩ | ⟨e1, e2⟩
  · refine ⟨r, sg, M, _, _, hs, hh, e1, fun r' H' x h' => ?_⟩
    refine iteT ?_
    exact ⟨r', sg, M1, z, M', hs.ext x, h', e2, fun r2 H2 x2 h2 => q r2 H2 (x.trans x2) h2⟩
  · cases e2
    refine ⟨r, sg, M, _, _, hs, hh, e1, fun r' H' x h' => ?_⟩
    refine iteF ?_
    exact q r' H' x h'
theorem xw_or {rest : List Expr} (h : XT X cf a ia) (h2 : XW X cf (.BoolOp .Or (b :: rest) pos) ib) : XW X cf (.BoolOp .Or (a :: b :: rest) pos) (.or ia ib) := by
  refine pw_imp (pw_or h h2) fun s H Q h => ?_
  obtain ⟨r, sg, M, z, M', hs, hh, e, q⟩ := h
  rcases or_inv e with ⟨M1, e1, e2⟩ | ⟨e1, e2⟩
  · refine ⟨r, sg, M, _, _, hs, hh, e1, fun r' H' x h' => ?_⟩
    refine iteF ?_
    exact ⟨r', sg, M1, z, M', hs.ext x, h', e2, fun r2 H2 x2 h2 => q r2 H2 (x.trans x2) h2⟩
  · cases e2
    refine ⟨r, sg, M, _, _, hs, hh, e1, fun r' H' x h' => ?_⟩
    refine iteT ?_
    exact q r' H' x h'
theorem xt_w (h : XW X cf a ia) : XT X cf a ia := PW.pt h
theorem xe_one {op : BoolOp} (h : XE X cf a ia) : XE X cf (.BoolOp op [a] pos) ia := pe_one h
theorem xe_and {rest : List Expr} (h : XE X cf a ia) (h2 : XE X cf (.BoolOp .And (b :: rest) pos) ib) : XE X cf (.BoolOp .And (a :: b :: rest) pos) (.and ia ib) := by
  refine pe_imp (pe_and h h2) fun s H Q h => ?_
  obtain ⟨r, sg, M, z, M', hs, hh, e, q⟩ := h
  rcases and_inv (K := X.K) e with ⟨M1, e1, e2⟩ | ⟨e1, e2⟩
  · refine ⟨r, sg, M, _, _, hs, hh, e1, fun r' u H' x h' v => ?_⟩
    cases v
    refine ⟨true, rfl, ?_⟩
    refine iteT ?_
    exact ⟨r', sg, M1, z, M', hs.ext x, h', e2, fun r2 u2 H2 x2 h2 v2 => q r2 u2 H2 (x.trans x2) h2 v2⟩
  · cases e2
    refine ⟨r, sg, M, _, _, hs, hh, e1, fun r' u H' x h' v => ?_⟩
    cases v
    refine ⟨false, rfl, ?_⟩
    refine iteF ?_
    exact q r' _ H' x h' (.bl _)
theorem xe_if (hc : XT X cf c ic) (ha : XE X cf a ia) (hb : XE X cf b ib) : XE X cf (.IfExp c a b pos) (.ite ic ia ib) := by
  refine pe_imp (pe_ifExp hc ha hb) fun s H Q h => ?_
  obtain ⟨r, sg, M, z, M', hs, hh, e, q⟩ := h
  simp only [evE] at e
  split at e
  · rename_i M1 e1
    refine ⟨r, sg, M, _, _, hs, hh, e1, fun r' H' x h' => ?_⟩
    refine iteT ?_
    exact ⟨r', sg, M1, z, M', hs.ext x, h', e, fun r2 u2 H2 x2 h2 v2 => q r2 u2 H2 (x.trans x2) h2 v2⟩
  · rename_i M1 e1
    refine ⟨r, sg, M, _, _, hs, hh, e1, fun r' H' x h' => ?_⟩
    refine iteF ?_
    exact ⟨r', sg, M1, z, M', hs.ext x, h', e, fun r2 u2 H2 x2 h2 v2 => q r2 u2 H2 (x.trans x2) h2 v2⟩
  · cases e
theorem xa_nil : XA X cf [] .nil := by
  refine pa_imp pa_nil fun s H Q h => ?_
  obtain ⟨r, sg, M, xs, M', hs, hh, e, q⟩ := h
  simp only [evEs] at e
  cases e
  exact q r [] H .refl hh .nil
theorem evEs_cons {i : E} {j : Es} {sg : Sg} {M M' : Mm} {ys : List PV} (e : evEs cf (.cons i j) sg M = some (ys, M')) :
    ∃ x xs M1, evE cf i sg M = some (x, M1) ∧ evEs cf j sg M1 = some (xs, M') ∧ ys = x :: xs := by
  simp only [evEs] at e
  split at e
  · rename_i x M1 e1
    split at e
    · rename_i xs M2 e2
      cases e
      exact ⟨x, xs, M1, e1, e2, rfl⟩
    · cases e
  · cases e
theorem xa_cons {j : Es} (h : XE X cf e i) (h2 : XA X cf es j) (hs : starEach (e :: es) X.env = (false, eval e X.env) :: starEach es X.env := by rfl) : XA X cf (e :: es) (.cons i j) := by
  refine pa_imp (pa_cons h h2 hs) fun s H Q h => ?_
  obtain ⟨r, sg, M, ys, M', hs, hh, e, q⟩ := h
  obtain ⟨x, xs, M1, e1, e2, rfl⟩ := evEs_cons e
  exact ⟨r, sg, M, x, M1, hs, hh, e1, fun r1 u1 H1 x1 h1 v1 => ⟨r1, sg, M1, xs, M', hs.ext x1, h1, e2, fun r2 us H2 x2 h2 v2 => q r2 (u1 :: us) H2 (x1.trans x2) h2 (.cons (v1.ext x2) v2)⟩⟩
theorem xe_tup {k : Nat} {j : Es} (h : XA X cf es j) : XE X cf (.Tuple es k pos) (.tup j) := by
  refine pe_imp (pe_tup h) fun s H Q h => ?_
  obtain ⟨r, sg, M, z, M', hs, hh, e, q⟩ := h
  simp only [evE] at e
  split at e
  · rename_i xs M1 e1
    split at e
    · rename_i hl
      cases e
      refine ⟨r, sg, M, xs, _, hs, hh, e1, fun r1 vs H1 x1 h1 v1 => ⟨by rw [← v1.length]; exact hl, fun p hp => ?_⟩⟩
      exact Post.tup (fun r2 u2 H2 x2 h2 v2 => q r2 u2 H2 (x1.trans x2) h2 v2) h1 v1 hp
    · cases e
  · cases e
theorem xe_lst {j : Es} (h : XA X cf es j) : XE X cf (.List es pos) (.lst j) := by
  refine pe_imp (pe_lst h) fun s H Q h => ?_
  obtain ⟨r, sg, M, z, M', hs, hh, e, q⟩ := h
  simp only [evE] at e
  split at e
  · rename_i xs M1 e1
    split at e
    · rename_i hl
      cases e
      refine ⟨r, sg, M, xs, _, hs, hh, e1, fun r1 vs H1 x1 h1 v1 => ⟨by rw [← v1.length]; exact hl, fun p hp => ?_⟩⟩
      exact Post.lst (fun r2 u2 H2 x2 h2 v2 => q r2 u2 H2 (x1.trans x2) h2 v2) h1 v1 hp
    · cases e
  · cases e
end
end Mp
namespace Mp
open PySem L2
def ROp (K : PySem.W.Frag) (f : Mm → PV → PV → R) : R2 := fun x y H Q => ∃ r M a b z M', RH K r M H ∧ RV K r H a x ∧ RV K r H b y ∧ f M a b = some (z, M') ∧ Post K r H z M' Q
def RCm (K : PySem.W.Frag) (f : Mm → PV → PV → Option Bool) : R2 := fun x y H Q => ∃ r M a b k, RH K r M H ∧ RV K r H a x ∧ RV K r H b y ∧ f M a b = some k ∧ Q (.bl k) H
section
variable {X : Cx}
theorem opx_add : OpR X (binaryOp .Add) (ROp X.K fun M => bopP M .add) := by
  intro pins s σ H x y v u Q I rx ry h
  obtain ⟨r, M, a, b, z, M', hh, va, vb, e, q⟩ := h
  cases va with
  | int i =>
    cases vb with
    | int j => simp only [bopP] at e; cases e; exact op_add pins s σ H _ _ v u Q I rx ry ⟨i, j, rfl, rfl, q.here hh (.int _)⟩
    | _ => simp [bopP] at e
  | str i =>
    cases vb with
    | str j =>
      simp only [bopP] at e
      split at e
      · rename_i hl; cases e; exact op_add_str pins s σ H _ _ v u Q I rx ry ⟨i, j, rfl, rfl, hl, q.here hh (.str _)⟩
      · cases e
    | _ => simp [bopP] at e
  | @tup xs a1 vs ha hxs =>
    cases vb with
    | @tup ys a2 us hb hys =>
      simp only [bopP] at e
      split at e
      · rename_i hl
        cases e
        refine op_catA pins s σ H _ _ v u Q I rx ry ⟨a1, a2, vs, us, rfl, rfl, ha, hb, by rw [← hxs.length, ← hys.length]; exact hl, fun z => ?_, fun _ z => ?_, fun _ _ p hp => ?_⟩
        · subst z
          cases hxs
          exact q.here hh (.tup hb hys)
        · subst z
          cases hys
          rw [List.append_nil] at q
          exact q.here hh (.tup ha hxs)
        · exact q.tup hh (hxs.append hys) hp
      · cases e
    | _ => simp [bopP] at e
  | @ref n a1 hn =>
    cases vb with
    | @ref m a2 hm =>
      simp only [bopP] at e
      split at e
      · rename_i xs ys e1 e2
        split at e
        · rename_i hl
          cases e
          obtain ⟨b1, vs, g1, g2, g3⟩ := lst_of hh e1
          obtain ⟨b2, us, k1, k2, k3⟩ := lst_of hh e2
          rw [hn] at g1; cases g1
          rw [hm] at k1; cases k1
          exact op_cat pins s σ H _ _ v u Q I rx ry ⟨a1, a2, vs, us, rfl, rfl, g2, k2, by rw [← g3.length, ← k3.length]; exact hl, fun p hp => q.lst hh (g3.append k3) hp⟩
        · cases e
      · cases e
    | _ => simp [bopP] at e
  | _ => simp [bopP] at e
theorem opx_sub : OpR X (binaryOp .Sub) (ROp X.K fun M => bopP M .sub) := by
  intro pins s σ H x y v u Q I rx ry h
  obtain ⟨r, M, a, b, z, M', hh, va, vb, e, q⟩ := h
  cases va with
  | int i =>
    cases vb with
    | int j => simp only [bopP] at e; cases e; exact op_sub pins s σ H _ _ v u Q I rx ry ⟨i, j, rfl, rfl, q.here hh (.int _)⟩
    | _ => simp [bopP] at e
  | _ => simp [bopP] at e
theorem mulOk_C {i j : Int} (h : mulOk i j = true) : CMul i j := by
  unfold mulOk at h
  rcases Bool.or_eq_true_iff.mp h with h | h
  · obtain ⟨h1, h2⟩ := Bool.and_eq_true_iff.mp h; exact .inl ⟨of_decide_eq_true h1, of_decide_eq_true h2⟩
  · obtain ⟨h1, h2⟩ := Bool.and_eq_true_iff.mp h; exact .inr ⟨of_decide_eq_true h1, of_decide_eq_true h2⟩
theorem flat_rep {K : PySem.W.Frag} {r : List Addr} {H : Hp} {xs : List PV} {vs : List V} (h : RVs K r H xs vs) : ∀ n : Nat, RVs K r H (List.replicate n xs).flatten (List.replicate n vs).flatten
  | 0 => .nil
  | n + 1 => by
    rw [List.replicate_succ, List.replicate_succ, List.flatten_cons, List.flatten_cons]
    exact h.append (flat_rep h n)
theorem opx_mul : OpR X (binaryOp .Mult) (ROp X.K fun M => bopP M .mul) := by
  intro pins s σ H x y v u Q I rx ry h
  obtain ⟨r, M, a, b, z, M', hh, va, vb, e, q⟩ := h
  cases va with
  | int i =>
    cases vb with
    | int j =>
      simp only [bopP] at e
      split at e
      · rename_i hl; cases e; exact op_mul pins s σ H _ _ v u Q I rx ry ⟨i, j, rfl, rfl, mulOk_C hl, q.here hh (.int _)⟩
      · cases e
    | _ => simp [bopP] at e
  | @ref n a1 hn =>
    cases vb with
    | int j =>
      simp only [bopP] at e
      split at e
      · rename_i xs e1
        split at e
        · rename_i hl
          cases e
          obtain ⟨b1, vs, g1, g2, g3⟩ := lst_of hh e1
          rw [hn] at g1; cases g1
          exact op_rep pins s σ H _ _ v u Q I rx ry ⟨a1, j, vs, rfl, rfl, g2, hl.1, hl.2.1, by rw [← g3.length]; exact hl.2.2, fun p hp => q.lst hh (flat_rep g3 _) hp⟩
        · cases e
      · cases e
    | _ => simp [bopP] at e
  | @tup xs a1 vs ha hxs =>
    cases vb with
    | int j =>
      simp only [bopP] at e
      split at e
      · rename_i hl
        cases e
        obtain ⟨l2, l3, l4⟩ := hl
        by_cases hne : vs = []
        · subst hne
          have hx : xs = [] := by cases hxs; rfl
          subst hx
          have q' : Post X.K r H (.tup []) M Q := by simpa using q
          exact op_repT01 pins s σ H _ _ v u Q I rx ry ⟨a1, j, [], rfl, rfl, ha, l2, l3, .inl ⟨.inr rfl, q'.here hh (.tup ha hxs)⟩⟩
        by_cases j1 : j = 1
        · subst j1
          have q' : Post X.K r H (.tup xs) M Q := by simpa using q
          exact op_repT01 pins s σ H _ _ v u Q I rx ry ⟨a1, 1, vs, rfl, rfl, ha, l2, l3, .inl ⟨.inl rfl, q'.here hh (.tup ha hxs)⟩⟩
        · by_cases j0 : j = 0
          · subst j0
            have q' : Post X.K r H (.tup []) M Q := by simpa using q
            exact op_repT01 pins s σ H _ _ v u Q I rx ry ⟨a1, 0, vs, rfl, rfl, ha, l2, l3, .inr ⟨hne, rfl, fun p hp => q'.tup hh .nil hp⟩⟩
          · exact op_repT pins s σ H _ _ v u Q I rx ry ⟨a1, j, vs, rfl, rfl, ha, hne, by omega, l3, by rw [← hxs.length]; exact l4, fun p hp => q.tup hh (flat_rep hxs _) hp⟩
      · cases e
    | _ => simp [bopP] at e
  | _ => simp [bopP] at e
theorem opx_fdiv : OpR X (binaryOp .FloorDiv) (ROp X.K fun M => bopP M .fdiv) := by
  intro pins s σ H x y v u Q I rx ry h
  obtain ⟨r, M, a, b, z, M', hh, va, vb, e, q⟩ := h
  cases va with
  | int i =>
    cases vb with
    | int j =>
      simp only [bopP] at e
      split at e
      · rename_i hl; cases e; exact op_fdiv pins s σ H _ _ v u Q I rx ry ⟨i, j, rfl, rfl, hl, q.here hh (.int _)⟩
      · cases e
    | _ => simp [bopP] at e
  | _ => simp [bopP] at e
theorem opx_mod : OpR X (binaryOp .Mod) (ROp X.K fun M => bopP M .mod) := by
  intro pins s σ H x y v u Q I rx ry h
  obtain ⟨r, M, a, b, z, M', hh, va, vb, e, q⟩ := h
  cases va with
  | int i =>
    cases vb with
    | int j =>
      simp only [bopP] at e
      split at e
      · rename_i hl; cases e; exact op_mod pins s σ H _ _ v u Q I rx ry ⟨i, j, rfl, rfl, hl, q.here hh (.int _)⟩
      · cases e
    | _ => simp [bopP] at e
  | _ => simp [bopP] at e
theorem opx_pow : OpR X (binaryOp .Pow) (ROp X.K fun M => bopP M .pow) := by
  intro pins s σ H x y v u Q I rx ry h
  obtain ⟨r, M, a, b, z, M', hh, va, vb, e, q⟩ := h
  cases va with
  | int i =>
    cases vb with
    | int j =>
      simp only [bopP] at e
      split at e
      · rename_i hl; cases e; exact op_pow pins s σ H _ _ v u Q I rx ry ⟨i, j, rfl, rfl, hl, q.here hh (.int _)⟩
      · cases e
    | _ => simp [bopP] at e
  | _ => simp [bopP] at e
mutual
theorem toD_dp {K : PySem.W.Frag} {r : List Addr} {H : Hp} {M : Mm} (hh : RH K r M H) : ∀ (n : Nat) {x : PV} {v : V} {d : PyData}, toD n M x = some d → RV K r H x v → Dp K H v d
  | 0, _, _, _, e, _ => by simp [toD] at e
  | n + 1, .non, _, _, e, h => by simp only [toD] at e; cases e; cases h; exact .non
  | n + 1, .bl b, _, _, e, h => by simp only [toD] at e; cases e; cases h; exact .bl _
  | n + 1, .int b, _, _, e, h => by simp only [toD] at e; cases e; cases h; exact .int _
  | n + 1, .str b, _, _, e, h => by simp only [toD] at e; cases e; cases h; exact .str _
  | n + 1, .tup xs, _, _, e, h => by
    simp only [toD] at e
    cases h with
    | tup h1 h2 =>
      obtain ⟨ds, e1, rfl⟩ := Option.map_eq_some_iff.mp e
      exact .tup h1 (toD_all hh n e1 h2)
  | n + 1, .ptup xs, _, _, e, h => by
    simp only [toD] at e
    cases h with
    | ptup h1 h2 =>
      obtain ⟨ds, e1, rfl⟩ := Option.map_eq_some_iff.mp e
      exact .tup h1.sqT (toD_all hh n e1 h2)
  | n + 1, .cl ns, _, _, e, h => by
    simp only [toD] at e
    cases e
    cases h with
    | cl h => exact .lst h.sq (cl_all ns)
  | n + 1, .ref k, _, _, e, h => by
    simp only [toD] at e
    split at e
    · rename_i xs e0
      obtain ⟨ds, e1, rfl⟩ := Option.map_eq_some_iff.mp e
      obtain ⟨a, h1, vs, h2, h3⟩ := hh.at e0
      cases h with
      | ref h => rw [h1] at h; cases h; exact .lst (.inl (.inl h2)) (toD_all hh n e1 h3)
    · cases e
theorem cl_all {K : PySem.W.Frag} {H : Hp} : ∀ ns : List Int, DpAll K H (ns.map V.int) (ns.map PyData.int)
  | [] => .nil
  | n :: ns => .cons (.int n) (cl_all ns)
theorem toD_all {K : PySem.W.Frag} {r : List Addr} {H : Hp} {M : Mm} (hh : RH K r M H) (n : Nat) : ∀ {xs : List PV} {vs : List V} {ds : List PyData}, xs.mapM (toD n M) = some ds → RVs K r H xs vs → DpAll K H vs ds
  | [], _, _, e, h => by
    cases h
    have e' : some [] = some _ := e
    cases e'
    exact .nil
  | x :: xs, _, _, e, h => by
    cases h with
    | cons h hs =>
      rw [List.mapM_cons] at e
      cases e1 : toD n M x with
      | none => rw [e1] at e; cases e
      | some d =>
        rw [e1] at e
        cases e2 : xs.mapM (toD n M) with
        | none => rw [e2] at e; cases e
        | some ds =>
          rw [e2] at e
          cases e
          exact .cons (toD_dp hh n e1 h) (toD_all hh n e2 hs)
end
theorem eqS_ok {K : PySem.W.Frag} {r : List Addr} {H : Hp} {a b : PV} {x y : V} {k : Bool} (e : eqS a b = some k) (va : RV K r H a x) (vb : RV K r H b y) : scal x y = true ∧ decide (x = y) = k := by
  cases va <;> cases vb <;> simp [eqS] at e <;> subst e <;> simp [scal]
theorem opx_eq (hu : X.A.units + 64 < cLine) : OpR X (compareOp .Eq) (RCm X.K fun M => cmpP M .eq) := by
  intro pins s σ H x y v u Q I rx ry h
  obtain ⟨r, M, a, b, k, hh, va, vb, e, q⟩ := h
  simp only [cmpP, eqP] at e
  split at e
  · rename_i b e1
    cases e
    obtain ⟨h1, h2⟩ := eqS_ok e1 va vb
    exact op_eq pins s σ H x y v u Q I rx ry ⟨h1, by rw [h2]; exact q⟩
  · split at e
    · rename_i d1 d2 e1 e2
      split at e
      · rename_i hs
        cases e
        obtain ⟨s1, s2⟩ := Bool.and_eq_true_iff.mp hs
        exact op_eqD hu pins s σ H x y v u Q I rx ry ⟨_, _, toD_dp hh 20 e1 va, toD_dp hh 20 e2 vb, s1, s2, q⟩
      · cases e
    · cases e
theorem opx_ne (hu : X.A.units + 64 < cLine) : OpR X (compareOp .NotEq) (RCm X.K fun M => cmpP M .ne) := by
  intro pins s σ H x y v u Q I rx ry h
  obtain ⟨r, M, a, b, k, hh, va, vb, e, q⟩ := h
  simp only [cmpP] at e
  obtain ⟨k', e', rfl⟩ := Option.map_eq_some_iff.mp e
  clear e
  have e : eqP M a b = some k' := e'
  clear e'
  simp only [eqP] at e
  split at e
  · rename_i b e1
    have e := Option.some.inj e
    subst e
    obtain ⟨h1, h2⟩ := eqS_ok e1 va vb
    exact op_ne pins s σ H x y v u Q I rx ry ⟨h1, by rw [h2]; exact q⟩
  · split at e
    · rename_i d1 d2 e1 e2
      split at e
      · rename_i hs
        have e := Option.some.inj e
        subst e
        obtain ⟨s1, s2⟩ := Bool.and_eq_true_iff.mp hs
        exact op_neD hu pins s σ H x y v u Q I rx ry ⟨_, _, toD_dp hh 20 e1 va, toD_dp hh 20 e2 vb, s1, s2, q⟩
      · cases e
    · cases e
theorem cmpI {co : Co} {op : CmpOp} {g : Int → Int → Bool} (ho : OpR X (compareOp op) (rI0 fun i j => .bl (g i j))) (hc : ∀ M a b k, cmpP M co a b = some k → ∃ i j, a = .int i ∧ b = .int j ∧ k = g i j) : OpR X (compareOp op) (RCm X.K fun M => cmpP M co) := by
  intro pins s σ H x y v u Q I rx ry h
  obtain ⟨r, M, a, b, k, hh, va, vb, e, q⟩ := h
  obtain ⟨i, j, rfl, rfl, rfl⟩ := hc _ _ _ _ e
  cases va; cases vb
  exact ho pins s σ H _ _ v u Q I rx ry ⟨i, j, rfl, rfl, q⟩
theorem opx_lt : OpR X (compareOp .Lt) (RCm X.K fun M => cmpP M .lt) := cmpI op_lt fun M a b k e => by
  cases a <;> cases b <;> simp [cmpP] at e
  exact ⟨_, _, rfl, rfl, e.symm⟩
theorem opx_le : OpR X (compareOp .LtE) (RCm X.K fun M => cmpP M .le) := cmpI op_le fun M a b k e => by
  cases a <;> cases b <;> simp [cmpP] at e
  exact ⟨_, _, rfl, rfl, e.symm⟩
theorem opx_gt : OpR X (compareOp .Gt) (RCm X.K fun M => cmpP M .gt) := cmpI op_gt fun M a b k e => by
  cases a <;> cases b <;> simp [cmpP] at e
  exact ⟨_, _, rfl, rfl, e.symm⟩
theorem opx_ge : OpR X (compareOp .GtE) (RCm X.K fun M => cmpP M .ge) := cmpI op_ge fun M a b k e => by
  cases a <;> cases b <;> simp [cmpP] at e
  exact ⟨_, _, rfl, rfl, e.symm⟩
theorem opx_isN : OpR X (compareOp .Is) (RCm X.K fun M => cmpP M .isN) := by
  intro pins s σ H x y v u Q I rx ry h
  obtain ⟨r, M, a, b, k, hh, va, vb, e, q⟩ := h
  cases vb with
  | non =>
    refine op_isN pins s σ H x _ v u Q I rx ry ⟨rfl, ?_⟩
    cases va <;> simp [cmpP] at e <;> subst e <;> simpa using q
  | _ => cases a <;> simp [cmpP] at e
theorem opx_isNN : OpR X (compareOp .IsNot) (RCm X.K fun M => cmpP M .isNN) := by
  intro pins s σ H x y v u Q I rx ry h
  obtain ⟨r, M, a, b, k, hh, va, vb, e, q⟩ := h
  cases vb with
  | non =>
    refine op_notN pins s σ H x _ v u Q I rx ry ⟨rfl, ?_⟩
    cases va <;> simp [cmpP] at e <;> subst e <;> simpa using q
  | _ => cases a <;> simp [cmpP] at e
theorem flat_ok {K : PySem.W.Frag} {r : List Addr} {H : Hp} {a : PV} {x : V} (va : RV K r H a x) : flatV x = flatP a := by cases va <;> rfl
theorem flat_all {K : PySem.W.Frag} {r : List Addr} {H : Hp} : ∀ {xs : List PV} {vs : List V}, RVs K r H xs vs → vs.all flatV = xs.all flatP
  | _, _, .nil => rfl
  | _, _, .cons h hs => by rw [List.all_cons, List.all_cons, flat_ok h, flat_all hs]
theorem eqF_ok {K : PySem.W.Frag} {r : List Addr} {H : Hp} {a b : PV} {x y : V} (va : RV K r H a x) (vb : RV K r H b y) : eqV x y = eqF a b := by
  cases va <;> cases vb <;> rfl
theorem any_ok {K : PySem.W.Frag} {r : List Addr} {H : Hp} {b : PV} {y : V} (vb : RV K r H b y) : ∀ {xs : List PV} {vs : List V}, RVs K r H xs vs → inV y vs = xs.any fun z => eqF z b
  | _, _, .nil => rfl
  | _, _, .cons h hs => by
    have := any_ok vb hs
    unfold inV at this ⊢
    rw [List.any_cons, List.any_cons, eqF_ok h vb, this]
theorem inP_ok {K : PySem.W.Frag} {r : List Addr} {H : Hp} {a : PV} {x : V} {xs : List PV} {vs : List V} {k : Bool} (va : RV K r H a x) (hs : RVs K r H xs vs) (e : inP a xs = some k) : flatV x = true ∧ vs.all flatV = true ∧ inV x vs = k := by
  unfold inP at e
  split at e
  · rename_i h
    cases e
    obtain ⟨h1, h2⟩ := Bool.and_eq_true_iff.mp h
    exact ⟨by rw [flat_ok va]; exact h1, by rw [flat_all hs]; exact h2, any_ok va hs⟩
  · cases e
theorem keyOf_ok {K : PySem.W.Frag} {r : List Addr} {H : Hp} {a : PV} {x : V} {k : Key} (va : RV K r H a x) (e : keyOf a = some k) : x = kV k := by
  cases va <;> simp [keyOf] at e <;> subst e <;> rfl
theorem getD_ok {K : PySem.W.Frag} {r : List Addr} {H : Hp} (k : Key) : ∀ {kvs : List (Key × PV)} {vs : List (Key × V)}, vs.map (·.1) = kvs.map (·.1) → RVs K r H (kvs.map (·.2)) (vs.map (·.2)) →
    (getD kvs k).isSome = (valV vs k).isSome ∧ ∀ p, getD kvs k = some p → ∃ v, valV vs k = some v ∧ RV K r H p v
  | [], [], _, _ => ⟨rfl, fun p e => by simp [getD] at e⟩
  | [], _ :: _, e, _ => by simp at e
  | _ :: _, [], e, _ => by simp at e
  | (k1, p1) :: kvs, (k2, v2) :: vs, e, h => by
    simp only [List.map_cons, List.cons.injEq] at e
    obtain ⟨e1, e2⟩ := e
    have e1 : k2 = k1 := e1
    subst e1
    cases h with
    | cons h hs =>
      obtain ⟨i1, i2⟩ := getD_ok k e2 hs
      by_cases hk : k2 = k
      · subst hk
        simp [getD, valV, List.find?_cons]
        exact h
      · have a1 : getD ((k2, p1) :: kvs) k = getD kvs k := by simp [getD, List.find?_cons, hk]
        have a2 : valV ((k2, v2) :: vs) k = valV vs k := by simp [valV, List.find?_cons, hk]
        rw [a1, a2]
        exact ⟨i1, i2⟩
theorem dic_of {K : PySem.W.Frag} {r : List Addr} {H : Hp} {M : Mm} {n : Nat} {kvs : List (Key × PV)} {a : Addr} (h : RH K r M H) (e : M[n]? = some (.dic kvs)) (ha : r[n]? = some a) :
    ∃ vs, H a = some (.dK vs) ∧ vs.map (·.1) = kvs.map (·.1) ∧ RVs K r H (kvs.map (·.2)) (vs.map (·.2)) := by
  obtain ⟨b, h1, vs, h2, h3, h4⟩ := h.at e
  rw [ha] at h1; cases h1
  exact ⟨vs, h2, h3, h4⟩
theorem frz_of {K : PySem.W.Frag} {r : List Addr} {H : Hp} {M : Mm} {n : Nat} {kvs : List (Key × PV)} {a : Addr} (h : RH K r M H) (e : M[n]? = some (.frz kvs)) (ha : r[n]? = some a) :
    ∃ o vs, H a = some (.frz o (.dK vs)) ∧ vs.map (·.1) = kvs.map (·.1) ∧ RVs K r H (kvs.map (·.2)) (vs.map (·.2)) := by
  obtain ⟨b, h1, o, vs, h2, h3, h4⟩ := h.at e
  rw [ha] at h1; cases h1
  exact ⟨o, vs, h2, h3, h4⟩
theorem dget_frz {H : Hp} {a : Addr} {o : Obj} {kvs : List (Key × V)} {k : Key} (e : H a = some (.frz o (.dK kvs))) : DGet H a (kV k) (valV kvs k) := .inl ⟨kvs, k, .inr ⟨o, e⟩, rfl, rfl⟩
theorem sgn_ok {a : PV} {c : Nat} (e : sgn a = some c) : a = .str ⟨#[c]⟩ := by
  cases a with
  | str z =>
    simp only [sgn] at e
    split at e
    · rename_i c' e1
      cases e
      obtain ⟨cps⟩ := z
      have : cps = #[c] := by
        apply Array.ext'
        simpa using e1
      subst this
      rfl
    · cases e
  | _ => simp [sgn] at e
theorem in_core {pins : List (Addr × Obj)} {s : Shared} {σ : L2.St} {H : Hp} {x y : V} {v u : Value} {Q : VK} (neg : Bool) (hu : X.A.units + 64 < cLine) (I : Inv X pins σ H s) (rx : RelV x v) (ry : RelV y u)
    {r : List Addr} {M : Mm} {a b : PV} {k : Bool} (hh : RH X.K r M H) (va : RV X.K r H a x) (vb : RV X.K r H b y) (e : isIn M a b = some k) (q : Q (.bl (if neg then !k else k)) H) :
    wpAny (model X.prog X.w) X.A (compareOp (if neg then .NotIn else .In) v u) (EP X pins σ Q) X.xe s := by
  have seq : ∀ {p : Addr} {xs : List PV} {vs : List V}, y = .ref p → (SqL X.K H p vs ∨ SqT X.K H p vs) → RVs X.K r H xs vs → inP a xs = some k → wpAny (model X.prog X.w) X.A (compareOp (if neg then .NotIn else .In) v u) (EP X pins σ Q) X.xe s := fun {p xs vs} ey hq hs he => by
    obtain ⟨h1, h2, h3⟩ := inP_ok va hs he
    subst h3
    cases neg with
    | true => exact op_notIn_seq pins s σ H x y v u Q I rx ry ⟨p, vs, ey, hq, h1, h2, q⟩
    | false => exact op_in_seq pins s σ H x y v u Q I rx ry ⟨p, vs, ey, hq, h1, h2, q⟩
  cases vb with
  | @tup xs a1 vs ht hs =>
    simp only [isIn] at e
    split at e
    · rename_i b2 e2
      cases e
      exact seq rfl (.inr ht) hs e2
    · unfold inDT at e
      split at e
      · rename_i d ds d1 d2
        split at e
        · rename_i hd
          cases e
          simp only [Bool.and_eq_true, decide_eq_true_eq] at hd
          obtain ⟨⟨s1, s2⟩, s3⟩ := hd
          obtain ⟨as, r1⟩ := Dp.reads I d x v (toD_dp hh 20 d1 va) rx
          obtain ⟨bs, r2⟩ := Dp.reads I (.tuple ds) _ u (toD_dp hh 20 d2 (.tup ht hs)) ry
          have room : X.A.units + 1 + min (PyData.depthAll ds) d.depth < cLine := by
            have := Nat.min_le_right (PyData.depthAll ds) d.depth
            omega
          cases neg with
          | true => exact SeqAt.notIn_tuple_reads r2 r1 (SeqAt.canLay_of_shaped s2) (SeqAt.canLay_of_shaped s1) room ⟨.bl _, H, I, rfl, q⟩
          | false => exact SeqAt.in_tuple_reads r2 r1 (SeqAt.canLay_of_shaped s2) (SeqAt.canLay_of_shaped s1) room ⟨.bl _, H, I, rfl, q⟩
        · cases e
      · cases e
  | str z =>
    simp only [isIn] at e
    obtain ⟨c, e1, rfl⟩ := Option.map_eq_some_iff.mp e
    have := sgn_ok e1
    subst this
    cases va
    cases neg with
    | true => exact op_notIn_sign pins s σ H _ _ v u Q I rx ry ⟨c, z, rfl, rfl, q⟩
    | false => exact op_in_sign pins s σ H _ _ v u Q I rx ry ⟨c, z, rfl, rfl, q⟩
  | @ref n a1 hn =>
    simp only [isIn] at e
    split at e
    · rename_i xs e1
      obtain ⟨b1, g1, vs, g2, g3⟩ := hh.at e1
      rw [hn] at g1; cases g1
      split at e
      · rename_i b2 e2
        cases e
        exact seq rfl (.inl (.inl (.inl g2))) g3 e2
      · unfold inD at e
        split at e
        · rename_i d ds d1 d2
          split at e
          · rename_i hd
            cases e
            simp only [Bool.and_eq_true, decide_eq_true_eq] at hd
            obtain ⟨⟨s1, s2⟩, s3⟩ := hd
            obtain ⟨as, r1⟩ := Dp.reads I d x v (toD_dp hh 20 d1 va) rx
            obtain ⟨bs, r2⟩ := Dp.reads I (.list ds) _ u (toD_dp hh 20 d2 (.ref hn)) ry
            have room : X.A.units + 1 + min (PyData.depthAll ds) d.depth < cLine := by
              have := Nat.min_le_right (PyData.depthAll ds) d.depth
              omega
            cases neg with
            | true => exact SeqAt.notIn_list_reads r2 r1 (SeqAt.canLay_of_shaped s2) (SeqAt.canLay_of_shaped s1) room ⟨.bl _, H, I, rfl, q⟩
            | false => exact SeqAt.in_list_reads r2 r1 (SeqAt.canLay_of_shaped s2) (SeqAt.canLay_of_shaped s1) room ⟨.bl _, H, I, rfl, q⟩
          · cases e
        · cases e
    · rename_i kvs e1
      obtain ⟨key, e2, rfl⟩ := Option.map_eq_some_iff.mp e
      obtain ⟨vs, g2, g3, g4⟩ := dic_of hh e1 hn
      have := keyOf_ok va e2
      subst this
      obtain ⟨i1, _⟩ := getD_ok key g3 g4
      rw [i1] at q
      cases (show u = Value.ref a1 from ry)
      cases neg with
      | true => exact d_notIn (by omega) I (DGet.k (k := key) g2) rx fun s' I' => ⟨.bl _, H, I', rfl, q⟩
      | false => exact d_in (by omega) I (DGet.k (k := key) g2) rx fun s' I' => ⟨.bl _, H, I', rfl, q⟩
    · rename_i kvs e1
      obtain ⟨key, e2, rfl⟩ := Option.map_eq_some_iff.mp e
      obtain ⟨od, vs, g2, g3, g4⟩ := frz_of hh e1 hn
      have := keyOf_ok va e2
      subst this
      obtain ⟨i1, _⟩ := getD_ok key g3 g4
      rw [i1] at q
      cases (show u = Value.ref a1 from ry)
      cases neg with
      | true => exact d_notIn (by omega) I (dget_frz (k := key) g2) rx fun s' I' => ⟨.bl _, H, I', rfl, q⟩
      | false => exact d_in (by omega) I (dget_frz (k := key) g2) rx fun s' I' => ⟨.bl _, H, I', rfl, q⟩
    · cases e
  | _ => simp [isIn] at e
theorem opx_in (hu : X.A.units + 64 < cLine) : OpR X (compareOp .In) (RCm X.K fun M => cmpP M .isin) := by
  intro pins s σ H x y v u Q I rx ry h
  obtain ⟨r, M, a, b, k, hh, va, vb, e, q⟩ := h
  simp only [cmpP] at e
  exact in_core false (by omega) I rx ry hh va vb e q
theorem opx_notin (hu : X.A.units + 64 < cLine) : OpR X (compareOp .NotIn) (RCm X.K fun M => cmpP M .notin) := by
  intro pins s σ H x y v u Q I rx ry h
  obtain ⟨r, M, a, b, k, hh, va, vb, e, q⟩ := h
  simp only [cmpP] at e
  obtain ⟨k', e', rfl⟩ := Option.map_eq_some_iff.mp e
  exact in_core true (by omega) I rx ry hh va vb e' q
theorem ix_dic (hu : X.A.units + 1 < cLine) : IxR X (fun x y H Q => ∃ a v, x = .ref a ∧ DGet H a y (some v) ∧ Q v H) := by
  intro value slice pins s σ H x y v u Q I rx ry h hs
  obtain ⟨a, z, rfl, g, q⟩ := h
  cases (show v = Value.ref a from rx)
  exact PyProof.Rows.tail_any (dict_typeIs I g) PySem.F.slot_dict_getitem.lookup (d_getItem hu I g ry fun w' s' I' rw' => ⟨z, H, I', rw', q⟩) hs
def RIx (K : PySem.W.Frag) : R2 := fun x y H Q => ∃ r M a b z, RH K r M H ∧ RV K r H a x ∧ RV K r H b y ∧ idxP M a b = some z ∧ ∀ u, RV K r H z u → Q u H
theorem atI_ok {K : PySem.W.Frag} {r : List Addr} {H : Hp} {xs : List PV} {vs : List V} {i : Int} {z : PV} (hs : RVs K r H xs vs) (e : atI xs i = some z) : ∃ v, atI vs i = some v ∧ RV K r H z v := by
  unfold atI at e ⊢
  rw [← hs.length]
  obtain ⟨j, e1, e2⟩ := Option.bind_eq_some_iff.mp e
  rw [e1]
  exact hs.get e2
theorem ixx (hu : X.A.units + 64 < cLine) : IxR X (RIx X.K) := by
  intro value slice pins s σ H x y v u Q I rx ry h hp
  obtain ⟨r, M, a, b, z, hh, va, vb, e, q⟩ := h
  cases va with
  | @tup xs a1 vs ht hs =>
    cases vb with
    | int i =>
      simp only [idxP] at e
      obtain ⟨w, h1, h2⟩ := atI_ok hs e
      exact ix_tup value slice pins s σ H _ _ v u Q I rx ry ⟨a1, vs, i, w, rfl, rfl, ht, h1, q w h2⟩ hp
    | _ => simp [idxP] at e
  | @cl ns a1 hc =>
    cases vb with
    | int i =>
      simp only [idxP] at e
      obtain ⟨w, h1, rfl⟩ := Option.map_eq_some_iff.mp e
      have : atI (ns.map V.int) i = some (V.int w) := by
        unfold atI at h1 ⊢
        rw [List.length_map]
        obtain ⟨j, e1, e2⟩ := Option.bind_eq_some_iff.mp h1
        rw [e1]
        show (ns.map V.int)[j]? = some (V.int w)
        rw [List.getElem?_map, e2]
        rfl
      exact ix_list value slice pins s σ H _ _ v u Q I rx ry ⟨a1, _, i, _, rfl, rfl, hc.sq, this, q _ (.int w)⟩ hp
    | _ => simp [idxP] at e
  | str zz =>
    cases vb with
    | int i =>
      simp only [idxP] at e
      split at e
      · rename_i hl
        obtain ⟨c, h1, rfl⟩ := Option.map_eq_some_iff.mp e
        exact ix_str value slice pins s σ H _ _ v u Q I rx ry ⟨zz, i, c, rfl, rfl, hl, h1, q _ (.str _)⟩ hp
      · cases e
    | _ => simp [idxP] at e
  | @ref n a1 hn =>
    simp only [idxP] at e
    split at e
    · rename_i xs i e1
      obtain ⟨b1, g1, vs, g2, g3⟩ := hh.at e1
      rw [hn] at g1; cases g1
      cases vb
      obtain ⟨w, h1, h2⟩ := atI_ok g3 e
      exact ix_list value slice pins s σ H _ _ v u Q I rx ry ⟨a1, vs, i, w, rfl, rfl, .inl (.inl g2), h1, q w h2⟩ hp
    · rename_i kvs _ e1
      obtain ⟨key, e2, e3⟩ := Option.bind_eq_some_iff.mp e
      obtain ⟨vs, g2, g3, g4⟩ := dic_of hh e1 hn
      have := keyOf_ok vb e2
      subst this
      obtain ⟨_, i2⟩ := getD_ok key g3 g4
      obtain ⟨w, w1, w2⟩ := i2 z e3
      exact ix_dic (by omega) value slice pins s σ H _ _ v u Q I rx ry ⟨a1, w, rfl, by rw [← w1]; exact DGet.k g2, q w w2⟩ hp
    · rename_i kvs _ e1
      obtain ⟨key, e2, e3⟩ := Option.bind_eq_some_iff.mp e
      obtain ⟨od, vs, g2, g3, g4⟩ := frz_of hh e1 hn
      have := keyOf_ok vb e2
      subst this
      obtain ⟨_, i2⟩ := getD_ok key g3 g4
      obtain ⟨w, w1, w2⟩ := i2 z e3
      exact ix_dic (by omega) value slice pins s σ H _ _ v u Q I rx ry ⟨a1, w, rfl, by rw [← w1]; exact dget_frz g2, q w w2⟩ hp
    · cases e
  | _ => simp [idxP] at e
end
end Mp
namespace Mp
open PySem L2
section
variable {X : Cx} {cf : CF} {e a b c : Expr} {es : List Expr} {i ia ib ic : E} {pos : Pos}
theorem xe_bop {o : Operator} {bo : Bo} (ho : OpR X (binaryOp o) (ROp X.K fun M => bopP M bo)) (ha : XE X cf a ia) (hb : XE X cf b ib) : XE X cf (.BinOp a o b pos) (.bop bo ia ib) := by
  refine pe_imp (pe_op ho ha hb) fun s H Q h => ?_
  obtain ⟨r, sg, M, z, M', hs, hh, e, q⟩ := h
  simp only [evE] at e
  split at e
  · rename_i x M1 e1
    split at e
    · rename_i y M2 e2
      exact ⟨r, sg, M, x, M1, hs, hh, e1, fun r1 u1 H1 x1 h1 v1 => ⟨r1, sg, M1, y, M2, hs.ext x1, h1, e2, fun r2 u2 H2 x2 h2 v2 =>
        ⟨r2, M2, x, y, z, M', h2, v1.ext x2, v2, e, fun r3 u3 H3 x3 h3 v3 => q r3 u3 H3 (x1.trans (x2.trans x3)) h3 v3⟩⟩⟩
    · cases e
  · cases e
theorem cmp_inv {o : Co} {sg : Sg} {M M' : Mm} {z : PV} (e : evE cf (.cmp o ia ib) sg M = some (z, M')) : ∃ x y M1 k, evE cf ia sg M = some (x, M1) ∧ evE cf ib sg M1 = some (y, M') ∧ cmpP M' o x y = some k ∧ z = .bl k := by
  simp only [evE] at e
  split at e
  · rename_i x M1 e1
    split at e
    · rename_i y M2 e2
      obtain ⟨k, e3, e4⟩ := Option.map_eq_some_iff.mp e
      cases e4
      exact ⟨x, y, M1, k, e1, e2, e3, rfl⟩
    · cases e
  · cases e
theorem xe_cmp {o : CmpOp} {co : Co} (ho : OpR X (compareOp o) (RCm X.K fun M => cmpP M co)) (ha : XE X cf a ia) (hb : XE X cf b ib) (hm : behindInMarks o b = false) : XE X cf (.Compare a [o] [b] pos) (.cmp co ia ib) := by
  refine pe_imp (pe_cmpR ho ha hb hm) fun s H Q h => ?_
  obtain ⟨r, sg, M, z, M', hs, hh, e, q⟩ := h
  obtain ⟨x, y, M1, k, e1, e2, e3, rfl⟩ := cmp_inv e
  exact ⟨r, sg, M, x, M1, hs, hh, e1, fun r1 u1 H1 x1 h1 v1 => ⟨r1, sg, M1, y, M', hs.ext x1, h1, e2, fun r2 u2 H2 x2 h2 v2 =>
    ⟨r2, M', x, y, k, h2, v1.ext x2, v2, e3, q r2 _ H2 (x1.trans x2) h2 (.bl k)⟩⟩⟩
theorem xt_cmp {o : CmpOp} {co : Co} (ho : OpR X (compareOp o) (RCm X.K fun M => cmpP M co)) (ha : XE X cf a ia) (hb : XE X cf b ib) (hm : behindInMarks o b = false) : XT X cf (.Compare a [o] [b] pos) (.cmp co ia ib) := by
  refine pt_imp (pt_cmpR ho ha hb hm) fun s H Q h => ?_
  obtain ⟨r, sg, M, z, M', hs, hh, e, q⟩ := h
  obtain ⟨x, y, M1, k, e1, e2, e3, e4⟩ := cmp_inv e
  cases e4
  exact ⟨r, sg, M, x, M1, hs, hh, e1, fun r1 u1 H1 x1 h1 v1 => ⟨r1, sg, M1, y, M', hs.ext x1, h1, e2, fun r2 u2 H2 x2 h2 v2 =>
    ⟨r2, M', x, y, z, h2, v1.ext x2, v2, e3, z, rfl, q r2 H2 (x1.trans x2) h2⟩⟩⟩
theorem xe_chn {o o' : CmpOp} {co co' : Co} (ho : OpR X (compareOp o) (RCm X.K fun M => cmpP M co)) (ho' : OpR X (compareOp o') (RCm X.K fun M => cmpP M co')) (ha : XE X cf a ia) (hb : XE X cf b ib) (hc : XE X cf c ic)
    (hm : lastMarks [o, o'] [b, c] = false := by with_unfolding_all rfl) : XE X cf (.Compare a [o, o'] [b, c] pos) (.chn co co' ia ib ic) := by
  refine pe_imp (pe_chain ho ho' ha hb hc hm) fun s H Q h => ?_
  obtain ⟨r, sg, M, z, M', hs, hh, e, q⟩ := h
  simp only [evE] at e
  split at e
  · rename_i x M1 e1
    split at e
    · rename_i y M2 e2
      refine ⟨r, sg, M, x, M1, hs, hh, e1, fun r1 u1 H1 x1 h1 v1 => ⟨r1, sg, M1, y, M2, hs.ext x1, h1, e2, fun r2 u2 H2 x2 h2 v2 => ?_⟩⟩
      split at e
      · rename_i e3
        refine ⟨r2, M2, x, y, true, h2, v1.ext x2, v2, e3, true, rfl, iteT ?_⟩
        split at e
        · rename_i w M3 e4
          obtain ⟨k, e5, e6⟩ := Option.map_eq_some_iff.mp e
          cases e6
          exact ⟨r2, sg, M2, w, M', hs.ext (x1.trans x2), h2, e4, fun r3 u3 H3 x3 h3 v3 => ⟨r3, M', y, w, k, h3, v2.ext x3, v3, e5, q r3 _ H3 (x1.trans (x2.trans x3)) h3 (.bl k)⟩⟩
        · cases e
      · rename_i e3
        cases e
        exact ⟨r2, _, x, y, false, h2, v1.ext x2, v2, e3, false, rfl, iteF (q r2 _ H2 (x1.trans x2) h2 (.bl false))⟩
      · cases e
    · cases e
  · cases e
theorem xe_idx (hu : X.A.units + 64 < cLine) (ha : XE X cf a ia) (hb : XE X cf b ib) (hp : PlainIx b) : XE X cf (.Subscript a b pos) (.idx ia ib) := by
  refine pe_imp (pe_ix (ixx hu) ha hb hp) fun s H Q h => ?_
  obtain ⟨r, sg, M, z, M', hs, hh, e, q⟩ := h
  simp only [evE] at e
  split at e
  · rename_i x M1 e1
    split at e
    · rename_i y M2 e2
      obtain ⟨k, e3, e4⟩ := Option.map_eq_some_iff.mp e
      cases e4
      exact ⟨r, sg, M, x, M1, hs, hh, e1, fun r1 u1 H1 x1 h1 v1 => ⟨r1, sg, M1, y, _, hs.ext x1, h1, e2, fun r2 u2 H2 x2 h2 v2 =>
        ⟨r2, _, x, y, z, h2, v1.ext x2, v2, e3, fun u v => q r2 u H2 (x1.trans x2) h2 v⟩⟩⟩
    · cases e
  · cases e
def TOv (K : PySem.W.Frag) (fl : Bool) (f : Sg → Mm → R) : TO := fun s H Q => ∃ r sg M z o M', RS K r H sg s ∧ RH K r M H ∧ f sg M = some (z, M') ∧ optI fl z = some o ∧ ∀ r' H', Ext r r' H H' → RH K r' M' H' → Q o H'
theorem po_imp {o : Option Expr} {t t' : TO} (h : PO X o t) (k : ∀ s H Q, t' s H Q → t s H Q) : PO X o t' := ⟨fun pins s σ H Q I q => h.run pins s σ H Q I (k _ _ _ q)⟩
def XO (X : Cx) (cf : CF) (o : Option Expr) (fl : Bool) (i : E) : Prop := PO X o (TOv X.K fl (evE cf i))
theorem xo0 : XO X cf none false (.con .non) := by
  refine po_imp po_none fun s H Q h => ?_
  obtain ⟨r, sg, M, z, o, M', hs, hh, e, eo, q⟩ := h
  simp only [evE] at e
  cases e
  simp only [optI] at eo
  cases eo
  exact q r H .refl hh
theorem xo1 (h : XE X cf e i) : XO X cf (some e) true i := by
  refine po_imp (po_some h) fun s H Q h => ?_
  obtain ⟨r, sg, M, z, o, M', hs, hh, e, eo, q⟩ := h
  refine ⟨r, sg, M, z, M', hs, hh, e, fun r1 u1 H1 x1 h1 v1 => ?_⟩
  cases v1 with
  | int k => simp only [optI] at eo; cases eo; exact ⟨k, rfl, q r1 H1 x1 h1⟩
  | _ => simp [optI] at eo
def RSl (K : PySem.W.Frag) (fl fh : Bool) : V → Option Int → Option Int → Hp → VK → Prop := fun x lo hi H Q => ∃ r M a pl ph z M', RH K r M H ∧ RV K r H a x ∧ optI fl pl = some lo ∧ optI fh ph = some hi ∧ slcP fl fh M a pl ph = some (z, M') ∧ Post K r H z M' Q
theorem cut_ok {K : PySem.W.Frag} {r : List Addr} {H : Hp} {xs : List PV} {vs : List V} (h : RVs K r H xs vs) (lo hi : Option Int) : RVs K r H (cutP xs lo hi) (cutV vs lo hi) := by
  unfold cutP cutV
  rw [h.length]
  exact (h.drop _).take _
theorem cut_all (vs : List V) (lo hi : Option Int) (h1 : HT.sIx vs.length 0 lo = 0) (h2 : HT.sIx vs.length vs.length hi = vs.length) : cutV vs lo hi = vs := by
  unfold cutV
  rw [h1, h2]
  simp
theorem slx {fl fh : Bool} : SlR X (RSl X.K fl fh) := by
  intro pins s σ H x v vl vu lo hi sl Q I rx hs pl pu h
  obtain ⟨r, M, a, p1, p2, z, M', hh, va, o1, o2, e, q⟩ := h
  simp only [slcP, o1, o2] at e
  cases va with
  | @tup xs a1 vs ht hxs =>
    simp only at e
    cases e
    refine sl_tupA pins s σ H _ v vl vu lo hi sl Q I rx hs pl pu ⟨a1, vs, rfl, ht, fun w => ?_, fun _ p hp => q.tup hh (cut_ok hxs lo hi) hp⟩
    have w2 := cut_ok hxs lo hi
    rw [cut_all vs lo hi w.1 w.2] at w2
    exact q.here hh (.tup ht w2)
  | @ref n a1 hn =>
    simp only at e
    split at e
    · rename_i xs e1
      cases e
      obtain ⟨b1, vs, g1, g2, g3⟩ := lst_of hh e1
      rw [hn] at g1; cases g1
      exact sl_list pins s σ H _ v vl vu lo hi sl Q I rx hs pl pu ⟨a1, vs, rfl, .inl (.inl g2), fun p hp => q.lst hh (cut_ok g3 lo hi) hp⟩
    · cases e
  | _ => simp at e
theorem slc_inv {fl fh : Bool} {sg : Sg} {M M' : Mm} {z : PV} (e : evE cf (.slc fl fh i ia ib) sg M = some (z, M')) : ∃ x y w M1 M2 M3, evE cf i sg M = some (x, M1) ∧ evE cf ia sg M1 = some (y, M2) ∧ evE cf ib sg M2 = some (w, M3) ∧ slcP fl fh M3 x y w = some (z, M') := by
  simp only [evE] at e
  split at e
  · rename_i x M1 e1
    split at e
    · rename_i y M2 e2
      split at e
      · rename_i w M3 e3; exact ⟨x, y, w, M1, M2, M3, e1, e2, e3, e⟩
      · cases e
    · cases e
  · cases e
theorem slcP_opt {fl fh : Bool} {M : Mm} {x y w : PV} {z : PV × Mm} (e : slcP fl fh M x y w = some z) : (∃ o, optI fl y = some o) ∧ ∃ o, optI fh w = some o := by
  unfold slcP at e
  split at e
  · rename_i a b e1 e2; exact ⟨⟨a, e1⟩, ⟨b, e2⟩⟩
  · cases e
theorem xe_slc {fl fh : Bool} {lo hi : Option Expr} {p2 : Pos} (h : XE X cf e i) (hl : XO X cf lo fl ia) (hu : XO X cf hi fh ib) : XE X cf (.Subscript e (.Slice lo hi none p2) pos) (.slc fl fh i ia ib) := by
  refine pe_imp (pe_slice (slx (fl := fl) (fh := fh)) h hl hu) fun s H Q h => ?_
  obtain ⟨r, sg, M, z, M', hs, hh, e, q⟩ := h
  obtain ⟨x, y, w, M1, M2, M3, e1, e2, e3, e4⟩ := slc_inv e
  obtain ⟨⟨o1, p1⟩, o2, p2⟩ := slcP_opt e4
  exact ⟨r, sg, M, x, M1, hs, hh, e1, fun r1 u1 H1 x1 h1 v1 => ⟨r1, sg, M1, y, o1, M2, hs.ext x1, h1, e2, p1, fun r2 H2 x2 h2 => ⟨r2, sg, M2, w, o2, M3, hs.ext (x1.trans x2), h2, e3, p2, fun r3 H3 x3 h3 =>
    ⟨r3, M3, x, y, w, z, M', h3, v1.ext (x2.trans x3), p1, p2, e4, fun r4 u4 H4 x4 h4 v4 => q r4 u4 H4 (x1.trans (x2.trans (x3.trans x4))) h4 v4⟩⟩⟩⟩
def RCl (K : PySem.W.Frag) (f : Mm → List PV → R) : List V → Hp → VK → Prop := fun vs H Q => ∃ r M xs z M', RH K r M H ∧ RVs K r H xs vs ∧ f M xs = some (z, M') ∧ Post K r H z M' Q
theorem xe_blt {bb : B} {x : Str} {id : String} {p : Pos} {j : Es} (hc : CallR X (.builtin id) (RCl X.K fun M => bltP M bb)) (hg : Gl X x) (hm : X.mg x = none) (hv : bootBuiltins x = some (.builtin id)) (ha : XA X cf (e :: es) j)
    (hn : x ≠ "__name__" := by decide) (hdb : (x == ("__debug__" : Str)) = false := by decide)
    (he : starEach (e :: es) X.env = (false, eval e X.env) :: starEach es X.env := by rfl) (hpl : (backTo pos (starEach es X.env)).any (·.1) = false := by rfl) : XE X cf (.Call (.Name x p) (e :: es) [] pos) (.blt bb j) := by
  refine pe_imp (pe_callB hc hg hm hv ha hn hdb he hpl) fun s H Q h => ?_
  obtain ⟨r, sg, M, z, M', hs, hh, e, q⟩ := h
  simp only [evE] at e
  split at e
  · rename_i xs M1 e1
    exact ⟨r, sg, M, xs, M1, hs, hh, e1, fun r1 us H1 x1 h1 v1 => ⟨r1, M1, xs, z, M', h1, v1, e, fun r2 u2 H2 x2 h2 v2 => q r2 u2 H2 (x1.trans x2) h2 v2⟩⟩
  · cases e
theorem xe_bty {bb : B} {x : Str} {T : String} {p : Pos} {j : Es} (hc : CallR X (.type T) (RCl X.K fun M => bltP M bb)) (hg : Gl X x) (hm : X.mg x = none) (hv : bootBuiltins x = some (.type T)) (ha : XA X cf (e :: es) j)
    (hn : x ≠ "__name__" := by decide) (hdb : (x == ("__debug__" : Str)) = false := by decide)
    (he : starEach (e :: es) X.env = (false, eval e X.env) :: starEach es X.env := by rfl) (hpl : (backTo pos (starEach es X.env)).any (·.1) = false := by rfl) : XE X cf (.Call (.Name x p) (e :: es) [] pos) (.blt bb j) := by
  refine pe_imp (pe_callTy hc hg hm hv ha hn hdb he hpl) fun s H Q h => ?_
  obtain ⟨r, sg, M, z, M', hs, hh, e, q⟩ := h
  simp only [evE] at e
  split at e
  · rename_i xs M1 e1
    exact ⟨r, sg, M, xs, M1, hs, hh, e1, fun r1 us H1 x1 h1 v1 => ⟨r1, M1, xs, z, M', h1, v1, e, fun r2 u2 H2 x2 h2 v2 => q r2 u2 H2 (x1.trans x2) h2 v2⟩⟩
  · cases e
theorem cl_len : CallR X (.builtin "len") (RCl X.K fun M => bltP M .len) := by
  intro pins s σ H vs us Q I rv h
  obtain ⟨r, M, xs, z, M', hh, hv, e, q⟩ := h
  cases hv with
  | nil => simp [bltP] at e
  | @cons x xs v vs hx hv =>
    cases hv with
    | cons _ _ => simp [bltP] at e
    | nil =>
      cases hx with
      | str zz =>
        simp only [bltP] at e
        split at e
        · rename_i hl; cases e; exact call_len_str pins s σ H _ us Q I rv ⟨zz, rfl, hl, q.here hh (.int _)⟩
        · cases e
      | @tup ys a vs ht hys =>
        simp only [bltP] at e
        cases e
        refine call_len_seq pins s σ H _ us Q I rv ⟨a, vs, rfl, .inr ht, ?_⟩
        rw [← hys.length]
        exact q.here hh (.int _)
      | @cl ns a hc =>
        simp only [bltP] at e
        cases e
        refine call_len_seq pins s σ H _ us Q I rv ⟨a, _, rfl, .inl hc.sq, ?_⟩
        rw [List.length_map]
        exact q.here hh (.int _)
      | @ref n a hn =>
        simp only [bltP] at e
        split at e
        · rename_i ys e1
          cases e
          obtain ⟨b1, g1, vs, g2, g3⟩ := hh.at e1
          rw [hn] at g1; cases g1
          refine call_len_seq pins s σ H _ us Q I rv ⟨a, vs, rfl, .inl (.inl (.inl g2)), ?_⟩
          rw [← g3.length]
          exact q.here hh (.int _)
        · rename_i ys e1
          cases e
          obtain ⟨vs, g2, g3, g4⟩ := dic_of hh e1 hn
          refine call_lenD pins s σ H _ us Q I rv ⟨a, vs, rfl, g2, ?_⟩
          have : vs.length = ys.length := by
            have := congrArg List.length g3
            simpa using this
          rw [this]
          exact q.here hh (.int _)
        · cases e
      | _ => simp [bltP] at e
theorem one_inv {bb : B} {K : PySem.W.Frag} {r : List Addr} {H : Hp} {xs : List PV} {vs : List V} (h : RVs K r H xs vs) {x : PV} (e : xs = [x]) : ∃ v, vs = [v] ∧ RV K r H x v := by
  subst e
  cases h with
  | cons h hs => cases hs; exact ⟨_, rfl, h⟩
theorem cl_int : CallR X (.type "int") (RCl X.K fun M => bltP M .int) := by
  intro pins s σ H vs us Q I rv h
  obtain ⟨r, M, xs, z, M', hh, hv, e, q⟩ := h
  cases hv with
  | nil => simp [bltP] at e
  | @cons x xs v vs hx hv =>
    cases hv with
    | cons _ _ => cases x <;> simp [bltP] at e
    | nil =>
      cases hx with
      | int k => simp only [bltP] at e; cases e; exact call_int1 pins s σ H _ us Q I rv (.inl ⟨k, rfl, q.here hh (.int _)⟩)
      | bl k => simp only [bltP] at e; cases e; exact call_int1 pins s σ H _ us Q I rv (.inr ⟨k, rfl, q.here hh (.int _)⟩)
      | _ => simp [bltP] at e
theorem cl_abs : CallR X (.builtin "abs") (RCl X.K fun M => bltP M .abs) := by
  intro pins s σ H vs us Q I rv h
  obtain ⟨r, M, xs, z, M', hh, hv, e, q⟩ := h
  cases hv with
  | nil => simp [bltP] at e
  | @cons x xs v vs hx hv =>
    cases hv with
    | cons _ _ => cases x <;> simp [bltP] at e
    | nil =>
      cases hx with
      | int k => simp only [bltP] at e; cases e; exact call_abs pins s σ H _ us Q I rv ⟨k, rfl, q.here hh (.int _)⟩
      | _ => simp [bltP] at e
theorem cl_min2 (hc : X.calm = true) : CallR X (.builtin "min") (RCl X.K fun M => bltP M .min2) := by
  intro pins s σ H vs us Q I rv h
  obtain ⟨r, M, xs, z, M', hh, hv, e, q⟩ := h
  match xs, hv, e with
  | [.int i, .int j], hv, e =>
    cases hv with
    | cons h1 hv2 =>
      cases hv2 with
      | cons h2 hv3 =>
        cases hv3
        cases h1
        cases h2
        simp only [bltP] at e
        obtain ⟨rfl, rfl⟩ := Prod.mk.inj (Option.some.inj e)
        exact call_min2 hc pins s σ H _ us Q I rv ⟨i, j, rfl, q.here hh (.int _)⟩
theorem bls_ok {K : PySem.W.Frag} {r : List Addr} {H : Hp} : ∀ {xs : List PV} {vs : List V} {bs : List Bool}, RVs K r H xs vs → blsOf xs = some bs → vs = bs.map V.bl
  | [], _, _, .nil, e => by simp [blsOf] at e; subst e; rfl
  | x :: xs, _, _, .cons h hs, e => by
    cases x with
    | bl b =>
      simp only [blsOf] at e
      obtain ⟨bs, e1, rfl⟩ := Option.map_eq_some_iff.mp e
      cases h
      rw [bls_ok hs e1]
      rfl
    | _ => simp [blsOf] at e
theorem ints_ok {K : PySem.W.Frag} {r : List Addr} {H : Hp} : ∀ {xs : List PV} {vs : List V} {bs : List Int}, RVs K r H xs vs → intsOf xs = some bs → vs = bs.map V.int
  | [], _, _, .nil, e => by simp [intsOf] at e; subst e; rfl
  | x :: xs, _, _, .cons h hs, e => by
    cases x with
    | int b =>
      simp only [intsOf] at e
      obtain ⟨bs, e1, rfl⟩ := Option.map_eq_some_iff.mp e
      cases h
      rw [ints_ok hs e1]
      rfl
    | _ => simp [intsOf] at e
theorem ints_rv {K : PySem.W.Frag} {r : List Addr} {H : Hp} : ∀ ns : List Int, RVs K r H (ns.map PV.int) (ns.map V.int)
  | [] => .nil
  | n :: ns => .cons (.int n) (ints_rv ns)
theorem cl_all_ (hc : X.calm = true) : CallR X (.builtin "all") (RCl X.K fun M => bltP M .all) := by
  intro pins s σ H vs us Q I rv h
  obtain ⟨r, M, xs, z, M', hh, hv, e, q⟩ := h
  match xs, hv, e with
  | [.ref n], hv, e =>
    obtain ⟨v, rfl, hv1⟩ := one_inv (bb := .all) hv rfl
    simp only [bltP] at e
    obtain ⟨bs, e1, e2⟩ := Option.map_eq_some_iff.mp e
    obtain ⟨ys, e3, e4⟩ := Option.bind_eq_some_iff.mp e1
    cases e2
    obtain ⟨a, ws, g1, g2, g3⟩ := lst_of hh e3
    have := hv1.refAt g1
    subst this
    rw [bls_ok g3 e4] at g2
    exact cr_all hc pins s σ H _ us Q I rv ⟨a, bs, rfl, .inl (.inl g2), q.here hh (.bl _)⟩
theorem cl_tuple : CallR X (.type "tuple") (RCl X.K fun M => bltP M .tuple) := by
  intro pins s σ H vs us Q I rv h
  obtain ⟨r, M, xs, z, M', hh, hv, e, q⟩ := h
  match xs, hv, e with
  | [.ref n], hv, e =>
    obtain ⟨v, rfl, hv1⟩ := one_inv (bb := .all) hv rfl
    simp only [bltP] at e
    obtain ⟨ys, e3, e2⟩ := Option.map_eq_some_iff.mp e
    cases e2
    obtain ⟨a, ws, g1, g2, g3⟩ := lst_of hh e3
    have := hv1.refAt g1
    subst this
    exact call_tuple_of pins s σ H _ us Q I rv ⟨a, ws, rfl, .inl ⟨.inl (.inl g2), fun p hp => q.tup hh g3 hp⟩⟩
  | [.tup ys], hv, e =>
    obtain ⟨v, rfl, hv1⟩ := one_inv (bb := .all) hv rfl
    simp only [bltP] at e
    cases e
    cases hv1 with
    | @tup _ a ws ht hs => exact call_tuple_of pins s σ H _ us Q I rv ⟨a, ws, rfl, .inr ⟨ht, q.here hh (.tup ht hs)⟩⟩
theorem cl_list : CallR X (.type "list") (RCl X.K fun M => bltP M .list) := by
  intro pins s σ H vs us Q I rv h
  obtain ⟨r, M, xs, z, M', hh, hv, e, q⟩ := h
  match xs, hv, e with
  | [x], hv, e =>
    obtain ⟨v, rfl, hv1⟩ := one_inv (bb := .all) hv rfl
    simp only [bltP] at e
    obtain ⟨ys, e3, e2⟩ := Option.map_eq_some_iff.mp e
    cases e2
    cases hv1 with
    | @tup ws a vs ht hs => simp only [seqOf] at e3; cases e3; exact call_list_of pins s σ H _ us Q I rv ⟨a, vs, rfl, .inr ht, fun p hp => q.lst hh hs hp⟩
    | @ptup ws a vs ht hs => simp only [seqOf] at e3; cases e3; exact call_list_of pins s σ H _ us Q I rv ⟨a, vs, rfl, .inr ht.sqT, fun p hp => q.lst hh hs hp⟩
    | @ref n a hn =>
      simp only [seqOf] at e3
      obtain ⟨a', ws, g1, g2, g3⟩ := lst_of hh e3
      rw [hn] at g1; cases g1
      exact call_list_of pins s σ H _ us Q I rv ⟨a, ws, rfl, .inl (.inl (.inl g2)), fun p hp => q.lst hh g3 hp⟩
    | @cl ns a hc => simp only [seqOf] at e3; cases e3; exact call_list_of pins s σ H _ us Q I rv ⟨a, _, rfl, .inl hc.sq, fun p hp => q.lst hh (ints_rv ns) hp⟩
    | _ => simp [seqOf] at e3
theorem insI_perm (i : Int) : ∀ ns, (insI i ns).Perm (i :: ns)
  | [] => .refl _
  | j :: r => by
    unfold insI
    split
    · exact .refl _
    · exact ((insI_perm i r).cons j).trans (.swap i j r)
theorem sortI_perm : ∀ ns, (sortI ns).Perm ns
  | [] => .refl _
  | i :: r => (insI_perm i (sortI r)).trans ((sortI_perm r).cons i)
theorem insI_sorted (i : Int) : ∀ ns : List Int, ns.Pairwise (· ≤ ·) → (insI i ns).Pairwise (· ≤ ·)
  | [], _ => by simp [insI]
  | j :: r, h => by
    unfold insI
    rw [List.pairwise_cons] at h
    split
    · rename_i hij
      refine List.pairwise_cons.mpr ⟨fun y hy => ?_, List.pairwise_cons.mpr h⟩
      rcases List.mem_cons.mp hy with rfl | hy
      · exact hij
      · have := h.1 y hy; omega
    · rename_i hij
      refine List.pairwise_cons.mpr ⟨fun y hy => ?_, insI_sorted i r h.2⟩
      rcases List.mem_cons.mp ((insI_perm i r).mem_iff.mp hy) with rfl | hy
      · omega
      · exact h.1 y hy
theorem sortI_sorted : ∀ ns : List Int, (sortI ns).Pairwise (· ≤ ·)
  | [] => by simp [sortI]
  | i :: r => insI_sorted i _ (sortI_sorted r)
theorem sortI_uniq {ns ns' : List Int} (p : ns'.Perm ns) (s : ns'.Pairwise (· ≤ ·)) : ns' = sortI ns :=
  PySem.W.ksm_same (p.trans (sortI_perm ns).symm) s (sortI_sorted ns)
theorem keysI_ok : ∀ {kvs : List (Key × PV)} {ns : List Int}, keysI kvs = some ns → kvs.map (·.1) = ns.map Sum.inl
  | [], _, e => by simp [keysI] at e; subst e; rfl
  | (.inl i, v) :: r, _, e => by
    simp only [keysI] at e
    obtain ⟨ns, e1, rfl⟩ := Option.map_eq_some_iff.mp e
    simp [keysI_ok e1]
  | (.inr i, v) :: r, _, e => by simp [keysI] at e
theorem cl_sorted (hc : X.calm = true) : CallR X (.builtin "sorted") (RCl X.K fun M => bltP M .sorted) := by
  intro pins s σ H vs us Q I rv h
  obtain ⟨r, M, xs, z, M', hh, hv, e, q⟩ := h
  match xs, hv, e with
  | [.ref n], hv, e =>
    obtain ⟨v, rfl, hv1⟩ := one_inv (bb := .all) hv rfl
    simp only [bltP] at e
    split at e
    · rename_i ys e0
      obtain ⟨ns, e1, e2⟩ := Option.bind_eq_some_iff.mp e
      split at e2
      · rename_i hl
        cases e2
        obtain ⟨a, g1, ws, g2, g3⟩ := hh.at e0
        have := hv1.refAt g1
        subst this
        rw [ints_ok g3 e1] at g2
        refine cr_sorted pins s σ H _ us Q I rv ⟨a, ns, rfl, .inl (.inl g2), hl, fun ns' p pm so hp => ?_⟩
        rw [sortI_uniq pm so]
        exact q.lst hh (ints_rv _) hp
      · cases e2
    · rename_i kvs e0
      obtain ⟨ns, e1, e2⟩ := Option.bind_eq_some_iff.mp e
      split at e2
      · rename_i hl
        cases e2
        obtain ⟨a, g1, g⟩ := hh.at e0
        have := hv1.refAt g1
        subst this
        obtain ⟨ws, g2, g3, g4⟩ := g
        refine call_sortedDI hc pins s σ H _ us Q I rv ⟨a, ws, ns, rfl, .inl g2, by rw [g3]; exact keysI_ok e1, hl, fun ns' p pm so hp => ?_⟩
        rw [sortI_uniq pm so]
        exact q.lst hh (ints_rv _) hp
      · cases e2
    · cases e
end
end Mp
namespace Mp
open PySem L2
open PySem.Sem (wp)
open PySem.AutoSeq1 (wpAny_loadPart')
theorem meets_enum_newT (l : Addr) (items : Array Value) (n : Nat) (dct : Option Addr) (sl : Array (Option Value)) :
    Meets (Builtin.«enumerate.__new__» ⟨[.type "enumerate", .ref l], []⟩) (fun _ R s => s.heap.get? l = some { cls := .type "tuple", dict := dct, data := .seq items n, slots := sl } ∧
      R (.ok (.ret (.ref (s.heap.push { cls := .type "tuple_iterator", data := .fields #[.ref l, .int 0 0] }).objs.size)))
        { s with heap := (s.heap.push { cls := .type "tuple_iterator", data := .fields #[.ref l, .int 0 0] }).push { cls := .type "enumerate", data := .fields #[.none, .bool false, .ref s.heap.objs.size, rawInt 0, .none, .none] } }) :=
  .of_wp fun prog w A R s h => by
    obtain ⟨hp, g, d, tk, os⟩ := s
    obtain ⟨hl, h⟩ := h
    have hsub := sub_enumerate
    have hL : Heap.IsTuple (Shared.heap ⟨hp, g, d, tk, os⟩) l items := ⟨_, hl, rfl, n, rfl⟩
    wp_walk using wpAny_loadPart' hl
    refine wpAny_stack_any fun st => wpAny_pure ?_
    split
    · rename_i c _ _ _ _ _
      cases (c == Value.type "enumerate")
      · wp_walk using wpAny_loadPart' hl, wpAny_pyIter_tuple hL
        exact ⟨_, rfl, h⟩
      · wp_walk using wpAny_loadPart' hl, wpAny_pyIter_tuple hL
        exact ⟨_, rfl, h⟩
    · wp_walk using wpAny_loadPart' hl, wpAny_pyIter_tuple hL
      exact ⟨_, rfl, h⟩
theorem call_enum_tuple {prog : Program} {w : World} {A : Around} {E : Value → Shared → Prop} {s : Shared} {l : Addr} {items : Array Value} {Q : Value → Shared → Prop} (hL : s.heap.IsTuple l items)
    (h : ∀ h', IsEnum h' (s.heap.objs.size + 1) s.heap.objs.size 0 .none → h'.IsTupleIter s.heap.objs.size l 0 → h'.objs.size = s.heap.objs.size + 2 →
      (∀ b o, s.heap.get? b = some o → h'.get? b = some o) → Q (.ref (s.heap.objs.size + 1)) { s with heap := h' }) :
    wpAny (model prog w) A (call (.type "enumerate") [.ref l]) Q E s := by
  obtain ⟨⟨c, dct, dt, sl⟩, hl, hc, n, hd⟩ := hL
  replace hc : c = .type "tuple" := hc
  replace hd : dt = .seq items n := hd
  subst hc hd
  refine callType_new F.called_enumerate (by decide) (F.typeCall_enumerate_1 _) (F.newCall_enumerate_1 _) (fun obj => F.args_object_init_2 obj _) F.entry_enumerate_new
    (meets_enum_newT l items n dct sl) ⟨hl, ?_⟩
  have hz : (s.heap.push { cls := .type "tuple_iterator", data := .fields #[.ref l, .int 0 0] }).objs.size = s.heap.objs.size + 1 := Heap.size_push ..
  show _ ∧ _
  rw [hz]
  have he : IsEnum ((s.heap.push { cls := .type "tuple_iterator", data := .fields #[.ref l, .int 0 0] }).push
      { cls := .type "enumerate", data := .fields #[.none, .bool false, .ref s.heap.objs.size, rawInt 0, .none, .none] }) (s.heap.objs.size + 1) s.heap.objs.size 0 .none := by
    have := Heap.get?_push_size (s.heap.push { cls := .type "tuple_iterator", data := .fields #[.ref l, .int 0 0] })
      (o := { cls := .type "enumerate", data := .fields #[.none, .bool false, .ref s.heap.objs.size, rawInt 0, .none, .none] }) rfl
    rw [hz] at this; exact this
  refine ⟨⟨_, he, rfl⟩, h _ he ⟨_, Heap.get?_push_of_some _ (Heap.get?_push_size _ rfl), rfl, rfl⟩ (by rw [Heap.size_push, hz]) fun b o x => Heap.get?_push_of_some _ (Heap.get?_push_of_some _ x)⟩
def IteT (K : PySem.W.Frag) (a : Addr) : L2.It :=
  ⟨fun i H => ∃ (xs : List V) (x : V), SqT K H a xs ∧ xs[i]? = some x, fun i H v H' => ∃ T x, v = .ref T ∧ H T = none ∧ H' = upd H T (.tup [.int (i : Nat), x]) ∧ ∀ xs, SqT K H a xs → xs[i]? = some x, fun i H => ∃ xs : List V, SqT K H a xs ∧ xs.length ≤ i⟩
theorem turn_enumT {P : Program} {w : World} {K : PySem.W.Frag} {elts : List Expr} {kk : Nat} {tpos : Pos} (a e it : Addr) (hai : a ≠ it) (hae : e ≠ a) :
    Turn P w K (.Tuple elts kk tpos) (IteT K a) [e, it] e (fun i h => (∃ old, IsEnum h e it ((i : Nat) : Int) old) ∧ h.IsTupleIter it a i ∧ e ≠ it) where
  mem := by simp
  obj := fun i h st b hb => by
    obtain ⟨⟨old, he⟩, ⟨o, ho, hc, hd⟩, _⟩ := st
    have e' : b = e ∨ b = it := by simpa using hb
    rcases e' with z | z
    · rw [z]; exact ⟨_, he, fun v q => nomatch q⟩
    · rw [z]; exact ⟨o, ho, fun v q => by rw [hd] at q; cases q⟩
  keep := fun i h h' st k => let ⟨⟨old, he⟩, hi, hne⟩ := st; ⟨⟨old, k e (by simp) _ he⟩, hi.at fun o q => k it (by simp) o q, hne⟩
  item := by
    intro X hP hw hK hc i pins s σ H E I hf st hg
    subst hP hw hK
    obtain ⟨⟨old, he⟩, hit, hne⟩ := st
    obtain ⟨xs, x, hq, hx⟩ := hg
    obtain ⟨its, rv, p, hz⟩ := I.tuple hq
    obtain ⟨u, hu, ru⟩ := rv.get hx
    have hel : e < s.heap.objs.size := Heap.lt_size he
    have hil : it < s.heap.objs.size := by obtain ⟨_, q, _⟩ := hit; exact Heap.lt_size q
    have hsz : i < its.toArray.size := by
      have := (List.getElem?_eq_some_iff.mp hu).1
      simpa using this
    refine wpAny_pyNext_enum_itemD (Draws.tuple (A := X.A.in1) (I.ok.hd hc) it a hai its.toArray) he ⟨hit, p⟩ hsz hne (by simp [hne, hae]) fun y h' tk hy ho hit' hT hsz hk => ?_
    have hyu : y = u := by
      have : its.toArray[i]? = some u := by simpa using hu
      rw [this] at hy
      exact (Option.some.inj hy).symm
    subst hyu
    refine ⟨_, rfl, wpAny_letOwnedTupleGo_enum (s := { s with heap := h', toks := tk + 1 }) ho fun h'' he' sb => ?_⟩
    have hT2 : h''.get? s.heap.objs.size = some { cls := .type "tuple", data := .seq #[.int i tk, y] } := (sb.2 _ (Nat.ne_of_gt hel)).trans hT
    have new : ObjOk X.prog X.w (upd H s.heap.objs.size (.tup [.int (i : Nat), x])) h'' s.heap.objs.size (.tup [.int (i : Nat), x]) :=
      ⟨by show 2 ≤ sizeLine; decide, [.int i tk, y], .cons ⟨_, rfl⟩ (.cons ru .nil), ⟨_, hT2, rfl, _, rfl⟩⟩
    have I1 : Inv X pins σ (upd H s.heap.objs.size (.tup [.int (i : Nat), x])) { s with heap := h'', toks := tk + 1 } :=
      I.turnedNew (ch := [e, it]) (fun b ob hb q => (sb.2 b (fun z => hb (by simp [z]))).trans (hk b ob (fun z => hb (by simp [z])) (fun z => hb (by simp [z])) q)) hf (Nat.le_refl _) new
    refine ⟨.ref s.heap.objs.size, _, I1, rfl, ⟨_, x, rfl, I.hok.fresh (Nat.le_refl _), rfl, fun ys hy => by rw [I.tuple_inj hy hq]; exact hx⟩, ⟨⟨y, ?_⟩, hit'.1.at fun o q => (sb.2 it (Ne.symm hne)).trans q, hne⟩, fun b hb => ?_⟩
    · have e1 : ((i + 1 : Nat) : Int) = (i : Int) + 1 := by omega
      rw [e1]; exact he'
    · have hb' : b < s.heap.objs.size := by
        have e' : b = e ∨ b = it := by simpa using hb
        rcases e' with z | z
        · rw [z]; exact hel
        · rw [z]; exact hil
      rw [upd_ne (Nat.ne_of_lt hb')]
      exact (hf b hb).1
  done := by
    intro X hP hw hK hc i pins s σ H E I hf st hg
    subst hP hw hK
    obtain ⟨⟨old, he⟩, hit, hne⟩ := st
    obtain ⟨xs, hq, hx⟩ := hg
    obtain ⟨its, rv, p, hz⟩ := I.tuple hq
    obtain ⟨f0, f1, f2, f3, f4, f5⟩ := hf it (by simp)
    have hl := rv.length
    have hT : s.TypeIs (.ref e) "enumerate" := ⟨_, he, rfl⟩
    unfold pyNext
    refine wpAny_bind (wpAny_attempt (wpAny_callSpecial?_slot (name := Str.ofString "__next__") hT F.slot_enumerate_next
      (wpAny_call_entry F.slot_enumerate_next hT F.entry_enumerate_next ?_ (F.args_enumerate_next_1 _))))
    show wpAny _ _ (field (.ref e) 2 >>= _) _ _ _
    refine wpAny_bind (wpAny_field he rfl (x := .ref it) rfl ?_)
    refine wpAny_bind (PySem.wpAny_nextOf_tuple_end (I.ok.hd hc) hit (show s.heap.IsTuple a its.toArray from p) (by simp; omega) fun h' x he' hx' => ?_)
    obtain ⟨o, ho, hc⟩ := hx'
    refine wpAny_bind (wpAny_isInstance (T := "StopIteration") (b := true) ⟨o, ho, hc⟩ isSubtype_stop ?_)
    exact wpAny_pure ⟨rfl, I.turned (t' := s.toks) (fun b o hb q => he' b o hb q) f0 f1 f3 f4 f5⟩
  self := fun A i s Q E st h => let ⟨⟨_, he⟩, _⟩ := st; wpAny_pyIter_enum he h
def iEnumT (K : PySem.W.Frag) (ta : TA) : TI := fun σ H R => ta σ H fun vs H1 => ∃ a xs, vs = [.ref a] ∧ ((SqL K H1 a xs ∧ R (Ite K a) H1) ∨ (SqT K H1 a xs ∧ R (IteT K a) H1))
theorem pi_enumA {X : Cx} {e : Expr} {ta : TA} {p pos tpos : Pos} {elts : List Expr} {kk : Nat} (hg : Gl X "enumerate") (hm : X.mg "enumerate" = none) (ha : PA X [e] ta) (hs : starEach [e] X.env = [(false, eval e X.env)] := by rfl) :
    PI X (.Tuple elts kk tpos) (.Call (.Name "enumerate" p) [e] [] pos) (iEnumT X.K ta) := by
  refine ⟨fun pins s σ H R I h => ?_⟩
  refine PyProof.Rows.Call_ (ld_blt I hg hm PyProof.Rows.boot_enumerate (PyProof.Rows.callWith_type1 (thn (ha.run pos pins s σ H _ I h) fun us s1 ⟨vs, H1, I1, r1, q1⟩ => ?_) hs rfl))
  obtain ⟨a, xs, ex, q⟩ := q1
  subst ex
  cases r1 with
  | cons r rr =>
    cases rr
    cases r
    have fp : ∀ b, b ∈ [s1.heap.objs.size + 1, s1.heap.objs.size] → FpOk X pins H1 b := fun b hb => by
      have e' : b = s1.heap.objs.size + 1 ∨ b = s1.heap.objs.size := by simpa using hb
      have hle : s1.heap.objs.size ≤ b := by
        rcases e' with z | z
        · rw [z]; exact Nat.le_add_right _ _
        · rw [z]; exact Nat.le_refl _
      exact I1.fpOk hle (I1.hok.fresh hle)
    rcases q with ⟨hq, q⟩ | ⟨hq, q⟩
    · obtain ⟨its, rv, p', hz⟩ := I1.list hq
      refine call_enumerate_list p'.isList fun h' he hit hsz hk => wpAny_pyIter_enum he ?_
      have I2 : Inv X pins σ H1 { s1 with heap := h' } := I1.kept (t' := s1.toks) hk
      exact ⟨s1.heap.objs.size + 1, [s1.heap.objs.size + 1, s1.heap.objs.size], _, _, H1, rfl, I2, turn_enum a (s1.heap.objs.size + 1) s1.heap.objs.size, ⟨⟨.none, he⟩, hit, Nat.succ_ne_self _⟩, fp, q⟩
    · obtain ⟨its, rv, p', hz⟩ := I1.tuple hq
      have hlt : a < s1.heap.objs.size := by obtain ⟨o, ho, _⟩ := p'; exact Heap.lt_size ho
      refine call_enum_tuple (show s1.heap.IsTuple a its.toArray from p') fun h' he hit hsz hk => wpAny_pyIter_enum he ?_
      have I2 : Inv X pins σ H1 { s1 with heap := h' } := I1.kept (t' := s1.toks) hk
      exact ⟨s1.heap.objs.size + 1, [s1.heap.objs.size + 1, s1.heap.objs.size], _, _, H1, rfl, I2, turn_enumT a (s1.heap.objs.size + 1) s1.heap.objs.size (Nat.ne_of_lt hlt) (Nat.ne_of_gt (Nat.lt_succ_of_lt hlt)), ⟨⟨.none, he⟩, hit, Nat.succ_ne_self _⟩, fp, q⟩
end Mp
namespace Mp
open PySem L2 PyProof.Rows
section
variable {prog : Program} {w : World} {A : Around} {E : Value → Shared → Prop} {s : Shared} {z TI TO i1 i2 l1 l2 : Addr} {k1 k2 : Nat} {xs ys : Array Value} {x y a b : Value}
theorem zipM_item {Q : Value → Shared → Prop} (D : ZipApart z TI TO i1 i2 l1 l2) (hz : IsZip s.heap z TI TO Value.none) (hTI : IsPair s.heap TI (Value.ref i1) (Value.ref i2)) (hTO : IsPair s.heap TO a b) (h1 : s.heap.IsTupleIter i1 l1 k1) (h2 : s.heap.IsListIter i2 l2 k2) (hl1 : s.heap.IsTuple l1 xs) (hl2 : s.heap.IsList l2 ys) (hx : xs[k1]? = some x) (hy : ys[k2]? = some y)
    (hQ : ∀ (h' : Heap), IsZip h' z TI TO (rawInt ↑s.heap.objs.size) → IsPair h' TO x y → h'.IsTupleIter i1 l1 (k1 + 1) → h'.IsListIter i2 l2 (k2 + 1) → IsPair h' s.heap.objs.size x y → h'.objs.size = s.heap.objs.size + 1 → (∀ (c : Addr) (o : Obj), c ≠ z → c ≠ TO → c ≠ i1 → c ≠ i2 → s.heap.get? c = some o → h'.get? c = some o) → Q (Value.ref s.heap.objs.size) { s with heap := h' }) :
    wpAny (model prog w) A (Builtin.«zip.__next__» { pos := [Value.ref z] }) (fun fin s' => ∃ v, fin = Fin.done (Flow.ret v) ∧ Q v s') E s := by
  refine wpAny_bind (wpAny_pure ?_)
  refine wpAny_bind (wpAny_field hz rfl rfl ?_)
  refine wpAny_bind (wpAny_field hz rfl rfl ?_)
  refine wpAny_bind (wpAny_seqItems hTI rfl ?_)
  refine wpAny_bind ?_
  refine wpAny_bind (wpAny_field hz rfl rfl ?_)
  refine wpAny_pure ?_
  refine wpAny_bind (wpAny_rule ?_)
  refine wpAny_bind (wpAny_field hz rfl rfl ?_)
  refine wpAny_bind (wpAny_setField_rec hz (by simp) fun h₁ hz₁ hs₁ => ?_)
  refine wpAny_bind ?_
  rw [show (#[Value.ref i1, Value.ref i2].toList.zipIdx : List (Value × Nat)) = [(Value.ref i1, 0), (Value.ref i2, 1)] from rfl, List.forIn_cons]
  refine wpAny_bind ?_
  refine wpAny_bind ?_
  refine wpAny_onRaise ?_
  refine wpAny_bind ?_
  have hl1' : h₁.IsTuple l1 xs := Heap.IsTuple.extBut hl1 (Heap.SameBut.extBut hs₁) D.l1z
  have h1' : h₁.IsTupleIter i1 l1 k1 := Heap.IsTupleIter.extBut h1 (Heap.SameBut.extBut hs₁) D.i1z
  refine RZ.nextOf_tuple_item h1' hl1' hx fun h₂ h1₂ hs₂ => ?_
  refine wpAny_pure ?_
  have hTO₂ : IsPair h₂ TO a b := Heap.SameBut.extBut hs₂ TO _ D.TOi1 (Heap.SameBut.extBut hs₁ TO _ D.TOz hTO)
  refine wpAny_bind (wpAny_seqItems hTO₂ rfl ?_)
  refine wpAny_bind (wpAny_updateSeq_pair hTO₂ fun h₃ hTO₃ hs₃ => ?_)
  refine wpAny_bind (wpAny_letGo ?_)
  refine wpAny_pure ?_
  simp only
  rw [List.forIn_cons]
  refine wpAny_bind ?_
  refine wpAny_bind ?_
  refine wpAny_onRaise ?_
  refine wpAny_bind ?_
  have hl2' : h₃.IsList l2 ys := Heap.IsList.extBut (Heap.IsList.extBut (Heap.IsList.extBut hl2 (Heap.SameBut.extBut hs₁) D.l2z) (Heap.SameBut.extBut hs₂) D.l2i1) (Heap.SameBut.extBut hs₃) D.l2TO
  have h2' : h₃.IsListIter i2 l2 k2 := Heap.IsListIter.extBut (Heap.IsListIter.extBut (Heap.IsListIter.extBut h2 (Heap.SameBut.extBut hs₁) D.i2z) (Heap.SameBut.extBut hs₂) (Ne.symm D.i12)) (Heap.SameBut.extBut hs₃) (Ne.symm D.TOi2)
  refine wpAny_nextOf_list_item h2' hl2' hy fun h₄ h2₄ hs₄ => ?_
  refine wpAny_pure ?_
  have hTO₄ : IsPair h₄ TO x b := Heap.SameBut.extBut hs₄ TO _ D.TOi2 hTO₃
  refine wpAny_bind (wpAny_seqItems hTO₄ rfl ?_)
  refine wpAny_bind (wpAny_updateSeq_pair hTO₄ fun h₅ hTO₅ hs₅ => ?_)
  refine wpAny_bind (wpAny_letGo ?_)
  refine wpAny_pure ?_
  simp only
  rw [List.forIn_nil]
  refine wpAny_pure ?_
  simp only
  have hTO₅ : IsPair h₅ TO x y := hTO₅
  refine wpAny_bind (wpAny_seqItems hTO₅ rfl ?_)
  refine wpAny_bind ?_
  have c₂ := Heap.SameBut.extBut hs₂
  have c₃ := Heap.SameBut.extBut hs₃
  have c₄ := Heap.SameBut.extBut hs₄
  have c₅ := Heap.SameBut.extBut hs₅
  have hz₅ := c₅ z _ (Ne.symm D.TOz) (c₄ z _ (Ne.symm D.i2z) (c₃ z _ (Ne.symm D.TOz) (c₂ z _ (Ne.symm D.i1z) hz₁)))
  refine wpAny_newTuple ?_ (by show (2 : Nat) ≤ sizeLine; decide)
  have hz₆ := Heap.get?_push_of_some { cls := Value.type "tuple", data := Data.seq #[x, y] } hz₅
  refine wpAny_bind ?_
  refine wpAny_bind ?_
  refine wpAny_setField_rec hz₆ (by simp) fun h₇ hz₇ hs₇ => ?_
  refine wpAny_setField_rec hz₇ (by simp) fun h₈ hz₈ hs₈ => ?_
  refine wpAny_pure ?_
  have hsz : h₅.objs.size = s.heap.objs.size := by
    have a1 := hs₁.1
    have a2 := hs₂.1
    have a3 := hs₃.1
    have a4 := hs₄.1
    have a5 := hs₅.1
    simp only at a1 a2 a3 a4 a5
    omega
  have c₁ := Heap.SameBut.extBut hs₁
  have c₇ := Heap.SameBut.extBut hs₇
  have c₈ := Heap.SameBut.extBut hs₈
  have hpu : ∀ (c : Addr) (o : Obj), h₅.get? c = some o → (h₅.push { cls := Value.type "tuple", data := Data.seq #[x, y] }).get? c = some o := fun c o q => Heap.get?_push_of_some _ q
  have hzl : z < s.heap.objs.size := Heap.lt_size hz
  refine ⟨_, rfl, ?_⟩
  show Q (Value.ref h₅.objs.size) { s with heap := h₈ }
  rw [hsz]
  refine hQ h₈ (by rw [← hsz]; exact hz₈) (c₈ TO _ D.TOz (c₇ TO _ D.TOz (hpu _ _ hTO₅))) ?_ ?_ ?_ ?_ ?_
  · exact Heap.IsTupleIter.at h1₂ fun o q => c₈ i1 _ D.i1z (c₇ i1 _ D.i1z (hpu _ _ (c₅ i1 _ (Ne.symm D.TOi1) (c₄ i1 _ D.i12 (c₃ i1 _ (Ne.symm D.TOi1) q)))))
  · exact Heap.IsListIter.at h2₄ fun o q => c₈ i2 _ D.i2z (c₇ i2 _ D.i2z (hpu _ _ (c₅ i2 _ (Ne.symm D.TOi2) q)))
  · rw [← hsz]
    have hne : h₅.objs.size ≠ z := Nat.ne_of_gt (by rw [hsz]; exact hzl)
    exact c₈ _ _ hne (c₇ _ _ hne (Heap.get?_push_size h₅ rfl))
  · have a6 := Heap.size_push h₅ { cls := Value.type "tuple", data := Data.seq #[x, y].toList.toArray }
    exact hs₈.1.trans (hs₇.1.trans (a6.trans (by rw [hsz])))
  · intro c o n1 n2 n3 n4 q
    exact c₈ c o n1 (c₇ c o n1 (hpu _ _ (c₅ c o n2 (c₄ c o n4 (c₃ c o n2 (c₂ c o n3 (c₁ c o n1 q)))))))
theorem zipM_end {Q : PySem.Fin → Shared → Prop} (hh : A.handled = none) (D : ZipApart z TI TO i1 i2 l1 l2) (hz : IsZip s.heap z TI TO Value.none) (hTI : IsPair s.heap TI (Value.ref i1) (Value.ref i2)) (hTO : IsPair s.heap TO a b) (h1 : s.heap.IsTupleIter i1 l1 k1) (h2 : s.heap.IsListIter i2 l2 k2) (hl1 : s.heap.IsTuple l1 xs) (hl2 : s.heap.IsList l2 ys) (hend : xs[k1]? = none ∨ ys[k2]? = none)
    (hE : ∀ (h' : Heap) (e : Addr), (∀ (c : Addr) (o : Obj), c ≠ z → c ≠ TO → c ≠ i1 → c ≠ i2 → s.heap.get? c = some o → h'.get? c = some o) → (∃ o, h'.get? e = some o ∧ o.cls = Value.type "StopIteration") → E (Value.ref e) { s with heap := h' }) :
    wpAny (model prog w) A (Builtin.«zip.__next__» { pos := [Value.ref z] }) Q E s := by
  refine wpAny_bind (wpAny_pure ?_)
  refine wpAny_bind (wpAny_field hz rfl rfl ?_)
  refine wpAny_bind (wpAny_field hz rfl rfl ?_)
  refine wpAny_bind (wpAny_seqItems hTI rfl ?_)
  refine wpAny_bind ?_
  refine wpAny_bind (wpAny_field hz rfl rfl ?_)
  refine wpAny_pure ?_
  refine wpAny_bind (wpAny_rule ?_)
  refine wpAny_bind (wpAny_field hz rfl rfl ?_)
  refine wpAny_bind (wpAny_setField_rec hz (by simp) fun h₁ hz₁ hs₁ => ?_)
  refine wpAny_bind ?_
  rw [show (#[Value.ref i1, Value.ref i2].toList.zipIdx : List (Value × Nat)) = [(Value.ref i1, 0), (Value.ref i2, 1)] from rfl, List.forIn_cons]
  refine wpAny_bind ?_
  refine wpAny_bind ?_
  refine wpAny_onRaise ?_
  refine wpAny_bind ?_
  have hl1' : h₁.IsTuple l1 xs := Heap.IsTuple.extBut hl1 (Heap.SameBut.extBut hs₁) D.l1z
  have h1' : h₁.IsTupleIter i1 l1 k1 := Heap.IsTupleIter.extBut h1 (Heap.SameBut.extBut hs₁) D.i1z
  have c₁ := Heap.SameBut.extBut hs₁
  have ne : ∀ {h : Heap} {e : Addr} {oe : Obj} {fs : Array Value}, h.get? z = some { cls := Value.type "zip", data := Data.fields fs } → h.get? e = some oe → oe.cls = Value.type "StopIteration" → e ≠ z := fun g1 g2 g3 q => by
    subst q
    rw [g1] at g2
    injection g2 with g2
    subst g2
    simp at g3
  cases hx : xs[k1]? with
  | none =>
    refine RZ.nextOf_tuple_end hh h1' hl1' hx fun h₂ e hs₂ he => ?_
    obtain ⟨oe, hoe, hce⟩ := he
    have hz₂ := hs₂ z _ (Ne.symm D.i1z) hz₁
    have hez := ne hz₂ hoe hce
    refine wpAny_setField_rec hz₂ (by simp) fun h₃ _ hs₃ => ?_
    have c₃ := Heap.SameBut.extBut hs₃
    exact hE h₃ e (fun c o n1 n2 n3 n4 q => c₃ c o n1 (hs₂ c o n3 (c₁ c o n1 q))) ⟨oe, c₃ e oe hez hoe, hce⟩
  | some x =>
    have hy : ys[k2]? = none := by
      rcases hend with q | q
      · rw [hx] at q; cases q
      · exact q
    refine RZ.nextOf_tuple_item h1' hl1' hx fun h₂ h1₂ hs₂ => ?_
    refine wpAny_pure ?_
    have hTO₂ : IsPair h₂ TO a b := Heap.SameBut.extBut hs₂ TO _ D.TOi1 (Heap.SameBut.extBut hs₁ TO _ D.TOz hTO)
    refine wpAny_bind (wpAny_seqItems hTO₂ rfl ?_)
    refine wpAny_bind (wpAny_updateSeq_pair hTO₂ fun h₃ hTO₃ hs₃ => ?_)
    refine wpAny_bind (wpAny_letGo ?_)
    refine wpAny_pure ?_
    simp only
    rw [List.forIn_cons]
    refine wpAny_bind ?_
    refine wpAny_bind ?_
    refine wpAny_onRaise ?_
    refine wpAny_bind ?_
    have hl2' : h₃.IsList l2 ys := Heap.IsList.extBut (Heap.IsList.extBut (Heap.IsList.extBut hl2 (Heap.SameBut.extBut hs₁) D.l2z) (Heap.SameBut.extBut hs₂) D.l2i1) (Heap.SameBut.extBut hs₃) D.l2TO
    have h2' : h₃.IsListIter i2 l2 k2 := Heap.IsListIter.extBut (Heap.IsListIter.extBut (Heap.IsListIter.extBut h2 (Heap.SameBut.extBut hs₁) D.i2z) (Heap.SameBut.extBut hs₂) (Ne.symm D.i12)) (Heap.SameBut.extBut hs₃) (Ne.symm D.TOi2)
    refine wpAny_nextOf_list_end hh h2' hl2' hy fun h₄ e hs₄ he => ?_
    obtain ⟨oe, hoe, hce⟩ := he
    have c₂ := Heap.SameBut.extBut hs₂
    have c₃ := Heap.SameBut.extBut hs₃
    have hz₄ := hs₄ z _ (Ne.symm D.i2z) (c₃ z _ (Ne.symm D.TOz) (c₂ z _ (Ne.symm D.i1z) hz₁))
    have hez := ne hz₄ hoe hce
    refine wpAny_setField_rec hz₄ (by simp) fun h₅ _ hs₅ => ?_
    have c₅ := Heap.SameBut.extBut hs₅
    exact hE h₅ e (fun c o n1 n2 n3 n4 q => c₅ c o n1 (hs₄ c o n4 (c₃ c o n2 (c₂ c o n3 (c₁ c o n1 q))))) ⟨oe, c₅ e oe hez hoe, hce⟩
theorem pyNext_zipM_item {Q : Option Value → Shared → Prop} (D : ZipApart z TI TO i1 i2 l1 l2) (hz : IsZip s.heap z TI TO Value.none) (hTI : IsPair s.heap TI (Value.ref i1) (Value.ref i2)) (hTO : IsPair s.heap TO a b) (h1 : s.heap.IsTupleIter i1 l1 k1) (h2 : s.heap.IsListIter i2 l2 k2) (hl1 : s.heap.IsTuple l1 xs) (hl2 : s.heap.IsList l2 ys) (hx : xs[k1]? = some x) (hy : ys[k2]? = some y)
    (hQ : ∀ (h' : Heap), IsZip h' z TI TO (rawInt ↑s.heap.objs.size) → IsPair h' TO x y → h'.IsTupleIter i1 l1 (k1 + 1) → h'.IsListIter i2 l2 (k2 + 1) → IsPair h' s.heap.objs.size x y → h'.objs.size = s.heap.objs.size + 1 → (∀ (c : Addr) (o : Obj), c ≠ z → c ≠ TO → c ≠ i1 → c ≠ i2 → s.heap.get? c = some o → h'.get? c = some o) → Q (some (Value.ref s.heap.objs.size)) { s with heap := h' }) :
    wpAny (model prog w) A (pyNext (Value.ref z)) Q E s := by
  have hT : s.TypeIs (Value.ref z) "zip" := ⟨_, hz, rfl⟩
  exact wpAny_bind (wpAny_attempt (wpAny_callSpecial?_slot hT F.slot_zip_next (wpAny_call_entry F.slot_zip_next hT F.entry_zip_next (zipM_item D hz hTI hTO h1 h2 hl1 hl2 hx hy fun h' a1 a2 a3 a4 a5 a6 a7 => wpAny_pure (hQ h' a1 a2 a3 a4 a5 a6 a7)) (F.args_zip_next_1 (Value.ref z)))))
theorem pyNext_zipM_end {Q : Option Value → Shared → Prop} (hh : A.handled = none) (D : ZipApart z TI TO i1 i2 l1 l2) (hz : IsZip s.heap z TI TO Value.none) (hTI : IsPair s.heap TI (Value.ref i1) (Value.ref i2)) (hTO : IsPair s.heap TO a b) (h1 : s.heap.IsTupleIter i1 l1 k1) (h2 : s.heap.IsListIter i2 l2 k2) (hl1 : s.heap.IsTuple l1 xs) (hl2 : s.heap.IsList l2 ys) (hend : xs[k1]? = none ∨ ys[k2]? = none)
    (hQ : ∀ (h' : Heap), (∀ (c : Addr) (o : Obj), c ≠ z → c ≠ TO → c ≠ i1 → c ≠ i2 → s.heap.get? c = some o → h'.get? c = some o) → Q none { s with heap := h' }) :
    wpAny (model prog w) A (pyNext (Value.ref z)) Q E s := by
  have hT : s.TypeIs (Value.ref z) "zip" := ⟨_, hz, rfl⟩
  exact wpAny_bind (wpAny_attempt (wpAny_callSpecial?_slot hT F.slot_zip_next (wpAny_call_entry F.slot_zip_next hT F.entry_zip_next (zipM_end hh D hz hTI hTO h1 h2 hl1 hl2 hend fun h' e hk he => by
    obtain ⟨o, ho, hc⟩ := he
    exact wpAny_bind (wpAny_isInstance ⟨o, ho, hc⟩ isSubtype_stop (wpAny_pure (hQ h' hk)))) (F.args_zip_next_1 (Value.ref z)))))
end
def ItzM (K : PySem.W.Frag) (a b : Addr) : L2.It where
  go i H := ∃ xs ys x y, SqT K H a xs ∧ SqL K H b ys ∧ xs[i]? = some x ∧ ys[i]? = some y
  yld i H v H' := ∃ T x y, v = V.ref T ∧ H T = none ∧ H' = upd H T (HO.tup [x, y]) ∧ (∀ xs : List V, SqT K H a xs → xs[i]? = some x) ∧ ∀ ys : List V, SqL K H b ys → ys[i]? = some y
  stop i H := ∃ xs ys, SqT K H a xs ∧ SqL K H b ys ∧ (xs.length ≤ i ∨ ys.length ≤ i)
theorem turn_zipM {P : Program} {w : World} {K : PySem.W.Frag} {elts : List Expr} {kk : Nat} {tpos : Pos} {a b z TI TO i1 i2 : Addr} (D : ZipApart z TI TO i1 i2 a b) :
    L2.Turn P w K (Expr.Tuple elts kk tpos) (ItzM K a b) [z, TI, TO, i1, i2] z fun i h =>
      IsZip h z TI TO Value.none ∧ IsPair h TI (Value.ref i1) (Value.ref i2) ∧ (∃ x y, IsPair h TO x y) ∧ h.IsTupleIter i1 a i ∧ h.IsListIter i2 b i where
  mem := by simp
  obj i h st c hc := by
    obtain ⟨hz, hTI, ⟨x, y, hTO⟩, ⟨o1, e1, _, d1⟩, ⟨o2, e2, _, d2⟩⟩ := st
    simp only [List.mem_cons, List.not_mem_nil, or_false] at hc
    rcases hc with rfl | rfl | rfl | rfl | rfl
    · exact ⟨_, hz, fun v => by simp⟩
    · exact ⟨_, hTI, fun v => by simp⟩
    · exact ⟨_, hTO, fun v => by simp⟩
    · exact ⟨_, e1, fun v => by rw [d1]; simp⟩
    · exact ⟨_, e2, fun v => by rw [d2]; simp⟩
  keep i h h' st k := by
    obtain ⟨hz, hTI, ⟨x, y, hTO⟩, h1, h2⟩ := st
    exact ⟨k z (by simp) _ hz, k TI (by simp) _ hTI, ⟨x, y, k TO (by simp) _ hTO⟩, Heap.IsTupleIter.at h1 fun o q => k i1 (by simp) o q, Heap.IsListIter.at h2 fun o q => k i2 (by simp) o q⟩
  item X hP hw hK hc i pins s σ H E I hf st hg := by
    subst hP; subst hw; subst hK
    obtain ⟨hz, hTI, ⟨x0, y0, hTO⟩, h1, h2⟩ := st
    obtain ⟨xs, ys, x, y, hqx, hqy, hx, hy⟩ := hg
    obtain ⟨its, rv, p, _⟩ := I.tuple hqx
    obtain ⟨its2, rv2, p2, _⟩ := I.list hqy
    obtain ⟨u, hu, ru⟩ := Vals.get rv hx
    obtain ⟨u2, hu2, ru2⟩ := Vals.get rv2 hy
    have hzl := Heap.lt_size hz
    refine pyNext_zipM_item D hz hTI hTO h1 h2 p p2.isList (by rw [List.getElem?_toArray]; exact hu) (by rw [List.getElem?_toArray]; exact hu2) fun h' z' TO' h1' h2' hT hsz hk => ?_
    refine ⟨Value.ref s.heap.objs.size, rfl, wpAny_letOwnedTupleGo_zip z' fun h'' z'' sb => ?_⟩
    have hT2 := (sb.2 s.heap.objs.size (Nat.ne_of_gt hzl)).trans hT
    have new : ObjOk X.prog X.w (upd H s.heap.objs.size (HO.tup [x, y])) h'' s.heap.objs.size (HO.tup [x, y]) := ⟨by show (2 : Nat) ≤ sizeLine; decide, [u, u2], .cons ru (.cons ru2 .nil), _, hT2, rfl, 0, rfl⟩
    have I1 := Inv.turnedNew (t' := s.toks) I (fun c o hb q => by
      have n1 : c ≠ z := fun q' => hb (by rw [q']; simp)
      exact (sb.2 c n1).trans (hk c o n1 (fun q' => hb (by rw [q']; simp)) (fun q' => hb (by rw [q']; simp)) (fun q' => hb (by rw [q']; simp)) q)) hf (Nat.le_refl s.heap.objs.size) new
    refine ⟨V.ref s.heap.objs.size, upd H s.heap.objs.size (HO.tup [x, y]), I1, rfl, ⟨s.heap.objs.size, x, y, rfl, HOk.fresh I.hok (Nat.le_refl _), rfl, fun l hl => by rw [Inv.tuple_inj I hl hqx]; exact hx, fun l hl => by rw [Inv.list_inj I hl hqy]; exact hy⟩, ⟨z'', (sb.2 TI D.TIz).trans (hk TI _ D.TIz D.TITO D.TIi1 D.TIi2 hTI), ⟨u, u2, (sb.2 TO D.TOz).trans TO'⟩, Heap.IsTupleIter.at h1' fun o q => (sb.2 i1 D.i1z).trans q, Heap.IsListIter.at h2' fun o q => (sb.2 i2 D.i2z).trans q⟩, fun c hcm => ?_⟩
    have hlt : c < s.heap.objs.size := by
      obtain ⟨o1, e1, _⟩ := h1
      obtain ⟨o2, e2, _⟩ := h2
      have hcm' := hcm
      simp only [List.mem_cons, List.not_mem_nil, or_false] at hcm'
      rcases hcm' with q | q | q | q | q
      · rw [q]; exact hzl
      · rw [q]; exact Heap.lt_size hTI
      · rw [q]; exact Heap.lt_size hTO
      · rw [q]; exact Heap.lt_size e1
      · rw [q]; exact Heap.lt_size e2
    rw [upd_ne (Nat.ne_of_lt hlt)]
    exact (hf c hcm).1
  done X hP hw hK hc i pins s σ H E I hf st hg := by
    subst hP; subst hw; subst hK
    obtain ⟨hz, hTI, ⟨x0, y0, hTO⟩, h1, h2⟩ := st
    obtain ⟨xs, ys, hqx, hqy, hend⟩ := hg
    obtain ⟨its, rv, p, _⟩ := I.tuple hqx
    obtain ⟨its2, rv2, p2, _⟩ := I.list hqy
    have l1 := Vals.length rv
    have l2 := Vals.length rv2
    have he : its.toArray[i]? = none ∨ its2.toArray[i]? = none := by
      rcases hend with q | q
      · left; rw [List.getElem?_toArray, List.getElem?_eq_none_iff]; omega
      · right; rw [List.getElem?_toArray, List.getElem?_eq_none_iff]; omega
    refine pyNext_zipM_end (I.ok.hd hc) D hz hTI hTO h1 h2 p p2.isList he fun h' hk => ⟨rfl, Inv.turnedL (t' := s.toks) I (fun c o hb q => ?_) hf⟩
    exact hk c o (fun q' => hb (by rw [q']; simp)) (fun q' => hb (by rw [q']; simp)) (fun q' => hb (by rw [q']; simp)) (fun q' => hb (by rw [q']; simp)) q
  self A i s Q E st h := wpAny_pyIter_zip st.1 h
theorem wp_newRec {M : Model} {A : Around} {E : Value → Shared → Prop} {s : Shared} {c : String} {vs : List Value} {Q : Value → Shared → Prop} (hl : vs.length ≤ 5) (h : Q (Value.ref s.heap.objs.size) { s with heap := s.heap.push { cls := Value.type c, data := Data.fields vs.toArray } }) : wpAny M A (Builtin.SmallTypes.newRecord (Value.type c) vs) Q E s := by
  obtain ⟨hp, g, d, tk, os⟩ := s
  have h24 : sizeLine = 16777216 := rfl
  unfold Builtin.SmallTypes.newRecord newObj
  refine wpAny_ite_false (by simp; omega) ?_
  refine wpAny_bind ?_
  refine wpAny_alloc' ?_
  exact wpAny_pure h
def zH1 (h : Heap) (l1 : Addr) : Heap := h.push { cls := Value.type "tuple_iterator", data := Data.fields #[Value.ref l1, Value.int 0 0] }
def zH2 (h : Heap) (l1 l2 : Addr) : Heap := (zH1 h l1).push { cls := Value.type "list_iterator", data := Data.fields #[Value.ref l2, Value.int 0 0] }
def zH3 (h : Heap) (l1 l2 : Addr) : Heap := (zH2 h l1 l2).push { cls := Value.type "tuple", data := Data.seq #[Value.ref h.objs.size, Value.ref (zH1 h l1).objs.size] }
def zH4 (h : Heap) (l1 l2 : Addr) : Heap := (zH3 h l1 l2).push { cls := Value.type "tuple", data := Data.seq #[Value.none, Value.none] }
def zH5 (h : Heap) (l1 l2 : Addr) : Heap := (zH4 h l1 l2).push { cls := Value.type "zip", data := Data.fields #[Value.none, Value.bool false, Value.bool false, Value.ref (zH2 h l1 l2).objs.size, Value.ref (zH3 h l1 l2).objs.size] }
theorem meets_zipM_new (l1 l2 : Addr) (xs ys : Array Value) : Meets (Builtin.«zip.__new__» { pos := [Value.type "zip", Value.ref l1, Value.ref l2] }) fun _ R s =>
    s.heap.IsTuple l1 xs ∧ s.heap.IsList l2 ys ∧ R (Except.ok (Flow.ret (Value.ref (zH4 s.heap l1 l2).objs.size))) { s with heap := zH5 s.heap l1 l2 } :=
  Meets.of_wp fun prog w A R s h => by
    obtain ⟨hp, g, d, tk, os⟩ := s
    obtain ⟨hl1, hl2, h⟩ := h
    have hsub := sub_zip
    have hL1 : hp.IsTuple l1 xs := hl1
    have hL2 := Heap.IsList.push hl2 { cls := Value.type "tuple_iterator", data := Data.fields #[Value.ref l1, Value.int 0 0] }
    refine wpAny_bind ?_
    refine wpAny_bind ?_
    refine wpAny_pure ?_
    refine wpAny_ite_false rfl ?_
    refine wpAny_bind ?_
    refine wpAny_of_eq hsub ?_
    refine wpAny_ite_false rfl ?_
    refine wpAny_pure ?_
    refine wpAny_ite_false rfl ?_
    refine wpAny_bind ?_
    refine wpAny_bind ?_
    refine wpAny_bind ?_
    refine wpAny_bind ?_
    refine wpAny_holding ?_
    refine wpAny_pyIter_tuple hL1 ?_
    refine wpAny_pure ?_
    refine wpAny_bind ?_
    refine wpAny_bind ?_
    refine wpAny_holding ?_
    refine wpAny_pyIter_list hL2 ?_
    refine wpAny_pure ?_
    refine wpAny_pure ?_
    refine wpAny_pure ?_
    refine wpAny_bind ?_
    refine wpAny_newTuple ?_ (by show (2 : Nat) ≤ sizeLine; decide)
    refine wpAny_bind ?_
    refine wpAny_newTuple ?_ (by show (2 : Nat) ≤ sizeLine; decide)
    refine wpAny_bind ?_
    refine wp_newRec (Nat.le_refl 5) ?_
    refine wpAny_pure ?_
    exact ⟨_, rfl, h⟩
theorem call_zipM {prog : Program} {w : World} {A : Around} {E : Value → Shared → Prop} {s : Shared} {l1 l2 : Addr} {xs ys : Array Value} {Q : Value → Shared → Prop} (hl1 : s.heap.IsTuple l1 xs) (hl2 : s.heap.IsList l2 ys)
    (h : ∀ (h' : Heap), IsZip h' (s.heap.objs.size + 4) (s.heap.objs.size + 2) (s.heap.objs.size + 3) Value.none → IsPair h' (s.heap.objs.size + 2) (Value.ref s.heap.objs.size) (Value.ref (s.heap.objs.size + 1)) → IsPair h' (s.heap.objs.size + 3) Value.none Value.none →
      h'.IsTupleIter s.heap.objs.size l1 0 → h'.IsListIter (s.heap.objs.size + 1) l2 0 → h'.objs.size = s.heap.objs.size + 5 → (∀ (c : Addr) (o : Obj), s.heap.get? c = some o → h'.get? c = some o) → Q (Value.ref (s.heap.objs.size + 4)) { s with heap := h' }) :
    wpAny (model prog w) A (call (Value.type "zip") [Value.ref l1, Value.ref l2]) Q E s := by
  have z1 : (zH1 s.heap l1).objs.size = s.heap.objs.size + 1 := Heap.size_push _ _
  have z2 : (zH2 s.heap l1 l2).objs.size = s.heap.objs.size + 2 := (Heap.size_push _ _).trans (by rw [z1])
  have z3 : (zH3 s.heap l1 l2).objs.size = s.heap.objs.size + 3 := (Heap.size_push _ _).trans (by rw [z2])
  have z4 : (zH4 s.heap l1 l2).objs.size = s.heap.objs.size + 4 := (Heap.size_push _ _).trans (by rw [z3])
  have z5 : (zH5 s.heap l1 l2).objs.size = s.heap.objs.size + 5 := (Heap.size_push _ _).trans (by rw [z4])
  have g5 : (zH5 s.heap l1 l2).get? (zH4 s.heap l1 l2).objs.size = _ := Heap.get?_push_size (zH4 s.heap l1 l2) rfl
  have p5 : ∀ (c : Addr) (o : Obj), (zH4 s.heap l1 l2).get? c = some o → (zH5 s.heap l1 l2).get? c = some o := fun c o q => Heap.get?_push_of_some _ q
  have p4 : ∀ (c : Addr) (o : Obj), (zH3 s.heap l1 l2).get? c = some o → (zH4 s.heap l1 l2).get? c = some o := fun c o q => Heap.get?_push_of_some _ q
  have p3 : ∀ (c : Addr) (o : Obj), (zH2 s.heap l1 l2).get? c = some o → (zH3 s.heap l1 l2).get? c = some o := fun c o q => Heap.get?_push_of_some _ q
  have p2 : ∀ (c : Addr) (o : Obj), (zH1 s.heap l1).get? c = some o → (zH2 s.heap l1 l2).get? c = some o := fun c o q => Heap.get?_push_of_some _ q
  have p1 : ∀ (c : Addr) (o : Obj), s.heap.get? c = some o → (zH1 s.heap l1).get? c = some o := fun c o q => Heap.get?_push_of_some _ q
  have g4 := p5 _ _ (Heap.get?_push_size (zH3 s.heap l1 l2) (o := { cls := Value.type "tuple", data := Data.seq #[Value.none, Value.none] }) rfl)
  have g3 := p5 _ _ (p4 _ _ (Heap.get?_push_size (zH2 s.heap l1 l2) (o := { cls := Value.type "tuple", data := Data.seq #[Value.ref s.heap.objs.size, Value.ref (zH1 s.heap l1).objs.size] }) rfl))
  have g2 := p5 _ _ (p4 _ _ (p3 _ _ (Heap.get?_push_size (zH1 s.heap l1) (o := { cls := Value.type "list_iterator", data := Data.fields #[Value.ref l2, Value.int 0 0] }) rfl)))
  have g1 := p5 _ _ (p4 _ _ (p3 _ _ (p2 _ _ (Heap.get?_push_size s.heap (o := { cls := Value.type "tuple_iterator", data := Data.fields #[Value.ref l1, Value.int 0 0] }) rfl))))
  rw [z4, z2, z3] at g5
  rw [z3] at g4
  rw [z2, z1] at g3
  rw [z1] at g2
  refine callType_new F.called_zip (by decide) (F.typeCall_zip_2 (Value.ref l1) (Value.ref l2)) (F.newCall_zip_2 (Value.ref l1) (Value.ref l2)) (fun obj => F.args_object_init_3 obj (Value.ref l1) (Value.ref l2)) F.entry_zip_new (meets_zipM_new l1 l2 xs ys) ⟨hl1, hl2, ?_⟩
  show Shared.TypeIs _ (Value.ref (zH4 s.heap l1 l2).objs.size) "zip" ∧ Q (Value.ref (zH4 s.heap l1 l2).objs.size) { s with heap := zH5 s.heap l1 l2 }
  rw [z4]
  exact ⟨⟨_, g5, rfl⟩, h _ g5 g3 g4 ⟨_, g1, rfl, rfl⟩ ⟨_, g2, rfl, rfl⟩ z5 fun c o q => p5 _ _ (p4 _ _ (p3 _ _ (p2 _ _ (p1 _ _ q))))⟩
def iZip3 (K : PySem.W.Frag) (ta : TA) : TI := fun σ H R => ta σ H fun vs H1 => ∃ a b xs ys, vs = [V.ref a, V.ref b] ∧ ((SqL K H1 a xs ∧ SqL K H1 b ys ∧ R (Itz K a b) H1) ∨ (SqT K H1 a xs ∧ SqT K H1 b ys ∧ R (RZ.ItzT K a b) H1) ∨ (SqT K H1 a xs ∧ SqL K H1 b ys ∧ R (ItzM K a b) H1))
theorem pi_zip3 {X : Cx} {e e2 : Expr} {ta : TA} {p pos tpos : Pos} {elts : List Expr} {kk : Nat} (hg : Gl X "zip") (hm : X.mg "zip" = none) (ha : PA X [e, e2] ta)
    (hs : starEach [e, e2] X.env = (false, eval e X.env) :: starEach [e2] X.env) (hpl : (backTo pos (starEach [e2] X.env)).any (fun x => x.1) = false) :
    PI X (.Tuple elts kk tpos) (.Call (.Name "zip" p) [e, e2] [] pos) (iZip3 X.K ta) where
  run pins s σ H R I h := PyProof.Rows.Call_ (ld_blt I hg hm PyProof.Rows.boot_zip (PyProof.Rows.callWith_type1 (thn (ha.run pos pins s σ H (fun vs H1 => ∃ a b xs ys, vs = [V.ref a, V.ref b] ∧ ((SqL X.K H1 a xs ∧ SqL X.K H1 b ys ∧ R (Itz X.K a b) H1) ∨ (SqT X.K H1 a xs ∧ SqT X.K H1 b ys ∧ R (RZ.ItzT X.K a b) H1) ∨ (SqT X.K H1 a xs ∧ SqL X.K H1 b ys ∧ R (ItzM X.K a b) H1))) I h) fun us s1 x => by
    obtain ⟨vs, H1, I1, r1, a, b, xs, ys, rfl, hq⟩ := x
    cases r1 with
    | cons r rr =>
    cases rr with
    | cons r' rr2 =>
    cases rr2
    cases r
    cases r'
    have fresh5 : ∀ c, c ∈ [s1.heap.objs.size + 4, s1.heap.objs.size + 2, s1.heap.objs.size + 3, s1.heap.objs.size, s1.heap.objs.size + 1] → L2.FpOk X pins H1 c := fun c hcm => by
      have hle : s1.heap.objs.size ≤ c := by
        simp only [List.mem_cons, List.not_mem_nil, or_false] at hcm
        rcases hcm with z | z | z | z | z <;> rw [z] <;> first | exact Nat.le_add_right _ _ | exact Nat.le_refl _
      exact Inv.fpOk I1 hle (HOk.fresh I1.hok hle)
    rcases hq with ⟨hqx, hqy, q⟩ | ⟨hqx, hqy, q⟩ | ⟨hqx, hqy, q⟩
    · obtain ⟨its, rv, p1, _⟩ := I1.list hqx
      obtain ⟨its2, rv2, p2, _⟩ := I1.list hqy
      refine call_zip_2 p1.isList p2.isList fun h' hz hTI hTO h1 h2 hsz hk => wpAny_pyIter_zip hz ?_
      have I2 := Inv.kept (t' := s1.toks) I1 hk
      exact ⟨s1.heap.objs.size + 4, [s1.heap.objs.size + 4, s1.heap.objs.size + 2, s1.heap.objs.size + 3, s1.heap.objs.size, s1.heap.objs.size + 1], _, Itz X.K a b, H1, rfl, I2, turn_zip (PySem.W.ktu_apart s1.heap.objs.size a b (PlainL.lt p1) (PlainL.lt p2)), ⟨hz, hTI, ⟨_, _, hTO⟩, h1, h2⟩, fresh5, q⟩
    · obtain ⟨its, rv, p1, _⟩ := I1.tuple hqx
      obtain ⟨its2, rv2, p2, _⟩ := I1.tuple hqy
      have q1 : s1.heap.IsTuple a its.toArray := p1
      have q2 : s1.heap.IsTuple b its2.toArray := p2
      obtain ⟨o1, ho1, _⟩ := id q1
      obtain ⟨o2, ho2, _⟩ := id q2
      refine RZ.call_zipT q1 q2 fun h' hz hTI hTO h1 h2 hsz hk => wpAny_pyIter_zip hz ?_
      have I2 := Inv.kept (t' := s1.toks) I1 hk
      exact ⟨s1.heap.objs.size + 4, [s1.heap.objs.size + 4, s1.heap.objs.size + 2, s1.heap.objs.size + 3, s1.heap.objs.size, s1.heap.objs.size + 1], _, RZ.ItzT X.K a b, H1, rfl, I2, RZ.turn_zipT (PySem.W.ktu_apart s1.heap.objs.size a b (Heap.lt_size ho1) (Heap.lt_size ho2)), ⟨hz, hTI, ⟨_, _, hTO⟩, h1, h2⟩, fresh5, q⟩
    · obtain ⟨its, rv, p1, _⟩ := I1.tuple hqx
      obtain ⟨its2, rv2, p2, _⟩ := I1.list hqy
      have q1 : s1.heap.IsTuple a its.toArray := p1
      have q2 : s1.heap.IsList b its2.toArray := p2.isList
      obtain ⟨o1, ho1, _⟩ := id q1
      obtain ⟨o2, ho2, _⟩ := id q2
      refine call_zipM q1 q2 fun h' hz hTI hTO h1 h2 hsz hk => wpAny_pyIter_zip hz ?_
      have I2 := Inv.kept (t' := s1.toks) I1 hk
      exact ⟨s1.heap.objs.size + 4, [s1.heap.objs.size + 4, s1.heap.objs.size + 2, s1.heap.objs.size + 3, s1.heap.objs.size, s1.heap.objs.size + 1], _, ItzM X.K a b, H1, rfl, I2, turn_zipM (PySem.W.ktu_apart s1.heap.objs.size a b (Heap.lt_size ho1) (Heap.lt_size ho2)), ⟨hz, hTI, ⟨_, _, hTO⟩, h1, h2⟩, fresh5, q⟩) hs hpl) (by decide) (by decide))
end Mp
namespace Mp
open PySem L2
def gsOf : List Nat → TGs
  | [] => gNil
  | i :: is => gCons (gName i) (gsOf is)
def gAny (K : PySem.W.Frag) (n : Nat) (t : TGs) : TG := fun v σ H Q => gTup K n t v σ H Q ∨ L2.gLst K n t v σ H Q
theorem pg_any {X : Cx} {pos : Pos} {es : List Expr} {k : Nat} {t : TGs} {n : Nat} (hc : X.calm = true) (h : PGs X es t) (hn : (assignEach es X.env).length = n) (hst : (assignEach es X.env).findIdx? (·.1) = none) : PG X (.Tuple es k pos) (gAny X.K n t) :=
  ⟨fun pins s σ H v u Q I r hw => by
    rcases hw with hw | hw
    · exact (pg_tup hc h hn hst).run pins s σ H v u Q I r hw
    · exact (pg_lst hc h hn hst).run pins s σ H v u Q I r hw⟩
def gOf (K : PySem.W.Frag) : Tg → TG
  | .name i => gName i
  | .tup is => gAny K is.length (gsOf is)
  | .nst i is => gTup K 2 (gCons (gName i) (gCons (gAny K is.length (gsOf is)) gNil))
def Tg.ixs : Tg → List Nat
  | .name i => [i]
  | .tup is => is
  | .nst i is => i :: is
def XG (X : Cx) (tg : Expr) (t : Tg) : Prop := PG X tg (gOf X.K t)
theorem wipe_set1 (s : L2.St) (i : Nat) (x : Option V) : ∀ vs : List Nat, (wipe (s.set i x) vs).set i none = (wipe s vs).set i none
  | [] => by show (s.set i x).set i none = s.set i none; rw [List.set_set]
  | v :: vs => by
    show ((wipe (s.set i x) vs).set v none).set i none = ((wipe s vs).set v none).set i none
    by_cases h : v = i
    · subst h
      rw [List.set_set, List.set_set]
      exact wipe_set1 s v x vs
    · rw [List.set_comm _ _ h, List.set_comm _ _ h, wipe_set1 s i x vs]
theorem wipe_set (s : L2.St) (i : Nat) (x : Option V) : ∀ vs : List Nat, i ∈ vs → wipe (s.set i x) vs = wipe s vs
  | v :: vs, h => by
    show (wipe (s.set i x) vs).set v none = (wipe s vs).set v none
    rcases List.mem_cons.mp h with e | h
    · subst e; exact wipe_set1 s i x vs
    · rw [wipe_set s i x vs h]
theorem wipe_same (s : L2.St) : ∀ vs : List Nat, wipe (wipe s vs) vs = wipe s vs
  | [] => rfl
  | v :: vs => by
    show (wipe ((wipe s vs).set v none) vs).set v none = (wipe s vs).set v none
    rw [wipe_set1, wipe_same s vs]
section
variable {K : PySem.W.Frag} {r : List Addr} {H : Hp}
theorem gs_run {Q : L2.St → Hp → Prop} : ∀ {is : List Nat} {ps : List PV} {xs : List V} {sg sg' : Sg} {s : L2.St}, RS K r H sg s → RVs K r H ps xs → setAll is ps sg = some sg' →
    (∀ s', RS K r H sg' s' → (∀ vs, (∀ i ∈ is, i ∈ vs) → wipe s' vs = wipe s vs) → Q s' H) → gsOf is xs s H Q
  | [], [], _, sg, sg', s, hs, .nil, e, q => by
    simp only [setAll] at e
    cases e
    exact ⟨rfl, q s hs fun _ _ => rfl⟩
  | i :: is, p :: ps, _, sg, sg', s, hs, .cons h hr, e, q => by
    simp only [setAll] at e
    exact ⟨_, _, rfl, gs_run (hs.set i h) hr e fun s' h1 h2 => q s' h1 fun vs hv => by
      rw [h2 vs fun j hj => hv j (List.mem_cons_of_mem _ hj)]
      exact wipe_set s i _ vs (hv i List.mem_cons_self)⟩
  | [], _ :: _, _, _, _, _, _, _, e, _ => by simp [setAll] at e
  | _ :: _, [], _, _, _, _, _, _, e, _ => by simp [setAll] at e
theorem setAll_len : ∀ {is : List Nat} {ps : List PV} {sg sg' : Sg}, setAll is ps sg = some sg' → is.length = ps.length
  | [], [], _, _, _ => rfl
  | _ :: is, _ :: ps, sg, sg', e => by
    simp only [setAll] at e
    simp [setAll_len e]
  | [], _ :: _, _, _, e => by simp [setAll] at e
  | _ :: _, [], _, _, e => by simp [setAll] at e
theorem tgP_nst {i : Nat} {is : List Nat} {M : Mm} {p : PV} {sg sg' : Sg} (h : tgP (.nst i is) M p sg = some sg') : ∃ y z, p = .tup [y, z] ∧ ((∃ zs, z = .tup zs ∧ setAll is zs (sg.set i (some y)) = some sg') ∨ ∃ n zs, z = .ref n ∧ lstAt M n = some zs ∧ setAll is zs (sg.set i (some y)) = some sg') := by
  unfold tgP at h
  split at h
  · rename_i h1; cases h1
  · rename_i h1; cases h1
  · rename_i h1; cases h1
  · rename_i h1; cases h1; exact ⟨_, _, rfl, .inl ⟨_, rfl, h⟩⟩
  · rename_i h1; cases h1
    obtain ⟨zs, k1, k2⟩ := Option.bind_eq_some_iff.mp h
    exact ⟨_, _, rfl, .inr ⟨_, zs, rfl, k1, k2⟩⟩
  · cases h
theorem any_run {M : Mm} {Q : L2.St → Hp → Prop} {is : List Nat} {p : PV} {x : V} {sg sg' : Sg} {s : L2.St} (hh : RH K r M H) (hs : RS K r H sg s) (h : RV K r H p x)
    (e : (∃ zs, p = .tup zs ∧ setAll is zs sg = some sg') ∨ ∃ n zs, p = .ref n ∧ lstAt M n = some zs ∧ setAll is zs sg = some sg')
    (q : ∀ s', RS K r H sg' s' → (∀ vs, (∀ i ∈ is, i ∈ vs) → wipe s' vs = wipe s vs) → Q s' H) : gAny K is.length (gsOf is) x s H Q := by
  rcases e with ⟨zs, rfl, e⟩ | ⟨n, zs, rfl, el, e⟩
  · cases h with
    | @tup ps a xs h1 h2 => exact .inl ⟨a, xs, rfl, h1, by rw [← h2.length, setAll_len e], gs_run hs h2 e q⟩
  · have hM : M[n]? = some (.lst zs) := by
      unfold lstAt at el
      split at el
      · rename_i q; cases el; exact q
      · cases el
    cases h with
    | @ref _ a ha =>
      obtain ⟨a', ha', vs, g1, g2⟩ := hh.at hM
      rw [ha] at ha'; cases ha'
      exact .inr ⟨a, vs, rfl, .inl (.inl g1), by rw [← g2.length, setAll_len e], gs_run hs g2 e q⟩
theorem g_run {M : Mm} {Q : L2.St → Hp → Prop} {t : Tg} {p : PV} {x : V} {sg sg' : Sg} {s : L2.St} (hh : RH K r M H) (hs : RS K r H sg s) (h : RV K r H p x) (e : tgP t M p sg = some sg')
    (q : ∀ s', RS K r H sg' s' → (∀ vs, (∀ i ∈ t.ixs, i ∈ vs) → wipe s' vs = wipe s vs) → Q s' H) : gOf K t x s H Q := by
  cases t with
  | name i =>
    simp only [tgP] at e
    cases e
    exact q _ (hs.set i h) fun vs hv => wipe_set s i _ vs (hv i (by simp [Tg.ixs]))
  | tup is =>
    refine any_run hh hs h ?_ q
    unfold tgP at e
    split at e
    · rename_i h1; cases h1
    · rename_i h1; cases h1; exact .inl ⟨_, rfl, e⟩
    · rename_i h1; cases h1
      obtain ⟨zs, k1, k2⟩ := Option.bind_eq_some_iff.mp e
      exact .inr ⟨_, zs, rfl, k1, k2⟩
    · rename_i h1; cases h1
    · rename_i h1; cases h1
    · cases e
  | nst i is =>
    obtain ⟨y, z, rfl, e2⟩ := tgP_nst e
    cases h with
    | @tup _ a xs h1 h2 =>
      cases h2 with
      | cons hv1 h3 =>
        cases h3 with
        | cons hv2 h4 =>
          cases h4
          refine ⟨a, _, rfl, h1, rfl, _, _, rfl, _, _, rfl, ?_⟩
          refine any_run hh (hs.set i hv1) hv2 e2 fun s' q1 q2 => ⟨rfl, q s' q1 fun vs hv => ?_⟩
          rw [q2 vs fun j hj => hv j (by simp [Tg.ixs, hj])]
          exact wipe_set s i _ vs (hv i (by simp [Tg.ixs]))
theorem RS.wipe {sg : Sg} {s : L2.St} (h : RS K r H sg s) : ∀ vs : List Nat, RS K r H (wipeP sg vs) (L2.wipe s vs)
  | [] => h
  | v :: vs => by
    have ih := h.wipe vs
    refine ⟨by simp [wipeP, L2.wipe, ih.len], fun i p e => ?_⟩
    simp only [wipeP] at e
    show ∃ x, ((L2.wipe s vs).set v none)[i]? = some (some x) ∧ _
    by_cases hv : v = i
    · subst hv
      by_cases hl : v < (wipeP sg vs).length
      · rw [List.getElem?_set_self hl] at e; cases e
      · rw [List.getElem?_eq_none (by simpa using hl)] at e; cases e
    · rw [List.getElem?_set_ne hv] at e
      rw [List.getElem?_set_ne hv]
      exact ih.at_ i p e
end
section
variable {X : Cx} {pos : Pos}
theorem xg_name (i : Nat) {x : Str} (hN : X.N.Nodup) (hi : X.N[i]? = some x := by rfl) (hx : Loc X.env.scope x := by first | exact .inl rfl | exact .inr rfl)
    (hf : X.fn x = true ∨ X.env.scope.names.lookup x = some .local := by first | exact .inl rfl | exact .inr rfl | assumption) : XG X (.Name x pos) (.name i) := pg_name hN hi hx hf
def XGs (X : Cx) (es : List Expr) (is : List Nat) : Prop := PGs X es (gsOf is)
theorem xgs_nil : XGs X [] [] := pgs_nil
theorem xgs_cons {e : Expr} {es : List Expr} {i : Nat} {is : List Nat} (h : XG X e (.name i)) (h2 : XGs X es is)
    (hs : (assignEach (e :: es) X.env).map (·.2) = assign e X.env :: (assignEach es X.env).map (·.2) := by rfl) : XGs X (e :: es) (i :: is) := pgs_cons h h2 hs
theorem xg_tup {es : List Expr} {k : Nat} {is : List Nat} (hc : X.calm = true) (h : XGs X es is) (hn : (assignEach es X.env).length = is.length := by rfl) (hst : (assignEach es X.env).findIdx? (·.1) = none := by rfl) :
    XG X (.Tuple es k pos) (.tup is) := pg_any hc h hn hst
end
def SrcOk (K : PySem.W.Frag) (r0 : List Addr) (H0 : Hp) (s : Src) (J : L2.It) : Prop :=
  ∀ r M H i, Ext r0 r H0 H → RH K r M H → (∀ x, s.get M i = some (some x) → J.go i H ∧ ∀ v H', J.yld i H v H' → Ext r r H H' ∧ RH K r M H' ∧ RV K r H' x v) ∧ (s.get M i = some none → J.stop i H)
def TIv (K : PySem.W.Frag) (f : Sg → Mm → Option (Src × Mm)) : TI := fun s H R => ∃ r sg M src M', RS K r H sg s ∧ RH K r M H ∧ f sg M = some (src, M') ∧ ∀ r' H' J, Ext r r' H H' → RH K r' M' H' → SrcOk K r' H' src J → R J H'
def XI (X : Cx) (cf : CF) (tg iter : Expr) (i : Mp.It) : Prop := PI X tg iter (TIv X.K (evI cf i))
section
variable {K : PySem.W.Frag} {r : List Addr} {H : Hp}
theorem src_tup {a : Addr} {xs : List PV} {vs : List V} (h : SqT K H a vs) (hs : RVs K r H xs vs) : SrcOk K r H (.tup xs) (Itt K a) := by
  intro r' M H' i x hh
  have h' := x.sqT h
  have hs' := hs.ext x
  refine ⟨fun p e => ?_, fun e => ?_⟩
  · simp only [Src.get, Option.some.injEq] at e
    obtain ⟨v, e1, e2⟩ := hs'.get e
    refine ⟨⟨vs, v, h', e1⟩, fun w H2 y => ?_⟩
    obtain ⟨rfl, y⟩ := y
    have := y vs h'
    rw [e1] at this; cases this
    exact ⟨.refl, hh, e2⟩
  · simp only [Src.get, Option.some.injEq] at e
    exact ⟨vs, h', by rw [← hs.length]; exact List.getElem?_eq_none_iff.mp e⟩
theorem src_lst {a : Addr} {n : Nat} (h : r[n]? = some a) : SrcOk K r H (.lst n) (Itl K a) := by
  intro r' M H' i x hh
  have h' := x.at h
  have key : ∀ o, Src.get M (.lst n) i = some o → ∃ xs vs, H' a = some (.lst vs) ∧ RVs K r' H' xs vs ∧ xs[i]? = o := fun o e => by
    simp only [Src.get] at e
    obtain ⟨xs, e1, e2⟩ := Option.map_eq_some_iff.mp e
    obtain ⟨b, vs, g1, g2, g3⟩ := lst_of hh e1
    rw [h'] at g1; cases g1
    exact ⟨xs, vs, g2, g3, e2⟩
  refine ⟨fun p e => ?_, fun e => ?_⟩
  · obtain ⟨xs, vs, g2, g3, e⟩ := key _ e
    obtain ⟨v, e1, e2⟩ := g3.get e
    refine ⟨⟨vs, v, .inl (.inl g2), e1⟩, fun w H2 y => ?_⟩
    obtain ⟨rfl, y⟩ := y
    have := y vs (.inl (.inl g2))
    rw [e1] at this; cases this
    exact ⟨.refl, hh, e2⟩
  · obtain ⟨xs, vs, g2, g3, e⟩ := key _ e
    exact ⟨vs, .inl (.inl g2), by rw [← g3.length]; exact List.getElem?_eq_none_iff.mp e⟩
theorem src_cl {a : Addr} {ns : List Int} (h : CL K H a ns) : SrcOk K r H (.cl ns) (Itl K a) := by
  intro r' M H' i x hh
  have h' := (x.cl h).sq
  refine ⟨fun p e => ?_, fun e => ?_⟩
  · simp only [Src.get, Option.some.injEq] at e
    obtain ⟨v, e1, rfl⟩ := Option.map_eq_some_iff.mp e
    have e1' : (ns.map V.int)[i]? = some (V.int v) := by rw [List.getElem?_map, e1]; rfl
    refine ⟨⟨_, _, h', e1'⟩, fun w H2 y => ?_⟩
    obtain ⟨rfl, y⟩ := y
    have := y _ h'
    rw [e1'] at this; cases this
    exact ⟨.refl, hh, .int v⟩
  · simp only [Src.get, Option.some.injEq] at e
    refine ⟨_, h', ?_⟩
    rw [List.length_map]
    exact List.getElem?_eq_none_iff.mp (Option.map_eq_none_iff.mp e)
theorem src_str {z : Str} : SrcOk K r H (.str z) (Its z) := by
  intro r' M H' i x hh
  refine ⟨fun p e => ?_, fun e => ?_⟩
  · simp only [Src.get, Option.some.injEq] at e
    obtain ⟨c, e1, rfl⟩ := Option.map_eq_some_iff.mp e
    refine ⟨(Array.getElem?_eq_some_iff.mp e1).1, fun w H2 y => ?_⟩
    obtain ⟨rfl, c', y, rfl⟩ := y
    rw [e1] at y; cases y
    exact ⟨.refl, hh, .str _⟩
  · simp only [Src.get, Option.some.injEq] at e
    exact Array.getElem?_eq_none_iff.mp (Option.map_eq_none_iff.mp e)
theorem src_rng {lo : Int} {n : Nat} : SrcOk K r H (.rng lo n) (Itr lo n) := by
  intro r' M H' i x hh
  refine ⟨fun p e => ?_, fun e => ?_⟩
  · simp only [Src.get, Option.some.injEq] at e
    split at e
    · rename_i hi
      cases e
      refine ⟨hi, fun w H2 y => ?_⟩
      obtain ⟨rfl, rfl⟩ := y
      exact ⟨.refl, hh, .int _⟩
    · cases e
  · simp only [Src.get, Option.some.injEq] at e
    split at e
    · cases e
    · rename_i hi; exact Nat.le_of_not_lt hi
theorem pair_rv {T : Addr} {p q : PV} {v u : V} {M : Mm} (hh : RH K r M H) (hT : H T = none) (h1 : RV K r H p v) (h2 : RV K r H q u) :
    Ext r r H (upd H T (.tup [v, u])) ∧ RH K r M (upd H T (.tup [v, u])) ∧ RV K r (upd H T (.tup [v, u])) (.tup [p, q]) (.ref T) := by
  have x := ext_new0 (r := r) (o := .tup [v, u]) hT
  exact ⟨x, hh.other _ hT, .tup (.inl (.inl upd_same)) (.cons (h1.ext x) (.cons (h2.ext x) .nil))⟩
theorem en_lst {a : Addr} {s : Src} (hs : SrcOk K r H s (Itl K a)) : SrcOk K r H (.en s) (Ite K a) := by
  intro r' M H' i x hh
  obtain ⟨h1, h2⟩ := hs r' M H' i x hh
  refine ⟨fun p e => ?_, fun e => ?_⟩
  · simp only [Src.get] at e
    obtain ⟨o, e1, e2⟩ := Option.map_eq_some_iff.mp e
    obtain ⟨y, rfl, rfl⟩ := Option.map_eq_some_iff.mp e2
    obtain ⟨g, k⟩ := h1 y e1
    refine ⟨g, fun w H2 z => ?_⟩
    obtain ⟨T, u, rfl, hT, rfl, z⟩ := z
    obtain ⟨_, _, k⟩ := k u H' ⟨rfl, z⟩
    exact pair_rv hh hT (.int _) k
  · simp only [Src.get] at e
    obtain ⟨o, e1, e2⟩ := Option.map_eq_some_iff.mp e
    have : o = none := by cases o with | none => rfl | some _ => simp at e2
    subst this
    exact h2 e1
theorem en_tup {a : Addr} {s : Src} (hs : SrcOk K r H s (Itt K a)) : SrcOk K r H (.en s) (IteT K a) := by
  intro r' M H' i x hh
  obtain ⟨h1, h2⟩ := hs r' M H' i x hh
  refine ⟨fun p e => ?_, fun e => ?_⟩
  · simp only [Src.get] at e
    obtain ⟨o, e1, e2⟩ := Option.map_eq_some_iff.mp e
    obtain ⟨y, rfl, rfl⟩ := Option.map_eq_some_iff.mp e2
    obtain ⟨g, k⟩ := h1 y e1
    refine ⟨g, fun w H2 z => ?_⟩
    obtain ⟨T, u, rfl, hT, rfl, z⟩ := z
    obtain ⟨_, _, k⟩ := k u H' ⟨rfl, z⟩
    exact pair_rv hh hT (.int _) k
  · simp only [Src.get] at e
    obtain ⟨o, e1, e2⟩ := Option.map_eq_some_iff.mp e
    have : o = none := by cases o with | none => rfl | some _ => simp at e2
    subst this
    exact h2 e1
theorem zip_inv {M : Mm} {s t : Src} {i : Nat} {o : Option PV} (e : Src.get M (.zip s t) i = some o) :
    (∃ x y, s.get M i = some (some x) ∧ t.get M i = some (some y) ∧ o = some (.tup [x, y])) ∨ (s.get M i = some none ∧ (∃ q, t.get M i = some q) ∧ o = none) ∨ ((∃ q, s.get M i = some (some q)) ∧ t.get M i = some none ∧ o = none) := by
  simp only [Src.get] at e
  split at e
  · rename_i x y e1 e2; cases e; exact .inl ⟨x, y, e1, e2, rfl⟩
  · rename_i y e1 e2; cases e; exact .inr (.inl ⟨e1, ⟨_, e2⟩, rfl⟩)
  · rename_i y e1 e2; cases e; exact .inr (.inr ⟨⟨_, e1⟩, e2, rfl⟩)
  · cases e
def Side (SQ : Hp → List V → Prop) (K : PySem.W.Frag) (r0 : List Addr) (H0 : Hp) (s : Src) : Prop :=
  ∀ r M H i o, Ext r0 r H0 H → RH K r M H → s.get M i = some o → ∃ vs, SQ H vs ∧ (∀ x, o = some x → ∃ v, vs[i]? = some v ∧ RV K r H x v) ∧ (o = none → vs.length ≤ i)
theorem side_lst {a : Addr} {n : Nat} (h : r[n]? = some a) : Side (fun H => SqL K H a) K r H (.lst n) := by
  intro r' M H' i o x hh e
  simp only [Src.get] at e
  obtain ⟨xs, e1, rfl⟩ := Option.map_eq_some_iff.mp e
  obtain ⟨b, vs, g1, g2, g3⟩ := lst_of hh e1
  rw [x.at h] at g1; cases g1
  exact ⟨vs, .inl (.inl g2), fun p hp => g3.get hp, fun hp => by rw [← g3.length]; exact List.getElem?_eq_none_iff.mp hp⟩
theorem side_cl {a : Addr} {ns : List Int} (h : CL K H a ns) : Side (fun H => SqL K H a) K r H (.cl ns) := by
  intro r' M H' i o x hh e
  simp only [Src.get, Option.some.injEq] at e
  subst e
  refine ⟨_, (x.cl h).sq, fun p hp => ?_, fun hp => ?_⟩
  · obtain ⟨v, e1, rfl⟩ := Option.map_eq_some_iff.mp hp
    exact ⟨.int v, by rw [List.getElem?_map, e1]; rfl, .int v⟩
  · rw [List.length_map]
    exact List.getElem?_eq_none_iff.mp (Option.map_eq_none_iff.mp hp)
theorem side_tup {a : Addr} {xs : List PV} {vs : List V} (h : SqT K H a vs) (hs : RVs K r H xs vs) : Side (fun H => SqT K H a) K r H (.tup xs) := by
  intro r' M H' i o x hh e
  simp only [Src.get, Option.some.injEq] at e
  subst e
  exact ⟨vs, x.sqT h, fun p hp => (hs.ext x).get hp, fun hp => by rw [← hs.length]; exact List.getElem?_eq_none_iff.mp hp⟩
theorem zip_lst {a b : Addr} {s t : Src} (hs : Side (fun H => SqL K H a) K r H s) (ht : Side (fun H => SqL K H b) K r H t) : SrcOk K r H (.zip s t) (Itz K a b) := by
  intro r' M H' i x hh
  refine ⟨fun p e => ?_, fun e => ?_⟩
  · rcases zip_inv e with ⟨y, z, e1, e2, e3⟩ | ⟨_, _, e3⟩ | ⟨_, _, e3⟩ <;> cases e3
    obtain ⟨vs, g1, g2, _⟩ := hs r' M H' i _ x hh e1
    obtain ⟨us, k1, k2, _⟩ := ht r' M H' i _ x hh e2
    obtain ⟨v, v1, v2⟩ := g2 y rfl
    obtain ⟨u, u1, u2⟩ := k2 z rfl
    refine ⟨⟨vs, us, v, u, g1, k1, v1, u1⟩, fun w H2 q => ?_⟩
    obtain ⟨T, v', u', rfl, hT, rfl, q1, q2⟩ := q
    have := q1 vs g1; rw [v1] at this; cases this
    have := q2 us k1; rw [u1] at this; cases this
    exact pair_rv hh hT v2 u2
  · rcases zip_inv e with ⟨y, z, e1, e2, e3⟩ | ⟨e1, ⟨_, e2⟩, _⟩ | ⟨⟨_, e1⟩, e2, _⟩
    · cases e3
    · obtain ⟨vs, g1, _, g2⟩ := hs r' M H' i _ x hh e1
      obtain ⟨us, k1, _, _⟩ := ht r' M H' i _ x hh e2
      exact ⟨vs, us, g1, k1, .inl (g2 rfl)⟩
    · obtain ⟨vs, g1, _, _⟩ := hs r' M H' i _ x hh e1
      obtain ⟨us, k1, _, k2⟩ := ht r' M H' i _ x hh e2
      exact ⟨vs, us, g1, k1, .inr (k2 rfl)⟩
theorem zip_tup {a b : Addr} {s t : Src} (hs : Side (fun H => SqT K H a) K r H s) (ht : Side (fun H => SqT K H b) K r H t) : SrcOk K r H (.zip s t) (RZ.ItzT K a b) := by
  intro r' M H' i x hh
  refine ⟨fun p e => ?_, fun e => ?_⟩
  · rcases zip_inv e with ⟨y, z, e1, e2, e3⟩ | ⟨_, _, e3⟩ | ⟨_, _, e3⟩ <;> cases e3
    obtain ⟨vs, g1, g2, _⟩ := hs r' M H' i _ x hh e1
    obtain ⟨us, k1, k2, _⟩ := ht r' M H' i _ x hh e2
    obtain ⟨v, v1, v2⟩ := g2 y rfl
    obtain ⟨u, u1, u2⟩ := k2 z rfl
    refine ⟨⟨vs, us, v, u, g1, k1, v1, u1⟩, fun w H2 q => ?_⟩
    obtain ⟨T, v', u', rfl, hT, rfl, q1, q2⟩ := q
    have := q1 vs g1; rw [v1] at this; cases this
    have := q2 us k1; rw [u1] at this; cases this
    exact pair_rv hh hT v2 u2
  · rcases zip_inv e with ⟨y, z, e1, e2, e3⟩ | ⟨e1, ⟨_, e2⟩, _⟩ | ⟨⟨_, e1⟩, e2, _⟩
    · cases e3
    · obtain ⟨vs, g1, _, g2⟩ := hs r' M H' i _ x hh e1
      obtain ⟨us, k1, _, _⟩ := ht r' M H' i _ x hh e2
      exact ⟨vs, us, g1, k1, .inl (g2 rfl)⟩
    · obtain ⟨vs, g1, _, _⟩ := hs r' M H' i _ x hh e1
      obtain ⟨us, k1, _, k2⟩ := ht r' M H' i _ x hh e2
      exact ⟨vs, us, g1, k1, .inr (k2 rfl)⟩
theorem zip_tl {a b : Addr} {s t : Src} (hs : Side (fun H => SqT K H a) K r H s) (ht : Side (fun H => SqL K H b) K r H t) : SrcOk K r H (.zip s t) (ItzM K a b) := by
  intro r' M H' i x hh
  refine ⟨fun p e => ?_, fun e => ?_⟩
  · rcases zip_inv e with ⟨y, z, e1, e2, e3⟩ | ⟨_, _, e3⟩ | ⟨_, _, e3⟩ <;> cases e3
    obtain ⟨vs, g1, g2, _⟩ := hs r' M H' i _ x hh e1
    obtain ⟨us, k1, k2, _⟩ := ht r' M H' i _ x hh e2
    obtain ⟨v, v1, v2⟩ := g2 y rfl
    obtain ⟨u, u1, u2⟩ := k2 z rfl
    refine ⟨⟨vs, us, v, u, g1, k1, v1, u1⟩, fun w H2 q => ?_⟩
    obtain ⟨T, v', u', rfl, hT, rfl, q1, q2⟩ := q
    have := q1 vs g1; rw [v1] at this; cases this
    have := q2 us k1; rw [u1] at this; cases this
    exact pair_rv hh hT v2 u2
  · rcases zip_inv e with ⟨y, z, e1, e2, e3⟩ | ⟨e1, ⟨_, e2⟩, _⟩ | ⟨⟨_, e1⟩, e2, _⟩
    · cases e3
    · obtain ⟨vs, g1, _, g2⟩ := hs r' M H' i _ x hh e1
      obtain ⟨us, k1, _, _⟩ := ht r' M H' i _ x hh e2
      exact ⟨vs, us, g1, k1, .inl (g2 rfl)⟩
    · obtain ⟨vs, g1, _, _⟩ := hs r' M H' i _ x hh e1
      obtain ⟨us, k1, _, k2⟩ := ht r' M H' i _ x hh e2
      exact ⟨vs, us, g1, k1, .inr (k2 rfl)⟩
end
section
variable {X : Cx} {cf : CF} {tg e e2 : Expr} {i j : E} {pos p : Pos}
theorem xi_seq (h : XE X cf e i) : XI X cf tg e (.seq i) := by
  refine ⟨fun pins s σ H R I q => ?_⟩
  obtain ⟨r, sg, M, src, M', hs, hh, ev, q⟩ := q
  simp only [evI] at ev
  split at ev
  · rename_i x M1 e1
    obtain ⟨s', e2, e3⟩ := Option.map_eq_some_iff.mp ev
    cases e3
    cases x with
    | tup xs =>
      simp only [srcOf] at e2; cases e2
      refine (pi_tup h).run pins s σ H R I ⟨r, sg, M, _, _, hs, hh, e1, fun r1 u H1 x1 h1 v => ?_⟩
      cases v with
      | @tup _ a vs ht hxs => exact ⟨a, rfl, ⟨vs, ht⟩, q r1 H1 _ x1 h1 (src_tup ht hxs)⟩
    | ptup xs =>
      simp only [srcOf] at e2; cases e2
      refine (pi_tup h).run pins s σ H R I ⟨r, sg, M, _, _, hs, hh, e1, fun r1 u H1 x1 h1 v => ?_⟩
      cases v with
      | @ptup _ a vs ht hxs => exact ⟨a, rfl, ⟨vs, ht.sqT⟩, q r1 H1 _ x1 h1 (src_tup ht.sqT hxs)⟩
    | cl ns =>
      simp only [srcOf] at e2; cases e2
      refine (pi_list h).run pins s σ H R I ⟨r, sg, M, _, _, hs, hh, e1, fun r1 u H1 x1 h1 v => ?_⟩
      cases v with
      | @cl _ a hc => exact ⟨a, rfl, ⟨_, hc.sq⟩, q r1 H1 _ x1 h1 (src_cl hc)⟩
    | str z =>
      simp only [srcOf] at e2; cases e2
      refine (pi_str h).run pins s σ H R I ⟨r, sg, M, _, _, hs, hh, e1, fun r1 u H1 x1 h1 v => ?_⟩
      cases v
      exact ⟨z, rfl, q r1 H1 _ x1 h1 src_str⟩
    | ref n =>
      simp only [srcOf] at e2
      obtain ⟨xs, e3, e4⟩ := Option.map_eq_some_iff.mp e2
      cases e4
      refine (pi_list h).run pins s σ H R I ⟨r, sg, M, _, _, hs, hh, e1, fun r1 u H1 x1 h1 v => ?_⟩
      obtain ⟨a, vs, g1, g2, g3⟩ := lst_of h1 e3
      exact ⟨a, v.refAt g1, ⟨vs, .inl (.inl g2)⟩, q r1 H1 _ x1 h1 (src_lst g1)⟩
    | _ => simp [srcOf] at e2
  · cases ev
theorem rngOk_b {i : Int} (h : rngOk i = true) : -(2 ^ 62) ≤ i ∧ i < 2 ^ 62 := by
  obtain ⟨h1, h2⟩ := Bool.and_eq_true_iff.mp h
  exact ⟨of_decide_eq_true h1, of_decide_eq_true h2⟩
theorem xi_rng1 (hg : Gl X "range") (hm : X.mg "range" = none) (h : XE X cf e i) (hs : starEach [e] X.env = [(false, eval e X.env)] := by rfl) : XI X cf tg (.Call (.Name "range" p) [e] [] pos) (.rng1 i) := by
  refine ⟨fun pins s σ H R I q => ?_⟩
  obtain ⟨r, sg, M, src, M', hs', hh, ev, q⟩ := q
  simp only [evI] at ev
  split at ev
  · rename_i k M1 e1
    split at ev
    · rename_i hk
      cases ev
      obtain ⟨b1, b2⟩ := rngOk_b hk
      refine (pi_range1 hg hm (pa_cons h pa_nil hs) hs).run pins s σ H R I ⟨r, sg, M, _, _, hs', hh, e1, fun r1 u H1 x1 h1 v => ?_⟩
      cases v
      exact ⟨k, rfl, b1, b2, q r1 H1 _ x1 h1 src_rng⟩
    · cases ev
  · cases ev
theorem xi_enum {elts : List Expr} {kk : Nat} {tpos : Pos} (hg : Gl X "enumerate") (hm : X.mg "enumerate" = none) (h : XE X cf e i) (hs : starEach [e] X.env = [(false, eval e X.env)] := by rfl) : XI X cf (.Tuple elts kk tpos) (.Call (.Name "enumerate" p) [e] [] pos) (.enum i) := by
  refine ⟨fun pins s σ H R I q => ?_⟩
  obtain ⟨r, sg, M, src, M', hs', hh, ev, q⟩ := q
  simp only [evI] at ev
  split at ev
  · rename_i x M1 e1
    split at ev
    · rename_i s' e2
      split at ev
      · rename_i hk
        cases ev
        refine (pi_enumA hg hm (pa_cons h pa_nil hs) hs).run pins s σ H R I ⟨r, sg, M, _, _, hs', hh, e1, fun r1 u H1 x1 h1 v => ?_⟩
        cases v with
        | @tup xs a vs ht hxs => simp only [srcOf] at e2; cases e2; exact ⟨a, vs, rfl, .inr ⟨ht, q r1 H1 _ x1 h1 (en_tup (src_tup ht hxs))⟩⟩
        | @ptup xs a vs ht hxs => simp only [srcOf] at e2; cases e2; exact ⟨a, vs, rfl, .inr ⟨ht.sqT, q r1 H1 _ x1 h1 (en_tup (src_tup ht.sqT hxs))⟩⟩
        | @cl ns a hc => simp only [srcOf] at e2; cases e2; exact ⟨a, _, rfl, .inl ⟨hc.sq, q r1 H1 _ x1 h1 (en_lst (src_cl hc))⟩⟩
        | @ref n a hn =>
          simp only [srcOf] at e2
          obtain ⟨xs, e3, e4⟩ := Option.map_eq_some_iff.mp e2
          cases e4
          obtain ⟨b, vs, g1, g2, g3⟩ := lst_of h1 e3
          rw [hn] at g1; cases g1
          exact ⟨a, vs, rfl, .inl ⟨.inl (.inl g2), q r1 H1 _ x1 h1 (en_lst (src_lst hn))⟩⟩
        | str z => simp only [srcOf] at e2; cases e2; simp [Src.isL, Src.isT] at hk
        | _ => simp [srcOf] at e2
      · cases ev
    · cases ev
  · cases ev
theorem side_of {K : PySem.W.Frag} {r : List Addr} {H : Hp} {M : Mm} {x : PV} {u : V} {s : Src} (hh : RH K r M H) (v : RV K r H x u) (e : srcOf M x = some s) :
    (s.isL = true → ∃ a vs, u = .ref a ∧ SqL K H a vs ∧ Side (fun H => SqL K H a) K r H s) ∧ (s.isT = true → ∃ a vs, u = .ref a ∧ SqT K H a vs ∧ Side (fun H => SqT K H a) K r H s) := by
  cases v with
  | @tup xs a vs ht hxs => simp only [srcOf] at e; cases e; exact ⟨fun z => by simp [Src.isL] at z, fun _ => ⟨a, vs, rfl, ht, side_tup ht hxs⟩⟩
  | @ptup xs a vs ht hxs => simp only [srcOf] at e; cases e; exact ⟨fun z => by simp [Src.isL] at z, fun _ => ⟨a, vs, rfl, ht.sqT, side_tup ht.sqT hxs⟩⟩
  | @cl ns a hc => simp only [srcOf] at e; cases e; exact ⟨fun _ => ⟨a, _, rfl, hc.sq, side_cl hc⟩, fun z => by simp [Src.isT] at z⟩
  | @ref n a hn =>
    simp only [srcOf] at e
    obtain ⟨xs, e3, e4⟩ := Option.map_eq_some_iff.mp e
    cases e4
    obtain ⟨b, vs, g1, g2, g3⟩ := lst_of hh e3
    rw [hn] at g1; cases g1
    exact ⟨fun _ => ⟨a, vs, rfl, .inl (.inl g2), side_lst hn⟩, fun z => by simp [Src.isT] at z⟩
  | str z => simp only [srcOf] at e; cases e; exact ⟨fun z => by simp [Src.isL] at z, fun z => by simp [Src.isT] at z⟩
  | _ => simp [srcOf] at e
theorem xi_zip {elts : List Expr} {kk : Nat} {tpos : Pos} (hg : Gl X "zip") (hm : X.mg "zip" = none) (h : XE X cf e i) (h2 : XE X cf e2 j) (hs : starEach [e, e2] X.env = (false, eval e X.env) :: starEach [e2] X.env := by rfl) (hs1 : starEach [e2] X.env = (false, eval e2 X.env) :: starEach [] X.env := by rfl)
    (hpl : (backTo pos (starEach [e2] X.env)).any (·.1) = false := by rfl) : XI X cf (.Tuple elts kk tpos) (.Call (.Name "zip" p) [e, e2] [] pos) (.zip i j) := by
  refine ⟨fun pins s σ H R I q => ?_⟩
  obtain ⟨r, sg, M, src, M', hs', hh, ev, q⟩ := q
  simp only [evI] at ev
  split at ev
  · rename_i x M1 e1
    split at ev
    · rename_i y M2 e2
      split at ev
      · rename_i s1 s2 e3 e4
        split at ev
        · rename_i hk
          cases ev
          refine (pi_zip3 hg hm (pa_cons h (pa_cons h2 pa_nil hs1) hs) hs hpl).run pins s σ H R I ⟨r, sg, M, _, _, hs', hh, e1, fun r1 u H1 x1 h1 v => ⟨r1, sg, M1, _, _, hs'.ext x1, h1, e2, fun r2 u2 H2 x2 h2 v2 => ?_⟩⟩
          obtain ⟨a1, a2⟩ := side_of h2 (v.ext x2) e3
          obtain ⟨b1, b2⟩ := side_of h2 v2 e4
          rcases Bool.or_eq_true_iff.mp hk with hk | hk
          · rcases Bool.or_eq_true_iff.mp hk with hk | hk
            · obtain ⟨k1, k2⟩ := Bool.and_eq_true_iff.mp hk
              obtain ⟨a, vs, rfl, ha, sa⟩ := a1 k1
              obtain ⟨b, us, rfl, hb, sb⟩ := b1 k2
              exact ⟨a, b, vs, us, rfl, .inl ⟨ha, hb, q r2 H2 _ (x1.trans x2) h2 (zip_lst sa sb)⟩⟩
            · obtain ⟨k1, k2⟩ := Bool.and_eq_true_iff.mp hk
              obtain ⟨a, vs, rfl, ha, sa⟩ := a2 k1
              obtain ⟨b, us, rfl, hb, sb⟩ := b2 k2
              exact ⟨a, b, vs, us, rfl, .inr (.inl ⟨ha, hb, q r2 H2 _ (x1.trans x2) h2 (zip_tup sa sb)⟩)⟩
          · obtain ⟨k1, k2⟩ := Bool.and_eq_true_iff.mp hk
            obtain ⟨a, vs, rfl, ha, sa⟩ := a2 k1
            obtain ⟨b, us, rfl, hb, sb⟩ := b1 k2
            exact ⟨a, b, vs, us, rfl, .inr (.inr ⟨ha, hb, q r2 H2 _ (x1.trans x2) h2 (zip_tl sa sb)⟩)⟩
        · cases ev
      · cases ev
    · cases ev
  · cases ev
end
end Mp
namespace Mp
open PySem L2
def PostS (K : PySem.W.Frag) (r : List Addr) (H : Hp) (fl : Fl) (M' : Mm) (D : Ends) : Prop := ∀ r' H', Ext r r' H H' → RH K r' M' H' →
  match fl with
  | .nx sg => ∀ s', RS K r' H' sg s' → D.nx s' H'
  | .brk sg => ∀ s', RS K r' H' sg s' → D.bk s' H'
  | .ct sg => ∀ s', RS K r' H' sg s' → D.ct s' H'
  | .ret v => ∀ u, RV K r' H' v u → D.rt u H'
def TSv (K : PySem.W.Frag) (f : Sg → Mm → Option (Fl × Mm)) : TS := fun D s H => ∃ r sg M fl M', RS K r H sg s ∧ RH K r M H ∧ f sg M = some (fl, M') ∧ PostS K r H fl M' D
def XS (X : Cx) (cf : CF) (st : Stmt) (i : S) : Prop := PS X st (TSv X.K (evS cf i))
def XSs (X : Cx) (cf : CF) (sts : List Stmt) (i : Ss) : Prop := PSs X sts (TSv X.K (evSs cf i))
theorem ps_imp {X : Cx} {st : Stmt} {t t' : TS} (h : PS X st t) (k : ∀ D s H, t' D s H → t D s H) : PS X st t' := ⟨fun pins s σ H D I q => h.run pins s σ H D I (k _ _ _ q)⟩
theorem pss_imp {X : Cx} {st : List Stmt} {t t' : TS} (h : PSs X st t) (k : ∀ D s H, t' D s H → t D s H) : PSs X st t' := ⟨fun pins s σ H D I q => h.run pins s σ H D I (k _ _ _ q)⟩
section
variable {X : Cx} {cf : CF} {e a b c o tg iter : Expr} {st : Stmt} {sts sts2 : List Stmt} {i ia ib ic : E} {is : S} {iss iss2 : Ss} {pos : Pos}
theorem xs_ret (h : XE X cf e i) : XS X cf (.Return (some e) pos) (.ret i) := by
  refine ps_imp (ps_ret h) fun D s H q => ?_
  obtain ⟨r, sg, M, fl, M', hs, hh, ev, q⟩ := q
  simp only [evS] at ev
  split at ev
  · rename_i x M1 e1
    cases ev
    exact ⟨r, sg, M, x, _, hs, hh, e1, fun r1 u H1 x1 h1 v => q r1 H1 x1 h1 u v⟩
  · cases ev
theorem xs_retN : XS X cf (.Return none pos) (.ret (.con .non)) := by
  refine ps_imp ps_retN fun D s H q => ?_
  obtain ⟨r, sg, M, fl, M', hs, hh, ev, q⟩ := q
  simp only [evS, evE] at ev
  cases ev
  exact q r H .refl hh _ .non
theorem xs_exp (h : XE X cf e i) (hw : swapsWith e none pos.line X.env = pure false := by rfl) : XS X cf (.Expr e pos) (.exp i) := by
  refine ps_imp (ps_expr h hw) fun D s H q => ?_
  obtain ⟨r, sg, M, fl, M', hs, hh, ev, q⟩ := q
  simp only [evS] at ev
  split at ev
  · rename_i x M1 e1
    cases ev
    exact ⟨r, sg, M, x, _, hs, hh, e1, fun r1 u H1 x1 h1 v => q r1 H1 x1 h1 s (hs.ext x1)⟩
  · cases ev
theorem asg_red {D : Ends} {s : L2.St} {H : Hp} {t : Tg} (q : TSv X.K (evS cf (.asg t i)) D s H) : tAsg (TEv X.K (evE cf i)) (gOf X.K t) D s H := by
  obtain ⟨r, sg, M, fl, M', hs, hh, ev, q⟩ := q
  simp only [evS] at ev
  split at ev
  · rename_i x M1 e1
    obtain ⟨sg1, e2, e3⟩ := Option.map_eq_some_iff.mp ev
    cases e3
    exact ⟨r, sg, M, x, _, hs, hh, e1, fun r1 u H1 x1 h1 v => g_run h1 (hs.ext x1) v e2 fun s' h2 _ => q r1 H1 x1 h1 s' h2⟩
  · cases ev
theorem xs_asg {t : Tg} (h : XE X cf e i) (hg : XG X tg t) (h1 : swapsWithSole [tg] e pos.line X.env = pure false := by rfl) (h2 : swappedStores [tg] e X.env = pure none := by rfl)
    (h3 : (assignEach [tg] X.env).map (·.2) = [assign tg X.env] := by rfl) : XS X cf (.Assign [tg] e pos) (.asg t i) :=
  ps_imp (ps_asg h hg h1 h2 h3) fun D s H q => asg_red q
theorem xs_if (hc : XT X cf c ic) (ha : XSs X cf sts iss) (hb : XSs X cf sts2 iss2) : XS X cf (.If c sts sts2 pos) (.iff ic iss iss2) := by
  refine ps_imp (ps_if hc ha hb) fun D s H q => ?_
  obtain ⟨r, sg, M, fl, M', hs, hh, ev, q⟩ := q
  simp only [evS] at ev
  split at ev
  · rename_i M1 e1
    exact ⟨r, sg, M, _, _, hs, hh, e1, fun r1 H1 x1 h1 => iteT ⟨r1, sg, M1, fl, M', hs.ext x1, h1, ev, fun r2 H2 x2 h2 => q r2 H2 (x1.trans x2) h2⟩⟩
  · rename_i M1 e1
    exact ⟨r, sg, M, _, _, hs, hh, e1, fun r1 H1 x1 h1 => iteF ⟨r1, sg, M1, fl, M', hs.ext x1, h1, ev, fun r2 H2 x2 h2 => q r2 H2 (x1.trans x2) h2⟩⟩
  · cases ev
theorem xss_nil : XSs X cf [] .nil := by
  refine pss_imp pss_nil fun D s H q => ?_
  obtain ⟨r, sg, M, fl, M', hs, hh, ev, q⟩ := q
  simp only [evSs] at ev
  cases ev
  exact q r H .refl hh s hs
theorem xss_cons (h : XS X cf st is) (h2 : XSs X cf sts iss) : XSs X cf (st :: sts) (.cons is iss) := by
  refine pss_imp (pss_cons h h2) fun D s H q => ?_
  obtain ⟨r, sg, M, fl, M', hs, hh, ev, q⟩ := q
  simp only [evSs] at ev
  cases e1 : evS cf is sg M with
  | none => rw [e1] at ev; cases ev
  | some p =>
    obtain ⟨f1, M1⟩ := p
    rw [e1] at ev
    refine ⟨r, sg, M, f1, M1, hs, hh, e1, fun r1 H1 x1 h1 => ?_⟩
    cases f1 with
    | nx sg1 => exact fun s' h3 => ⟨r1, sg1, M1, fl, M', h3, h1, ev, fun r2 H2 x2 h2 => q r2 H2 (x1.trans x2) h2⟩
    | brk sg1 => cases ev; exact q r1 H1 x1 h1
    | ct sg1 => cases ev; exact q r1 H1 x1 h1
    | ret v => cases ev; exact q r1 H1 x1 h1
theorem xs_for {t : Tg} {it : Mp.It} (hp : PassesOwn (model X.prog X.w) X.A X.env X.xe) (hc : X.calm = true) (hi : XI X cf tg iter it) (hg : XG X tg t) (hb : XSs X cf sts iss)
    (hs : ∀ x, foldedSetIterable iter X.env x = pure x := by intro _; rfl) : XS X cf (.For tg iter sts [] pos) (.for_ t it iss) := by
  refine ps_imp (ps_for hp hc hi hg hb hs) fun D s H q => ?_
  obtain ⟨r, sg, M, fl, M', hs, hh, ev, q⟩ := q
  simp only [evS] at ev
  split at ev
  · rename_i src M1 e1
    refine ⟨r, sg, M, src, M1, hs, hh, e1, fun r1 H1 J x1 h1 ok => ?_⟩
    refine ⟨fun i m s H => ∃ r2 sg2 M2, Ext r1 r2 H1 H ∧ RS X.K r2 H sg2 s ∧ RH X.K r2 M2 H ∧ forL src (tgP t) (fun sg M => evSs cf iss sg M) m i sg2 M2 = some (fl, M'), ⟨bigN, r1, sg, M1, .refl, hs.ext x1, h1, ev⟩, ?_⟩
    rintro i m s2 H2 ⟨r2, sg2, M2, x2, hs2, h2, ev2⟩
    cases m with
    | zero => simp only [forL] at ev2; cases ev2
    | succ m =>
      simp only [forL] at ev2
      obtain ⟨o1, o2⟩ := ok r2 M2 H2 i x2 h2
      cases eg : src.get M2 i with
      | none => rw [eg] at ev2; cases ev2
      | some og =>
        rw [eg] at ev2
        cases og with
        | none => cases ev2; exact .inl ⟨o2 eg, q r2 H2 (x1.trans x2) h2 s2 hs2⟩
        | some x =>
          obtain ⟨g1, g2⟩ := o1 x eg
          refine .inr ⟨g1, fun s' H' => ∃ r3 sg3 M3, Ext r1 r3 H1 H' ∧ RS X.K r3 H' sg3 s' ∧ RH X.K r3 M3 H' ∧ forL src (tgP t) (fun sg M => evSs cf iss sg M) m (i + 1) sg3 M3 = some (fl, M'), fun s' H' ⟨r3, sg3, M3, k⟩ => ⟨m, Nat.lt_succ_self m, r3, sg3, M3, k⟩, fun v H3 y => ?_⟩
          obtain ⟨x3, h3, v3⟩ := g2 v H3 y
          simp only at ev2
          cases eb : tgP t M2 x sg2 with
          | none => rw [eb] at ev2; cases ev2
          | some sg3 =>
            rw [eb] at ev2
            refine g_run h3 (hs2.ext x3) v3 eb fun s4 hs4 _ => ?_
            simp only at ev2
            cases ec : evSs cf iss sg3 M2 with
            | none => rw [ec] at ev2; cases ev2
            | some p =>
              obtain ⟨f4, M4⟩ := p
              rw [ec] at ev2
              refine ⟨r2, sg3, M2, f4, M4, hs4, h3, ec, fun r5 H5 x5 h5 => ?_⟩
              cases f4 with
              | nx sg5 => exact fun s' k => ⟨r5, sg5, M4, (x2.trans x3).trans x5, k, h5, ev2⟩
              | ct sg5 => exact fun s' k => ⟨r5, sg5, M4, (x2.trans x3).trans x5, k, h5, ev2⟩
              | brk sg5 => cases ev2; exact fun s' k => q r5 H5 (x1.trans ((x2.trans x3).trans x5)) h5 s' k
              | ret w => cases ev2; exact fun u k => q r5 H5 (x1.trans ((x2.trans x3).trans x5)) h5 u k
  · cases ev
def XTs (X : Cx) (cf : CF) (ifs : List Expr) (i : E) : Prop := PTs X ifs (TTv X.K (evE cf i))
theorem xts_nil : XTs X cf [] (.con (.bl true)) := by
  refine ⟨fun pins s σ H Q I q => pts_nil.run pins s σ H Q I ?_⟩
  obtain ⟨r, sg, M, b, M', hs, hh, e, q⟩ := q
  simp only [evE] at e
  cases e
  exact q r H .refl hh
theorem xts_one (h : XT X cf c ic) : XTs X cf [c] ic := pts_one h
theorem lc_red {K : PySem.W.Frag} {s : L2.St} {H : Hp} {Q : VK} {t : Tg} {it : Mp.It} {vs : List Nat} (ht : ∀ j ∈ t.ixs, j ∈ vs) (q : TEv K (evE cf (.lc vs t it ic i)) s H Q) :
    tLc (TIv K (evI cf it)) (gOf K t) (TTv K (evE cf ic)) (TEv K (evE cf i)) vs s H Q := by
  obtain ⟨r, sg, M, z, M', hs, hh, ev, q⟩ := q
  simp only [evE] at ev
  split at ev
  · rename_i src M1 e1
    obtain ⟨Mx, ev, ez⟩ := Option.map_eq_some_iff.mp ev
    cases ez
    refine ⟨r, sg, M, src, M1, hs, hh, e1, fun r1 H1 J x1 h1 ok D hD => ?_⟩
    have hx : Ext r1 (r1 ++ [D]) H1 (upd H1 D (.lst [])) := ext_new hD [D]
    have hn : RH K (r1 ++ [D]) (M1 ++ [.lst []]) (upd H1 D (.lst [])) := h1.new hD ⟨[], upd_same, .nil⟩
    have hd : (r1 ++ [D])[M1.length]? = some D := by rw [← h1.len]; simp
    refine ⟨fun k m H => ∃ r2 M2, Ext (r1 ++ [D]) r2 (upd H1 D (.lst [])) H ∧ RH K r2 M2 H ∧ lcL src (tgP t) (fun sg M => evE cf ic sg M) (fun sg M => evE cf i sg M) M1.length (wipeP sg vs) m k M2 = some M', ⟨bigN, r1 ++ [D], _, .refl, hn, ev⟩, ?_⟩
    rintro k m H2 ⟨r2, M2, x2, h2, ev2⟩
    cases m with
    | zero => simp only [lcL] at ev2; cases ev2
    | succ m =>
      simp only [lcL] at ev2
      obtain ⟨o1, o2⟩ := ok r2 M2 H2 k (hx.trans x2) h2
      have xs2 : Ext r r2 H H2 := x1.trans (hx.trans x2)
      cases eg : src.get M2 k with
      | none => rw [eg] at ev2; cases ev2
      | some og =>
        rw [eg] at ev2
        cases og with
        | none => cases ev2; exact .inl ⟨o2 eg, q r2 _ H2 xs2 h2 (.ref (x2.at hd))⟩
        | some x =>
          obtain ⟨g1, g2⟩ := o1 x eg
          refine .inr ⟨g1, fun H' => ∃ r3 M3, Ext (r1 ++ [D]) r3 (upd H1 D (.lst [])) H' ∧ RH K r3 M3 H' ∧ lcL src (tgP t) (fun sg M => evE cf ic sg M) (fun sg M => evE cf i sg M) M1.length (wipeP sg vs) m (k + 1) M3 = some M', fun H' ⟨r3, M3, w⟩ => ⟨m, Nat.lt_succ_self m, r3, M3, w⟩, fun v H3 y => ?_⟩
          obtain ⟨x3, h3, v3⟩ := g2 v H3 y
          simp only at ev2
          cases eb : tgP t M2 x (wipeP sg vs) with
          | none => rw [eb] at ev2; cases ev2
          | some sg3 =>
            rw [eb] at ev2
            refine g_run h3 (((hs.ext xs2).ext x3).wipe vs) v3 eb fun s4 hs4 hw => ⟨by rw [hw vs ht, wipe_same], ?_⟩
            simp only at ev2
            split at ev2
            · rename_i M4 e4
              refine ⟨r2, sg3, M2, _, _, hs4, h3, e4, fun r5 H5 x5 h5 => iteT ?_⟩
              cases e5 : evE cf i sg3 M4 with
              | none => rw [e5] at ev2; cases ev2
              | some p =>
                obtain ⟨y, M6⟩ := p
                rw [e5] at ev2
                refine ⟨r5, sg3, M4, y, M6, hs4.ext x5, h5, e5, fun r7 u7 H7 x7 h7 v7 => ?_⟩
                simp only at ev2
                cases e8 : lstAt M6 M1.length with
                | none => rw [e8] at ev2; cases ev2
                | some acc =>
                  rw [e8] at ev2
                  simp only at ev2
                  split at ev2
                  · rename_i hl
                    obtain ⟨a, ws, k1, k2, k3⟩ := lst_of h7 e8
                    have x27 : Ext (r1 ++ [D]) r7 (upd H1 D (.lst [])) H7 := ((x2.trans x3).trans x5).trans x7
                    rw [x27.at hd] at k1; cases k1
                    have xe := ext_set (r := r7) (o := .lst (ws ++ [u7])) k2 trivial (List.mem_of_getElem? (x27.at hd))
                    exact ⟨ws, k2, by rw [← k3.length]; exact hl, r7, _, x27.trans xe, h7.set (o := .lst (acc ++ [y])) k2 trivial (x27.at hd) ⟨_, upd_same, (k3.append (.cons v7 .nil)).ext xe⟩, ev2⟩
                  · cases ev2
            · rename_i M4 e4
              exact ⟨r2, sg3, M2, _, _, hs4, h3, e4, fun r5 H5 x5 h5 => iteF ⟨r5, M4, (x2.trans x3).trans x5, h5, ev2⟩⟩
            · cases ev2
  · cases ev
section
variable {elt : Expr} {ifs : List Expr} {scope : Scope} {own : List (Str × Nat)} {t : Tg} {it : Mp.It}
theorem xe_lc (hc : X.calm = true) (hN : X.N.Nodup) (hi : XI X cf tg iter it) (ok : BlkOk X.N X.env.scope scope own)
    (hg : ∀ (s : Shared) (H : Hp) (C : Addr) (cl : List (Str × Addr)) (fp : List Addr), XG (X.blk s H scope (compEnvC scope cl C X.env) fp) tg t) (ht : ∀ (s : Shared) (H : Hp) (C : Addr) (cl : List (Str × Addr)) (fp : List Addr), XTs (X.blk s H scope (compEnvC scope cl C X.env) fp) cf ifs ic)
    (he : ∀ (s : Shared) (H : Hp) (C : Addr) (cl : List (Str × Addr)) (fp : List Addr), XE (X.blk s H scope (compEnvC scope cl C X.env) fp) cf elt i) (hx : ∀ j ∈ t.ixs, j ∈ own.map (·.2)) (hs : ∀ x, foldedSetIterable iter X.env x = pure x := by intro _; rfl) :
    XE X cf (.ListComp elt [⟨tg, iter, ifs, 0⟩] scope pos) (.lc (own.map (·.2)) t it ic i) :=
  pe_imp (pe_lc (g := gOf X.K t) (tt := TTv X.K (evE cf ic)) (te := TEv X.K (evE cf i)) hc hN hi ok hg ht he hs) fun s H Q q => lc_red hx q
end
end
end Mp
namespace Mp
open PySem L2
end Mp
namespace Mp
open PySem L2
end Mp
namespace Mp
open PySem L2
def RSt (K : PySem.W.Frag) : TSet := fun o i v H Q => ∃ r M po pi pv M', RH K r M H ∧ RV K r H po o ∧ RV K r H pi i ∧ RV K r H pv v ∧ stoP M po pi pv = some M' ∧ ∀ r' H', Ext r r' H H' → RH K r' M' H' → Q H'
theorem putM_ok {K : PySem.W.Frag} {r : List Addr} {H : Hp} {k : Key} {p : PV} {v : V} (h : RV K r H p v) : ∀ {kvs : List (Key × PV)} {vs : List (Key × V)}, vs.map (·.1) = kvs.map (·.1) → RVs K r H (kvs.map (·.2)) (vs.map (·.2)) →
    (vs.map fun kv => if kv.1 = k then (kv.1, v) else kv).map (·.1) = (kvs.map fun kv => if kv.1 = k then (kv.1, p) else kv).map (·.1) ∧
      RVs K r H ((kvs.map fun kv => if kv.1 = k then (kv.1, p) else kv).map (·.2)) ((vs.map fun kv => if kv.1 = k then (kv.1, v) else kv).map (·.2))
  | [], [], _, _ => ⟨rfl, .nil⟩
  | [], _ :: _, e, _ => by simp at e
  | _ :: _, [], e, _ => by simp at e
  | (k1, p1) :: kvs, (k2, v2) :: vs, e, hs => by
    simp only [List.map_cons, List.cons.injEq] at e
    obtain ⟨e1, e2⟩ := e
    have e1 : k2 = k1 := e1
    subst e1
    cases hs with
    | cons h1 hs =>
      obtain ⟨i1, i2⟩ := putM_ok (k := k) h e2 hs
      by_cases hk : k2 = k
      · subst hk
        simp only [List.map_cons, if_pos]
        exact ⟨by rw [i1], .cons h i2⟩
      · simp only [List.map_cons, if_neg hk]
        exact ⟨by rw [i1], .cons h1 i2⟩
theorem putD_ok {K : PySem.W.Frag} {r : List Addr} {H : Hp} (k : Key) {p : PV} {v : V} {kvs : List (Key × PV)} {vs : List (Key × V)} (h : RV K r H p v) (e : vs.map (·.1) = kvs.map (·.1)) (hs : RVs K r H (kvs.map (·.2)) (vs.map (·.2))) :
    (putK vs k v).map (·.1) = (putD kvs k p).map (·.1) ∧ RVs K r H ((putD kvs k p).map (·.2)) ((putK vs k v).map (·.2)) := by
  have ea : (vs.any fun kv => decide (kv.1 = k)) = (kvs.any fun kv => decide (kv.1 = k)) := by
    have h1 : (vs.any fun kv => decide (kv.1 = k)) = (vs.map (·.1)).any fun q => decide (q = k) := by rw [List.any_map]; rfl
    have h2 : (kvs.any fun kv => decide (kv.1 = k)) = (kvs.map (·.1)).any fun q => decide (q = k) := by rw [List.any_map]; rfl
    rw [h1, h2, e]
  unfold putK putD
  rw [ea]
  split
  · exact putM_ok h e hs
  · refine ⟨by simp [e], ?_⟩
    rw [List.map_append, List.map_append]
    exact hs.append (.cons h .nil)
section
variable {X : Cx} {cf : CF} {e a b c o tg iter : Expr} {es : List Expr} {st : Stmt} {sts sts2 : List Stmt} {i ia ib ic io : E} {is : S} {iss iss2 : Ss} {pos : Pos}
theorem setx (hu : X.A.units + 64 < cLine) : PSet X (RSt X.K) := by
  intro pins s σ H o i v ov iv u Q I ro ri rv h
  obtain ⟨r, M, po, pi, pv, M', hh, vo, vi, vv, e, q⟩ := h
  cases vo with
  | @ref n a1 hn =>
    simp only [stoP] at e
    split at e
    · rename_i xs k e1
      obtain ⟨j, e2, e3⟩ := Option.map_eq_some_iff.mp e
      subst e3
      obtain ⟨b1, g1, vs, g2, g3⟩ := hh.at e1
      rw [hn] at g1; cases g1
      cases vi
      refine set_list pins s σ H _ _ v ov iv u Q I ro ri rv ⟨a1, vs, k, j, rfl, rfl, g2, by rw [← g3.length]; exact e2, ?_⟩
      have x := ext_set (r := r) (o := .lst (vs.set j v)) g2 trivial (List.mem_of_getElem? hn)
      exact q r _ x (hh.set g2 trivial hn ⟨_, upd_same, (g3.set j vv).ext x⟩)
    · rename_i _ kvs e1
      obtain ⟨k, e2, e3⟩ := Option.bind_eq_some_iff.mp e
      split at e3
      · rename_i hl
        cases e3
        obtain ⟨vs, g2, g3, g4⟩ := dic_of hh e1 hn
        have := keyOf_ok vi e2
        subst this
        obtain ⟨p1, p2⟩ := putD_ok k vv g3 g4
        have x := ext_set (r := r) (o := .dK (putK vs k v)) g2 trivial (List.mem_of_getElem? hn)
        refine set_dict (by omega) pins s σ H _ _ v ov iv u Q I ro ri rv ⟨a1, _, rfl, DPut.k (k := k) g2 ?_, q r _ x (hh.set (o := .dic (putD kvs k pv)) g2 trivial hn ⟨_, upd_same, p1, p2.ext x⟩)⟩
        have := congrArg List.length g3
        simp only [List.length_map] at this
        omega
      · cases e3
    · cases e
  | _ => simp [stoP] at e
theorem xs_sto (hu : X.A.units + 64 < cLine) (hv : XE X cf e i) (ho : XE X cf a ia) (hi : XE X cf b ib) {spos : Pos}
    (ha : ∀ v, assign (.Subscript a b pos) X.env v = (do
      let ov ← holding [v] (eval a X.env)
      let iv ← holding [v, ov] (eval b X.env)
      standAt pos
      holding [v, ov, iv] (setItem ov iv v)
      release [v, ov, iv] []) := by intro _; rfl)
    (h1 : swapsWithSole [.Subscript a b pos] e spos.line X.env = pure false := by rfl) (h2 : swappedStores [.Subscript a b pos] e X.env = pure none := by rfl)
    (h3 : (assignEach [.Subscript a b pos] X.env).map (·.2) = [assign (.Subscript a b pos) X.env] := by rfl) : XS X cf (.Assign [.Subscript a b pos] e spos) (.sto ia ib i) := by
  refine ps_imp (ps_asg hv (pg_sub ho hi (setx hu) ha) h1 h2 h3) fun D s H q => ?_
  obtain ⟨r, sg, M, fl, M', hs, hh, ev, q⟩ := q
  simp only [evS] at ev
  split at ev
  · rename_i x M1 e1
    split at ev
    · rename_i y M2 e2
      split at ev
      · rename_i z M3 e3
        obtain ⟨M4, e4, e5⟩ := Option.map_eq_some_iff.mp ev
        cases e5
        exact ⟨r, sg, M, x, M1, hs, hh, e1, fun r1 u1 H1 x1 h1 v1 => ⟨r1, sg, M1, y, M2, hs.ext x1, h1, e2, fun r2 u2 H2 x2 h2 v2 => ⟨r2, sg, M2, z, M3, hs.ext (x1.trans x2), h2, e3, fun r3 u3 H3 x3 h3 v3 =>
          ⟨r3, M3, y, z, x, _, h3, v2.ext x3, v3, v1.ext (x2.trans x3), e4, fun r4 H4 x4 h4 => q r4 H4 (x1.trans (x2.trans (x3.trans x4))) h4 s (hs.ext (x1.trans (x2.trans (x3.trans x4))))⟩⟩⟩⟩
      · cases ev
    · cases ev
  · cases ev
theorem tup_inv {j : Es} {sg : Sg} {M M' : Mm} {z : PV} (ev : evE cf (.tup j) sg M = some (z, M')) : ∃ xs, evEs cf j sg M = some (xs, M') ∧ z = .tup xs := by
  simp only [evE] at ev
  split at ev
  · rename_i xs M1 e1
    split at ev
    · cases ev; exact ⟨xs, e1, rfl⟩
    · cases ev
  · cases ev
theorem xs_par2 {m n : Nat} {x y : Str} {px py pt : Pos} {kt k2 pt2} {j : Es} (hc : X.calm = true) (hN : X.N.Nodup) (hi : X.N[m]? = some x) (hj : X.N[n]? = some y) (hij : m ≠ n)
    (hx : X.env.scope.names.lookup x = some .local) (hy : X.env.scope.names.lookup y = some .local) (ha : XA X cf [a, b] j)
    (hw : swappedStores [.Tuple [.Name x px, .Name y py] kt pt] (.Tuple [a, b] k2 pt2) X.env = pure (some [x, y]))
    (hs : swapsWithSole [.Tuple [.Name x px, .Name y py] kt pt] (.Tuple [a, b] k2 pt2) pos.line X.env = pure false := by rfl) :
    XS X cf (.Assign [.Tuple [.Name x px, .Name y py] kt pt] (.Tuple [a, b] k2 pt2) pos) (.asg (.tup [m, n]) (.tup j)) := by
  refine ps_imp (ps_par hc hN hi hj hij hx hy ha hw hs) fun D s H q => ?_
  obtain ⟨r, sg, M, fl, M', hs, hh, ev, q⟩ := q
  simp only [evS] at ev
  split at ev
  · rename_i z M1 e1
    obtain ⟨xs, e1', rfl⟩ := tup_inv e1
    obtain ⟨sg1, e2, e3⟩ := Option.map_eq_some_iff.mp ev
    cases e3
    refine ⟨r, sg, M, xs, _, hs, hh, e1', fun r1 vs H1 x1 h1 v1 => ?_⟩
    match xs, v1, e2 with
    | [p1, p2], .cons w1 (.cons w2 .nil), e2 =>
      simp only [tgP, setAll] at e2
      cases e2
      exact ⟨_, _, rfl, q r1 H1 x1 h1 _ (((hs.ext x1).set m w1).set n w2)⟩
  · cases ev
theorem xs_par3 {m n l : Nat} {x y z : Str} {px py pz pt : Pos} {kt k2 pt2} {j : Es} (hc : X.calm = true) (hN : X.N.Nodup) (hi : X.N[m]? = some x) (hj : X.N[n]? = some y) (hl : X.N[l]? = some z) (hij : m ≠ n) (hil : m ≠ l) (hjl : n ≠ l)
    (hx : X.env.scope.names.lookup x = some .local) (hy : X.env.scope.names.lookup y = some .local) (hz : X.env.scope.names.lookup z = some .local) (ha : XA X cf [a, b, c] j)
    (hw : swappedStores [.Tuple [.Name x px, .Name y py, .Name z pz] kt pt] (.Tuple [a, b, c] k2 pt2) X.env = pure (some [x, y, z]))
    (hs : swapsWithSole [.Tuple [.Name x px, .Name y py, .Name z pz] kt pt] (.Tuple [a, b, c] k2 pt2) pos.line X.env = pure false := by rfl) :
    XS X cf (.Assign [.Tuple [.Name x px, .Name y py, .Name z pz] kt pt] (.Tuple [a, b, c] k2 pt2) pos) (.asg (.tup [m, n, l]) (.tup j)) := by
  refine ps_imp (ps_par3 hc hN hi hj hl hij hil hjl hx hy hz ha hw hs) fun D s H q => ?_
  obtain ⟨r, sg, M, fl, M', hs, hh, ev, q⟩ := q
  simp only [evS] at ev
  split at ev
  · rename_i z M1 e1
    obtain ⟨xs, e1', rfl⟩ := tup_inv e1
    obtain ⟨sg1, e2, e3⟩ := Option.map_eq_some_iff.mp ev
    cases e3
    refine ⟨r, sg, M, xs, _, hs, hh, e1', fun r1 vs H1 x1 h1 v1 => ?_⟩
    match xs, v1, e2 with
    | [p1, p2, p3], .cons w1 (.cons w2 (.cons w3 .nil)), e2 =>
      simp only [tgP, setAll] at e2
      cases e2
      exact ⟨_, _, _, rfl, q r1 H1 x1 h1 _ ((((hs.ext x1).set m w1).set n w2).set l w3)⟩
  · cases ev
theorem Post.dic {K : PySem.W.Frag} {r : List Addr} {H : Hp} {M : Mm} {Q : VK} {p : Addr} (q : Post K r H (.ref M.length) (M ++ [.dic []]) Q) (h : RH K r M H) (hp : H p = none) : Q (.ref p) (upd H p (.dK [])) :=
  q (r ++ [p]) _ _ (ext_new hp [p]) (h.new hp ⟨[], upd_same, rfl, .nil⟩) (.ref (by rw [← h.len]; simp))
theorem xe_dnew : XE X cf (.Dict [] [] pos) .dnew := by
  refine pe_imp pe_dnewK fun s H Q h => ?_
  obtain ⟨r, sg, M, z, M', hs, hh, e, q⟩ := h
  simp only [evE] at e
  cases e
  exact fun p hp => q.dic hh hp
def TPv (K : PySem.W.Frag) (ks : List Key) (f : Sg → Mm → Option (List PV × Mm)) : L2.St → Hp → (List (V × V) → Hp → Prop) → Prop := fun s H Q => ∃ r sg M xs M', RS K r H sg s ∧ RH K r M H ∧ f sg M = some (xs, M') ∧
  ∀ r' vs H', Ext r r' H H' → RH K r' M' H' → RVs K r' H' xs vs → Q ((ks.map kV).zip vs) H'
structure XP (X : Cx) (cf : CF) (pos : Pos) (ks : List (Option Expr)) (vs : List Expr) (trs : List (TE × TE)) (keys : List Key) (j : Es) : Prop where
  pp : PPs X pos ks vs trs
  len : keys.length = vs.length
  red : ∀ s H Q, TPv X.K keys (evEs cf j) s H Q → tPairs trs s H Q
theorem xp_nil : XP X cf pos [] [] [] [] .nil := ⟨pps_nil, rfl, fun s H Q h => by
  obtain ⟨r, sg, M, xs, M', hs, hh, e, q⟩ := h
  simp only [evEs] at e
  cases e
  exact q r [] H .refl hh .nil⟩
theorem xp_str {k : Str} {jj : Nat} {kp : Pos} {ks : List (Option Expr)} {vs : List Expr} {trs : List (TE × TE)} {keys : List Key} {j : Es} (h : XE X cf e i) (hr : XP X cf pos ks vs trs keys j) :
    XP X cf pos (some (.Constant (.str k) jj kp) :: ks) (e :: vs) ((tC (.str k), TEv X.K (evE cf i)) :: trs) (.inr k :: keys) (.cons i j) := ⟨pps_cons pe_str h hr.pp, by simp [hr.len], fun s H Q h => by
  obtain ⟨r, sg, M, ys, M', hs, hh, e, q⟩ := h
  obtain ⟨x, xs, M1, e1, e2, rfl⟩ := evEs_cons e
  refine ⟨r, sg, M, x, M1, hs, hh, e1, fun r1 u1 H1 x1 h1 v1 => hr.red _ _ _ ⟨r1, sg, M1, xs, M', hs.ext x1, h1, e2, fun r2 us H2 x2 h2 v2 => ?_⟩⟩
  exact q r2 (u1 :: us) H2 (x1.trans x2) h2 (.cons (v1.ext x2) v2)⟩
theorem fold_ok {K : PySem.W.Frag} {r : List Addr} {H : Hp} : ∀ {ks : List Key} {xs : List PV} {vs : List V} {kvs : List (Key × PV)} {ws : List (Key × V)}, RVs K r H xs vs → ws.map (·.1) = kvs.map (·.1) → RVs K r H (kvs.map (·.2)) (ws.map (·.2)) →
    (mergeK ws (ks.zip vs)).map (·.1) = ((ks.zip xs).foldl (fun acc kv => putD acc kv.1 kv.2) kvs).map (·.1) ∧ RVs K r H (((ks.zip xs).foldl (fun acc kv => putD acc kv.1 kv.2) kvs).map (·.2)) ((mergeK ws (ks.zip vs)).map (·.2))
  | [], _, _, _, _, _, e, h => by simpa [mergeK] using ⟨e, h⟩
  | _ :: _, [], _, _, _, .nil, e, h => by simpa [mergeK] using ⟨e, h⟩
  | k :: ks, x :: xs, _, kvs, ws, .cons (v := v) h1 hs, e, h => by
    obtain ⟨p1, p2⟩ := putD_ok k h1 e h
    have := fold_ok (ks := ks) hs p1 p2
    simpa [mergeK] using this
theorem xe_dct {ks : List (Option Expr)} {vs : List Expr} {trs : List (TE × TE)} {keys : List Key} {j : Es} (h : XP X cf pos ks vs trs keys j) (hall : ks.all (·.isSome) = true) (hl : ks.length = vs.length) (h0 : ks ≠ []) (h15 : ks.length ≤ 15) :
    XE X cf (.Dict ks vs pos) (.dct keys j) := by
  refine pe_imp (pe_disp h.pp hall hl h0 h15) fun s H Q q => ?_
  obtain ⟨r, sg, M, z, M', hs, hh, e, q⟩ := q
  simp only [evE] at e
  intro p hp
  have x0 := ext_new (r := r) (o := .dK []) hp [p]
  have hn : RH X.K (r ++ [p]) (M ++ [.dic []]) (upd H p (.dK [])) := hh.new hp ⟨[], upd_same, rfl, .nil⟩
  have hd : (r ++ [p])[M.length]? = some p := by rw [← hh.len]; simp
  split at e
  · rename_i xs M1 e1
    split at e
    · rename_i hk
      split at e
      · rename_i e2
        cases e
        refine h.red _ _ _ ⟨r ++ [p], sg, _, xs, M1, hs.ext x0, hn, e1, fun r1 ws H1 x1 h1 v1 => ?_⟩
        have g2 : M1[M.length]? = some (.dic []) := by
          unfold dicAt at e2
          split at e2
          · rename_i kv e3; cases e2; exact e3
          · cases e2
        obtain ⟨vs', k2, k3, _⟩ := dic_of h1 g2 (x1.at hd)
        have k3' : vs' = [] := by simpa using k3
        subst k3'
        obtain ⟨p1, p2⟩ := fold_ok (ks := keys) (kvs := []) (ws := []) v1 rfl .nil
        have x2 := ext_set (r := r1) (o := .dK (mergeK [] (keys.zip ws))) k2 trivial (List.mem_of_getElem? (x1.at hd))
        refine ⟨k2, keys.zip ws, ?_, ?_, q r1 _ _ (x0.trans (x1.trans x2)) (h1.set k2 trivial (x1.at hd) ⟨_, upd_same, p1, p2.ext x2⟩) (.ref (x1.at hd))⟩
        · rw [List.zip_map_left]
          rfl
        · rw [List.length_zip]; have := hk.2; omega
      · cases e
    · cases e
  · cases e
theorem mth_inv {m : Mt} {j : Es} {sg : Sg} {M M' : Mm} {z : PV} (ev : evE cf (.mth m io j) sg M = some (z, M')) : ∃ x xs M1 M2, evE cf io sg M = some (x, M1) ∧ mtOk M1 m x = true ∧ evEs cf j sg M1 = some (xs, M2) ∧ mthP M2 m x xs = some (z, M') := by
  simp only [evE] at ev
  split at ev
  · rename_i x M1 e1
    split at ev
    · rename_i hk
      split at ev
      · rename_i xs M2 e2; exact ⟨x, xs, M1, M2, e1, hk, e2, ev⟩
      · cases ev
    · cases ev
  · cases ev
def RMt (K : PySem.W.Frag) (m : Mt) : V → List V → Hp → VK → Prop := fun x vs H Q => ∃ r M p ps z M', RH K r M H ∧ RV K r H p x ∧ RVs K r H ps vs ∧ mthP M m p ps = some (z, M') ∧ Post K r H z M' Q
theorem mt_red {T : String} {m : Mt} {j : Es} {ta : TA} {s : L2.St} {H : Hp} {Q : VK} (hT : ∀ K r M H x v, RH K r M H → RV K r H x v → mtOk M m x = true → tyV K T v H) (hta : ∀ s H Q, TAv X.K (evEs cf j) s H Q → ta s H Q)
    (q : TEv X.K (evE cf (.mth m io j)) s H Q) : tBM X.K T (RMt X.K m) (TEv X.K (evE cf io)) ta s H Q := by
  obtain ⟨r, sg, M, z, M', hs, hh, ev, q⟩ := q
  obtain ⟨x, xs, M1, M2, e1, hk, e2, e3⟩ := mth_inv ev
  exact ⟨r, sg, M, x, M1, hs, hh, e1, fun r1 u1 H1 x1 h1 v1 => ⟨hT _ _ _ _ _ _ h1 v1 hk, hta _ _ _ ⟨r1, sg, M1, xs, M2, hs.ext x1, h1, e2, fun r2 us H2 x2 h2 v2 => ⟨r2, M2, x, xs, z, M', h2, v1.ext x2, v2, e3, fun r3 u3 H3 x3 h3 v3 => q r3 u3 H3 (x1.trans (x2.trans x3)) h3 v3⟩⟩⟩⟩
theorem tyL {m : Mt} (hm : ∀ M x, mtOk M m x = true → ∃ n xs, x = .ref n ∧ lstAt M n = some xs) : ∀ K r M H x v, RH K r M H → RV K r H x v → mtOk M m x = true → tyV K "list" v H := fun K r M H x v hh hv hk => by
  obtain ⟨n, xs, rfl, e⟩ := hm M x hk
  obtain ⟨a, vs, g1, g2, g3⟩ := lst_of hh e
  have := hv.refAt g1
  subst this
  exact .inl ⟨rfl, vs, .inl (.inl g2)⟩
theorem mtx_append : MtR X "list.append" (RMt X.K .append) := by
  intro pins s σ H x vs v us Q I rx rs h
  obtain ⟨r, M, p, ps, z, M', hh, hv, hs, e, q⟩ := h
  match p, ps, hv, hs, e with
  | .ref n, [y], hv, .cons hy .nil, e =>
    simp only [mthP] at e
    obtain ⟨l, e5, e6⟩ := Option.bind_eq_some_iff.mp e
    split at e6
    · rename_i hl
      obtain ⟨rfl, rfl⟩ := Prod.mk.inj (Option.some.inj e6)
      obtain ⟨a, ws, g1, g2, g3⟩ := lst_of hh e5
      have := hv.refAt g1
      subst this
      exact mt_append pins s σ H _ _ v us Q I rx rs ⟨a, ws, _, rfl, rfl, g2, by rw [← g3.length]; exact hl, q.set hh g2 g1 (g3.append (.cons hy .nil)) .non⟩
    · cases e6
theorem RVs.erase {K : PySem.W.Frag} {r : List Addr} {H : Hp} : ∀ {x : List PV} {v : List V} (n : Nat), RVs K r H x v → RVs K r H (x.eraseIdx n) (v.eraseIdx n)
  | _, _, _, .nil => .nil
  | _, _, 0, .cons _ hs => hs
  | _, _, n + 1, .cons h hs => .cons h (RVs.erase n hs)
theorem xe_append {apos cpos : Pos} (ho : XE X cf o io) (h : XE X cf e i) (hbase : attributeBase o "append" X.env (eval o X.env) = eval o X.env := by rfl)
    (hfew : ((backTo cpos (starEach [e] X.env)).all (fun x => !x.1) && (backToKw cpos (keywordEach [] X.env)).all (fun x => x.1.isSome)
      && decide ([e].length + ([] : List Keyword).length + (if ([] : List Keyword).isEmpty then 0 else 1) < 30)) = true := by rfl)
    (hline : (apos.endLine == cpos.line) = true := by rfl) (hs : starEach [e] X.env = (false, eval e X.env) :: starEach [] X.env := by rfl) (hplain : (backTo cpos (starEach [] X.env)).any (·.1) = false := by rfl) :
    XE X cf (.Call (.Attribute o "append" apos) [e] [] cpos) (.mth .append io (.cons i .nil)) :=
  pe_imp (pe_bm PySem.F.plainAttrs_list PySem.F.slot_list_append PySem.F.type_list_append mtx_append ho (xa_cons h xa_nil hs) hbase hfew hline hs hplain) fun s H Q q =>
    mt_red (tyL fun M x hk => by cases x <;> simp [mtOk] at hk; obtain ⟨xs, e⟩ := Option.isSome_iff_exists.mp hk; exact ⟨_, xs, rfl, e⟩) (fun _ _ _ q => q) q
end
end Mp
namespace Mp
open PySem L2
def tyS : Ty → String
  | .list => "list" | .tuple => "tuple" | .int => "int" | .bool => "bool" | .str => "str" | .dict => "dict"
theorem kit_tys (u t : Ty) : kitB (tyS u) (tyS t) = some (u == t || (u == .bool && t == .int)) := by
  cases u <;> cases t <;> decide +kernel
theorem kit_non (t : Ty) : kitB "NoneType" (tyS t) = some false := by
  cases t <;> decide +kernel
theorem tyx {K : PySem.W.Frag} {r : List Addr} {H : Hp} {M : Mm} {x : PV} {v : V} (hh : RH K r M H) (h : RV K r H x v) (hx : ∀ n, x = .ref n → ∃ o, M[n]? = some o) (ni : insP M x = false) : ∃ T : String, TyX K H v (.type T) ∧ ∀ t, kitB T (tyS t) = some (isTy M x t) := by
  cases h with
  | non => exact ⟨"NoneType", .base .non, fun t => by rw [kit_non]; rfl⟩
  | bl b => exact ⟨"bool", .base (.bl b), fun t => kit_tys .bool t⟩
  | int b => exact ⟨"int", .base (.int b), fun t => kit_tys .int t⟩
  | str b => exact ⟨"str", .base (.str b), fun t => kit_tys .str t⟩
  | @tup xs a vs ht hs =>
    refine ⟨"tuple", ?_, fun t => kit_tys .tuple t⟩
    rcases ht with (ht | ⟨o, ht⟩) | ⟨o, its, n, h1, h2, _⟩
    · exact .base (.tup ht)
    · exact .fTuple ht
    · exact .kTuple h1 h2
  | @ptup xs a vs ht hs =>
    obtain ⟨o, _, _, ht⟩ := ht
    exact ⟨"tuple", .fTuple ht, fun t => kit_tys .tuple t⟩
  | @cl ns a hc =>
    refine ⟨"list", ?_, fun t => kit_tys .list t⟩
    rcases hc with ⟨o, hc⟩ | hc
    · exact .base (.frz hc)
    · rcases hc (fun _ => none) with (z | ⟨o, z⟩) | ⟨o, its, n, h1, h2, _⟩
      · cases z
      · cases z
      · exact .kList h1 h2
  | @ref n a hn =>
    obtain ⟨o, ho⟩ := hx n rfl
    have q := hh.ob n a o hn ho
    cases o with
    | lst xs =>
      obtain ⟨vs, g, _⟩ := q
      refine ⟨"list", .base (.lst g), fun t => ?_⟩
      rw [show isTy M (.ref n) t = (Ty.list == t || (Ty.list == .bool && t == .int)) by simp [isTy, tyOf, ho]]
      exact kit_tys .list t
    | dic xs =>
      obtain ⟨vs, g, _⟩ := q
      refine ⟨"dict", .base (.dK g), fun t => ?_⟩
      rw [show isTy M (.ref n) t = (Ty.dict == t || (Ty.dict == .bool && t == .int)) by simp [isTy, tyOf, ho]]
      exact kit_tys .dict t
    | ins c fs => simp [ho] at ni
    | slt c fs => simp [ho] at ni
    | frz kvs => simp [ho] at ni
  | fn n x => simp at ni
theorem ref_in {K : PySem.W.Frag} {r : List Addr} {H : Hp} {M : Mm} {x : PV} {v : V} (hh : RH K r M H) (h : RV K r H x v) : ∀ n, x = .ref n → ∃ o, M[n]? = some o := fun n e => by
  subst e
  cases h with
  | ref hn =>
    have : n < M.length := by rw [← hh.len]; exact (List.getElem?_eq_some_iff.mp hn).1
    exact ⟨_, List.getElem?_eq_getElem this⟩
theorem kitAny_tys {K : PySem.W.Frag} {T : String} {f : Ty → Bool} (h : ∀ t, kitB T (tyS t) = some (f t)) : ∀ ts : List Ty, PySem.W.kitAny K (.type T) (ts.map fun t => Value.type (tyS t)) = some (ts.any f)
  | [] => kitAny_nil
  | t :: ts => kitAny_cons (kit_ty (h t)) (fun hb => by rw [List.any_cons, hb, Bool.false_or]; exact kitAny_tys h ts) (fun hb => by rw [List.any_cons, hb, Bool.true_or])
theorem cls_tys : ∀ ts : List Ty, Paired ClsV (ts.map fun t => V.ty (tyS t)) (ts.map fun t => Value.type (tyS t))
  | [] => .nil
  | t :: ts => .cons (.ty _) (cls_tys ts)
section
variable {X : Cx} {cf : CF} {e a b : Expr} {es : List Expr} {i ia : E} {pos p : Pos}
theorem xe_isi1 {t : Ty} (hg : Gl X "isinstance") (hm : X.mg "isinstance" = none) (ha : XE X cf a ia) (hb : PE X b (tC (.ty (tyS t))))
    (he : starEach [a, b] X.env = (false, eval a X.env) :: starEach [b] X.env := by rfl) (he2 : starEach [b] X.env = (false, eval b X.env) :: starEach [] X.env := by rfl) (hpl : (backTo pos (starEach [b] X.env)).any (·.1) = false := by rfl) :
    XE X cf (.Call (.Name "isinstance" p) [a, b] [] pos) (.isi ia [t]) := by
  refine pe_imp (pe_callB call_isi hg hm (by decide +kernel) (pa_cons ha (pa_cons hb pa_nil he2) he) (by decide) (by decide) he hpl) fun s H Q h => ?_
  obtain ⟨r, sg, M, z, M', hs, hh, ev, q⟩ := h
  simp only [evE] at ev
  split at ev
  · rename_i x M1 e1
    split at ev
    · cases ev
    rename_i ni
    have ni := eq_false_of_ne_true ni
    cases ev
    refine ⟨r, sg, M, x, _, hs, hh, e1, fun r1 u1 H1 x1 h1 v1 => ?_⟩
    obtain ⟨T, ty, k⟩ := tyx h1 v1 (ref_in h1 v1) ni
    refine ⟨u1, .ty (tyS t), _, _, _, rfl, .ty _, ty, kit_ty (k t), q r1 _ H1 x1 h1 ?_⟩
    rw [List.any_cons, List.any_nil, Bool.or_false]
    exact .bl _
  · cases ev
theorem xe_isiT {ts : List Ty} {k : Nat} {tp : Pos} {tes : List Expr} {tt : TA} (hg : Gl X "isinstance") (hm : X.mg "isinstance" = none) (ha : XE X cf a ia) (hb : PA X tes tt) (hl : ts.length ≤ 100) (htt : ∀ s H Q, Q (ts.map fun t => V.ty (tyS t)) H → tt s H Q)
    (he : starEach [a, .Tuple tes k tp] X.env = (false, eval a X.env) :: starEach [.Tuple tes k tp] X.env := by rfl) (he2 : starEach [.Tuple tes k tp] X.env = (false, eval (.Tuple tes k tp) X.env) :: starEach [] X.env := by rfl) (hpl : (backTo pos (starEach [.Tuple tes k tp] X.env)).any (·.1) = false := by rfl) :
    XE X cf (.Call (.Name "isinstance" p) [a, .Tuple tes k tp] [] pos) (.isi ia ts) := by
  refine pe_imp (pe_callB call_isiT hg hm (by decide +kernel) (pa_cons ha (pa_cons (pe_tup hb) pa_nil he2) he) (by decide) (by decide) he hpl) fun s H Q h => ?_
  obtain ⟨r, sg, M, z, M', hs, hh, ev, q⟩ := h
  simp only [evE] at ev
  split at ev
  · rename_i x M1 e1
    split at ev
    · cases ev
    rename_i ni
    have ni := eq_false_of_ne_true ni
    cases ev
    refine ⟨r, sg, M, x, _, hs, hh, e1, fun r1 u1 H1 x1 h1 v1 => htt _ _ _ ⟨?_, fun tp hp => ?_⟩⟩
    · have : sizeLine = 16777216 := rfl
      rw [List.length_map, this]; omega
    · have x2 := ext_new0 (r := r1) (o := .tup (ts.map fun t => V.ty (tyS t))) hp
      have h2 := h1.other (.tup (ts.map fun t => V.ty (tyS t))) hp
      obtain ⟨T, ty, k⟩ := tyx h2 (v1.ext x2) (ref_in h2 (v1.ext x2)) ni
      exact ⟨u1, tp, _, _, _, _, rfl, upd_same, cls_tys ts, ty, kitAny_tys k ts, q r1 _ _ (x1.trans x2) h2 (.bl _)⟩
  · cases ev
theorem pe_tyN {x : Str} {t : Ty} (hg : Gl X x) (hm : X.mg x = none) (hv : bootBuiltins x = some (.type (tyS t))) (hn : x ≠ "__name__" := by decide) (hd : (x == ("__debug__" : Str)) = false := by decide) : PE X (.Name x pos) (tC (.ty (tyS t))) := pe_bltn hg hm hv rfl hn hd
def BindsD (K : PySem.W.Frag) (fd : FuncData) (ps : List Str) (ds : List PV) : Prop := ∀ j, j ≤ ds.length → ∃ dvs dz, (∀ r H, RVs K r H (ds.drop j) dvs) ∧ Vals dvs dz ∧ Binds K fd ps dz
theorem BindsD.full {K : PySem.W.Frag} {fd : FuncData} {ps : List Str} {ds : List PV} (h : BindsD K fd ps ds) : Binds K fd ps [] := by
  obtain ⟨dvs, dz, h1, h2, h3⟩ := h ds.length (Nat.le_refl _)
  have h4 := h1 [] (fun _ => none)
  rw [List.drop_length] at h4
  cases h4
  cases h2
  exact h3
theorem BindsD.none {K : PySem.W.Frag} {fd : FuncData} {ps : List Str} (h : Binds K fd ps []) : BindsD K fd ps [] := fun j _ => ⟨[], [], fun _ _ => by rw [List.drop_nil]; exact .nil, .nil, h⟩
def spEv (K : PySem.W.Frag) (cf : CF) (n np : Nat) : Sp := fun vs H Q _ => vs.length = np ∧ ∃ r M xs z M', RH K r M H ∧ RVs K r H xs vs ∧ cf n xs M = some (z, M') ∧ Post K r H z M' Q
def gK (us ws : List Value) : List Value := if us.isEmpty then ws else []
def gKV (us ws : List V) : List V := if us.isEmpty then ws else []
def gI (p : List Nat) (us ws : List Value) : List Value := if us.isEmpty then p.filterMap (ws[·]?) else []
def gM (p : List Nat) (us ws : List Value) : List Value := match us with | [u] => u :: p.filterMap (ws[·]?) | _ => []
def gMV (p : List Nat) (us ws : List V) : List V := match us with | [u] => u :: p.filterMap (ws[·]?) | _ => []
def gIV (p : List Nat) (us ws : List V) : List V := if us.isEmpty then p.filterMap (ws[·]?) else []
def gJ (p : List Nat) (dz us ws : List Value) : List Value := if us.isEmpty then p.filterMap (ws[·]?) ++ dz else []
def gJV (p : List Nat) (dz us ws : List V) : List V := if us.isEmpty then p.filterMap (ws[·]?) ++ dz else []
def KBd (K : PySem.W.Frag) (fd : FuncData) (ps : List Str) (ds : List PV) (q : List Str × List Nat) : Prop :=
  (q.2.length = ps.length → KBinds K fd ps q.1 (gI q.2) (gIV q.2)) ∧
  (q.2.length ≠ ps.length → ∃ dvs dz, (∀ r H, RVs K r H (ds.drop (q.2.length + ds.length - ps.length)) dvs) ∧ Vals dvs dz ∧ KBinds K fd ps q.1 (gJ q.2 dz) (gJV q.2 dvs))
structure OwnP (P : Program) (w : World) (K : PySem.W.Frag) (mg : Str → Option Value) (base : Heap) (A : Around) (cf : CF) (x : Str) (n : Nat) (ps ks : List Str) (p : List Nat) : Prop where
  ex : ∃ k f fd, FnOk P w K mg base CX0 k f fd ps (spEv K cf n ps.length) ∧ Room k A ∧ mg x = some (.ref f) ∧ PySem.W.keepIn K (.ref f) = true ∧ KBinds K fd ps ks (gI p) (gIV p)
  len : ∀ xs M z, cf n xs M = some z → xs.length = ps.length
structure Own (P : Program) (w : World) (K : PySem.W.Frag) (mg : Str → Option Value) (base : Heap) (A : Around) (cf : CF) (x : Str) (n : Nat) (ps : List Str) (kw : Bool) : Prop where
  ex : ∃ k f fd, FnOk P w K mg base CX0 k f fd ps (spEv K cf n ps.length) ∧ Room k A ∧ mg x = some (.ref f) ∧ PySem.W.keepIn K (.ref f) = true ∧ Binds K fd ps [] ∧ (kw = true → KBinds K fd ps ps gK gKV)
  len : ∀ xs M z, cf n xs M = some z → xs.length = ps.length
structure Nm where
  x : Str
  ps : List Str
  kw : Bool
def Calls (P : Program) (w : World) (K : PySem.W.Frag) (mg : Str → Option Value) (base : Heap) (names : List Nm) (cf : CF) (k : Nat) : Prop :=
  ∀ (n : Nat) (nm : Nm), names[n]? = some nm → (∃ f fd, FnOk P w K mg base CX0 k f fd nm.ps (spEv K cf n nm.ps.length) ∧ mg nm.x = some (.ref f) ∧ PySem.W.keepIn K (.ref f) = true ∧ Binds K fd nm.ps [] ∧ (nm.kw = true → KBinds K fd nm.ps nm.ps gK gKV)) ∧
    ∀ xs M z, cf n xs M = some z → xs.length = nm.ps.length
theorem Calls.own {P : Program} {w : World} {K : PySem.W.Frag} {mg : Str → Option Value} {base : Heap} {names : List Nm} {cf : CF} {k : Nat} (C : Calls P w K mg base names cf k) {A : Around} (hr : Room k A) {n : Nat} {x : Str} {ps : List Str} {kw : Bool} (h : names[n]? = some ⟨x, ps, kw⟩) :
    Own P w K mg base A cf x n ps kw := by
  obtain ⟨⟨f, fd, h1, h2, h3, h4, h5⟩, hl⟩ := C n _ h
  exact ⟨⟨k, f, fd, h1, hr, h2, h3, h4, h5⟩, hl⟩
theorem call_red {n : Nat} {np : Nat} {j : Es} {ta : TA} {s : L2.St} {H : Hp} {Q : VK} {E : L2.XK} (hl : ∀ xs M z, cf n xs M = some z → xs.length = np) (hta : ∀ s H Q, TAv X.K (evEs cf j) s H Q → ta s H Q) (q : TEv X.K (evE cf (.call n j)) s H Q) : ta s H fun vs H1 => spEv X.K cf n np vs H1 Q E := by
  obtain ⟨r, sg, M, z, M', hs, hh, ev, q⟩ := q
  simp only [evE] at ev
  split at ev
  · rename_i xs M1 e1
    exact hta _ _ _ ⟨r, sg, M, xs, M1, hs, hh, e1, fun r1 us H1 x1 h1 v1 => ⟨by rw [← v1.length]; exact hl _ _ _ ev, r1, M1, xs, z, M', h1, v1, ev, fun r2 u2 H2 x2 h2 v2 => q r2 u2 H2 (x1.trans x2) h2 v2⟩⟩
  · cases ev
theorem xe_call {x : Str} {n : Nat} {ps : List Str} {kw : Bool} {j : Es} (O : Own X.prog X.w X.K X.mg X.base X.A cf x n ps kw) (hg : Gl X x) (ha : XA X cf (e :: es) j)
    (hdb : (x == ("__debug__" : Str)) = false := by decide) (he : starEach (e :: es) X.env = (false, eval e X.env) :: starEach es X.env := by rfl) (hpl : (backTo pos (starEach es X.env)).any (·.1) = false := by rfl) :
    XE X cf (.Call (.Name x p) (e :: es) [] pos) (.call n j) := by
  obtain ⟨k, f, fd, F, hr, hm, hk, hb, _⟩ := O.ex
  refine pe_imp (pe_call F hr hg hm hk hb .nil pass0 ha hdb he hpl) fun s H Q q => ?_
  have := call_red (E := E0) (np := ps.length) O.len (fun _ _ _ q => q) q
  unfold tCall
  simp only [List.append_nil]
  exact this
theorem xe_call0 {x : Str} {n : Nat} {ps : List Str} {kw : Bool} (O : Own X.prog X.w X.K X.mg X.base X.A cf x n ps kw) (hg : Gl X x)
    (hdb : (x == ("__debug__" : Str)) = false := by decide) : XE X cf (.Call (.Name x p) [] [] pos) (.call n .nil) := by
  obtain ⟨k, f, fd, F, hr, hm, hk, hb, _⟩ := O.ex
  refine pe_imp (pe_call0 F hr hg hm hk hb .nil pass0 hdb) fun s H Q q => ?_
  have := call_red (E := E0) (np := ps.length) (ta := tNil) O.len (fun s H Q q => by
    obtain ⟨r, sg, M, xs, M', hs, hh, ev, q⟩ := q
    simp only [evEs] at ev
    cases ev
    exact q r [] H .refl hh .nil) q
  exact this
def XK (X : Cx) (cf : CF) (ks : List Keyword) (i : Es) : Prop := PK X ks (TAv X.K (evEs cf i))
theorem pk_imp {ks : List Keyword} {t t' : TA} (h : PK X ks t) (k : ∀ s H Q, t' s H Q → t s H Q) : PK X ks t' := ⟨fun p pins s σ H Q I q => h.run p pins s σ H Q I (k _ _ _ q)⟩
theorem xk_nil : XK X cf [] .nil := by
  refine pk_imp pk_nil fun s H Q h => ?_
  obtain ⟨r, sg, M, xs, M', hs, hh, e, q⟩ := h
  simp only [evEs] at e
  cases e
  exact q r [] H .refl hh .nil
theorem xk_cons {nm : Option Str} {kp : Pos} {ks : List Keyword} {j : Es} (h : XE X cf e i) (h2 : XK X cf ks j) : XK X cf (⟨nm, e, kp⟩ :: ks) (.cons i j) := by
  refine pk_imp (pk_cons h h2) fun s H Q h => ?_
  obtain ⟨r, sg, M, ys, M', hs, hh, e, q⟩ := h
  obtain ⟨x, xs, M1, e1, e2, rfl⟩ := evEs_cons e
  exact ⟨r, sg, M, x, M1, hs, hh, e1, fun r1 u1 H1 x1 h1 v1 => ⟨r1, sg, M1, xs, M', hs.ext x1, h1, e2, fun r2 us H2 x2 h2 v2 => q r2 (u1 :: us) H2 (x1.trans x2) h2 (.cons (v1.ext x2) v2)⟩⟩
theorem perm_rvs {K : PySem.W.Frag} {r : List Addr} {H : Hp} {xs : List PV} {vs : List V} (h : RVs K r H xs vs) : ∀ {p : List Nat} {ys : List PV}, permP xs p = some ys → RVs K r H ys (p.filterMap (vs[·]?))
  | [], ys, e => by simp [permP] at e; subst e; exact .nil
  | i :: p, ys, e => by
    unfold permP at e
    rw [List.mapM_cons] at e
    obtain ⟨y, h1, h2⟩ := Option.bind_eq_some_iff.mp e
    obtain ⟨ys', h3, h4⟩ := Option.bind_eq_some_iff.mp h2
    cases h4
    obtain ⟨v, k1, k2⟩ := h.get h1
    rw [List.filterMap_cons, k1]
    exact .cons k2 (perm_rvs h (p := p) h3)
theorem xe_callp {x : Str} {n : Nat} {ps ks : List Str} {pm : List Nat} {kws : List Keyword} {j : Es} (O : OwnP X.prog X.w X.K X.mg X.base X.A cf x n ps ks pm) (hg : Gl X x) (hkw : XK X cf kws j)
    (hall : (backToKw pos (keywordEach kws X.env)).all (·.1.isSome) = true := by rfl) (hks : (backToKw pos (keywordEach kws X.env)).filterMap (·.1) = ks := by rfl)
    (hdb : (x == ("__debug__" : Str)) = false := by decide) (hpl : ((backTo pos (starEach [] X.env)).any (·.1) || (backToKw pos (keywordEach kws X.env)).any (·.1.isNone)) = false := by rfl) :
    XE X cf (.Call (.Name x p) [] kws pos) (.callp n j pm) := by
  obtain ⟨k, f, fd, F, hr, hm, hk, hb⟩ := O.ex
  refine ⟨fun pins s σ H Q I h => ?_⟩
  have h' : TAv X.K (evEs cf j) σ H fun vs H1 => spEv X.K cf n ps.length (gIV pm [] vs) H1 Q E0 := by
    obtain ⟨r, sg, M, z, M', hs, hh, ev, q⟩ := h
    simp only [evE] at ev
    split at ev
    · rename_i xs M1 e1
      obtain ⟨ys, e2, e3⟩ := Option.bind_eq_some_iff.mp ev
      refine ⟨r, sg, M, xs, M1, hs, hh, e1, fun r1 us H1 x1 h1 v1 => ?_⟩
      have v2 : RVs X.K r1 H1 ys (gIV pm [] us) := perm_rvs v1 e2
      exact ⟨by rw [← v2.length]; exact O.len _ _ _ e3, r1, M1, ys, z, M', h1, v2, e3, fun r2 u2 H2 x2 h2 v2 => q r2 u2 H2 (x1.trans x2) h2 v2⟩
    · cases ev
  refine PySem.wpAny_Call_Name_kw (ld_glob I hg hm ?_ hdb)
  refine PySem.W.callWith_KW0 (h₀ := X.base) I.ok.mod.kin hk hall ?_ hpl
  refine thn (hkw.run pos pins s σ H _ I h') fun ws s2 ⟨zs, H2, I2, rz, q2⟩ => ⟨I2.kIn, ?_⟩
  rw [hks]
  exact run_fnk (ks := ks) (us := []) (vs := []) F hr hb pass0 I2 .nil rz q2
theorem rs_start {K : PySem.W.Frag} {r : List Addr} {H : Hp} {N : List Str} {xs : List PV} {vs : List V} {m : Nat} (h : RVs K r H xs vs) (hm : m = N.length - vs.length) : RS K r H (xs.map some ++ List.replicate m none) (L2.start N vs) := by
  subst hm
  refine ⟨by simp [L2.start, h.length], fun i p e => ?_⟩
  by_cases hi : i < xs.length
  · rw [List.getElem?_append_left (by simpa using hi), List.getElem?_map] at e
    obtain ⟨q, e1, e2⟩ := Option.map_eq_some_iff.mp e
    cases e2
    obtain ⟨v, v1, v2⟩ := h.get e1
    refine ⟨v, ?_, v2⟩
    unfold L2.start
    rw [List.getElem?_append_left (by rw [List.length_map, ← h.length]; exact hi), List.getElem?_map, v1]
    rfl
  · rw [List.getElem?_append_right (by simpa using hi)] at e
    rw [List.getElem?_replicate] at e
    split at e <;> cases e
theorem def_ok {P : Program} {w : World} {K : PySem.W.Frag} {mg : Str → Option Value} {base : Heap} {x qual : Str} {params : Arguments} {sts : List Stmt} {sc : Scope} {f : Addr} {fd : FuncData} {N ps : List Str} {k n : Nat} {cf cf' : CF} {d : Df} {dvs : List V} {kws : List (Str × V)} (F : FunD K x qual params sts sc dvs kws f fd) (S : FnScope N ps sc)
    (h1 : d.np = ps.length) (h2 : d.ns = N.length) (hcf : ∀ xs M, cf' n xs M = runD cf d xs M)
    (body : ∀ (cdv : Value) (A : Around) (outer : List Env) (s : Shared) (H : Hp) (E : L2.XK), Room k (A.deeper (PyProof.Rows.envOfC qual sc s.heap.objs.size f cdv)) → XSs (cxOf CX0 P w K mg base N qual sc f cdv A outer s H E).nox cf sts d.body) :
    FnOk P w K mg base CX0 (k + 1) f fd ps (spEv K cf' n ps.length) := by
  refine F.ok S (fun vs H Q E h => h.1) fun cdv A outer s H vs Q E hr h => ⟨_, PSs.nox (body cdv A outer s H E hr), ?_⟩
  obtain ⟨hl, r, M, xs, z, M', hh, hv, ev, q⟩ := h
  rw [hcf] at ev
  unfold runD at ev
  split at ev
  · rename_i hx
    cases e1 : evSs cf d.body (xs.map some ++ List.replicate (d.ns - d.np) none) M with
    | none => rw [e1] at ev; cases ev
    | some o =>
      obtain ⟨fl, M1⟩ := o
      rw [e1] at ev
      refine ⟨r, _, M, fl, M1, rs_start hv (by rw [h2, h1, hl]), hh, e1, fun r1 H1 x1 h1 => ?_⟩
      cases fl with
      | ret v => cases ev; exact fun u hu => q r1 u H1 x1 h1 hu
      | nx sg => cases ev; exact fun s' _ => q r1 _ H1 x1 h1 .non
      | brk sg => cases ev
      | ct sg => cases ev
  · cases ev
theorem fn_zero {P : Program} {w : World} {K : PySem.W.Frag} {mg : Str → Option Value} {base : Heap} {f : Addr} {fd : FuncData} {ps : List Str} {k n : Nat} : FnOk P w K mg base CX0 k f fd ps (spEv K (fun _ _ _ => none) n ps.length) :=
  ⟨fun vs H Q E h => h.1, fun A outer s H args us vs Q E _ _ _ _ h => by
    obtain ⟨_, r, M, xs, z, M', _, _, ev, _⟩ := h
    cases ev⟩
theorem kbinds {K : PySem.W.Frag} {x qual : Str} {params : Arguments} {body : List Stmt} {scope : Scope} {f : Addr} {fd : FuncData} {ps : List Str} (F : FunD K x qual params body scope [] [] f fd) (hp : ps ≠ [])
    (h : ∀ (kV doc pm : Value) (an : Option Addr) (cdv ct : Value) (ws : List Value), ws.length = ps.length → bindArgs (PySem.W.fnOf x qual params body scope .none kV doc pm an cdv ct) ⟨[], ps.zip ws⟩ = pure (ps.zip ws)) : KBinds K fd ps ps gK gKV := by
  obtain ⟨oc, od, dV, kV, doc, pm, an, cdv, ct, osl, rfl, lk, hcd, hD, hK⟩ := F.ex
  rcases hD with ⟨_, rfl⟩ | ⟨e, _⟩
  · refine ⟨fun s us ws _ hl => ?_, fun {vs us zs ws} r1 r2 => ?_⟩
    · cases us with
      | nil => exact .of_eq (h kV doc pm an cdv ct ws hl)
      | cons u us =>
        have : (gK (u :: us) ws).length = 0 := rfl
        rw [this] at hl
        exact absurd (List.length_eq_zero_iff.mp hl.symm) hp
    · cases r1 with
      | nil => exact r2
      | cons _ _ => exact .nil
  · exact absurd rfl e
theorem gI_rel {p : List Nat} : ∀ {zs : List V} {ws : List Value}, Vals zs ws → Vals (p.filterMap (zs[·]?)) (p.filterMap (ws[·]?)) := by
  intro zs ws h
  have key : ∀ i : Nat, (zs[i]? = none ∧ ws[i]? = none) ∨ ∃ z w, zs[i]? = some z ∧ ws[i]? = some w ∧ Vals [z] [w] := by
    induction h with
    | nil => intro i; exact .inl ⟨by simp, by simp⟩
    | cons a _ ih =>
      intro i
      cases i with
      | zero => exact .inr ⟨_, _, rfl, rfl, .cons a .nil⟩
      | succ i => exact ih i
  induction p with
  | nil => exact .nil
  | cons i p ih =>
    rw [List.filterMap_cons, List.filterMap_cons]
    rcases key i with ⟨a, b⟩ | ⟨z, w, a, b, c⟩
    · rw [a, b]; exact ih
    · rw [a, b]
      cases c with
      | cons c _ => exact .cons c ih
theorem fm_all {α : Type} {p : List Nat} {ws : List α} (h : (p.filterMap (ws[·]?)).length = p.length) {i : Nat} (hi : i ∈ p) : i < ws.length := by
  induction p with
  | nil => cases hi
  | cons j p ih =>
    rw [List.filterMap_cons] at h
    cases e : ws[j]? with
    | none =>
      rw [e] at h
      have := List.length_filterMap_le (fun i => ws[i]?) p
      simp at h
      omega
    | some w =>
      rw [e] at h
      rcases List.mem_cons.mp hi with rfl | hi
      · exact (List.getElem?_eq_some_iff.mp e).1
      · exact ih (by simpa using h) hi
theorem kbindsP {K : PySem.W.Frag} {x qual : Str} {params : Arguments} {body : List Stmt} {scope : Scope} {f : Addr} {fd : FuncData} {ps ks : List Str} {p : List Nat} (F : FunD K x qual params body scope [] [] f fd) (hp : ps ≠ []) (hl : p.length = ps.length) {i : Nat} (hi : i ∈ p) (hik : i + 1 = ks.length)
    (h : ∀ (kV doc pm : Value) (an : Option Addr) (cdv ct : Value) (ws : List Value), ks.length ≤ ws.length → bindArgs (PySem.W.fnOf x qual params body scope .none kV doc pm an cdv ct) ⟨[], ks.zip ws⟩ = pure (ps.zip (p.filterMap (ws[·]?)))) : KBinds K fd ps ks (gI p) (gIV p) := by
  obtain ⟨oc, od, dV, kV, doc, pm, an, cdv, ct, osl, rfl, lk, hcd, hD, hK⟩ := F.ex
  rcases hD with ⟨_, rfl⟩ | ⟨e, _⟩
  · refine ⟨fun s us ws _ hl2 => ?_, fun {vs us zs ws} r1 r2 => ?_⟩
    · cases us with
      | nil =>
        have hl3 : (p.filterMap (ws[·]?)).length = p.length := hl2.trans hl.symm
        exact .of_eq (h kV doc pm an cdv ct ws (by have := fm_all hl3 hi; omega))
      | cons u us =>
        have : (gI p (u :: us) ws).length = 0 := rfl
        rw [this] at hl2
        exact absurd (List.length_eq_zero_iff.mp hl2.symm) hp
    · cases r1 with
      | nil => exact gI_rel r2
      | cons _ _ => exact .nil
  · exact absurd rfl e
theorem runD_len {d : Df} {xs : List PV} {M : Mm} {z : PV × Mm} (h : runD cf d xs M = some z) : xs.length = d.np := by
  unfold runD at h
  split at h
  · assumption
  · cases h
end
end Mp
namespace Mp
open PySem L2
theorem ins_of {K : PySem.W.Frag} {r : List Addr} {H : Hp} {M : Mm} {n : Nat} {c : Str} {fs : List (Str × PV)} (h : RH K r M H) (e : insAt M c n = some fs) :
    ∃ a dx vs, r[n]? = some a ∧ H a = some (.ins (He.ga K c) dx vs) ∧ vs.map (·.1) = fs.map (·.1) ∧ RVs K r H (fs.map (·.2)) (vs.map (·.2)) ∧ M[n]? = some (.ins c fs) ∧ H dx = some (.own a) ∧ dx ≠ a := by
  unfold insAt at e
  split at e
  · rename_i d gs e1
    split at e
    · rename_i hd
      cases e
      subst hd
      obtain ⟨a, h1, dx, vs, h2, ho, hn, h3, h4⟩ := h.at e1
      exact ⟨a, dx, vs, h1, h2, h3, h4, e1, ho, hn⟩
    · cases e
  · cases e
section
variable {K : PySem.W.Frag} {r : List Addr} {H : Hp}
theorem look_rel {f : Str} : ∀ {fs : List (Str × PV)} {vs : List (Str × V)}, vs.map (·.1) = fs.map (·.1) → RVs K r H (fs.map (·.2)) (vs.map (·.2)) →
    (∀ v, fs.lookup f = some v → ∃ u, vs.lookup f = some u ∧ RV K r H v u) ∧ (fs.lookup f = none → vs.lookup f = none)
  | [], [], _, _ => ⟨(fun v h => by cases h), fun _ => rfl⟩
  | [], _ :: _, h, _ => by simp at h
  | _ :: _, [], h, _ => by simp at h
  | (g, x) :: fs, (g', y) :: vs, h, hv => by
    simp only [List.map_cons, List.cons.injEq] at h
    obtain ⟨h1, h2⟩ := h
    subst h1
    cases hv with
    | cons hx hs =>
      obtain ⟨i1, i2⟩ := look_rel (f := f) h2 hs
      by_cases e : f = g'
      · have b : (f == g') = true := beq_iff_eq.mpr e
        simp only [List.lookup_cons, b]
        exact ⟨fun v q => by cases q; exact ⟨y, rfl, hx⟩, fun q => by cases q⟩
      · have b : (f == g') = false := beq_eq_false_iff_ne.mpr e
        simp only [List.lookup_cons, b]
        exact ⟨i1, i2⟩
theorem put_rel {f : Str} {x : PV} {u : V} (hx : RV K r H x u) : ∀ {fs : List (Str × PV)} {vs : List (Str × V)}, vs.map (·.1) = fs.map (·.1) → RVs K r H (fs.map (·.2)) (vs.map (·.2)) →
    (putF f u vs).map (·.1) = (putA f x fs).map (·.1) ∧ RVs K r H ((putA f x fs).map (·.2)) ((putF f u vs).map (·.2))
  | [], [], _, _ => ⟨rfl, .cons hx .nil⟩
  | [], _ :: _, h, _ => by simp at h
  | _ :: _, [], h, _ => by simp at h
  | (g, z) :: fs, (g', y) :: vs, h, hv => by
    simp only [List.map_cons, List.cons.injEq] at h
    obtain ⟨h1, h2⟩ := h
    subst h1
    cases hv with
    | cons hy hs =>
      by_cases e : g' = f
      · simp only [putF, putA, if_pos e, List.map_cons]
        exact ⟨by rw [h2], .cons hx hs⟩
      · obtain ⟨i1, i2⟩ := put_rel (f := f) hx h2 hs
        simp only [putF, putA, if_neg e, List.map_cons]
        exact ⟨by rw [i1], .cons hy i2⟩
end
section
variable {X : Cx} {cf : CF} {e a b o value : Expr} {es : List Expr} {i io ia iv : E} {pos pos' p tpos apos : Pos} {c f m : Str}
theorem xe_fld (he : XE X cf e i) (k : Cls X.K (He.ga X.K c)) (n : NoAttr X.K (He.ga X.K c) f) (hb : attributeBase e f X.env (eval e X.env) = eval e X.env := by rfl) : XE X cf (.Attribute e f pos) (.fld c f i) := by
  refine pe_imp (pe_fld he hb) fun s H Q h => ?_
  obtain ⟨r, sg, M, z, M', hs, hh, ev, q⟩ := h
  simp only [evE] at ev
  split at ev
  · rename_i nn M1 e1
    obtain ⟨fs, e2, e3⟩ := Option.bind_eq_some_iff.mp ev
    obtain ⟨v, e4, e5⟩ := Option.map_eq_some_iff.mp e3
    cases e5
    refine ⟨r, sg, M, .ref nn, _, hs, hh, e1, fun r1 u1 H1 x1 h1 v1 => ?_⟩
    obtain ⟨a, dx, vs, g1, g2, g3, g4, _⟩ := ins_of h1 e2
    cases v1 with
    | ref hn =>
      rw [g1] at hn; cases hn
      obtain ⟨u, k1, k2⟩ := (look_rel (f := f) g3 g4).1 _ e4
      exact ⟨_, _, dx, vs, u, rfl, g2, k, n, k1, q r1 u H1 x1 h1 k2⟩
  · cases ev
theorem xs_fset (ha : XE X cf o io) (hv : XE X cf value iv) (k : Cls X.K (He.ga X.K c)) (n : NoAttr X.K (He.ga X.K c) f) (hs : swapsWith value (some (.Attribute o f pos')) pos.line X.env = pure false := by rfl) :
    XS X cf (.Assign [.Attribute o f pos'] value pos) (.fset c f io iv) := by
  refine ps_imp (ps_fld ha hv hs) fun D s H q => ?_
  obtain ⟨r, sg, M, fl, M', hs, hh, ev, q⟩ := q
  simp only [evS] at ev
  split at ev
  · rename_i x M1 e1
    split at ev
    · rename_i nn M2 e2
      split at ev
      · rename_i fs e3
        split at ev
        · rename_i hl
          cases ev
          refine ⟨r, sg, M, x, _, hs, hh, e1, fun r1 u1 H1 x1 h1 v1 => ⟨r1, sg, M1, .ref nn, _, hs.ext x1, h1, e2, fun r2 u2 H2 x2 h2 v2 => ?_⟩⟩
          obtain ⟨a, dx, vs, g1, g2, g3, g4, g5, go, gn⟩ := ins_of h2 e3
          cases v2 with
          | ref hn =>
            rw [g1] at hn; cases hn
            have hlen : vs.length = fs.length := by have := congrArg List.length g3; simpa using this
            refine ⟨_, _, dx, vs, rfl, g2, k, n, by rw [hlen]; exact hl, ?_⟩
            have x3 := ext_set (r := r2) (o := .ins (He.ga X.K c) dx (putF f u1 vs)) g2 trivial (List.mem_of_getElem? g1)
            obtain ⟨p1, p2⟩ := put_rel (f := f) (v1.ext x2) g3 g4
            exact q r2 _ (x1.trans (x2.trans x3)) (h2.set g2 trivial g1 ⟨dx, _, upd_same, by rw [upd_ne gn]; exact go, gn, p1, p2.ext x3⟩) s (hs.ext (x1.trans (x2.trans x3)))
        · cases ev
      · cases ev
    · cases ev
  · cases ev
theorem xs_faug (ha : XE X cf o io) (hv : XE X cf value iv) (k : Cls X.K (He.ga X.K c)) (n : NoAttr X.K (He.ga X.K c) f) : XS X cf (.AugAssign (.Attribute o f tpos) .Add value pos) (.faug c f io iv) := by
  refine ps_imp (ps_fldaug ha hv in_add) fun D s H q => ?_
  obtain ⟨r, sg, M, fl, M', hs, hh, ev, q⟩ := q
  simp only [evS] at ev
  split at ev
  · rename_i nn M1 e1
    split at ev
    · rename_i fs e2
      split at ev
      · rename_i ii e3
        split at ev
        · rename_i jj M2 e4
          split at ev
          · rename_i gs e5
            split at ev
            · rename_i hl
              cases ev
              refine ⟨r, sg, M, .ref nn, _, hs, hh, e1, fun r1 u1 H1 x1 h1 v1 => ?_⟩
              obtain ⟨a, dx, vs, g1, g2, g3, g4, g5⟩ := ins_of h1 e2
              cases v1 with
              | ref hn =>
                rw [g1] at hn; cases hn
                obtain ⟨u, k1, k2⟩ := (look_rel (f := f) g3 g4).1 _ e3
                cases k2
                refine ⟨_, _, dx, vs, _, rfl, g2, k, n, k1, r1, sg, M1, .int jj, _, hs.ext x1, h1, e4, fun r2 u2 H2 x2 h2 v2 => ?_⟩
                cases v2
                obtain ⟨a', dx', vs', g1', g2', g3', g4', g5', go', gn'⟩ := ins_of h2 e5
                have ea := x2.at g1
                rw [g1'] at ea; cases ea
                have hlen : vs'.length = gs.length := by have := congrArg List.length g3'; simpa using this
                refine ⟨ii, jj, rfl, rfl, dx', vs', g2', by rw [hlen]; exact hl, ?_⟩
                have x3 := ext_set (r := r2) (o := .ins (He.ga X.K c) dx' (putF f (.int (ii + jj)) vs')) g2' trivial (List.mem_of_getElem? g1')
                obtain ⟨p1, p2⟩ := put_rel (K := X.K) (r := r2) (H := H2) (f := f) (x := .int (ii + jj)) (.int _) g3' g4'
                exact q r2 _ (x1.trans (x2.trans x3)) (h2.set g2' trivial g1' ⟨dx', _, upd_same, by rw [upd_ne gn']; exact go', gn', p1, p2.ext x3⟩) s (hs.ext (x1.trans (x2.trans x3)))
            · cases ev
          · cases ev
        · cases ev
      · cases ev
    · cases ev
  · cases ev
structure OwnM (P : Program) (w : World) (K : PySem.W.Frag) (mg : Str → Option Value) (base : Heap) (A : Around) (cf : CF) (c m : Str) (n : Nat) (ps : List Str) : Prop where
  ex : ∃ k f fd, FnOk P w K mg base CX0 k f fd ps (spEv K cf n ps.length) ∧ Room k A ∧ Meth K (He.ga K c) m f ∧ Binds K fd ps []
  cl : Cls K (He.ga K c)
  len : ∀ xs M z, cf n xs M = some z → xs.length = ps.length
theorem mc_red {n : Nat} {np : Nat} {j : Es} {ta : TA} {s : L2.St} {H : Hp} {Q : VK} {E : L2.XK} (hl : ∀ xs M z, cf n xs M = some z → xs.length = np) (hta : ∀ s H Q, TAv X.K (evEs cf j) s H Q → ta s H Q) (q : TEv X.K (evE cf (.mc c m n io j)) s H Q) :
    TEv X.K (evE cf io) s H fun x H1 => ∃ a dx fs, x = .ref a ∧ H1 a = some (.ins (He.ga X.K c) dx fs) ∧ fs.lookup m = none ∧ ta s H1 fun vs H2 => spEv X.K cf n np (x :: vs) H2 Q E := by
  obtain ⟨r, sg, M, z, M', hs, hh, ev, q⟩ := q
  simp only [evE] at ev
  split at ev
  · rename_i nn M1 e1
    split at ev
    · rename_i fs e2
      split at ev
      · rename_i e3
        split at ev
        · rename_i xs M2 e4
          refine ⟨r, sg, M, .ref nn, _, hs, hh, e1, fun r1 u1 H1 x1 h1 v1 => ?_⟩
          obtain ⟨a, dx, vs, g1, g2, g3, g4, g5⟩ := ins_of h1 e2
          cases v1 with
          | ref hn =>
            rw [g1] at hn; cases hn
            refine ⟨_, dx, vs, rfl, g2, (look_rel (f := m) g3 g4).2 (by simpa using e3), hta _ _ _ ⟨r1, sg, M1, xs, M2, hs.ext x1, h1, e4, fun r2 us H2 x2 h2 v2 => ?_⟩⟩
            have vv : RVs X.K r2 H2 (.ref nn :: xs) (.ref _ :: us) := .cons (.ref (x2.at g1)) v2
            exact ⟨by rw [← vv.length]; exact hl _ _ _ ev, r2, M2, _, z, M', h2, vv, ev, fun r3 u3 H3 x3 h3 v3 => q r3 u3 H3 (x1.trans (x2.trans x3)) h3 v3⟩
        · cases ev
      · cases ev
    · cases ev
  · cases ev
theorem xe_mc {n : Nat} {ps : List Str} {j : Es} {pl : Sem Bool} (O : OwnM X.prog X.w X.K X.mg X.base X.A cf c m n ps) (ho : XE X cf o io) (ha : XA X cf (e :: es) j)
    (hst : starEach (e :: es) X.env = (false, eval e X.env) :: starEach es X.env := by rfl) (hpl : (backTo pos (starEach es X.env)).any (·.1) = false := by rfl)
    (ht : eval (.Call (.Attribute o m apos) (e :: es) [] pos) X.env = (do
      let ov ← eval o X.env
      standAt apos.atName
      let (f, first) ← holding [ov] (getMethod ov m pl)
      callWith pos f first (backTo pos (starEach (e :: es) X.env)) (backToKw pos (keywordEach [] X.env))) := by rfl) :
    XE X cf (.Call (.Attribute o m apos) (e :: es) [] pos) (.mc c m n io j) := by
  obtain ⟨k, f, fd, F, hr, hm, hb⟩ := O.ex
  refine pe_imp (pe_meth ho O.cl hm F hr hb .nil pass0 ha hst hpl ht) fun s H Q q => ?_
  have := mc_red (E := E0) (np := ps.length) O.len (fun _ _ _ q => q) q
  unfold tMeth
  simp only [List.append_nil]
  exact this
theorem xe_mc0 {n : Nat} {ps : List Str} {pl : Sem Bool} (O : OwnM X.prog X.w X.K X.mg X.base X.A cf c m n ps) (ho : XE X cf o io)
    (ht : eval (.Call (.Attribute o m apos) [] [] pos) X.env = (do
      let ov ← eval o X.env
      standAt apos.atName
      let (f, first) ← holding [ov] (getMethod ov m pl)
      callWith pos f first (backTo pos (starEach [] X.env)) (backToKw pos (keywordEach [] X.env))) := by rfl) :
    XE X cf (.Call (.Attribute o m apos) [] [] pos) (.mc c m n io .nil) := by
  obtain ⟨k, f, fd, F, hr, hm, hb⟩ := O.ex
  refine pe_imp (pe_meth0 ho O.cl hm F hr hb .nil pass0 ht) fun s H Q q => ?_
  have := mc_red (E := E0) (np := ps.length) (ta := tNil) O.len (fun s H Q q => by
    obtain ⟨r, sg, M, xs, M', hs, hh, ev, q⟩ := q
    simp only [evEs] at ev
    cases ev
    exact q r [] H .refl hh .nil) q
  unfold tMeth
  simp only [List.append_nil]
  exact this
structure OwnC (P : Program) (w : World) (K : PySem.W.Frag) (mg : Str → Option Value) (base : Heap) (A : Around) (cf : CF) (c : Str) (n : Nat) (ps : List Str) : Prop where
  ex : (∀ xs M, cf n xs M = none) ∨ ∃ k f fd i cf', FnOk P w K mg base CX0 k f fd ("self" :: ps) (spEv K cf' i (ps.length + 1)) ∧ Room (k + 1) A ∧ Mk K (He.ga K c) f ∧ mg c = some (.ref (He.ga K c)) ∧ Binds K fd ("self" :: ps) [] ∧ (∀ xs M, cf n xs M = mkD cf' c i xs M) ∧ ∀ xs M z, cf' i xs M = some z → xs.length = ps.length + 1
theorem make_red {n i np : Nat} {cf' : CF} {j : Es} {ta : TA} {s : L2.St} {H : Hp} {Q : VK} {E : L2.XK} (hcf : ∀ xs M, cf n xs M = mkD cf' c i xs M) (hl : ∀ xs M z, cf' i xs M = some z → xs.length = np + 1) (hta : ∀ s H Q, TAv X.K (evEs cf j) s H Q → ta s H Q) (q : TEv X.K (evE cf (.call n j)) s H Q) :
    ta s H fun vs H1 => ∀ x dx, H1 x = none → H1 dx = none → dx ≠ x → spEv X.K cf' i (np + 1) (.ref x :: vs) (upd (upd H1 dx (.own x)) x (.ins (He.ga X.K c) dx [])) (fun v H2 => v = .non ∧ Q (.ref x) H2) E := by
  obtain ⟨r, sg, M, z, M', hs, hh, ev, q⟩ := q
  simp only [evE] at ev
  split at ev
  · rename_i xs M1 e1
    rw [hcf] at ev
    unfold mkD at ev
    split at ev
    · rename_i M2 e2
      cases ev
      refine hta _ _ _ ⟨r, sg, M, xs, M1, hs, hh, e1, fun r1 us H1 x1 h1 v1 x dx hx hd ne => ?_⟩
      have xa := ext_new0 (r := r1) (o := .own x) hd
      have ha := h1.other (.own x) hd
      have hx2 : (upd H1 dx (.own x)) x = none := by rw [upd_ne (Ne.symm ne)]; exact hx
      have xb := ext_new (r := r1) (o := .ins (He.ga X.K c) dx []) hx2 [x]
      have hb := ha.new (o := .ins c []) hx2 (ho := .ins (He.ga X.K c) dx []) ⟨dx, [], upd_same, by rw [upd_ne ne]; exact upd_same, ne, rfl, .nil⟩
      have vx : RV X.K (r1 ++ [x]) (upd (upd H1 dx (.own x)) x (.ins (He.ga X.K c) dx [])) (.ref M1.length) (.ref x) := .ref (by rw [← h1.len]; simp)
      have vv : RVs X.K (r1 ++ [x]) (upd (upd H1 dx (.own x)) x (.ins (He.ga X.K c) dx [])) (.ref M1.length :: xs) (.ref x :: us) := .cons vx ((v1.ext xa).ext xb)
      refine ⟨by rw [← vv.length]; exact hl _ _ _ e2, _, _, _, .non, M', hb, vv, e2, fun r2 u2 H2 x2 h2 v2 => ?_⟩
      cases v2
      exact ⟨rfl, q r2 _ H2 (x1.trans (xa.trans (xb.trans x2))) h2 (vx.ext x2)⟩
    · cases ev
  · cases ev
theorem xe_make0 {x : Str} {n : Nat} {ps : List Str} (O : OwnC X.prog X.w X.K X.mg X.base X.A cf x n ps) (hg : Gl X x) (hdb : (x == ("__debug__" : Str)) = false := by decide) :
    XE X cf (.Call (.Name x p) [] [] pos) (.call n .nil) := by
  rcases O.ex with z | ⟨k, f, fd, i, cf', F, hr, hM, hm, hb, hcf, hl⟩
  · refine ⟨fun pins s σ H Q I h => ?_⟩
    obtain ⟨r, sg, M, z', M', hs, hh, ev, q⟩ := h
    simp only [evE] at ev
    split at ev
    · rw [z] at ev; cases ev
    · cases ev
  · refine pe_imp (pe_make0 hM F hr hg hm hb .nil pass0 hdb) fun s H Q q => ?_
    have := make_red (E := E0) (ta := tNil) hcf hl (fun s H Q q => by
      obtain ⟨r, sg, M, xs, M', hs, hh, ev, q⟩ := q
      simp only [evEs] at ev
      cases ev
      exact q r [] H .refl hh .nil) q
    unfold tMake
    simp only [List.append_nil]
    exact this
end
end Mp
namespace Mp
open PySem L2
end Mp
namespace Mp
open PySem PySem.Spec PyProof.Rows L2
end Mp
namespace Mp
open PySem L2
inductive Kd where
  | fn | me (c : Str) | mi (c : Str) | mk
structure Nx where
  kd : Kd
  x : Str
  ps : List Str
  kw : Bool
  ds : List PV
  kp : List (List Str × List Nat)
def Calls2 (P : Program) (w : World) (K : PySem.W.Frag) (mg : Str → Option Value) (base : Heap) (names : List Nx) (cf : CF) (k : Nat) : Prop :=
  ∀ (n : Nat) (nm : Nx), names[n]? = some nm →
    match nm.kd with
    | .fn => (∃ fd, FnOk P w K mg base CX0 k (He.ga K nm.x) fd nm.ps (spEv K cf n nm.ps.length) ∧ mg nm.x = some (.ref (He.ga K nm.x)) ∧ PySem.W.keepIn K (.ref (He.ga K nm.x)) = true ∧ BindsD K fd nm.ps nm.ds ∧ (nm.kw = true → KBinds K fd nm.ps nm.ps gK gKV) ∧ ∀ q ∈ nm.kp, KBd K fd nm.ps nm.ds q) ∧
        ∀ xs M z, cf n xs M = some z → xs.length = nm.ps.length
    | .me c => (∃ f fd, FnOk P w K mg base CX0 k f fd nm.ps (spEv K cf n nm.ps.length) ∧ Meth K (He.ga K c) nm.x f ∧ BindsD K fd nm.ps nm.ds ∧ ∀ q ∈ nm.kp, KBinds K fd nm.ps q.1 (gM q.2) (gMV q.2)) ∧ Cls K (He.ga K c) ∧ ∀ xs M z, cf n xs M = some z → xs.length = nm.ps.length
    | .mi c => (∃ f fd, FnOk P w K mg base CX0 k f fd nm.ps (spEv K cf n nm.ps.length) ∧ Meth K (He.ga K c) nm.x f ∧ BindsD K fd nm.ps nm.ds) ∧ ∀ xs M z, cf n xs M = some z → xs.length = nm.ps.length
    | .mk => (∀ xs M, cf n xs M = none) ∨ ∃ k' f fd i cf', k' + 1 ≤ k ∧ FnOk P w K mg base CX0 k' f fd ("self" :: nm.ps) (spEv K cf' i (nm.ps.length + 1)) ∧ Mk K (He.ga K nm.x) f ∧ mg nm.x = some (.ref (He.ga K nm.x)) ∧ BindsD K fd ("self" :: nm.ps) nm.ds ∧ (∀ q ∈ nm.kp, KBinds K fd ("self" :: nm.ps) q.1 (gM q.2) (gMV q.2)) ∧ (∀ xs M, cf n xs M = mkD cf' nm.x i xs M) ∧ ∀ xs M z, cf' i xs M = some z → xs.length = nm.ps.length + 1
section
variable {P : Program} {w : World} {K : PySem.W.Frag} {mg : Str → Option Value} {base : Heap} {names : List Nx} {cf : CF} {k : Nat} {A : Around} {n : Nat} {x c : Str} {ps : List Str} {kw : Bool} {ds : List PV} {kp : List (List Str × List Nat)}
theorem Calls2.own (C : Calls2 P w K mg base names cf k) (hr : Room k A) (h : names[n]? = some ⟨.fn, x, ps, kw, ds, kp⟩) : Own P w K mg base A cf x n ps kw := by
  obtain ⟨⟨fd, h1, h2, h3, h4, h5⟩, hl⟩ := C n _ h
  exact ⟨⟨k, _, fd, h1, hr, h2, h3, h4.full, h5.1⟩, hl⟩
theorem Calls2.ownP (C : Calls2 P w K mg base names cf k) (hr : Room k A) (h : names[n]? = some ⟨.fn, x, ps, kw, ds, kp⟩) {ks : List Str} {p : List Nat} (hp : (ks, p) ∈ kp) (hpl : p.length = ps.length := by rfl) : OwnP P w K mg base A cf x n ps ks p := by
  obtain ⟨⟨fd, h1, h2, h3, h4, h5⟩, hl⟩ := C n _ h
  exact ⟨⟨k, _, fd, h1, hr, h2, h3, (h5.2 _ hp).1 hpl⟩, hl⟩
theorem Calls2.ownM (C : Calls2 P w K mg base names cf k) (hr : Room k A) (h : names[n]? = some ⟨.me c, x, ps, kw, ds, kp⟩) : OwnM P w K mg base A cf c x n ps := by
  obtain ⟨⟨f, fd, h1, h2, h3, _⟩, hc, hl⟩ := C n _ h
  exact ⟨⟨k, f, fd, h1, hr, h2, h3.full⟩, hc, hl⟩
theorem Calls2.ownC (C : Calls2 P w K mg base names cf k) (hr : Room k A) (h : names[n]? = some ⟨.mk, x, ps, kw, ds, kp⟩) : OwnC P w K mg base A cf x n ps := by
  rcases C n _ h with z | ⟨k', f, fd, i, cf', hk, h1, h2, h3, h4, _, h5, h6⟩
  · exact ⟨.inl z⟩
  · exact ⟨.inr ⟨k', f, fd, i, cf', h1, hr.mono hk, h2, h3, h4.full, h5, h6⟩⟩
end
end Mp
namespace Mp
open PySem L2
def exAll (es : List (PySem.W.Frag → Bool)) (K : PySem.W.Frag) : Bool := es.all fun e => e K
end Mp
namespace Mp
open PySem PySem.SeqAt L2 PySem.Spec PyProof.Rows
open AutoSeq1 (wpAny_loadPart')
open MeetsSeq MeetsSeq2 MeetsSeq3 SeqRoads2
end Mp
namespace Mp
open PySem L2
end Mp
namespace Mp
open PySem PySem.Spec PyProof.Rows L2
end Mp
namespace Mp
open PySem PySem.Spec PyProof.Rows L2
open Sem (wp)
section
variable {K : PySem.W.Frag} {r : List Addr} {M : Mm} {H : Hp} {Q : VK}
def plo (us : List Value) : Obj := { cls := .type "tuple", data := .seq us.toArray }
theorem Post.ptup {xs : List PV} {vs : List V} {us : List Value} {p : Addr} (q : Post K r H (.ptup xs) M Q) (h : RH K r M H) (v : RVs K r H xs vs) (hp : H p = none) : Q (.ref p) (upd H p (.frz (plo us) (.tup vs))) :=
  q r _ _ (ext_new0 hp) (h.other _ hp) (.ptup ⟨_, rfl, rfl, upd_same⟩ (v.ext (ext_new0 hp)))
end
section
variable {X : Cx} {cf : CF} {e : Expr} {es : List Expr} {pos : Pos}
theorem call_tupleP : CallR X (.type "tuple") (fun xs H Q => ∃ p ys, xs = [.ref p] ∧ SqL X.K H p ys ∧ ∀ l us, H l = none → Q (.ref l) (upd H l (.frz (plo us) (.tup ys)))) := by
  intro pins s σ H xs us Q I r h
  obtain ⟨p, ys, rfl, hq, q⟩ := h
  obtain ⟨u, rfl, rx⟩ := vals1 r
  cases rx
  obtain ⟨its, r', pl, hz⟩ := I.list hq
  have hlen := r'.length
  refine call_tuple_list pl.isList (fun h' kp => ?_) (by simp only [List.size_toArray] <;> omega)
  have I1 : Inv X pins σ H { s with heap := h' } := I.kept (t' := s.toks) kp
  have I2 : Inv X pins σ (upd H h'.objs.size (.frz (plo its) (.tup ys))) { s with heap := h'.push { cls := .type "tuple", data := .seq its.toArray } } :=
    I1.laid (t' := s.toks) (fun b o e => Heap.get?_push_of_some _ e) (Nat.le_refl _) (show ObjOk X.prog X.w _ _ _ (.frz (plo its) (.tup ys)) from ⟨Heap.get?_push_size _ rfl, hz, its, r', IsTup.new _ _⟩)
  exact ⟨.ref h'.objs.size, _, I2, rfl, q _ its (I1.hok.fresh (Nat.le_refl _))⟩
theorem cl_ptuple : CallR X (.type "tuple") (RCl X.K fun M => bltP M .ptuple) := by
  intro pins s σ H vs us Q I rv h
  obtain ⟨r, M, xs, z, M', hh, hv, e, q⟩ := h
  match xs, hv, e with
  | [.ref n], hv, e =>
    obtain ⟨v, rfl, hv1⟩ := one_inv (bb := .all) hv rfl
    simp only [bltP] at e
    obtain ⟨ys, e3, e2⟩ := Option.map_eq_some_iff.mp e
    cases e2
    obtain ⟨a, ws, g1, g2, g3⟩ := lst_of hh e3
    have := hv1.refAt g1
    subst this
    exact call_tupleP pins s σ H _ us Q I rv ⟨a, ws, rfl, .inl (.inl g2), fun p us hp => Post.ptup q hh g3 hp⟩
theorem prKV_inv : ∀ {x : PV} {p : Key × PV}, prKV x = some p → ∃ a b key, x = .tup [a, b] ∧ keyOf a = some key ∧ p = (key, b) := by
  intro x p h
  unfold prKV at h
  split at h
  · rename_i a b
    obtain ⟨key, k1, rfl⟩ := Option.map_eq_some_iff.mp h
    exact ⟨a, b, key, rfl, k1, rfl⟩
  · cases h
theorem prs_base {H : Hp} {pins : List (Addr × Obj)} {s : Shared} {σ : L2.St} {r : List Addr} (I : Inv X pins σ H s) : ∀ {xs : List PV} {vs : List V} {its : List Value} {ps : List (Key × PV)}, RVs X.K r H xs vs → Vals vs its → xs.mapM prKV = some ps →
    ∃ (kvs : List (Key × V)) (kws : List (Key × Value)) (pr : List (Value × Value)), kvs.map (·.1) = ps.map (·.1) ∧ RVs X.K r H (ps.map (·.2)) (kvs.map (·.2)) ∧ KV kvs kws ∧ pr.length = its.length ∧ kws.length = pr.length ∧ kvs.length = pr.length ∧
      ∀ (j : Nat) (k v : Value), pr[j]? = some (k, v) → (∃ T, its[j]? = some (.ref T) ∧ PairAt s.heap T k v) ∧ ∃ key, kws[j]? = some (key, v) ∧ (mixKind X.prog X.w).is key k = true
  | [], _, _, _, .nil, .nil, e => by
    simp at e; subst e
    exact ⟨[], [], [], rfl, .nil, by unfold KV; exact .nil, rfl, rfl, rfl, fun j k v h => by simp at h⟩
  | x :: xs, _, _, _, .cons hx hxs, .cons rx rxs, e => by
    rw [List.mapM_cons] at e
    cases e1 : prKV x with
    | none => rw [e1] at e; cases e
    | some p =>
      rw [e1] at e
      cases e2 : xs.mapM prKV with
      | none => rw [e2] at e; cases e
      | some ps =>
        rw [e2] at e
        cases e
        obtain ⟨kvs, kws, pr, i1, i2, i3, i4, i5, i6, i7⟩ := prs_base I hxs rxs e2
        obtain ⟨a, b, key, ex, k1, ep⟩ := prKV_inv e1
        subst ex
        subst ep
        cases hx with
        | @tup _ ad vs2 ht hab =>
          cases hab with
          | @cons _ _ va vs3 ha hb0 =>
            cases hb0 with
            | @cons _ _ vb vs4 hb hn =>
              cases hn
              have hk := keyOf_ok ha k1
              subst hk
              obtain ⟨its2, r2, pl, _⟩ := I.tuple ht
              obtain ⟨u1, u2, rfl, w1, w2⟩ := vals2 r2
              cases rx
              refine ⟨(key, vb) :: kvs, (key, u2) :: kws, (u1, u2) :: pr, by simp [i1], .cons hb i2, ?_, by simp [i4], by simp [i5], by simp [i6], fun j k v h => ?_⟩
              · unfold KV at i3 ⊢
                exact .cons ⟨rfl, w2⟩ i3
              · cases j with
                | zero =>
                  simp at h
                  obtain ⟨rfl, rfl⟩ := h
                  exact ⟨⟨_, rfl, .inl pl⟩, key, rfl, kV_is w1⟩
                | succ j =>
                  obtain ⟨⟨T, h1, h2⟩, key', h3, h4⟩ := i7 j k v (by simpa using h)
                  exact ⟨⟨T, by simpa using h1, h2⟩, key', by simpa using h3, h4⟩
theorem zip_unz {α β : Type} {ps : List (α × β)} : ps = (ps.map (·.1)).zip (ps.map (·.2)) := by
  induction ps with
  | nil => rfl
  | cons p ps ih => simp [← ih]
theorem cl_dictp (hc : X.calm = true) : CallR X (.type "dict") (RCl X.K fun M => bltP M .dictp) := by
  intro pins s σ H vs us Q I rv h
  obtain ⟨r, M, xs, z, M', hh, hv, e, q⟩ := h
  match xs, hv, e with
  | [.ptup xs], hv, e =>
    obtain ⟨v, rfl, hv1⟩ := one_inv (bb := .all) hv rfl
    simp only [bltP] at e
    obtain ⟨ps, e3, e2⟩ := Option.map_eq_some_iff.mp e
    cases e2
    cases hv1 with
    | @ptup _ a ws hp hs =>
      obtain ⟨u, rfl, rx⟩ := vals1 rv
      cases rx
      obtain ⟨o, o1, o2, o3⟩ := hp
      obtain ⟨g1, g2, its, g3, o', g4, g5, n, g6⟩ : s.heap.get? a = some o ∧ ws.length ≤ sizeLine ∧ ∃ its : List Value, Vals ws its ∧ IsTup s.heap a its.toArray := I.hok a _ o3
      rw [g1] at g4
      cases g4
      obtain ⟨kvs, kws, pr, i1, i2, i3, i4, i5, i6, i7⟩ := prs_base I hs g3 e3
      have hPI : PairItems s.heap its.toArray (fun j => match its[j]? with | some (.ref T) => T | _ => 0) pr := by
        refine ⟨by simp [i4], fun j k v hj => ?_⟩
        obtain ⟨⟨T, h1, h2⟩, _⟩ := i7 j k v hj
        simp only [h1]
        exact ⟨by simpa using h1, h2⟩
      have hkv : PairsHave (mixKind X.prog X.w) pr.length (PairRel pr) kws := by
        refine ⟨i5, fun i key v hi => ?_⟩
        obtain ⟨_, k, c1, c2⟩ := i7 i key v hi
        exact ⟨k, c1, c2⟩
      have hle := g3.length
      refine call_dict_pairs (PairArg.tuple a its.toArray _ pr) (I.ok.hd hc) ⟨⟨o, n, g1, o1, o2, g6⟩, hPI⟩ hkv (by omega) fun h'' tk hd hk2 => ?_
      have hm : (s.heap.objs.size == sysModules) = false := beq_eq_false_iff_ne.mpr (Nat.ne_of_gt I.big)
      have hlen : (mergeK [] kvs).length ≤ sizeLine := by
        refine Nat.le_trans (length_mergeK _ []) ?_
        simp
        omega
      have hfr : H s.heap.objs.size = none := I.hok.fresh (Nat.le_refl _)
      obtain ⟨f1, f2⟩ := fold_ok (ks := ps.map (·.1)) (kvs := []) (ws := []) i2 rfl .nil
      have ez : (ps.map (·.1)).zip (kvs.map (·.2)) = kvs := by rw [← i1]; exact (zip_unz (ps := kvs)).symm
      rw [ez, ← zip_unz (ps := ps)] at f1 f2
      have xn := ext_new (r := r) (o := .dK (mergeK [] kvs)) hfr [s.heap.objs.size]
      refine ⟨.ref s.heap.objs.size, upd H s.heap.objs.size (.dK (mergeK [] kvs)), I.laid (t' := tk) (fun c o e => hk2 c o (fun hm => nomatch hm) e) (Nat.le_refl _) (show ObjOk X.prog X.w _ _ _ (.dK (mergeK [] kvs)) from ⟨hlen, hm, merged [] kws, KV.merge i3 .nil, hd⟩), rfl, ?_⟩
      exact q _ _ _ xn (hh.new (o := .dic _) (ho := .dK (mergeK [] kvs)) hfr ⟨_, upd_same, f1, f2.ext xn⟩) (.ref (by rw [← hh.len]; simp))
end
end Mp
namespace Mp
open PySem L2
end Mp
namespace Mp
open PySem L2
end Mp
namespace Mp
open PySem L2 PyProof.Rows
section
variable {X : Cx} {cf : CF} {i ic : E} {pos p : Pos} {elt tg iter : Expr} {ifs : List Expr} {scope : Scope} {own : List (Str × Nat)} {t : Tg} {it : Mp.It}
theorem RH.off {K : PySem.W.Frag} {r : List Addr} {M : Mm} {H : Hp} {D : Addr} {ho o : HO} (h : RH K r M H) (hD : H D = some ho) (hm : Mut (some ho)) (nd : D ∉ r) (hx : Stays ho o := by first | exact ⟨(fun _ _ => ⟨_, rfl⟩), (fun _ z => nomatch z), (fun z => nomatch z)⟩ | exact ⟨(fun _ z => nomatch z), (fun _ z => nomatch z), (fun z => nomatch z)⟩) : RH K r M (upd H D o) := by
  refine h.same ⟨⟨[], by simp⟩, fun b xs e => ?_, fun b q u e => ?_, .upd hD hx, fun b ⟨ps, e, e2⟩ => ?_⟩ fun a ha => upd_ne fun z => nd (z ▸ ha)
  · rw [upd_ne]; exact e
    intro z; subst z; rw [hD] at e; cases e; exact hm
  · rw [upd_ne]; exact e
    intro z; subst z; rw [hD] at e; cases e; exact hm
  · refine ⟨ps, ?_, e2⟩
    rw [upd_ne]; exact e
    intro z; subst z; rw [hD] at e; cases e; exact hm
theorem Ext.off {r r' : List Addr} {H H' : Hp} {D : Addr} {o : HO} (e : Ext r r' H H') (hD : H D = none) (hx : ∃ φ, o = .ext φ := by exact ⟨_, rfl⟩) : Ext r r' H (upd H' D o) := by
  have ne : ∀ {b : Addr} {q : HO}, H b = some q → b ≠ D := fun {b q} h z => by subst z; rw [hD] at h; cases h
  exact ⟨⟨e.pre, fun b xs h => by rw [upd_ne (ne h)]; exact e.tups b xs h, fun b q u h => by rw [upd_ne (ne h)]; exact e.frzs b q u h, ⟨fun b x h => by
    rw [upd_ne (ne h)]
    rcases e.owns.own b x h with z | ⟨z, φ, z2⟩
    · exact .inl z
    · by_cases hxD : x = D
      · obtain ⟨ψ, e2⟩ := hx
        exact .inr ⟨z, ψ, by subst hxD; rw [← e2]; exact upd_same⟩
      · exact .inr ⟨z, φ, by rw [upd_ne hxD]; exact z2⟩, fun b h => by rw [upd_ne (ne h)]; exact e.owns.xd b h, fun b φ h => by rw [upd_ne (ne h)]; exact e.owns.ext b φ h⟩, fun b ⟨ps, h, h2⟩ => by
    obtain ⟨qs, w, w2⟩ := e.tbs b ⟨ps, h, h2⟩
    exact ⟨qs, by rw [upd_ne (ne h)]; exact w, w2⟩⟩, e.fresh, fun b q hb ht hw h => by rw [upd_ne (ne h)]; exact e.oth b q hb ht hw h, fun b q h => by
    obtain ⟨o', h'⟩ := e.live b q h
    exact ⟨o', by rw [upd_ne (ne h)]; exact h'⟩⟩
end
end Mp
namespace Mp
open PySem L2 PyProof.Rows
open PySem.Sem (wp)
end Mp
namespace Mp
open PySem L2
theorem RO.no {K : PySem.W.Frag} {r : List Addr} {H : Hp} {a : Addr} : ∀ {o : Ob}, RO K r H a o → (∀ x, H a ≠ some (.own x)) ∧ H a ≠ some (.xd [])
  | .lst _, ⟨vs, h, _⟩ => by rw [h]; exact ⟨(fun _ z => nomatch z), (fun z => nomatch z)⟩
  | .dic _, ⟨vs, h, _⟩ => by rw [h]; exact ⟨(fun _ z => nomatch z), (fun z => nomatch z)⟩
  | .ins _ _, ⟨dx, vs, h, _⟩ => by rw [h]; exact ⟨(fun _ z => nomatch z), (fun z => nomatch z)⟩
  | .slt _ _, ⟨dx, us, ⟨_, h⟩, _⟩ => by
    rcases h with ⟨h, _⟩ | ⟨_, h, _⟩
    · rw [h]; unfold SlX.SlO; exact ⟨(fun _ z => nomatch z), (fun z => nomatch z)⟩
    · rw [h]; exact ⟨(fun _ z => nomatch z), (fun z => nomatch z)⟩
  | .frz kvs, ⟨_, vs, h, _⟩ => by rw [h]; exact ⟨(fun _ z => nomatch z), (fun z => nomatch z)⟩
def eqV : Option (Option Value) → String → Bool
  | some (some (.builtin b)), s => b == s
  | _, _ => false
end Mp
namespace Mp
open PySem L2
end Mp
namespace Mp
open PySem L2
end Mp
namespace Mp.It
open PySem PySem.Spec PyProof.Rows PySem.W L2 L2.DX
def PairS (h : Heap) (v : Value) (y : Str) (i : Int) : Prop := ∃ (a : Addr) (t u : Tok), v = .ref a ∧ IsTup h a #[.str y t, .int i u]
end Mp.It
namespace Mp
open PySem L2
theorem insS_perm (e : Str × PV) : ∀ l, (insS e l).Perm (e :: l)
  | [] => .refl _
  | f :: r => by
    unfold insS
    split
    · exact .refl _
    · exact ((insS_perm e r).cons f).trans (.swap e f r)
theorem sortS_perm : ∀ l, (sortS l).Perm l
  | [] => .refl _
  | e :: r => (insS_perm e (sortS r)).trans ((sortS_perm r).cons e)
end Mp
namespace Mp
open PySem L2
end Mp
namespace Mp
open PySem L2
end Mp
namespace Mp.It
open PySem PySem.Spec PyProof.Rows PySem.W L2 L2.DX
section
variable {prog : Program} {w : World} {A : Around} {E : Value → Shared → Prop} {s : Shared}
theorem PairS.keeps {h h' : Heap} {v : Value} {y : Str} {i : Int} (x : PairS h v y i) (k : ∀ b o, h.get? b = some o → o.cls = .type "tuple" → h'.get? b = some o) : PairS h' v y i := by
  obtain ⟨a, t, u, e, ⟨o, ho, hc, r⟩⟩ := x
  exact ⟨a, t, u, e, ⟨o, k _ _ ho hc, hc, r⟩⟩
end
end Mp.It
namespace Mp
open PySem L2
end Mp
namespace Mp
open PySem L2 PySem.W
end Mp
namespace Mp
open PySem L2
end Mp
namespace Mp.Ts
open PySem PySem.Spec L2 PyProof.Rows
def txOf (e : Int × Value) : Str := match e.2 with | .str k _ => k | _ => Str.empty
def OkE (w : World) (e : Int × Value) : Prop := ∃ k tk, e.2 = Value.str k tk ∧ e.1 = hashStr w k
structure TxAt (w : World) (h : Heap) (a : Addr) (S : Str → Bool) (n : Nat) (o : Obj) (es : Array (Int × Value)) (ep : Nat) (t : SetTable) : Prop where
  ob : h.get? a = some o
  ex : o.ExactSet
  da : o.data = .set es ep t
  ok : ∀ e ∈ es.toList, OkE w e
  nd : (es.toList.map txOf).Nodup
  mem : ∀ k, S k = true ↔ k ∈ es.toList.map txOf
  sm : es.size < scanBound
  fi : t.fits es.size = true
  sz : es.size = n
  ri : Ris t.place.toList
  ld : w.params.followText "set-order" = true ∨ t.led = true
def TxS (w : World) (h : Heap) (a : Addr) (S : Str → Bool) (n : Nat) : Prop := ∃ o es ep t, TxAt w h a S n o es ep t
section
variable {P : Program} {w : World} {h h' : Heap} {a : Addr} {S : Str → Bool} {n : Nat}
theorem TxS.at (R : TxS w h a S n) (k : ∀ o, h.get? a = some o → h'.get? a = some o) : TxS w h' a S n := by
  obtain ⟨o, es, ep, t, r⟩ := R
  exact ⟨o, es, ep, t, { r with ob := k o r.ob }⟩
end
end Mp.Ts
namespace Mp
open PySem L2 PyProof.Rows
open PySem.Sem (wp)
end Mp
namespace Mp.Ii
open PySem PySem.Spec PyProof.Rows PySem.W L2 L2.DX
end Mp.Ii
namespace Mp
open PySem L2
end Mp
namespace Mp
open PySem L2
section
variable {X : Cx} {cf : CF} {e : Expr} {i : E} {pos : Pos}
def tes (K : PySem.W.Frag) (cf : CF) : Es → List TE
  | .nil => []
  | .cons i j => TEv K (evE cf i) :: tes K cf j
end
end Mp
namespace MpTr0
open PySem
open PySem.Sem (wp)
open PySem.AutoSeq1 (wpAny_loadPart')
section
variable {prog : Program} {w : World} {A : Around} {E : Value → Shared → Prop} {s : Shared}
variable {e it : Addr} {fp : List Addr} {n : Nat} {P : Nat → Value → Prop} {St : Nat → Heap → Prop}
structure Got (h0 h : Heap) (P : Nat → Value → Prop) (L : List (Addr × Nat × Value)) : Prop where
  at_ : ∀ (j : Nat) p, L[j]? = some p → h.get? p.1 = some { cls := .type "tuple", data := .seq #[.int j p.2.1, p.2.2] } ∧ P j p.2.2 ∧ h0.objs.size ≤ p.1
  nd : (L.map (·.1)).Nodup
  keep : ∀ b o, h0.get? b = some o → h.get? b = some o
theorem Got.snoc {h0 h h' : Heap} {L : List (Addr × Nat × Value)} {t : Nat} {x : Value} (g : Got h0 h P L) (k : ∀ b o, b ∉ [e, it] → h.get? b = some o → h'.get? b = some o) (fe : ∀ p ∈ L, p.1 ∉ [e, it]) (f0 : h0.get? e = none) (f1 : h0.get? it = none)
    (new : h'.get? h.objs.size = some { cls := .type "tuple", data := .seq #[.int L.length t, x] }) (px : P L.length x) (hz : h0.objs.size ≤ h.objs.size) : Got h0 h' P (L ++ [(h.objs.size, t, x)]) := by
  refine ⟨fun j p hp => ?_, ?_, fun b o hb => k b o (fun z => ?_) (g.keep b o hb)⟩
  · by_cases hj : j < L.length
    · rw [List.getElem?_append_left hj] at hp
      obtain ⟨a1, a2, a3⟩ := g.at_ j p hp
      exact ⟨k _ _ (fe p (List.mem_of_getElem? hp)) a1, a2, a3⟩
    · have hl := (List.getElem?_eq_some_iff.mp hp).1
      simp at hl
      have : j = L.length := by omega
      subst this
      rw [List.getElem?_append_right (Nat.le_refl _)] at hp
      simp at hp
      subst hp
      exact ⟨new, px, hz⟩
  · rw [List.map_append, List.nodup_append]
    refine ⟨g.nd, by simp, fun a ha b hb => ?_⟩
    have : b = h.objs.size := by simpa using hb
    subst this
    obtain ⟨p, hp, rfl⟩ := List.mem_map.mp ha
    obtain ⟨j, hj⟩ := List.mem_iff_getElem?.mp hp
    exact Nat.ne_of_lt (Heap.lt_size (g.at_ j p hj).1)
  · rcases List.mem_cons.mp z with z | z
    · rw [z, f0] at hb; cases hb
    · rw [List.mem_singleton.mp z, f1] at hb; cases hb
end
end MpTr0
namespace Mp
open PySem PySem.Spec PyProof.Rows L2
end Mp
namespace Mp
open PySem L2
def obsY (as : List Addr) (fa : List He.Fa) (fn : List He.DefD) (ts : List He.Tab) (tf : List He.Defn) (ex : PySem.W.Frag → Bool) (g : Addr → Option Obj) : He.AlX :=
  (He.obsT fa fn ts (He.frT g as), ex (He.frT g as) && He.tabsB g tf (He.frT g as))
theorem saysY_of {as : List Addr} {fa : List He.Fa} {fn : List He.DefD} {ts : List He.Tab} {tf : List He.Defn} {ex : PySem.W.Frag → Bool} {w : World} {h : Heap} (e : obsY as fa fn ts tf ex h.get? = He.valX fn ts w) : He.SaysX fa fn ts tf ex w h (He.frT h.get? as) := by
  have e1 : He.obsT fa fn ts (He.frT h.get? as) = He.valT fn ts w := congrArg (fun z => z.1) e
  have e2 : (ex (He.frT h.get? as) && He.tabsB h.get? tf (He.frT h.get? as)) = true := congrArg (fun z => z.2) e
  obtain ⟨h1, h2⟩ := Bool.and_eq_true_iff.mp e2
  have key : ∀ p ∈ tf, PySem.W.codeHdIn (He.frT h.get? as) (He.cT (He.frT h.get? as) p).1 (He.cT (He.frT h.get? as) p).2 = true ∧ ∃ o, h.get? (He.cT (He.frT h.get? as) p).2 = some o ∧ He.emptyTab o = true := fun p hp => by
    obtain ⟨h3, h4⟩ := Bool.and_eq_true_iff.mp (List.all_eq_true.mp h2 p hp)
    refine ⟨h3, ?_⟩
    cases q : h.get? (He.cT (He.frT h.get? as) p).2 with
    | none => rw [q] at h4; cases h4
    | some o => rw [q] at h4; exact ⟨o, rfl, h4⟩
  refine ⟨e1, h1, fun p hp => (key p hp).1, fun p hp => ?_, fun p hp => ?_⟩
  · obtain ⟨_, o, q, z⟩ := key p hp
    exact He.frT_none q z
  · obtain ⟨_, o, q, z⟩ := key p hp
    rw [q, He.emptyTab_eq z]
def hookY (as : List Addr) (fa : List He.Fa) (fn : List He.DefD) (ts : List He.Tab) (tf : List He.Defn) (ex : PySem.W.Frag → Bool) : PySem.W.Hook where
  α := He.AlX
  obs s := obsY as fa fn ts tf ex s.heap.get?
  val w := He.valX fn ts w
  says w h := ∃ K, K.In h ∧ He.SaysX fa fn ts tf ex w h K
  of w s e := ⟨He.frT s.heap.get? as, He.frT_in, saysY_of e⟩
  keeps w h h' := fun ⟨K, hK, c⟩ k => ⟨K, hK.keeps k, c.t, c.more, c.hd, c.out, fun p hp => k _ _ (c.empty p hp)⟩
theorem obsY_eq {as : List Addr} {fa : List He.Fa} {fn : List He.DefD} {ts : List He.Tab} {tf : List He.Defn} {ex : PySem.W.Frag → Bool} {g : Addr → Option Obj} {s : Shared} (h : ∀ a, g a = s.heap.get? a) : obsY as fa fn ts tf ex g = (hookY as fa fn ts tf ex).obs s := by
  have e := funext h
  rw [e]; rfl
end Mp
namespace Mp
open PySem L2
abbrev i_as_tuples : Nat := 0
abbrev i_with_reads : Nat := 1
abbrev i_l_box : Nat := 2
abbrev i_l_take : Nat := 3
abbrev i_l_of : Nat := 4
abbrev i_l_same : Nat := 5
abbrev i_l_lists : Nat := 6
abbrev i_l_event : Nat := 7
abbrev i_l_moved : Nat := 8
abbrev i_l_table : Nat := 9
abbrev i_l_ended : Nat := 10
abbrev i_l_start : Nat := 11
abbrev i_l_with : Nat := 12
abbrev i_l_free : Nat := 13
abbrev i_l_waited : Nat := 14
abbrev i_l_lagging : Nat := 15
abbrev i_l_some_reads : Nat := 16
abbrev i_l_right : Nat := 17
abbrev i_law : Nat := 18
abbrev i_Course_many : Nat := 20
abbrev i_Course_can : Nat := 21
abbrev i_Course_go : Nat := 22
abbrev i_mk_Course : Nat := 23
abbrev i_as_tuples_p : Nat := 24
def ir_as_tuples : Df := ⟨1, 2, (.cons (.ret (.ite (.isi (.var 0) [.list, .tuple]) (.blt .tuple (.cons (.lc [1] (.name 1) (.seq (.var 0)) (.con (.bl true)) (.call i_as_tuples (.cons (.var 1) .nil))) .nil)) (.var 0))) .nil)⟩
def b1_with_reads : Ss := (.cons (.asg (.name 7) (.ite (.cmp .isin (.var 5) (.var 2)) (.tup (.cons (.con (.str "read")) (.cons (.idx (.var 2) (.var 5)) (.cons (.mc "Course" "many" i_Course_many (.var 3) .nil) .nil)))) (.var 6))) (.cons (.iff (.and (.cmp .eq (.idx (.var 7) (.con (.int 0))) (.con (.str "read"))) (.not (.mc "Course" "can" i_Course_can (.var 3) (.cons (.var 7) .nil)))) (.cons (.asg (.name 7) (.tup (.cons (.con (.str "wait")) .nil))) .nil) .nil) (.cons (.exp (.mc "Course" "go" i_Course_go (.var 3) (.cons (.var 7) .nil))) (.cons (.exp (.mth .append (.var 4) (.cons (.var 7) .nil))) .nil))))
def ir_with_reads : Df := ⟨2, 8, (.cons (.asg (.tup [2, 3, 4]) (.tup (.cons (.blt .dictp (.cons (.call i_as_tuples_p (.cons (.var 1) .nil)) .nil)) (.cons (.call i_mk_Course .nil) (.cons (.lst .nil) .nil))))) (.cons (.for_ (.tup [5, 6]) (.enum (.call i_as_tuples (.cons (.var 0) .nil))) b1_with_reads) (.cons (.ret (.blt .tuple (.cons (.var 4) .nil))) .nil)))⟩
def ir_l_box : Df := ⟨2, 4, (.cons (.asg (.name 2) (.ite (.cmp .lt (.var 1) (.blt .len (.cons (.var 0) .nil))) (.idx (.var 0) (.var 1)) (.con (.int 0)))) (.cons (.asg (.name 3) (.bop .mod (.blt .int (.cons (.bop .mul (.bop .add (.bop .add (.bop .mod (.blt .int (.cons (.var 2) .nil)) (.con (.int 2305843009213693921))) (.bop .mul (.con (.int 40993)) (.var 1))) (.con (.int 59))) (.con (.int 38873))) .nil)) (.con (.int 2147483563)))) (.cons (.ret (.lst (.cons (.bop .mul (.blt .abs (.cons (.var 2) .nil)) (.blt .int (.cons (.cmp .ge (.blt .abs (.cons (.var 2) .nil)) (.bop .pow (.con (.int 10)) (.con (.int 18)))) .nil))) (.cons (.var 3) (.cons (.con (.int 0)) .nil))))) .nil)))⟩
def ir_l_take : Df := ⟨2, 5, (.cons (.iff (.cmp .gt (.idx (.var 0) (.con (.int 0))) (.con (.int 0))) (.cons (.asg (.name 2) (.bop .mod (.blt .int (.cons (.idx (.var 0) (.con (.int 0))) .nil)) (.var 1))) (.cons (.sto (.var 0) (.con (.int 0)) (.bop .fdiv (.idx (.var 0) (.con (.int 0))) (.var 1))) (.cons (.ret (.var 2)) .nil))) .nil) (.cons (.sto (.var 0) (.con (.int 2)) (.bop .add (.idx (.var 0) (.con (.int 2))) (.con (.int 1)))) (.cons (.asg (.name 3) (.bop .mod (.blt .int (.cons (.bop .pow (.bop .add (.idx (.var 0) (.con (.int 1))) (.bop .mul (.con (.int 51767)) (.idx (.var 0) (.con (.int 2))))) (.con (.int 3))) .nil)) (.con (.int 2147483549)))) (.cons (.asg (.name 4) (.bop .add (.bop .mod (.blt .int (.cons (.var 3) .nil)) (.con (.int 30013))) (.con (.int 19)))) (.cons (.ret (.bop .mod (.blt .int (.cons (.bop .fdiv (.bop .mod (.blt .int (.cons (.bop .add (.bop .mul (.var 3) (.var 4)) (.bop .mul (.idx (.var 0) (.con (.int 2))) (.con (.int 7043)))) .nil)) (.con (.int 2147483629))) (.con (.int 32))) .nil)) (.var 1))) .nil)))))⟩
def ir_l_of : Df := ⟨2, 2, (.cons (.ret (.idx (.var 1) (.call i_l_take (.cons (.var 0) (.cons (.blt .len (.cons (.var 1) .nil)) .nil))))) .nil)⟩
def e1_l_same : E := (.call i_l_same (.cons (.var 2) (.cons (.var 3) .nil)))
def ir_l_same : Df := ⟨2, 4, (.cons (.iff (.isi (.var 1) [.list, .tuple]) (.cons (.iff (.cmp .ne (.isi (.var 0) [.list]) (.isi (.var 1) [.list])) (.cons (.ret (.con (.bl false))) .nil) .nil) (.cons (.iff (.cmp .ne (.isi (.var 0) [.tuple]) (.isi (.var 1) [.tuple])) (.cons (.ret (.con (.bl false))) .nil) .nil) (.cons (.ret (.and (.cmp .eq (.blt .len (.cons (.var 0) .nil)) (.blt .len (.cons (.var 1) .nil))) (.blt .all (.cons (.lc [2, 3] (.tup [2, 3]) (.zip (.var 0) (.var 1)) (.con (.bl true)) e1_l_same) .nil)))) .nil))) .nil) (.cons (.iff (.or (.cmp .isN (.var 1) (.con .non)) (.isi (.var 1) [.bool, .str])) (.cons (.ret (.and (.cmp .eq (.var 0) (.var 1)) (.and (.cmp .eq (.isi (.var 0) [.bool]) (.isi (.var 1) [.bool])) (.cmp .eq (.cmp .isN (.var 0) (.con .non)) (.cmp .isN (.var 1) (.con .non)))))) .nil) .nil) (.cons (.ret (.and (.isi (.var 0) [.int]) (.and (.not (.isi (.var 0) [.bool])) (.cmp .eq (.var 0) (.var 1))))) .nil)))⟩
def ir_l_lists : Df := ⟨1, 2, (.cons (.ret (.ite (.isi (.var 0) [.list, .tuple]) (.lc [1] (.name 1) (.seq (.var 0)) (.con (.bl true)) (.call i_l_lists (.cons (.var 1) .nil))) (.var 0))) .nil)⟩
def ir_l_event : Df := ⟨5, 9, (.cons (.asg (.tup [5, 6, 7]) (.tup (.cons (.idx (.var 4) (.call i_l_take (.cons (.var 0) (.cons (.blt .len (.cons (.var 4) .nil)) .nil)))) (.cons (.call i_l_take (.cons (.var 0) (.cons (.var 2) .nil))) (.cons (.call i_l_of (.cons (.var 0) (.cons (.var 3) .nil))) .nil))))) (.cons (.iff (.cmp .eq (.var 5) (.con (.str "p"))) (.cons (.ret (.tup (.cons (.con (.str "put")) (.cons (.var 7) (.cons (.call i_l_take (.cons (.var 0) (.cons (.con (.int 9)) .nil))) .nil))))) .nil) .nil) (.cons (.iff (.cmp .isin (.var 5) (.tup (.cons (.con (.str "d")) (.cons (.con (.str "w")) .nil)))) (.cons (.ret (.ite (.cmp .eq (.var 5) (.con (.str "d"))) (.tup (.cons (.con (.str "drop")) (.cons (.var 7) .nil))) (.tup (.cons (.con (.str "wait")) .nil)))) .nil) .nil) (.cons (.iff (.cmp .eq (.var 5) (.con (.str "j"))) (.cons (.ret (.tup (.cons (.con (.str "join")) (.cons (.var 6) .nil)))) .nil) .nil) (.cons (.iff (.cmp .eq (.var 5) (.con (.str "l"))) (.cons (.ret (.ite (.cmp .ne (.idx (.var 1) (.con (.str "copies"))) (.lst .nil)) (.tup (.cons (.con (.str "load")) (.cons (.var 6) (.cons (.call i_l_take (.cons (.var 0) (.cons (.blt .len (.cons (.idx (.var 1) (.con (.str "copies"))) .nil)) .nil))) .nil)))) (.con .non))) .nil) .nil) (.cons (.iff (.cmp .notin (.var 6) (.idx (.var 1) (.con (.str "seats")))) (.cons (.ret (.tup (.cons (.con (.str "join")) (.cons (.var 6) .nil)))) .nil) .nil) (.cons (.iff (.cmp .eq (.var 5) (.con (.str "s"))) (.cons (.ret (.tup (.cons (.con (.str "save")) (.cons (.var 6) .nil)))) .nil) .nil) (.cons (.asg (.name 8) (.bop .sub (.idx (.var 1) (.con (.str "many"))) (.idx (.idx (.var 1) (.con (.str "seats"))) (.var 6)))) (.cons (.ret (.ite (.cmp .gt (.var 8) (.con (.int 0))) (.tup (.cons (.con (.str "read")) (.cons (.var 6) (.cons (.bop .add (.bop .add (.idx (.idx (.var 1) (.con (.str "seats"))) (.var 6)) (.con (.int 1))) (.call i_l_take (.cons (.var 0) (.cons (.var 8) .nil)))) .nil)))) (.con .non))) .nil)))))))))⟩
def ir_l_moved : Df := ⟨2, 3, (.cons (.asg (.name 2) (.idx (.var 1) (.con (.int 0)))) (.cons (.iff (.cmp .isin (.var 2) (.tup (.cons (.con (.str "put")) (.cons (.con (.str "drop")) .nil)))) (.cons (.sto (.var 0) (.con (.str "many")) (.bop .add (.idx (.var 0) (.con (.str "many"))) (.con (.int 1)))) .nil) (.cons (.iff (.cmp .eq (.var 2) (.con (.str "join"))) (.cons (.sto (.idx (.var 0) (.con (.str "seats"))) (.idx (.var 1) (.con (.int 1))) (.con (.int 0))) .nil) (.cons (.iff (.cmp .eq (.var 2) (.con (.str "read"))) (.cons (.sto (.idx (.var 0) (.con (.str "seats"))) (.idx (.var 1) (.con (.int 1))) (.idx (.var 1) (.con (.int 2)))) .nil) (.cons (.iff (.cmp .eq (.var 2) (.con (.str "save"))) (.cons (.exp (.mth .append (.idx (.var 0) (.con (.str "copies"))) (.cons (.idx (.idx (.var 0) (.con (.str "seats"))) (.idx (.var 1) (.con (.int 1)))) .nil))) .nil) (.cons (.iff (.cmp .eq (.var 2) (.con (.str "load"))) (.cons (.sto (.idx (.var 0) (.con (.str "seats"))) (.idx (.var 1) (.con (.int 1))) (.idx (.idx (.var 0) (.con (.str "copies"))) (.idx (.var 1) (.con (.int 2))))) .nil) .nil) .nil)) .nil)) .nil)) .nil)) .nil))⟩
def b1_l_table : Ss := (.cons (.asg (.name 9) (.call i_l_event (.cons (.var 0) (.cons (.var 7) (.cons (.var 3) (.cons (.var 4) (.cons (.var 5) .nil))))))) (.cons (.asg (.name 10) (.and (.cmp .isNN (.var 9) (.con .non)) (.and (.cmp .isin (.idx (.var 9) (.con (.int 0))) (.tup (.cons (.con (.str "put")) (.cons (.con (.str "drop")) .nil)))) (.cmp .ge (.idx (.var 7) (.con (.str "many"))) (.var 2))))) (.cons (.iff (.and (.cmp .isNN (.var 9) (.con .non)) (.and (.not (.var 10)) (.or (.cmp .ne (.idx (.var 9) (.con (.int 0))) (.con (.str "save"))) (.cmp .lt (.blt .len (.cons (.idx (.var 7) (.con (.str "copies"))) .nil)) (.con (.int 3)))))) (.cons (.exp (.call i_l_moved (.cons (.var 7) (.cons (.var 9) .nil)))) (.cons (.exp (.mth .append (.var 6) (.cons (.var 9) .nil))) .nil)) .nil) .nil)))
def ir_l_table : Df := ⟨6, 11, (.cons (.asg (.tup [6, 7]) (.tup (.cons (.lst .nil) (.cons (.dct [.inr "seats", .inr "copies", .inr "many"] (.cons .dnew (.cons (.lst .nil) (.cons (.con (.int 0)) .nil)))) .nil)))) (.cons (.for_ (.name 8) (.rng1 (.var 1)) b1_l_table) (.cons (.ret (.blt .tuple (.cons (.var 6) .nil))) .nil)))⟩
def c1_l_ended : E := (.cmp .lt (.idx (.idx (.var 1) (.con (.str "seats"))) (.var 3)) (.idx (.var 1) (.con (.str "many"))))
def e2_l_ended : E := (.tup (.cons (.con (.str "read")) (.cons (.var 3) (.cons (.idx (.var 1) (.con (.str "many"))) .nil))))
def b3_l_ended : Ss := (.cons (.exp (.call i_l_moved (.cons (.var 1) (.cons (.var 2) .nil)))) .nil)
def ir_l_ended : Df := ⟨1, 4, (.cons (.asg (.name 1) (.dct [.inr "seats", .inr "copies", .inr "many"] (.cons .dnew (.cons (.lst .nil) (.cons (.con (.int 0)) .nil))))) (.cons (.for_ (.name 2) (.seq (.var 0)) b3_l_ended) (.cons (.ret (.bop .add (.var 0) (.blt .tuple (.cons (.lc [3] (.name 3) (.seq (.blt .sorted (.cons (.idx (.var 1) (.con (.str "seats"))) .nil))) c1_l_ended e2_l_ended) .nil)))) .nil)))⟩
def ir_l_start : Df := ⟨0, 0, (.cons (.ret (.dct [.inr "seats", .inr "copies", .inr "many"] (.cons .dnew (.cons (.lst .nil) (.cons (.con (.int 0)) .nil))))) .nil)⟩
def b1_l_with : Ss := (.cons (.asg (.name 7) (.ite (.cmp .isin (.var 5) (.var 4)) (.tup (.cons (.con (.str "read")) (.cons (.idx (.var 4) (.var 5)) (.cons (.idx (.var 3) (.con (.str "many"))) .nil)))) (.var 6))) (.cons (.iff (.and (.cmp .eq (.idx (.var 7) (.con (.int 0))) (.con (.str "read"))) (.cmp .le (.idx (.var 7) (.con (.int 2))) (.idx (.idx (.var 3) (.con (.str "seats"))) (.idx (.var 7) (.con (.int 1)))))) (.cons (.asg (.name 7) (.tup (.cons (.con (.str "wait")) .nil))) .nil) .nil) (.cons (.exp (.call i_l_moved (.cons (.var 3) (.cons (.var 7) .nil)))) (.cons (.exp (.mth .append (.var 2) (.cons (.var 7) .nil))) .nil))))
def ir_l_with : Df := ⟨2, 8, (.cons (.asg (.tup [2, 3, 4]) (.tup (.cons (.lst .nil) (.cons (.call i_l_start .nil) (.cons (.blt .dictp (.cons (.var 1) .nil)) .nil))))) (.cons (.for_ (.tup [5, 6]) (.enum (.var 0)) b1_l_with) (.cons (.ret (.blt .tuple (.cons (.var 2) .nil))) .nil)))⟩
def b1_l_free : Ss := (.cons (.iff (.cmp .eq (.idx (.var 4) (.con (.int 0))) (.con (.str "wait"))) (.cons (.exp (.mth .append (.var 1) (.cons (.tup (.cons (.var 3) (.cons (.blt .sorted (.cons (.idx (.var 2) (.con (.str "seats"))) .nil)) .nil))) .nil))) .nil) .nil) (.cons (.exp (.call i_l_moved (.cons (.var 2) (.cons (.var 4) .nil)))) .nil))
def ir_l_free : Df := ⟨1, 5, (.cons (.asg (.tup [1, 2]) (.tup (.cons (.lst .nil) (.cons (.call i_l_start .nil) .nil)))) (.cons (.for_ (.tup [3, 4]) (.enum (.var 0)) b1_l_free) (.cons (.ret (.var 1)) .nil)))⟩
def c1_l_waited : E := (.cmp .eq (.idx (.var 7) (.con (.int 0))) (.con (.str "wait")))
def b2_l_waited : Ss := (.cons (.iff (.or (.cmp .ne (.idx (.var 6) (.con (.int 0))) (.con (.str "wait"))) (.cmp .lt (.blt .len (.cons (.lc [7] (.name 7) (.seq (.var 5)) c1_l_waited (.var 7)) .nil)) (.var 2))) (.cons (.exp (.mth .append (.var 5) (.cons (.var 6) .nil))) .nil) .nil) .nil)
def ir_l_waited : Df := ⟨4, 8, (.cons (.asg (.tup [4, 5]) (.tup (.cons (.call i_l_table (.cons (.var 0) (.cons (.var 1) (.cons (.con (.int 4)) (.cons (.var 3) (.cons (.lst (.cons (.con (.str "a")) (.cons (.con (.str "b")) .nil))) (.cons (.con (.str "pppdddrrrrwwwwsl")) .nil))))))) (.cons (.lst .nil) .nil)))) (.cons (.for_ (.name 6) (.seq (.var 4)) b2_l_waited) (.cons (.ret (.ite (.cmp .eq (.call i_l_take (.cons (.var 0) (.cons (.con (.int 2)) .nil))) (.con (.int 0))) (.call i_l_ended (.cons (.blt .tuple (.cons (.var 5) .nil)) .nil)) (.blt .tuple (.cons (.var 5) .nil)))) .nil)))⟩
def ir_l_lagging : Df := ⟨1, 4, (.cons (.asg (.tup [1, 2]) (.tup (.cons (.bop .mul (.lst (.cons (.tup (.cons (.con (.str "wait")) .nil)) .nil)) (.call i_l_take (.cons (.var 0) (.cons (.con (.int 3)) .nil)))) (.cons (.bop .mul (.lst (.cons (.tup (.cons (.con (.str "wait")) .nil)) .nil)) (.bop .add (.con (.int 1)) (.call i_l_take (.cons (.var 0) (.cons (.con (.int 2)) .nil))))) .nil)))) (.cons (.asg (.name 3) (.bop .add (.bop .add (.bop .add (.lst (.cons (.tup (.cons (.con (.str "join")) (.cons (.con (.int 0)) .nil))) (.cons (.tup (.cons (.con (.str "put")) (.cons (.con (.str "a")) (.cons (.call i_l_take (.cons (.var 0) (.cons (.con (.int 9)) .nil))) .nil)))) (.cons (.tup (.cons (.con (.str "read")) (.cons (.con (.int 0)) (.cons (.con (.int 1)) .nil)))) .nil)))) (.var 1)) (.lst (.cons (.tup (.cons (.con (.str "drop")) (.cons (.con (.str "a")) .nil))) .nil))) (.var 2))) (.cons (.iff (.cmp .eq (.call i_l_take (.cons (.var 0) (.cons (.con (.int 2)) .nil))) (.con (.int 0))) (.cons (.asg (.name 3) (.bop .add (.var 3) (.lst (.cons (.tup (.cons (.con (.str "put")) (.cons (.con (.str "b")) (.cons (.con (.int 1)) .nil)))) (.cons (.tup (.cons (.con (.str "read")) (.cons (.con (.int 0)) (.cons (.con (.int 3)) .nil)))) .nil))))) .nil) (.cons (.asg (.name 3) (.bop .add (.bop .add (.bop .add (.slc false true (.var 3) (.con .non) (.con (.int 3))) (.lst (.cons (.tup (.cons (.con (.str "save")) (.cons (.con (.int 0)) .nil))) .nil))) (.slc true false (.var 3) (.con (.int 3)) (.con .non))) (.lst (.cons (.tup (.cons (.con (.str "load")) (.cons (.con (.int 1)) (.cons (.con (.int 0)) .nil)))) (.cons (.tup (.cons (.con (.str "read")) (.cons (.con (.int 0)) (.cons (.con (.int 2)) .nil)))) (.cons (.tup (.cons (.con (.str "read")) (.cons (.con (.int 1)) (.cons (.con (.int 2)) .nil)))) .nil)))))) .nil)) (.cons (.ret (.blt .tuple (.cons (.slc false true (.var 3) (.con .non) (.bop .sub (.blt .len (.cons (.var 3) .nil)) (.blt .int (.cons (.cmp .eq (.call i_l_take (.cons (.var 0) (.cons (.con (.int 3)) .nil))) (.con (.int 0))) .nil)))) .nil))) .nil))))⟩
def b1_l_some_reads : Ss := (.cons (.iff (.and (.cmp .ne (.var 4) (.lst .nil)) (.cmp .gt (.call i_l_take (.cons (.var 0) (.cons (.con (.int 3)) .nil))) (.con (.int 0)))) (.cons (.exp (.mth .append (.var 2) (.cons (.tup (.cons (.var 3) (.cons (.call i_l_of (.cons (.var 0) (.cons (.var 4) .nil))) .nil))) .nil))) .nil) .nil) .nil)
def ir_l_some_reads : Df := ⟨2, 5, (.cons (.asg (.name 2) (.lst .nil)) (.cons (.for_ (.tup [3, 4]) (.seq (.call i_l_free (.cons (.var 1) .nil))) b1_l_some_reads) (.cons (.ret (.blt .ptuple (.cons (.var 2) .nil))) .nil)))⟩
def b1_l_right : Ss := (.cons (.asg (.name 4) (.call i_l_some_reads (.cons (.var 0) (.cons (.var 2) .nil)))) (.cons (.asg (.tup [5, 6]) (.tup (.cons (.call i_l_with (.cons (.var 2) (.cons (.var 4) .nil))) (.cons (.lst (.cons (.call i_l_lists (.cons (.var 2) .nil)) (.cons (.call i_l_lists (.cons (.var 4) .nil)) .nil))) .nil)))) (.cons (.asg (.name 7) (.lst (.cons (.call i_with_reads (.cons (.var 2) (.cons (.var 4) .nil))) (.cons (.call i_with_reads (.cons (.idx (.var 6) (.con (.int 0))) (.cons (.idx (.var 6) (.con (.int 1))) .nil))) .nil)))) (.cons (.exp (.mth .append (.var 7) (.cons (.callp i_with_reads (.cons (.blt .list (.cons (.var 4) .nil)) (.cons (.var 2) .nil)) [1, 0]) .nil))) (.cons (.iff (.or (.not (.call i_l_same (.cons (.var 7) (.cons (.bop .mul (.lst (.cons (.var 5) .nil)) (.con (.int 3))) .nil)))) (.cmp .ne (.var 6) (.lst (.cons (.call i_l_lists (.cons (.var 2) .nil)) (.cons (.call i_l_lists (.cons (.var 4) .nil)) .nil))))) (.cons (.ret (.con (.bl false))) .nil) .nil) .nil)))))
def b2_l_right : Ss := (.cons (.asg (.name 2) (.call i_l_lagging (.cons (.var 0) .nil))) (.cons (.iff (.cmp .gt (.var 1) (.con (.int 0))) (.cons (.asg (.name 2) (.call i_l_waited (.cons (.var 0) (.cons (.bop .add (.con (.int 8)) (.call i_l_take (.cons (.var 0) (.cons (.con (.int 6)) .nil)))) (.cons (.con (.int 4)) (.cons (.bop .add (.con (.int 1)) (.call i_l_take (.cons (.var 0) (.cons (.con (.int 3)) .nil)))) .nil)))))) .nil) .nil) (.cons (.for_ (.name 3) (.rng1 (.con (.int 3))) b1_l_right) (.cons (.iff (.not (.call i_l_same (.cons (.call i_with_reads (.cons (.var 2) (.cons (.tup .nil) .nil))) (.cons (.var 2) .nil)))) (.cons (.ret (.con (.bl false))) .nil) .nil) .nil))))
def ir_l_right : Df := ⟨1, 8, (.cons (.for_ (.name 1) (.rng1 (.con (.int 3))) b2_l_right) (.cons (.ret (.con (.bl true))) .nil))⟩
def e1_law : E := (.call i_l_right (.cons (.call i_l_box (.cons (.var 0) (.cons (.var 1) .nil))) .nil))
def ir_law : Df := ⟨1, 2, (.cons (.ret (.blt .all (.cons (.lc [1] (.name 1) (.rng1 (.bop .add (.con (.int 1)) (.blt .min2 (.cons (.con (.int 2)) (.cons (.blt .len (.cons (.var 0) .nil)) .nil))))) (.con (.bl true)) e1_law) .nil))) .nil)⟩
def ir_Course_init : Df := ⟨1, 1, (.cons (.fset "Course" "own_many" (.var 0) (.con (.int 0))) (.cons (.fset "Course" "own_places" (.var 0) .dnew) (.cons (.fset "Course" "own_copies" (.var 0) (.lst .nil)) .nil)))⟩
def ir_Course_many : Df := ⟨1, 1, (.cons (.ret (.fld "Course" "own_many" (.var 0))) .nil)⟩
def ir_Course_can : Df := ⟨2, 4, (.cons (.iff (.cmp .isin (.idx (.var 1) (.con (.int 0))) (.tup (.cons (.con (.str "put")) (.cons (.con (.str "drop")) (.cons (.con (.str "join")) (.cons (.con (.str "wait")) .nil)))))) (.cons (.ret (.con (.bl true))) .nil) .nil) (.cons (.asg (.tup [2, 3]) (.slc false true (.var 1) (.con .non) (.con (.int 2)))) (.cons (.iff (.cmp .eq (.var 2) (.con (.str "read"))) (.cons (.ret (.and (.cmp .isin (.var 3) (.fld "Course" "own_places" (.var 0))) (.chn .lt .le (.idx (.fld "Course" "own_places" (.var 0)) (.var 3)) (.idx (.var 1) (.con (.int 2))) (.fld "Course" "own_many" (.var 0))))) .nil) .nil) (.cons (.iff (.cmp .eq (.var 2) (.con (.str "save"))) (.cons (.ret (.cmp .isin (.var 3) (.fld "Course" "own_places" (.var 0)))) .nil) .nil) (.cons (.ret (.cmp .lt (.idx (.var 1) (.con (.int 2))) (.blt .len (.cons (.fld "Course" "own_copies" (.var 0)) .nil)))) .nil)))))⟩
def ir_Course_go : Df := ⟨2, 4, (.cons (.iff (.cmp .eq (.idx (.var 1) (.con (.int 0))) (.con (.str "wait"))) (.cons (.ret (.con .non)) .nil) .nil) (.cons (.asg (.tup [2, 3]) (.slc false true (.var 1) (.con .non) (.con (.int 2)))) (.cons (.iff (.cmp .isin (.var 2) (.tup (.cons (.con (.str "put")) (.cons (.con (.str "drop")) .nil)))) (.cons (.faug "Course" "own_many" (.var 0) (.con (.int 1))) .nil) (.cons (.iff (.cmp .eq (.var 2) (.con (.str "join"))) (.cons (.sto (.fld "Course" "own_places" (.var 0)) (.var 3) (.con (.int 0))) .nil) (.cons (.iff (.cmp .eq (.var 2) (.con (.str "read"))) (.cons (.sto (.fld "Course" "own_places" (.var 0)) (.var 3) (.idx (.var 1) (.con (.int 2)))) .nil) (.cons (.iff (.cmp .eq (.var 2) (.con (.str "save"))) (.cons (.exp (.mth .append (.fld "Course" "own_copies" (.var 0)) (.cons (.idx (.fld "Course" "own_places" (.var 0)) (.var 3)) .nil))) .nil) (.cons (.sto (.fld "Course" "own_places" (.var 0)) (.var 3) (.idx (.fld "Course" "own_copies" (.var 0)) (.idx (.var 1) (.con (.int 2))))) .nil)) .nil)) .nil)) .nil)) .nil)))⟩
def ir_as_tuples_p : Df := ⟨1, 2, (.cons (.ret (.ite (.isi (.var 0) [.list, .tuple]) (.blt .ptuple (.cons (.lc [1] (.name 1) (.seq (.var 0)) (.con (.bl true)) (.call i_as_tuples (.cons (.var 1) .nil))) .nil)) (.var 0))) .nil)⟩
def tab : Nat → Option Dx
  | 0 => some (.fn ir_as_tuples)
  | 1 => some (.fn ir_with_reads)
  | 2 => some (.fn ir_l_box)
  | 3 => some (.fn ir_l_take)
  | 4 => some (.fn ir_l_of)
  | 5 => some (.fn ir_l_same)
  | 6 => some (.fn ir_l_lists)
  | 7 => some (.fn ir_l_event)
  | 8 => some (.fn ir_l_moved)
  | 9 => some (.fn ir_l_table)
  | 10 => some (.fn ir_l_ended)
  | 11 => some (.fn ir_l_start)
  | 12 => some (.fn ir_l_with)
  | 13 => some (.fn ir_l_free)
  | 14 => some (.fn ir_l_waited)
  | 15 => some (.fn ir_l_lagging)
  | 16 => some (.fn ir_l_some_reads)
  | 17 => some (.fn ir_l_right)
  | 18 => some (.fn ir_law)
  | 19 => some (.fn ir_Course_init)
  | 20 => some (.fn ir_Course_many)
  | 21 => some (.fn ir_Course_can)
  | 22 => some (.fn ir_Course_go)
  | 23 => some (.mk "Course" 19)
  | 24 => some (.fn ir_as_tuples_p)
  | _ => none
end Mp
namespace Mp
open PySem L2
def topS (i : Nat) : Stmt := PySem.Challenge.pw_missedmarks_k80_reads_in_the_place_of_wa.main.body.getD i (.Pass ⟨0, 0, 0, 0⟩)
abbrev s_as_tuples : Stmt := topS 8
abbrev N_as_tuples : List Str := ["thing", "part"]
theorem S_as_tuples : FnScope N_as_tuples ["thing"] (defScope s_as_tuples) := ⟨rfl, rfl, rfl, by decide +kernel, rfl, by decide +kernel, by decide +kernel⟩
abbrev s_with_reads : Stmt := topS 11
abbrev N_with_reads : List Str := ["timetable", "reads", "wanted", "course", "found", "time", "event", "told"]
theorem S_with_reads : FnScope N_with_reads ["timetable", "reads"] (defScope s_with_reads) := ⟨rfl, rfl, rfl, by decide +kernel, rfl, by decide +kernel, by decide +kernel⟩
abbrev s_l_box : Stmt := topS 13
abbrev N_l_box : List Str := ["_law_script", "_law_lap", "_law_cell", "_law_seed"]
theorem S_l_box : FnScope N_l_box ["_law_script", "_law_lap"] (defScope s_l_box) := ⟨rfl, rfl, rfl, by decide +kernel, rfl, by decide +kernel, by decide +kernel⟩
abbrev s_l_take : Stmt := topS 14
abbrev N_l_take : List Str := ["_law_box_here", "_law_below", "_law_found", "_law_once", "_law_odd"]
theorem S_l_take : FnScope N_l_take ["_law_box_here", "_law_below"] (defScope s_l_take) := ⟨rfl, rfl, rfl, by decide +kernel, rfl, by decide +kernel, by decide +kernel⟩
abbrev s_l_of : Stmt := topS 15
abbrev N_l_of : List Str := ["_law_box_here", "_law_some"]
theorem S_l_of : FnScope N_l_of ["_law_box_here", "_law_some"] (defScope s_l_of) := ⟨rfl, rfl, rfl, by decide +kernel, rfl, by decide +kernel, by decide +kernel⟩
abbrev s_l_same : Stmt := topS 16
abbrev N_l_same : List Str := ["_law_found", "_law_due", "_law_mine", "_law_its"]
theorem S_l_same : FnScope N_l_same ["_law_found", "_law_due"] (defScope s_l_same) := ⟨rfl, rfl, rfl, by decide +kernel, rfl, by decide +kernel, by decide +kernel⟩
abbrev s_l_lists : Stmt := topS 17
abbrev N_l_lists : List Str := ["_law_matter", "_law_bit"]
theorem S_l_lists : FnScope N_l_lists ["_law_matter"] (defScope s_l_lists) := ⟨rfl, rfl, rfl, by decide +kernel, rfl, by decide +kernel, by decide +kernel⟩
abbrev s_l_event : Stmt := topS 18
abbrev N_l_event : List Str := ["_law_box_here", "_law_w", "_law_folk", "_law_names", "_law_words", "_law_way", "_law_p", "_law_key_so", "_law_gap"]
theorem S_l_event : FnScope N_l_event ["_law_box_here", "_law_w", "_law_folk", "_law_names", "_law_words"] (defScope s_l_event) := ⟨rfl, rfl, rfl, by decide +kernel, rfl, by decide +kernel, by decide +kernel⟩
abbrev s_l_moved : Stmt := topS 19
abbrev N_l_moved : List Str := ["_law_w", "_law_event_so", "_law_word"]
theorem S_l_moved : FnScope N_l_moved ["_law_w", "_law_event_so"] (defScope s_l_moved) := ⟨rfl, rfl, rfl, by decide +kernel, rfl, by decide +kernel, by decide +kernel⟩
abbrev s_l_table : Stmt := topS 20
abbrev N_l_table : List Str := ["_law_box_here", "_law_many", "_law_most", "_law_folk", "_law_names", "_law_words", "_law_found", "_law_w", "_law_turn", "_law_event_so", "_law_is_full"]
theorem S_l_table : FnScope N_l_table ["_law_box_here", "_law_many", "_law_most", "_law_folk", "_law_names", "_law_words"] (defScope s_l_table) := ⟨rfl, rfl, rfl, by decide +kernel, rfl, by decide +kernel, by decide +kernel⟩
abbrev s_l_ended : Stmt := topS 21
abbrev N_l_ended : List Str := ["_law_table_here", "_law_w", "_law_event_so", "_law_p"]
theorem S_l_ended : FnScope N_l_ended ["_law_table_here"] (defScope s_l_ended) := ⟨rfl, rfl, rfl, by decide +kernel, rfl, by decide +kernel, by decide +kernel⟩
abbrev s_l_start : Stmt := topS 22
abbrev N_l_start : List Str := []
theorem S_l_start : FnScope N_l_start [] (defScope s_l_start) := ⟨rfl, rfl, rfl, by decide +kernel, rfl, by decide +kernel, by decide +kernel⟩
abbrev s_l_with : Stmt := topS 23
abbrev N_l_with : List Str := ["_law_table_here", "_law_some", "_law_found", "_law_w", "_law_extra", "_law_spot", "_law_event_so", "_law_one_so"]
theorem S_l_with : FnScope N_l_with ["_law_table_here", "_law_some"] (defScope s_l_with) := ⟨rfl, rfl, rfl, by decide +kernel, rfl, by decide +kernel, by decide +kernel⟩
abbrev s_l_free : Stmt := topS 24
abbrev N_l_free : List Str := ["_law_table_here", "_law_found", "_law_w", "_law_spot", "_law_event_so"]
theorem S_l_free : FnScope N_l_free ["_law_table_here"] (defScope s_l_free) := ⟨rfl, rfl, rfl, by decide +kernel, rfl, by decide +kernel, by decide +kernel⟩
abbrev s_l_waited : Stmt := topS 25
abbrev N_l_waited : List Str := ["_law_box_here", "_law_many", "_law_most", "_law_folk", "_law_table_here", "_law_found", "_law_event_so", "_law_one_so"]
theorem S_l_waited : FnScope N_l_waited ["_law_box_here", "_law_many", "_law_most", "_law_folk"] (defScope s_l_waited) := ⟨rfl, rfl, rfl, by decide +kernel, rfl, by decide +kernel, by decide +kernel⟩
abbrev s_l_lagging : Stmt := topS 26
abbrev N_l_lagging : List Str := ["_law_box_here", "_law_early", "_law_late", "_law_found"]
theorem S_l_lagging : FnScope N_l_lagging ["_law_box_here"] (defScope s_l_lagging) := ⟨rfl, rfl, rfl, by decide +kernel, rfl, by decide +kernel, by decide +kernel⟩
abbrev s_l_some_reads : Stmt := topS 27
abbrev N_l_some_reads : List Str := ["_law_box_here", "_law_table_here", "_law_found", "_law_spot", "_law_folk"]
theorem S_l_some_reads : FnScope N_l_some_reads ["_law_box_here", "_law_table_here"] (defScope s_l_some_reads) := ⟨rfl, rfl, rfl, by decide +kernel, rfl, by decide +kernel, by decide +kernel⟩
abbrev s_l_right : Stmt := topS 28
abbrev N_l_right : List Str := ["_law_box_here", "_law_turn", "_law_table_here", "_law_again", "_law_some", "_law_due", "_law_soft", "_law_found"]
theorem S_l_right : FnScope N_l_right ["_law_box_here"] (defScope s_l_right) := ⟨rfl, rfl, rfl, by decide +kernel, rfl, by decide +kernel, by decide +kernel⟩
abbrev s_law : Stmt := topS 29
abbrev N_law : List Str := ["_law_script", "_law_lap"]
theorem S_law : FnScope N_law ["_law_script"] (defScope s_law) := ⟨rfl, rfl, rfl, by decide +kernel, rfl, by decide +kernel, by decide +kernel⟩
abbrev s_Course_init : Stmt := inClass (topS 9) 0
abbrev N_Course_init : List Str := ["self"]
theorem S_Course_init : FnScope N_Course_init ["self"] (defScope s_Course_init) := ⟨rfl, rfl, rfl, by decide +kernel, rfl, by decide +kernel, by decide +kernel⟩
abbrev s_Course_many : Stmt := inClass (topS 9) 1
abbrev N_Course_many : List Str := ["self"]
theorem S_Course_many : FnScope N_Course_many ["self"] (defScope s_Course_many) := ⟨rfl, rfl, rfl, by decide +kernel, rfl, by decide +kernel, by decide +kernel⟩
abbrev s_Course_can : Stmt := inClass (topS 9) 4
abbrev N_Course_can : List Str := ["self", "event", "word", "reader"]
theorem S_Course_can : FnScope N_Course_can ["self", "event"] (defScope s_Course_can) := ⟨rfl, rfl, rfl, by decide +kernel, rfl, by decide +kernel, by decide +kernel⟩
abbrev s_Course_go : Stmt := inClass (topS 9) 5
abbrev N_Course_go : List Str := ["self", "event", "word", "reader"]
theorem S_Course_go : FnScope N_Course_go ["self", "event"] (defScope s_Course_go) := ⟨rfl, rfl, rfl, by decide +kernel, rfl, by decide +kernel, by decide +kernel⟩
def names : List Nx := [⟨.fn, "as_tuples", ["thing"], false, [], []⟩,
  ⟨.fn, "with_reads", ["timetable", "reads"], true, [], [(["reads", "timetable"], [1, 0])]⟩,
  ⟨.fn, "_law_box", ["_law_script", "_law_lap"], false, [], []⟩,
  ⟨.fn, "_law_take", ["_law_box_here", "_law_below"], false, [], []⟩,
  ⟨.fn, "_law_of", ["_law_box_here", "_law_some"], false, [], []⟩,
  ⟨.fn, "_law_same", ["_law_found", "_law_due"], false, [], []⟩,
  ⟨.fn, "_law_lists", ["_law_matter"], false, [], []⟩,
  ⟨.fn, "_law_event", ["_law_box_here", "_law_w", "_law_folk", "_law_names", "_law_words"], false, [], []⟩,
  ⟨.fn, "_law_moved", ["_law_w", "_law_event_so"], false, [], []⟩,
  ⟨.fn, "_law_table", ["_law_box_here", "_law_many", "_law_most", "_law_folk", "_law_names", "_law_words"], false, [], []⟩,
  ⟨.fn, "_law_ended", ["_law_table_here"], false, [], []⟩,
  ⟨.fn, "_law_start", [], false, [], []⟩,
  ⟨.fn, "_law_with", ["_law_table_here", "_law_some"], false, [], []⟩,
  ⟨.fn, "_law_free", ["_law_table_here"], false, [], []⟩,
  ⟨.fn, "_law_waited", ["_law_box_here", "_law_many", "_law_most", "_law_folk"], false, [], []⟩,
  ⟨.fn, "_law_lagging", ["_law_box_here"], false, [], []⟩,
  ⟨.fn, "_law_some_reads", ["_law_box_here", "_law_table_here"], false, [], []⟩,
  ⟨.fn, "_law_right", ["_law_box_here"], false, [], []⟩,
  ⟨.fn, "law", ["_law_script"], false, [], []⟩,
  ⟨.me "Course", "__init__", ["self"], false, [], []⟩,
  ⟨.me "Course", "many", ["self"], false, [], []⟩,
  ⟨.me "Course", "can", ["self", "event"], false, [], []⟩,
  ⟨.me "Course", "go", ["self", "event"], false, [], []⟩,
  ⟨.mk, "Course", [], false, [], []⟩,
  ⟨.fn, "as_tuples", ["thing"], false, [], []⟩]
structure Txt (K : PySem.W.Frag) (w : World) (mg : Str → Option Value) : Prop where
  b_abs : mg "abs" = none
  b_all : mg "all" = none
  b_bool : mg "bool" = none
  b_dict : mg "dict" = none
  b_enumerate : mg "enumerate" = none
  b_int : mg "int" = none
  b_isinstance : mg "isinstance" = none
  b_len : mg "len" = none
  b_list : mg "list" = none
  b_min : mg "min" = none
  b_range : mg "range" = none
  b_sorted : mg "sorted" = none
  b_str : mg "str" = none
  b_tuple : mg "tuple" = none
  b_zip : mg "zip" = none
  c_DROP : ∃ t, mg "DROP" = some (.str "drop" t)
  c_JOIN : ∃ t, mg "JOIN" = some (.str "join" t)
  c_PUT : ∃ t, mg "PUT" = some (.str "put" t)
  c_READ : ∃ t, mg "READ" = some (.str "read" t)
  c_SAVE : ∃ t, mg "SAVE" = some (.str "save" t)
  c_WAIT : ∃ t, mg "WAIT" = some (.str "wait" t)
  cl_Course : Cls K (He.ga K "Course")
  na_Course_own_copies : NoAttr K (He.ga K "Course") "own_copies"
  na_Course_own_many : NoAttr K (He.ga K "Course") "own_many"
  na_Course_own_places : NoAttr K (He.ga K "Course") "own_places"
def d_as_tuples : He.DefD := ⟨("as_tuples", none), "as_tuples", "as_tuples", defArgs s_as_tuples, defBody s_as_tuples, defScope s_as_tuples, [], []⟩
def d_with_reads : He.DefD := ⟨("with_reads", none), "with_reads", "with_reads", defArgs s_with_reads, defBody s_with_reads, defScope s_with_reads, [], []⟩
def d_l_box : He.DefD := ⟨("_law_box", none), "_law_box", "_law_box", defArgs s_l_box, defBody s_l_box, defScope s_l_box, [], []⟩
def d_l_take : He.DefD := ⟨("_law_take", none), "_law_take", "_law_take", defArgs s_l_take, defBody s_l_take, defScope s_l_take, [], []⟩
def d_l_of : He.DefD := ⟨("_law_of", none), "_law_of", "_law_of", defArgs s_l_of, defBody s_l_of, defScope s_l_of, [], []⟩
def d_l_same : He.DefD := ⟨("_law_same", none), "_law_same", "_law_same", defArgs s_l_same, defBody s_l_same, defScope s_l_same, [], []⟩
def d_l_lists : He.DefD := ⟨("_law_lists", none), "_law_lists", "_law_lists", defArgs s_l_lists, defBody s_l_lists, defScope s_l_lists, [], []⟩
def d_l_event : He.DefD := ⟨("_law_event", none), "_law_event", "_law_event", defArgs s_l_event, defBody s_l_event, defScope s_l_event, [], []⟩
def d_l_moved : He.DefD := ⟨("_law_moved", none), "_law_moved", "_law_moved", defArgs s_l_moved, defBody s_l_moved, defScope s_l_moved, [], []⟩
def d_l_table : He.DefD := ⟨("_law_table", none), "_law_table", "_law_table", defArgs s_l_table, defBody s_l_table, defScope s_l_table, [], []⟩
def d_l_ended : He.DefD := ⟨("_law_ended", none), "_law_ended", "_law_ended", defArgs s_l_ended, defBody s_l_ended, defScope s_l_ended, [], []⟩
def d_l_start : He.DefD := ⟨("_law_start", none), "_law_start", "_law_start", defArgs s_l_start, defBody s_l_start, defScope s_l_start, [], []⟩
def d_l_with : He.DefD := ⟨("_law_with", none), "_law_with", "_law_with", defArgs s_l_with, defBody s_l_with, defScope s_l_with, [], []⟩
def d_l_free : He.DefD := ⟨("_law_free", none), "_law_free", "_law_free", defArgs s_l_free, defBody s_l_free, defScope s_l_free, [], []⟩
def d_l_waited : He.DefD := ⟨("_law_waited", none), "_law_waited", "_law_waited", defArgs s_l_waited, defBody s_l_waited, defScope s_l_waited, [], []⟩
def d_l_lagging : He.DefD := ⟨("_law_lagging", none), "_law_lagging", "_law_lagging", defArgs s_l_lagging, defBody s_l_lagging, defScope s_l_lagging, [], []⟩
def d_l_some_reads : He.DefD := ⟨("_law_some_reads", none), "_law_some_reads", "_law_some_reads", defArgs s_l_some_reads, defBody s_l_some_reads, defScope s_l_some_reads, [], []⟩
def d_l_right : He.DefD := ⟨("_law_right", none), "_law_right", "_law_right", defArgs s_l_right, defBody s_l_right, defScope s_l_right, [], []⟩
def d_law : He.DefD := ⟨("law", none), "law", "law", defArgs s_law, defBody s_law, defScope s_law, [], []⟩
def d_Course_init : He.DefD := ⟨("Course", some "__init__"), "__init__", "Course.__init__", defArgs s_Course_init, defBody s_Course_init, defScope s_Course_init, [], []⟩
def d_Course_many : He.DefD := ⟨("Course", some "many"), "many", "Course.many", defArgs s_Course_many, defBody s_Course_many, defScope s_Course_many, [], []⟩
def d_Course_can : He.DefD := ⟨("Course", some "can"), "can", "Course.can", defArgs s_Course_can, defBody s_Course_can, defScope s_Course_can, [], []⟩
def d_Course_go : He.DefD := ⟨("Course", some "go"), "go", "Course.go", defArgs s_Course_go, defBody s_Course_go, defScope s_Course_go, [], []⟩
def fnD : List He.DefD := [d_as_tuples, d_with_reads, d_l_box, d_l_take, d_l_of, d_l_same, d_l_lists, d_l_event, d_l_moved, d_l_table, d_l_ended, d_l_start, d_l_with, d_l_free, d_l_waited, d_l_lagging, d_l_some_reads, d_l_right, d_law, d_Course_init, d_Course_many, d_Course_can, d_Course_go]
def faD : List He.Fa := [.glo "as_tuples", .glo "with_reads", .glo "_law_box", .glo "_law_take", .glo "_law_of", .glo "_law_same", .glo "_law_lists", .glo "_law_event", .glo "_law_moved", .glo "_law_table", .glo "_law_ended", .glo "_law_start", .glo "_law_with", .glo "_law_free", .glo "_law_waited", .glo "_law_lagging", .glo "_law_some_reads", .glo "_law_right", .glo "law", .meth "Course" "__init__", .cls "Course", .meth "Course" "many", .meth "Course" "can", .meth "Course" "go", .mkr "Course", .glo "Course", .free "abs", .free "all", .free "bool", .free "dict", .free "enumerate", .free "int", .free "isinstance", .free "len", .free "list", .free "min", .free "range", .free "sorted", .free "str", .free "tuple", .free "zip", .str "DROP" "drop", .str "JOIN" "join", .str "PUT" "put", .str "READ" "read", .str "SAVE" "save", .str "WAIT" "wait", .noat "Course" "own_copies", .noat "Course" "own_many", .noat "Course" "own_places"]
def tbD : List He.Tab := []
def exD : List (PySem.W.Frag → Bool) := []
def asL : List Addr := 3 :: List.range' 4 1200
abbrev Rw : PySem.W.OpenRow := PySem.W.OpenLaw.row PySem.Challenge.rw_missedmarks_k80_reads_in_the_place_of_wa
abbrev hk : PySem.W.Hook := hookY asL faD fnD tbD tfD (exAll exD)
def ob (s : PySem.W.SharedT) : He.AlX := obsY asL faD fnD tbD tfD (exAll exD) (HandSHeadRun.getT s)
theorem ob_eq (s : PySem.W.SharedT) : ob s = hk.obs s.abs := obsY_eq (HandSHeadRun.getT_eq s)
def looseN : List Str := [("_wall" : Str), ("as_tuples" : Str), ("Course" : Str), ("with_reads" : Str), ("_law_box" : Str), ("_law_take" : Str), ("_law_of" : Str), ("_law_same" : Str), ("_law_lists" : Str), ("_law_event" : Str), ("_law_moved" : Str), ("_law_table" : Str), ("_law_ended" : Str), ("_law_start" : Str), ("_law_with" : Str), ("_law_free" : Str), ("_law_waited" : Str), ("_law_lagging" : Str), ("_law_some_reads" : Str), ("_law_right" : Str), ("DROP" : Str), ("JOIN" : Str), ("PUT" : Str), ("READ" : Str), ("SAVE" : Str), ("WAIT" : Str)]
set_option maxHeartbeats 0 in
theorem headrun0 (w : World) : HandSHeadRun.RunEq Rw (PySem.W.view Rw.prog [29]) hk ob 6000 looseN (w.withFollow "special-get-raises" false) := by
  intro os
  kernel_rfl
set_option maxHeartbeats 0 in
theorem headrun1 (w : World) : HandSHeadRun.RunEq Rw (PySem.W.view Rw.prog [29]) hk ob 6000 looseN (w.withFollow "special-get-raises" true) := by
  intro os
  kernel_rfl
theorem headrun (w : World) : HandSHeadRun.RunEq Rw (PySem.W.view Rw.prog [29]) hk ob 6000 looseN w :=
  PySem.W.byRow2 "special-get-raises" (P := fun w => HandSHeadRun.RunEq Rw (PySem.W.view Rw.prog [29]) hk ob 6000 looseN w) headrun0 headrun1 w
section
variable {P : Program} {w : World} {K : PySem.W.Frag} {mg : Str → Option Value} {base : Heap} {f : Addr} {fd : FuncData} {k : Nat} {cf cf' : CF}
theorem ok_as_tuples (T : Txt K w mg) (C : Calls2 P w K mg base names cf k) {dvs : List V} {kws : List (Str × V)} (F : FunD K "as_tuples" "as_tuples" (defArgs s_as_tuples) (defBody s_as_tuples) (defScope s_as_tuples) dvs kws f fd) (hcf : ∀ xs M, cf' 0 xs M = runD cf ir_as_tuples xs M) :
    FnOk P w K mg base CX0 (k + 1 + 1) f fd ["thing"] (spEv K cf' 0 1) := by
  refine def_ok (k := k + 1) (d := ir_as_tuples) F S_as_tuples rfl rfl hcf fun cdv A outer s H E hr1 => ?_
  have hr := hr1.mono (Nat.le_succ k)
  exact (xss_cons (xs_ret (xe_if (xt_val (xe_isiT (ts := [.list, .tuple]) rfl T.b_isinstance (xe_var 0) (pa_cons (pe_tyN (t := .list) rfl T.b_list (by decide +kernel)) (pa_cons (pe_tyN (t := .tuple) rfl T.b_tuple (by decide +kernel)) pa_nil)) (by decide) (fun _ _ _ h => h))) (xe_bty cl_tuple (by rfl) T.b_tuple (by decide +kernel) (xa_cons (xe_lc (own := [("part", 1)]) rfl S_as_tuples.nd (xi_seq (xe_var 0)) (blkOk_by (own := [("part", 1)]) (N := N_as_tuples) (sc := defScope s_as_tuples) (by decide +kernel)) (fun _ _ _ _ _ => (xg_name 1 S_as_tuples.nd)) (fun _ _ _ _ _ => xts_nil) (fun _ _ _ _ _ => (xe_call (C.own hr (n := 0) rfl) rfl (xa_cons (xe_var 1) xa_nil))) (by decide)) xa_nil)) (xe_var 0))) xss_nil)
theorem ok_with_reads (T : Txt K w mg) (C : Calls2 P w K mg base names cf k) {dvs : List V} {kws : List (Str × V)} (F : FunD K "with_reads" "with_reads" (defArgs s_with_reads) (defBody s_with_reads) (defScope s_with_reads) dvs kws f fd) (hcf : ∀ xs M, cf' 1 xs M = runD cf ir_with_reads xs M) :
    FnOk P w K mg base CX0 (k + 1 + 1) f fd ["timetable", "reads"] (spEv K cf' 1 2) := by
  refine def_ok (k := k + 1) (d := ir_with_reads) F S_with_reads rfl rfl hcf fun cdv A outer s H E hr1 => ?_
  have hr := hr1.mono (Nat.le_succ k)
  exact (xss_cons (xs_par3 (m := 2) (n := 3) (l := 4) rfl S_with_reads.nd rfl rfl rfl (by decide) (by decide) (by decide) rfl rfl rfl (xa_cons (xe_bty (cl_dictp rfl) (by rfl) T.b_dict (by decide +kernel) (xa_cons (xe_call (C.own hr (n := 24) rfl) rfl (xa_cons (xe_var 1) xa_nil)) xa_nil)) (xa_cons (xe_make0 (C.ownC hr (n := 23) rfl) rfl) (xa_cons (xe_lst xa_nil) xa_nil))) (by rfl)) (xss_cons (xs_for PassesOwn.never rfl (xi_enum rfl T.b_enumerate (xe_call (C.own hr (n := 0) rfl) rfl (xa_cons (xe_var 0) xa_nil))) (xg_tup rfl (xgs_cons (xg_name 5 S_with_reads.nd) (xgs_cons (xg_name 6 S_with_reads.nd) xgs_nil))) (xss_cons (xs_asg (xe_if (xt_cmp (opx_in hr.units) (xe_var 5) (xe_var 2) rfl) (xe_tup (xa_cons (xe_gstrE rfl T.c_READ) (xa_cons (xe_idx hr.units (xe_var 2) (xe_var 5) (fun _ _ => rfl)) (xa_cons (xe_mc0 (C.ownM hr (n := 20) rfl) (xe_var 3)) xa_nil)))) (xe_var 6)) (xg_name 7 S_with_reads.nd)) (xss_cons (xs_if (xt_w (xw_and (xt_cmp (opx_eq hr.units) (xe_idx hr.units (xe_var 7) xe_int (fun _ _ => rfl)) (xe_gstrE rfl T.c_READ) (nomark _)) (xw_and1 rfl (xt_not (xt_val (xe_mc (C.ownM hr (n := 21) rfl) (xe_var 3) (xa_cons (xe_var 7) xa_nil))))))) (xss_cons (xs_asg (xe_tup (xa_cons (xe_gstrE rfl T.c_WAIT) xa_nil)) (xg_name 7 S_with_reads.nd)) xss_nil) xss_nil) (xss_cons (xs_exp (xe_mc (C.ownM hr (n := 22) rfl) (xe_var 3) (xa_cons (xe_var 7) xa_nil))) (xss_cons (xs_exp (xe_append (xe_var 4) (xe_var 7))) xss_nil))))) (xss_cons (xs_ret (xe_bty cl_tuple (by rfl) T.b_tuple (by decide +kernel) (xa_cons (xe_var 4) xa_nil))) xss_nil)))
theorem ok_l_box (T : Txt K w mg) (C : Calls2 P w K mg base names cf k) {dvs : List V} {kws : List (Str × V)} (F : FunD K "_law_box" "_law_box" (defArgs s_l_box) (defBody s_l_box) (defScope s_l_box) dvs kws f fd) (hcf : ∀ xs M, cf' 2 xs M = runD cf ir_l_box xs M) :
    FnOk P w K mg base CX0 (k + 1 + 1) f fd ["_law_script", "_law_lap"] (spEv K cf' 2 2) := by
  refine def_ok (k := k + 1) (d := ir_l_box) F S_l_box rfl rfl hcf fun cdv A outer s H E hr1 => ?_
  have hr := hr1.mono (Nat.le_succ k)
  exact (xss_cons (xs_asg (xe_if (xt_cmp opx_lt (xe_var 1) (xe_blt cl_len (by rfl) T.b_len (by decide +kernel) (xa_cons (xe_var 0) xa_nil)) (nomark _)) (xe_idx hr.units (xe_var 0) (xe_var 1) (fun _ _ => rfl)) xe_int) (xg_name 2 S_l_box.nd)) (xss_cons (xs_asg (xe_bop opx_mod (xe_bty cl_int (by rfl) T.b_int (by decide +kernel) (xa_cons (xe_bop opx_mul (xe_bop opx_add (xe_bop opx_add (xe_bop opx_mod (xe_bty cl_int (by rfl) T.b_int (by decide +kernel) (xa_cons (xe_var 2) xa_nil)) xe_int) (xe_bop opx_mul xe_int (xe_var 1))) xe_int) xe_int) xa_nil)) xe_int) (xg_name 3 S_l_box.nd)) (xss_cons (xs_ret (xe_lst (xa_cons (xe_bop opx_mul (xe_blt cl_abs (by rfl) T.b_abs (by decide +kernel) (xa_cons (xe_var 2) xa_nil)) (xe_bty cl_int (by rfl) T.b_int (by decide +kernel) (xa_cons (xe_cmp opx_ge (xe_blt cl_abs (by rfl) T.b_abs (by decide +kernel) (xa_cons (xe_var 2) xa_nil)) (xe_bop opx_pow xe_int xe_int) (nomark _)) xa_nil))) (xa_cons (xe_var 3) (xa_cons xe_int xa_nil))))) xss_nil)))
theorem ok_l_take (T : Txt K w mg) (C : Calls2 P w K mg base names cf k) {dvs : List V} {kws : List (Str × V)} (F : FunD K "_law_take" "_law_take" (defArgs s_l_take) (defBody s_l_take) (defScope s_l_take) dvs kws f fd) (hcf : ∀ xs M, cf' 3 xs M = runD cf ir_l_take xs M) :
    FnOk P w K mg base CX0 (k + 1 + 1) f fd ["_law_box_here", "_law_below"] (spEv K cf' 3 2) := by
  refine def_ok (k := k + 1) (d := ir_l_take) F S_l_take rfl rfl hcf fun cdv A outer s H E hr1 => ?_
  have hr := hr1.mono (Nat.le_succ k)
  exact (xss_cons (xs_if (xt_cmp opx_gt (xe_idx hr.units (xe_var 0) xe_int (fun _ _ => rfl)) xe_int (nomark _)) (xss_cons (xs_asg (xe_bop opx_mod (xe_bty cl_int (by rfl) T.b_int (by decide +kernel) (xa_cons (xe_idx hr.units (xe_var 0) xe_int (fun _ _ => rfl)) xa_nil)) (xe_var 1)) (xg_name 2 S_l_take.nd)) (xss_cons (xs_sto hr.units (xe_bop opx_fdiv (xe_idx hr.units (xe_var 0) xe_int (fun _ _ => rfl)) (xe_var 1)) (xe_var 0) xe_int) (xss_cons (xs_ret (xe_var 2)) xss_nil))) xss_nil) (xss_cons (xs_sto hr.units (xe_bop opx_add (xe_idx hr.units (xe_var 0) xe_int (fun _ _ => rfl)) xe_int) (xe_var 0) xe_int) (xss_cons (xs_asg (xe_bop opx_mod (xe_bty cl_int (by rfl) T.b_int (by decide +kernel) (xa_cons (xe_bop opx_pow (xe_bop opx_add (xe_idx hr.units (xe_var 0) xe_int (fun _ _ => rfl)) (xe_bop opx_mul xe_int (xe_idx hr.units (xe_var 0) xe_int (fun _ _ => rfl)))) xe_int) xa_nil)) xe_int) (xg_name 3 S_l_take.nd)) (xss_cons (xs_asg (xe_bop opx_add (xe_bop opx_mod (xe_bty cl_int (by rfl) T.b_int (by decide +kernel) (xa_cons (xe_var 3) xa_nil)) xe_int) xe_int) (xg_name 4 S_l_take.nd)) (xss_cons (xs_ret (xe_bop opx_mod (xe_bty cl_int (by rfl) T.b_int (by decide +kernel) (xa_cons (xe_bop opx_fdiv (xe_bop opx_mod (xe_bty cl_int (by rfl) T.b_int (by decide +kernel) (xa_cons (xe_bop opx_add (xe_bop opx_mul (xe_var 3) (xe_var 4)) (xe_bop opx_mul (xe_idx hr.units (xe_var 0) xe_int (fun _ _ => rfl)) xe_int)) xa_nil)) xe_int) xe_int) xa_nil)) (xe_var 1))) xss_nil)))))
theorem ok_l_of (T : Txt K w mg) (C : Calls2 P w K mg base names cf k) {dvs : List V} {kws : List (Str × V)} (F : FunD K "_law_of" "_law_of" (defArgs s_l_of) (defBody s_l_of) (defScope s_l_of) dvs kws f fd) (hcf : ∀ xs M, cf' 4 xs M = runD cf ir_l_of xs M) :
    FnOk P w K mg base CX0 (k + 1 + 1) f fd ["_law_box_here", "_law_some"] (spEv K cf' 4 2) := by
  refine def_ok (k := k + 1) (d := ir_l_of) F S_l_of rfl rfl hcf fun cdv A outer s H E hr1 => ?_
  have hr := hr1.mono (Nat.le_succ k)
  exact (xss_cons (xs_ret (xe_idx hr.units (xe_var 1) (xe_call (C.own hr (n := 3) rfl) rfl (xa_cons (xe_var 0) (xa_cons (xe_blt cl_len (by rfl) T.b_len (by decide +kernel) (xa_cons (xe_var 1) xa_nil)) xa_nil))) (fun _ _ => rfl))) xss_nil)
theorem ok_l_same (T : Txt K w mg) (C : Calls2 P w K mg base names cf k) {dvs : List V} {kws : List (Str × V)} (F : FunD K "_law_same" "_law_same" (defArgs s_l_same) (defBody s_l_same) (defScope s_l_same) dvs kws f fd) (hcf : ∀ xs M, cf' 5 xs M = runD cf ir_l_same xs M) :
    FnOk P w K mg base CX0 (k + 1 + 1) f fd ["_law_found", "_law_due"] (spEv K cf' 5 2) := by
  refine def_ok (k := k + 1) (d := ir_l_same) F S_l_same rfl rfl hcf fun cdv A outer s H E hr1 => ?_
  have hr := hr1.mono (Nat.le_succ k)
  exact (xss_cons (xs_if (xt_val (xe_isiT (ts := [.list, .tuple]) rfl T.b_isinstance (xe_var 1) (pa_cons (pe_tyN (t := .list) rfl T.b_list (by decide +kernel)) (pa_cons (pe_tyN (t := .tuple) rfl T.b_tuple (by decide +kernel)) pa_nil)) (by decide) (fun _ _ _ h => h))) (xss_cons (xs_if (xt_cmp (opx_ne hr.units) (xe_isi1 (t := .list) rfl T.b_isinstance (xe_var 0) (pe_tyN (t := .list) rfl T.b_list (by decide +kernel))) (xe_isi1 (t := .list) rfl T.b_isinstance (xe_var 1) (pe_tyN (t := .list) rfl T.b_list (by decide +kernel))) (nomark _)) (xss_cons (xs_ret xe_bl) xss_nil) xss_nil) (xss_cons (xs_if (xt_cmp (opx_ne hr.units) (xe_isi1 (t := .tuple) rfl T.b_isinstance (xe_var 0) (pe_tyN (t := .tuple) rfl T.b_tuple (by decide +kernel))) (xe_isi1 (t := .tuple) rfl T.b_isinstance (xe_var 1) (pe_tyN (t := .tuple) rfl T.b_tuple (by decide +kernel))) (nomark _)) (xss_cons (xs_ret xe_bl) xss_nil) xss_nil) (xss_cons (xs_ret (xe_and (xe_cmp (opx_eq hr.units) (xe_blt cl_len (by rfl) T.b_len (by decide +kernel) (xa_cons (xe_var 0) xa_nil)) (xe_blt cl_len (by rfl) T.b_len (by decide +kernel) (xa_cons (xe_var 1) xa_nil)) (nomark _)) (xe_one (xe_blt (cl_all_ rfl) (by rfl) T.b_all (by decide +kernel) (xa_cons (xe_lc (own := [("_law_mine", 2), ("_law_its", 3)]) rfl S_l_same.nd (xi_zip rfl T.b_zip (xe_var 0) (xe_var 1)) (blkOk_by (own := [("_law_mine", 2), ("_law_its", 3)]) (N := N_l_same) (sc := defScope s_l_same) (by decide +kernel)) (fun _ _ _ _ _ => (xg_tup rfl (xgs_cons (xg_name 2 S_l_same.nd) (xgs_cons (xg_name 3 S_l_same.nd) xgs_nil)))) (fun _ _ _ _ _ => xts_nil) (fun _ _ _ _ _ => (xe_call (C.own hr (n := 5) rfl) rfl (xa_cons (xe_var 2) (xa_cons (xe_var 3) xa_nil)))) (by decide)) xa_nil))))) xss_nil))) xss_nil) (xss_cons (xs_if (xt_w (xw_or (xt_cmp opx_isN (xe_var 1) xe_non (nomark _)) (xw_or1 rfl (xt_val (xe_isiT (ts := [.bool, .str]) rfl T.b_isinstance (xe_var 1) (pa_cons (pe_tyN (t := .bool) rfl T.b_bool (by decide +kernel)) (pa_cons (pe_tyN (t := .str) rfl T.b_str (by decide +kernel)) pa_nil)) (by decide) (fun _ _ _ h => h)))))) (xss_cons (xs_ret (xe_and (xe_cmp (opx_eq hr.units) (xe_var 0) (xe_var 1) (nomark _)) (xe_and (xe_cmp (opx_eq hr.units) (xe_isi1 (t := .bool) rfl T.b_isinstance (xe_var 0) (pe_tyN (t := .bool) rfl T.b_bool (by decide +kernel))) (xe_isi1 (t := .bool) rfl T.b_isinstance (xe_var 1) (pe_tyN (t := .bool) rfl T.b_bool (by decide +kernel))) (nomark _)) (xe_one (xe_cmp (opx_eq hr.units) (xe_cmp opx_isN (xe_var 0) xe_non (nomark _)) (xe_cmp opx_isN (xe_var 1) xe_non (nomark _)) (nomark _)))))) xss_nil) xss_nil) (xss_cons (xs_ret (xe_and (xe_isi1 (t := .int) rfl T.b_isinstance (xe_var 0) (pe_tyN (t := .int) rfl T.b_int (by decide +kernel))) (xe_and (xe_not (xe_isi1 (t := .bool) rfl T.b_isinstance (xe_var 0) (pe_tyN (t := .bool) rfl T.b_bool (by decide +kernel)))) (xe_one (xe_cmp (opx_eq hr.units) (xe_var 0) (xe_var 1) (nomark _)))))) xss_nil)))
theorem ok_l_lists (T : Txt K w mg) (C : Calls2 P w K mg base names cf k) {dvs : List V} {kws : List (Str × V)} (F : FunD K "_law_lists" "_law_lists" (defArgs s_l_lists) (defBody s_l_lists) (defScope s_l_lists) dvs kws f fd) (hcf : ∀ xs M, cf' 6 xs M = runD cf ir_l_lists xs M) :
    FnOk P w K mg base CX0 (k + 1 + 1) f fd ["_law_matter"] (spEv K cf' 6 1) := by
  refine def_ok (k := k + 1) (d := ir_l_lists) F S_l_lists rfl rfl hcf fun cdv A outer s H E hr1 => ?_
  have hr := hr1.mono (Nat.le_succ k)
  exact (xss_cons (xs_ret (xe_if (xt_val (xe_isiT (ts := [.list, .tuple]) rfl T.b_isinstance (xe_var 0) (pa_cons (pe_tyN (t := .list) rfl T.b_list (by decide +kernel)) (pa_cons (pe_tyN (t := .tuple) rfl T.b_tuple (by decide +kernel)) pa_nil)) (by decide) (fun _ _ _ h => h))) (xe_lc (own := [("_law_bit", 1)]) rfl S_l_lists.nd (xi_seq (xe_var 0)) (blkOk_by (own := [("_law_bit", 1)]) (N := N_l_lists) (sc := defScope s_l_lists) (by decide +kernel)) (fun _ _ _ _ _ => (xg_name 1 S_l_lists.nd)) (fun _ _ _ _ _ => xts_nil) (fun _ _ _ _ _ => (xe_call (C.own hr (n := 6) rfl) rfl (xa_cons (xe_var 1) xa_nil))) (by decide)) (xe_var 0))) xss_nil)
theorem ok_l_event (T : Txt K w mg) (C : Calls2 P w K mg base names cf k) {dvs : List V} {kws : List (Str × V)} (F : FunD K "_law_event" "_law_event" (defArgs s_l_event) (defBody s_l_event) (defScope s_l_event) dvs kws f fd) (hcf : ∀ xs M, cf' 7 xs M = runD cf ir_l_event xs M) :
    FnOk P w K mg base CX0 (k + 1 + 1) f fd ["_law_box_here", "_law_w", "_law_folk", "_law_names", "_law_words"] (spEv K cf' 7 5) := by
  refine def_ok (k := k + 1) (d := ir_l_event) F S_l_event rfl rfl hcf fun cdv A outer s H E hr1 => ?_
  have hr := hr1.mono (Nat.le_succ k)
  exact (xss_cons (xs_par3 (m := 5) (n := 6) (l := 7) rfl S_l_event.nd rfl rfl rfl (by decide) (by decide) (by decide) rfl rfl rfl (xa_cons (xe_idx hr.units (xe_var 4) (xe_call (C.own hr (n := 3) rfl) rfl (xa_cons (xe_var 0) (xa_cons (xe_blt cl_len (by rfl) T.b_len (by decide +kernel) (xa_cons (xe_var 4) xa_nil)) xa_nil))) (fun _ _ => rfl)) (xa_cons (xe_call (C.own hr (n := 3) rfl) rfl (xa_cons (xe_var 0) (xa_cons (xe_var 2) xa_nil))) (xa_cons (xe_call (C.own hr (n := 4) rfl) rfl (xa_cons (xe_var 0) (xa_cons (xe_var 3) xa_nil))) xa_nil))) (by rfl)) (xss_cons (xs_if (xt_cmp (opx_eq hr.units) (xe_var 5) xe_str (nomark _)) (xss_cons (xs_ret (xe_tup (xa_cons xe_str (xa_cons (xe_var 7) (xa_cons (xe_call (C.own hr (n := 3) rfl) rfl (xa_cons (xe_var 0) (xa_cons xe_int xa_nil))) xa_nil))))) xss_nil) xss_nil) (xss_cons (xs_if (xt_cmp (opx_in hr.units) (xe_var 5) (xe_tup (xa_cons xe_str (xa_cons xe_str xa_nil))) rfl) (xss_cons (xs_ret (xe_if (xt_cmp (opx_eq hr.units) (xe_var 5) xe_str (nomark _)) (xe_tup (xa_cons xe_str (xa_cons (xe_var 7) xa_nil))) (xe_tup (xa_cons xe_str xa_nil)))) xss_nil) xss_nil) (xss_cons (xs_if (xt_cmp (opx_eq hr.units) (xe_var 5) xe_str (nomark _)) (xss_cons (xs_ret (xe_tup (xa_cons xe_str (xa_cons (xe_var 6) xa_nil)))) xss_nil) xss_nil) (xss_cons (xs_if (xt_cmp (opx_eq hr.units) (xe_var 5) xe_str (nomark _)) (xss_cons (xs_ret (xe_if (xt_cmp (opx_ne hr.units) (xe_idx hr.units (xe_var 1) xe_str (fun _ _ => rfl)) (xe_lst xa_nil) (nomark _)) (xe_tup (xa_cons xe_str (xa_cons (xe_var 6) (xa_cons (xe_call (C.own hr (n := 3) rfl) rfl (xa_cons (xe_var 0) (xa_cons (xe_blt cl_len (by rfl) T.b_len (by decide +kernel) (xa_cons (xe_idx hr.units (xe_var 1) xe_str (fun _ _ => rfl)) xa_nil)) xa_nil))) xa_nil)))) xe_non)) xss_nil) xss_nil) (xss_cons (xs_if (xt_cmp (opx_notin hr.units) (xe_var 6) (xe_idx hr.units (xe_var 1) xe_str (fun _ _ => rfl)) rfl) (xss_cons (xs_ret (xe_tup (xa_cons xe_str (xa_cons (xe_var 6) xa_nil)))) xss_nil) xss_nil) (xss_cons (xs_if (xt_cmp (opx_eq hr.units) (xe_var 5) xe_str (nomark _)) (xss_cons (xs_ret (xe_tup (xa_cons xe_str (xa_cons (xe_var 6) xa_nil)))) xss_nil) xss_nil) (xss_cons (xs_asg (xe_bop opx_sub (xe_idx hr.units (xe_var 1) xe_str (fun _ _ => rfl)) (xe_idx hr.units (xe_idx hr.units (xe_var 1) xe_str (fun _ _ => rfl)) (xe_var 6) (fun _ _ => rfl))) (xg_name 8 S_l_event.nd)) (xss_cons (xs_ret (xe_if (xt_cmp opx_gt (xe_var 8) xe_int (nomark _)) (xe_tup (xa_cons xe_str (xa_cons (xe_var 6) (xa_cons (xe_bop opx_add (xe_bop opx_add (xe_idx hr.units (xe_idx hr.units (xe_var 1) xe_str (fun _ _ => rfl)) (xe_var 6) (fun _ _ => rfl)) xe_int) (xe_call (C.own hr (n := 3) rfl) rfl (xa_cons (xe_var 0) (xa_cons (xe_var 8) xa_nil)))) xa_nil)))) xe_non)) xss_nil)))))))))
theorem ok_l_moved (T : Txt K w mg) (C : Calls2 P w K mg base names cf k) {dvs : List V} {kws : List (Str × V)} (F : FunD K "_law_moved" "_law_moved" (defArgs s_l_moved) (defBody s_l_moved) (defScope s_l_moved) dvs kws f fd) (hcf : ∀ xs M, cf' 8 xs M = runD cf ir_l_moved xs M) :
    FnOk P w K mg base CX0 (k + 1 + 1) f fd ["_law_w", "_law_event_so"] (spEv K cf' 8 2) := by
  refine def_ok (k := k + 1) (d := ir_l_moved) F S_l_moved rfl rfl hcf fun cdv A outer s H E hr1 => ?_
  have hr := hr1.mono (Nat.le_succ k)
  exact (xss_cons (xs_asg (xe_idx hr.units (xe_var 1) xe_int (fun _ _ => rfl)) (xg_name 2 S_l_moved.nd)) (xss_cons (xs_if (xt_cmp (opx_in hr.units) (xe_var 2) (xe_tup (xa_cons xe_str (xa_cons xe_str xa_nil))) rfl) (xss_cons (xs_sto hr.units (xe_bop opx_add (xe_idx hr.units (xe_var 0) xe_str (fun _ _ => rfl)) xe_int) (xe_var 0) xe_str) xss_nil) (xss_cons (xs_if (xt_cmp (opx_eq hr.units) (xe_var 2) xe_str (nomark _)) (xss_cons (xs_sto hr.units xe_int (xe_idx hr.units (xe_var 0) xe_str (fun _ _ => rfl)) (xe_idx hr.units (xe_var 1) xe_int (fun _ _ => rfl))) xss_nil) (xss_cons (xs_if (xt_cmp (opx_eq hr.units) (xe_var 2) xe_str (nomark _)) (xss_cons (xs_sto hr.units (xe_idx hr.units (xe_var 1) xe_int (fun _ _ => rfl)) (xe_idx hr.units (xe_var 0) xe_str (fun _ _ => rfl)) (xe_idx hr.units (xe_var 1) xe_int (fun _ _ => rfl))) xss_nil) (xss_cons (xs_if (xt_cmp (opx_eq hr.units) (xe_var 2) xe_str (nomark _)) (xss_cons (xs_exp (xe_append (xe_idx hr.units (xe_var 0) xe_str (fun _ _ => rfl)) (xe_idx hr.units (xe_idx hr.units (xe_var 0) xe_str (fun _ _ => rfl)) (xe_idx hr.units (xe_var 1) xe_int (fun _ _ => rfl)) (fun _ _ => rfl)))) xss_nil) (xss_cons (xs_if (xt_cmp (opx_eq hr.units) (xe_var 2) xe_str (nomark _)) (xss_cons (xs_sto hr.units (xe_idx hr.units (xe_idx hr.units (xe_var 0) xe_str (fun _ _ => rfl)) (xe_idx hr.units (xe_var 1) xe_int (fun _ _ => rfl)) (fun _ _ => rfl)) (xe_idx hr.units (xe_var 0) xe_str (fun _ _ => rfl)) (xe_idx hr.units (xe_var 1) xe_int (fun _ _ => rfl))) xss_nil) xss_nil) xss_nil)) xss_nil)) xss_nil)) xss_nil)) xss_nil))
theorem ok_l_table (T : Txt K w mg) (C : Calls2 P w K mg base names cf k) {dvs : List V} {kws : List (Str × V)} (F : FunD K "_law_table" "_law_table" (defArgs s_l_table) (defBody s_l_table) (defScope s_l_table) dvs kws f fd) (hcf : ∀ xs M, cf' 9 xs M = runD cf ir_l_table xs M) :
    FnOk P w K mg base CX0 (k + 1 + 1) f fd ["_law_box_here", "_law_many", "_law_most", "_law_folk", "_law_names", "_law_words"] (spEv K cf' 9 6) := by
  refine def_ok (k := k + 1) (d := ir_l_table) F S_l_table rfl rfl hcf fun cdv A outer s H E hr1 => ?_
  have hr := hr1.mono (Nat.le_succ k)
  exact (xss_cons (xs_par2 (m := 6) (n := 7) rfl S_l_table.nd rfl rfl (by decide) rfl rfl (xa_cons (xe_lst xa_nil) (xa_cons (xe_dct (xp_str xe_dnew (xp_str (xe_lst xa_nil) (xp_str xe_int xp_nil))) rfl rfl (fun z => by cases z) (by decide)) xa_nil)) (by rfl)) (xss_cons (xs_for PassesOwn.never rfl (xi_rng1 rfl T.b_range (xe_var 1)) (xg_name 8 S_l_table.nd) (xss_cons (xs_asg (xe_call (C.own hr (n := 7) rfl) rfl (xa_cons (xe_var 0) (xa_cons (xe_var 7) (xa_cons (xe_var 3) (xa_cons (xe_var 4) (xa_cons (xe_var 5) xa_nil)))))) (xg_name 9 S_l_table.nd)) (xss_cons (xs_asg (xe_and (xe_cmp opx_isNN (xe_var 9) xe_non (nomark _)) (xe_and (xe_cmp (opx_in hr.units) (xe_idx hr.units (xe_var 9) xe_int (fun _ _ => rfl)) (xe_tup (xa_cons xe_str (xa_cons xe_str xa_nil))) rfl) (xe_one (xe_cmp opx_ge (xe_idx hr.units (xe_var 7) xe_str (fun _ _ => rfl)) (xe_var 2) (nomark _))))) (xg_name 10 S_l_table.nd)) (xss_cons (xs_if (xt_w (xw_and (xt_cmp opx_isNN (xe_var 9) xe_non (nomark _)) (xw_and (xt_not (xt_val (xe_var 10))) (xw_and1 rfl (xt_w (xw_or (xt_cmp (opx_ne hr.units) (xe_idx hr.units (xe_var 9) xe_int (fun _ _ => rfl)) xe_str (nomark _)) (xw_or1 rfl (xt_cmp opx_lt (xe_blt cl_len (by rfl) T.b_len (by decide +kernel) (xa_cons (xe_idx hr.units (xe_var 7) xe_str (fun _ _ => rfl)) xa_nil)) xe_int (nomark _))))))))) (xss_cons (xs_exp (xe_call (C.own hr (n := 8) rfl) rfl (xa_cons (xe_var 7) (xa_cons (xe_var 9) xa_nil)))) (xss_cons (xs_exp (xe_append (xe_var 6) (xe_var 9))) xss_nil)) xss_nil) xss_nil)))) (xss_cons (xs_ret (xe_bty cl_tuple (by rfl) T.b_tuple (by decide +kernel) (xa_cons (xe_var 6) xa_nil))) xss_nil)))
theorem ok_l_ended (T : Txt K w mg) (C : Calls2 P w K mg base names cf k) {dvs : List V} {kws : List (Str × V)} (F : FunD K "_law_ended" "_law_ended" (defArgs s_l_ended) (defBody s_l_ended) (defScope s_l_ended) dvs kws f fd) (hcf : ∀ xs M, cf' 10 xs M = runD cf ir_l_ended xs M) :
    FnOk P w K mg base CX0 (k + 1 + 1) f fd ["_law_table_here"] (spEv K cf' 10 1) := by
  refine def_ok (k := k + 1) (d := ir_l_ended) F S_l_ended rfl rfl hcf fun cdv A outer s H E hr1 => ?_
  have hr := hr1.mono (Nat.le_succ k)
  exact (xss_cons (xs_asg (xe_dct (xp_str xe_dnew (xp_str (xe_lst xa_nil) (xp_str xe_int xp_nil))) rfl rfl (fun z => by cases z) (by decide)) (xg_name 1 S_l_ended.nd)) (xss_cons (xs_for PassesOwn.never rfl (xi_seq (xe_var 0)) (xg_name 2 S_l_ended.nd) (xss_cons (xs_exp (xe_call (C.own hr (n := 8) rfl) rfl (xa_cons (xe_var 1) (xa_cons (xe_var 2) xa_nil)))) xss_nil)) (xss_cons (xs_ret (xe_bop opx_add (xe_var 0) (xe_bty cl_tuple (by rfl) T.b_tuple (by decide +kernel) (xa_cons (xe_lc (own := [("_law_p", 3)]) rfl S_l_ended.nd (xi_seq (xe_blt (cl_sorted rfl) (by rfl) T.b_sorted (by decide +kernel) (xa_cons (xe_idx hr.units (xe_var 1) xe_str (fun _ _ => rfl)) xa_nil))) (blkOk_by (own := [("_law_p", 3)]) (N := N_l_ended) (sc := defScope s_l_ended) (by decide +kernel)) (fun _ _ _ _ _ => (xg_name 3 S_l_ended.nd)) (fun _ _ _ _ _ => xts_one (xt_cmp opx_lt (xe_idx hr.units (xe_idx hr.units (xe_var 1) xe_str (fun _ _ => rfl)) (xe_var 3) (fun _ _ => rfl)) (xe_idx hr.units (xe_var 1) xe_str (fun _ _ => rfl)) (nomark _))) (fun _ _ _ _ _ => (xe_tup (xa_cons xe_str (xa_cons (xe_var 3) (xa_cons (xe_idx hr.units (xe_var 1) xe_str (fun _ _ => rfl)) xa_nil))))) (by decide)) xa_nil)))) xss_nil)))
theorem ok_l_start (T : Txt K w mg) (C : Calls2 P w K mg base names cf k) {dvs : List V} {kws : List (Str × V)} (F : FunD K "_law_start" "_law_start" (defArgs s_l_start) (defBody s_l_start) (defScope s_l_start) dvs kws f fd) (hcf : ∀ xs M, cf' 11 xs M = runD cf ir_l_start xs M) :
    FnOk P w K mg base CX0 (k + 1 + 1) f fd [] (spEv K cf' 11 0) := by
  refine def_ok (k := k + 1) (d := ir_l_start) F S_l_start rfl rfl hcf fun cdv A outer s H E hr1 => ?_
  have hr := hr1.mono (Nat.le_succ k)
  exact (xss_cons (xs_ret (xe_dct (xp_str xe_dnew (xp_str (xe_lst xa_nil) (xp_str xe_int xp_nil))) rfl rfl (fun z => by cases z) (by decide))) xss_nil)
theorem ok_l_with (T : Txt K w mg) (C : Calls2 P w K mg base names cf k) {dvs : List V} {kws : List (Str × V)} (F : FunD K "_law_with" "_law_with" (defArgs s_l_with) (defBody s_l_with) (defScope s_l_with) dvs kws f fd) (hcf : ∀ xs M, cf' 12 xs M = runD cf ir_l_with xs M) :
    FnOk P w K mg base CX0 (k + 1 + 1) f fd ["_law_table_here", "_law_some"] (spEv K cf' 12 2) := by
  refine def_ok (k := k + 1) (d := ir_l_with) F S_l_with rfl rfl hcf fun cdv A outer s H E hr1 => ?_
  have hr := hr1.mono (Nat.le_succ k)
  exact (xss_cons (xs_par3 (m := 2) (n := 3) (l := 4) rfl S_l_with.nd rfl rfl rfl (by decide) (by decide) (by decide) rfl rfl rfl (xa_cons (xe_lst xa_nil) (xa_cons (xe_call0 (C.own hr (n := 11) rfl) rfl) (xa_cons (xe_bty (cl_dictp rfl) (by rfl) T.b_dict (by decide +kernel) (xa_cons (xe_var 1) xa_nil)) xa_nil))) (by rfl)) (xss_cons (xs_for PassesOwn.never rfl (xi_enum rfl T.b_enumerate (xe_var 0)) (xg_tup rfl (xgs_cons (xg_name 5 S_l_with.nd) (xgs_cons (xg_name 6 S_l_with.nd) xgs_nil))) (xss_cons (xs_asg (xe_if (xt_cmp (opx_in hr.units) (xe_var 5) (xe_var 4) rfl) (xe_tup (xa_cons xe_str (xa_cons (xe_idx hr.units (xe_var 4) (xe_var 5) (fun _ _ => rfl)) (xa_cons (xe_idx hr.units (xe_var 3) xe_str (fun _ _ => rfl)) xa_nil)))) (xe_var 6)) (xg_name 7 S_l_with.nd)) (xss_cons (xs_if (xt_w (xw_and (xt_cmp (opx_eq hr.units) (xe_idx hr.units (xe_var 7) xe_int (fun _ _ => rfl)) xe_str (nomark _)) (xw_and1 rfl (xt_cmp opx_le (xe_idx hr.units (xe_var 7) xe_int (fun _ _ => rfl)) (xe_idx hr.units (xe_idx hr.units (xe_var 3) xe_str (fun _ _ => rfl)) (xe_idx hr.units (xe_var 7) xe_int (fun _ _ => rfl)) (fun _ _ => rfl)) (nomark _))))) (xss_cons (xs_asg (xe_tup (xa_cons xe_str xa_nil)) (xg_name 7 S_l_with.nd)) xss_nil) xss_nil) (xss_cons (xs_exp (xe_call (C.own hr (n := 8) rfl) rfl (xa_cons (xe_var 3) (xa_cons (xe_var 7) xa_nil)))) (xss_cons (xs_exp (xe_append (xe_var 2) (xe_var 7))) xss_nil))))) (xss_cons (xs_ret (xe_bty cl_tuple (by rfl) T.b_tuple (by decide +kernel) (xa_cons (xe_var 2) xa_nil))) xss_nil)))
theorem ok_l_free (T : Txt K w mg) (C : Calls2 P w K mg base names cf k) {dvs : List V} {kws : List (Str × V)} (F : FunD K "_law_free" "_law_free" (defArgs s_l_free) (defBody s_l_free) (defScope s_l_free) dvs kws f fd) (hcf : ∀ xs M, cf' 13 xs M = runD cf ir_l_free xs M) :
    FnOk P w K mg base CX0 (k + 1 + 1) f fd ["_law_table_here"] (spEv K cf' 13 1) := by
  refine def_ok (k := k + 1) (d := ir_l_free) F S_l_free rfl rfl hcf fun cdv A outer s H E hr1 => ?_
  have hr := hr1.mono (Nat.le_succ k)
  exact (xss_cons (xs_par2 (m := 1) (n := 2) rfl S_l_free.nd rfl rfl (by decide) rfl rfl (xa_cons (xe_lst xa_nil) (xa_cons (xe_call0 (C.own hr (n := 11) rfl) rfl) xa_nil)) (by rfl)) (xss_cons (xs_for PassesOwn.never rfl (xi_enum rfl T.b_enumerate (xe_var 0)) (xg_tup rfl (xgs_cons (xg_name 3 S_l_free.nd) (xgs_cons (xg_name 4 S_l_free.nd) xgs_nil))) (xss_cons (xs_if (xt_cmp (opx_eq hr.units) (xe_idx hr.units (xe_var 4) xe_int (fun _ _ => rfl)) xe_str (nomark _)) (xss_cons (xs_exp (xe_append (xe_var 1) (xe_tup (xa_cons (xe_var 3) (xa_cons (xe_blt (cl_sorted rfl) (by rfl) T.b_sorted (by decide +kernel) (xa_cons (xe_idx hr.units (xe_var 2) xe_str (fun _ _ => rfl)) xa_nil)) xa_nil))))) xss_nil) xss_nil) (xss_cons (xs_exp (xe_call (C.own hr (n := 8) rfl) rfl (xa_cons (xe_var 2) (xa_cons (xe_var 4) xa_nil)))) xss_nil))) (xss_cons (xs_ret (xe_var 1)) xss_nil)))
theorem ok_l_waited (T : Txt K w mg) (C : Calls2 P w K mg base names cf k) {dvs : List V} {kws : List (Str × V)} (F : FunD K "_law_waited" "_law_waited" (defArgs s_l_waited) (defBody s_l_waited) (defScope s_l_waited) dvs kws f fd) (hcf : ∀ xs M, cf' 14 xs M = runD cf ir_l_waited xs M) :
    FnOk P w K mg base CX0 (k + 1 + 1) f fd ["_law_box_here", "_law_many", "_law_most", "_law_folk"] (spEv K cf' 14 4) := by
  refine def_ok (k := k + 1) (d := ir_l_waited) F S_l_waited rfl rfl hcf fun cdv A outer s H E hr1 => ?_
  have hr := hr1.mono (Nat.le_succ k)
  exact (xss_cons (xs_par2 (m := 4) (n := 5) rfl S_l_waited.nd rfl rfl (by decide) rfl rfl (xa_cons (xe_call (C.own hr (n := 9) rfl) rfl (xa_cons (xe_var 0) (xa_cons (xe_var 1) (xa_cons xe_int (xa_cons (xe_var 3) (xa_cons (xe_lst (xa_cons xe_str (xa_cons xe_str xa_nil))) (xa_cons xe_str xa_nil))))))) (xa_cons (xe_lst xa_nil) xa_nil)) (by rfl)) (xss_cons (xs_for PassesOwn.never rfl (xi_seq (xe_var 4)) (xg_name 6 S_l_waited.nd) (xss_cons (xs_if (xt_w (xw_or (xt_cmp (opx_ne hr.units) (xe_idx hr.units (xe_var 6) xe_int (fun _ _ => rfl)) xe_str (nomark _)) (xw_or1 rfl (xt_cmp opx_lt (xe_blt cl_len (by rfl) T.b_len (by decide +kernel) (xa_cons (xe_lc (own := [("_law_one_so", 7)]) rfl S_l_waited.nd (xi_seq (xe_var 5)) (blkOk_by (own := [("_law_one_so", 7)]) (N := N_l_waited) (sc := defScope s_l_waited) (by decide +kernel)) (fun _ _ _ _ _ => (xg_name 7 S_l_waited.nd)) (fun _ _ _ _ _ => xts_one (xt_cmp (opx_eq hr.units) (xe_idx hr.units (xe_var 7) xe_int (fun _ _ => rfl)) xe_str (nomark _))) (fun _ _ _ _ _ => (xe_var 7)) (by decide)) xa_nil)) (xe_var 2) (nomark _))))) (xss_cons (xs_exp (xe_append (xe_var 5) (xe_var 6))) xss_nil) xss_nil) xss_nil)) (xss_cons (xs_ret (xe_if (xt_cmp (opx_eq hr.units) (xe_call (C.own hr (n := 3) rfl) rfl (xa_cons (xe_var 0) (xa_cons xe_int xa_nil))) xe_int (nomark _)) (xe_call (C.own hr (n := 10) rfl) rfl (xa_cons (xe_bty cl_tuple (by rfl) T.b_tuple (by decide +kernel) (xa_cons (xe_var 5) xa_nil)) xa_nil)) (xe_bty cl_tuple (by rfl) T.b_tuple (by decide +kernel) (xa_cons (xe_var 5) xa_nil)))) xss_nil)))
theorem ok_l_lagging (T : Txt K w mg) (C : Calls2 P w K mg base names cf k) {dvs : List V} {kws : List (Str × V)} (F : FunD K "_law_lagging" "_law_lagging" (defArgs s_l_lagging) (defBody s_l_lagging) (defScope s_l_lagging) dvs kws f fd) (hcf : ∀ xs M, cf' 15 xs M = runD cf ir_l_lagging xs M) :
    FnOk P w K mg base CX0 (k + 1 + 1) f fd ["_law_box_here"] (spEv K cf' 15 1) := by
  refine def_ok (k := k + 1) (d := ir_l_lagging) F S_l_lagging rfl rfl hcf fun cdv A outer s H E hr1 => ?_
  have hr := hr1.mono (Nat.le_succ k)
  exact (xss_cons (xs_par2 (m := 1) (n := 2) rfl S_l_lagging.nd rfl rfl (by decide) rfl rfl (xa_cons (xe_bop opx_mul (xe_lst (xa_cons (xe_tup (xa_cons xe_str xa_nil)) xa_nil)) (xe_call (C.own hr (n := 3) rfl) rfl (xa_cons (xe_var 0) (xa_cons xe_int xa_nil)))) (xa_cons (xe_bop opx_mul (xe_lst (xa_cons (xe_tup (xa_cons xe_str xa_nil)) xa_nil)) (xe_bop opx_add xe_int (xe_call (C.own hr (n := 3) rfl) rfl (xa_cons (xe_var 0) (xa_cons xe_int xa_nil))))) xa_nil)) (by rfl)) (xss_cons (xs_asg (xe_bop opx_add (xe_bop opx_add (xe_bop opx_add (xe_lst (xa_cons (xe_tup (xa_cons xe_str (xa_cons xe_int xa_nil))) (xa_cons (xe_tup (xa_cons xe_str (xa_cons xe_str (xa_cons (xe_call (C.own hr (n := 3) rfl) rfl (xa_cons (xe_var 0) (xa_cons xe_int xa_nil))) xa_nil)))) (xa_cons (xe_tup (xa_cons xe_str (xa_cons xe_int (xa_cons xe_int xa_nil)))) xa_nil)))) (xe_var 1)) (xe_lst (xa_cons (xe_tup (xa_cons xe_str (xa_cons xe_str xa_nil))) xa_nil))) (xe_var 2)) (xg_name 3 S_l_lagging.nd)) (xss_cons (xs_if (xt_cmp (opx_eq hr.units) (xe_call (C.own hr (n := 3) rfl) rfl (xa_cons (xe_var 0) (xa_cons xe_int xa_nil))) xe_int (nomark _)) (xss_cons (xs_asg (xe_bop opx_add (xe_var 3) (xe_lst (xa_cons (xe_tup (xa_cons xe_str (xa_cons xe_str (xa_cons xe_int xa_nil)))) (xa_cons (xe_tup (xa_cons xe_str (xa_cons xe_int (xa_cons xe_int xa_nil)))) xa_nil)))) (xg_name 3 S_l_lagging.nd)) xss_nil) (xss_cons (xs_asg (xe_bop opx_add (xe_bop opx_add (xe_bop opx_add (xe_slc (xe_var 3) xo0 (xo1 xe_int)) (xe_lst (xa_cons (xe_tup (xa_cons xe_str (xa_cons xe_int xa_nil))) xa_nil))) (xe_slc (xe_var 3) (xo1 xe_int) xo0)) (xe_lst (xa_cons (xe_tup (xa_cons xe_str (xa_cons xe_int (xa_cons xe_int xa_nil)))) (xa_cons (xe_tup (xa_cons xe_str (xa_cons xe_int (xa_cons xe_int xa_nil)))) (xa_cons (xe_tup (xa_cons xe_str (xa_cons xe_int (xa_cons xe_int xa_nil)))) xa_nil))))) (xg_name 3 S_l_lagging.nd)) xss_nil)) (xss_cons (xs_ret (xe_bty cl_tuple (by rfl) T.b_tuple (by decide +kernel) (xa_cons (xe_slc (xe_var 3) xo0 (xo1 (xe_bop opx_sub (xe_blt cl_len (by rfl) T.b_len (by decide +kernel) (xa_cons (xe_var 3) xa_nil)) (xe_bty cl_int (by rfl) T.b_int (by decide +kernel) (xa_cons (xe_cmp (opx_eq hr.units) (xe_call (C.own hr (n := 3) rfl) rfl (xa_cons (xe_var 0) (xa_cons xe_int xa_nil))) xe_int (nomark _)) xa_nil))))) xa_nil))) xss_nil))))
theorem ok_l_some_reads (T : Txt K w mg) (C : Calls2 P w K mg base names cf k) {dvs : List V} {kws : List (Str × V)} (F : FunD K "_law_some_reads" "_law_some_reads" (defArgs s_l_some_reads) (defBody s_l_some_reads) (defScope s_l_some_reads) dvs kws f fd) (hcf : ∀ xs M, cf' 16 xs M = runD cf ir_l_some_reads xs M) :
    FnOk P w K mg base CX0 (k + 1 + 1) f fd ["_law_box_here", "_law_table_here"] (spEv K cf' 16 2) := by
  refine def_ok (k := k + 1) (d := ir_l_some_reads) F S_l_some_reads rfl rfl hcf fun cdv A outer s H E hr1 => ?_
  have hr := hr1.mono (Nat.le_succ k)
  exact (xss_cons (xs_asg (xe_lst xa_nil) (xg_name 2 S_l_some_reads.nd)) (xss_cons (xs_for PassesOwn.never rfl (xi_seq (xe_call (C.own hr (n := 13) rfl) rfl (xa_cons (xe_var 1) xa_nil))) (xg_tup rfl (xgs_cons (xg_name 3 S_l_some_reads.nd) (xgs_cons (xg_name 4 S_l_some_reads.nd) xgs_nil))) (xss_cons (xs_if (xt_w (xw_and (xt_cmp (opx_ne hr.units) (xe_var 4) (xe_lst xa_nil) (nomark _)) (xw_and1 rfl (xt_cmp opx_gt (xe_call (C.own hr (n := 3) rfl) rfl (xa_cons (xe_var 0) (xa_cons xe_int xa_nil))) xe_int (nomark _))))) (xss_cons (xs_exp (xe_append (xe_var 2) (xe_tup (xa_cons (xe_var 3) (xa_cons (xe_call (C.own hr (n := 4) rfl) rfl (xa_cons (xe_var 0) (xa_cons (xe_var 4) xa_nil))) xa_nil))))) xss_nil) xss_nil) xss_nil)) (xss_cons (xs_ret (xe_bty cl_ptuple (by rfl) T.b_tuple (by decide +kernel) (xa_cons (xe_var 2) xa_nil))) xss_nil)))
theorem ok_l_right (T : Txt K w mg) (C : Calls2 P w K mg base names cf k) {dvs : List V} {kws : List (Str × V)} (F : FunD K "_law_right" "_law_right" (defArgs s_l_right) (defBody s_l_right) (defScope s_l_right) dvs kws f fd) (hcf : ∀ xs M, cf' 17 xs M = runD cf ir_l_right xs M) :
    FnOk P w K mg base CX0 (k + 1 + 1) f fd ["_law_box_here"] (spEv K cf' 17 1) := by
  refine def_ok (k := k + 1) (d := ir_l_right) F S_l_right rfl rfl hcf fun cdv A outer s H E hr1 => ?_
  have hr := hr1.mono (Nat.le_succ k)
  exact (xss_cons (xs_for PassesOwn.never rfl (xi_rng1 rfl T.b_range xe_int) (xg_name 1 S_l_right.nd) (xss_cons (xs_asg (xe_call (C.own hr (n := 15) rfl) rfl (xa_cons (xe_var 0) xa_nil)) (xg_name 2 S_l_right.nd)) (xss_cons (xs_if (xt_cmp opx_gt (xe_var 1) xe_int (nomark _)) (xss_cons (xs_asg (xe_call (C.own hr (n := 14) rfl) rfl (xa_cons (xe_var 0) (xa_cons (xe_bop opx_add xe_int (xe_call (C.own hr (n := 3) rfl) rfl (xa_cons (xe_var 0) (xa_cons xe_int xa_nil)))) (xa_cons xe_int (xa_cons (xe_bop opx_add xe_int (xe_call (C.own hr (n := 3) rfl) rfl (xa_cons (xe_var 0) (xa_cons xe_int xa_nil)))) xa_nil))))) (xg_name 2 S_l_right.nd)) xss_nil) xss_nil) (xss_cons (xs_for PassesOwn.never rfl (xi_rng1 rfl T.b_range xe_int) (xg_name 3 S_l_right.nd) (xss_cons (xs_asg (xe_call (C.own hr (n := 16) rfl) rfl (xa_cons (xe_var 0) (xa_cons (xe_var 2) xa_nil))) (xg_name 4 S_l_right.nd)) (xss_cons (xs_par2 (m := 5) (n := 6) rfl S_l_right.nd rfl rfl (by decide) rfl rfl (xa_cons (xe_call (C.own hr (n := 12) rfl) rfl (xa_cons (xe_var 2) (xa_cons (xe_var 4) xa_nil))) (xa_cons (xe_lst (xa_cons (xe_call (C.own hr (n := 6) rfl) rfl (xa_cons (xe_var 2) xa_nil)) (xa_cons (xe_call (C.own hr (n := 6) rfl) rfl (xa_cons (xe_var 4) xa_nil)) xa_nil))) xa_nil)) (by rfl)) (xss_cons (xs_asg (xe_lst (xa_cons (xe_call (C.own hr (n := 1) rfl) rfl (xa_cons (xe_var 2) (xa_cons (xe_var 4) xa_nil))) (xa_cons (xe_call (C.own hr (n := 1) rfl) rfl (xa_cons (xe_idx hr.units (xe_var 6) xe_int (fun _ _ => rfl)) (xa_cons (xe_idx hr.units (xe_var 6) xe_int (fun _ _ => rfl)) xa_nil))) xa_nil))) (xg_name 7 S_l_right.nd)) (xss_cons (xs_exp (xe_append (xe_var 7) (xe_callp (C.ownP hr (n := 1) rfl (ks := ["reads", "timetable"]) (p := [1, 0]) (by simp)) rfl (xk_cons (xe_bty cl_list (by rfl) T.b_list (by decide +kernel) (xa_cons (xe_var 4) xa_nil)) (xk_cons (xe_var 2) xk_nil))))) (xss_cons (xs_if (xt_w (xw_or (xt_not (xt_val (xe_call (C.own hr (n := 5) rfl) rfl (xa_cons (xe_var 7) (xa_cons (xe_bop opx_mul (xe_lst (xa_cons (xe_var 5) xa_nil)) xe_int) xa_nil))))) (xw_or1 rfl (xt_cmp (opx_ne hr.units) (xe_var 6) (xe_lst (xa_cons (xe_call (C.own hr (n := 6) rfl) rfl (xa_cons (xe_var 2) xa_nil)) (xa_cons (xe_call (C.own hr (n := 6) rfl) rfl (xa_cons (xe_var 4) xa_nil)) xa_nil))) (nomark _))))) (xss_cons (xs_ret xe_bl) xss_nil) xss_nil) xss_nil)))))) (xss_cons (xs_if (xt_not (xt_val (xe_call (C.own hr (n := 5) rfl) rfl (xa_cons (xe_call (C.own hr (n := 1) rfl) rfl (xa_cons (xe_var 2) (xa_cons (xe_tup xa_nil) xa_nil))) (xa_cons (xe_var 2) xa_nil))))) (xss_cons (xs_ret xe_bl) xss_nil) xss_nil) xss_nil))))) (xss_cons (xs_ret xe_bl) xss_nil))
theorem ok_law (T : Txt K w mg) (C : Calls2 P w K mg base names cf k) {dvs : List V} {kws : List (Str × V)} (F : FunD K "law" "law" (defArgs s_law) (defBody s_law) (defScope s_law) dvs kws f fd) (hcf : ∀ xs M, cf' 18 xs M = runD cf ir_law xs M) :
    FnOk P w K mg base CX0 (k + 1 + 1) f fd ["_law_script"] (spEv K cf' 18 1) := by
  refine def_ok (k := k + 1) (d := ir_law) F S_law rfl rfl hcf fun cdv A outer s H E hr1 => ?_
  have hr := hr1.mono (Nat.le_succ k)
  exact (xss_cons (xs_ret (xe_blt (cl_all_ rfl) (by rfl) T.b_all (by decide +kernel) (xa_cons (xe_lc (own := [("_law_lap", 1)]) rfl S_law.nd (xi_rng1 rfl T.b_range (xe_bop opx_add xe_int (xe_blt (cl_min2 rfl) rfl T.b_min (by decide +kernel) (xa_cons xe_int (xa_cons (xe_blt cl_len (by rfl) T.b_len (by decide +kernel) (xa_cons (xe_var 0) xa_nil)) xa_nil))))) (blkOk_by (own := [("_law_lap", 1)]) (N := N_law) (sc := defScope s_law) (by decide +kernel)) (fun _ _ _ _ _ => (xg_name 1 S_law.nd)) (fun _ _ _ _ _ => xts_nil) (fun _ _ _ _ _ => (xe_call (C.own hr (n := 17) rfl) rfl (xa_cons (xe_call (C.own hr (n := 2) rfl) rfl (xa_cons (xe_var 0) (xa_cons (xe_var 1) xa_nil))) xa_nil))) (by decide)) xa_nil))) xss_nil)
theorem ok_Course_init (T : Txt K w mg) (C : Calls2 P w K mg base names cf k) {dvs : List V} {kws : List (Str × V)} (F : FunD K "__init__" "Course.__init__" (defArgs s_Course_init) (defBody s_Course_init) (defScope s_Course_init) dvs kws f fd) (hcf : ∀ xs M, cf' 19 xs M = runD cf ir_Course_init xs M) :
    FnOk P w K mg base CX0 (k + 1 + 1) f fd ["self"] (spEv K cf' 19 1) := by
  refine def_ok (k := k + 1) (d := ir_Course_init) F S_Course_init rfl rfl hcf fun cdv A outer s H E hr1 => ?_
  have hr := hr1.mono (Nat.le_succ k)
  exact (xss_cons (xs_fset (xe_var 0) xe_int T.cl_Course T.na_Course_own_many) (xss_cons (xs_fset (xe_var 0) xe_dnew T.cl_Course T.na_Course_own_places) (xss_cons (xs_fset (xe_var 0) (xe_lst xa_nil) T.cl_Course T.na_Course_own_copies) xss_nil)))
theorem ok_Course_many (T : Txt K w mg) (C : Calls2 P w K mg base names cf k) {dvs : List V} {kws : List (Str × V)} (F : FunD K "many" "Course.many" (defArgs s_Course_many) (defBody s_Course_many) (defScope s_Course_many) dvs kws f fd) (hcf : ∀ xs M, cf' 20 xs M = runD cf ir_Course_many xs M) :
    FnOk P w K mg base CX0 (k + 1 + 1) f fd ["self"] (spEv K cf' 20 1) := by
  refine def_ok (k := k + 1) (d := ir_Course_many) F S_Course_many rfl rfl hcf fun cdv A outer s H E hr1 => ?_
  have hr := hr1.mono (Nat.le_succ k)
  exact (xss_cons (xs_ret (xe_fld (xe_var 0) T.cl_Course T.na_Course_own_many)) xss_nil)
theorem ok_Course_can (T : Txt K w mg) (C : Calls2 P w K mg base names cf k) {dvs : List V} {kws : List (Str × V)} (F : FunD K "can" "Course.can" (defArgs s_Course_can) (defBody s_Course_can) (defScope s_Course_can) dvs kws f fd) (hcf : ∀ xs M, cf' 21 xs M = runD cf ir_Course_can xs M) :
    FnOk P w K mg base CX0 (k + 1 + 1) f fd ["self", "event"] (spEv K cf' 21 2) := by
  refine def_ok (k := k + 1) (d := ir_Course_can) F S_Course_can rfl rfl hcf fun cdv A outer s H E hr1 => ?_
  have hr := hr1.mono (Nat.le_succ k)
  exact (xss_cons (xs_if (xt_cmp (opx_in hr.units) (xe_idx hr.units (xe_var 1) xe_int (fun _ _ => rfl)) (xe_tup (xa_cons (xe_gstrE rfl T.c_PUT) (xa_cons (xe_gstrE rfl T.c_DROP) (xa_cons (xe_gstrE rfl T.c_JOIN) (xa_cons (xe_gstrE rfl T.c_WAIT) xa_nil))))) rfl) (xss_cons (xs_ret xe_bl) xss_nil) xss_nil) (xss_cons (xs_asg (xe_slc (xe_var 1) xo0 (xo1 xe_int)) (xg_tup rfl (xgs_cons (xg_name 2 S_Course_can.nd) (xgs_cons (xg_name 3 S_Course_can.nd) xgs_nil)))) (xss_cons (xs_if (xt_cmp (opx_eq hr.units) (xe_var 2) (xe_gstrE rfl T.c_READ) (nomark _)) (xss_cons (xs_ret (xe_and (xe_cmp (opx_in hr.units) (xe_var 3) (xe_fld (xe_var 0) T.cl_Course T.na_Course_own_places) rfl) (xe_one (xe_chn opx_lt opx_le (xe_idx hr.units (xe_fld (xe_var 0) T.cl_Course T.na_Course_own_places) (xe_var 3) (fun _ _ => rfl)) (xe_idx hr.units (xe_var 1) xe_int (fun _ _ => rfl)) (xe_fld (xe_var 0) T.cl_Course T.na_Course_own_many))))) xss_nil) xss_nil) (xss_cons (xs_if (xt_cmp (opx_eq hr.units) (xe_var 2) (xe_gstrE rfl T.c_SAVE) (nomark _)) (xss_cons (xs_ret (xe_cmp (opx_in hr.units) (xe_var 3) (xe_fld (xe_var 0) T.cl_Course T.na_Course_own_places) rfl)) xss_nil) xss_nil) (xss_cons (xs_ret (xe_cmp opx_lt (xe_idx hr.units (xe_var 1) xe_int (fun _ _ => rfl)) (xe_blt cl_len (by rfl) T.b_len (by decide +kernel) (xa_cons (xe_fld (xe_var 0) T.cl_Course T.na_Course_own_copies) xa_nil)) (nomark _))) xss_nil)))))
theorem ok_Course_go (T : Txt K w mg) (C : Calls2 P w K mg base names cf k) {dvs : List V} {kws : List (Str × V)} (F : FunD K "go" "Course.go" (defArgs s_Course_go) (defBody s_Course_go) (defScope s_Course_go) dvs kws f fd) (hcf : ∀ xs M, cf' 22 xs M = runD cf ir_Course_go xs M) :
    FnOk P w K mg base CX0 (k + 1 + 1) f fd ["self", "event"] (spEv K cf' 22 2) := by
  refine def_ok (k := k + 1) (d := ir_Course_go) F S_Course_go rfl rfl hcf fun cdv A outer s H E hr1 => ?_
  have hr := hr1.mono (Nat.le_succ k)
  exact (xss_cons (xs_if (xt_cmp (opx_eq hr.units) (xe_idx hr.units (xe_var 1) xe_int (fun _ _ => rfl)) (xe_gstrE rfl T.c_WAIT) (nomark _)) (xss_cons xs_retN xss_nil) xss_nil) (xss_cons (xs_asg (xe_slc (xe_var 1) xo0 (xo1 xe_int)) (xg_tup rfl (xgs_cons (xg_name 2 S_Course_go.nd) (xgs_cons (xg_name 3 S_Course_go.nd) xgs_nil)))) (xss_cons (xs_if (xt_cmp (opx_in hr.units) (xe_var 2) (xe_tup (xa_cons (xe_gstrE rfl T.c_PUT) (xa_cons (xe_gstrE rfl T.c_DROP) xa_nil))) rfl) (xss_cons (xs_faug (xe_var 0) xe_int T.cl_Course T.na_Course_own_many) xss_nil) (xss_cons (xs_if (xt_cmp (opx_eq hr.units) (xe_var 2) (xe_gstrE rfl T.c_JOIN) (nomark _)) (xss_cons (xs_sto hr.units xe_int (xe_fld (xe_var 0) T.cl_Course T.na_Course_own_places) (xe_var 3)) xss_nil) (xss_cons (xs_if (xt_cmp (opx_eq hr.units) (xe_var 2) (xe_gstrE rfl T.c_READ) (nomark _)) (xss_cons (xs_sto hr.units (xe_idx hr.units (xe_var 1) xe_int (fun _ _ => rfl)) (xe_fld (xe_var 0) T.cl_Course T.na_Course_own_places) (xe_var 3)) xss_nil) (xss_cons (xs_if (xt_cmp (opx_eq hr.units) (xe_var 2) (xe_gstrE rfl T.c_SAVE) (nomark _)) (xss_cons (xs_exp (xe_append (xe_fld (xe_var 0) T.cl_Course T.na_Course_own_copies) (xe_idx hr.units (xe_fld (xe_var 0) T.cl_Course T.na_Course_own_places) (xe_var 3) (fun _ _ => rfl)))) xss_nil) (xss_cons (xs_sto hr.units (xe_idx hr.units (xe_fld (xe_var 0) T.cl_Course T.na_Course_own_copies) (xe_idx hr.units (xe_var 1) xe_int (fun _ _ => rfl)) (fun _ _ => rfl)) (xe_fld (xe_var 0) T.cl_Course T.na_Course_own_places) (xe_var 3)) xss_nil)) xss_nil)) xss_nil)) xss_nil)) xss_nil)))
theorem ok_as_tuples_p (T : Txt K w mg) (C : Calls2 P w K mg base names cf k) {dvs : List V} {kws : List (Str × V)} (F : FunD K "as_tuples" "as_tuples" (defArgs s_as_tuples) (defBody s_as_tuples) (defScope s_as_tuples) dvs kws f fd) (hcf : ∀ xs M, cf' 24 xs M = runD cf ir_as_tuples_p xs M) :
    FnOk P w K mg base CX0 (k + 1 + 1) f fd ["thing"] (spEv K cf' 24 1) := by
  refine def_ok (k := k + 1) (d := ir_as_tuples_p) F S_as_tuples rfl rfl hcf fun cdv A outer s H E hr1 => ?_
  have hr := hr1.mono (Nat.le_succ k)
  exact (xss_cons (xs_ret (xe_if (xt_val (xe_isiT (ts := [.list, .tuple]) rfl T.b_isinstance (xe_var 0) (pa_cons (pe_tyN (t := .list) rfl T.b_list (by decide +kernel)) (pa_cons (pe_tyN (t := .tuple) rfl T.b_tuple (by decide +kernel)) pa_nil)) (by decide) (fun _ _ _ h => h))) (xe_bty cl_ptuple (by rfl) T.b_tuple (by decide +kernel) (xa_cons (xe_lc (own := [("part", 1)]) rfl S_as_tuples.nd (xi_seq (xe_var 0)) (blkOk_by (own := [("part", 1)]) (N := N_as_tuples) (sc := defScope s_as_tuples) (by decide +kernel)) (fun _ _ _ _ _ => (xg_name 1 S_as_tuples.nd)) (fun _ _ _ _ _ => xts_nil) (fun _ _ _ _ _ => (xe_call (C.own hr (n := 0) rfl) rfl (xa_cons (xe_var 1) xa_nil))) (by decide)) xa_nil)) (xe_var 0))) xss_nil)
end
abbrev Says (w : World) (h : Heap) (K : PySem.W.Frag) : Prop := He.SaysX faD fnD tbD tfD (exAll exD) w h K
theorem cf_len {n : Nat} {d : Df} (h : tab n = some (.fn d)) {k : Nat} : ∀ xs M z, cfN tab k n xs M = some z → xs.length = d.np := fun xs M z e => by
  cases k with
  | zero => cases e
  | succ k =>
    simp only [cfN, h] at e
    exact runD_len e
theorem all_ok {P : Program} {w : World} {K : PySem.W.Frag} {mg : Str → Option Value} {base h h0 : Heap} (X : K.In h) (G : h.Ns mainGlobals mg) (c : Says w h0 K) (T : Txt K w mg) (HT : ∀ p ∈ tfD, GxR.TabB base mg (He.cT K p).1 (He.cT K p).2) : ∀ k, Calls2 P w K mg base names (cfN tab k) (2 * k) := by
  have st : ∀ k, (k = 0 ∨ ∃ i, k = i + 1 ∧ Calls2 P w K mg base names (cfN tab i) (2 * i)) → Calls2 P w K mg base names (cfN tab k) (2 * k) := by
    intro k D n nm hn
    match n, hn with
    | 0, hn =>
      cases hn
      obtain ⟨fd, F⟩ := c.t.d.def_ 0 (d := d_as_tuples) rfl
      exact ⟨⟨fd, (by rcases D with rfl | ⟨k, rfl, C⟩; exact fn_zero; exact ok_as_tuples T C F (fun _ _ => rfl)), He.glo_ok X G (c.t.d.fact 0 (f := .glo "as_tuples") rfl), F.kp, BindsD.none (F.bindsN (ps := ["thing"]) (fun _ _ _ _ _ _ us hl => match us, hl with | [_], _ => rfl)), (fun z => by cases z), (fun q hq => by simp at hq)⟩, (cf_len (d := ir_as_tuples) rfl)⟩
    | 1, hn =>
      cases hn
      obtain ⟨fd, F⟩ := c.t.d.def_ 1 (d := d_with_reads) rfl
      exact ⟨⟨fd, (by rcases D with rfl | ⟨k, rfl, C⟩; exact fn_zero; exact ok_with_reads T C F (fun _ _ => rfl)), He.glo_ok X G (c.t.d.fact 1 (f := .glo "with_reads") rfl), F.kp, BindsD.none (F.bindsN (ps := ["timetable", "reads"]) (fun _ _ _ _ _ _ us hl => match us, hl with | [_, _], _ => rfl)), (fun _ => kbinds (ps := ["timetable", "reads"]) F (fun z => by cases z) fun _ _ _ _ _ _ ws hl => match ws, hl with | [_, _], _ => rfl), (fun qq hq => by
        simp only [List.mem_cons, List.mem_nil_iff, or_false] at hq
        rcases hq with rfl
        · refine ⟨fun _ => ?_, fun z => absurd rfl z⟩
          exact kbindsP (ps := ["timetable", "reads"]) (ks := ["reads", "timetable"]) (p := [1, 0]) F (fun z => by cases z) rfl (i := 1) (by decide) rfl fun _ _ _ _ _ _ ws hl => by
              rcases ws with _ | ⟨_, _ | ⟨_, _⟩⟩ <;> first | (simp at hl; done) | rfl)⟩, (cf_len (d := ir_with_reads) rfl)⟩
    | 2, hn =>
      cases hn
      obtain ⟨fd, F⟩ := c.t.d.def_ 2 (d := d_l_box) rfl
      exact ⟨⟨fd, (by rcases D with rfl | ⟨k, rfl, C⟩; exact fn_zero; exact ok_l_box T C F (fun _ _ => rfl)), He.glo_ok X G (c.t.d.fact 2 (f := .glo "_law_box") rfl), F.kp, BindsD.none (F.bindsN (ps := ["_law_script", "_law_lap"]) (fun _ _ _ _ _ _ us hl => match us, hl with | [_, _], _ => rfl)), (fun z => by cases z), (fun q hq => by simp at hq)⟩, (cf_len (d := ir_l_box) rfl)⟩
    | 3, hn =>
      cases hn
      obtain ⟨fd, F⟩ := c.t.d.def_ 3 (d := d_l_take) rfl
      exact ⟨⟨fd, (by rcases D with rfl | ⟨k, rfl, C⟩; exact fn_zero; exact ok_l_take T C F (fun _ _ => rfl)), He.glo_ok X G (c.t.d.fact 3 (f := .glo "_law_take") rfl), F.kp, BindsD.none (F.bindsN (ps := ["_law_box_here", "_law_below"]) (fun _ _ _ _ _ _ us hl => match us, hl with | [_, _], _ => rfl)), (fun z => by cases z), (fun q hq => by simp at hq)⟩, (cf_len (d := ir_l_take) rfl)⟩
    | 4, hn =>
      cases hn
      obtain ⟨fd, F⟩ := c.t.d.def_ 4 (d := d_l_of) rfl
      exact ⟨⟨fd, (by rcases D with rfl | ⟨k, rfl, C⟩; exact fn_zero; exact ok_l_of T C F (fun _ _ => rfl)), He.glo_ok X G (c.t.d.fact 4 (f := .glo "_law_of") rfl), F.kp, BindsD.none (F.bindsN (ps := ["_law_box_here", "_law_some"]) (fun _ _ _ _ _ _ us hl => match us, hl with | [_, _], _ => rfl)), (fun z => by cases z), (fun q hq => by simp at hq)⟩, (cf_len (d := ir_l_of) rfl)⟩
    | 5, hn =>
      cases hn
      obtain ⟨fd, F⟩ := c.t.d.def_ 5 (d := d_l_same) rfl
      exact ⟨⟨fd, (by rcases D with rfl | ⟨k, rfl, C⟩; exact fn_zero; exact ok_l_same T C F (fun _ _ => rfl)), He.glo_ok X G (c.t.d.fact 5 (f := .glo "_law_same") rfl), F.kp, BindsD.none (F.bindsN (ps := ["_law_found", "_law_due"]) (fun _ _ _ _ _ _ us hl => match us, hl with | [_, _], _ => rfl)), (fun z => by cases z), (fun q hq => by simp at hq)⟩, (cf_len (d := ir_l_same) rfl)⟩
    | 6, hn =>
      cases hn
      obtain ⟨fd, F⟩ := c.t.d.def_ 6 (d := d_l_lists) rfl
      exact ⟨⟨fd, (by rcases D with rfl | ⟨k, rfl, C⟩; exact fn_zero; exact ok_l_lists T C F (fun _ _ => rfl)), He.glo_ok X G (c.t.d.fact 6 (f := .glo "_law_lists") rfl), F.kp, BindsD.none (F.bindsN (ps := ["_law_matter"]) (fun _ _ _ _ _ _ us hl => match us, hl with | [_], _ => rfl)), (fun z => by cases z), (fun q hq => by simp at hq)⟩, (cf_len (d := ir_l_lists) rfl)⟩
    | 7, hn =>
      cases hn
      obtain ⟨fd, F⟩ := c.t.d.def_ 7 (d := d_l_event) rfl
      exact ⟨⟨fd, (by rcases D with rfl | ⟨k, rfl, C⟩; exact fn_zero; exact ok_l_event T C F (fun _ _ => rfl)), He.glo_ok X G (c.t.d.fact 7 (f := .glo "_law_event") rfl), F.kp, BindsD.none (F.bindsN (ps := ["_law_box_here", "_law_w", "_law_folk", "_law_names", "_law_words"]) (fun _ _ _ _ _ _ us hl => match us, hl with | [_, _, _, _, _], _ => rfl)), (fun z => by cases z), (fun q hq => by simp at hq)⟩, (cf_len (d := ir_l_event) rfl)⟩
    | 8, hn =>
      cases hn
      obtain ⟨fd, F⟩ := c.t.d.def_ 8 (d := d_l_moved) rfl
      exact ⟨⟨fd, (by rcases D with rfl | ⟨k, rfl, C⟩; exact fn_zero; exact ok_l_moved T C F (fun _ _ => rfl)), He.glo_ok X G (c.t.d.fact 8 (f := .glo "_law_moved") rfl), F.kp, BindsD.none (F.bindsN (ps := ["_law_w", "_law_event_so"]) (fun _ _ _ _ _ _ us hl => match us, hl with | [_, _], _ => rfl)), (fun z => by cases z), (fun q hq => by simp at hq)⟩, (cf_len (d := ir_l_moved) rfl)⟩
    | 9, hn =>
      cases hn
      obtain ⟨fd, F⟩ := c.t.d.def_ 9 (d := d_l_table) rfl
      exact ⟨⟨fd, (by rcases D with rfl | ⟨k, rfl, C⟩; exact fn_zero; exact ok_l_table T C F (fun _ _ => rfl)), He.glo_ok X G (c.t.d.fact 9 (f := .glo "_law_table") rfl), F.kp, BindsD.none (F.bindsN (ps := ["_law_box_here", "_law_many", "_law_most", "_law_folk", "_law_names", "_law_words"]) (fun _ _ _ _ _ _ us hl => match us, hl with | [_, _, _, _, _, _], _ => rfl)), (fun z => by cases z), (fun q hq => by simp at hq)⟩, (cf_len (d := ir_l_table) rfl)⟩
    | 10, hn =>
      cases hn
      obtain ⟨fd, F⟩ := c.t.d.def_ 10 (d := d_l_ended) rfl
      exact ⟨⟨fd, (by rcases D with rfl | ⟨k, rfl, C⟩; exact fn_zero; exact ok_l_ended T C F (fun _ _ => rfl)), He.glo_ok X G (c.t.d.fact 10 (f := .glo "_law_ended") rfl), F.kp, BindsD.none (F.bindsN (ps := ["_law_table_here"]) (fun _ _ _ _ _ _ us hl => match us, hl with | [_], _ => rfl)), (fun z => by cases z), (fun q hq => by simp at hq)⟩, (cf_len (d := ir_l_ended) rfl)⟩
    | 11, hn =>
      cases hn
      obtain ⟨fd, F⟩ := c.t.d.def_ 11 (d := d_l_start) rfl
      exact ⟨⟨fd, (by rcases D with rfl | ⟨k, rfl, C⟩; exact fn_zero; exact ok_l_start T C F (fun _ _ => rfl)), He.glo_ok X G (c.t.d.fact 11 (f := .glo "_law_start") rfl), F.kp, BindsD.none (F.bindsN (ps := []) (fun _ _ _ _ _ _ us hl => match us, hl with | [], _ => rfl)), (fun z => by cases z), (fun q hq => by simp at hq)⟩, (cf_len (d := ir_l_start) rfl)⟩
    | 12, hn =>
      cases hn
      obtain ⟨fd, F⟩ := c.t.d.def_ 12 (d := d_l_with) rfl
      exact ⟨⟨fd, (by rcases D with rfl | ⟨k, rfl, C⟩; exact fn_zero; exact ok_l_with T C F (fun _ _ => rfl)), He.glo_ok X G (c.t.d.fact 12 (f := .glo "_law_with") rfl), F.kp, BindsD.none (F.bindsN (ps := ["_law_table_here", "_law_some"]) (fun _ _ _ _ _ _ us hl => match us, hl with | [_, _], _ => rfl)), (fun z => by cases z), (fun q hq => by simp at hq)⟩, (cf_len (d := ir_l_with) rfl)⟩
    | 13, hn =>
      cases hn
      obtain ⟨fd, F⟩ := c.t.d.def_ 13 (d := d_l_free) rfl
      exact ⟨⟨fd, (by rcases D with rfl | ⟨k, rfl, C⟩; exact fn_zero; exact ok_l_free T C F (fun _ _ => rfl)), He.glo_ok X G (c.t.d.fact 13 (f := .glo "_law_free") rfl), F.kp, BindsD.none (F.bindsN (ps := ["_law_table_here"]) (fun _ _ _ _ _ _ us hl => match us, hl with | [_], _ => rfl)), (fun z => by cases z), (fun q hq => by simp at hq)⟩, (cf_len (d := ir_l_free) rfl)⟩
    | 14, hn =>
      cases hn
      obtain ⟨fd, F⟩ := c.t.d.def_ 14 (d := d_l_waited) rfl
      exact ⟨⟨fd, (by rcases D with rfl | ⟨k, rfl, C⟩; exact fn_zero; exact ok_l_waited T C F (fun _ _ => rfl)), He.glo_ok X G (c.t.d.fact 14 (f := .glo "_law_waited") rfl), F.kp, BindsD.none (F.bindsN (ps := ["_law_box_here", "_law_many", "_law_most", "_law_folk"]) (fun _ _ _ _ _ _ us hl => match us, hl with | [_, _, _, _], _ => rfl)), (fun z => by cases z), (fun q hq => by simp at hq)⟩, (cf_len (d := ir_l_waited) rfl)⟩
    | 15, hn =>
      cases hn
      obtain ⟨fd, F⟩ := c.t.d.def_ 15 (d := d_l_lagging) rfl
      exact ⟨⟨fd, (by rcases D with rfl | ⟨k, rfl, C⟩; exact fn_zero; exact ok_l_lagging T C F (fun _ _ => rfl)), He.glo_ok X G (c.t.d.fact 15 (f := .glo "_law_lagging") rfl), F.kp, BindsD.none (F.bindsN (ps := ["_law_box_here"]) (fun _ _ _ _ _ _ us hl => match us, hl with | [_], _ => rfl)), (fun z => by cases z), (fun q hq => by simp at hq)⟩, (cf_len (d := ir_l_lagging) rfl)⟩
    | 16, hn =>
      cases hn
      obtain ⟨fd, F⟩ := c.t.d.def_ 16 (d := d_l_some_reads) rfl
      exact ⟨⟨fd, (by rcases D with rfl | ⟨k, rfl, C⟩; exact fn_zero; exact ok_l_some_reads T C F (fun _ _ => rfl)), He.glo_ok X G (c.t.d.fact 16 (f := .glo "_law_some_reads") rfl), F.kp, BindsD.none (F.bindsN (ps := ["_law_box_here", "_law_table_here"]) (fun _ _ _ _ _ _ us hl => match us, hl with | [_, _], _ => rfl)), (fun z => by cases z), (fun q hq => by simp at hq)⟩, (cf_len (d := ir_l_some_reads) rfl)⟩
    | 17, hn =>
      cases hn
      obtain ⟨fd, F⟩ := c.t.d.def_ 17 (d := d_l_right) rfl
      exact ⟨⟨fd, (by rcases D with rfl | ⟨k, rfl, C⟩; exact fn_zero; exact ok_l_right T C F (fun _ _ => rfl)), He.glo_ok X G (c.t.d.fact 17 (f := .glo "_law_right") rfl), F.kp, BindsD.none (F.bindsN (ps := ["_law_box_here"]) (fun _ _ _ _ _ _ us hl => match us, hl with | [_], _ => rfl)), (fun z => by cases z), (fun q hq => by simp at hq)⟩, (cf_len (d := ir_l_right) rfl)⟩
    | 18, hn =>
      cases hn
      obtain ⟨fd, F⟩ := c.t.d.def_ 18 (d := d_law) rfl
      exact ⟨⟨fd, (by rcases D with rfl | ⟨k, rfl, C⟩; exact fn_zero; exact ok_law T C F (fun _ _ => rfl)), He.glo_ok X G (c.t.d.fact 18 (f := .glo "law") rfl), F.kp, BindsD.none (F.bindsN (ps := ["_law_script"]) (fun _ _ _ _ _ _ us hl => match us, hl with | [_], _ => rfl)), (fun z => by cases z), (fun q hq => by simp at hq)⟩, (cf_len (d := ir_law) rfl)⟩
    | 19, hn =>
      cases hn
      obtain ⟨fd, F⟩ := c.t.d.def_ 19 (d := d_Course_init) rfl
      exact ⟨⟨_, fd, (by rcases D with rfl | ⟨k, rfl, C⟩; exact fn_zero; exact ok_Course_init T C F (fun _ _ => rfl)), He.meth_ok (c.t.d.fact 19 (f := .meth "Course" "__init__") rfl), BindsD.none (F.bindsN (ps := ["self"]) (fun _ _ _ _ _ _ us hl => match us, hl with | [_], _ => rfl)), (fun q hq => by simp at hq)⟩, He.cls_ok (c.t.d.fact 20 (f := .cls "Course") rfl), (cf_len (d := ir_Course_init) rfl)⟩
    | 20, hn =>
      cases hn
      obtain ⟨fd, F⟩ := c.t.d.def_ 20 (d := d_Course_many) rfl
      exact ⟨⟨_, fd, (by rcases D with rfl | ⟨k, rfl, C⟩; exact fn_zero; exact ok_Course_many T C F (fun _ _ => rfl)), He.meth_ok (c.t.d.fact 21 (f := .meth "Course" "many") rfl), BindsD.none (F.bindsN (ps := ["self"]) (fun _ _ _ _ _ _ us hl => match us, hl with | [_], _ => rfl)), (fun q hq => by simp at hq)⟩, He.cls_ok (c.t.d.fact 20 (f := .cls "Course") rfl), (cf_len (d := ir_Course_many) rfl)⟩
    | 21, hn =>
      cases hn
      obtain ⟨fd, F⟩ := c.t.d.def_ 21 (d := d_Course_can) rfl
      exact ⟨⟨_, fd, (by rcases D with rfl | ⟨k, rfl, C⟩; exact fn_zero; exact ok_Course_can T C F (fun _ _ => rfl)), He.meth_ok (c.t.d.fact 22 (f := .meth "Course" "can") rfl), BindsD.none (F.bindsN (ps := ["self", "event"]) (fun _ _ _ _ _ _ us hl => match us, hl with | [_, _], _ => rfl)), (fun q hq => by simp at hq)⟩, He.cls_ok (c.t.d.fact 20 (f := .cls "Course") rfl), (cf_len (d := ir_Course_can) rfl)⟩
    | 22, hn =>
      cases hn
      obtain ⟨fd, F⟩ := c.t.d.def_ 22 (d := d_Course_go) rfl
      exact ⟨⟨_, fd, (by rcases D with rfl | ⟨k, rfl, C⟩; exact fn_zero; exact ok_Course_go T C F (fun _ _ => rfl)), He.meth_ok (c.t.d.fact 23 (f := .meth "Course" "go") rfl), BindsD.none (F.bindsN (ps := ["self", "event"]) (fun _ _ _ _ _ _ us hl => match us, hl with | [_, _], _ => rfl)), (fun q hq => by simp at hq)⟩, He.cls_ok (c.t.d.fact 20 (f := .cls "Course") rfl), (cf_len (d := ir_Course_go) rfl)⟩
    | 23, hn =>
      cases hn
      rcases D with rfl | ⟨k, rfl, C⟩
      · exact .inl fun _ _ => rfl
      obtain ⟨⟨f, fd, h1, h2, h3, h4⟩, _, hl⟩ := C 19 _ rfl
      have mk := He.mkr_ok (c.t.d.fact 24 (f := .mkr "Course") rfl)
      exact .inr ⟨2 * k, f, fd, 19, cfN tab k, by omega, h1, ⟨mk.makes, h2.at_, h2.fn, mk.kp⟩, He.glo_ok X G (c.t.d.fact 25 (f := .glo "Course") rfl), h3, h4, fun _ _ => rfl, hl⟩
    | 24, hn =>
      cases hn
      obtain ⟨fd, F⟩ := c.t.d.def_ 0 (d := d_as_tuples) rfl
      exact ⟨⟨fd, (by rcases D with rfl | ⟨k, rfl, C⟩; exact fn_zero; exact ok_as_tuples_p T C F (fun _ _ => rfl)), He.glo_ok X G (c.t.d.fact 0 (f := .glo "as_tuples") rfl), F.kp, BindsD.none (F.bindsN (ps := ["thing"]) (fun _ _ _ _ _ _ us hl => match us, hl with | [_], _ => rfl)), (fun z => by cases z), (fun q hq => by simp at hq)⟩, (cf_len (d := ir_as_tuples_p) rfl)⟩
    | n + 25, hn => cases hn
  intro k
  induction k with
  | zero => exact st 0 (.inl rfl)
  | succ k C => exact st _ (.inr ⟨k, rfl, C⟩)
theorem txt_of {w : World} {K : PySem.W.Frag} {mg : Str → Option Value} {h h0 : Heap} (X : K.In h) (G : h.Ns mainGlobals mg) (c : Says w h0 K) : Txt K w mg :=
  ⟨He.free_ok X G (c.t.d.fact 26 (f := .free "abs") rfl), He.free_ok X G (c.t.d.fact 27 (f := .free "all") rfl), He.free_ok X G (c.t.d.fact 28 (f := .free "bool") rfl), He.free_ok X G (c.t.d.fact 29 (f := .free "dict") rfl), He.free_ok X G (c.t.d.fact 30 (f := .free "enumerate") rfl), He.free_ok X G (c.t.d.fact 31 (f := .free "int") rfl), He.free_ok X G (c.t.d.fact 32 (f := .free "isinstance") rfl), He.free_ok X G (c.t.d.fact 33 (f := .free "len") rfl), He.free_ok X G (c.t.d.fact 34 (f := .free "list") rfl), He.free_ok X G (c.t.d.fact 35 (f := .free "min") rfl), He.free_ok X G (c.t.d.fact 36 (f := .free "range") rfl), He.free_ok X G (c.t.d.fact 37 (f := .free "sorted") rfl), He.free_ok X G (c.t.d.fact 38 (f := .free "str") rfl), He.free_ok X G (c.t.d.fact 39 (f := .free "tuple") rfl), He.free_ok X G (c.t.d.fact 40 (f := .free "zip") rfl), He.str_ok X G (c.t.d.fact 41 (f := .str "DROP" "drop") rfl), He.str_ok X G (c.t.d.fact 42 (f := .str "JOIN" "join") rfl), He.str_ok X G (c.t.d.fact 43 (f := .str "PUT" "put") rfl), He.str_ok X G (c.t.d.fact 44 (f := .str "READ" "read") rfl), He.str_ok X G (c.t.d.fact 45 (f := .str "SAVE" "save") rfl), He.str_ok X G (c.t.d.fact 46 (f := .str "WAIT" "wait") rfl), He.cls_ok (c.t.d.fact 20 (f := .cls "Course") rfl), He.noat_ok (c.t.d.fact 47 (f := .noat "Course" "own_copies") rfl), He.noat_ok (c.t.d.fact 48 (f := .noat "Course" "own_many") rfl), He.noat_ok (c.t.d.fact 49 (f := .noat "Course" "own_places") rfl)⟩
theorem cl_of {K : PySem.W.Frag} {H : Hp} {a : Addr} {ns : List Int} (o : Only H) (h : SqL K H a (ns.map V.int)) : CL K H a ns := by
  rcases h with (h | ⟨u, h⟩) | h
  · rcases o a with z | ⟨_, _, z⟩
    · rw [z] at h; cases h
    · rw [z] at h; cases h
  · exact .inl ⟨u, h⟩
  · exact .inr fun H' => .inr h
theorem facts {P : Program} {w : World} {K : PySem.W.Frag} {h : Heap} {mg : Str → Option Value} {f : Addr} (X : K.In h) (G : h.Ns mainGlobals mg) (hfa : mg ("law" : Str) = some (.ref f)) {h0 : Heap} (c : Says w h0 K) :
    ∃ fd : FuncData, (∀ (s : Shared) (v : Value), BindsTo s fd ⟨[v], []⟩ [("_law_script", v)]) ∧ ∀ base : Heap, K.In base → base.Ns mainGlobals mg → (∀ p ∈ tfD, GxR.TabB base mg (He.cT K p).1 (He.cT K p).2) → FnOk P w K mg base CX0 (2 * 12 + 1 + 1) f fd ["_law_script"] (spEv K (cfN tab (12 + 1)) 18 1) := by
  obtain ⟨fd, F⟩ := c.t.d.def_ 18 (d := d_law) rfl
  have e := hfa.symm.trans (He.glo_ok X G (c.t.d.fact 18 (f := .glo "law") rfl))
  cases e
  have b := FunD.bindsA (ps := ["_law_script"]) F fun _ _ _ _ _ _ us hl => match us, hl with | [_], _ => rfl
  exact ⟨fd, fun s v => b s [v] rfl, fun base hb hn ht => ok_law (txt_of X G c) (all_ok (base := base) X G c (txt_of X G c) ht 12) F fun _ _ => rfl⟩
end Mp
section
open PySem PySem.W PySem.Calls PyProof.Rows
set_option maxHeartbeats 0 in
theorem Mp.reduce (good : ∀ ns : List Int, ns.length ≤ 63 → ∃ M', Mp.cfN Mp.tab (12 + 1) 18 [.cl ns] [] = some (.bl true, M')) : PySem.Challenge.rw_missedmarks_k80_reads_in_the_place_of_wa.Holds := by
  w_on; o_law
  refine HandSHeadRun.head_any (r := OpenLaw.row PySem.Challenge.rw_missedmarks_k80_reads_in_the_place_of_wa) (q := view (OpenLaw.row PySem.Challenge.rw_missedmarks_k80_reads_in_the_place_of_wa).prog [29]) (H := Mp.hk) (ob := Mp.ob) (M := 6000) (loose := Mp.looseN) (d := HandSHeadRun.topDef (OpenLaw.row PySem.Challenge.rw_missedmarks_k80_reads_in_the_place_of_wa).prog 29) (kwd := []) Mp.ob_eq
    (by kernel_rfl) (fun s => by kernel_rfl) Mp.headrun (by kernel_rfl) (by kernel_rfl) (by kernel_rfl) (by rfl) (by first | assumption | decide +kernel) (by decide +kernel) ⟨rfl, rfl, rfl, rfl, rfl, by decide +kernel⟩ ?hw ?hc
  case hw => w_witness2
  case hc =>
    refine L2.walk_ofE (l := PySem.Challenge.rw_missedmarks_k80_reads_in_the_place_of_wa) (n := 63) (k := 2 * 12 + 1 + 1) (x := "_law_script") (CX := L2.CX0) rfl (by decide) (by kernel_rfl) ⟨rfl, by decide, by decide⟩ ?F (fun _ _ _ _ z => z)
    intro w mg fa h Y G hmg0
    obtain ⟨K, KX, c⟩ := Y
    have hmg : mg ("law" : PySem.Str) = some (.ref fa) := by
      have e : (HandSHeadRun.topDef (OpenLaw.row PySem.Challenge.rw_missedmarks_k80_reads_in_the_place_of_wa).prog 29).name = ("law" : PySem.Str) := by kernel_rfl
      rw [← e]
      exact hmg0
    obtain ⟨fd, hb, hF⟩ := Mp.facts (P := (PySem.Challenge.rw_missedmarks_k80_reads_in_the_place_of_wa).prog) (w := w) KX G hmg c
    refine ⟨K, fd, _, KX, hb, fun H a ns hl ho hS => ?_, fun base hbs hn => hF base hbs hn fun p hp => by cases hp⟩
    obtain ⟨M', e⟩ := good ns hl
    refine ⟨rfl, [], [], [.cl ns], _, M', ⟨rfl, List.nodup_nil, fun n a o h => (by cases h), fun b hb => by cases hb⟩, .cons (.cl (Mp.cl_of ho hS)) .nil, e, fun r' u H' _ _ hv => ?_⟩
    cases hv
    rfl
end
namespace Mp
open PySem L2
theorem str_inj {a b : String} : (Str.ofString a = Str.ofString b) ↔ a = b := by
  rw [Str.ofString_eq_toList, Str.ofString_eq_toList]
  constructor
  · intro h
    have h1 : (a.toList.map Char.toNat) = (b.toList.map Char.toNat) := by
      have := congrArg (fun s : Str => s.cps.toList) h
      simpa using this
    have h2 : a.toList = b.toList := by
      have inj : ∀ {x y : List Char}, x.map Char.toNat = y.map Char.toNat → x = y := by
        intro x
        induction x with
        | nil => intro y h; cases y with | nil => rfl | cons _ _ => simp at h
        | cons c cs ih =>
          intro y h
          cases y with
          | nil => simp at h
          | cons d ds =>
            simp only [List.map_cons, List.cons.injEq] at h
            rw [ih h.2, Char.toNat_inj.mp h.1]
      exact inj h1
    exact String.toList_inj.mp h2
  · intro h; rw [h]
@[simp] theorem str_eq {a b : String} : (Str.ofString a = Str.ofString b) = (a = b) := propext str_inj
@[simp] theorem str_beq {a b : String} : (Str.ofString a == Str.ofString b) = (a == b) := by
  by_cases h : a = b
  · subst h; rw [beq_self_eq_true, beq_self_eq_true]
  · have : ¬ Str.ofString a = Str.ofString b := fun e => h (str_inj.mp e)
    rw [beq_eq_false_iff_ne.mpr this, beq_eq_false_iff_ne.mpr h]
def Bx (M : Mm) (b : Nat) (k : Int) : Prop := ∃ d s c : Int, M[b]? = some (.lst [.int d, .int s, .int c]) ∧ 0 ≤ d ∧ 0 ≤ s ∧ s < 2147483563 ∧ 0 ≤ c ∧ c ≤ k
theorem take_ok (cf : CF) {M : Mm} {b : Nat} {k n : Int} (h : Bx M b k) (hk : k < 1000000000000) (hn : 0 < n) (hn2 : n < 1000000000) :
    ∃ (r : Int) (l : List PV), 0 ≤ r ∧ r < n ∧ runD cf ir_l_take [.ref b, .int n] M = some (.int r, M.set b (.lst l)) ∧ Bx (M.set b (.lst l)) b (k + 1) := by
  obtain ⟨d, s, c, hb, h1, h2, h3, h4, h5⟩ := h
  have hlt : b < M.length := (List.getElem?_eq_some_iff.mp hb).1
  have hn3 : n < 1073741824 := by omega
  by_cases hd : 0 < d
  · refine ⟨d % n, [.int (d / n), .int s, .int c], Int.emod_nonneg _ (by omega), Int.emod_lt_of_pos _ hn, ?_, d / n, s, c, by simp [hlt], Int.ediv_nonneg h1 (by omega), h2, h3, h4, by omega⟩
    simp [runD, ir_l_take, evSs, evS, evE, evEs, hb, idxP, atI, ixN, cmpP, hd, bltP, bopP, tgP, stoP, hn, hn3, lstAt]
  · have hset : ∀ x, (M.set b x)[b]? = some x := fun x => by simp [hlt]
    have hc : (s + 51767 * (c + 1)).natAbs < 2 ^ 64 := by omega
    have m1 : mulOk 51767 (c + 1) = true := by simp [mulOk]
    have m2 : ∀ x : Int, mulOk (x % 2147483549) (x % 2147483549 % 30013 + 19) = true := fun x => by
      have q1 := Int.emod_nonneg x (show (2147483549 : Int) ≠ 0 by decide)
      have q2 := Int.emod_lt_of_pos x (show (0 : Int) < 2147483549 by decide)
      simp only [mulOk, Bool.or_eq_true, Bool.and_eq_true, decide_eq_true_eq]
      omega
    have m3 : mulOk (c + 1) 7043 = true := by simp [mulOk]
    refine ⟨(((s + 51767 * (c + 1)) ^ 3 % 2147483549 * ((s + 51767 * (c + 1)) ^ 3 % 2147483549 % 30013 + 19) + (c + 1) * 7043) % 2147483629 / 32) % n, [.int d, .int s, .int (c + 1)], Int.emod_nonneg _ (by omega), Int.emod_lt_of_pos _ hn, ?_, d, s, c + 1, by simp [hlt], h1, h2, h3, by omega, by omega⟩
    simp [runD, ir_l_take, evSs, evS, evE, evEs, hb, idxP, atI, ixN, cmpP, hd, bltP, bopP, tgP, stoP, hn, lstAt, hset, hn3, hc, m1, m2, m3]
structure Frm (S : List Nat) (M M' : Mm) : Prop where
  len : M.length ≤ M'.length
  at_ : ∀ i, i ∉ S → i < M.length → M'[i]? = M[i]?
theorem Frm.refl {S : List Nat} {M : Mm} : Frm S M M := ⟨Nat.le_refl _, fun _ _ _ => rfl⟩
theorem Frm.trans {S : List Nat} {M M1 M2 : Mm} (a : Frm S M M1) (b : Frm S M1 M2) : Frm S M M2 :=
  ⟨Nat.le_trans a.len b.len, fun i h1 h2 => (b.at_ i h1 (Nat.lt_of_lt_of_le h2 a.len)).trans (a.at_ i h1 h2)⟩
theorem Frm.mono {S S' : List Nat} {M M1 : Mm} (a : Frm S M M1) (h : ∀ i ∈ S, i ∈ S') : Frm S' M M1 := ⟨a.len, fun i h1 h2 => a.at_ i (fun z => h1 (h i z)) h2⟩
theorem Frm.get {S : List Nat} {M M1 : Mm} (a : Frm S M M1) {i : Nat} {o : Ob} (h : M[i]? = some o) (hs : i ∉ S) : M1[i]? = some o := by
  rw [a.at_ i hs (List.getElem?_eq_some_iff.mp h).1, h]
theorem Frm.set {M : Mm} {i : Nat} {o : Ob} {S : List Nat} (h : i ∈ S) : Frm S M (M.set i o) :=
  ⟨by simp, fun j hj _ => List.getElem?_set_ne (fun z => hj (by rw [← z]; exact h))⟩
theorem Frm.app {M : Mm} {L : List Ob} {S : List Nat} : Frm S M (M ++ L) := ⟨by simp, fun j _ h => List.getElem?_append_left h⟩
theorem Frm.lt {S : List Nat} {M M1 : Mm} (a : Frm S M M1) {i : Nat} (h : i < M.length) : i < M1.length := Nat.lt_of_lt_of_le h a.len
theorem lt_of {M : Mm} {i : Nat} {o : Ob} (h : M[i]? = some o) : i < M.length := (List.getElem?_eq_some_iff.mp h).1
theorem Bx.frm {S : List Nat} {M M1 : Mm} {b : Nat} {k k' : Int} (h : Bx M b k) (a : Frm S M M1) (hs : b ∉ S) (hk : k ≤ k') : Bx M1 b k' := by
  obtain ⟨d, s, c, hb, h1, h2, h3, h4, h5⟩ := h
  exact ⟨d, s, c, a.get hb hs, h1, h2, h3, h4, by omega⟩
end Mp
namespace Mp
open PySem L2
theorem forL_inv {src : Src} {bind : Mm → PV → Sg → Option Sg} {body : Sg → Mm → Option (Fl × Mm)} (I : Nat → Sg → Mm → Prop) {n : Nat}
    (turn : ∀ i sg M, i < n → I i sg M → ∃ x sg1 sg2 M2, src.get M i = some (some x) ∧ bind M x sg = some sg1 ∧ body sg1 M = some (.nx sg2, M2) ∧ I (i + 1) sg2 M2)
    (stop : ∀ sg M, I n sg M → src.get M n = some none) : ∀ (m i : Nat) (sg : Sg) (M : Mm), n - i < m → i ≤ n → I i sg M → ∃ sg' M', forL src bind body m i sg M = some (.nx sg', M') ∧ I n sg' M'
  | 0, _, _, _, h, _, _ => by omega
  | m + 1, i, sg, M, h, hi, hI => by
    by_cases e : i = n
    · subst e
      exact ⟨sg, M, by simp only [forL, stop sg M hI], hI⟩
    · obtain ⟨x, sg1, sg2, M2, h1, h2, h3, h4⟩ := turn i sg M (by omega) hI
      obtain ⟨sg', M', h5, h6⟩ := forL_inv I turn stop m (i + 1) sg2 M2 (by omega) (by omega) h4
      exact ⟨sg', M', by simp only [forL, h1, h2, h3, h5], h6⟩
theorem for_inv {src : Src} {bind : Mm → PV → Sg → Option Sg} {body : Sg → Mm → Option (Fl × Mm)} (I : Nat → Sg → Mm → Prop) {n : Nat} {sg : Sg} {M : Mm} (hn : n < 100000) (h0 : I 0 sg M)
    (turn : ∀ i sg M, i < n → I i sg M → ∃ x sg1 sg2 M2, src.get M i = some (some x) ∧ bind M x sg = some sg1 ∧ body sg1 M = some (.nx sg2, M2) ∧ I (i + 1) sg2 M2)
    (stop : ∀ sg M, I n sg M → src.get M n = some none) : ∃ sg' M', forL src bind body bigN 0 sg M = some (.nx sg', M') ∧ I n sg' M' :=
  forL_inv I turn stop bigN 0 sg M (by unfold bigN; omega) (Nat.zero_le _) h0
theorem lcL_inv {src : Src} {bind : Mm → PV → Sg → Option Sg} {c e : Sg → Mm → R} {d : Nat} {sg : Sg} (I : Nat → Mm → Prop) {n : Nat}
    (turn : ∀ i M, i < n → I i M → ∃ x sg1, src.get M i = some (some x) ∧ bind M x sg = some sg1 ∧ ((∃ M1 y M2 acc, c sg1 M = some (.bl true, M1) ∧ e sg1 M1 = some (y, M2) ∧ lstAt M2 d = some acc ∧ acc.length < 16777216 ∧ I (i + 1) (M2.set d (.lst (acc ++ [y])))) ∨ (∃ M1, c sg1 M = some (.bl false, M1) ∧ I (i + 1) M1)))
    (stop : ∀ M, I n M → src.get M n = some none) : ∀ (m i : Nat) (M : Mm), n - i < m → i ≤ n → I i M → ∃ M', lcL src bind c e d sg m i M = some M' ∧ I n M'
  | 0, _, _, h, _, _ => by omega
  | m + 1, i, M, h, hi, hI => by
    by_cases e1 : i = n
    · subst e1
      exact ⟨M, by simp only [lcL, stop M hI], hI⟩
    · obtain ⟨x, sg1, h1, h2, h3⟩ := turn i M (by omega) hI
      rcases h3 with ⟨M1, y, M2, acc, k1, k2, k3, k4, k5⟩ | ⟨M1, k1, k2⟩
      · obtain ⟨M', h5, h6⟩ := lcL_inv I turn stop m (i + 1) _ (by omega) (by omega) k5
        exact ⟨M', by simp only [lcL, h1, h2, k1, k2, k3]; rw [if_pos (show acc.length < sizeLine from k4)]; exact h5, h6⟩
      · obtain ⟨M', h5, h6⟩ := lcL_inv I turn stop m (i + 1) M1 (by omega) (by omega) k2
        exact ⟨M', by simp only [lcL, h1, h2, k1, h5], h6⟩
theorem lc_inv {src : Src} {bind : Mm → PV → Sg → Option Sg} {c e : Sg → Mm → R} {d : Nat} {sg : Sg} (I : Nat → Mm → Prop) {n : Nat} {M : Mm} (hn : n < 100000) (h0 : I 0 M)
    (turn : ∀ i M, i < n → I i M → ∃ x sg1, src.get M i = some (some x) ∧ bind M x sg = some sg1 ∧ ((∃ M1 y M2 acc, c sg1 M = some (.bl true, M1) ∧ e sg1 M1 = some (y, M2) ∧ lstAt M2 d = some acc ∧ acc.length < 16777216 ∧ I (i + 1) (M2.set d (.lst (acc ++ [y])))) ∨ (∃ M1, c sg1 M = some (.bl false, M1) ∧ I (i + 1) M1)))
    (stop : ∀ M, I n M → src.get M n = some none) : ∃ M', lcL src bind c e d sg bigN 0 M = some M' ∧ I n M' :=
  lcL_inv I turn stop bigN 0 M (by unfold bigN; omega) (Nat.zero_le _) h0
def HT (cf : CF) : Prop := ∀ (M : Mm) (b : Nat) (k n : Int), Bx M b k → k < 1000000000000 → 0 < n → n < 1000000000 →
  ∃ (r : Int) (l : List PV), 0 ≤ r ∧ r < n ∧ cf i_l_take [.ref b, .int n] M = some (.int r, M.set b (.lst l)) ∧ Bx (M.set b (.lst l)) b (k + 1)
theorem ht (j : Nat) : HT (cfN tab (j + 1)) := fun M b k n h hk h1 h2 => take_ok (cfN tab j) h hk h1 h2
end Mp
namespace Mp
open PySem L2
theorem Frm.comp {S T : List Nat} {M0 M M' : Mm} (a : Frm S M0 M) (b : Frm T M M') (h : ∀ i ∈ T, i ∈ S ∨ M0.length ≤ i) : Frm S M0 M' :=
  ⟨Nat.le_trans a.len b.len, fun i h1 h2 => by
    rw [b.at_ i (fun z => (h i z).elim h1 (fun q => absurd h2 (by omega))) (Nat.lt_of_lt_of_le h2 a.len)]
    exact a.at_ i h1 h2⟩
theorem Frm.wr {S : List Nat} {M0 M : Mm} {j : Nat} {x : Ob} (a : Frm S M0 M) (h : M0.length ≤ j) : Frm S M0 (M.set j x) :=
  a.comp (Frm.set (S := [j]) (by simp)) (by simp; exact .inr h)
end Mp
namespace Mp
open PySem L2
section
variable {cf : CF} {sg sg1 sg2 : Sg} {M M1 M2 M3 : Mm} {e a b c : E} {es : Es} {x y z v : PV} {xs ys : List PV} {s : S} {ss ss2 : Ss} {i f : Nat} {w : Option (Fl × Mm)} {q : R}
theorem es_nil : evEs cf .nil sg M = some ([], M) := by rw [evEs]
theorem es_cons (h : evE cf e sg M = some (x, M1)) (h2 : evEs cf es sg M1 = some (xs, M2)) : evEs cf (.cons e es) sg M = some (x :: xs, M2) := by rw [evEs, h]; simp only [h2]
theorem es_one (h : evE cf e sg M = some (x, M1)) : evEs cf (.cons e .nil) sg M = some ([x], M1) := es_cons h es_nil
theorem e_var (h : sg[i]? = some (some v)) : evE cf (.var i) sg M = some (v, M) := by rw [evE, h]
theorem e_con : evE cf (.con v) sg M = some (v, M) := by rw [evE]
theorem e_call (h : evEs cf es sg M = some (xs, M1)) (h2 : cf f xs M1 = q) : evE cf (.call f es) sg M = q := by rw [evE, h]; exact h2
theorem e_blt {b : B} (h : evEs cf es sg M = some (xs, M1)) (h2 : bltP M1 b xs = q) : evE cf (.blt b es) sg M = q := by rw [evE, h]; exact h2
theorem e_bop {o : Bo} (h : evE cf a sg M = some (x, M1)) (h2 : evE cf b sg M1 = some (y, M2)) (h3 : bopP M2 o x y = q) : evE cf (.bop o a b) sg M = q := by rw [evE, h]; simp only [h2]; exact h3
theorem e_cmp {o : Co} {k : Bool} (h : evE cf a sg M = some (x, M1)) (h2 : evE cf b sg M1 = some (y, M2)) (h3 : cmpP M2 o x y = some k) : evE cf (.cmp o a b) sg M = some (.bl k, M2) := by rw [evE, h]; simp only [h2, h3]; rfl
theorem e_idx (h : evE cf a sg M = some (x, M1)) (h2 : evE cf b sg M1 = some (y, M2)) (h3 : idxP M2 x y = some z) : evE cf (.idx a b) sg M = some (z, M2) := by rw [evE, h]; simp only [h2, h3]; rfl
theorem e_not {k : Bool} (h : evE cf a sg M = some (.bl k, M1)) : evE cf (.not a) sg M = some (.bl (!k), M1) := by rw [evE, h]
theorem e_andT (h : evE cf a sg M = some (.bl true, M1)) (h2 : evE cf b sg M1 = q) : evE cf (.and a b) sg M = q := by rw [evE, h]; exact h2
theorem e_andF (h : evE cf a sg M = some (.bl false, M1)) : evE cf (.and a b) sg M = some (.bl false, M1) := by rw [evE, h]
theorem e_orF (h : evE cf a sg M = some (.bl false, M1)) (h2 : evE cf b sg M1 = q) : evE cf (.or a b) sg M = q := by rw [evE, h]; exact h2
theorem e_orT (h : evE cf a sg M = some (.bl true, M1)) : evE cf (.or a b) sg M = some (.bl true, M1) := by rw [evE, h]
theorem e_iteT (h : evE cf c sg M = some (.bl true, M1)) (h2 : evE cf a sg M1 = q) : evE cf (.ite c a b) sg M = q := by rw [evE, h]; exact h2
theorem e_iteF (h : evE cf c sg M = some (.bl false, M1)) (h2 : evE cf b sg M1 = q) : evE cf (.ite c a b) sg M = q := by rw [evE, h]; exact h2
theorem e_isi {ts : List Ty} {k : Bool} (h : evE cf a sg M = some (x, M1)) (h2 : ts.any (isTy M1 x) = k) (h3 : insP M1 x = false) : evE cf (.isi a ts) sg M = some (.bl k, M1) := by rw [evE, h]; simp only [h2, h3]; rfl
theorem e_fld {c f : Str} {n : Nat} {fs : List (Str × PV)} (h : evE cf a sg M = some (.ref n, M1)) (h2 : insAt M1 c n = some fs) (h3 : fs.lookup f = some v) : evE cf (.fld c f a) sg M = some (v, M1) := by rw [evE, h]; simp only [h2, h3, Option.bind_some, Option.map_some]
theorem s_sto (h : evE cf c sg M = some (x, M1)) (h2 : evE cf a sg M1 = some (y, M2)) (h3 : evE cf b sg M2 = some (z, M3)) {M4 : Mm} (h4 : stoP M3 y z x = some M4) : evS cf (.sto a b c) sg M = some (.nx sg, M4) := by rw [evS, h]; simp only [h2, h3, h4]; rfl
theorem s_asg {t : Tg} (h : evE cf e sg M = some (x, M1)) (h2 : tgP t M1 x sg = some sg1) : evS cf (.asg t e) sg M = some (.nx sg1, M1) := by rw [evS, h]; simp only [h2]; rfl
theorem s_exp (h : evE cf e sg M = some (x, M1)) : evS cf (.exp e) sg M = some (.nx sg, M1) := by rw [evS, h]
theorem s_ret (h : evE cf e sg M = some (x, M1)) : evS cf (.ret e) sg M = some (.ret x, M1) := by rw [evS, h]
theorem s_ifT (h : evE cf c sg M = some (.bl true, M1)) (h2 : evSs cf ss sg M1 = w) : evS cf (.iff c ss ss2) sg M = w := by rw [evS, h]; exact h2
theorem s_ifF (h : evE cf c sg M = some (.bl false, M1)) (h2 : evSs cf ss2 sg M1 = w) : evS cf (.iff c ss ss2) sg M = w := by rw [evS, h]; exact h2
theorem ss_nil : evSs cf .nil sg M = some (.nx sg, M) := by rw [evSs]
theorem ss_cons (h : evS cf s sg M = some (.nx sg1, M1)) (h2 : evSs cf ss sg1 M1 = w) : evSs cf (.cons s ss) sg M = w := by rw [evSs, h]; exact h2
theorem ss_ret (h : evE cf e sg M = some (x, M1)) : evSs cf (.cons (.ret e) ss) sg M = some (.ret x, M1) := by rw [evSs, s_ret h]
theorem run_ret {d : Df} (hl : xs.length = d.np) (h : evSs cf d.body (xs.map some ++ List.replicate (d.ns - d.np) none) M = some (.ret v, M1)) : runD cf d xs M = some (v, M1) := by
  rw [runD, if_pos hl, h]
end
end Mp
namespace Mp
open PySem L2
theorem mapM_some {α β : Type} {f : α → Option β} {g : α → β} : ∀ {xs : List α}, (∀ x ∈ xs, f x = some (g x)) → xs.mapM f = some (xs.map g)
  | [], _ => rfl
  | x :: xs, h => by
    rw [List.mapM_cons, h x (by simp), mapM_some (xs := xs) (fun y hy => h y (by simp [hy]))]
    rfl
def fd : PV → PyData
  | .bl b => .bool b | .int i => .int i | .str s => .str s | _ => .none
def FlOk : PV → Prop
  | .non => True | .bl _ => True | .int _ => True | .str s => PyData.canLay0 (.str s) = true | _ => False
theorem toD_flat {k : Nat} {M : Mm} {x : PV} (h : FlOk x) : toD (k + 1) M x = some (fd x) := by
  cases x <;> first | rfl | exact h.elim
theorem lay_flat {x : PV} (h : FlOk x) : PyData.canLay0 (fd x) = true ∧ PyData.depth (fd x) = 0 := by
  cases x <;> first | exact h.elim | exact ⟨h, rfl⟩ | exact ⟨rfl, rfl⟩
theorem layAll {xs : List PyData} : (∀ x ∈ xs, PyData.canLay0 x = true) → PyData.canLayAll0 xs = true := by
  intro h
  induction xs with
  | nil => rfl
  | cons x xs ih => rw [PyData.canLayAll0, h x (by simp), ih (fun y hy => h y (by simp [hy]))]; rfl
theorem depAll {xs : List PyData} {n : Nat} : (∀ x ∈ xs, PyData.depth x ≤ n) → PyData.depthAll xs ≤ n := by
  intro h
  induction xs with
  | nil => exact Nat.zero_le _
  | cons x xs ih => rw [PyData.depthAll]; exact Nat.max_le.mpr ⟨h x (by simp), ih (fun y hy => h y (by simp [hy]))⟩
structure Rd (k : Nat) (M : Mm) (x : PV) (d : PyData) : Prop where
  to : toD k M x = some d
  lay : PyData.canLay0 d = true
  dep : PyData.depth d < k
theorem Rd.flat {k : Nat} {M : Mm} {x : PV} (h : FlOk x) : Rd (k + 1) M x (fd x) := ⟨toD_flat h, (lay_flat h).1, by rw [(lay_flat h).2]; omega⟩
theorem Rd.tup {k : Nat} {M : Mm} {xs : List PV} {g : PV → PyData} (h : ∀ x ∈ xs, Rd k M x (g x)) (hk : 0 < k) : Rd (k + 1) M (.tup xs) (.tuple (xs.map g)) :=
  ⟨by simp only [toD]; rw [mapM_some (fun x hx => (h x hx).to)]; rfl,
   by rw [PyData.canLay0]; exact layAll (by intro y hy; obtain ⟨x, hx, rfl⟩ := List.mem_map.mp hy; exact (h x hx).lay),
   by rw [PyData.depth]; have := depAll (xs := xs.map g) (n := k - 1) (by intro y hy; obtain ⟨x, hx, rfl⟩ := List.mem_map.mp hy; have := (h x hx).dep; omega); omega⟩
theorem Rd.lst {k : Nat} {M : Mm} {n : Nat} {xs : List PV} {g : PV → PyData} (hn : M[n]? = some (.lst xs)) (h : ∀ x ∈ xs, Rd k M x (g x)) (hk : 0 < k) : Rd (k + 1) M (.ref n) (.list (xs.map g)) :=
  ⟨by simp only [toD, hn]; rw [mapM_some (fun x hx => (h x hx).to)]; rfl,
   by rw [PyData.canLay0]; exact layAll (by intro y hy; obtain ⟨x, hx, rfl⟩ := List.mem_map.mp hy; exact (h x hx).lay),
   by rw [PyData.depth]; have := depAll (xs := xs.map g) (n := k - 1) (by intro y hy; obtain ⟨x, hx, rfl⟩ := List.mem_map.mp hy; have := (h x hx).dep; omega); omega⟩
theorem Rd.up {k : Nat} {M : Mm} : ∀ {x : PV} {d : PyData}, Rd k M x d → Rd (k + 1) M x d := by
  suffices h : ∀ (k : Nat) (x : PV) (d : PyData), toD k M x = some d → toD (k + 1) M x = some d from
    fun {x d} q => ⟨h _ _ _ q.to, q.lay, Nat.lt_succ_of_lt q.dep⟩
  have mm : ∀ (k : Nat), (∀ (x : PV) (d : PyData), toD k M x = some d → toD (k + 1) M x = some d) → ∀ (xs : List PV) (ds : List PyData), xs.mapM (toD k M) = some ds → xs.mapM (toD (k + 1) M) = some ds := by
    intro k ih xs
    induction xs with
    | nil => intro ds h; exact h
    | cons x xs ih2 =>
      intro ds h
      rw [List.mapM_cons] at h ⊢
      obtain ⟨d, h1, h2⟩ := Option.bind_eq_some_iff.mp h
      obtain ⟨es, h3, h4⟩ := Option.bind_eq_some_iff.mp h2
      rw [ih _ _ h1, ih2 _ h3]
      exact h4
  intro k
  induction k with
  | zero => intro x d h; cases x <;> cases h
  | succ k ih =>
    intro x d h
    cases x with
    | tup xs =>
      simp only [toD] at h ⊢
      obtain ⟨ds, h1, h2⟩ := Option.map_eq_some_iff.mp h
      rw [mm k ih _ _ h1]; exact congrArg some h2
    | ptup xs =>
      simp only [toD] at h ⊢
      obtain ⟨ds, h1, h2⟩ := Option.map_eq_some_iff.mp h
      rw [mm k ih _ _ h1]; exact congrArg some h2
    | ref n =>
      simp only [toD] at h ⊢
      cases e : M[n]? with
      | none => rw [e] at h; cases h
      | some o =>
        cases o with
        | dic _ => rw [e] at h; cases h
        | ins _ _ => rw [e] at h; cases h
        | slt _ _ => rw [e] at h; cases h
        | frz _ => rw [e] at h; cases h
        | lst xs =>
          rw [e] at h
          obtain ⟨ds, h1, h2⟩ := Option.map_eq_some_iff.mp h
          show Option.map _ _ = _
          rw [mm k ih _ _ h1]; exact congrArg some h2
    | _ => exact h
theorem Rd.le {k j : Nat} {M : Mm} {x : PV} {d : PyData} (h : Rd k M x d) (hj : k ≤ j) : Rd j M x d := by
  induction hj with
  | refl => exact h
  | step _ ih => exact ih.up
theorem Rd.shaped {k : Nat} {M : Mm} {x : PV} {d : PyData} (h : Rd k M x d) (hk : k ≤ 20) : toD 20 M x = some d ∧ SeqAt.shaped d = true := by
  have h' := h.le hk
  refine ⟨h'.to, ?_⟩
  unfold SeqAt.shaped
  rw [h'.lay]
  have := h'.dep
  simp; omega
theorem eqP_nil {j : Nat} {M : Mm} {n m : Nat} {xs : List PV} {g : PV → PyData} (hn : M[n]? = some (.lst xs)) (hm : M[m]? = some (.lst [])) (h : ∀ x ∈ xs, Rd j M x (g x)) (h0 : 0 < j) (hj : j < 20) :
    eqP M (.ref n) (.ref m) = some xs.isEmpty := by
  have a := (Rd.lst hn h h0).shaped (by omega)
  have b := (Rd.lst (k := 1) (g := fd) hm (by simp) (by omega)).shaped (by omega)
  simp only [eqP, eqS, a.1, b.1, a.2, b.2]
  cases xs <;> simp [PyData.eqv, PyData.eqvAll]
@[simp] theorem eqP_str {M : Mm} {a b : Str} : eqP M (.str a) (.str b) = some (decide (a = b)) := rfl
@[simp] theorem eqP_int {M : Mm} {a b : Int} : eqP M (.int a) (.int b) = some (decide (a = b)) := rfl
@[simp] theorem eqP_bl {M : Mm} {a b : Bool} : eqP M (.bl a) (.bl b) = some (decide (a = b)) := rfl
end Mp
namespace Mp
open PySem L2
@[simp] theorem ty_beq (a b : Ty) : (a == b) = decide (a = b) := rfl
theorem get_last {M : Mm} {a : Ob} : (M ++ [a])[M.length]? = some a := by simp
theorem at0 {x : PV} {l : List PV} : atI (x :: l) 0 = some x := by
  unfold atI ixN; rw [if_pos (by omega), if_pos (by simp only [List.length_cons]; omega)]; rfl
theorem Frm.comp' {S T : List Nat} {M0 M M' : Mm} (a : Frm S M0 M) (b : Frm T M M') (h : ∀ i ∈ T, i ∈ S ∨ M0.length ≤ i) : Frm S M0 M' :=
  ⟨Nat.le_trans a.len b.len, fun i h1 h2 => by
    rw [b.at_ i (fun z => (h i z).elim h1 (fun q => absurd h2 (by omega))) (Nat.lt_of_lt_of_le h2 a.len)]
    exact a.at_ i h1 h2⟩
def Gd (b : List Nat) : Nat → Mm → PV → Prop
  | 0 => fun _ _ => False
  | k + 1 => fun M x =>
    match x with
    | .non => True
    | .bl _ => True
    | .int _ => True
    | .str s => s.length < 1000 ∧ PyData.canLay0 (.str s) = true
    | .tup xs => xs.length < 500 ∧ ∀ x ∈ xs, Gd b k M x
    | .ref n => n ∉ b ∧ ∃ xs, M[n]? = some (.lst xs) ∧ xs.length < 500 ∧ ∀ x ∈ xs, Gd b k M x
    | _ => False
theorem Gd.frm {b : List Nat} {M M' : Mm} (a : Frm b M M') : ∀ {k : Nat} {x : PV}, Gd b k M x → Gd b k M' x
  | 0, _, h => h.elim
  | k + 1, x, h => by
    cases x with
    | tup xs => exact ⟨h.1, fun x hx => (h.2 x hx).frm a⟩
    | ref n =>
      obtain ⟨h1, xs, h2, h3, h4⟩ := h
      exact ⟨h1, xs, a.get h2 h1, h3, fun x hx => (h4 x hx).frm a⟩
    | cl _ => exact h.elim
    | fn _ _ => exact h.elim
    | ptup _ => exact h.elim
    | _ => exact h
theorem Gd.up {b : List Nat} {k : Nat} {M : Mm} : ∀ {x : PV}, Gd b k M x → Gd b (k + 1) M x := by
  induction k with
  | zero => intro x h; exact h.elim
  | succ k ih =>
    intro x h
    cases x with
    | tup xs => exact ⟨h.1, fun x hx => ih (h.2 x hx)⟩
    | ref n =>
      obtain ⟨h1, xs, h2, h3, h4⟩ := h
      exact ⟨h1, xs, h2, h3, fun x hx => ih (h4 x hx)⟩
    | cl _ => exact h.elim
    | fn _ _ => exact h.elim
    | ptup _ => exact h.elim
    | _ => exact h
theorem Gd.le {b : List Nat} {k j : Nat} {M : Mm} {x : PV} (h : Gd b k M x) (hj : k ≤ j) : Gd b j M x := by
  induction hj with
  | refl => exact h
  | step _ ih => exact ih.up
theorem Gd.rd {b : List Nat} {M : Mm} : ∀ {k : Nat} {x : PV}, Gd b k M x → ∃ d, Rd (k + 1) M x d
  | 0, _, h => h.elim
  | k + 1, x, h => by
    cases x with
    | non => exact ⟨_, Rd.flat (x := .non) trivial⟩
    | bl v => exact ⟨_, Rd.flat (x := .bl v) trivial⟩
    | int v => exact ⟨_, Rd.flat (x := .int v) trivial⟩
    | str s => exact ⟨_, Rd.flat (x := .str s) h.2⟩
    | tup xs =>
      refine ⟨_, Rd.tup (g := fun x => (toD (k + 1) M x).getD .none) (fun x hx => ?_) (by omega)⟩
      obtain ⟨d, hd⟩ := (h.2 x hx).rd
      rw [hd.to]; exact hd
    | ref n =>
      obtain ⟨h1, xs, h2, h3, h4⟩ := h
      refine ⟨_, Rd.lst (g := fun x => (toD (k + 1) M x).getD .none) h2 (fun x hx => ?_) (by omega)⟩
      obtain ⟨d, hd⟩ := (h4 x hx).rd
      rw [hd.to]; exact hd
    | cl _ => exact h.elim
    | fn _ _ => exact h.elim
    | ptup _ => exact h.elim
end Mp
namespace Mp
open PySem L2
def Pt (R : PV → PV → Prop) (xs ys : List PV) : Prop := xs.length < 1000 ∧ xs.length = ys.length ∧ ∀ (i : Nat) (x y : PV), xs[i]? = some x → ys[i]? = some y → R x y
def Sm : Nat → Mm → PV → PV → Prop
  | 0 => fun _ _ _ => False
  | k + 1 => fun M x y =>
    match x, y with
    | .tup xs, .tup ys => Pt (Sm k M) xs ys
    | .ref n, .ref m => ∃ xs ys, M[n]? = some (.lst xs) ∧ M[m]? = some (.lst ys) ∧ Pt (Sm k M) xs ys
    | .non, .non => True
    | .bl a, .bl b => a = b
    | .int a, .int b => a = b
    | .str a, .str b => a = b
    | _, _ => False
theorem Sm.frm {M M' : Mm} (a : Frm [] M M') : ∀ {k : Nat} {x y : PV}, Sm k M x y → Sm k M' x y
  | 0, _, _, h => h.elim
  | k + 1, x, y, h => by
    cases x <;> cases y <;> first | exact h.elim | exact h | skip
    · exact ⟨h.1, h.2.1, fun i x y h1 h2 => (h.2.2 i x y h1 h2).frm a⟩
    · obtain ⟨xs, ys, h1, h2, h3, h4, h5⟩ := h
      exact ⟨xs, ys, a.get h1 (by simp), a.get h2 (by simp), h3, h4, fun i x y h1 h2 => (h5 i x y h1 h2).frm a⟩
theorem blsOf_rep : ∀ n : Nat, blsOf (List.replicate n (.bl true)) = some (List.replicate n true)
  | 0 => rfl
  | n + 1 => by simp [List.replicate_succ, blsOf, blsOf_rep n]
def HS (cf : CF) (k : Nat) : Prop := ∀ (M : Mm) (x y : PV), Sm k M x y → ∃ M', cf i_l_same [x, y] M = some (.bl true, M') ∧ Frm [] M M'
theorem same_all {cf : CF} {k : Nat} (H : HS cf k) {M : Mm} {x y : PV} {s t : Src} {xs ys : List PV} (hx : srcOf M x = some s) (hy : srcOf M y = some t) (hz : (s.isL && t.isL || s.isT && t.isT) = true)
    (gx : ∀ M', Frm [] M M' → ∀ i, s.get M' i = some xs[i]?) (gy : ∀ M', Frm [] M M' → ∀ i, t.get M' i = some ys[i]?) (hl : xs.length < 1000) (he : xs.length = ys.length) (h : ∀ (i : Nat) (x y : PV), xs[i]? = some x → ys[i]? = some y → Sm k M x y) :
    ∃ M', evE cf (.blt .all (.cons (.lc [2, 3] (.tup [2, 3]) (.zip (.var 0) (.var 1)) (.con (.bl true)) e1_l_same) .nil)) [some x, some y, none, none] M = some (.bl true, M') ∧ Frm [] M M' := by
  have hz3 : (s.isL && t.isL || s.isT && t.isT || s.isT && t.isL) = true := by rw [hz]; rfl
  obtain ⟨M1, e1, c1, F1⟩ := lc_inv (src := .zip s t) (bind := tgP (.tup [2, 3])) (c := fun sg M => evE cf (.con (.bl true)) sg M) (e := fun sg M => evE cf e1_l_same sg M) (d := M.length) (sg := [some x, some y, none, none]) (fun i N => N[M.length]? = some (.lst (List.replicate i (.bl true))) ∧ Frm [] M N) (n := xs.length) (M := M ++ [Ob.lst []]) (by omega)
    ⟨by simp, .app⟩
    (by
      intro i N hi hI
      obtain ⟨c1, F1⟩ := hI
      have hi2 : i < ys.length := by omega
      have a1 := gx N F1 i
      have a2 := gy N F1 i
      rw [List.getElem?_eq_getElem hi] at a1
      rw [List.getElem?_eq_getElem hi2] at a2
      have sm := h i xs[i] ys[i] (List.getElem?_eq_getElem hi) (List.getElem?_eq_getElem hi2)
      obtain ⟨N1, e2, F2⟩ := H N _ _ (sm.frm F1)
      refine ⟨.tup [xs[i], ys[i]], [some x, some y, some xs[i], some ys[i]], by simp [Src.get, a1, a2], rfl, .inl ⟨N, .bl true, N1, List.replicate i (.bl true), by simp [evE], ?_, by simp [lstAt, F2.get c1 (by simp)], by simp; omega, ?_, ?_⟩⟩
      · simp [e1_l_same, evE, evEs, e2]
      · have := lt_of (F2.get c1 (by simp))
        simp [this, List.replicate_succ']
      · exact (F1.trans F2).wr (Nat.le_refl _))
    (by
      intro N hI
      obtain ⟨c1, F1⟩ := hI
      have a1 := gx N F1 xs.length
      have a2 := gy N F1 xs.length
      rw [he] at a2
      simp at a1 a2
      rw [he] at a1 ⊢
      simp [Src.get, a1, a2])
  refine ⟨M1, ?_, F1⟩
  have hI : evI cf (.zip (.var 0) (.var 1)) [some x, some y, none, none] M = some (.zip s t, M) := by
    simp only [evI, evE, List.getElem?_cons_zero, List.getElem?_cons_succ, hx, hy]
    rw [if_pos hz3]
  have hE : evE cf (.lc [2, 3] (.tup [2, 3]) (.zip (.var 0) (.var 1)) (.con (.bl true)) e1_l_same) [some x, some y, none, none] M = some (.ref M.length, M1) := by
    rw [evE, hI]
    have hwp : wipeP [some x, some y, none, none] [2, 3] = [some x, some y, none, none] := rfl
    simp only [hwp, e1]; rfl
  generalize E.lc [2, 3] (.tup [2, 3]) (.zip (.var 0) (.var 1)) (.con (.bl true)) e1_l_same = q at hE
  simp [evE, evEs, hE, bltP, lstAt, c1, blsOf_rep]
theorem same_ok {cf : CF} {k : Nat} (H : HS cf k) {M : Mm} {x y : PV} (h : Sm (k + 1) M x y) : ∃ M', runD cf ir_l_same [x, y] M = some (.bl true, M') ∧ Frm [] M M' := by
  cases x with
  | tup xs =>
    cases y with
    | tup ys =>
      obtain ⟨h1, h2, h3⟩ := h
      obtain ⟨M', e, F⟩ := same_all H (M := M) (x := .tup xs) (y := .tup ys) (s := .tup xs) (t := .tup ys) rfl rfl rfl (fun _ _ _ => rfl) (fun _ _ _ => rfl) h1 h2 h3
      refine ⟨M', ?_, F⟩
      generalize hq : E.blt .all (.cons (.lc [2, 3] (.tup [2, 3]) (.zip (.var 0) (.var 1)) (.con (.bl true)) e1_l_same) .nil) = q at e
      simp [runD, ir_l_same, hq, evSs, evS, evE, evEs, isTy, tyOf, cmpP, bltP, h2, e]
    | _ => exact h.elim
  | ref n =>
    cases y with
    | ref m =>
      obtain ⟨xs, ys, q1, q2, h1, h2, h3⟩ := h
      obtain ⟨M', e, F⟩ := same_all H (M := M) (x := .ref n) (y := .ref m) (s := .lst n) (t := .lst m) (by simp [srcOf, lstAt, q1]) (by simp [srcOf, lstAt, q2]) rfl (fun N a i => by simp [Src.get, lstAt, a.get q1 (by simp)]) (fun N a i => by simp [Src.get, lstAt, a.get q2 (by simp)]) h1 h2 h3
      refine ⟨M', ?_, F⟩
      generalize hq : E.blt .all (.cons (.lc [2, 3] (.tup [2, 3]) (.zip (.var 0) (.var 1)) (.con (.bl true)) e1_l_same) .nil) = q at e
      simp [runD, ir_l_same, hq, evSs, evS, evE, evEs, isTy, tyOf, q1, q2, cmpP, bltP, h2, e]
    | _ => exact h.elim
  | non => cases y <;> first | exact h.elim | exact ⟨M, by simp [runD, ir_l_same, evSs, evS, evE, evEs, isTy, tyOf, cmpP, eqP, eqS], .refl⟩
  | bl b => cases y <;> first | exact h.elim | (cases (show b = _ from h); exact ⟨M, by simp [runD, ir_l_same, evSs, evS, evE, evEs, isTy, tyOf, cmpP, eqP, eqS], .refl⟩)
  | int b => cases y <;> first | exact h.elim | (cases (show b = _ from h); exact ⟨M, by simp [runD, ir_l_same, evSs, evS, evE, evEs, isTy, tyOf, cmpP, eqP, eqS], .refl⟩)
  | str b => cases y <;> first | exact h.elim | (cases (show b = _ from h); exact ⟨M, by simp [runD, ir_l_same, evSs, evS, evE, evEs, isTy, tyOf, cmpP, eqP, eqS], .refl⟩)
  | cl _ => cases y <;> exact h.elim
  | fn _ _ => cases y <;> exact h.elim
  | ptup _ => cases y <;> exact h.elim
theorem hs (j : Nat) : ∀ k, HS (cfN tab (j + k)) k
  | 0 => fun _ _ _ h => h.elim
  | k + 1 => fun _ _ _ h => same_ok (hs j k) h
theorem Sm.lst {k : Nat} {M : Mm} {n m : Nat} {xs : List PV} (h1 : M[n]? = some (.lst xs)) (h2 : M[m]? = some (.lst xs)) (hl : xs.length < 1000) (h : ∀ x ∈ xs, Sm k M x x) : Sm (k + 1) M (.ref n) (.ref m) :=
  ⟨xs, xs, h1, h2, hl, rfl, fun i x y a b => by rw [a] at b; cases b; exact h x (List.mem_of_getElem? a)⟩
theorem Sm.tup {k : Nat} {M : Mm} {xs : List PV} (hl : xs.length < 1000) (h : ∀ x ∈ xs, Sm k M x x) : Sm (k + 1) M (.tup xs) (.tup xs) :=
  ⟨hl, rfl, fun i x y a b => by rw [a] at b; cases b; exact h x (List.mem_of_getElem? a)⟩
theorem Sm.flat {k : Nat} {M : Mm} {x : PV} (h : flatP x = true) : Sm (k + 1) M x x := by
  cases x <;> simp [flatP] at h <;> simp [Sm]
end Mp
namespace Mp
open PySem L2
theorem cut_hi {xs : List PV} {u : Nat} : cutP xs none (some (u : Int)) = xs.take u := by
  unfold cutP
  rw [HT.sIx_nat, HT.sIx_none]
  rw [List.drop_zero, Nat.sub_zero]
  by_cases h : u ≤ xs.length
  · rw [Nat.min_eq_left h]
  · rw [Nat.min_eq_right (by omega), List.take_of_length_le (Nat.le_refl _), List.take_of_length_le (by omega)]
theorem lc_pure {src : Src} {bind : Mm → PV → Sg → Option Sg} {c e : Sg → Mm → R} {sg : Sg} {M1 : Mm} {xs : List PV} (p : PV → Bool) (g : PV → PV)
    (hs : ∀ acc i, src.get (M1 ++ [.lst acc]) i = some xs[i]?)
    (h : ∀ x ∈ xs, ∀ acc, ∃ sg1, bind (M1 ++ [.lst acc]) x sg = some sg1 ∧ c sg1 (M1 ++ [.lst acc]) = some (.bl (p x), M1 ++ [.lst acc]) ∧ (p x = true → e sg1 (M1 ++ [.lst acc]) = some (g x, M1 ++ [.lst acc]))) (hl : xs.length < 100000) :
    lcL src bind c e M1.length sg bigN 0 (M1 ++ [.lst []]) = some (M1 ++ [.lst ((xs.filter p).map g)]) := by
  obtain ⟨M', h1, h2⟩ := lc_inv (src := src) (bind := bind) (c := c) (e := e) (d := M1.length) (sg := sg) (fun i N => N = M1 ++ [.lst (((xs.take i).filter p).map g)]) (n := xs.length) (M := M1 ++ [.lst []]) hl (by simp)
    (by
      intro i N hi hN
      subst hN
      obtain ⟨sg1, q1, q2, q3⟩ := h xs[i] (List.getElem_mem hi) (((xs.take i).filter p).map g)
      refine ⟨xs[i], sg1, by rw [hs, List.getElem?_eq_getElem hi], q1, ?_⟩
      have hsp : xs.take (i + 1) = xs.take i ++ [xs[i]] := by rw [List.take_succ_eq_append_getElem hi]
      cases hp : p xs[i] with
      | true =>
        rw [hp] at q2
        refine .inl ⟨_, _, _, ((xs.take i).filter p).map g, q2, q3 hp, by simp [lstAt], ?_, ?_⟩
        · have := List.length_filter_le p (xs.take i)
          have h2 : (xs.take i).length ≤ i := by simp; omega
          simp; omega
        · rw [hsp, List.filter_append, List.map_append]; simp [hp]
      | false =>
        rw [hp] at q2
        refine .inr ⟨_, q2, ?_⟩
        rw [hsp, List.filter_append, List.map_append]; simp [hp])
    (by intro N hN; subst hN; rw [hs]; simp)
  rw [List.take_length] at h2
  rw [h1, h2]
theorem getD_putS {kvs : List (Key × PV)} {k : Key} {v : PV} : getD (putD kvs k v) k = some v := by
  unfold getD putD
  split
  · rename_i h
    induction kvs with
    | nil => simp at h
    | cons a r ih =>
      by_cases e : a.1 = k
      · simp [e]
      · simp only [List.any_cons, decide_eq_false e, Bool.false_or] at h
        simpa [e] using ih h
  · rename_i h
    simp only [List.any_eq_true, decide_eq_true_eq, not_exists, not_and] at h
    have : kvs.find? (fun kv => decide (kv.1 = k)) = none := List.find?_eq_none.mpr fun x hx => by simpa using h x hx
    simp [List.find?_append, this]
theorem getD_putN {kvs : List (Key × PV)} {k k' : Key} {v : PV} (hk : k' ≠ k) : getD (putD kvs k v) k' = getD kvs k' := by
  unfold getD putD
  split
  · rename_i h
    clear h
    induction kvs with
    | nil => rfl
    | cons a r ih =>
      by_cases e : a.1 = k
      · have e2 : ¬ k = k' := fun q => hk q.symm
        have e3 : ¬ a.1 = k' := fun q => hk (q.symm.trans e)
        simpa [e, e2, e3, List.find?_cons] using ih
      · by_cases e3 : a.1 = k'
        · simp [e, e3, List.find?_cons, hk]
        · simpa [e, e3, List.find?_cons] using ih
  · simp [List.find?_append, Ne.symm hk]
theorem getD_mem {kvs : List (Key × PV)} {k : Key} {v : PV} (h : getD kvs k = some v) : (k, v) ∈ kvs := by
  unfold getD at h
  obtain ⟨kv, h1, h2⟩ := Option.map_eq_some_iff.mp h
  have h3 := List.mem_of_find?_eq_some h1
  have h4 := List.find?_some h1
  simp at h4
  rw [← h2, ← h4]; exact h3
theorem putD_len (kvs : List (Key × PV)) (k : Key) (v : PV) : (putD kvs k v).length ≤ kvs.length + 1 := by
  unfold putD; split <;> simp
theorem putD_mem {kvs : List (Key × PV)} {k : Key} {v : PV} {x : Key × PV} (h : x ∈ putD kvs k v) : x ∈ kvs ∨ x = (k, v) := by
  unfold putD at h
  split at h
  · obtain ⟨y, h1, h2⟩ := List.mem_map.mp h
    split at h2
    · rename_i e; right; rw [← h2, e]
    · left; rw [← h2]; exact h1
  · rcases List.mem_append.mp h with h | h
    · exact .inl h
    · right; simpa using h
def nonB : PV → Bool
  | .non => true | _ => false
theorem lc_lst {cf : CF} {own : List Nat} {t : Tg} {it : It} {c e : E} {sg : Sg} {M M1 : Mm} {s : Src} {xs : List PV} (p : PV → Bool) (g : PV → PV) (hI : evI cf it sg M = some (s, M1)) (hs : ∀ acc i, s.get (M1 ++ [.lst acc]) i = some xs[i]?) (hl : xs.length < 10000)
    (turn : ∀ x ∈ xs, ∀ acc, ∃ sg1, tgP t (M1 ++ [.lst acc]) x (wipeP sg own) = some sg1 ∧ evE cf c sg1 (M1 ++ [.lst acc]) = some (.bl (p x), M1 ++ [.lst acc]) ∧ (p x = true → evE cf e sg1 (M1 ++ [.lst acc]) = some (g x, M1 ++ [.lst acc]))) :
    evE cf (.lc own t it c e) sg M = some (.ref M1.length, M1 ++ [Ob.lst ((xs.filter p).map g)]) := by
  have hlc := lc_pure (src := s) (bind := tgP t) (c := fun sg M => evE cf c sg M) (e := fun sg M => evE cf e sg M) (sg := wipeP sg own) (M1 := M1) (xs := xs) p g hs (fun x hx acc => turn x hx acc) (by omega)
  rw [evE, hI]; simp only [hlc]; rfl
structure En where
  key : Str
  val : PV
  gone : Bool
  pas : Option Int
def En.pv (e : En) : PV := match e.pas with | none => .non | some i => .int i
def En.sl (e : En) : List (Option PV) := [some (.bl e.gone), some (.str e.key), some e.pv, some e.val]
structure LS where
  hold : Int
  gs : List PV
  es : List En
  pl : List (Key × PV)
  tb : List (Key × List (Key × PV))
  co : List (PV × List (Key × PV))
  tm : Int
structure LA where
  e : Nat
  p : Nat
  t : Nat
  c : Nat
  xs : List Nat
  ts : List Nat
  cs : List Nat
def LA.all (A : LA) (o : Nat) : List Nat := o :: A.e :: A.p :: A.t :: A.c :: (A.xs ++ (A.ts ++ A.cs))
def flds (A : LA) (S : LS) : List (Str × PV) := [("own_hold", .int S.hold), ("own_guards", .tup S.gs), ("own_entries", .ref A.e), ("own_places", .ref A.p), ("own_tables", .ref A.t), ("own_copies", .ref A.c), ("own_time", .int S.tm)]
def tbRf (A : LA) (S : LS) : List (Key × PV) := (S.tb.zip A.ts).map fun q => (q.1.1, .ref q.2)
def coL (A : LA) (S : LS) : List PV := (S.co.zip A.cs).map fun q => .tup [q.1.1, .ref q.2]
structure LgAt (M : Mm) (o : Nat) (A : LA) (S : LS) : Prop where
  o_ : M[o]? = some (.ins "Log" (flds A S))
  e_ : M[A.e]? = some (.lst (A.xs.map .ref))
  p_ : M[A.p]? = some (.dic S.pl)
  t_ : M[A.t]? = some (.dic (tbRf A S))
  c_ : M[A.c]? = some (.lst (coL A S))
  xl : A.xs.length = S.es.length
  tl : A.ts.length = S.tb.length
  cl : A.cs.length = S.co.length
  x_ : ∀ (i n : Nat) (e : En), A.xs[i]? = some n → S.es[i]? = some e → M[n]? = some (.slt "Entry" e.sl)
  d_ : ∀ (i n : Nat) (q : Key × List (Key × PV)), A.ts[i]? = some n → S.tb[i]? = some q → M[n]? = some (.dic q.2)
  k_ : ∀ (i n : Nat) (q : PV × List (Key × PV)), A.cs[i]? = some n → S.co[i]? = some q → M[n]? = some (.dic q.2)
  nd : (A.all o).Nodup
theorem LgAt.frm {M M' : Mm} {o : Nat} {A : LA} {S : LS} {T : List Nat} (h : LgAt M o A S) (F : Frm T M M') (hT : ∀ i ∈ A.all o, i ∉ T) : LgAt M' o A S :=
  ⟨F.get h.o_ (hT _ (by simp [LA.all])), F.get h.e_ (hT _ (by simp [LA.all])), F.get h.p_ (hT _ (by simp [LA.all])), F.get h.t_ (hT _ (by simp [LA.all])), F.get h.c_ (hT _ (by simp [LA.all])), h.xl, h.tl, h.cl,
   fun i n e a b => F.get (h.x_ i n e a b) (hT _ (by simp [LA.all, List.mem_of_getElem? a])), fun i n e a b => F.get (h.d_ i n e a b) (hT _ (by simp [LA.all, List.mem_of_getElem? a])), fun i n e a b => F.get (h.k_ i n e a b) (hT _ (by simp [LA.all, List.mem_of_getElem? a])), h.nd⟩
theorem LgAt.lt {M : Mm} {o : Nat} {A : LA} {S : LS} (h : LgAt M o A S) : ∀ i ∈ A.all o, i < M.length := by
  intro i hi
  simp only [LA.all, List.mem_cons, List.mem_append] at hi
  rcases hi with rfl | rfl | rfl | rfl | rfl | hi | hi | hi
  · exact lt_of h.o_
  · exact lt_of h.e_
  · exact lt_of h.p_
  · exact lt_of h.t_
  · exact lt_of h.c_
  · obtain ⟨j, hj⟩ := List.mem_iff_getElem?.mp hi
    have hl : j < S.es.length := by rw [← h.xl]; exact (List.getElem?_eq_some_iff.mp hj).1
    exact lt_of (h.x_ j i _ hj (List.getElem?_eq_getElem hl))
  · obtain ⟨j, hj⟩ := List.mem_iff_getElem?.mp hi
    have hl : j < S.tb.length := by rw [← h.tl]; exact (List.getElem?_eq_some_iff.mp hj).1
    exact lt_of (h.d_ j i _ hj (List.getElem?_eq_getElem hl))
  · obtain ⟨j, hj⟩ := List.mem_iff_getElem?.mp hi
    have hl : j < S.co.length := by rw [← h.cl]; exact (List.getElem?_eq_some_iff.mp hj).1
    exact lt_of (h.k_ j i _ hj (List.getElem?_eq_getElem hl))
theorem LgAt.app {M : Mm} {L : List Ob} {o : Nat} {A : LA} {S : LS} (h : LgAt M o A S) : LgAt (M ++ L) o A S := h.frm (T := []) .app (by simp)
section
variable {cf : CF} {sg : Sg} {M M1 : Mm} {o : Nat} {A : LA} {S : LS} {a : E}
theorem LgAt.ins (h : LgAt M o A S) : insAt M "Log" o = some (flds A S) := by simp [insAt, h.o_]
end
def LS.old (S : LS) (e : En) : Bool := match e.pas with | none => false | some p => decide (p + S.hold ≤ S.tm)
end Mp
namespace Mp
open PySem L2
structure WF (S : LS) : Prop where
  gs : ∀ g ∈ S.gs, ∃ (s : Str) (m : Int), g = .tup [.str s, .int m]
  pv : ∀ kv ∈ S.pl, ∃ i : Int, kv.2 = .int i
  cv : ∀ q ∈ S.co, ∃ i : Int, q.1 = .int i
  ev : ∀ e ∈ S.es, e.val = .non ∨ ∃ i : Int, e.val = .int i
  gl : S.gs.length < 1000
  el : S.es.length < 1000
  pn : S.pl.length < 1000
  tn : S.tb.length < 1000
  cn : S.co.length < 1000
  tk : S.tb.map (·.1) = S.pl.map (·.1)
  td : ∀ q ∈ S.tb, q.2.length < 1000
  kd : ∀ q ∈ S.co, q.2.length < 1000
  kn : (S.pl.map (·.1)).Nodup
def toI : PV → Int
  | .int i => i | _ => 0
def LS.g1 (S : LS) (acc : List PV) : PV → List PV
  | .tup [.str s, .int m] => if s = "copy" then acc ++ cutP (S.co.map (·.1)) (some m) (some (m + 1)) else (match getD S.pl (.inl m) with | some v => acc ++ [v] | none => acc)
  | _ => acc
def LS.gf (S : LS) (k : Nat) : List PV := (S.gs.take k).foldl S.g1 [.int S.es.length]
def LS.lim (S : LS) : Int := (minI ((S.gf S.gs.length).map toI)).getD 0
end Mp
namespace Mp
open PySem L2
theorem ix_inj {l : List Nat} (h : l.Nodup) {i j n : Nat} (a : l[i]? = some n) (b : l[j]? = some n) : i = j := by
  obtain ⟨h1, e1⟩ := List.getElem?_eq_some_iff.mp a
  obtain ⟨h2, e2⟩ := List.getElem?_eq_some_iff.mp b
  exact (List.getElem_inj h).mp (e1.trans e2.symm)
def LS.goes (S : LS) (l : Int) (i : Nat) (e : En) : Bool := nonB e.val && (!e.gone && (S.old e && decide ((i : Int) < l)))
def LS.up (S : LS) (l : Int) : Nat → List En
  | 0 => S.es
  | k + 1 => match S.es[k]? with | some e => if S.goes l k e then (S.up l k).set k { e with gone := true } else S.up l k | none => S.up l k
def LS.lg (S : LS) : LS := { S with es := S.up S.lim S.es.length }
theorem up_len (S : LS) (l : Int) : ∀ k, (S.up l k).length = S.es.length
  | 0 => rfl
  | k + 1 => by
    have ih := up_len S l k
    unfold LS.up
    split
    · split
      · simp [ih]
      · exact ih
    · exact ih
theorem up_mem (S : LS) (l : Int) : ∀ k e, e ∈ S.up l k → ∃ e0 ∈ S.es, e.val = e0.val ∧ e.key = e0.key
  | 0, e, h => ⟨e, h, rfl, rfl⟩
  | k + 1, e, h => by
    unfold LS.up at h
    split at h
    · rename_i e1 he1
      split at h
      · rcases List.mem_or_eq_of_mem_set h with h | h
        · exact up_mem S l k e h
        · subst h; exact ⟨e1, List.mem_of_getElem? he1, rfl, rfl⟩
      · exact up_mem S l k e h
    · exact up_mem S l k e h
theorem WF.es {S : LS} (w : WF S) {es : List En} (hl : es.length < 1000) (h : ∀ e ∈ es, e.val = .non ∨ ∃ i : Int, e.val = .int i) : WF { S with es := es } := ⟨w.gs, w.pv, w.cv, h, w.gl, hl, w.pn, w.tn, w.cn, w.tk, w.td, w.kd, w.kn⟩
theorem WF.lg {S : LS} (w : WF S) : WF S.lg := w.es (by rw [up_len]; exact w.el) fun e he => by
  obtain ⟨e0, h0, h1, _⟩ := up_mem S _ _ e he
  rw [h1]; exact w.ev e0 h0
theorem WF.tm {S : LS} (w : WF S) (t : Int) : WF { S with tm := t } := ⟨w.gs, w.pv, w.cv, w.ev, w.gl, w.el, w.pn, w.tn, w.cn, w.tk, w.td, w.kd, w.kn⟩
def LS.go (S : LS) : LS := LS.lg { S with tm := S.tm + 1 }
theorem WF.go {S : LS} (w : WF S) : WF S.go := (w.tm _).lg
end Mp
namespace Mp
open PySem L2
def LS.add (S : LS) (k : Str) (v : PV) : LS := { S with es := S.es ++ [⟨k, v, false, none⟩] }
theorem WF.add {S : LS} (w : WF S) {k : Str} {v : PV} (hv : v = .non ∨ ∃ i : Int, v = .int i) (hl : S.es.length + 1 < 1000) : WF (S.add k v) := w.es (by simp; omega) fun e he => by
  rcases List.mem_append.mp he with he | he
  · exact w.ev e he
  · simp at he; subst he; exact hv
def LS.row (i : Nat) (e : En) : PV := .tup [.int i, .str e.key, e.val]
def LS.th (S : LS) : List PV := (S.es.zipIdx.filter fun q => !q.1.gone).map fun q => .tup [.int q.2, .str q.1.key, q.1.val]
end Mp
namespace Mp
open PySem L2
end Mp
namespace Mp
open PySem L2
abbrev Tab := List (Key × PV)
theorem putD_keys (kvs : List (Key × PV)) (k : Key) (v : PV) : (putD kvs k v).map (·.1) = if (kvs.any fun q => decide (q.1 = k)) = true then kvs.map (·.1) else kvs.map (·.1) ++ [k] := by
  unfold putD
  split
  · rw [List.map_map]
    refine List.map_congr_left fun q _ => ?_
    by_cases e : q.1 = k <;> simp [e]
  · simp
end Mp
namespace Mp
open PySem L2
def LS.tabOf (S : LS) (k : Key) : Tab := ((S.tb.find? fun q => decide (q.1 = k)).map (·.2)).getD []
end Mp
namespace Mp
open PySem L2
def pin (b u : Int) : PV → Bool
  | .tup (.int i :: _) => decide (b ≤ i) && decide (i < u)
  | _ => false
def LS.rows (S : LS) (b u : Int) : List PV := S.th.filter (pin b u)
def upd1 (t : Tab) : PV → Tab
  | .tup [_, .str k, v] => if nonB v then dropD t (.inr k) else putD (dropD t (.inr k)) (.inr k) v
  | _ => t
def LS.rt (S : LS) (r b u : Int) : Tab := (S.rows b u).foldl upd1 (S.tabOf (.inl r))
end Mp
namespace Mp
open PySem L2
def tblOf (t : Tab) : List PV := match kvsS t with | some l => (sortS l).map (fun e => .tup [.str e.1, e.2]) | none => []
def LS.ks (S : LS) (k : Str) : List Nat := (S.es.zipIdx.filter fun q => decide (q.1.key = k)).map (·.2)
end Mp
namespace Mp
open PySem L2
def LS.wrB (S : LS) (b : Int) (k : Str) : Bool := match (S.ks k).getLast? with
  | some i => (match S.es[i]? with | some e => nonB e.val && decide ((i : Int) < b) | none => false)
  | none => false
def LS.wrg (S : LS) (b : Int) (l : List (Str × PV)) : List PV := (l.filter fun e => S.wrB b e.1).map fun e => .str e.1
def LS.cps (S : LS) : List PV := S.co.map fun q => .tup [q.1, .tup (tblOf q.2)]
end Mp
namespace Mp
open PySem L2
def AT : Nat → Mm → PV → PV → Prop
  | 0 => fun _ _ _ => False
  | k + 1 => fun M x y =>
    match x with
    | .tup xs => ∃ ys, y = .tup ys ∧ Pt (AT k M) xs ys
    | .ref n => ∃ xs ys, M[n]? = some (.lst xs) ∧ y = .tup ys ∧ Pt (AT k M) xs ys
    | .non => y = x
    | .bl _ => y = x
    | .int _ => y = x
    | .str _ => y = x
    | _ => False
theorem AT.frm {M M' : Mm} (a : Frm [] M M') : ∀ {k : Nat} {x y : PV}, AT k M x y → AT k M' x y
  | 0, _, _, h => h.elim
  | k + 1, x, y, h => by
    cases x with
    | tup xs =>
      obtain ⟨ys, h1, h2, h3, h4⟩ := h
      exact ⟨ys, h1, h2, h3, fun i x y a1 a2 => (h4 i x y a1 a2).frm a⟩
    | ref n =>
      obtain ⟨xs, ys, h0, h1, h2, h3, h4⟩ := h
      exact ⟨xs, ys, a.get h0 (by simp), h1, h2, h3, fun i x y a1 a2 => (h4 i x y a1 a2).frm a⟩
    | cl _ => exact h.elim
    | fn _ _ => exact h.elim
    | ptup _ => exact h.elim
    | _ => exact h
def Pl : Nat → PV → Prop
  | 0 => fun _ => False
  | k + 1 => fun x =>
    match x with
    | .tup xs => xs.length < 1000 ∧ ∀ x ∈ xs, Pl k x
    | .non => True
    | .bl _ => True
    | .int _ => True
    | .str _ => True
    | _ => False
theorem Pl.at_ : ∀ {k : Nat} {M : Mm} {x : PV}, Pl k x → AT k M x x
  | 0, _, _, h => h.elim
  | k + 1, M, x, h => by
    cases x with
    | tup xs => exact ⟨xs, rfl, h.1, rfl, fun i x y a b => by rw [a] at b; cases b; exact (h.2 x (List.mem_of_getElem? a)).at_⟩
    | ref n => exact h.elim
    | cl _ => exact h.elim
    | fn _ _ => exact h.elim
    | ptup _ => exact h.elim
    | _ => exact rfl
theorem Pl.sm : ∀ {k : Nat} {M : Mm} {x : PV}, Pl k x → Sm k M x x
  | 0, _, _, h => h.elim
  | k + 1, M, x, h => by
    cases x with
    | tup xs => exact Sm.tup h.1 fun x hx => (h.2 x hx).sm
    | ref n => exact h.elim
    | cl _ => exact h.elim
    | fn _ _ => exact h.elim
    | ptup _ => exact h.elim
    | non => exact trivial
    | bl _ => exact rfl
    | int _ => exact rfl
    | str _ => exact rfl
def HAt (cf : CF) (k : Nat) : Prop := ∀ (M : Mm) (x y : PV), AT k M x y → ∃ M', cf i_as_tuples [x] M = some (y, M') ∧ Frm [] M M'
theorem at_all {cf : CF} {k : Nat} (H : HAt cf k) {M : Mm} {x : PV} {s : Src} {xs ys : List PV} (hx : srcOf M x = some s)
    (gx : ∀ M', Frm [] M M' → ∀ i, s.get M' i = some xs[i]?) (h : Pt (AT k M) xs ys) :
    ∃ M', evE cf (.blt .tuple (.cons (.lc [1] (.name 1) (.seq (.var 0)) (.con (.bl true)) (.call i_as_tuples (.cons (.var 1) .nil))) .nil)) [some x, none] M = some (.tup ys, M') ∧ Frm [] M M' := by
  obtain ⟨hl, he, hp⟩ := h
  obtain ⟨M1, e1, c1, F1⟩ := lc_inv (src := s) (bind := tgP (.name 1)) (c := fun sg M => evE cf (.con (.bl true)) sg M) (e := fun sg M => evE cf (.call i_as_tuples (.cons (.var 1) .nil)) sg M) (d := M.length) (sg := [some x, none]) (fun i N => N[M.length]? = some (.lst (ys.take i)) ∧ Frm [] M N) (n := xs.length) (M := M ++ [Ob.lst []]) (by omega)
    ⟨by simp, .app⟩
    (by
      intro i N hi hI
      obtain ⟨c1, F1⟩ := hI
      have hi2 : i < ys.length := by omega
      have a1 := gx N F1 i
      rw [List.getElem?_eq_getElem hi] at a1
      have sm := hp i xs[i] ys[i] (List.getElem?_eq_getElem hi) (List.getElem?_eq_getElem hi2)
      obtain ⟨N1, e2, F2⟩ := H N _ _ (sm.frm F1)
      have c2 := F2.get c1 (by simp)
      refine ⟨xs[i], [some x, some xs[i]], a1, rfl, .inl ⟨N, ys[i], N1, ys.take i, e_con, e_call (es_one (e_var rfl)) e2, by simp [lstAt, c2], ?_, ?_, (F1.trans F2).wr (Nat.le_refl _)⟩⟩
      · have : (ys.take i).length ≤ i := by simp; omega
        omega
      · rw [List.getElem?_set_self (lt_of c2), List.take_succ, List.getElem?_eq_getElem hi2]
        rfl)
    (by
      intro N hI
      rw [gx N hI.2 xs.length]
      simp)
  rw [he, List.take_length] at c1
  refine ⟨M1, ?_, F1⟩
  have hI : evI cf (.seq (.var 0)) [some x, none] M = some (s, M) := by rw [evI, e_var (v := x) rfl]; simp [hx]
  have hE : evE cf (.lc [1] (.name 1) (.seq (.var 0)) (.con (.bl true)) (.call i_as_tuples (.cons (.var 1) .nil))) [some x, none] M = some (.ref M.length, M1) := by
    rw [evE, hI]
    have hwp : wipeP [some x, none] [1] = [some x, none] := rfl
    simp only [hwp, e1]; rfl
  exact e_blt (es_one hE) (by simp only [bltP, lstAt, c1, Option.map_some])
theorem at_ok {cf : CF} {k : Nat} (H : HAt cf k) {M : Mm} {x y : PV} (h : AT (k + 1) M x y) : ∃ M', runD cf ir_as_tuples [x] M = some (y, M') ∧ Frm [] M M' := by
  cases x with
  | tup xs =>
    obtain ⟨ys, rfl, hp⟩ := h
    obtain ⟨M', e, F⟩ := at_all H (x := .tup xs) (s := .tup xs) rfl (fun _ _ _ => rfl) hp
    exact ⟨M', run_ret rfl (ss_ret (e_iteT (e_isi (e_var (v := .tup xs) rfl) rfl rfl) e)), F⟩
  | ref n =>
    obtain ⟨xs, ys, h0, rfl, hp⟩ := h
    obtain ⟨M', e, F⟩ := at_all H (x := .ref n) (s := .lst n) (by simp [srcOf, lstAt, h0]) (fun N a i => by simp [Src.get, lstAt, a.get h0 (by simp)]) hp
    exact ⟨M', run_ret rfl (ss_ret (e_iteT (e_isi (e_var (v := .ref n) rfl) (by simp [isTy, tyOf, h0]) (by simp [h0])) e)), F⟩
  | cl _ => exact h.elim
  | fn _ _ => exact h.elim
  | ptup _ => exact h.elim
  | non => cases h; exact ⟨M, run_ret rfl (ss_ret (e_iteF (e_isi (e_var (v := .non) rfl) rfl rfl) (e_var rfl))), .refl⟩
  | bl b => cases h; exact ⟨M, run_ret rfl (ss_ret (e_iteF (e_isi (e_var (v := .bl b) rfl) rfl rfl) (e_var rfl))), .refl⟩
  | int b => cases h; exact ⟨M, run_ret rfl (ss_ret (e_iteF (e_isi (e_var (v := .int b) rfl) rfl rfl) (e_var rfl))), .refl⟩
  | str b => cases h; exact ⟨M, run_ret rfl (ss_ret (e_iteF (e_isi (e_var (v := .str b) rfl) rfl rfl) (e_var rfl))), .refl⟩
theorem hat (j : Nat) : ∀ k, HAt (cfN tab (j + k)) k
  | 0 => fun _ _ _ h => h.elim
  | k + 1 => fun _ _ _ h => at_ok (hat j k) h
structure LoA (M0 M : Mm) (o : Nat) (A : LA) (S : LS) (rs : List (Nat × Ob)) : Prop where
  at_ : LgAt M o A S
  wf : WF S
  ge : ∀ i ∈ A.all o, M0.length ≤ i
  fr : Frm [] M0 M
  rs_ : ∀ q ∈ rs, q.1 ∉ A.all o ∧ M[q.1]? = some q.2
def Lo (M0 M : Mm) (o : Nat) (S : LS) (rs : List (Nat × Ob)) : Prop := ∃ A, LoA M0 M o A S rs
theorem LoA.step {M0 M M' : Mm} {o : Nat} {A A' : LA} {S S' : LS} {rs : List (Nat × Ob)} (h : LoA M0 M o A S rs) (L : LgAt M' o A' S') (w : WF S') (hA : ∀ i ∈ A'.all o, i ∈ A.all o ∨ M.length ≤ i) (F : Frm (A.all o) M M') : LoA M0 M' o A' S' rs := by
  refine ⟨L, w, fun i hi => ?_, h.fr.comp' F fun i hi => .inr (h.ge i hi), fun q hq => ?_⟩
  · rcases hA i hi with h1 | h1
    · exact h.ge i h1
    · exact Nat.le_trans h.fr.len h1
  · obtain ⟨h1, h2⟩ := h.rs_ q hq
    refine ⟨fun z => ?_, F.get h2 h1⟩
    rcases hA _ z with h3 | h3
    · exact h1 h3
    · have := lt_of h2; omega
theorem LoA.more {M0 M M' : Mm} {o : Nat} {A : LA} {S : LS} {rs : List (Nat × Ob)} (h : LoA M0 M o A S rs) (F : Frm [] M M') : LoA M0 M' o A S rs := h.step (h.at_.frm F (by simp)) h.wf (fun i hi => .inl hi) (F.mono (by simp))
theorem LoA.new {M0 M : Mm} {o : Nat} {A : LA} {S : LS} {rs : List (Nat × Ob)} (h : LoA M0 M o A S rs) {n : Nat} {x : Ob} (hn : n ∉ A.all o) (hx : M[n]? = some x) : LoA M0 M o A S ((n, x) :: rs) :=
  ⟨h.at_, h.wf, h.ge, h.fr, fun q hq => by
    rcases List.mem_cons.mp hq with rfl | hq
    · exact ⟨hn, hx⟩
    · exact h.rs_ q hq⟩
theorem LoA.fresh {M0 M : Mm} {o : Nat} {A : LA} {S : LS} {rs : List (Nat × Ob)} (h : LoA M0 M o A S rs) {n : Nat} (hn : M.length ≤ n) : n ∉ A.all o := fun z => by have := h.at_.lt n z; omega
theorem Lo.more {M0 M M' : Mm} {o : Nat} {S : LS} {rs : List (Nat × Ob)} (h : Lo M0 M o S rs) (F : Frm [] M M') : Lo M0 M' o S rs := h.elim fun A a => ⟨A, a.more F⟩
theorem Lo.get {M0 M : Mm} {o : Nat} {S : LS} {rs : List (Nat × Ob)} (h : Lo M0 M o S rs) {q : Nat × Ob} (hq : q ∈ rs) : M[q.1]? = some q.2 := h.elim fun A a => (a.rs_ q hq).2
theorem Lo.fr {M0 M : Mm} {o : Nat} {S : LS} {rs : List (Nat × Ob)} (h : Lo M0 M o S rs) : Frm [] M0 M := h.elim fun A a => a.fr
theorem Lo.add {M0 M : Mm} {o : Nat} {S : LS} {rs : List (Nat × Ob)} (h : Lo M0 M o S rs) (x : Ob) : Lo M0 (M ++ [x]) o S ((M.length, x) :: rs) := by
  obtain ⟨A, a⟩ := h
  exact ⟨A, (a.more .app).new (a.fresh (Nat.le_refl _)) get_last⟩
theorem Lo.chg {M0 M : Mm} {o n : Nat} {S : LS} {x y : Ob} {rs : List (Nat × Ob)} (h : Lo M0 M o S ((n, x) :: rs)) (hm : M0.length ≤ n) (hr : ∀ q ∈ rs, q.1 ≠ n) : Lo M0 (M.set n y) o S ((n, y) :: rs) := by
  obtain ⟨A, a⟩ := h
  obtain ⟨h1, h2⟩ := a.rs_ (n, x) (by simp)
  have F : Frm [n] M (M.set n y) := Frm.set (by simp)
  refine ⟨A, a.at_.frm F (fun i hi => ?_), a.wf, a.ge, a.fr.wr hm, fun q hq => ?_⟩
  · simp; rintro rfl; exact h1 hi
  · rcases List.mem_cons.mp hq with rfl | hq
    · exact ⟨h1, by rw [List.getElem?_set_self (lt_of h2)]⟩
    · obtain ⟨h3, h4⟩ := a.rs_ q (by simp [hq])
      exact ⟨h3, F.get h4 (by simpa using hr q hq)⟩
end Mp
namespace Mp
open PySem L2
inductive Ev where
  | put (k : Str) (v : Int) | drop (k : Str) | join (r : Int) | read (r u : Int) | save (r : Int) | load (r : Int) (c : Nat) | wait
def Ev.pv : Ev → PV
  | .put k v => .tup [.str "put", .str k, .int v]
  | .drop k => .tup [.str "drop", .str k]
  | .join r => .tup [.str "join", .int r]
  | .read r u => .tup [.str "read", .int r, .int u]
  | .save r => .tup [.str "save", .int r]
  | .load r c => .tup [.str "load", .int r, .int c]
  | .wait => .tup [.str "wait"]
end Mp
namespace Mp
open PySem L2
def LS.new (hold : Int) (gs : List PV) : LS := ⟨hold, gs, [], [], [], [], 0⟩
def GsOk (gs : List PV) : Prop := gs.length < 1000 ∧ ∀ g ∈ gs, ∃ (s : Str) (m : Int), g = .tup [.str s, .int m]
theorem WF.new {hold : Int} {gs : List PV} (h : GsOk gs) : WF (LS.new hold gs) := ⟨h.2, by simp [LS.new], by simp [LS.new], by simp [LS.new], h.1, by simp [LS.new], by simp [LS.new], by simp [LS.new], by simp [LS.new], rfl, by simp [LS.new], by simp [LS.new], by simp [LS.new]⟩
end Mp
namespace Mp
open PySem L2
def Ct (M : Mm) (x y : PV) : Prop := (x = y ∧ Pl 4 x) ∨ ∃ n m xs, x = .ref n ∧ y = .ref m ∧ M[n]? = some (.lst xs) ∧ M[m]? = some (.lst xs) ∧ xs.length < 1000 ∧ ∀ z ∈ xs, Pl 4 z
def CtL (M : Mm) : List PV → List PV → Prop
  | [], [] => True
  | x :: xs, y :: ys => Ct M x y ∧ CtL M xs ys
  | _, _ => False
theorem Pl.up {k : Nat} : ∀ {x : PV}, Pl k x → Pl (k + 1) x := by
  induction k with
  | zero => intro x h; exact h.elim
  | succ k ih =>
    intro x h
    cases x with
    | tup xs => exact ⟨h.1, fun x hx => ih (h.2 x hx)⟩
    | ref _ => exact h.elim
    | cl _ => exact h.elim
    | fn _ _ => exact h.elim
    | ptup _ => exact h.elim
    | _ => exact h
theorem Ct.sm {M : Mm} {x y : PV} (h : Ct M x y) : Sm 5 M x y := by
  rcases h with ⟨rfl, h⟩ | ⟨n, m, xs, rfl, rfl, h1, h2, h3, h4⟩
  · exact h.up.sm
  · exact Sm.lst h1 h2 h3 fun x hx => (h4 x hx).sm
theorem CtL.at_ {M : Mm} : ∀ {xs ys : List PV}, CtL M xs ys → xs.length = ys.length ∧ ∀ (i : Nat) (x y : PV), xs[i]? = some x → ys[i]? = some y → Sm 5 M x y
  | [], [], _ => ⟨rfl, by simp⟩
  | x :: xs, y :: ys, h => by
    obtain ⟨h1, h2⟩ := h
    obtain ⟨h3, h4⟩ := CtL.at_ h2
    refine ⟨by simp [h3], fun i p q a b => ?_⟩
    cases i with
    | zero => simp at a b; subst a; subst b; exact h1.sm
    | succ i => simp at a b; exact h4 i p q a b
  | [], _ :: _, h => h.elim
  | _ :: _, [], h => h.elim
def srt (l : List (Str × PV)) : List PV := (sortS l).map fun e => .tup [.str e.1, e.2]
structure Fin (S : LS) (r : Int) (b : Int) (l : List (Str × PV)) : Prop where
  g : getD S.pl (.inl r) = some (.int b)
  k : kvsS (S.tabOf (.inl r)) = some l
  n : l.length < 64
  s : ∀ e ∈ l, S.ks e.1 ≠ []
theorem Fin.tb {S : LS} {r b : Int} {l : List (Str × PV)} (h : Fin S r b l) : tblOf (S.tabOf (.inl r)) = srt l := by simp [tblOf, h.k, srt]
end Mp
namespace Mp
open PySem L2
def Ev.ent : Ev → Bool
  | .put _ _ => true | .drop _ => true | _ => false
def many (es : List Ev) (t : Nat) : Nat := ((es.take t).filter Ev.ent).length
def Ev.word : Ev → String
  | .put _ _ => "put" | .drop _ => "drop" | .join _ => "join" | .read _ _ => "read" | .save _ => "save" | .load _ _ => "load" | .wait => "wait"
theorem e_slc {cf : CF} {sg : Sg} {M M1 M2 M3 : Mm} {fl fh : Bool} {a lo hi : E} {x y z : PV} {q : R} (h : evE cf a sg M = some (x, M1)) (h2 : evE cf lo sg M1 = some (y, M2)) (h3 : evE cf hi sg M2 = some (z, M3)) (h4 : slcP fl fh M3 x y z = q) : evE cf (.slc fl fh a lo hi) sg M = q := by
  rw [evE, h]; simp only [h2, h3]; exact h4
def bP (q : Int × Int) : PV := .tup [.int q.1, .int q.2]
def pts (bs : List (Int × Int)) (t : Nat) : List Int := (bs.filter fun q => decide ((t : Int) ≤ q.1)).map (·.2)
def BdAt (M : Mm) (bd : PV) (bs : List (Int × Int)) : Prop := ∀ N, Frm [] M N → ∃ s, srcOf N bd = some s ∧ ∀ L i, s.get (N ++ L) i = some (bs.map bP)[i]?
theorem BdAt.lst {M : Mm} {n : Nat} {bs : List (Int × Int)} (h : M[n]? = some (.lst (bs.map bP))) : BdAt M (.ref n) bs := fun N F => by
  have g := F.get h (by simp)
  refine ⟨.lst n, by simp [srcOf, lstAt, g], fun L i => ?_⟩
  have : (N ++ L)[n]? = some (.lst (bs.map bP)) := by rw [List.getElem?_append_left (lt_of g)]; exact g
  simp [Src.get, lstAt, this]
theorem BdAt.tup {M : Mm} {bs : List (Int × Int)} : BdAt M (.tup (bs.map bP)) bs := fun N F => ⟨.tup _, rfl, fun L i => rfl⟩
theorem BdAt.frm {M M' : Mm} {bd : PV} {bs : List (Int × Int)} (h : BdAt M bd bs) (F : Frm [] M M') : BdAt M' bd bs := fun N F2 => h N (F.trans F2)
end Mp
namespace Mp
open PySem L2
def LS.wp1 (S : LS) (r : Int) : Option (List PV) :=
  match getD S.pl (.inl r), kvsS (S.tabOf (.inl r)) with
  | some (.int b), some l => if l.length < 64 ∧ (l.all fun e => !(S.ks e.1).isEmpty) = true then some ((S.wrg b (sortS l)).map fun k => .tup [.int r, k]) else none
  | _, _ => none
def LS.wp (S : LS) : Option (List PV) := (keysI S.pl).bind fun ns => if ns.length < 64 then ((sortI ns).mapM S.wp1).map List.flatten else none
theorem wp1_inv {S : LS} {r : Int} {out : List PV} (h : S.wp1 r = some out) : ∃ b l, getD S.pl (.inl r) = some (.int b) ∧ kvsS (S.tabOf (.inl r)) = some l ∧ l.length < 64 ∧ (∀ e ∈ l, S.ks e.1 ≠ []) ∧ out = (S.wrg b (sortS l)).map fun k => .tup [.int r, k] := by
  unfold LS.wp1 at h
  split at h
  · rename_i b l h1 h2
    split at h
    · rename_i h3
      cases h
      refine ⟨b, l, h1, h2, h3.1, fun e he z => ?_, rfl⟩
      have := List.all_eq_true.mp h3.2 e he
      simp [z] at this
    · cases h
  · cases h
theorem mapM_get {α β : Type} {f : α → Option β} : ∀ {xs : List α} {ys : List β}, xs.mapM f = some ys → xs.length = ys.length ∧ ∀ (i : Nat) (x : α), xs[i]? = some x → ∃ y, ys[i]? = some y ∧ f x = some y
  | [], ys, h => by simp at h; subst h; exact ⟨rfl, by simp⟩
  | x :: xs, ys, h => by
    rw [List.mapM_cons] at h
    cases e1 : f x with
    | none => rw [e1] at h; cases h
    | some d =>
      rw [e1] at h
      cases e2 : xs.mapM f with
      | none => rw [e2] at h; cases h
      | some ds =>
        rw [e2] at h
        cases h
        obtain ⟨h1, h2⟩ := mapM_get e2
        refine ⟨by simp [h1], fun i z hz => ?_⟩
        cases i with
        | zero => simp at hz; subst hz; exact ⟨d, rfl, e1⟩
        | succ i => simpa using h2 i z (by simpa using hz)
end Mp
namespace Mp
open PySem L2
theorem up_at (S : LS) (l : Int) : ∀ k j, (S.up l k)[j]? = (S.es[j]?).map fun e => if j < k ∧ S.goes l j e = true then { e with gone := true } else e
  | 0, j => by simp [LS.up]
  | k + 1, j => by
    have ih := up_at S l k j
    unfold LS.up
    cases hk : S.es[k]? with
    | none =>
      simp only []
      rw [ih]
      cases hj : S.es[j]? with
      | none => rfl
      | some e =>
        have : j < k := by
          have h1 := List.getElem?_eq_none_iff.mp hk
          have h2 := (List.getElem?_eq_some_iff.mp hj).1
          omega
        simp [this, Nat.lt_succ_of_lt this]
    | some e =>
      simp only []
      by_cases hjk : j = k
      · subst hjk
        rw [hk]
        by_cases hg : S.goes l j e = true
        · rw [if_pos hg, List.getElem?_set_self (by rw [up_len]; exact (List.getElem?_eq_some_iff.mp hk).1)]
          simp [hg]
        · rw [if_neg hg, ih, hk]
          simp [hg]
      · have h3 : ((if S.goes l k e = true then (S.up l k).set k { e with gone := true } else S.up l k))[j]? = (S.up l k)[j]? := by
          split
          · rw [List.getElem?_set_ne (fun z => hjk z.symm)]
          · rfl
        rw [h3, ih]
        cases hj : S.es[j]? with
        | none => rfl
        | some e' =>
          have : (j < k + 1) = (j < k) := propext ⟨fun h => by omega, fun h => by omega⟩
          simp [this]
theorem lg_at {S : LS} {i : Nat} {e : En} (h : S.es[i]? = some e) : ∃ e', S.lg.es[i]? = some e' ∧ e'.key = e.key ∧ e'.val = e.val ∧ e'.pas = e.pas ∧ (e'.gone = true ↔ e.gone = true ∨ S.goes S.lim i e = true) := by
  have hi := (List.getElem?_eq_some_iff.mp h).1
  have := up_at S S.lim S.es.length i
  rw [h] at this
  refine ⟨_, this, ?_⟩
  by_cases hg : S.goes S.lim i e = true
  · simp [hi, hg]
  · simp [hg]
theorem lg_len (S : LS) : S.lg.es.length = S.es.length := up_len S _ _
theorem back_at {l l' : List En} (hl : l'.length = l.length) {i : Nat} {e' : En} (h : l'[i]? = some e') : ∃ e, l[i]? = some e := by
  have := (List.getElem?_eq_some_iff.mp h).1
  exact ⟨l[i], List.getElem?_eq_getElem (by omega)⟩
theorem getD_dropS {t : List (Key × PV)} {k : Key} : getD (dropD t k) k = none := by
  unfold getD dropD
  rw [Option.map_eq_none_iff, List.find?_eq_none]
  intro x hx
  have := (List.mem_filter.mp hx).2
  simpa using this
theorem getD_dropN {t : List (Key × PV)} {k k' : Key} (h : k' ≠ k) : getD (dropD t k) k' = getD t k' := by
  unfold getD dropD
  congr 1
  induction t with
  | nil => rfl
  | cons q t ih =>
    rw [List.filter_cons]
    by_cases hq : q.1 = k
    · have hne : ¬ q.1 = k' := fun z => h (z.symm.trans hq)
      simp only [hq, ne_eq, not_true_eq_false, decide_false, Bool.false_eq_true, if_false]
      rw [ih, List.find?_cons]
      simp [hne]
    · simp only [ne_eq, hq, not_false_eq_true, decide_true, if_true]
      rw [List.find?_cons, List.find?_cons, ih]
def stp (b u : Int) (i : Nat) (e : En) (t : Tab) : Tab := if e.gone = false ∧ b ≤ (i : Int) ∧ (i : Int) < u then (if nonB e.val = true then dropD t (.inr e.key) else putD (dropD t (.inr e.key)) (.inr e.key) e.val) else t
def rdL (b u : Int) : Nat → List En → Tab → Tab
  | _, [], t => t
  | i, e :: es, t => rdL b u (i + 1) es (stp b u i e t)
end Mp
namespace Mp
open PySem L2
def Sub (t' t : Tab) : Prop := ∀ k v, getD t' k = some v → getD t k = some v
structure RelE (e e' : En) : Prop where
  key : e'.key = e.key
  val : e'.val = e.val
  pas : e'.pas = e.pas
  gone : e'.gone = true → e.gone = true
  same : nonB e.val = false → e.gone = true → e'.gone = true
structure Rel (S S' : LS) : Prop where
  el : S'.es.length = S.es.length
  es : ∀ (i : Nat) e e', S.es[i]? = some e → S'.es[i]? = some e' → RelE e e'
  pl : S'.pl = S.pl
  tb : ∀ r, Sub (S'.tabOf r) (S.tabOf r)
  cl : S'.co.map (·.1) = S.co.map (·.1)
  co : ∀ (c : Nat) q q', S.co[c]? = some q → S'.co[c]? = some q' → Sub q'.2 q.2
  tm : S'.tm = S.tm
  hold : S.hold ≤ S'.hold
  gs : ∀ g ∈ S.gs, g ∈ S'.gs
theorem Sub.refl (t : Tab) : Sub t t := fun _ _ h => h
theorem stp_in {b u : Int} {i : Nat} {e : En} {t : Tab} (h1 : e.gone = false) (h2 : b ≤ (i : Int) ∧ (i : Int) < u) : stp b u i e t = if nonB e.val = true then dropD t (.inr e.key) else putD (dropD t (.inr e.key)) (.inr e.key) e.val := by
  unfold stp
  exact if_pos ⟨h1, h2⟩
theorem stp_gone {b u : Int} {i : Nat} {e : En} {t : Tab} (h1 : e.gone = true) : stp b u i e t = t := by
  unfold stp
  exact if_neg (fun z => by rw [h1] at z; cases z.1)
theorem stp_out {b u : Int} {i : Nat} {e : En} {t : Tab} (h : ¬ (b ≤ (i : Int) ∧ (i : Int) < u)) : stp b u i e t = t := by
  unfold stp
  exact if_neg (fun z => h z.2)
def LS.gc (S : LS) : PV → List PV
  | .tup [.str s, .int m] => if s = "copy" then cutP (S.co.map (·.1)) (some m) (some (m + 1)) else (match getD S.pl (.inl m) with | some v => [v] | none => [])
  | _ => []
theorem g1_eq (S : LS) (acc : List PV) (g : PV) : S.g1 acc g = acc ++ S.gc g := by
  unfold LS.g1
  split
  · rename_i s m
    simp only [LS.gc]
    split
    · rfl
    · cases getD S.pl (.inl m) <;> simp
  · rename_i h
    have : S.gc g = [] := by
      unfold LS.gc
      split
      · rename_i s m; exact absurd rfl (h s m)
      · rfl
    rw [this, List.append_nil]
theorem gf_eq (S : LS) : S.gf S.gs.length = .int S.es.length :: (S.gs.map S.gc).flatten := by
  unfold LS.gf
  rw [List.take_length]
  have : ∀ (l : List PV) (acc : List PV), l.foldl S.g1 acc = acc ++ (l.map S.gc).flatten := by
    intro l
    induction l with
    | nil => intro acc; simp
    | cons g l ih => intro acc; rw [List.foldl_cons, ih, g1_eq]; simp
  rw [this]
  rfl
theorem fold_min (r : List Int) : ∀ i : Int, r.foldl (fun a b => if b < a then b else a) i ∈ i :: r ∧ ∀ x ∈ i :: r, r.foldl (fun a b => if b < a then b else a) i ≤ x := by
  induction r with
  | nil => intro i; simp
  | cons j r ih =>
    intro i
    rw [List.foldl_cons]
    obtain ⟨h1, h2⟩ := ih (if j < i then j else i)
    refine ⟨?_, fun x hx => ?_⟩
    · rcases List.mem_cons.mp h1 with q | q
      · rw [q]; split <;> simp
      · simp [q]
    · have h3 := h2 (if j < i then j else i) (by simp)
      rcases List.mem_cons.mp hx with rfl | hx
      · exact Int.le_trans h3 (by split <;> omega)
      · rcases List.mem_cons.mp hx with rfl | hx
        · exact Int.le_trans h3 (by split <;> omega)
        · exact h2 x (by simp [hx])
theorem lim_eq (S : LS) : S.lim = ((S.gs.map S.gc).flatten.map toI).foldl (fun a b => if b < a then b else a) (S.es.length : Int) := by
  unfold LS.lim
  rw [gf_eq]
  rfl
theorem lim_le {S : LS} {x : Int} (h : x = S.es.length ∨ ∃ g ∈ S.gs, ∃ v ∈ S.gc g, toI v = x) : S.lim ≤ x := by
  rw [lim_eq]
  refine (fold_min _ _).2 x ?_
  rcases h with rfl | ⟨g, hg, v, hv, rfl⟩
  · simp
  · exact List.mem_cons_of_mem _ (List.mem_map.mpr ⟨v, List.mem_flatten.mpr ⟨_, List.mem_map.mpr ⟨g, hg, rfl⟩, hv⟩, rfl⟩)
theorem lim_at (S : LS) : S.lim = S.es.length ∨ ∃ g ∈ S.gs, ∃ v ∈ S.gc g, toI v = S.lim := by
  have h := (fold_min ((S.gs.map S.gc).flatten.map toI) (S.es.length : Int)).1
  rw [← lim_eq] at h
  rcases List.mem_cons.mp h with q | q
  · exact .inl q
  · obtain ⟨v, hv, e⟩ := List.mem_map.mp q
    obtain ⟨l, hl, hv⟩ := List.mem_flatten.mp hv
    obtain ⟨g, hg, rfl⟩ := List.mem_map.mp hl
    exact .inr ⟨g, hg, v, hv, e⟩
theorem gc_congr {S S' : LS} (hp : S'.pl = S.pl) (hc : S'.co.map (·.1) = S.co.map (·.1)) (g : PV) : S'.gc g = S.gc g := by
  unfold LS.gc
  rw [hp, hc]
theorem Rel.lim {S S' : LS} (h : Rel S S') : S'.lim ≤ S.lim := by
  rcases lim_at S with q | ⟨g, hg, v, hv, q⟩
  · rw [q]; exact lim_le (.inl (by rw [h.el]))
  · rw [← q]; exact lim_le (.inr ⟨g, h.gs g hg, v, by rw [gc_congr h.pl h.cl]; exact hv, rfl⟩)
theorem Rel.lg {S S' : LS} (h : Rel S S') : Rel S.lg S'.lg := by
  refine ⟨by rw [lg_len, lg_len, h.el], fun i f f' hf hf' => ?_, h.pl, h.tb, h.cl, h.co, h.tm, h.hold, h.gs⟩
  obtain ⟨e, he⟩ := back_at (lg_len S) hf
  obtain ⟨e', he'⟩ := back_at (lg_len S') hf'
  have R := h.es i e e' he he'
  obtain ⟨a, a1, a2, a3, a4, a5⟩ := lg_at he
  obtain ⟨a', b1, b2, b3, b4, b5⟩ := lg_at he'
  rw [hf] at a1; cases a1
  rw [hf'] at b1; cases b1
  refine ⟨by rw [b2, a2, R.key], by rw [b3, a3, R.val], by rw [b4, a4, R.pas], fun q => a5.mpr ?_, fun q1 q2 => b5.mpr ?_⟩
  · rcases b5.mp q with q | q
    · exact .inl (R.gone q)
    · by_cases hg : e.gone = true
      · exact .inl hg
      · refine .inr ?_
        unfold LS.goes at q ⊢
        simp only [Bool.and_eq_true, decide_eq_true_eq, Bool.not_eq_true'] at q ⊢
        obtain ⟨q1, q2, q3, q4⟩ := q
        refine ⟨by rw [← R.val]; exact q1, by simpa using hg, ?_, by have := h.lim; omega⟩
        unfold LS.old at q3 ⊢
        rw [R.pas] at q3
        cases hp : e.pas with
        | none => rw [hp] at q3; cases q3
        | some p =>
          rw [hp] at q3
          simp only [decide_eq_true_eq] at q3 ⊢
          have := h.tm; have := h.hold
          omega
  · rw [a3] at q1
    rcases a5.mp q2 with q | q
    · exact .inl (R.same q1 q)
    · unfold LS.goes at q
      rw [q1] at q
      simp at q
theorem Rel.tick {S S' : LS} (h : Rel S S') : Rel { S with tm := S.tm + 1 } { S' with tm := S'.tm + 1 } :=
  ⟨h.el, h.es, h.pl, h.tb, h.cl, h.co, by show S'.tm + 1 = S.tm + 1; rw [h.tm], h.hold, h.gs⟩
theorem Rel.go {S S' : LS} (h : Rel S S') : Rel S.go S'.go := h.tick.lg
theorem Rel.add {S S' : LS} (h : Rel S S') (k : Str) (v : PV) : Rel (S.add k v) (S'.add k v) := by
  refine ⟨by simp [LS.add, h.el], fun i e e' he he' => ?_, h.pl, h.tb, h.cl, h.co, h.tm, h.hold, h.gs⟩
  by_cases hi : i < S.es.length
  · have h1 : S.es[i]? = some e := by rw [← he]; exact (List.getElem?_append_left hi).symm
    have h2 : S'.es[i]? = some e' := by rw [← he']; exact (List.getElem?_append_left (by rw [h.el]; exact hi)).symm
    exact h.es i e e' h1 h2
  · have h1 : (S.es ++ [⟨k, v, false, none⟩])[i]? = some e := he
    have h2 : (S'.es ++ [⟨k, v, false, none⟩])[i]? = some e' := he'
    rw [List.getElem?_append_right (by omega)] at h1
    rw [List.getElem?_append_right (by rw [h.el]; omega), h.el] at h2
    rw [h1] at h2
    cases h2
    exact ⟨rfl, rfl, rfl, fun q => q, fun _ q => q⟩
theorem Rel.new {h h' : Int} {gs gs' : List PV} (hh : h ≤ h') (hg : ∀ g ∈ gs, g ∈ gs') : Rel (LS.new h gs) (LS.new h' gs') :=
  ⟨rfl, by simp [LS.new], rfl, fun r => Sub.refl _, rfl, by simp [LS.new], rfl, hh, hg⟩
end Mp
namespace Mp
open PySem L2
structure Cov (S : LS) : Prop where
  gp : ∀ (i : Nat) e, S.es[i]? = some e → e.gone = true → e.pas ≠ none
  pg : ∀ (i : Nat) e, S.es[i]? = some e → e.pas ≠ none → ∀ (j : Nat) f, j < i → S.es[j]? = some f → f.key = e.key → f.gone = true
  pz : ∀ (i : Nat) e p, S.es[i]? = some e → e.pas = some p → 0 ≤ p
  tz : 0 ≤ S.tm
  pi : ∀ r v, getD S.pl (.inl r) = some v → ∃ b : Int, v = .int b ∧ b ≤ S.es.length
  ci : ∀ (c : Nat) q, S.co[c]? = some q → ∃ b : Int, q.1 = .int b ∧ b ≤ S.es.length
theorem Cov.lg {S : LS} (h : Cov S) : Cov S.lg := by
  refine ⟨fun i e' h1 h2 => ?_, fun i e' h1 h2 j f' hj h3 h4 => ?_, fun i e' p h1 h2 => ?_, h.tz, fun r v hv => by rw [lg_len]; exact h.pi r v hv, fun c q hq => by rw [lg_len]; exact h.ci c q hq⟩
  · obtain ⟨e, he⟩ := back_at (lg_len S) h1
    obtain ⟨a, a1, a2, a3, a4, a5⟩ := lg_at he
    rw [h1] at a1; cases a1
    rw [a4]
    rcases a5.mp h2 with q | q
    · exact h.gp i e he q
    · unfold LS.goes LS.old at q
      intro z
      rw [z] at q
      simp at q
  · obtain ⟨e, he⟩ := back_at (lg_len S) h1
    obtain ⟨a, a1, a2, a3, a4, a5⟩ := lg_at he
    rw [h1] at a1; cases a1
    obtain ⟨f, hf⟩ := back_at (lg_len S) h3
    obtain ⟨b, b1, b2, b3, b4, b5⟩ := lg_at hf
    rw [h3] at b1; cases b1
    exact b5.mpr (.inl (h.pg i e he (by rw [← a4]; exact h2) j f hj hf (by rw [← b2, ← a2]; exact h4)))
  · obtain ⟨e, he⟩ := back_at (lg_len S) h1
    obtain ⟨a, a1, a2, a3, a4, a5⟩ := lg_at he
    rw [h1] at a1; cases a1
    exact h.pz i e p he (by rw [← a4]; exact h2)
theorem Cov.go {S : LS} (h : Cov S) : Cov S.go :=
  Cov.lg (S := { S with tm := S.tm + 1 }) ⟨h.gp, h.pg, h.pz, by have := h.tz; show 0 ≤ S.tm + 1; omega, h.pi, h.ci⟩
theorem add_at {S : LS} {k : Str} {v : PV} {i : Nat} {e : En} (h : (S.add k v).es[i]? = some e) : (i < S.es.length ∧ S.es[i]? = some e) ∨ (i = S.es.length ∧ e = ⟨k, v, false, none⟩) := by
  have h1 : (S.es ++ [⟨k, v, false, none⟩])[i]? = some e := h
  by_cases hi : i < S.es.length
  · rw [List.getElem?_append_left hi] at h1; exact .inl ⟨hi, h1⟩
  · have hl := (List.getElem?_eq_some_iff.mp h1).1
    simp at hl
    have : i = S.es.length := by omega
    subst this
    rw [List.getElem?_append_right (Nat.le_refl _)] at h1
    simp at h1
    exact .inr ⟨rfl, h1.symm⟩
theorem Cov.add {S : LS} (h : Cov S) (k : Str) (v : PV) : Cov (S.add k v) := by
  have hl : (S.add k v).es.length = S.es.length + 1 := by simp [LS.add]
  refine ⟨fun i e h1 h2 => ?_, fun i e h1 h2 j f hj h3 h4 => ?_, fun i e p h1 h2 => ?_, h.tz, fun r w hw => ?_, fun c q hq => ?_⟩
  · rcases add_at h1 with ⟨_, q⟩ | ⟨_, rfl⟩
    · exact h.gp i e q h2
    · cases h2
  · rcases add_at h1 with ⟨hi, q⟩ | ⟨_, rfl⟩
    · rcases add_at h3 with ⟨_, q2⟩ | ⟨hj2, _⟩
      · exact h.pg i e q h2 j f hj q2 h4
      · omega
    · exact absurd rfl h2
  · rcases add_at h1 with ⟨_, q⟩ | ⟨_, rfl⟩
    · exact h.pz i e p q h2
    · cases h2
  · obtain ⟨b, e1, e2⟩ := h.pi r w hw; exact ⟨b, e1, by rw [hl]; omega⟩
  · obtain ⟨b, e1, e2⟩ := h.ci c q hq; exact ⟨b, e1, by rw [hl]; omega⟩
def Last (S : LS) (m : Nat) (e : En) : Prop := S.es[m]? = some e ∧ ∀ (j : Nat) f, m < j → S.es[j]? = some f → f.key ≠ e.key
def Hd (S : LS) (s : Int) (t : Tab) : Prop := ∀ m e, Last S m e → nonB e.val = true → (getD t (.inr e.key)).isSome = true → s ≤ (m : Int) ∧ e.gone = false
theorem last_lg {S : LS} {m : Nat} {e' : En} (h : Last S.lg m e') : ∃ e, Last S m e ∧ e'.key = e.key ∧ e'.val = e.val ∧ (e'.gone = true ↔ e.gone = true ∨ S.goes S.lim m e = true) := by
  obtain ⟨e, he⟩ := back_at (lg_len S) h.1
  obtain ⟨a, a1, a2, a3, a4, a5⟩ := lg_at he
  rw [h.1] at a1; cases a1
  refine ⟨e, ⟨he, fun j f hj hf => ?_⟩, a2, a3, a5⟩
  obtain ⟨f', b1, b2, _⟩ := lg_at hf
  rw [← b2, ← a2]
  exact h.2 j f' hj b1
theorem Hd.lg {S : LS} {s : Int} {t : Tab} (h : Hd S s t) (hl : ∀ (i : Nat) e, S.es[i]? = some e → S.goes S.lim i e = true → (i : Int) < s) : Hd S.lg s t := fun m e' hL hv ht => by
  obtain ⟨e, L, k1, k2, k3⟩ := last_lg hL
  rw [k2] at hv; rw [k1] at ht
  obtain ⟨h1, h2⟩ := h m e L hv ht
  refine ⟨h1, ?_⟩
  cases hg : e'.gone with
  | false => rfl
  | true =>
    rcases k3.mp hg with q | q
    · rw [h2] at q; cases q
    · have := hl m e L.1 q; omega
theorem Hd.add {S : LS} {s : Int} {t : Tab} (h : Hd S s t) (hs : s ≤ S.es.length) (k : Str) (v : PV) : Hd (S.add k v) s t := fun m e hL hv ht => by
  rcases add_at hL.1 with ⟨hm, q⟩ | ⟨hm, rfl⟩
  · refine h m e ⟨q, fun j f hj hf => hL.2 j f hj ?_⟩ hv ht
    have : (S.es ++ [⟨k, v, false, none⟩])[j]? = some f := by rw [List.getElem?_append_left (List.getElem?_eq_some_iff.mp hf).1]; exact hf
    exact this
  · exact ⟨by omega, rfl⟩
theorem Hd.nil {S : LS} {s : Int} : Hd S s [] := fun m e _ _ ht => by simp [getD] at ht
theorem stp_get {b u : Int} {i : Nat} {e : En} {t : Tab} {k : Str} (hk : e.key ≠ k) : getD (stp b u i e t) (.inr k) = getD t (.inr k) := by
  have hne : (Sum.inr k : Key) ≠ .inr e.key := fun z => hk (by injection z with z; exact z.symm)
  unfold stp
  split
  · split
    · rw [getD_dropN hne]
    · rw [getD_putN hne, getD_dropN hne]
  · rfl
theorem rdL_none {b u : Int} {k : Str} : ∀ {es : List En} {i : Nat} {t : Tab}, (∀ (j : Nat) e, es[j]? = some e → e.key = k → e.gone = true ∨ ¬ (b ≤ ((i + j : Nat) : Int) ∧ ((i + j : Nat) : Int) < u)) → getD (rdL b u i es t) (.inr k) = getD t (.inr k)
  | [], _, _, _ => rfl
  | e :: es, i, t, h => by
    unfold rdL
    rw [rdL_none fun j f hf hk => by
      have := h (j + 1) f (by simpa using hf) hk
      rw [show i + (j + 1) = i + 1 + j by omega] at this
      exact this]
    by_cases hk : e.key = k
    · rcases h 0 e rfl hk with q | q
      · rw [stp_gone q]
      · rw [stp_out (by simpa using q)]
    · exact stp_get hk
theorem rdL_mark {b u : Int} {k : Str} : ∀ {es : List En} {i m : Nat} {t : Tab} {e : En}, es[m]? = some e → e.key = k → nonB e.val = true → e.gone = false → b ≤ ((i + m : Nat) : Int) → ((i + m : Nat) : Int) < u → (∀ (j : Nat) f, m < j → es[j]? = some f → f.key ≠ k) → getD (rdL b u i es t) (.inr k) = none
  | [], _, _, _, _, h, _, _, _, _, _, _ => by simp at h
  | f :: es, i, 0, t, e, h, hk, hv, hg, h1, h2, hl => by
    simp at h
    subst h
    unfold rdL
    rw [rdL_none fun j f' hf' hk' => absurd hk' (hl (j + 1) f' (by omega) (by simpa using hf'))]
    rw [stp_in hg ⟨by simpa using h1, by simpa using h2⟩, if_pos hv, hk]
    exact getD_dropS
  | f :: es, i, m + 1, t, e, h, hk, hv, hg, h1, h2, hl => by
    unfold rdL
    refine rdL_mark (m := m) (by simpa using h) hk hv hg ?_ ?_ fun j f' hj hf' => hl (j + 1) f' (by omega) (by simpa using hf')
    · rw [show i + 1 + m = i + (m + 1) by omega]; exact h1
    · rw [show i + 1 + m = i + (m + 1) by omega]; exact h2
theorem Hd.read {S : LS} {b u : Int} {t : Tab} (C : Cov S) (h : Hd S b t) (hbu : b ≤ u) : Hd S u (rdL b u 0 S.es t) := fun m e hL hv ht => by
  have hle : ∀ (j : Nat) f, S.es[j]? = some f → f.key = e.key → j ≤ m := fun j f hf hk => by
    rcases Nat.lt_or_ge m j with q | q
    · exact absurd hk (hL.2 j f q hf)
    · exact q
  have hgone : e.gone = true → ∀ (j : Nat) f, S.es[j]? = some f → f.key = e.key → f.gone = true := fun hg j f hf hk => by
    rcases Nat.lt_or_ge j m with q | q
    · exact C.pg m e hL.1 (C.gp m e hL.1 hg) j f q hf hk
    · have : j = m := by have := hle j f hf hk; omega
      subst this
      rw [hL.1] at hf; cases hf
      exact hg
  have hng : e.gone = false := by
    cases hg : e.gone with
    | false => rfl
    | true =>
      rw [rdL_none fun j f hf hk => .inl (hgone hg j f hf hk)] at ht
      have := (h m e hL hv ht).2
      rw [hg] at this; cases this
  refine ⟨?_, hng⟩
  rcases Int.lt_or_le (m : Int) u with q | q
  · exfalso
    rcases Int.lt_or_le (m : Int) b with q2 | q2
    · rw [rdL_none fun j f hf hk => .inr (by have := hle j f hf hk; simp; omega)] at ht
      have := (h m e hL hv ht).1
      omega
    · rw [rdL_mark (i := 0) hL.1 rfl hv hng (by simpa using q2) (by simpa using q) hL.2] at ht
      cases ht
  · exact q
end Mp
namespace Mp
open PySem L2
theorem lay_str (s : String) : PyData.canLay0 (.str (Str.ofString s)) = true := by
  rw [PyData.canLay0, PyData.strOk, Str.ofString_eq_toList]
  simp only [Array.all_eq_true', List.mem_toArray, List.mem_map, decide_eq_true_eq]
  rintro x ⟨c, _, rfl⟩
  have := c.valid
  rcases this with h | ⟨_, h⟩
  · have : c.toNat < 0xd800 := h
    omega
  · exact h
def RdA (x : PV) : Prop := ∃ d, ∀ N, Rd 3 N x d
open Classical in
noncomputable def rdg (x : PV) : PyData := if h : RdA x then h.choose else .none
theorem RdA.g {x : PV} (h : RdA x) (N : Mm) : Rd 3 N x (rdg x) := by
  unfold rdg
  rw [dif_pos h]
  exact h.choose_spec N
end Mp
namespace Mp.Dr
open PySem L2
inductive Ev where
  | put (k : Str) (v : Int) | drop (k : Str) | join (r : Int) | read (r u : Int) | save (r : Int) | load (r c : Int) | wait
def Ev.pv : Ev → PV
  | .put k v => .tup [.str "put", .str k, .int v]
  | .drop k => .tup [.str "drop", .str k]
  | .join r => .tup [.str "join", .int r]
  | .read r u => .tup [.str "read", .int r, .int u]
  | .save r => .tup [.str "save", .int r]
  | .load r c => .tup [.str "load", .int r, .int c]
  | .wait => .tup [.str "wait"]
structure Ws where
  seats : List (Key × PV)
  copies : List PV
  many : Int
def Ws.step (w : Ws) : Ev → Option Ws
  | .put _ _ => some { w with many := w.many + 1 }
  | .drop _ => some { w with many := w.many + 1 }
  | .join r => some { w with seats := putD w.seats (.inl r) (.int 0) }
  | .read r u => match getD w.seats (.inl r) with | some (.int b) => if b < u ∧ u ≤ w.many then some { w with seats := putD w.seats (.inl r) (.int u) } else none | _ => none
  | .save r => (getD w.seats (.inl r)).map fun v => { w with copies := w.copies ++ [v] }
  | .load r c => (atI w.copies c).map fun v => { w with seats := putD w.seats (.inl r) v }
  | .wait => some w
theorem step_read {ws ws' : Ws} {r u : Int} (h : ws.step (.read r u) = some ws') : (∃ b : Int, getD ws.seats (.inl r) = some (.int b) ∧ b < u ∧ u ≤ ws.many) ∧ ws' = { ws with seats := putD ws.seats (.inl r) (.int u) } := by
  simp only [Ws.step] at h
  split at h
  · rename_i b hb
    split at h
    · rename_i hu
      cases h
      exact ⟨⟨b, hb, hu.1, hu.2⟩, rfl⟩
    · cases h
  · cases h
theorem read_step {ws : Ws} {r u b : Int} (h : getD ws.seats (.inl r) = some (.int b)) (h1 : b < u) (h2 : u ≤ ws.many) : ws.step (.read r u) = some { ws with seats := putD ws.seats (.inl r) (.int u) } := by
  simp only [Ws.step, h]
  rw [if_pos ⟨h1, h2⟩]
def wdic (s c : Nat) (m : Int) : Ob := .dic [(.inr "seats", .ref s), (.inr "copies", .ref c), (.inr "many", .int m)]
structure WAt (M : Mm) (w s c : Nat) (ws : Ws) : Prop where
  w_ : M[w]? = some (wdic s c ws.many)
  s_ : M[s]? = some (.dic ws.seats)
  c_ : M[c]? = some (.lst ws.copies)
  ne : w ≠ s
theorem WAt.ne2 {M : Mm} {w s c : Nat} {ws : Ws} (h : WAt M w s c ws) : w ≠ c ∧ s ≠ c := by
  constructor
  · intro e; subst e; have := h.w_; rw [h.c_] at this; cases this
  · intro e; subst e; have := h.s_; rw [h.c_] at this; cases this
theorem WAt.frm {S : List Nat} {M M1 : Mm} {w s c : Nat} {ws : Ws} (h : WAt M w s c ws) (a : Frm S M M1) (hw : w ∉ S) (hs : s ∉ S) (hc : c ∉ S) : WAt M1 w s c ws :=
  ⟨a.get h.w_ hw, a.get h.s_ hs, a.get h.c_ hc, h.ne⟩
theorem moved_ok (cf : CF) {M : Mm} {w s c : Nat} {ws ws' : Ws} {e : Ev} (h : WAt M w s c ws) (he : ws.step e = some ws') (h1 : ws.seats.length < 1000) (h2 : ws.copies.length < 1000) :
    ∃ M', runD cf ir_l_moved [.ref w, e.pv] M = some (.non, M') ∧ WAt M' w s c ws' ∧ Frm [w, s, c] M M' ∧ M'.length = M.length := by
  obtain ⟨nwc, nsc⟩ := h.ne2
  have hw := h.w_
  have hs := h.s_
  have hc := h.c_
  have ne := h.ne
  have lw := lt_of hw
  have ls := lt_of hs
  have lc := lt_of hc
  have z1 : ws.seats.length < 16777216 := by omega
  have z2 : ws.copies.length < 16777216 := by omega
  have s1 : ∀ x, (M.set w x)[s]? = M[s]? := fun x => List.getElem?_set_ne ne
  have s2 : ∀ x, (M.set w x)[c]? = M[c]? := fun x => List.getElem?_set_ne nwc
  unfold wdic at hw
  cases e with
  | put k v =>
    simp only [Ws.step] at he
    cases he
    refine ⟨M.set w (wdic s c (ws.many + 1)), ?_, ⟨by simp [lw], by rw [List.getElem?_set_ne ne]; exact hs, by rw [List.getElem?_set_ne nwc]; exact hc, ne⟩, Frm.set (by simp), by simp⟩
    simp [runD, ir_l_moved, Ev.pv, evSs, evS, evE, evEs, tgP, idxP, atI, ixN, cmpP, isIn, inP, flatP, eqF, str_inj, hw, keyOf, getD, stoP, putD, bopP, wdic, sizeLine]
  | drop k =>
    simp only [Ws.step] at he
    cases he
    refine ⟨M.set w (wdic s c (ws.many + 1)), ?_, ⟨by simp [lw], by rw [List.getElem?_set_ne ne]; exact hs, by rw [List.getElem?_set_ne nwc]; exact hc, ne⟩, Frm.set (by simp), by simp⟩
    simp [runD, ir_l_moved, Ev.pv, evSs, evS, evE, evEs, tgP, idxP, atI, ixN, cmpP, isIn, inP, flatP, eqF, str_inj, hw, keyOf, getD, stoP, putD, bopP, wdic, sizeLine]
  | join r =>
    simp only [Ws.step] at he
    cases he
    refine ⟨M.set s (.dic (putD ws.seats (.inl r) (.int 0))), ?_, ⟨by rw [List.getElem?_set_ne (Ne.symm ne)]; exact h.w_, by simp [ls], by rw [List.getElem?_set_ne nsc]; exact hc, ne⟩, Frm.set (by simp), by simp⟩
    simp [runD, ir_l_moved, Ev.pv, evSs, evS, evE, evEs, tgP, idxP, atI, ixN, cmpP, isIn, inP, flatP, eqF, eqP, eqS, str_inj, hw, hs, keyOf, getD, stoP, bopP, sizeLine, z1]
  | read r u =>
    obtain ⟨_, he⟩ := step_read he
    subst he
    refine ⟨M.set s (.dic (putD ws.seats (.inl r) (.int u))), ?_, ⟨by rw [List.getElem?_set_ne (Ne.symm ne)]; exact h.w_, by simp [ls], by rw [List.getElem?_set_ne nsc]; exact hc, ne⟩, Frm.set (by simp), by simp⟩
    simp [runD, ir_l_moved, Ev.pv, evSs, evS, evE, evEs, tgP, idxP, atI, ixN, cmpP, isIn, inP, flatP, eqF, eqP, eqS, str_inj, hw, hs, keyOf, getD, stoP, bopP, sizeLine, z1]
  | save r =>
    simp only [Ws.step] at he
    obtain ⟨v, hv, he⟩ := Option.map_eq_some_iff.mp he
    subst he
    refine ⟨M.set c (.lst (ws.copies ++ [v])), ?_, ⟨by rw [List.getElem?_set_ne (Ne.symm nwc)]; exact h.w_, by rw [List.getElem?_set_ne (Ne.symm nsc)]; exact hs, by simp [lc], ne⟩, Frm.set (by simp), by simp⟩
    have hv' : (List.find? (fun kv => decide (kv.1 = Sum.inl r)) ws.seats).map (·.2) = some v := hv
    obtain ⟨kv, hk1, hk2⟩ := Option.map_eq_some_iff.mp hv'
    simp [runD, ir_l_moved, Ev.pv, evSs, evS, evE, evEs, tgP, idxP, atI, ixN, cmpP, isIn, inP, flatP, eqF, eqP, eqS, str_inj, hw, hs, hc, keyOf, getD, mthP, mtOk, lstAt, bopP, sizeLine, z2, hk1, hk2]
  | load r cc =>
    simp only [Ws.step] at he
    obtain ⟨v, hv, he⟩ := Option.map_eq_some_iff.mp he
    subst he
    refine ⟨M.set s (.dic (putD ws.seats (.inl r) v)), ?_, ⟨by rw [List.getElem?_set_ne (Ne.symm ne)]; exact h.w_, by simp [ls], by rw [List.getElem?_set_ne nsc]; exact hc, ne⟩, Frm.set (by simp), by simp⟩
    have hix : idxP M (.ref c) (.int cc) = some v := by simp only [idxP, hc]; exact hv
    have hi0 : idxP M (.ref w) (.str "seats") = some (.ref s) := by simp [idxP, hw, keyOf, getD]
    have hi1 : idxP M (.ref w) (.str "copies") = some (.ref c) := by simp [idxP, hw, keyOf, getD, str_inj]
    have hj : ∀ (l : List PV) (j : Nat) (x : PV), l[j]? = some x → idxP M (.tup l) (.int (j : Nat)) = some x := fun l j x e => by
      have q := (List.getElem?_eq_some_iff.mp e).1
      have e' : ixN l.length (j : Nat) = some j := by simp [ixN, q]
      show (ixN l.length (j : Nat)).bind (fun j => l[j]?) = some x
      rw [e']; exact e
    have j0 : ∀ l x, idxP M (.tup (x :: l)) (.int 0) = some x := fun l x => hj _ 0 x rfl
    have j1 : ∀ l x y, idxP M (.tup (y :: x :: l)) (.int 1) = some x := fun l x y => hj _ 1 x rfl
    have j2 : ∀ l x y z, idxP M (.tup (z :: y :: x :: l)) (.int 2) = some x := fun l x y z => hj _ 2 x rfl
    simp [runD, ir_l_moved, Ev.pv, evSs, evS, evE, evEs, tgP, j0, j1, j2, hi0, hi1, hix, cmpP, isIn, inP, flatP, eqF, eqP, eqS, str_inj, hs, keyOf, stoP, sizeLine, z1]
  | wait =>
    simp only [Ws.step] at he
    cases he
    refine ⟨M, ?_, h, .refl, rfl⟩
    simp [runD, ir_l_moved, Ev.pv, evSs, evS, evE, evEs, tgP, idxP, atI, ixN, cmpP, isIn, inP, flatP, eqF, eqP, eqS, str_inj, sizeLine]
end Mp.Dr
namespace Mp.Dr
open PySem L2
def HO (cf : CF) : Prop := ∀ (M : Mm) (b n : Nat) (k : Int) (xs : List PV), Bx M b k → k < 1000000000000 → M[n]? = some (.lst xs) → n ≠ b → xs ≠ [] → xs.length < 1000 →
  ∃ (x : PV) (l : List PV), x ∈ xs ∧ cf i_l_of [.ref b, .ref n] M = some (x, M.set b (.lst l)) ∧ Bx (M.set b (.lst l)) b (k + 1)
theorem of_ok {cf : CF} (T : HT cf) {M : Mm} {b n : Nat} {k : Int} {xs : List PV} (h : Bx M b k) (hk : k < 1000000000000) (hx : M[n]? = some (.lst xs)) (ne : n ≠ b) (h0 : xs ≠ []) (hl : xs.length < 1000) :
    ∃ (x : PV) (l : List PV), x ∈ xs ∧ runD cf ir_l_of [.ref b, .ref n] M = some (x, M.set b (.lst l)) ∧ Bx (M.set b (.lst l)) b (k + 1) := by
  have hp : 0 < xs.length := List.length_pos_iff.mpr h0
  obtain ⟨r, l, r0, r1, e, B⟩ := T M b k xs.length h hk (by omega) (by omega)
  have hr : r.toNat < xs.length := by omega
  refine ⟨xs[r.toNat], l, List.getElem_mem hr, ?_, B⟩
  have e2 : (M.set b (.lst l))[n]? = some (.lst xs) := by rw [List.getElem?_set_ne (Ne.symm ne)]; exact hx
  have e3 : idxP (M.set b (.lst l)) (.ref n) (.int r) = some xs[r.toNat] := by
    simp only [idxP, e2, atI, ixN, if_pos r0, if_pos r1]
    exact List.getElem?_eq_getElem hr
  simp [runD, ir_l_of, evSs, evS, evE, evEs, bltP, hx, e, e3]
theorem ho (j : Nat) : HO (cfN tab (j + 2)) := fun M b n k xs h hk hx ne h0 hl => of_ok (ht j) h hk hx ne h0 hl
structure WsOk (ws : Ws) (n : Nat) : Prop where
  m0 : 0 ≤ ws.many
  m1 : ws.many ≤ n
  seats : ∀ kv ∈ ws.seats, ∃ p v : Int, kv = (.inl p, .int v) ∧ 0 ≤ p ∧ p ≤ 3 ∧ 0 ≤ v
  copies : ∀ x ∈ ws.copies, ∃ v : Int, x = .int v ∧ 0 ≤ v
  sl : ws.seats.length ≤ n
  cl : ws.copies.length ≤ n
def KeyOk (k : Str) : Prop := ∃ s : String, s ∈ ["a", "b", "cc", "abc", "c"] ∧ k = Str.ofString s
def EvOk : Ev → Prop
  | .put k v => KeyOk k ∧ 0 ≤ v ∧ v ≤ 8
  | .drop k => KeyOk k
  | .join r => 0 ≤ r ∧ r ≤ 3
  | .read r u => 0 ≤ r ∧ r ≤ 3 ∧ 0 ≤ u
  | .save r => 0 ≤ r ∧ r ≤ 3
  | .load r c => 0 ≤ r ∧ r ≤ 3 ∧ 0 ≤ c
  | .wait => True
theorem step_ok {ws ws' : Ws} {n : Nat} {e : Ev} (h : WsOk ws n) (he : EvOk e) (hs : ws.step e = some ws') : WsOk ws' (n + 1) := by
  obtain ⟨m0, m1, hse, hco, sl, cl⟩ := h
  have put : ∀ (p v : Int), 0 ≤ p → p ≤ 3 → 0 ≤ v → WsOk { ws with seats := putD ws.seats (.inl p) (.int v) } (n + 1) := fun p v h1 h2 h3 =>
    ⟨m0, by show ws.many ≤ _; omega, fun kv hk => (putD_mem hk).elim (hse kv) (fun z => ⟨p, v, z, h1, h2, h3⟩), hco, Nat.le_trans (putD_len _ _ _) (by omega), by show ws.copies.length ≤ _; omega⟩
  cases e with
  | put k v => simp only [Ws.step] at hs; cases hs; exact ⟨by show 0 ≤ ws.many + 1; omega, by show ws.many + 1 ≤ _; omega, hse, hco, by show ws.seats.length ≤ _; omega, by show ws.copies.length ≤ _; omega⟩
  | drop k => simp only [Ws.step] at hs; cases hs; exact ⟨by show 0 ≤ ws.many + 1; omega, by show ws.many + 1 ≤ _; omega, hse, hco, by show ws.seats.length ≤ _; omega, by show ws.copies.length ≤ _; omega⟩
  | join r => simp only [Ws.step] at hs; cases hs; exact put r 0 he.1 he.2 (by omega)
  | read r u => obtain ⟨_, hs⟩ := step_read hs; subst hs; exact put r u he.1 he.2.1 he.2.2
  | save r =>
    simp only [Ws.step] at hs
    obtain ⟨v, h1, h2⟩ := Option.map_eq_some_iff.mp hs
    subst h2
    obtain ⟨p, i, e, _, _, hi⟩ := hse _ (getD_mem h1)
    cases e
    exact ⟨m0, by show ws.many ≤ _; omega, hse, fun x hx => (List.mem_append.mp hx).elim (hco x) (fun z => ⟨i, by simpa using z, hi⟩), by show ws.seats.length ≤ _; omega, by show (ws.copies ++ _).length ≤ _; simp; omega⟩
  | load r c =>
    simp only [Ws.step] at hs
    obtain ⟨v, h1, h2⟩ := Option.map_eq_some_iff.mp hs
    subst h2
    have hm : v ∈ ws.copies := by
      unfold atI at h1
      obtain ⟨j, _, h3⟩ := Option.bind_eq_some_iff.mp h1
      exact List.mem_of_getElem? h3
    obtain ⟨i, rfl, hi⟩ := hco v hm
    exact put r i he.1 he.2.1 hi
  | wait => simp only [Ws.step] at hs; cases hs; exact ⟨m0, by omega, hse, hco, by omega, by omega⟩
end Mp.Dr
namespace Mp.Dr
open PySem L2
def Strs (M : Mm) (n : Nat) (P : Str → Prop) : Prop := ∃ ks : List Str, M[n]? = some (.lst (ks.map .str)) ∧ ks ≠ [] ∧ ks.length < 1000 ∧ ∀ k ∈ ks, P k
def HE (cf : CF) : Prop := ∀ (M : Mm) (b w s c nn : Nat) (k f : Int) (ws : Ws) (n : Nat) (z : Str), Bx M b k → k < 900000000000 → WAt M w s c ws → WsOk ws n → n < 100000 → b ≠ w → b ≠ s → b ≠ c → nn ≠ b → Strs M nn KeyOk → 1 ≤ f → f ≤ 4 → 0 < z.length → z.length < 1000 →
  ∃ (v : PV) (M' : Mm), cf i_l_event [.ref b, .ref w, .int f, .ref nn, .str z] M = some (v, M') ∧ Frm [b] M M' ∧ Bx M' b (k + 5) ∧ (v = .non ∨ ∃ e ws', v = e.pv ∧ EvOk e ∧ ws.step e = some ws')
theorem event_ok {cf : CF} (T : HT cf) (O : HO cf) {M : Mm} {b w s c nn : Nat} {k f : Int} {ws : Ws} {n : Nat} {z : Str} (h : Bx M b k) (hk : k < 900000000000) (hw : WAt M w s c ws) (ho : WsOk ws n) (hn : n < 100000) (n1 : b ≠ w) (n2 : b ≠ s) (n3 : b ≠ c) (n4 : nn ≠ b) (hq : Strs M nn KeyOk) (f1 : 1 ≤ f) (f2 : f ≤ 4) (z1 : 0 < z.length) (z2 : z.length < 1000) :
    ∃ (v : PV) (M' : Mm), runD cf ir_l_event [.ref b, .ref w, .int f, .ref nn, .str z] M = some (v, M') ∧ Frm [b] M M' ∧ Bx M' b (k + 5) ∧ (v = .non ∨ ∃ e ws', v = e.pv ∧ EvOk e ∧ ws.step e = some ws') := by
  obtain ⟨ks, q1, q2, q3, q4⟩ := hq
  obtain ⟨r1, l1, a1, a2, e1, B1⟩ := T M b k z.length h (by omega) (by omega) (by omega)
  have g1 : Frm [b] M (M.set b (.lst l1)) := Frm.set (by simp)
  generalize eM1 : M.set b (.lst l1) = M1 at e1 B1 g1
  obtain ⟨r2, l2, b1, b2, e2, B2⟩ := T M1 b (k + 1) f B1 (by omega) (by omega) (by omega)
  have g2 : Frm [b] M (M1.set b (.lst l2)) := g1.trans (Frm.set (by simp))
  generalize eM2 : M1.set b (.lst l2) = M2 at e2 B2 g2
  obtain ⟨x3, l3, c1, e3, B3⟩ := O M2 b nn (k + 1 + 1) (ks.map .str) B2 (by omega) (g2.get q1 (by simpa using n4)) n4 (by simpa using q2) (by simpa using q3)
  have g3 : Frm [b] M (M2.set b (.lst l3)) := g2.trans (Frm.set (by simp))
  generalize eM3 : M2.set b (.lst l3) = M3 at e3 B3 g3
  obtain ⟨key, ck, rfl⟩ := List.mem_map.mp c1
  have hkey := q4 key ck
  have W3 : WAt M3 w s c ws := hw.frm g3 (by simpa using n1.symm) (by simpa using n2.symm) (by simpa using n3.symm)
  have hlz : z.cps.toList.length = z.length := by simp [Str.length]
  have hr : r1.toNat < z.cps.toList.length := by omega
  generalize ech : z.cps.toList[r1.toNat] = ch
  have hix : idxP M1 (.str z) (.int r1) = some (.str ⟨#[ch]⟩) := by
    have : atI z.cps.toList r1 = some ch := by
      simp only [atI, ixN, if_pos a1]
      rw [if_pos (by rw [hlz]; exact a2)]
      show z.cps.toList[r1.toNat]? = some ch
      rw [List.getElem?_eq_getElem hr, ech]
    simp only [idxP, this]
    rw [if_pos (show z.length ≤ sizeLine by have : sizeLine = 16777216 := rfl; omega)]
    rfl
  generalize (⟨#[ch]⟩ : Str) = wy at hix
  have hlen : bltP M .len [.str z] = some (.int z.length, M) := by
    simp only [bltP]; rw [if_pos (show z.length ≤ sizeLine by have : sizeLine = 16777216 := rfl; omega)]
  have hwd := W3.w_
  unfold wdic at hwd
  have hsd := W3.s_
  have hcd := W3.c_
  have iS : ∀ {N : Mm}, Frm [b] M3 N → idxP N (.ref w) (.str "seats") = some (.ref s) := fun {N} fr => by
    have := fr.get hwd (by simpa using n1.symm)
    simp [idxP, this, keyOf, getD]
  have iC : ∀ {N : Mm}, Frm [b] M3 N → idxP N (.ref w) (.str "copies") = some (.ref c) := fun {N} fr => by
    have := fr.get hwd (by simpa using n1.symm)
    simp [idxP, this, keyOf, getD]
  have iM : ∀ {N : Mm}, Frm [b] M3 N → idxP N (.ref w) (.str "many") = some (.int ws.many) := fun {N} fr => by
    have := fr.get hwd (by simpa using n1.symm)
    simp [idxP, this, keyOf, getD]
  by_cases hp : wy = "p"
  · obtain ⟨r4, l4, d1, d2, e4, B4⟩ := T M3 b (k + 1 + 1 + 1) 9 B3 (by omega) (by omega) (by omega)
    refine ⟨(Ev.put key r4).pv, M3.set b (.lst l4), ?_, g3.trans (Frm.set (by simp)), B4.frm (S := []) .refl (by simp) (by omega), .inr ⟨.put key r4, _, rfl, ⟨hkey, d1, by omega⟩, rfl⟩⟩
    simp [runD, ir_l_event, evSs, evS, evE, evEs, tgP, setAll, hlen, e1, hix, e2, e3, hp, cmpP, eqP, eqS, e4, Ev.pv, sizeLine]
  by_cases hd : wy = "d"
  · refine ⟨(Ev.drop key).pv, M3, ?_, g3, B3.frm (S := []) .refl (by simp) (by omega), .inr ⟨.drop key, _, rfl, hkey, rfl⟩⟩
    simp [runD, ir_l_event, evSs, evS, evE, evEs, tgP, setAll, hlen, e1, hix, e2, e3, hd, cmpP, eqP, eqS, isIn, inP, flatP, eqF, Ev.pv, sizeLine]
  by_cases hww : wy = "w"
  · refine ⟨Ev.wait.pv, M3, ?_, g3, B3.frm (S := []) .refl (by simp) (by omega), .inr ⟨.wait, _, rfl, trivial, rfl⟩⟩
    simp [runD, ir_l_event, evSs, evS, evE, evEs, tgP, setAll, hlen, e1, hix, e2, e3, hww, cmpP, eqP, eqS, isIn, inP, flatP, eqF, Ev.pv, sizeLine]
  have hin : (Str.ofString "d" == wy || Str.ofString "w" == wy) = false := by
    rw [beq_eq_false_iff_ne.mpr (Ne.symm hd), beq_eq_false_iff_ne.mpr (Ne.symm hww)]; rfl
  have hdd : (Str.ofString "d" == wy) = false := beq_eq_false_iff_ne.mpr (Ne.symm hd)
  have hdw : (Str.ofString "w" == wy) = false := beq_eq_false_iff_ne.mpr (Ne.symm hww)
  by_cases hj : wy = "j"
  · refine ⟨(Ev.join r2).pv, M3, ?_, g3, B3.frm (S := []) .refl (by simp) (by omega), .inr ⟨.join r2, _, rfl, ⟨b1, by omega⟩, rfl⟩⟩
    simp [runD, ir_l_event, evSs, evS, evE, evEs, tgP, setAll, hlen, e1, hix, e2, e3, hj, cmpP, eqP, eqS, isIn, inP, flatP, eqF, Ev.pv, sizeLine]
  by_cases hl : wy = "l"
  · have fA : Frm [b] M3 (M3 ++ [.lst []]) := Frm.app
    have q1 := iC (.refl : Frm [b] M3 M3)
    have q2 := iC fA
    have q3 : (M3 ++ [.lst []])[c]? = some (.lst ws.copies) := fA.get hcd (by simpa using n3.symm)
    have q4 : (M3 ++ [.lst []])[M3.length]? = some (.lst []) := by simp
    have q5 := eqP_nil (j := 1) (g := fd) q3 q4 (by intro x hx; obtain ⟨v, rfl, _⟩ := ho.copies x hx; exact Rd.flat trivial) (by omega) (by omega)
    by_cases hne : ws.copies = []
    · refine ⟨.non, M3 ++ [.lst []], ?_, g3.trans fA, B3.frm (S := []) .app (by simp) (by omega), .inl rfl⟩
      rw [hne] at q5
      simp [runD, ir_l_event, evSs, evS, evE, evEs, tgP, setAll, hlen, e1, hix, e2, e3, hl, cmpP, isIn, inP, flatP, eqF, sizeLine, q1, q2, q5]
    · have hpos : 0 < ws.copies.length := List.length_pos_iff.mpr hne
      have hcl := ho.cl
      obtain ⟨r4, l4, d1, d2, e4, B4⟩ := T (M3 ++ [.lst []]) b (k + 1 + 1 + 1) ws.copies.length (B3.frm (S := []) .app (by simp) (by omega)) (by omega) (by omega) (by omega)
      have hst : (atI ws.copies r4) = some (ws.copies[r4.toNat]'(by omega)) := by
        simp only [atI, ixN, if_pos d1, if_pos d2]
        exact List.getElem?_eq_getElem (by omega)
      refine ⟨(Ev.load r2 r4).pv, _, ?_, (g3.trans fA).trans (Frm.set (by simp)), B4.frm (S := []) .refl (by simp) (by omega), .inr ⟨.load r2 r4, _, rfl, ⟨b1, by omega, d1⟩, by simp only [Ws.step, hst]; rfl⟩⟩
      have q5' : eqP (M3 ++ [.lst []]) (.ref c) (.ref M3.length) = some false := by rw [q5]; cases hh : ws.copies with | nil => exact absurd hh hne | cons _ _ => rfl
      have hlc : bltP (M3 ++ [.lst []]) .len [.ref c] = some (.int ws.copies.length, M3 ++ [.lst []]) := by simp only [bltP, q3]
      simp [runD, ir_l_event, evSs, evS, evE, evEs, tgP, setAll, hlen, e1, hix, e2, e3, hl, cmpP, isIn, inP, flatP, eqF, sizeLine, q1, q2, q5', hlc, e4, Ev.pv]
  have p1 := iS (.refl : Frm [b] M3 M3)
  have p2 := iM (.refl : Frm [b] M3 M3)
  have hpf : eqP M3 (.str wy) (.str "p") = some false := by simp [eqP, eqS, hp]
  have hjf : eqP M3 (.str wy) (.str "j") = some false := by simp [eqP, eqS, hj]
  have hlf : eqP M3 (.str wy) (.str "l") = some false := by simp [eqP, eqS, hl]
  have hni : isIn M3 (.int r2) (.ref s) = some (getD ws.seats (.inl r2)).isSome := by simp only [isIn, hsd, keyOf]; rfl
  cases hg : getD ws.seats (.inl r2) with
  | none =>
    rw [hg] at hni
    refine ⟨(Ev.join r2).pv, M3, ?_, g3, B3.frm (S := []) .refl (by simp) (by omega), .inr ⟨.join r2, _, rfl, ⟨b1, by omega⟩, rfl⟩⟩
    simp [runD, ir_l_event, evSs, evS, evE, evEs, tgP, setAll, hlen, e1, hix, e2, e3, cmpP, hpf, hjf, hlf, isIn, inP, flatP, eqF, hdd, hdw, sizeLine, p1, Ev.pv]
    simp [isIn, hsd, keyOf, hg]
  | some v =>
    rw [hg] at hni
    obtain ⟨p, v', e', _, _, hv0⟩ := ho.seats _ (getD_mem hg)
    cases e'
    by_cases hs : wy = "s"
    · refine ⟨(Ev.save r2).pv, M3, ?_, g3, B3.frm (S := []) .refl (by simp) (by omega), .inr ⟨.save r2, _, rfl, ⟨b1, by omega⟩, by simp only [Ws.step, hg]; rfl⟩⟩
      simp [runD, ir_l_event, evSs, evS, evE, evEs, tgP, setAll, hlen, e1, hix, e2, e3, cmpP, hs, isIn, inP, flatP, eqF, sizeLine, p1, Ev.pv, eqP, eqS, hsd, keyOf, hg]
    have hsf : eqP M3 (.str wy) (.str "s") = some false := by simp [eqP, eqS, hs]
    have p3 : idxP M3 (.ref s) (.int r2) = some (.int v') := by simp only [idxP, hsd, keyOf]; exact hg
    by_cases hgap : 0 < ws.many - v'
    · have hm1 := ho.m1
      obtain ⟨r4, l4, d1, d2, e4, B4⟩ := T M3 b (k + 1 + 1 + 1) (ws.many - v') B3 (by omega) (by omega) (by omega)
      refine ⟨(Ev.read r2 (v' + 1 + r4)).pv, _, ?_, g3.trans (Frm.set (by simp)), B4.frm (S := []) .refl (by simp) (by omega), .inr ⟨.read r2 (v' + 1 + r4), _, rfl, ⟨b1, by omega, by omega⟩, read_step hg (by omega) (by omega)⟩⟩
      have hgap' : v' < ws.many := by omega
      simp [runD, ir_l_event, evSs, evS, evE, evEs, tgP, setAll, hlen, e1, hix, e2, e3, cmpP, hpf, hjf, hlf, hsf, isIn, inP, flatP, eqF, hdd, hdw, sizeLine, p1, p2, p3, Ev.pv, hsd, keyOf, hg, bopP, hgap, hgap', e4]
    · refine ⟨.non, M3, ?_, g3, B3.frm (S := []) .refl (by simp) (by omega), .inl rfl⟩
      have hgap' : ¬ v' < ws.many := by omega
      simp [runD, ir_l_event, evSs, evS, evE, evEs, tgP, setAll, hlen, e1, hix, e2, e3, cmpP, hpf, hjf, hlf, hsf, isIn, inP, flatP, eqF, hdd, hdw, sizeLine, p1, p2, p3, Ev.pv, hsd, keyOf, hg, bopP, hgap, hgap']
theorem he (j : Nat) : HE (cfN tab (j + 3)) := fun M b w s c nn k f ws n z h hk hw ho hn n1 n2 n3 n4 hq f1 f2 z1 z2 => event_ok (ht (j + 1)) (Mp.Dr.ho j) h hk hw ho hn n1 n2 n3 n4 hq f1 f2 z1 z2
end Mp.Dr
namespace Mp.Dr
open PySem L2
def Ws.run (ws : Ws) : List Ev → Option Ws
  | [] => some ws
  | e :: es => (ws.step e).bind fun w => w.run es
theorem Ws.run_app {ws1 ws2 : Ws} {es : List Ev} {e : Ev} : ∀ {ws : Ws}, ws.run es = some ws1 → ws1.step e = some ws2 → ws.run (es ++ [e]) = some ws2 := by
  induction es with
  | nil => intro ws h1 h2; cases h1; simp [Ws.run, h2]
  | cons a es ih =>
    intro ws h1 h2
    obtain ⟨w, h3, h4⟩ := Option.bind_eq_some_iff.mp h1
    show (ws.step a).bind _ = _
    rw [h3]; exact ih h4 h2
def w0 : Ws := ⟨[], [], 0⟩
theorem w0_ok : WsOk w0 0 := ⟨by decide, by decide, by simp [w0], by simp [w0], by decide, by decide⟩
theorem WsOk.mono {ws : Ws} {n m : Nat} (h : WsOk ws n) (hm : n ≤ m) : WsOk ws m := ⟨h.m0, by have := h.m1; omega, h.seats, h.copies, Nat.le_trans h.sl hm, Nat.le_trans h.cl hm⟩
abbrev wE : E := (.dct [.inr "seats", .inr "copies", .inr "many"] (.cons .dnew (.cons (.lst .nil) (.cons (.con (.int 0)) .nil))))
theorem wE_ok (cf : CF) (sg : Sg) (M : Mm) : ∃ M', evE cf wE sg M = some (.ref M.length, M') ∧ WAt M' M.length (M.length + 1) (M.length + 2) w0 ∧ Frm [] M M' ∧ M'.length = M.length + 3 := by
  refine ⟨M ++ [wdic (M.length + 1) (M.length + 2) 0, .dic [], .lst []], ?_, ⟨?_, ?_, ?_, by omega⟩, Frm.app, by simp⟩
  · have h1 : dicAt (M ++ [Ob.dic []] ++ [Ob.dic []] ++ [Ob.lst []]) M.length = some [] := by simp [dicAt]
    have h2 : (M ++ [Ob.dic []] ++ [Ob.dic []] ++ [Ob.lst []]).set M.length (wdic (M.length + 1) (M.length + 2) 0) = M ++ [wdic (M.length + 1) (M.length + 2) 0, .dic [], .lst []] := by simp
    rw [← h2]
    simp [evE, evEs, sizeLine, dicAt, putD, wdic]
  · simp [w0]
  · simp [w0]
  · simp [w0]
def Ev.word : Ev → Str
  | .put _ _ => "put" | .drop _ => "drop" | .join _ => "join" | .read _ _ => "read" | .save _ => "save" | .load _ _ => "load" | .wait => "wait"
def Ev.rest : Ev → List PV
  | .put k v => [.str k, .int v] | .drop k => [.str k] | .join r => [.int r] | .read r u => [.int r, .int u] | .save r => [.int r] | .load r c => [.int r, .int c] | .wait => []
theorem Ev.pv_eq (e : Ev) : e.pv = .tup (.str e.word :: e.rest) := by cases e <;> rfl
structure TbOk (es : List Ev) (n : Nat) : Prop where
  run : ∃ ws, w0.run es = some ws ∧ WsOk ws n
  len : es.length ≤ n
  ok : ∀ e ∈ es, EvOk e
theorem TbOk.nil : TbOk [] 0 := ⟨⟨w0, rfl, w0_ok⟩, Nat.le_refl _, by simp⟩
theorem TbOk.mono {es : List Ev} {n m : Nat} (h : TbOk es n) (hm : n ≤ m) : TbOk es m := ⟨by obtain ⟨ws, a, b⟩ := h.run; exact ⟨ws, a, b.mono hm⟩, Nat.le_trans h.len hm, h.ok⟩
structure Mkg (M : Mm) (nf w s c : Nat) (es : List Ev) (ws : Ws) (n : Nat) : Prop where
  f_ : M[nf]? = some (.lst (es.map Ev.pv))
  w_ : WAt M w s c ws
  run : w0.run es = some ws
  len : es.length ≤ n
  wok : WsOk ws n
  ok : ∀ e ∈ es, EvOk e
  ne : nf ≠ w
theorem Mkg.ne2 {M : Mm} {nf w s c : Nat} {es : List Ev} {ws : Ws} {n : Nat} (h : Mkg M nf w s c es ws n) : nf ≠ s := by
  intro e; subst e; have := h.w_.s_; rw [h.f_] at this; cases this
theorem Mkg.mono {M : Mm} {nf w s c : Nat} {es : List Ev} {ws : Ws} {n m : Nat} (h : Mkg M nf w s c es ws n) (hm : n ≤ m) : Mkg M nf w s c es ws m := ⟨h.f_, h.w_, h.run, Nat.le_trans h.len hm, h.wok.mono hm, h.ok, h.ne⟩
theorem Mkg.frm {S : List Nat} {M M' : Mm} {nf w s c : Nat} {es : List Ev} {ws : Ws} {n : Nat} (h : Mkg M nf w s c es ws n) (a : Frm S M M') (h1 : nf ∉ S) (h2 : w ∉ S) (h3 : s ∉ S) (h4 : c ∉ S) : Mkg M' nf w s c es ws n := ⟨a.get h.f_ h1, h.w_.frm a h2 h3 h4, h.run, h.len, h.wok, h.ok, h.ne⟩
def HM (cf : CF) : Prop := ∀ (M : Mm) (w s c : Nat) (ws ws' : Ws) (e : Ev), WAt M w s c ws → ws.step e = some ws' → ws.seats.length < 1000 → ws.copies.length < 1000 →
  ∃ M', cf i_l_moved [.ref w, e.pv] M = some (.non, M') ∧ WAt M' w s c ws' ∧ Frm [w, s, c] M M' ∧ M'.length = M.length
theorem hm (j : Nat) : HM (cfN tab (j + 1)) := fun M w s c ws ws' e h1 h2 h3 h4 => moved_ok (cfN tab j) h1 h2 h3 h4
theorem go_ok {cf : CF} (H : HM cf) {M : Mm} {nf w s c : Nat} {es : List Ev} {ws ws' : Ws} {n : Nat} {e : Ev} (h : Mkg M nf w s c es ws n) (hn : n < 500) (he : EvOk e) (hs : ws.step e = some ws') (hc : nf ≠ c) :
    ∃ M1 M2, cf i_l_moved [.ref w, e.pv] M = some (.non, M1) ∧ mtOk M1 .append (.ref nf) = true ∧ mthP M1 .append (.ref nf) [e.pv] = some (.non, M2) ∧ Mkg M2 nf w s c (es ++ [e]) ws' (n + 1) ∧ Frm [nf, w, s, c] M M2 := by
  obtain ⟨M1, e1, W1, f1, l1⟩ := H M w s c ws ws' e h.w_ hs (by have := h.wok.sl; omega) (by have := h.wok.cl; omega)
  have hf : M1[nf]? = some (.lst (es.map Ev.pv)) := f1.get h.f_ (by simp [h.ne, h.ne2, hc])
  have hl : (es.map Ev.pv).length < 16777216 := by have := h.len; simp; omega
  refine ⟨M1, M1.set nf (.lst (es.map Ev.pv ++ [e.pv])), e1, by simp [mtOk, lstAt, hf], ?_, ⟨?_, ?_, Ws.run_app h.run hs, ?_, step_ok h.wok he hs, ?_, h.ne⟩, ?_⟩
  · simp only [mthP, lstAt, hf]
    show (if _ then _ else _) = _
    rw [if_pos (show _ < sizeLine from hl)]
  · rw [List.map_append]; simp [lt_of hf]
  · exact W1.frm (S := [nf]) (Frm.set (by simp)) (by simp [h.ne.symm]) (by simp [h.ne2.symm]) (by simp [hc.symm])
  · simp; exact h.len
  · intro x hx
    rcases List.mem_append.mp hx with hx | hx
    · exact h.ok x hx
    · simp at hx; subst hx; exact he
  · exact (f1.mono (by simp +contextual)).trans (Frm.set (by simp))
def HTb (cf : CF) : Prop := ∀ (M : Mm) (b nn : Nat) (k f many most : Int) (z : Str), Bx M b k → k < 800000000000 → nn ≠ b → Strs M nn KeyOk → 1 ≤ f → f ≤ 4 → 0 < z.length → z.length < 1000 → 0 ≤ many → many ≤ 20 →
  ∃ (es : List Ev) (M' : Mm), cf i_l_table [.ref b, .int many, .int most, .int f, .ref nn, .str z] M = some (.tup (es.map Ev.pv), M') ∧ Frm [b] M M' ∧ Bx M' b (k + 100) ∧ TbOk es 20 ∧ (0 ≤ most → ∃ ws, w0.run es = some ws ∧ ws.many ≤ most)
theorem table_ok {cf : CF} (HEv : HE cf) (H : HM cf) {M : Mm} {b nn : Nat} {k f many most : Int} {z : Str} (h : Bx M b k) (hk : k < 800000000000) (n4 : nn ≠ b) (hq : Strs M nn KeyOk) (f1 : 1 ≤ f) (f2 : f ≤ 4) (z1 : 0 < z.length) (z2 : z.length < 1000) (m1 : 0 ≤ many) (m2 : many ≤ 20) :
    ∃ (es : List Ev) (M' : Mm), runD cf ir_l_table [.ref b, .int many, .int most, .int f, .ref nn, .str z] M = some (.tup (es.map Ev.pv), M') ∧ Frm [b] M M' ∧ Bx M' b (k + 100) ∧ TbOk es 20 ∧ (0 ≤ most → ∃ ws, w0.run es = some ws ∧ ws.many ≤ most) := by
  have hbl : b < M.length := by obtain ⟨_, _, _, hb, _⟩ := h; exact lt_of hb
  have hnl : nn < M.length := by obtain ⟨_, hb, _⟩ := hq; exact lt_of hb
  obtain ⟨Mw, e1, W1, f1', l1⟩ := wE_ok cf ([some (.ref b), some (.int many), some (.int most), some (.int f), some (.ref nn), some (.str z), none, none, none, none, none]) (M ++ [.lst []])
  have f2' : Frm [] M Mw := Frm.trans .app f1'
  have fd1 : Mw[M.length]? = some (.lst []) := f1'.get (by simp) (by simp)
  simp only [List.length_append, List.length_singleton] at W1 e1 l1
  generalize hw_ : M.length + 1 = w at W1 e1
  generalize hs_ : w + 1 = s at W1
  generalize hc_ : w + 2 = c at W1
  generalize hf_ : M.length = nf at *
  let I : Nat → Sg → Mm → Prop := fun i sg N => ∃ o8 o9 o10 es ws, sg = [some (.ref b), some (.int many), some (.int most), some (.int f), some (.ref nn), some (.str z), some (.ref nf), some (.ref w), o8, o9, o10] ∧ Mkg N nf w s c es ws i ∧ Bx N b (k + 5 * i) ∧ Frm [b] M N ∧ (0 ≤ most → ws.many ≤ most)
  obtain ⟨sg', M', e2, o8, o9, o10, es, ws, hsg, K, B, F, Qm⟩ := for_inv (src := .rng 0 many.toNat) (bind := tgP (.name 8)) (body := fun sg M => evSs cf b1_l_table sg M) I (n := many.toNat) (sg := [some (.ref b), some (.int many), some (.int most), some (.int f), some (.ref nn), some (.str z), some (.ref nf), some (.ref w), none, none, none]) (M := Mw) (by omega)
    ⟨none, none, none, [], w0, rfl, ⟨fd1, W1, rfl, Nat.le_refl _, w0_ok, by simp, by omega⟩, h.frm f2' (by simp) (by omega), f2'.mono (by simp), fun h => h⟩
    (by
      intro i sg N hi hI
      obtain ⟨o8, o9, o10, es, ws, rfl, K, B, F, Qm⟩ := hI
      refine ⟨.int (0 + i), [some (.ref b), some (.int many), some (.int most), some (.int f), some (.ref nn), some (.str z), some (.ref nf), some (.ref w), some (.int (0 + i)), o9, o10], ?_⟩
      obtain ⟨v, N1, e3, F1, B1, hv⟩ := HEv N b w s c nn (k + 5 * i) f ws i z B (by omega) K.w_ K.wok (by omega) (by omega) (by omega) (by omega) n4 (by obtain ⟨ks, q, q'⟩ := hq; exact ⟨ks, F.get q (by simpa using n4), q'⟩) f1 f2 z1 z2
      have K1 : Mkg N1 nf w s c es ws i := K.frm F1 (by simp; omega) (by simp; omega) (by simp; omega) (by simp; omega)
      have iM : idxP N1 (.ref w) (.str "many") = some (.int ws.many) := by
        have := K1.w_.w_; simp [idxP, this, keyOf, getD, wdic]
      have iC : idxP N1 (.ref w) (.str "copies") = some (.ref c) := by
        have := K1.w_.w_; simp [idxP, this, keyOf, getD, wdic]
      have hlc : bltP N1 .len [.ref c] = some (.int ws.copies.length, N1) := by simp only [bltP, K1.w_.c_]
      have B2 : ∀ {N2 : Mm}, Frm [nf, w, s, c] N1 N2 → Bx N2 b (k + 5 * (i + 1 : Nat)) := fun fr => B1.frm fr (by simp; omega) (by omega)
      have F2 : ∀ {N2 : Mm}, Frm [nf, w, s, c] N1 N2 → Frm [b] M N2 := fun fr => (F.trans F1).comp fr (by simp; omega)
      have src : (Src.rng 0 many.toNat).get N i = some (some (.int (0 + i))) := by simp [Src.get, hi]
      rcases hv with rfl | ⟨e, ws', rfl, heo, hst⟩
      · refine ⟨[some (.ref b), some (.int many), some (.int most), some (.int f), some (.ref nn), some (.str z), some (.ref nf), some (.ref w), some (.int (0 + i)), some .non, some (.bl false)], N1, src, rfl, ?_, _, _, _, es, ws, rfl, K1.mono (by omega), B2 .refl, F2 .refl, Qm⟩
        simp [b1_l_table, evSs, evS, evE, evEs, tgP, e3, cmpP]
      · obtain ⟨Na, Nb, g1, g2, g3, g4, g5⟩ := go_ok H K1 (by omega) heo hst (by omega)
        have full : ∃ x, isIn N1 (.str e.word) (.tup [.str "put", .str "drop"]) = some x := by simp [isIn, inP, flatP]
        obtain ⟨x, hx⟩ := full
        have hQm : (x && decide (most ≤ ws.many)) = false → 0 ≤ most → ws'.many ≤ most := fun hx2 h0m => by
          have hQ := Qm h0m
          have hm : ws'.many = ws.many ∨ (ws'.many = ws.many + 1 ∧ (e.word = "put" ∨ e.word = "drop")) := by
            cases e with
            | put k v => simp only [Ws.step] at hst; cases hst; exact .inr ⟨rfl, .inl rfl⟩
            | drop k => simp only [Ws.step] at hst; cases hst; exact .inr ⟨rfl, .inr rfl⟩
            | wait => simp only [Ws.step] at hst; cases hst; exact .inl rfl
            | join r => simp only [Ws.step] at hst; cases hst; exact .inl rfl
            | read r u =>
              simp only [Ws.step] at hst
              split at hst
              · split at hst
                · cases hst; exact .inl rfl
                · cases hst
              · cases hst
            | save r =>
              simp only [Ws.step] at hst
              obtain ⟨v, _, rfl⟩ := Option.map_eq_some_iff.mp hst
              exact .inl rfl
            | load r c =>
              simp only [Ws.step] at hst
              obtain ⟨v, _, rfl⟩ := Option.map_eq_some_iff.mp hst
              exact .inl rfl
          rcases hm with hm | ⟨hm, hw⟩
          · omega
          · have hxt : x = true := by
              rcases hw with hw | hw <;> (rw [hw] at hx; simp [isIn, inP, flatP, eqF] at hx; exact hx)
            subst hxt
            simp at hx2
            omega
        have ix0 : idxP N1 e.pv (.int 0) = some (.str e.word) := by rw [e.pv_eq]; simp [idxP, atI, ixN]
        rw [e.pv_eq] at e3 g1 g3 ix0
        generalize e.word = ew at *
        generalize e.rest = er at *
        by_cases go : (x && decide (most ≤ ws.many)) = false ∧ (ew ≠ "save" ∨ (ws.copies.length : Int) < 3)
        · refine ⟨[some (.ref b), some (.int many), some (.int most), some (.int f), some (.ref nn), some (.str z), some (.ref nf), some (.ref w), some (.int (0 + i)), some (.tup (.str ew :: er)), some (.bl false)], Nb, src, rfl, ?_, _, _, _, es ++ [e], ws', rfl, g4, B2 g5, F2 g5, hQm go.1⟩
          obtain ⟨ga, gb⟩ := go
          cases x with
          | false =>
            by_cases hsv : ew = "save"
            · have h3 : (ws.copies.length : Int) < 3 := gb.resolve_left (fun q => q hsv)
              subst hsv
              simp [b1_l_table, evSs, evS, evE, evEs, tgP, e3, ix0, cmpP, hx, iC, hlc, h3, g1, g2, g3, sizeLine]
            · simp [b1_l_table, evSs, evS, evE, evEs, tgP, e3, ix0, cmpP, hx, hsv, iC, hlc, g1, g2, g3, sizeLine]
          | true =>
            simp at ga
            have ga' : ¬ most ≤ ws.many := by omega
            by_cases hsv : ew = "save"
            · have h3 : (ws.copies.length : Int) < 3 := gb.resolve_left (fun q => q hsv)
              subst hsv
              simp [b1_l_table, evSs, evS, evE, evEs, tgP, e3, ix0, cmpP, hx, iC, iM, hlc, h3, ga', g1, g2, g3, sizeLine]
            · simp [b1_l_table, evSs, evS, evE, evEs, tgP, e3, ix0, cmpP, hx, hsv, iC, iM, hlc, ga', g1, g2, g3, sizeLine]
        · refine ⟨[some (.ref b), some (.int many), some (.int most), some (.int f), some (.ref nn), some (.str z), some (.ref nf), some (.ref w), some (.int (0 + i)), some (.tup (.str ew :: er)), some (.bl (x && decide (most ≤ ws.many)))], N1, src, rfl, ?_, _, _, _, es, ws, rfl, K1.mono (by omega), B2 .refl, F2 .refl, Qm⟩
          by_cases hsv : ew = "save" ∧ ¬ (ws.copies.length : Int) < 3
          · obtain ⟨h1, h2⟩ := hsv
            subst h1
            cases x <;> by_cases hmm : most ≤ ws.many <;> simp [b1_l_table, evSs, evS, evE, evEs, tgP, e3, ix0, cmpP, hx, iC, iM, hlc, h2, hmm, sizeLine]
          · have hxx : x = true ∧ most ≤ ws.many := by
              cases x with
              | false => exact absurd ⟨rfl, (Classical.em (ew = "save")).elim (fun q => .inr (Classical.byContradiction fun z => hsv ⟨q, z⟩)) .inl⟩ go
              | true =>
                refine ⟨rfl, Classical.byContradiction fun zz => go ⟨by simp; omega, (Classical.em (ew = "save")).elim (fun q => .inr (Classical.byContradiction fun z => hsv ⟨q, z⟩)) .inl⟩⟩
            obtain ⟨rfl, hmm⟩ := hxx
            simp [b1_l_table, evSs, evS, evE, evEs, tgP, e3, ix0, cmpP, hx, iC, iM, hlc, hmm, sizeLine])
    (by intro sg N _; simp [Src.get])
  refine ⟨es, M', ?_, F, B.frm (S := []) .refl (by simp) (by omega), ⟨⟨ws, K.run, K.wok.mono (by omega)⟩, by have := K.len; omega, K.ok⟩, fun h => ⟨ws, K.run, Qm h⟩⟩
  subst hsg
  have hro : rngOk many = true := by simp [rngOk]; omega
  have hfin := K.f_
  have hE : ∀ (q : E) (sg0 : Sg), evE cf q sg0 (M ++ [.lst []]) = some (.ref w, Mw) → evE cf (.tup (.cons (.lst .nil) (.cons q .nil))) sg0 M = some (.tup [.ref nf, .ref w], Mw) := by
    intro q sg0 hq; simp [evE, evEs, hq, sizeLine, hf_]
  have hT : evE cf (.blt .tuple (.cons (.var 6) .nil)) [some (.ref b), some (.int many), some (.int most), some (.int f), some (.ref nn), some (.str z), some (.ref nf), some (.ref w), o8, o9, o10] M' = some (.tup (es.map Ev.pv), M') := by
    simp [evE, evEs, bltP, lstAt, hfin]
  simp [runD, ir_l_table, evSs, evS, hE wE _ e1, evI, tgP, setAll, evE.eq_1, hro, e2, hT]
theorem htb (j : Nat) : HTb (cfN tab (j + 4)) := fun M b nn k f many most z h hk n4 hq f1 f2 z1 z2 m1 m2 => table_ok (he j) (hm (j + 2)) h hk n4 hq f1 f2 z1 z2 m1 m2
end Mp.Dr
namespace Mp.Dr
open PySem L2
theorem Ws.run_append {es fs : List Ev} : ∀ {ws : Ws}, ws.run (es ++ fs) = (ws.run es).bind fun w => w.run fs := by
  induction es with
  | nil => intro ws; rfl
  | cons a es ih =>
    intro ws
    show (ws.step a).bind _ = ((ws.step a).bind _).bind _
    cases ws.step a with
    | none => rfl
    | some w => exact ih
theorem run_ok {es : List Ev} : ∀ {ws ws' : Ws} {n : Nat}, WsOk ws n → (∀ e ∈ es, EvOk e) → ws.run es = some ws' → WsOk ws' (n + es.length) := by
  induction es with
  | nil => intro ws ws' n h _ e; cases e; exact h
  | cons a es ih =>
    intro ws ws' n h ho e
    obtain ⟨w, h1, h2⟩ := Option.bind_eq_some_iff.mp e
    have := ih (step_ok h (ho a (by simp)) h1) (fun x hx => ho x (by simp [hx])) h2
    exact this.mono (by simp; omega)
def DiffR (e e' : Ev) : Prop := ∀ p u p' u', e = .read p u → e' = .read p' u' → p ≠ p'
theorem run_reads {rs : List Ev} : ∀ {ws : Ws}, (∀ r ∈ rs, ∃ p b : Int, r = .read p ws.many ∧ getD ws.seats (.inl p) = some (.int b) ∧ b < ws.many) → rs.Pairwise DiffR → ∃ ws', ws.run rs = some ws' ∧ ws'.many = ws.many := by
  induction rs with
  | nil => intro ws _ _; exact ⟨ws, rfl, rfl⟩
  | cons a rs ih =>
    intro ws h hp
    obtain ⟨p, b, rfl, h1, h2⟩ := h a (by simp)
    rw [List.pairwise_cons] at hp
    have hs := read_step h1 h2 (Int.le_refl _)
    obtain ⟨ws', hw, hm⟩ := ih (ws := { ws with seats := putD ws.seats (.inl p) (.int ws.many) }) (fun r hr => by
      obtain ⟨p', b', rfl, k1, k2⟩ := h r (by simp [hr])
      refine ⟨p', b', rfl, ?_, k2⟩
      show getD (putD ws.seats (.inl p) (.int ws.many)) (.inl p') = _
      rw [getD_putN (fun z => hp.1 _ hr p _ p' _ rfl rfl (by injection z with z; exact z.symm))]
      exact k1) hp.2
    refine ⟨ws', ?_, hm⟩
    show (ws.step (.read p ws.many)).bind (fun w => w.run rs) = _
    rw [hs]; exact hw
theorem putD_nd {kvs : List (Key × PV)} {k : Key} {v : PV} (h : (kvs.map (·.1)).Nodup) : ((putD kvs k v).map (·.1)).Nodup := by
  rw [putD_keys]
  split
  · exact h
  · rename_i hk
    rw [List.nodup_append]
    refine ⟨h, by simp, fun a ha b hb => ?_⟩
    simp at hb
    subst hb
    intro z
    subst z
    obtain ⟨q, hq, rfl⟩ := List.mem_map.mp ha
    exact hk (List.any_eq_true.mpr ⟨q, hq, by simp⟩)
theorem step_nd {ws ws' : Ws} {e : Ev} (h : (ws.seats.map (·.1)).Nodup) (hs : ws.step e = some ws') : (ws'.seats.map (·.1)).Nodup := by
  cases e with
  | put k v => cases hs; exact h
  | drop k => cases hs; exact h
  | join r => cases hs; exact putD_nd h
  | read r u => obtain ⟨_, rfl⟩ := step_read hs; exact putD_nd h
  | save r => obtain ⟨v, _, rfl⟩ := Option.map_eq_some_iff.mp hs; exact h
  | load r c => obtain ⟨v, _, rfl⟩ := Option.map_eq_some_iff.mp hs; exact putD_nd h
  | wait => cases hs; exact h
theorem run_nd {es : List Ev} : ∀ {ws ws' : Ws}, (ws.seats.map (·.1)).Nodup → ws.run es = some ws' → (ws'.seats.map (·.1)).Nodup := by
  induction es with
  | nil => intro ws ws' h hr; cases hr; exact h
  | cons e es ih =>
    intro ws ws' h hr
    obtain ⟨w, h1, h2⟩ := Option.bind_eq_some_iff.mp hr
    exact ih (step_nd h h1) h2
theorem keysI_nd : ∀ {kvs : List (Key × PV)} {ns : List Int}, keysI kvs = some ns → (kvs.map (·.1)).Nodup → ns.Nodup
  | [], ns, h, _ => by simp [keysI] at h; subst h; exact List.nodup_nil
  | (.inl i, v) :: r, ns, h, hn => by
    simp only [keysI] at h
    obtain ⟨l, h1, rfl⟩ := Option.map_eq_some_iff.mp h
    rw [List.map_cons, List.nodup_cons] at hn
    rw [List.nodup_cons]
    refine ⟨fun hi => hn.1 ?_, keysI_nd h1 hn.2⟩
    clear hn h
    induction r generalizing l with
    | nil => simp [keysI] at h1; subst h1; simp at hi
    | cons q r ih =>
      obtain ⟨k, w⟩ := q
      cases k with
      | inr s => simp [keysI] at h1
      | inl j =>
        simp only [keysI] at h1
        obtain ⟨l', h2, rfl⟩ := Option.map_eq_some_iff.mp h1
        rcases List.mem_cons.mp hi with rfl | hi
        · simp
        · exact List.mem_cons_of_mem _ (ih _ h2 hi)
  | (.inr s, v) :: r, ns, h, _ => by simp [keysI] at h
theorem insI_mem {i j : Int} {ns : List Int} : j ∈ insI i ns → j = i ∨ j ∈ ns := by
  induction ns with
  | nil => intro h; simpa [insI] using h
  | cons a ns ih =>
    intro h
    unfold insI at h
    split at h
    · simpa using h
    · rcases List.mem_cons.mp h with h | h
      · exact .inr (by simp [h])
      · exact (ih h).imp id (fun q => by simp [q])
theorem sortI_mem {j : Int} {ns : List Int} : j ∈ sortI ns → j ∈ ns := by
  induction ns with
  | nil => intro h; exact h
  | cons a ns ih => intro h; exact (insI_mem h).elim (fun q => by simp [q]) (fun q => by simp [ih q])
theorem insI_len {i : Int} {ns : List Int} : (insI i ns).length = ns.length + 1 := by
  induction ns with
  | nil => rfl
  | cons a ns ih => unfold insI; split <;> simp [ih]
theorem sortI_len {ns : List Int} : (sortI ns).length = ns.length := by
  induction ns with
  | nil => rfl
  | cons a ns ih => show (insI a (sortI ns)).length = _; rw [insI_len, ih]; rfl
theorem keysI_some {kvs : List (Key × PV)} (h : ∀ kv ∈ kvs, ∃ p v : Int, kv = (.inl p, .int v) ∧ 0 ≤ p ∧ p ≤ 3 ∧ 0 ≤ v) : ∃ ns, keysI kvs = some ns ∧ ns.length = kvs.length ∧ ∀ p ∈ ns, 0 ≤ p ∧ p ≤ 3 ∧ ∃ v : Int, getD kvs (.inl p) = some (.int v) := by
  have key : ∀ kvs' : List (Key × PV), (∀ kv ∈ kvs', kv ∈ kvs) → ∃ ns, keysI kvs' = some ns ∧ ns.length = kvs'.length ∧ ∀ p ∈ ns, 0 ≤ p ∧ p ≤ 3 ∧ ∃ v : Int, getD kvs (.inl p) = some (.int v) := by
    intro kvs'
    induction kvs' with
    | nil => intro _; exact ⟨[], rfl, rfl, by simp⟩
    | cons kv r ih =>
      intro hs
      obtain ⟨ns, h1, h2, h3⟩ := ih (fun x hx => hs x (by simp [hx]))
      obtain ⟨p, v, rfl, a, b, c⟩ := h kv (hs kv (by simp))
      refine ⟨p :: ns, by simp [keysI, h1], by simp [h2], ?_⟩
      intro q hq
      rcases List.mem_cons.mp hq with rfl | hq
      · refine ⟨a, b, ?_⟩
        cases hg : getD kvs (.inl q) with
        | some w => obtain ⟨_, v', e, _⟩ := h _ (getD_mem hg); cases e; exact ⟨v', rfl⟩
        | none =>
          exfalso
          unfold getD at hg
          rw [Option.map_eq_none_iff, List.find?_eq_none] at hg
          exact hg (.inl q, .int v) (hs (.inl q, .int v) (by simp)) (by simp)
      · exact h3 q hq
  exact key kvs (fun _ h => h)
def TbF (es : List Ev) : Prop := TbOk es 52 ∧ ∃ ws, w0.run es = some ws ∧ ws.many ≤ 26
theorem TbOk.f {es : List Ev} {n : Nat} (h : TbOk es n) (hn : n ≤ 26) : TbF es := ⟨h.mono (by omega), by obtain ⟨ws, a, b⟩ := h.run; exact ⟨ws, a, by have := b.m1; omega⟩⟩
def HEn (cf : CF) : Prop := ∀ (M : Mm) (es : List Ev), TbOk es 26 → ∃ (es' : List Ev) (M' : Mm), cf i_l_ended [.tup (es.map Ev.pv)] M = some (.tup (es'.map Ev.pv), M') ∧ Frm [] M M' ∧ TbF es' ∧ ∀ n : Int, (∃ ws, w0.run es = some ws ∧ ws.many ≤ n) → ∃ ws, w0.run es' = some ws ∧ ws.many ≤ n
theorem ended_ok {cf : CF} (H : HM cf) {M : Mm} {es : List Ev} (h : TbOk es 26) : ∃ (es' : List Ev) (M' : Mm), runD cf ir_l_ended [.tup (es.map Ev.pv)] M = some (.tup (es'.map Ev.pv), M') ∧ Frm [] M M' ∧ TbF es' ∧ ∀ n : Int, (∃ ws, w0.run es = some ws ∧ ws.many ≤ n) → ∃ ws, w0.run es' = some ws ∧ ws.many ≤ n := by
  obtain ⟨wsE, hrun, hwE⟩ := h.run
  obtain ⟨Mw, e1, W1, f1, l1⟩ := wE_ok cf [some (.tup (es.map Ev.pv)), none, none, none] M
  generalize hw_ : M.length = w at *
  generalize hs_ : w + 1 = s at *
  generalize hc_ : w + 2 = c at *
  let I : Nat → Sg → Mm → Prop := fun i sg N => ∃ o2 ws, sg = [some (.tup (es.map Ev.pv)), some (.ref w), o2, none] ∧ w0.run (es.take i) = some ws ∧ WAt N w s c ws ∧ Frm [] M N
  have hlen := h.len
  obtain ⟨sg', M1, e2, o2, ws, hsg, R, W, F⟩ := for_inv (src := .tup (es.map Ev.pv)) (bind := tgP (.name 2)) (body := fun sg M => evSs cf b3_l_ended sg M) I (n := es.length) (sg := [some (.tup (es.map Ev.pv)), some (.ref w), none, none]) (M := Mw) (by omega)
    ⟨none, w0, rfl, rfl, W1, f1⟩
    (by
      intro i sg N hi hI
      obtain ⟨o2, ws, rfl, R, W, F⟩ := hI
      have hsp : es.take (i + 1) = es.take i ++ [es[i]] := by rw [List.take_succ_eq_append_getElem hi]
      have hall : w0.run (es.take (i + 1) ++ es.drop (i + 1)) = some wsE := by rw [List.take_append_drop]; exact hrun
      rw [Ws.run_append, hsp, Ws.run_append, R] at hall
      obtain ⟨ws1, q1, q2⟩ := Option.bind_eq_some_iff.mp hall
      obtain ⟨ws2, q3, q4⟩ := Option.bind_eq_some_iff.mp (show (ws.step es[i]).bind (fun w => w.run []) = some ws1 from q1)
      cases q4
      have hwo := run_ok w0_ok (fun e he => h.ok e (List.mem_of_mem_take he)) R
      have hl2 : (es.take i).length ≤ i := by simp; omega
      obtain ⟨N1, e3, W3, f3, l3⟩ := H N w s c ws ws1 es[i] W q3 (by have := hwo.sl; omega) (by have := hwo.cl; omega)
      refine ⟨es[i].pv, [some (.tup (es.map Ev.pv)), some (.ref w), some es[i].pv, none], [some (.tup (es.map Ev.pv)), some (.ref w), some es[i].pv, none], N1, ?_, rfl, ?_, some es[i].pv, ws1, rfl, ?_, W3, F.comp f3 (by simp; omega)⟩
      · simp [Src.get, hi]
      · simp [b3_l_ended, evSs, evS, evE, evEs, e3]
      · rw [hsp, Ws.run_append, R]; show (ws.step es[i]).bind _ = _; rw [q3]; rfl)
    (by intro sg N _; simp [Src.get])
  rw [List.take_length] at R
  have hww : ws = wsE := Option.some.inj (R.symm.trans hrun)
  subst hww
  subst hsg
  obtain ⟨ns, k1, k2, k3⟩ := keysI_some hwE.seats
  have hnl : ns.length < 64 := by have := hwE.sl; omega
  have iS : ∀ {N : Mm}, WAt N w s c ws → idxP N (.ref w) (.str "seats") = some (.ref s) := fun {N} q => by
    have := q.w_; simp [idxP, this, keyOf, getD, wdic]
  have iM : ∀ {N : Mm}, WAt N w s c ws → idxP N (.ref w) (.str "many") = some (.int ws.many) := fun {N} q => by
    have := q.w_; simp [idxP, this, keyOf, getD, wdic]
  have hsl : (sortI ns).length ≤ 26 := by have := hwE.sl; rw [sortI_len]; omega
  let J : Nat → Mm → Prop := fun i N => ∃ rs : List Ev, N[M1.length + 1]? = some (.lst (rs.map Ev.pv)) ∧ rs.length ≤ i ∧ (∀ r ∈ rs, EvOk r ∧ ∃ p b : Int, r = .read p ws.many ∧ getD ws.seats (.inl p) = some (.int b) ∧ b < ws.many ∧ p ∈ (sortI ns).take i) ∧ rs.Pairwise DiffR ∧ Frm [] (M1 ++ [.lst ((sortI ns).map .int)]) N
  have hnd : (sortI ns).Nodup := (sortI_perm ns).nodup_iff.mpr (keysI_nd k1 (run_nd (by simp [w0]) R))
  obtain ⟨M3, e4, rs, r1, r2, r3, rP, F3⟩ := lc_inv (src := .lst M1.length) (bind := tgP (.name 3)) (c := fun sg M => evE cf c1_l_ended sg M) (e := fun sg M => evE cf e2_l_ended sg M) (d := M1.length + 1) (sg := [some (.tup (es.map Ev.pv)), some (.ref w), o2, none]) J (n := (sortI ns).length) (M := M1 ++ [.lst ((sortI ns).map .int)] ++ [.lst []]) (by omega)
    ⟨[], by simp, Nat.le_refl _, by simp, .nil, .app⟩
    (by
      intro i N hi hI
      obtain ⟨rs, r1, r2, r3, rP, F3⟩ := hI
      have F4 : Frm [] M1 N := Frm.trans .app F3
      have W4 := W.frm F4 (by simp) (by simp) (by simp)
      have hL : N[M1.length]? = some (.lst ((sortI ns).map .int)) := F3.get (by simp) (by simp)
      obtain ⟨p0, p3, v, hv⟩ := k3 _ (sortI_mem (List.getElem_mem hi))
      have hpt : (sortI ns)[i] ∈ (sortI ns).take (i + 1) := by rw [List.take_succ_eq_append_getElem hi]; exact List.mem_append_right _ (List.mem_singleton.mpr rfl)
      have hpn : (sortI ns)[i] ∉ (sortI ns).take i := fun z => by
        have h9 := hnd
        rw [← List.take_append_drop i (sortI ns), List.nodup_append] at h9
        refine h9.2.2 _ z (sortI ns)[i] ?_ rfl
        rw [List.drop_eq_getElem_cons hi]; exact List.mem_cons_self
      generalize hp : (sortI ns)[i] = p at *
      have iV : idxP N (.ref s) (.int p) = some (.int v) := by simp only [idxP, W4.s_, keyOf]; exact hv
      refine ⟨.int p, [some (.tup (es.map Ev.pv)), some (.ref w), o2, some (.int p)], by simp [Src.get, lstAt, hL, hi, hp], rfl, ?_⟩
      by_cases hlt : v < ws.many
      · refine .inl ⟨N, (Ev.read p ws.many).pv, N, rs.map Ev.pv, ?_, ?_, by simp [lstAt, r1], by simp; omega, rs ++ [.read p ws.many], ?_, by simp; omega, ?_, ?_, F3.wr (by simp)⟩
        · simp [c1_l_ended, evE, iS W4, iM W4, iV, cmpP, hlt]
        · simp [e2_l_ended, evE, evEs, iM W4, Ev.pv, sizeLine]
        · simp [lt_of r1]
        · intro r hr
          rcases List.mem_append.mp hr with hr | hr
          · obtain ⟨q1, p', b', q2, q3, q4, q5⟩ := r3 r hr
            exact ⟨q1, p', b', q2, q3, q4, by rw [List.take_succ_eq_append_getElem hi]; exact List.mem_append_left _ q5⟩
          · simp at hr; subst hr; exact ⟨⟨p0, p3, hwE.m0⟩, _, _, rfl, hv, hlt, hpt⟩
        · rw [List.pairwise_append]
          refine ⟨rP, by simp, fun x hx y hy => ?_⟩
          simp at hy
          subst hy
          intro p1 u1 p2 u2 e1 e2
          obtain ⟨_, p', b', q2, _, _, q5⟩ := r3 x hx
          rw [q2] at e1
          cases e1
          cases e2
          exact fun z => hpn (by rw [← z]; exact q5)
      · refine .inr ⟨N, ?_, rs, r1, by omega, fun r hr => by
          obtain ⟨q1, p', b', q2, q3, q4, q5⟩ := r3 r hr
          exact ⟨q1, p', b', q2, q3, q4, by rw [List.take_succ_eq_append_getElem hi]; exact List.mem_append_left _ q5⟩, rP, F3⟩
        simp [c1_l_ended, evE, iS W4, iM W4, iV, cmpP, hlt])
    (by
      intro N hI
      obtain ⟨rs, r1, r2, r3, rP, F3⟩ := hI
      have hL : N[M1.length]? = some (.lst ((sortI ns).map .int)) := F3.get (by simp) (by simp)
      simp [Src.get, lstAt, hL])
  have hrs : rs.length ≤ 26 := by omega
  obtain ⟨ws', hr', hmn⟩ := run_reads (ws := ws) (fun r hr => by
    obtain ⟨_, p', b', q2, q3, q4, _⟩ := r3 r hr
    exact ⟨p', b', q2, q3, q4⟩) rP
  refine ⟨es ++ rs, M3, ?_, (F.trans .app).trans F3, ⟨⟨⟨ws', by rw [Ws.run_append, R]; exact hr', (run_ok hwE (fun r hr => (r3 r hr).1) hr').mono (by omega)⟩, by simp; omega, ?_⟩, ws', by rw [Ws.run_append, R]; exact hr', by have := hwE.m1; omega⟩, fun n ⟨w1, q1, q2⟩ => ⟨ws', by rw [Ws.run_append, R]; exact hr', by
    have : w1 = ws := Option.some.inj (q1.symm.trans R)
    subst this
    omega⟩⟩
  · have hsrt : bltP M1 .sorted [.ref s] = some (.ref M1.length, M1 ++ [.lst ((sortI ns).map .int)]) := by
      simp [bltP, W.s_, k1, hnl]
    have hso : srcOf (M1 ++ [.lst ((sortI ns).map .int)]) (.ref M1.length) = some (.lst M1.length) := by simp [srcOf, lstAt]
    have hLC : evE cf (.lc [3] (.name 3) (.seq (.blt .sorted (.cons (.idx (.var 1) (.con (.str "seats"))) .nil))) c1_l_ended e2_l_ended) [some (.tup (es.map Ev.pv)), some (.ref w), o2, none] M1 = some (.ref (M1.length + 1), M3) := by
      have hI : evI cf (.seq (.blt .sorted (.cons (.idx (.var 1) (.con (.str "seats"))) .nil))) [some (.tup (es.map Ev.pv)), some (.ref w), o2, none] M1 = some (.lst M1.length, M1 ++ [.lst ((sortI ns).map .int)]) := by
        simp [evI, evE, evEs, iS W, hsrt, hso]
      have hwp : wipeP [some (PV.tup (es.map Ev.pv)), some (.ref w), o2, none] [3] = [some (.tup (es.map Ev.pv)), some (.ref w), o2, none] := rfl
      rw [evE, hI]
      simp only [hwp, List.length_append, List.length_singleton, e4]
      rfl
    have hT : evE cf (.bop .add (.var 0) (.blt .tuple (.cons (.lc [3] (.name 3) (.seq (.blt .sorted (.cons (.idx (.var 1) (.con (.str "seats"))) .nil))) c1_l_ended e2_l_ended) .nil))) [some (.tup (es.map Ev.pv)), some (.ref w), o2, none] M1 = some (.tup ((es ++ rs).map Ev.pv), M3) := by
      generalize E.lc [3] (.name 3) (.seq (.blt .sorted (.cons (.idx (.var 1) (.con (.str "seats"))) .nil))) c1_l_ended e2_l_ended = q at hLC
      have hsz : es.length + rs.length ≤ 16777216 := by omega
      simp [evE, evEs, hLC, bltP, lstAt, r1, bopP, sizeLine, hsz]
    have hS : srcOf Mw (.tup (es.map Ev.pv)) = some (.tup (es.map Ev.pv)) := rfl
    generalize hb : b3_l_ended = bd at e2
    simp [runD, ir_l_ended, hb, evSs, evS, e1, evI, tgP, evE.eq_1, hS, e2, hT]
  · intro e he
    rcases List.mem_append.mp he with he | he
    · exact h.ok e he
    · exact (r3 e he).1
theorem hen (j : Nat) : HEn (cfN tab (j + 2)) := fun M es h => ended_ok (hm j) h
end Mp.Dr
namespace Mp.Dr
open PySem L2
def PD : Ev → Prop
  | .put _ _ => True | .drop _ => True | _ => False
end Mp.Dr
namespace Mp.Dr
open PySem L2
theorem getD_isSome {kvs : List (Key × PV)} {k : Key} : (getD kvs k).isSome = true ↔ ∃ v, (k, v) ∈ kvs := by
  constructor
  · intro h; obtain ⟨v, hv⟩ := Option.isSome_iff_exists.mp h; exact ⟨v, getD_mem hv⟩
  · rintro ⟨v, hv⟩
    cases hg : getD kvs k with
    | some _ => rfl
    | none =>
      unfold getD at hg
      rw [Option.map_eq_none_iff, List.find?_eq_none] at hg
      exact absurd (by simp) (hg (k, v) hv)
theorem getD_put {kvs : List (Key × PV)} {k k' : Key} {v : PV} (h : k' = k ∨ (getD kvs k').isSome = true) : (getD (putD kvs k v) k').isSome = true := by
  rw [getD_isSome] at h ⊢
  unfold putD
  split
  · rename_i ha
    rcases h with rfl | ⟨v', hv'⟩
    · rw [List.any_eq_true] at ha
      obtain ⟨⟨a, u⟩, h1, h2⟩ := ha
      simp at h2; subst h2
      exact ⟨v, List.mem_map.mpr ⟨(a, u), h1, by simp⟩⟩
    · by_cases e : k' = k
      · exact ⟨v, List.mem_map.mpr ⟨(k', v'), hv', by simp [e]⟩⟩
      · exact ⟨v', List.mem_map.mpr ⟨(k', v'), hv', by simp [e]⟩⟩
  · rcases h with rfl | ⟨v', hv'⟩
    · exact ⟨v, by simp⟩
    · exact ⟨v', by simp [hv']⟩
def Joined (f : Int) (ws : Ws) : Prop := ∀ p : Int, 0 ≤ p → p < f → (getD ws.seats (.inl p)).isSome = true
theorem step_grow {ws ws' : Ws} {e : Ev} (h : ws.step e = some ws') : (∀ p, (getD ws.seats (.inl p)).isSome = true → (getD ws'.seats (.inl p)).isSome = true) ∧ ws.copies.length ≤ ws'.copies.length := by
  cases e with
  | put k v => cases h; exact ⟨fun p q => q, Nat.le_refl _⟩
  | drop k => cases h; exact ⟨fun p q => q, Nat.le_refl _⟩
  | join r => cases h; exact ⟨fun p q => getD_put (.inr q), Nat.le_refl _⟩
  | read r u => obtain ⟨_, rfl⟩ := step_read h; exact ⟨fun p q => getD_put (.inr q), Nat.le_refl _⟩
  | save r => obtain ⟨v, h1, rfl⟩ := Option.map_eq_some_iff.mp h; exact ⟨fun p q => q, by simp⟩
  | load r c => obtain ⟨v, h1, rfl⟩ := Option.map_eq_some_iff.mp h; exact ⟨fun p q => getD_put (.inr q), Nat.le_refl _⟩
  | wait => cases h; exact ⟨fun p q => q, Nat.le_refl _⟩
theorem Joined.step {f : Int} {ws ws' : Ws} {e : Ev} (h : Joined f ws) (hs : ws.step e = some ws') : Joined f ws' := fun p a b => (step_grow hs).1 p (h p a b)
end Mp.Dr
namespace Mp.Dr
open PySem L2
def dOf (j : Nat) (M : Mm) (x : PV) : PyData := (toD j M x).getD .none
theorem Rd.g {j : Nat} {M : Mm} {x : PV} {d : PyData} (h : Rd j M x d) : Rd j M x (dOf j M x) := by
  have : dOf j M x = d := by unfold dOf; rw [h.to]; rfl
  rw [this]; exact h
structure Ft (M0 N : Mm) (b : Nat) (f : Int) (nl : Nat) (rs : List Nat) (nf w s c : Nat) (es : List Ev) (ws : Ws) : Prop where
  k : Mkg N nf w s c es ws es.length
  jo : Joined f ws
  la : N[nl]? = some (.lst (rs.map .ref))
  el : ∀ r ∈ rs, ∃ es : List Ev, N[r]? = some (.lst (es.map Ev.pv)) ∧ es.length < 1000 ∧ ∀ e ∈ es, EvOk e ∧ PD e
  fr : Frm [b] M0 N
  bl : b < M0.length
  lo : M0.length ≤ nf ∧ M0.length ≤ w ∧ M0.length ≤ s ∧ M0.length ≤ c ∧ M0.length ≤ nl
  nb : nl ≠ nf ∧ nl ≠ w ∧ nl ≠ s ∧ nl ≠ c
  rb : ∀ r ∈ rs, M0.length ≤ r ∧ r ≠ nf ∧ r ≠ w ∧ r ≠ s ∧ r ≠ c
  cn : nf ≠ c
  rl : rs.length ≤ 4
theorem Ft.frm {M0 N N' : Mm} {b : Nat} {f : Int} {nl : Nat} {rs : List Nat} {nf w s c : Nat} {es : List Ev} {ws : Ws} (h : Ft M0 N b f nl rs nf w s c es ws) (a : Frm [b] N N') : Ft M0 N' b f nl rs nf w s c es ws := by
  have hb := h.bl
  have hl := h.lo
  refine ⟨h.k.frm a (by simp; omega) (by simp; omega) (by simp; omega) (by simp; omega), h.jo, a.get h.la (by simp; omega), ?_, h.fr.trans a, h.bl, h.lo, h.nb, h.rb, h.cn, h.rl⟩
  intro r hr
  obtain ⟨es', q1, q2⟩ := h.el r hr
  have := h.rb r hr
  exact ⟨es', a.get q1 (by simp; omega), q2⟩
theorem Ft.step {M0 N N' : Mm} {b : Nat} {f : Int} {nl : Nat} {rs : List Nat} {nf w s c : Nat} {es : List Ev} {ws ws' : Ws} {e : Ev} (h : Ft M0 N b f nl rs nf w s c es ws) (a : Frm [nf, w, s, c] N N') (hs : ws.step e = some ws') (k' : Mkg N' nf w s c (es ++ [e]) ws' (es.length + 1)) : Ft M0 N' b f nl rs nf w s c (es ++ [e]) ws' := by
  have hb := h.bl
  have hl := h.lo
  refine ⟨by simpa using k', h.jo.step hs, a.get h.la (by have := h.nb; simp; omega), ?_, h.fr.comp a (by simp; omega), h.bl, h.lo, h.nb, h.rb, h.cn, h.rl⟩
  intro r hr
  obtain ⟨es', q1, q2⟩ := h.el r hr
  have := h.rb r hr
  exact ⟨es', a.get q1 (by simp; omega), q2⟩
end Mp.Dr
namespace Mp.Dr
open PySem L2
end Mp.Dr
namespace Mp.Dr
open PySem L2
end Mp.Dr
namespace Mp
open PySem L2
def cv : Dr.Ev → Ev
  | .put k v => .put k v | .drop k => .drop k | .join r => .join r | .read r u => .read r u | .save r => .save r | .load r c => .load r c.toNat | .wait => .wait
def TabOk (ks : List Str) (t : Tab) : Prop := (∀ kv ∈ t, ∃ (k : Str) (v : Int), kv = (.inr k, .int v) ∧ k ∈ ks) ∧ (t.map (·.1)).Nodup
theorem TabOk.nil {ks : List Str} : TabOk ks [] := ⟨by simp, by simp⟩
theorem TabOk.mono {ks ks' : List Str} {t : Tab} (h : TabOk ks t) (hk : ∀ k ∈ ks, k ∈ ks') : TabOk ks' t := ⟨fun kv hkv => by obtain ⟨k, v, e, q⟩ := h.1 kv hkv; exact ⟨k, v, e, hk k q⟩, h.2⟩
theorem TabOk.drop {ks : List Str} {t : Tab} {k : Key} (h : TabOk ks t) : TabOk ks (dropD t k) :=
  ⟨fun kv hkv => h.1 kv (List.mem_filter.mp hkv).1, h.2.sublist (List.filter_sublist.map _)⟩
theorem TabOk.put {ks : List Str} {t : Tab} {k : Str} {v : Int} (h : TabOk ks t) (hk : k ∈ ks) : TabOk ks (putD t (.inr k) (.int v)) :=
  ⟨fun kv hkv => by
    rcases putD_mem hkv with q | q
    · exact h.1 kv q
    · exact ⟨k, v, q, hk⟩, Dr.putD_nd h.2⟩
def LS.keys (S : LS) : List Str := S.es.map En.key
theorem ext_map {α β : Type} {f : α → β} {l l' : List α} (hl : l'.length = l.length) (h : ∀ (i : Nat) a a', l[i]? = some a → l'[i]? = some a' → f a' = f a) : l'.map f = l.map f := by
  refine List.ext_getElem? fun i => ?_
  rw [List.getElem?_map, List.getElem?_map]
  by_cases hi : i < l.length
  · have e1 := List.getElem?_eq_getElem hi
    have e2 := List.getElem?_eq_getElem (l := l') (i := i) (by omega)
    rw [e1, e2]
    simp [h i _ _ e1 e2]
  · rw [List.getElem?_eq_none (by omega), List.getElem?_eq_none (by omega)]
theorem lg_keys (S : LS) : S.lg.keys = S.keys := ext_map (lg_len S) fun i a a' h h' => by
  obtain ⟨b, b1, b2, _⟩ := lg_at h
  rw [h'] at b1; cases b1; exact b2
structure St (S : LS) (ws : Dr.Ws) : Prop where
  pl : S.pl = ws.seats
  co : S.co.map (·.1) = ws.copies
  ml : (S.es.length : Int) = ws.many
  ev : ∀ e ∈ S.es, e.val = .non ∨ ∃ i : Int, e.val = .int i
  tb : ∀ r, TabOk S.keys (S.tabOf r)
  ct : ∀ q ∈ S.co, TabOk S.keys q.2
theorem St.new {hold : Int} {gs : List PV} : St (LS.new hold gs) Dr.w0 := ⟨rfl, rfl, rfl, by simp [LS.new], fun r => TabOk.nil, by simp [LS.new]⟩
theorem St.lg {S : LS} {ws : Dr.Ws} (h : St S ws) : St S.lg ws := by
  refine ⟨h.pl, h.co, by rw [lg_len]; exact h.ml, fun e he => ?_, fun r => by rw [lg_keys]; exact h.tb r, fun q hq => by rw [lg_keys]; exact h.ct q hq⟩
  obtain ⟨i, hi⟩ := List.mem_iff_getElem?.mp he
  obtain ⟨a, ha⟩ := back_at (lg_len S) hi
  obtain ⟨b, b1, b2, b3, _⟩ := lg_at ha
  rw [hi] at b1; cases b1
  rw [b3]; exact h.ev a (List.mem_of_getElem? ha)
theorem St.go {S : LS} {ws : Dr.Ws} (h : St S ws) : St S.go ws := St.lg (S := { S with tm := S.tm + 1 }) ⟨h.pl, h.co, h.ml, h.ev, h.tb, h.ct⟩
theorem St.add {S : LS} {ws : Dr.Ws} {k : Str} {v : PV} (h : St S ws) (hv : v = .non ∨ ∃ i : Int, v = .int i) : St (S.add k v) { ws with many := ws.many + 1 } := by
  have hk : (S.add k v).keys = S.keys ++ [k] := by simp [LS.add, LS.keys]
  refine ⟨h.pl, h.co, by have := h.ml; simp [LS.add]; omega, fun e he => ?_, fun r => by rw [hk]; exact (h.tb r).mono (by simp +contextual), fun q hq => by rw [hk]; exact (h.ct q hq).mono (by simp +contextual)⟩
  rcases List.mem_append.mp he with q | q
  · exact h.ev e q
  · simp at q; subst q; exact hv
theorem nd_len {α : Type} [DecidableEq α] : ∀ {l m : List α}, l.Nodup → (∀ x ∈ l, x ∈ m) → l.length ≤ m.length
  | [], m, _, _ => Nat.zero_le _
  | a :: l, m, hn, h => by
    rw [List.nodup_cons] at hn
    have ha := h a (by simp)
    have ih := nd_len (l := l) (m := m.erase a) hn.2 fun x hx => (List.mem_erase_of_ne (fun (z : x = a) => hn.1 (by rw [← z]; exact hx))).mpr (h x (by simp [hx]))
    rw [List.length_erase_of_mem ha] at ih
    have := List.length_pos_of_mem ha
    simp; omega
theorem TabOk.kvs {ks : List Str} : ∀ {t : Tab}, (∀ kv ∈ t, ∃ (k : Str) (v : Int), kv = (.inr k, .int v) ∧ k ∈ ks) → ∃ l, kvsS t = some l ∧ l.length = t.length ∧ (∀ e ∈ l, e.1 ∈ ks) ∧ l.map (fun e => (Sum.inr e.1 : Key)) = t.map (·.1)
  | [], _ => ⟨[], rfl, rfl, by simp, rfl⟩
  | kv :: t, h => by
    obtain ⟨l, h1, h2, h3, h4⟩ := TabOk.kvs (t := t) fun x hx => h x (by simp [hx])
    obtain ⟨k, v, rfl, hk⟩ := h kv (by simp)
    refine ⟨(k, .int v) :: l, by simp [kvsS, h1], by simp [h2], fun e he => ?_, by simp [h4]⟩
    rcases List.mem_cons.mp he with rfl | he
    · exact hk
    · exact h3 e he
theorem TabOk.len {ks : List Str} {t : Tab} (h : TabOk ks t) : t.length ≤ ks.length := by
  obtain ⟨l, h1, h2, h3, h4⟩ := TabOk.kvs h.1
  have nd : (l.map (·.1)).Nodup := by
    have := h.2
    rw [← h4] at this
    have e : l.map (fun e => (Sum.inr e.1 : Key)) = (l.map (·.1)).map Sum.inr := by rw [List.map_map]; rfl
    rw [e] at this
    exact List.Pairwise.of_map Sum.inr (fun a b hab z => hab (by rw [z])) this
  have := nd_len nd (m := ks) (fun x hx => by obtain ⟨e, he, rfl⟩ := List.mem_map.mp hx; exact h3 e he)
  simp at this
  omega
theorem ks_ne {S : LS} {k : Str} (h : k ∈ S.keys) : S.ks k ≠ [] := by
  obtain ⟨e, he, rfl⟩ := List.mem_map.mp h
  obtain ⟨i, hi⟩ := List.mem_iff_getElem?.mp he
  unfold LS.ks
  intro z
  have hm : (e, i) ∈ S.es.zipIdx.filter fun q => decide (q.1.key = e.key) := List.mem_filter.mpr ⟨List.mem_iff_getElem?.mpr ⟨i, by rw [List.getElem?_zipIdx, hi]; simp⟩, by simp⟩
  have := List.map_eq_nil_iff.mp z
  rw [this] at hm
  cases hm
theorem St.wp1 {S : LS} {ws : Dr.Ws} (h : St S ws) (hl : S.es.length < 60) {r b : Int} (hg : getD S.pl (.inl r) = some (.int b)) : ∃ l, kvsS (S.tabOf (.inl r)) = some l ∧ S.wp1 r = some ((S.wrg b (sortS l)).map fun k => .tup [.int r, k]) := by
  obtain ⟨l, h1, h2, h3, h4⟩ := TabOk.kvs (h.tb (.inl r)).1
  have hk : S.keys.length = S.es.length := by simp [LS.keys]
  have h5 := (h.tb (.inl r)).len
  refine ⟨l, h1, ?_⟩
  unfold LS.wp1
  rw [hg, h1]
  simp only []
  rw [if_pos ⟨by omega, List.all_eq_true.mpr fun e he => by have := ks_ne (h3 e he); cases hq : S.ks e.1 with | nil => exact absurd hq this | cons _ _ => rfl⟩]
theorem mapM_all {α β : Type} {f : α → Option β} : ∀ {xs : List α}, (∀ x ∈ xs, ∃ y, f x = some y) → ∃ ys, xs.mapM f = some ys
  | [], _ => ⟨[], by simp⟩
  | x :: xs, h => by
    obtain ⟨y, hy⟩ := h x (by simp)
    obtain ⟨ys, hys⟩ := mapM_all (xs := xs) fun z hz => h z (by simp [hz])
    exact ⟨y :: ys, by rw [List.mapM_cons, hy, hys]; rfl⟩
theorem St.wp {S : LS} {ws : Dr.Ws} {n : Nat} (h : St S ws) (hw : Dr.WsOk ws n) (hn : n < 60) (hl : S.es.length < 60) : ∃ out, S.wp = some out := by
  obtain ⟨ns, k1, k2, k3⟩ := Dr.keysI_some hw.seats
  unfold LS.wp
  rw [h.pl, k1]
  simp only [Option.bind_some]
  rw [if_pos (by have := hw.sl; omega)]
  obtain ⟨outs, ho⟩ := mapM_all (f := S.wp1) (xs := sortI ns) fun r hr => by
    obtain ⟨_, _, v, hv⟩ := k3 r ((sortI_perm ns).mem_iff.mp hr)
    obtain ⟨l, _, h2⟩ := h.wp1 hl (r := r) (b := v) (by rw [h.pl]; exact hv)
    exact ⟨_, h2⟩
  exact ⟨outs.flatten, by rw [ho]; rfl⟩
end Mp
namespace Mp
open PySem L2
def Grow (ws ws' : Dr.Ws) : Prop := (∀ p, (getD ws.seats (.inl p)).isSome = true → (getD ws'.seats (.inl p)).isSome = true) ∧ ws.copies.length ≤ ws'.copies.length ∧ ws.many ≤ ws'.many
theorem Grow.refl (ws : Dr.Ws) : Grow ws ws := ⟨fun _ h => h, Nat.le_refl _, Int.le_refl _⟩
theorem Grow.trans {a b c : Dr.Ws} (h : Grow a b) (k : Grow b c) : Grow a c := ⟨fun p q => k.1 p (h.1 p q), Nat.le_trans h.2.1 k.2.1, Int.le_trans h.2.2 k.2.2⟩
theorem step_many {ws ws' : Dr.Ws} {e : Dr.Ev} (h : ws.step e = some ws') : ws'.many = ws.many + (if (cv e).ent = true then 1 else 0) := by
  cases e with
  | put k v => cases h; rfl
  | drop k => cases h; rfl
  | join r => cases h; simp [cv, Ev.ent]
  | read r u => obtain ⟨_, rfl⟩ := Dr.step_read h; simp [cv, Ev.ent]
  | save r => obtain ⟨v, _, rfl⟩ := Option.map_eq_some_iff.mp h; simp [cv, Ev.ent]
  | load r c => obtain ⟨v, _, rfl⟩ := Option.map_eq_some_iff.mp h; simp [cv, Ev.ent]
  | wait => cases h; simp [cv, Ev.ent]
theorem grow_step {ws ws' : Dr.Ws} {e : Dr.Ev} (h : ws.step e = some ws') : Grow ws ws' := by
  refine ⟨(Dr.step_grow h).1, (Dr.step_grow h).2, ?_⟩
  rw [step_many h]
  split <;> omega
theorem grow_run : ∀ {es : List Dr.Ev} {ws ws' : Dr.Ws}, ws.run es = some ws' → Grow ws ws'
  | [], ws, ws', h => by cases h; exact Grow.refl _
  | e :: es, ws, ws', h => by
    obtain ⟨w, h1, h2⟩ := Option.bind_eq_some_iff.mp h
    exact (grow_step h1).trans (grow_run h2)
end Mp
namespace Mp
open PySem L2
theorem ks_keys (S : LS) (k : Str) : S.ks k = ((S.keys.zipIdx.filter fun q => decide (q.1 = k)).map (·.2)) := by
  unfold LS.ks LS.keys
  rw [List.zipIdx_map, List.filter_map, List.map_map]
  rfl
theorem ks_mem {S : LS} {k : Str} {i : Nat} : i ∈ S.ks k ↔ ∃ e, S.es[i]? = some e ∧ e.key = k := by
  unfold LS.ks
  constructor
  · intro h
    obtain ⟨q, h1, rfl⟩ := List.mem_map.mp h
    obtain ⟨h2, h3⟩ := List.mem_filter.mp h1
    obtain ⟨j, h4⟩ := List.mem_iff_getElem?.mp h2
    rw [List.getElem?_zipIdx] at h4
    obtain ⟨e, h5, rfl⟩ := Option.map_eq_some_iff.mp h4
    exact ⟨e, by simpa using h5, by simpa using h3⟩
  · rintro ⟨e, h1, h2⟩
    refine List.mem_map.mpr ⟨(e, i), List.mem_filter.mpr ⟨List.mem_iff_getElem?.mpr ⟨i, by rw [List.getElem?_zipIdx, h1]; simp⟩, by simpa using h2⟩, rfl⟩
theorem kvsS_mem : ∀ {t : Tab} {l : List (Str × PV)}, kvsS t = some l → ∀ k v, (k, v) ∈ l ↔ ((Sum.inr k : Key), v) ∈ t
  | [], l, h, k, v => by simp [kvsS] at h; subst h; simp
  | (.inr k', .int i) :: t, l, h, k, v => by
    simp only [kvsS] at h
    obtain ⟨l', h1, rfl⟩ := Option.map_eq_some_iff.mp h
    have ih := kvsS_mem h1 k v
    simp only [List.mem_cons, Prod.mk.injEq, ih]
    constructor
    · rintro (⟨a, b⟩ | q)
      · exact .inl ⟨by rw [a], b⟩
      · exact .inr q
    · rintro (⟨a, b⟩ | q)
      · exact .inl ⟨by injection a, b⟩
      · exact .inr q
  | (.inl _, _) :: t, l, h, k, v => by simp [kvsS] at h
  | (.inr k', .non) :: t, l, h, k, v => by simp [kvsS] at h
  | (.inr k', .bl _) :: t, l, h, k, v => by simp [kvsS] at h
  | (.inr k', .str _) :: t, l, h, k, v => by simp [kvsS] at h
  | (.inr k', .tup _) :: t, l, h, k, v => by simp [kvsS] at h
  | (.inr k', .ref _) :: t, l, h, k, v => by simp [kvsS] at h
  | (.inr k', .cl _) :: t, l, h, k, v => by simp [kvsS] at h
  | (.inr k', .fn _ _) :: t, l, h, k, v => by simp [kvsS] at h
theorem getD_some {t : List (Key × PV)} {k : Key} {v : PV} (h : (k, v) ∈ t) : (getD t k).isSome = true := by
  unfold getD
  cases hf : t.find? (fun kv => decide (kv.1 = k)) with
  | none =>
    rw [List.find?_eq_none] at hf
    exact absurd (by simp) (hf _ h)
  | some q => rfl
theorem keysI_mem : ∀ {t : List (Key × PV)} {ns : List Int}, keysI t = some ns → ∀ r, r ∈ ns ↔ ∃ v, ((Sum.inl r : Key), v) ∈ t
  | [], ns, h, r => by simp [keysI] at h; subst h; simp
  | (.inl i, w) :: t, ns, h, r => by
    simp only [keysI] at h
    obtain ⟨l', h1, rfl⟩ := Option.map_eq_some_iff.mp h
    have ih := keysI_mem h1 r
    constructor
    · intro hr
      rcases List.mem_cons.mp hr with rfl | hr
      · exact ⟨w, by simp⟩
      · obtain ⟨v, hv⟩ := ih.mp hr; exact ⟨v, by simp [hv]⟩
    · rintro ⟨v, hv⟩
      rcases List.mem_cons.mp hv with q | q
      · cases q; simp
      · exact List.mem_cons_of_mem _ (ih.mpr ⟨v, q⟩)
  | (.inr _, _) :: t, ns, h, r => by simp [keysI] at h
def Wr (S : LS) (r : Int) (k : Str) : Prop := ∃ b : Int, getD S.pl (.inl r) = some (.int b) ∧ (getD (S.tabOf (.inl r)) (.inr k)).isSome = true ∧ S.wrB b k = true
theorem wp_fwd {S : LS} {out : List PV} (h : S.wp = some out) {x : PV} (hx : x ∈ out) : ∃ r k, x = .tup [.int r, .str k] ∧ Wr S r k := by
  unfold LS.wp at h
  obtain ⟨ns, hk, h⟩ := Option.bind_eq_some_iff.mp h
  split at h
  case isFalse => cases h
  obtain ⟨outs, hm, rfl⟩ := Option.map_eq_some_iff.mp h
  obtain ⟨hlen, hat⟩ := mapM_get hm
  obtain ⟨l, hl, hxl⟩ := List.mem_flatten.mp hx
  obtain ⟨i, hi⟩ := List.mem_iff_getElem?.mp hl
  have hi2 := (List.getElem?_eq_some_iff.mp hi).1
  have hr : (sortI ns)[i]? = some (sortI ns)[i] := List.getElem?_eq_getElem (by omega)
  obtain ⟨y, hy, hf⟩ := hat i _ hr
  rw [hi] at hy; cases hy
  obtain ⟨b, ll, h1, h2, h3, h4, rfl⟩ := wp1_inv hf
  obtain ⟨kk, hkk, rfl⟩ := List.mem_map.mp hxl
  unfold LS.wrg at hkk
  obtain ⟨e, he, rfl⟩ := List.mem_map.mp hkk
  obtain ⟨he1, he2⟩ := List.mem_filter.mp he
  have he3 : e ∈ ll := (sortS_perm ll).mem_iff.mp he1
  exact ⟨_, e.1, rfl, b, h1, getD_some ((kvsS_mem h2 e.1 e.2).mp he3), he2⟩
theorem wp_bwd {S : LS} {out : List PV} (h : S.wp = some out) {r : Int} {k : Str} (hw : Wr S r k) : .tup [.int r, .str k] ∈ out := by
  obtain ⟨b, g1, g2, g3⟩ := hw
  unfold LS.wp at h
  obtain ⟨ns, hk, h⟩ := Option.bind_eq_some_iff.mp h
  split at h
  case isFalse => cases h
  obtain ⟨outs, hm, rfl⟩ := Option.map_eq_some_iff.mp h
  obtain ⟨hlen, hat⟩ := mapM_get hm
  have hr : r ∈ sortI ns := (sortI_perm ns).mem_iff.mpr ((keysI_mem hk r).mpr ⟨_, getD_mem g1⟩)
  obtain ⟨i, hi⟩ := List.mem_iff_getElem?.mp hr
  obtain ⟨y, hy, hf⟩ := hat i _ hi
  obtain ⟨b', ll, h1, h2, h3, h4, rfl⟩ := wp1_inv hf
  rw [g1] at h1; cases h1
  refine List.mem_flatten.mpr ⟨_, List.mem_of_getElem? hy, List.mem_map.mpr ⟨.str k, ?_, rfl⟩⟩
  obtain ⟨v, hv⟩ := Option.isSome_iff_exists.mp g2
  have hm2 : (k, v) ∈ sortS ll := (sortS_perm ll).mem_iff.mpr ((kvsS_mem h2 k v).mpr (getD_mem hv))
  exact List.mem_map.mpr ⟨(k, v), List.mem_filter.mpr ⟨hm2, g3⟩, rfl⟩
theorem Rel.keys {S S' : LS} (h : Rel S S') : S'.keys = S.keys := ext_map h.el fun i a a' h1 h2 => (h.es i a a' h1 h2).key
theorem Rel.wrB {S S' : LS} (h : Rel S S') (b : Int) (k : Str) : S'.wrB b k = S.wrB b k := by
  unfold LS.wrB
  rw [ks_keys, ks_keys, h.keys]
  split
  · rename_i i hi
    cases h1 : S.es[i]? with
    | none =>
      have : S'.es[i]? = none := by rw [List.getElem?_eq_none_iff] at h1 ⊢; rw [h.el]; exact h1
      rw [this]
    | some e =>
      obtain ⟨e', he'⟩ := back_at h.el.symm h1
      rw [he']
      simp only []
      rw [(h.es i e e' h1 he').val]
  · rfl
theorem Rel.wr {S S' : LS} (h : Rel S S') {r : Int} {k : Str} (hw : Wr S' r k) : Wr S r k := by
  obtain ⟨b, g1, g2, g3⟩ := hw
  obtain ⟨v, hv⟩ := Option.isSome_iff_exists.mp g2
  exact ⟨b, by rw [← h.pl]; exact g1, by rw [h.tb _ _ _ hv]; rfl, by rw [← h.wrB]; exact g3⟩
theorem Rel.sub {S S' : LS} (h : Rel S S') {out out' : List PV} (h1 : S.wp = some out) (h2 : S'.wp = some out') : ∀ x ∈ out', x ∈ out := fun x hx => by
  obtain ⟨r, k, rfl, hw⟩ := wp_fwd h2 hx
  exact wp_bwd h1 (h.wr hw)
structure Safe (A : Int → Prop) (C : Prop) (S : LS) : Prop where
  rd : ∀ r b, A r → getD S.pl (.inl r) = some (.int b) → Hd S b (S.tabOf (.inl r))
  cp : C → ∀ (c : Nat) (b : Int) t, S.co[c]? = some (.int b, t) → Hd S b t
structure LgOk (A : Int → Prop) (C : Prop) (S : LS) : Prop where
  rd : ∀ (i : Nat) e, S.es[i]? = some e → S.goes S.lim i e = true → ∀ r b, A r → getD S.pl (.inl r) = some (.int b) → (i : Int) < b
  cp : ∀ (i : Nat) e, S.es[i]? = some e → S.goes S.lim i e = true → C → ∀ (c : Nat) (b : Int) t, S.co[c]? = some (.int b, t) → (i : Int) < b
section
variable {A : Int → Prop} {C : Prop} {S : LS}
theorem Safe.lg (h : Safe A C S) (hl : LgOk A C S) : Safe A C S.lg :=
  ⟨fun r b ha hg => (h.rd r b ha hg).lg fun i e he hgo => hl.rd i e he hgo r b ha hg, fun hc c b t hq => (h.cp hc c b t hq).lg fun i e he hgo => hl.cp i e he hgo hc c b t hq⟩
theorem Safe.tick (h : Safe A C S) : Safe A C { S with tm := S.tm + 1 } := ⟨h.rd, h.cp⟩
theorem Safe.add (h : Safe A C S) (V : Cov S) (k : Str) (v : PV) : Safe A C (S.add k v) :=
  ⟨fun r b ha hg => (h.rd r b ha hg).add (by obtain ⟨b', e, q⟩ := V.pi r _ hg; cases e; exact q) k v, fun hc c b t hq => (h.cp hc c b t hq).add (by obtain ⟨b', e, q⟩ := V.ci c _ hq; cases e; exact q) k v⟩
end
end Mp
namespace Mp
open PySem L2
structure Tbl (es : List Dr.Ev) (ws : Dr.Ws) : Prop where
  run : Dr.w0.run es = some ws
  many : ws.many ≤ 26
  len : es.length ≤ 52
  ok : ∀ e ∈ es, Dr.EvOk e
  wok : Dr.WsOk ws 52
theorem Dr.TbF.tbl {es : List Dr.Ev} (h : Dr.TbF es) : ∃ ws, Tbl es ws := by
  obtain ⟨h1, ws, h2, h3⟩ := h
  obtain ⟨ws', h4, h5⟩ := h1.run
  rw [h2] at h4; cases h4
  exact ⟨ws, h2, h3, h1.len, h1.ok, h5⟩
theorem Cov.new {hold : Int} {gs : List PV} : Cov (LS.new hold gs) :=
  ⟨by simp [LS.new], by simp [LS.new], by simp [LS.new], by simp [LS.new], fun r v h => by simp [LS.new, getD] at h, fun c q h => by simp [LS.new] at h⟩
end Mp
namespace Mp
open PySem L2
end Mp
namespace Mp
open PySem L2
structure OA where
  r : Nat
  g : Nat
  s : Nat
  p : Nat
  t : Nat
  c : Nat
  h : Nat
  ts : List Nat
  cs : List Nat
def OA.all (A : OA) (o : Nat) : List Nat := o :: A.r :: A.g :: A.s :: A.p :: A.t :: A.c :: A.h :: (A.ts ++ A.cs)
def owD (A : OA) : List (Key × PV) := [(.inr "rows", .ref A.r), (.inr "gone", .ref A.g), (.inr "since", .ref A.s), (.inr "seats", .ref A.p), (.inr "tables", .ref A.t), (.inr "copies", .ref A.c), (.inr "heard", .ref A.h)]
def rowP (e : En) : PV := .tup [.str e.key, e.val]
def tbO (A : OA) (S : LS) : List (Key × PV) := (S.tb.zip A.ts).map fun q => (q.1.1, .ref q.2)
def coO (A : OA) (S : LS) : List PV := (S.co.zip A.cs).map fun q => .tup [q.1.1, .ref q.2]
def InR (g : List (Key × PV)) (n : Nat) : Prop := (g.map (·.1)).Nodup ∧ ∀ kv ∈ g, ∃ k : Nat, k < n ∧ kv.1 = .inl k
theorem InR.len {g : List (Key × PV)} {n : Nat} (h : InR g n) : g.length ≤ n := by
  have : (g.map (·.1)).length ≤ ((List.range n).map fun (k : Nat) => (Sum.inl ((k : Nat) : Int) : Key)).length := nd_len h.1 fun x hx => by
    obtain ⟨kv, hkv, rfl⟩ := List.mem_map.mp hx
    obtain ⟨k, hk, e⟩ := h.2 kv hkv
    exact List.mem_map.mpr ⟨k, List.mem_range.mpr hk, e.symm⟩
  simpa using this
theorem InR.put {g : List (Key × PV)} {n k : Nat} {v : PV} (h : InR g n) (hk : k < n) : InR (putD g (.inl (k : Nat)) v) n :=
  ⟨Dr.putD_nd h.1, fun kv hkv => by
    rcases putD_mem hkv with q | q
    · exact h.2 kv q
    · exact ⟨k, hk, by rw [q]⟩⟩
theorem InR.mono {g : List (Key × PV)} {n m : Nat} (h : InR g n) (hn : n ≤ m) : InR g m := ⟨h.1, fun kv hkv => by obtain ⟨k, a, b⟩ := h.2 kv hkv; exact ⟨k, by omega, b⟩⟩
def GnOk (g : List (Key × PV)) (es : List En) : Prop := InR g es.length ∧ ∀ (k : Nat) e, es[k]? = some e → ((getD g (.inl (k : Nat))).isSome = true ↔ e.gone = true)
def SnOk (s : List (Key × PV)) (es : List En) : Prop := InR s es.length ∧ ∀ (k : Nat) e, es[k]? = some e → getD s (.inl (k : Nat)) = e.pas.map PV.int
structure OwAt (M : Mm) (o : Nat) (A : OA) (S : LS) : Prop where
  o_ : M[o]? = some (.dic (owD A))
  r_ : M[A.r]? = some (.lst (S.es.map rowP))
  g_ : ∃ g, M[A.g]? = some (.dic g) ∧ GnOk g S.es
  s_ : ∃ s, M[A.s]? = some (.dic s) ∧ SnOk s S.es
  p_ : M[A.p]? = some (.dic S.pl)
  t_ : M[A.t]? = some (.dic (tbO A S))
  c_ : M[A.c]? = some (.lst (coO A S))
  h_ : ∃ hs, M[A.h]? = some (.lst hs) ∧ hs.length < 10000
  tl : A.ts.length = S.tb.length
  cl : A.cs.length = S.co.length
  d_ : ∀ (i n : Nat) (q : Key × Tab), A.ts[i]? = some n → S.tb[i]? = some q → M[n]? = some (.dic q.2)
  k_ : ∀ (i n : Nat) (q : PV × Tab), A.cs[i]? = some n → S.co[i]? = some q → M[n]? = some (.dic q.2)
  nd : (A.all o).Nodup
theorem OwAt.frm {M M' : Mm} {o : Nat} {A : OA} {S : LS} {T : List Nat} (h : OwAt M o A S) (F : Frm T M M') (hT : ∀ i ∈ A.all o, i ∉ T) : OwAt M' o A S := by
  obtain ⟨g, g1, g2⟩ := h.g_
  obtain ⟨s, s1, s2⟩ := h.s_
  obtain ⟨hs, h1, h2⟩ := h.h_
  exact ⟨F.get h.o_ (hT _ (by simp [OA.all])), F.get h.r_ (hT _ (by simp [OA.all])), ⟨g, F.get g1 (hT _ (by simp [OA.all])), g2⟩, ⟨s, F.get s1 (hT _ (by simp [OA.all])), s2⟩, F.get h.p_ (hT _ (by simp [OA.all])), F.get h.t_ (hT _ (by simp [OA.all])), F.get h.c_ (hT _ (by simp [OA.all])), ⟨hs, F.get h1 (hT _ (by simp [OA.all])), h2⟩, h.tl, h.cl,
    fun i n q a b => F.get (h.d_ i n q a b) (hT _ (by simp [OA.all, List.mem_of_getElem? a])), fun i n q a b => F.get (h.k_ i n q a b) (hT _ (by simp [OA.all, List.mem_of_getElem? a])), h.nd⟩
theorem OwAt.app {M : Mm} {L : List Ob} {o : Nat} {A : OA} {S : LS} (h : OwAt M o A S) : OwAt (M ++ L) o A S := h.frm (T := []) .app (by simp)
theorem OwAt.same {M : Mm} {o : Nat} {A : OA} {S S' : LS} (h : OwAt M o A S) (h1 : S'.es = S.es) (h2 : S'.pl = S.pl) (h3 : S'.tb = S.tb) (h4 : S'.co = S.co) : OwAt M o A S' := by
  cases S; cases S'
  simp only at h1 h2 h3 h4
  subst h1 h2 h3 h4
  exact ⟨h.o_, h.r_, h.g_, h.s_, h.p_, h.t_, h.c_, h.h_, h.tl, h.cl, h.d_, h.k_, h.nd⟩
structure PlOk (S : LS) : Prop where
  pv : ∀ r v, getD S.pl (.inl r) = some v → ∃ i : Int, v = .int i
  cv : ∀ q ∈ S.co, ∃ i : Int, q.1 = .int i
  pn : S.pl.length < 1000
  cn : S.co.length < 1000
  el : S.es.length ≤ 90
end Mp
namespace Mp
open PySem L2
end Mp
namespace Mp
open PySem L2
theorem ni1 {x a : Nat} (h1 : x ≠ a) : x ∉ [a] := by simp only [List.mem_cons, List.not_mem_nil, or_false]; exact h1
theorem PlOk.es {S : LS} (P : PlOk S) {es : List En} (h : es.length = S.es.length) : PlOk { S with es := es } := ⟨P.pv, P.cv, P.pn, P.cn, by show es.length ≤ 90; rw [h]; exact P.el⟩
end Mp
namespace Mp
open PySem L2
end Mp
namespace Mp
open PySem L2
theorem nx {A : OA} {o i j x y : Nat} (nd : (A.all o).Nodup) (hi : (A.all o)[i]? = some x) (hj : (A.all o)[j]? = some y) (hij : i ≠ j) : x ∉ [y] := ni1 fun z => hij (ix_inj nd hi (z ▸ hj))
section
variable {M : Mm} {o : Nat} {A : OA} {S : LS}
theorem OwAt.lt (h : OwAt M o A S) : ∀ i ∈ A.all o, i < M.length := fun i hi => by
  obtain ⟨g, g1, _⟩ := h.g_
  obtain ⟨s, s1, _⟩ := h.s_
  obtain ⟨hs, h1, _⟩ := h.h_
  simp only [OA.all, List.mem_cons, List.mem_append] at hi
  rcases hi with rfl | rfl | rfl | rfl | rfl | rfl | rfl | rfl | hi | hi
  · exact lt_of h.o_
  · exact lt_of h.r_
  · exact lt_of g1
  · exact lt_of s1
  · exact lt_of h.p_
  · exact lt_of h.t_
  · exact lt_of h.c_
  · exact lt_of h1
  · obtain ⟨j, hj⟩ := List.mem_iff_getElem?.mp hi
    have hj2 := (List.getElem?_eq_some_iff.mp hj).1
    exact lt_of (h.d_ j i _ hj (List.getElem?_eq_getElem (by rw [← h.tl]; exact hj2)))
  · obtain ⟨j, hj⟩ := List.mem_iff_getElem?.mp hi
    have hj2 := (List.getElem?_eq_some_iff.mp hj).1
    exact lt_of (h.k_ j i _ hj (List.getElem?_eq_getElem (by rw [← h.cl]; exact hj2)))
theorem InR.fresh {g : List (Key × PV)} {n : Nat} (h : InR g n) : getD g (.inl (n : Nat)) = none := by
  cases hg : getD g (.inl (n : Nat)) with
  | none => rfl
  | some v =>
    obtain ⟨k, hk, e⟩ := h.2 _ (getD_mem hg)
    simp at e
    omega
end
end Mp
namespace Mp
open PySem L2
theorem at_nat {α : Type} {xs : List α} {k : Nat} {x : α} (h : xs[k]? = some x) : atI xs ((k : Nat) : Int) = some x := by
  have hl := (List.getElem?_eq_some_iff.mp h).1
  simp only [atI, ixN]
  rw [if_pos (by omega), if_pos (by omega), Option.bind_some, Int.toNat_natCast, h]
end Mp
namespace Mp.V
open PySem L2
inductive D where
  | non | bl (b : Bool) | int (i : Int) | str (s : Str) | cl (ns : List Int) | fn (n : Nat) (x : Str)
  | tup (xs : List D) | lst (xs : List D) | dic (kvs : List (Key × D)) | ins (c : Str) (fs : List (Str × D)) | slt (c : Str) (fs : List (Option D)) | ptup (xs : List D)
mutual
inductive Rp (B : Nat → Prop) (M : Mm) : PV → D → Prop
  | non : Rp B M .non .non
  | bl (b : Bool) : Rp B M (.bl b) (.bl b)
  | int (i : Int) : Rp B M (.int i) (.int i)
  | str (s : Str) : Rp B M (.str s) (.str s)
  | cl (ns : List Int) : Rp B M (.cl ns) (.cl ns)
  | fn (n : Nat) (x : Str) : Rp B M (.fn n x) (.fn n x)
  | tup {xs : List PV} {ds : List D} : Rps B M xs ds → Rp B M (.tup xs) (.tup ds)
  | lst {n : Nat} {xs : List PV} {ds : List D} : ¬ B n → M[n]? = some (.lst xs) → Rps B M xs ds → Rp B M (.ref n) (.lst ds)
  | dic {n : Nat} {kvs : List (Key × PV)} {ds : List (Key × D)} : ¬ B n → M[n]? = some (.dic kvs) → kvs.map (·.1) = ds.map (·.1) → Rps B M (kvs.map (·.2)) (ds.map (·.2)) → Rp B M (.ref n) (.dic ds)
  | ins {n : Nat} {c : Str} {kvs : List (Str × PV)} {ds : List (Str × D)} : ¬ B n → M[n]? = some (.ins c kvs) → kvs.map (·.1) = ds.map (·.1) → Rps B M (kvs.map (·.2)) (ds.map (·.2)) → Rp B M (.ref n) (.ins c ds)
  | slt {n : Nat} {c : Str} {vs : List (Option PV)} {ds : List (Option D)} : ¬ B n → M[n]? = some (.slt c vs) → Rpo B M vs ds → Rp B M (.ref n) (.slt c ds)
  | ptup {xs : List PV} {ds : List D} : Rps B M xs ds → Rp B M (.ptup xs) (.ptup ds)
inductive Rps (B : Nat → Prop) (M : Mm) : List PV → List D → Prop
  | nil : Rps B M [] []
  | cons {x : PV} {d : D} {xs : List PV} {ds : List D} : Rp B M x d → Rps B M xs ds → Rps B M (x :: xs) (d :: ds)
inductive Rpo (B : Nat → Prop) (M : Mm) : List (Option PV) → List (Option D) → Prop
  | nil : Rpo B M [] []
  | no {o : Option PV} {xs : List (Option PV)} {ds : List (Option D)} : Rpo B M xs ds → Rpo B M (o :: xs) (none :: ds)
  | cons {x : PV} {d : D} {xs : List (Option PV)} {ds : List (Option D)} : Rp B M x d → Rpo B M xs ds → Rpo B M (some x :: xs) (some d :: ds)
end
def Stp (B B' : Nat → Prop) (M M' : Mm) : Prop := ∀ (n : Nat) (o : Ob), ¬ B n → M[n]? = some o → ¬ B' n ∧ M'[n]? = some o
section
variable {B B' : Nat → Prop} {M M' : Mm}
mutual
theorem Rp.step (h : Stp B B' M M') : ∀ {x : PV} {d : D}, Rp B M x d → Rp B' M' x d
  | _, _, .non => .non
  | _, _, .bl b => .bl b
  | _, _, .int b => .int b
  | _, _, .str b => .str b
  | _, _, .cl b => .cl b
  | _, _, .fn a b => .fn a b
  | _, _, .tup a => .tup (Rps.step h a)
  | _, _, .lst a b c => .lst (h _ _ a b).1 (h _ _ a b).2 (Rps.step h c)
  | _, _, .dic a b c e => .dic (h _ _ a b).1 (h _ _ a b).2 c (Rps.step h e)
  | _, _, .ins a b c e => .ins (h _ _ a b).1 (h _ _ a b).2 c (Rps.step h e)
  | _, _, .slt a b c => .slt (h _ _ a b).1 (h _ _ a b).2 (Rpo.step h c)
  | _, _, .ptup a => .ptup (Rps.step h a)
theorem Rps.step (h : Stp B B' M M') : ∀ {x : List PV} {d : List D}, Rps B M x d → Rps B' M' x d
  | _, _, .nil => .nil
  | _, _, .cons a b => .cons (Rp.step h a) (Rps.step h b)
theorem Rpo.step (h : Stp B B' M M') : ∀ {x : List (Option PV)} {d : List (Option D)}, Rpo B M x d → Rpo B' M' x d
  | _, _, .nil => .nil
  | _, _, .no a => .no (Rpo.step h a)
  | _, _, .cons a b => .cons (Rp.step h a) (Rpo.step h b)
end
theorem Rps.length : ∀ {xs : List PV} {ds : List D}, Rps B M xs ds → xs.length = ds.length
  | _, _, .nil => rfl
  | _, _, .cons _ b => by simp [Rps.length b]
theorem Rps.get : ∀ {xs : List PV} {ds : List D} {i : Nat} {d : D}, Rps B M xs ds → ds[i]? = some d → ∃ x, xs[i]? = some x ∧ Rp B M x d
  | _, _, _, _, .nil, e => by simp at e
  | _, _, 0, _, .cons a _, e => by simp at e; subst e; exact ⟨_, rfl, a⟩
  | _, _, i + 1, d, .cons _ b, e => by
    obtain ⟨x, h1, h2⟩ := Rps.get (i := i) b (by simpa using e)
    exact ⟨x, by simpa using h1, h2⟩
theorem Rps.get' : ∀ {xs : List PV} {ds : List D} {i : Nat} {x : PV}, Rps B M xs ds → xs[i]? = some x → ∃ d, ds[i]? = some d ∧ Rp B M x d
  | _, _, _, _, .nil, e => by simp at e
  | _, _, 0, _, .cons a _, e => by simp at e; subst e; exact ⟨_, rfl, a⟩
  | _, _, i + 1, d, .cons _ b, e => by
    obtain ⟨x, h1, h2⟩ := Rps.get' (i := i) b (by simpa using e)
    exact ⟨x, by simpa using h1, h2⟩
theorem Rps.none {xs : List PV} {ds : List D} {i : Nat} (h : Rps B M xs ds) (e : ds[i]? = none) : xs[i]? = none := by
  have := h.length
  rw [List.getElem?_eq_none_iff] at e ⊢
  omega
theorem Rps.append : ∀ {xs ys : List PV} {ds es : List D}, Rps B M xs ds → Rps B M ys es → Rps B M (xs ++ ys) (ds ++ es)
  | _, _, _, _, .nil, h => h
  | _, _, _, _, .cons a b, h => .cons a (Rps.append b h)
theorem Rps.drop : ∀ {xs : List PV} {ds : List D} (n : Nat), Rps B M xs ds → Rps B M (xs.drop n) (ds.drop n)
  | _, _, 0, h => h
  | _, _, _ + 1, .nil => .nil
  | _, _, n + 1, .cons _ b => Rps.drop n b
theorem Rps.take : ∀ {xs : List PV} {ds : List D} (n : Nat), Rps B M xs ds → Rps B M (xs.take n) (ds.take n)
  | _, _, 0, _ => .nil
  | _, _, _ + 1, .nil => .nil
  | _, _, n + 1, .cons a b => .cons a (Rps.take n b)
theorem Rps.set : ∀ {xs : List PV} {ds : List D} (n : Nat) {x : PV} {d : D}, Rps B M xs ds → Rp B M x d → Rps B M (xs.set n x) (ds.set n d)
  | _, _, _, _, _, .nil, _ => .nil
  | _, _, 0, _, _, .cons _ b, h => .cons h b
  | _, _, n + 1, _, _, .cons a b, h => .cons a (Rps.set n b h)
theorem Rps.erase : ∀ {xs : List PV} {ds : List D} (n : Nat), Rps B M xs ds → Rps B M (xs.eraseIdx n) (ds.eraseIdx n)
  | _, _, _, .nil => .nil
  | _, _, 0, .cons _ b => b
  | _, _, n + 1, .cons a b => .cons a (Rps.erase n b)
theorem Rps.reverse : ∀ {xs : List PV} {ds : List D}, Rps B M xs ds → Rps B M xs.reverse ds.reverse
  | _, _, .nil => .nil
  | _, _, .cons a b => by
    rw [List.reverse_cons, List.reverse_cons]
    exact Rps.append (Rps.reverse b) (.cons a .nil)
theorem Rps.ints : ∀ ns : List Int, Rps B M (ns.map .int) (ns.map .int)
  | [] => .nil
  | _ :: ns => .cons (.int _) (Rps.ints ns)
end
structure Oq where
  p : Mm → PV → List Nat → Prop
  st : ∀ {M M' : Mm} {x : PV} {ns : List Nat}, p M x ns → (∀ n ∈ ns, M'[n]? = M[n]?) → p M' x ns
  lt : ∀ {M : Mm} {x : PV} {ns : List Nat}, p M x ns → ∀ n ∈ ns, n < M.length
mutual
inductive OT where
  | v (d : D) | ol (xs : List D) | od (kvs : List (Key × D)) | oi (c : Str) (fs : OF) | os (c : Str) (fs : OF) | oo (P : Oq)
inductive OF where
  | nil | no (r : OF) | cons (f : Str) (t : OT) (r : OF)
end
mutual
def OR (B : Nat → Prop) (M : Mm) : OT → PV → List Nat → Prop
  | .v d, x, ns => Rp B M x d ∧ ns = []
  | .ol ds, x, ns => ∃ n xs, x = .ref n ∧ ns = [n] ∧ M[n]? = some (.lst xs) ∧ Rps B M xs ds
  | .od ds, x, ns => ∃ n kvs, x = .ref n ∧ ns = [n] ∧ M[n]? = some (.dic kvs) ∧ kvs.map (·.1) = ds.map (·.1) ∧ Rps B M (kvs.map (·.2)) (ds.map (·.2))
  | .oi c fs, x, ns => ∃ n vs ms, x = .ref n ∧ ns = n :: ms ∧ M[n]? = some (.ins c vs) ∧ OFR B M fs vs ms
  | .os c fs, x, ns => ∃ n vs ms, x = .ref n ∧ ns = n :: ms ∧ M[n]? = some (.slt c vs) ∧ OSR B M fs vs ms
  | .oo P, x, ns => P.p M x ns
def OFR (B : Nat → Prop) (M : Mm) : OF → List (Str × PV) → List Nat → Prop
  | .nil, vs, ms => vs = [] ∧ ms = []
  | .no _, _, _ => False
  | .cons f t r, vs, ms => ∃ x vs' m1 m2, vs = (f, x) :: vs' ∧ ms = m1 ++ m2 ∧ OR B M t x m1 ∧ OFR B M r vs' m2
def OSR (B : Nat → Prop) (M : Mm) : OF → List (Option PV) → List Nat → Prop
  | .nil, vs, ms => vs = [] ∧ ms = []
  | .no r, vs, ms => ∃ o vs', vs = o :: vs' ∧ OSR B M r vs' ms
  | .cons _ t r, vs, ms => ∃ x vs' m1 m2, vs = some x :: vs' ∧ ms = m1 ++ m2 ∧ OR B M t x m1 ∧ OSR B M r vs' m2
end
mutual
def OT.toD : OT → Option D
  | .v d => some d
  | .ol xs => some (.lst xs)
  | .od kvs => some (.dic kvs)
  | .oi c fs => fs.toDs.map (.ins c)
  | .os c fs => fs.toDo.map (.slt c)
  | .oo _ => none
def OF.toDs : OF → Option (List (Str × D))
  | .nil => some []
  | .no _ => none
  | .cons f t r => match t.toD, r.toDs with | some d, some l => some ((f, d) :: l) | _, _ => none
def OF.toDo : OF → Option (List (Option D))
  | .nil => some []
  | .no r => r.toDo.map (none :: ·)
  | .cons _ t r => match t.toD, r.toDo with | some d, some l => some (some d :: l) | _, _ => none
end
def Stt (B B' : Nat → Prop) (M M' : Mm) (ns : List Nat) : Prop := Stp B B' M M' ∧ ∀ n ∈ ns, ∀ o, M[n]? = some o → M'[n]? = some o
theorem Stt.sub {B B' : Nat → Prop} {M M' : Mm} {ns ms : List Nat} (h : Stt B B' M M' ns) (hs : ∀ n ∈ ms, n ∈ ns) : Stt B B' M M' ms := ⟨h.1, fun n hn => h.2 n (hs n hn)⟩
section
variable {B B' : Nat → Prop} {M M' : Mm}
mutual
theorem OR.lt : ∀ {t : OT} {x : PV} {ns : List Nat}, OR B M t x ns → ∀ n ∈ ns, n < M.length
  | .v _, _, _, ⟨_, e⟩, n, hn => by subst e; cases hn
  | .ol _, _, _, ⟨m, xs, _, e, h, _⟩, n, hn => by subst e; simp at hn; subst hn; exact (List.getElem?_eq_some_iff.mp h).1
  | .od _, _, _, ⟨m, xs, _, e, h, _⟩, n, hn => by subst e; simp at hn; subst hn; exact (List.getElem?_eq_some_iff.mp h).1
  | .oi _ _, _, _, ⟨m, vs, ms, _, e, h, h2⟩, n, hn => by
    subst e
    rcases List.mem_cons.mp hn with rfl | hn
    · exact (List.getElem?_eq_some_iff.mp h).1
    · exact OFR.lt h2 n hn
  | .os _ _, _, _, ⟨m, vs, ms, _, e, h, h2⟩, n, hn => by
    subst e
    rcases List.mem_cons.mp hn with rfl | hn
    · exact (List.getElem?_eq_some_iff.mp h).1
    · exact OSR.lt h2 n hn
  | .oo P, _, _, h, n, hn => P.lt h n hn
theorem OFR.lt : ∀ {t : OF} {x : List (Str × PV)} {ns : List Nat}, OFR B M t x ns → ∀ n ∈ ns, n < M.length
  | .nil, _, _, ⟨_, e⟩, n, hn => by subst e; cases hn
  | .no _, _, _, h, _, _ => h.elim
  | .cons _ _ _, _, _, ⟨x, vs, m1, m2, _, e, h1, h2⟩, n, hn => by
    subst e
    rcases List.mem_append.mp hn with q | q
    · exact OR.lt h1 n q
    · exact OFR.lt h2 n q
theorem OSR.lt : ∀ {t : OF} {x : List (Option PV)} {ns : List Nat}, OSR B M t x ns → ∀ n ∈ ns, n < M.length
  | .nil, _, _, ⟨_, e⟩, n, hn => by subst e; cases hn
  | .no _, _, _, ⟨_, _, _, h⟩, n, hn => OSR.lt h n hn
  | .cons _ _ _, _, _, ⟨x, vs, m1, m2, _, e, h1, h2⟩, n, hn => by
    subst e
    rcases List.mem_append.mp hn with q | q
    · exact OR.lt h1 n q
    · exact OSR.lt h2 n q
end
theorem keep_lt {n : Nat} {ns : List Nat} (hl : ∀ n ∈ ns, n < M.length) (h : ∀ n ∈ ns, ∀ o, M[n]? = some o → M'[n]? = some o) : ∀ n ∈ ns, M'[n]? = M[n]? := fun n hn => by
  rw [List.getElem?_eq_getElem (hl n hn)]
  exact h n hn _ (List.getElem?_eq_getElem (hl n hn))
mutual
theorem OR.step : ∀ {t : OT} {x : PV} {ns : List Nat}, Stt B B' M M' ns → OR B M t x ns → OR B' M' t x ns
  | .v _, _, _, s, ⟨h, e⟩ => ⟨h.step s.1, e⟩
  | .ol _, _, _, s, ⟨n, xs, a, e, h, r⟩ => ⟨n, xs, a, e, s.2 n (by rw [e]; simp) _ h, r.step s.1⟩
  | .od _, _, _, s, ⟨n, xs, a, e, h, k, r⟩ => ⟨n, xs, a, e, s.2 n (by rw [e]; simp) _ h, k, r.step s.1⟩
  | .oi _ _, _, _, s, ⟨n, vs, ms, a, e, h, r⟩ => ⟨n, vs, ms, a, e, s.2 n (by rw [e]; simp) _ h, OFR.step (s.sub fun m hm => by rw [e]; simp [hm]) r⟩
  | .os _ _, _, _, s, ⟨n, vs, ms, a, e, h, r⟩ => ⟨n, vs, ms, a, e, s.2 n (by rw [e]; simp) _ h, OSR.step (s.sub fun m hm => by rw [e]; simp [hm]) r⟩
  | .oo P, _, _, s, h => P.st h (keep_lt (n := 0) (P.lt h) s.2)
theorem OFR.step : ∀ {t : OF} {x : List (Str × PV)} {ns : List Nat}, Stt B B' M M' ns → OFR B M t x ns → OFR B' M' t x ns
  | .nil, _, _, _, h => h
  | .no _, _, _, _, h => h.elim
  | .cons _ _ _, _, _, s, ⟨x, vs, m1, m2, a, e, h1, h2⟩ => ⟨x, vs, m1, m2, a, e, OR.step (s.sub fun m hm => by rw [e]; simp [hm]) h1, OFR.step (s.sub fun m hm => by rw [e]; simp [hm]) h2⟩
theorem OSR.step : ∀ {t : OF} {x : List (Option PV)} {ns : List Nat}, Stt B B' M M' ns → OSR B M t x ns → OSR B' M' t x ns
  | .nil, _, _, _, h => h
  | .no _, _, _, s, ⟨o, vs, a, h⟩ => ⟨o, vs, a, OSR.step s h⟩
  | .cons _ _ _, _, _, s, ⟨x, vs, m1, m2, a, e, h1, h2⟩ => ⟨x, vs, m1, m2, a, e, OR.step (s.sub fun m hm => by rw [e]; simp [hm]) h1, OSR.step (s.sub fun m hm => by rw [e]; simp [hm]) h2⟩
end
mutual
theorem OR.free : ∀ {t : OT} {x : PV} {ns : List Nat} {d : D}, OR B M t x ns → t.toD = some d → (∀ n, B' n → B n ∧ n ∉ ns) → Rp B' M x d
  | .v _, _, _, _, ⟨h, e⟩, rfl, s => h.step fun n o a b => ⟨fun z => a (s n z).1, b⟩
  | .ol _, _, _, _, ⟨n, xs, a, e, h, r⟩, rfl, s => by
    subst a; subst e
    exact .lst (fun z => (s n z).2 (by simp)) h (r.step fun n o a b => ⟨fun z => a (s n z).1, b⟩)
  | .od _, _, _, _, ⟨n, xs, a, e, h, k, r⟩, rfl, s => by
    subst a; subst e
    exact .dic (fun z => (s n z).2 (by simp)) h k (r.step fun n o a b => ⟨fun z => a (s n z).1, b⟩)
  | .oi _ _, _, _, _, ⟨n, vs, ms, a, e, h, r⟩, q, s => by
    subst a; subst e
    obtain ⟨l, h1, rfl⟩ := Option.map_eq_some_iff.mp q
    obtain ⟨k1, k2⟩ := OFR.free r h1 fun n hn => ⟨(s n hn).1, fun z => (s n hn).2 (by simp [z])⟩
    exact .ins (fun z => (s n z).2 (by simp)) h k1 k2
  | .os _ _, _, _, _, ⟨n, vs, ms, a, e, h, r⟩, q, s => by
    subst a; subst e
    obtain ⟨l, h1, rfl⟩ := Option.map_eq_some_iff.mp q
    exact .slt (fun z => (s n z).2 (by simp)) h (OSR.free r h1 fun n hn => ⟨(s n hn).1, fun z => (s n hn).2 (by simp [z])⟩)
theorem OFR.free : ∀ {t : OF} {x : List (Str × PV)} {ns : List Nat} {d : List (Str × D)}, OFR B M t x ns → t.toDs = some d → (∀ n, B' n → B n ∧ n ∉ ns) → x.map (·.1) = d.map (·.1) ∧ Rps B' M (x.map (·.2)) (d.map (·.2))
  | .nil, _, _, _, ⟨a, e⟩, rfl, s => by subst a; exact ⟨rfl, .nil⟩
  | .no _, _, _, _, h, _, _ => h.elim
  | .cons f t r, _, _, _, ⟨x, vs, m1, m2, a, e, h1, h2⟩, q, s => by
    subst a; subst e
    rw [OF.toDs] at q
    split at q
    · rename_i d l q1 q2
      cases q
      obtain ⟨k1, k2⟩ := OFR.free h2 q2 fun n hn => ⟨(s n hn).1, fun z => (s n hn).2 (by simp [z])⟩
      have k3 := OR.free h1 q1 fun n hn => ⟨(s n hn).1, fun z => (s n hn).2 (by simp [z])⟩
      exact ⟨by simp [k1], .cons k3 k2⟩
    · cases q
theorem OSR.free : ∀ {t : OF} {x : List (Option PV)} {ns : List Nat} {d : List (Option D)}, OSR B M t x ns → t.toDo = some d → (∀ n, B' n → B n ∧ n ∉ ns) → Rpo B' M x d
  | .nil, _, _, _, ⟨a, e⟩, rfl, s => by subst a; exact .nil
  | .no r, _, _, _, ⟨o, vs, a, h⟩, q, s => by
    subst a
    obtain ⟨l, h1, rfl⟩ := Option.map_eq_some_iff.mp q
    exact .no (OSR.free h h1 s)
  | .cons f t r, _, _, _, ⟨x, vs, m1, m2, a, e, h1, h2⟩, q, s => by
    subst a; subst e
    rw [OF.toDo] at q
    split at q
    · rename_i d l q1 q2
      cases q
      exact .cons (OR.free h1 q1 fun n hn => ⟨(s n hn).1, fun z => (s n hn).2 (by simp [z])⟩) (OSR.free h2 q2 fun n hn => ⟨(s n hn).1, fun z => (s n hn).2 (by simp [z])⟩)
    · cases q
end
end
end Mp.V
namespace Mp.V
open PySem L2
def OT.top : OT → Option D
  | .v d => some d
  | .ol xs => some (.lst xs)
  | .od kvs => some (.dic kvs)
  | _ => none
def RT (B : Nat → Prop) (M : Mm) (x : PV) : D → Prop
  | .lst ds => ∃ n xs, x = .ref n ∧ M[n]? = some (.lst xs) ∧ Rps B M xs ds
  | .dic ds => ∃ n kvs, x = .ref n ∧ M[n]? = some (.dic kvs) ∧ kvs.map (·.1) = ds.map (·.1) ∧ Rps B M (kvs.map (·.2)) (ds.map (·.2))
  | d => Rp B M x d
section
variable {B : Nat → Prop} {M : Mm}
theorem Rp.rt {x : PV} {d : D} (h : Rp B M x d) : RT B M x d := by
  cases h with
  | lst a b c => exact ⟨_, _, rfl, b, c⟩
  | dic a b c e => exact ⟨_, _, rfl, b, c, e⟩
  | non => exact .non
  | bl b => exact .bl b
  | int b => exact .int b
  | str b => exact .str b
  | cl b => exact .cl b
  | fn a b => exact .fn a b
  | tup a => exact .tup a
  | ptup a => exact .ptup a
  | ins a b c e => exact .ins a b c e
  | slt a b c => exact .slt a b c
theorem OR.rt {t : OT} {x : PV} {ns : List Nat} {d : D} (h : OR B M t x ns) (e : t.top = some d) : RT B M x d := by
  cases t with
  | v d' => cases e; exact h.1.rt
  | ol xs => cases e; obtain ⟨n, xs, a, _, b, c⟩ := h; exact ⟨n, xs, a, b, c⟩
  | od xs => cases e; obtain ⟨n, xs, a, _, b, c⟩ := h; exact ⟨n, xs, a, b, c⟩
  | _ => cases e
end
mutual
def D.py : D → Option PyData
  | .non => some .none
  | .bl b => some (.bool b)
  | .int i => some (.int i)
  | .str s => some (.str s)
  | .cl ns => some (.list (ns.map .int))
  | .tup xs => (D.pys xs).map .tuple
  | .lst xs => (D.pys xs).map .list
  | .ptup xs => (D.pys xs).map .tuple
  | _ => none
def D.pys : List D → Option (List PyData)
  | [] => some []
  | d :: ds => match d.py, D.pys ds with | some p, some ps => some (p :: ps) | _, _ => none
end
theorem dep_cons {p : PyData} {ps : List PyData} : PyData.depthAll (p :: ps) = Nat.max (PyData.depth p) (PyData.depthAll ps) := by rw [PyData.depthAll]
section
variable {B : Nat → Prop} {M : Mm}
mutual
theorem Rp.toD : ∀ {x : PV} {d : D} {p : PyData} {k : Nat}, Rp B M x d → d.py = some p → PyData.depth p < k → Mp.toD k M x = some p
  | _, _, _, 0, _, _, h => by omega
  | _, _, _, k + 1, .non, e, _ => by rw [D.py] at e; cases e; rfl
  | _, _, _, k + 1, .bl b, e, _ => by rw [D.py] at e; cases e; rfl
  | _, _, _, k + 1, .int b, e, _ => by rw [D.py] at e; cases e; rfl
  | _, _, _, k + 1, .str b, e, _ => by rw [D.py] at e; cases e; rfl
  | _, _, _, k + 1, .cl b, e, _ => by rw [D.py] at e; cases e; rfl
  | _, _, _, k + 1, .fn a b, e, _ => by simp [D.py] at e
  | _, _, _, k + 1, .tup a, e, h => by
    rw [D.py] at e
    obtain ⟨ps, h1, rfl⟩ := Option.map_eq_some_iff.mp e
    rw [PyData.depth] at h
    simp only [Mp.toD]
    rw [Rps.toD a h1 (k := k) (by omega)]; rfl
  | _, _, _, k + 1, .ptup a, e, h => by
    rw [D.py] at e
    obtain ⟨ps, h1, rfl⟩ := Option.map_eq_some_iff.mp e
    rw [PyData.depth] at h
    simp only [Mp.toD]
    rw [Rps.toD a h1 (k := k) (by omega)]; rfl
  | _, _, _, k + 1, .lst a b c, e, h => by
    rw [D.py] at e
    obtain ⟨ps, h1, rfl⟩ := Option.map_eq_some_iff.mp e
    rw [PyData.depth] at h
    simp only [Mp.toD, b]
    rw [Rps.toD c h1 (k := k) (by omega)]; rfl
  | _, _, _, k + 1, .dic _ _ _ _, e, _ => by simp [D.py] at e
  | _, _, _, k + 1, .ins _ _ _ _, e, _ => by simp [D.py] at e
  | _, _, _, k + 1, .slt _ _ _, e, _ => by simp [D.py] at e
theorem Rps.toD : ∀ {x : List PV} {d : List D} {p : List PyData} {k : Nat}, Rps B M x d → D.pys d = some p → PyData.depthAll p < k → x.mapM (Mp.toD k M) = some p
  | _, _, _, k, .nil, e, _ => by rw [D.pys] at e; cases e; rfl
  | _, _, _, k, .cons a b, e, h => by
    rw [D.pys] at e
    split at e
    · rename_i p ps h1 h2
      cases e
      rw [dep_cons] at h
      have h3 := Nat.le_max_left (PyData.depth p) (PyData.depthAll ps)
      have h4 := Nat.le_max_right (PyData.depth p) (PyData.depthAll ps)
      rw [List.mapM_cons, Rp.toD a h1 (k := k) (Nat.lt_of_le_of_lt h3 h), Rps.toD b h2 (k := k) (Nat.lt_of_le_of_lt h4 h)]
      rfl
    · cases e
end
theorem RT.toD {x : PV} {d : D} {p : PyData} {k : Nat} (h : RT B M x d) (e : d.py = some p) (hd : PyData.depth p < k) : Mp.toD k M x = some p := by
  cases d with
  | lst ds =>
    obtain ⟨n, xs, rfl, a, b⟩ := h
    exact Rp.toD (B := fun _ => False) (Rp.lst (fun z => z) a (b.step fun n o _ q => ⟨fun z => z, q⟩)) e hd
  | dic ds => simp [D.py] at e
  | _ => exact Rp.toD h e hd
end
def dbop : Bo → D → D → Option D
  | .add, .int i, .int j => some (.int (i + j))
  | .add, .str a, .str b => if a.length + b.length ≤ sizeLine then some (.str (a ++ b)) else none
  | .add, .tup xs, .tup ys => if xs.length + ys.length ≤ sizeLine then some (.tup (xs ++ ys)) else none
  | .sub, .int i, .int j => some (.int (i - j))
  | .mul, .int i, .int j => if mulOk i j then some (.int (i * j)) else none
  | .mul, .tup xs, .int j => if 0 ≤ j ∧ j ≤ 1000 ∧ xs.length ≤ 1000 then some (.tup (List.replicate j.toNat xs).flatten) else none
  | .fdiv, .int i, .int j => if 0 < j ∧ j < 1073741824 then some (.int (i / j)) else none
  | .mod, .int i, .int j => if 0 < j then some (.int (i % j)) else none
  | .pow, .int i, .int j => if 0 ≤ j ∧ j ≤ 1000000 ∧ i.natAbs < 2 ^ 64 then some (.int (i ^ j.toNat)) else none
  | _, _, _ => none
section
variable {B : Nat → Prop} {M : Mm}
theorem Rps.reps {xs : List PV} {ds : List D} (h : Rps B M xs ds) : ∀ n : Nat, Rps B M (List.replicate n xs).flatten (List.replicate n ds).flatten
  | 0 => .nil
  | n + 1 => by
    rw [List.replicate_succ, List.replicate_succ, List.flatten_cons, List.flatten_cons]
    exact h.append (Rps.reps h n)
theorem dbop_ok {o : Bo} {a b : PV} {x y z : D} (ha : Rp B M a x) (hb : Rp B M b y) (e : dbop o x y = some z) : ∃ v, bopP M o a b = some (v, M) ∧ Rp B M v z := by
  unfold dbop at e
  split at e
  · cases ha; cases hb; cases e; exact ⟨_, rfl, .int _⟩
  · cases ha; cases hb
    split at e
    · rename_i h; cases e; exact ⟨_, by simp only [bopP]; rw [if_pos h], .str _⟩
    · cases e
  · cases ha with | tup h1 => cases hb with | tup h2 =>
    split at e
    · rename_i h; cases e; exact ⟨_, by simp only [bopP]; rw [if_pos (by rw [h1.length, h2.length]; exact h)], .tup (h1.append h2)⟩
    · cases e
  · cases ha; cases hb; cases e; exact ⟨_, rfl, .int _⟩
  · cases ha; cases hb
    split at e
    · rename_i h; cases e; exact ⟨_, by simp only [bopP]; rw [if_pos h], .int _⟩
    · cases e
  · cases ha with | tup h1 => cases hb with | int j =>
    split at e
    · rename_i h; cases e
      obtain ⟨q2, q3, q4⟩ := h
      exact ⟨_, by simp only [bopP]; rw [if_pos ⟨q2, q3, by rw [h1.length]; exact q4⟩], .tup (h1.reps _)⟩
    · cases e
  · cases ha; cases hb
    split at e
    · rename_i h; cases e; exact ⟨_, by simp only [bopP]; rw [if_pos h], .int _⟩
    · cases e
  · cases ha; cases hb
    split at e
    · rename_i h; cases e; exact ⟨_, by simp only [bopP]; rw [if_pos h], .int _⟩
    · cases e
  · cases ha; cases hb
    split at e
    · rename_i h; cases e; exact ⟨_, by simp only [bopP]; rw [if_pos h], .int _⟩
    · cases e
  · cases e
end
def deqS : D → D → Option Bool
  | .non, .non => some true | .non, .int _ => some false | .int _, .non => some false | .non, .bl _ => some false | .bl _, .non => some false
  | .non, .str _ => some false | .str _, .non => some false
  | .int i, .int j => some (decide (i = j)) | .bl i, .bl j => some (decide (i = j)) | .str i, .str j => some (decide (i = j))
  | .int _, .str _ => some false | .str _, .int _ => some false | .bl _, .str _ => some false | .str _, .bl _ => some false
  | _, _ => none
def deq (x y : D) : Option Bool :=
  match deqS x y with
  | some b => some b
  | none =>
    match x.py, y.py with
    | some d, some e => if PyData.depth d < 20 ∧ PyData.depth e < 20 ∧ SeqAt.shaped d = true ∧ SeqAt.shaped e = true then some (PyData.eqv d e) else none
    | _, _ => none
def D.flat : D → Bool
  | .non => true | .bl _ => true | .int _ => true | .str _ => true | _ => false
def deqF : D → D → Bool
  | .non, .non => true
  | .bl i, .bl j => i == j | .int i, .int j => i == j | .str i, .str j => i == j
  | .bl a, .int j => (if a then 1 else 0) == j | .int i, .bl b => i == (if b then 1 else 0)
  | _, _ => false
def keyD : D → Option Key
  | .int i => some (.inl i)
  | .str s => some (.inr s)
  | _ => none
def getG {α : Type} (kvs : List (Key × α)) (k : Key) : Option α := (kvs.find? fun kv => decide (kv.1 = k)).map (·.2)
def putG {α : Type} (kvs : List (Key × α)) (k : Key) (v : α) : List (Key × α) :=
  if (kvs.any fun kv => decide (kv.1 = k)) = true then kvs.map (fun kv => if kv.1 = k then (kv.1, v) else kv) else kvs ++ [(k, v)]
def dinP (x : D) (ys : List D) : Option Bool := if x.flat && ys.all D.flat then some (ys.any fun y => deqF y x) else none
def dinD (x : D) (ys : List D) : Option Bool :=
  match x.py, D.pys ys with
  | some d, some ds => if PyData.depth d < 20 ∧ PyData.depthAll ds < 19 ∧ SeqAt.shaped d = true ∧ SeqAt.shaped (.list ds) = true then some (ds.any fun z => PyData.eqv z d) else none
  | _, _ => none
def dinDT (x : D) (ys : List D) : Option Bool :=
  match x.py, D.pys ys with
  | some d, some ds => if PyData.depth d < 20 ∧ PyData.depthAll ds < 19 ∧ SeqAt.shaped d = true ∧ SeqAt.shaped (.tuple ds) = true then some (ds.any fun z => PyData.eqv z d) else none
  | _, _ => none
def din (x : D) : D → Option Bool
  | .tup xs => (match dinP x xs with | some b => some b | none => dinDT x xs)
  | .lst xs => (match dinP x xs with | some b => some b | none => dinD x xs)
  | .dic kvs => (keyD x).map fun k => (getG kvs k).isSome
  | .str z => (match x with | .str s => (match s.cps.toList with | [c] => some (decide (c ∈ z.cps.toList)) | _ => none) | _ => none)
  | _ => none
def dcmp : Co → D → D → Option Bool
  | .eq, x, y => deq x y
  | .ne, x, y => (deq x y).map (!·)
  | .lt, .int i, .int j => some (decide (i < j))
  | .le, .int i, .int j => some (decide (i ≤ j))
  | .gt, .int i, .int j => some (decide (j < i))
  | .ge, .int i, .int j => some (decide (j ≤ i))
  | .isin, x, y => din x y
  | .notin, x, y => (din x y).map (!·)
  | .isN, x, .non => some (match x with | .non => true | _ => false)
  | .isNN, x, .non => some (match x with | .non => false | _ => true)
  | _, _, _ => none
section
variable {B : Nat → Prop} {M : Mm}
theorem Rp.rtE {x : PV} {d : D} (h : RT B M x d) (hd : ∀ ds, d ≠ .lst ds) (hd2 : ∀ ds, d ≠ .dic ds) : Rp B M x d := by
  cases d with
  | lst ds => exact absurd rfl (hd ds)
  | dic ds => exact absurd rfl (hd2 ds)
  | _ => exact h
theorem eqS_rt {a b : PV} {x y : D} (ha : RT B M a x) (hb : RT B M b y) : eqS a b = deqS x y := by
  have key : ∀ {a : PV} {x : D}, RT B M a x → (x = .non ∧ a = .non) ∨ (∃ i, x = .bl i ∧ a = .bl i) ∨ (∃ i, x = .int i ∧ a = .int i) ∨ (∃ i, x = .str i ∧ a = .str i) ∨
      ((∃ ns, a = .cl ns) ∨ (∃ xs, a = .tup xs) ∨ (∃ n, a = .ref n) ∨ (∃ n s, a = .fn n s) ∨ (∃ xs, a = .ptup xs)) ∧ ((∃ ns, x = .cl ns) ∨ (∃ n s, x = .fn n s) ∨ (∃ xs, x = .tup xs) ∨ (∃ xs, x = .lst xs) ∨ (∃ xs, x = .dic xs) ∨ (∃ c xs, x = .ins c xs) ∨ (∃ c xs, x = .slt c xs) ∨ (∃ xs, x = .ptup xs)) := by
    intro a x h
    cases x with
    | lst ds => obtain ⟨n, xs, rfl, _⟩ := h; simp
    | dic ds => obtain ⟨n, xs, rfl, _⟩ := h; simp
    | _ => cases h <;> simp
  rcases key ha with ⟨rfl, rfl⟩ | ⟨i, rfl, rfl⟩ | ⟨i, rfl, rfl⟩ | ⟨i, rfl, rfl⟩ | ⟨h1, h2⟩ <;> rcases key hb with ⟨rfl, rfl⟩ | ⟨j, rfl, rfl⟩ | ⟨j, rfl, rfl⟩ | ⟨j, rfl, rfl⟩ | ⟨h3, h4⟩ <;> first
    | rfl
    | (rcases h1 with ⟨_, rfl⟩ | ⟨_, rfl⟩ | ⟨_, rfl⟩ | ⟨_, _, rfl⟩ | ⟨_, rfl⟩ <;> rcases h2 with ⟨_, rfl⟩ | ⟨_, _, rfl⟩ | ⟨_, rfl⟩ | ⟨_, rfl⟩ | ⟨_, rfl⟩ | ⟨_, _, rfl⟩ | ⟨_, _, rfl⟩ | ⟨_, rfl⟩ <;> rfl)
    | (rcases h3 with ⟨_, rfl⟩ | ⟨_, rfl⟩ | ⟨_, rfl⟩ | ⟨_, _, rfl⟩ | ⟨_, rfl⟩ <;> rcases h4 with ⟨_, rfl⟩ | ⟨_, _, rfl⟩ | ⟨_, rfl⟩ | ⟨_, rfl⟩ | ⟨_, rfl⟩ | ⟨_, _, rfl⟩ | ⟨_, _, rfl⟩ | ⟨_, rfl⟩ <;> rfl)
    | (rcases h1 with ⟨_, rfl⟩ | ⟨_, rfl⟩ | ⟨_, rfl⟩ | ⟨_, _, rfl⟩ | ⟨_, rfl⟩ <;> rcases h2 with ⟨_, rfl⟩ | ⟨_, _, rfl⟩ | ⟨_, rfl⟩ | ⟨_, rfl⟩ | ⟨_, rfl⟩ | ⟨_, _, rfl⟩ | ⟨_, _, rfl⟩ | ⟨_, rfl⟩ <;> rcases h3 with ⟨_, rfl⟩ | ⟨_, rfl⟩ | ⟨_, rfl⟩ | ⟨_, _, rfl⟩ | ⟨_, rfl⟩ <;> rcases h4 with ⟨_, rfl⟩ | ⟨_, _, rfl⟩ | ⟨_, rfl⟩ | ⟨_, rfl⟩ | ⟨_, rfl⟩ | ⟨_, _, rfl⟩ | ⟨_, _, rfl⟩ | ⟨_, rfl⟩ <;> rfl)
theorem deq_ok {a b : PV} {x y : D} {k : Bool} (ha : RT B M a x) (hb : RT B M b y) (e : deq x y = some k) : eqP M a b = some k := by
  unfold deq at e
  unfold eqP
  rw [eqS_rt ha hb]
  split at e
  · rename_i q; first | exact e | (rw [q]; exact e)
  · rename_i q
    try rw [q]
    split at e
    · rename_i d f h1 h2
      split at e
      · rename_i h
        simp only [ha.toD h1 h.1, hb.toD h2 h.2.1, h.2.2.1, h.2.2.2]
        exact e
      · cases e
    · cases e
theorem getG_rps : ∀ {kvs : List (Key × PV)} {ds : List (Key × D)} (k : Key), kvs.map (·.1) = ds.map (·.1) → Rps B M (kvs.map (·.2)) (ds.map (·.2)) → (∀ d, getG ds k = some d → ∃ v, getD kvs k = some v ∧ Rp B M v d) ∧ (getG ds k = none → getD kvs k = none)
  | [], [], k, _, _ => ⟨fun d h => by simp [getG] at h, fun _ => rfl⟩
  | [], _ :: _, _, h, _ => by simp at h
  | _ :: _, [], _, h, _ => by simp at h
  | (k1, v) :: kvs, (k2, d) :: ds, k, h, r => by
    simp only [List.map_cons, List.cons.injEq] at h r
    obtain ⟨rfl, h⟩ := h
    cases r with
    | cons a b =>
      have ih := getG_rps k h b
      by_cases q : k1 = k
      · simp [getG, getD, q]
        exact a
      · have e1 : getG ((k1, d) :: ds) k = getG ds k := by simp [getG, q]
        have e2 : getD ((k1, v) :: kvs) k = getD kvs k := by simp [getD, q]
        rw [e1, e2]; exact ih
theorem key_rt {a : PV} {x : D} (h : RT B M a x) : keyOf a = keyD x := by
  cases x with
  | lst ds => obtain ⟨n, xs, rfl, _⟩ := h; rfl
  | dic ds => obtain ⟨n, xs, rfl, _⟩ := h; rfl
  | _ => cases h <;> rfl
theorem flat_rt {a : PV} {x : D} (h : RT B M a x) : flatP a = x.flat := by
  cases x with
  | lst ds => obtain ⟨n, xs, rfl, _⟩ := h; rfl
  | dic ds => obtain ⟨n, xs, rfl, _⟩ := h; rfl
  | _ => cases h <;> rfl
theorem eqF_rt {a b : PV} {x y : D} (ha : Rp B M a x) (hb : RT B M b y) (h1 : x.flat = true) (h2 : y.flat = true) : eqF a b = deqF x y := by
  cases x <;> simp [D.flat] at h1 <;> cases ha <;> cases y <;> simp [D.flat] at h2 <;> cases hb <;> rfl
theorem inP_rt {a : PV} {x : D} {k : Bool} (ha : RT B M a x) : ∀ {xs : List PV} {ds : List D}, Rps B M xs ds → dinP x ds = some k → inP a xs = some k := by
  intro xs ds r e
  unfold dinP at e
  unfold inP
  rw [flat_rt ha]
  split at e
  · rename_i h
    rw [Bool.and_eq_true] at h
    obtain ⟨h1, h2⟩ := h
    have key : ∀ {xs : List PV} {ds : List D}, Rps B M xs ds → ds.all D.flat = true → xs.all flatP = true ∧ (xs.any fun y => eqF y a) = ds.any fun y => deqF y x := by
      intro xs ds r
      induction ds generalizing xs with
      | nil => intro _; cases r; exact ⟨rfl, rfl⟩
      | cons d ds ih =>
        intro h
        cases r with
        | cons c b =>
          simp only [List.all_cons, Bool.and_eq_true] at h
          obtain ⟨i1, i2⟩ := ih b h.2
          exact ⟨by simp [flat_rt c.rt, h.1, i1], by simp [eqF_rt c ha h.1 h1, i2]⟩
    obtain ⟨k1, k2⟩ := key r h2
    rw [h1, k1, k2]
    simpa using e
  · cases e
theorem inP_no {a : PV} {x : D} (ha : RT B M a x) {xs : List PV} {ds : List D} (r : Rps B M xs ds) (e : dinP x ds = none) : inP a xs = none := by
  have key : ∀ {xs : List PV} {ds : List D}, Rps B M xs ds → xs.all flatP = ds.all D.flat := by
    intro xs ds r
    induction ds generalizing xs with
    | nil => cases r; rfl
    | cons d ds ih =>
      cases r with
      | cons c b => simp [flat_rt c.rt, ih b]
  unfold dinP at e
  unfold inP
  rw [flat_rt ha, key r]
  split at e
  · cases e
  · rename_i h; rw [if_neg h]
theorem py_lst {ds : List D} {ps : List PyData} (h : D.pys ds = some ps) : (D.lst ds).py = some (.list ps) := by rw [D.py, h]; rfl
theorem py_tup {ds : List D} {ps : List PyData} (h : D.pys ds = some ps) : (D.tup ds).py = some (.tuple ps) := by rw [D.py, h]; rfl
theorem din_ok {a b : PV} {x y : D} {k : Bool} (ha : RT B M a x) (hb : RT B M b y) (e : din x y = some k) : isIn M a b = some k := by
  cases y with
  | tup ds =>
    cases hb with
    | tup r =>
    simp only [din] at e
    simp only [isIn]
    split at e
    · rename_i q; cases e; rw [inP_rt ha r q]
    · rename_i q
      rw [inP_no ha r q]
      simp only [dinDT] at e
      split at e
      · rename_i d ps p1 p2
        split at e
        · rename_i h
          have t1 := ha.toD p1 h.1
          have t2 : Mp.toD 20 M (.tup _) = some (.tuple ps) := RT.toD (B := B) (d := .tup ds) (.tup r) (py_tup p2) (by rw [PyData.depth]; omega)
          simp only [inDT, t1, t2, h.2.2.1, h.2.2.2]
          rw [if_pos (by simp; omega)]
          exact e
        · cases e
      · cases e
  | lst ds =>
    obtain ⟨n, xs, rfl, h1, h2⟩ := hb
    simp only [din] at e
    simp only [isIn, h1]
    split at e
    · rename_i q; cases e; rw [inP_rt ha h2 q]
    · rename_i q
      rw [inP_no ha h2 q]
      simp only [dinD] at e
      split at e
      · rename_i d ps p1 p2
        split at e
        · rename_i h
          have t1 := ha.toD p1 h.1
          have t2 : Mp.toD 20 M (.ref n) = some (.list ps) := RT.toD (B := B) (d := .lst ds) ⟨n, xs, rfl, h1, h2⟩ (py_lst p2) (by rw [PyData.depth]; omega)
          simp only [inD, t1, t2, h.2.2.1, h.2.2.2]
          rw [if_pos (by simp; omega)]
          exact e
        · cases e
      · cases e
  | dic ds =>
    obtain ⟨n, kvs, rfl, h1, h2, h3⟩ := hb
    simp only [din] at e
    simp only [isIn, h1, key_rt ha]
    obtain ⟨kk, q1, rfl⟩ := Option.map_eq_some_iff.mp e
    rw [q1]
    obtain ⟨g1, g2⟩ := getG_rps (B := B) (M := M) kk h2 h3
    simp only [Option.map_some]
    cases q : getG ds kk with
    | none => rw [g2 q]; rfl
    | some d => obtain ⟨v, z, _⟩ := g1 d q; rw [z]; rfl
  | str z =>
    cases hb
    simp only [din] at e
    cases x with
    | str s =>
      cases ha
      simp only [isIn, sgn]
      cases q : s.cps.toList with
      | nil => simp [q] at e
      | cons c l =>
        cases l with
        | nil => simp [q] at e ⊢; exact e
        | cons _ _ => simp [q] at e
    | _ => simp at e
  | _ => simp [din] at e
theorem dcmp_ok {o : Co} {a b : PV} {x y : D} {k : Bool} (ha : RT B M a x) (hb : RT B M b y) (e : dcmp o x y = some k) : cmpP M o a b = some k := by
  cases o with
  | eq => exact deq_ok ha hb e
  | ne => obtain ⟨q, h1, rfl⟩ := Option.map_eq_some_iff.mp (show (deq x y).map (!·) = some k from e); show (eqP M a b).map (!·) = _; rw [deq_ok ha hb h1]; rfl
  | isin => exact din_ok ha hb e
  | notin => obtain ⟨q, h1, rfl⟩ := Option.map_eq_some_iff.mp (show (din x y).map (!·) = some k from e); show (isIn M a b).map (!·) = _; rw [din_ok ha hb h1]; rfl
  | isN =>
    cases y <;> simp [dcmp] at e
    cases hb
    subst e
    cases x with
    | lst ds => obtain ⟨n, xs, rfl, _⟩ := ha; rfl
    | dic ds => obtain ⟨n, xs, rfl, _⟩ := ha; rfl
    | _ => cases ha <;> rfl
  | isNN =>
    cases y <;> simp [dcmp] at e
    cases hb
    subst e
    cases x with
    | lst ds => obtain ⟨n, xs, rfl, _⟩ := ha; rfl
    | dic ds => obtain ⟨n, xs, rfl, _⟩ := ha; rfl
    | _ => cases ha <;> rfl
  | lt => cases x <;> cases y <;> simp [dcmp] at e; cases ha; cases hb; simp [cmpP, e]
  | le => cases x <;> cases y <;> simp [dcmp] at e; cases ha; cases hb; simp [cmpP, e]
  | gt => cases x <;> cases y <;> simp [dcmp] at e; cases ha; cases hb; simp [cmpP, e]
  | ge => cases x <;> cases y <;> simp [dcmp] at e; cases ha; cases hb; simp [cmpP, e]
  | eqw => simp [dcmp] at e
end
end Mp.V
namespace Mp.V
open PySem L2
def didx : D → D → Option D
  | .tup xs, .int i => atI xs i
  | .lst xs, .int i => atI xs i
  | .cl ns, .int i => (atI ns i).map .int
  | .str z, .int i => if z.length ≤ sizeLine then (atI z.cps.toList i).map fun c => .str ⟨#[c]⟩ else none
  | .dic kvs, y => (keyD y).bind (getG kvs)
  | _, _ => none
def cutG {α : Type} (xs : List α) (lo hi : Option Int) : List α := (xs.drop (HT.sIx xs.length 0 lo)).take (HT.sIx xs.length xs.length hi - HT.sIx xs.length 0 lo)
def dopt : Bool → D → Option (Option Int)
  | false, .non => some none
  | true, .int i => some (some i)
  | _, _ => none
def dslc (fl fh : Bool) (x lo hi : D) : Option D :=
  match dopt fl lo, dopt fh hi with
  | some a, some b => (match x with | .tup xs => some (.tup (cutG xs a b)) | .lst xs => some (.lst (cutG xs a b)) | _ => none)
  | _, _ => none
def dty : D → Option Ty
  | .bl _ => some .bool | .int _ => some .int | .str _ => some .str | .tup _ => some .tuple | .ptup _ => some .tuple | .cl _ => some .list | .lst _ => some .list | .dic _ => some .dict
  | _ => none
def disT (d : D) (t : Ty) : Bool :=
  match dty d with
  | some u => u == t || (u == .bool && t == .int)
  | none => false
def disi (d : D) (ts : List Ty) : Option Bool :=
  match d with
  | .ins _ _ => none
  | .slt _ _ => none
  | .fn _ _ => none
  | d => some (ts.any (disT d))
def dints : List D → Option (List Int)
  | [] => some []
  | .int i :: r => (dints r).map (i :: ·)
  | _ => none
def dbls : List D → Option (List Bool)
  | [] => some []
  | .bl i :: r => (dbls r).map (i :: ·)
  | _ => none
def dblt : Mp.B → List D → Option D
  | .len, [.str z] => if z.length ≤ sizeLine then some (.int z.length) else none
  | .len, [.lst xs] => some (.int xs.length)
  | .len, [.dic xs] => some (.int xs.length)
  | .len, [.tup xs] => some (.int xs.length)
  | .len, [.cl xs] => some (.int xs.length)
  | .int, [.int i] => some (.int i)
  | .int, [.bl b] => some (.int (if b then 1 else 0))
  | .abs, [.int i] => some (.int (if i < 0 then -i else i))
  | .min2, [.int i, .int j] => some (.int (if j < i then j else i))
  | .all, [.lst xs] => (dbls xs).map fun bs => .bl (bs.all id)
  | .any, [.lst xs] => (dbls xs).map fun bs => .bl (bs.any id)
  | .sum, [.lst xs] => (dints xs).map fun ns => .int ns.sum
  | .min1, [.lst xs] => ((dints xs).bind minI).map .int
  | .max1, [.lst xs] => ((dints xs).bind maxI).map .int
  | .tuple, [.lst xs] => some (.tup xs)
  | .tuple, [.tup xs] => some (.tup xs)
  | .str, [.int i] => if i.natAbs.log2 < 1920 then some (.str (Str.ofString (toString i))) else none
  | _, _ => none
inductive RTs (B : Nat → Prop) (M : Mm) : List PV → List D → Prop
  | nil : RTs B M [] []
  | cons {x : PV} {d : D} {xs : List PV} {ds : List D} : RT B M x d → RTs B M xs ds → RTs B M (x :: xs) (d :: ds)
section
variable {B : Nat → Prop} {M : Mm}
theorem atI_rps {xs : List PV} {ds : List D} {i : Int} {d : D} (h : Rps B M xs ds) (e : atI ds i = some d) : ∃ v, atI xs i = some v ∧ Rp B M v d := by
  unfold atI at e ⊢
  rw [h.length]
  obtain ⟨j, h1, h2⟩ := Option.bind_eq_some_iff.mp e
  obtain ⟨v, h3, h4⟩ := h.get h2
  exact ⟨v, by rw [h1]; exact h3, h4⟩
theorem didx_ok {a b : PV} {x y d : D} (ha : RT B M a x) (hb : RT B M b y) (e : didx x y = some d) : ∃ v, idxP M a b = some v ∧ Rp B M v d := by
  cases x with
  | tup ds =>
    cases y <;> simp [didx] at e
    cases ha with | tup r => cases hb; exact atI_rps r e
  | lst ds =>
    obtain ⟨n, xs, rfl, h1, h2⟩ := ha
    cases y <;> simp [didx] at e
    cases hb
    simp only [idxP, h1]
    exact atI_rps h2 e
  | cl ns =>
    cases ha
    cases y <;> simp [didx] at e
    cases hb
    obtain ⟨j, h1, rfl⟩ := e
    exact ⟨.int j, by simp only [idxP, h1]; rfl, .int j⟩
  | str z =>
    cases ha
    cases y <;> simp only [didx] at e <;> try (cases e; done)
    cases hb
    split at e
    · rename_i h
      obtain ⟨j, h1, rfl⟩ := Option.map_eq_some_iff.mp e
      exact ⟨_, by simp only [idxP]; rw [if_pos h, h1]; rfl, .str _⟩
    · cases e
  | dic ds =>
    obtain ⟨n, kvs, rfl, h1, h2, h3⟩ := ha
    simp only [didx] at e
    obtain ⟨k, e1, e2⟩ := Option.bind_eq_some_iff.mp e
    obtain ⟨v, e3, e4⟩ := (getG_rps k h2 h3).1 d e2
    refine ⟨v, ?_, e4⟩
    simp only [idxP, h1, key_rt hb, e1, Option.bind_some]; exact e3
  | _ => cases y <;> simp [didx] at e
theorem cut_rps {xs : List PV} {ds : List D} (h : Rps B M xs ds) (a b : Option Int) : Rps B M (cutP xs a b) (cutG ds a b) := by
  unfold cutP cutG
  rw [h.length]
  exact (h.drop _).take _
theorem dopt_ok {f : Bool} {a : PV} {x : D} {o : Option Int} (ha : RT B M a x) (e : dopt f x = some o) : optI f a = some o := by
  cases f <;> cases x <;> simp [dopt] at e <;> cases ha <;> simp [optI, e]
theorem ty_rt {a : PV} {d : D} {k : Bool} {ts : List Ty} (ha : RT B M a d) (e : disi d ts = some k) : insP M a = false ∧ ts.any (isTy M a) = k := by
  have key : ∀ t, (∀ c fs, d ≠ .ins c fs) → (∀ c fs, d ≠ .slt c fs) → (∀ n s, d ≠ .fn n s) → isTy M a t = disT d t ∧ insP M a = false := by
    intro t h1 h2 h3
    cases d with
    | lst ds => obtain ⟨n, xs, rfl, h, _⟩ := ha; simp [isTy, tyOf, disT, dty, h]
    | dic ds => obtain ⟨n, xs, rfl, h, _⟩ := ha; simp [isTy, tyOf, disT, dty, h]
    | ins c fs => exact absurd rfl (h1 c fs)
    | slt c fs => exact absurd rfl (h2 c fs)
    | fn n s => exact absurd rfl (h3 n s)
    | _ => cases ha <;> simp [isTy, tyOf, disT, dty]
  unfold disi at e
  split at e
  · cases e
  · cases e
  · cases e
  · rename_i h1 h2 h3
    cases e
    refine ⟨(key .int (fun c fs z => h1 c fs z) (fun c fs z => h2 c fs z) (fun c fs z => h3 c fs z)).2, ?_⟩
    congr 1
    funext t
    exact (key t (fun c fs z => h1 c fs z) (fun c fs z => h2 c fs z) (fun c fs z => h3 c fs z)).1
theorem ints_rps : ∀ {xs : List PV} {ds : List D} {ns : List Int}, Rps B M xs ds → dints ds = some ns → intsOf xs = some ns
  | _, _, _, .nil, e => by cases e; rfl
  | _, _, _, .cons (d := d) a b, e => by
    cases d <;> simp [dints] at e
    cases a
    obtain ⟨l, h1, rfl⟩ := e
    simp only [intsOf]; rw [ints_rps b h1]; rfl
theorem bls_rps : ∀ {xs : List PV} {ds : List D} {ns : List Bool}, Rps B M xs ds → dbls ds = some ns → blsOf xs = some ns
  | _, _, _, .nil, e => by cases e; rfl
  | _, _, _, .cons (d := d) a b, e => by
    cases d <;> simp [dbls] at e
    cases a
    obtain ⟨l, h1, rfl⟩ := e
    simp only [blsOf]; rw [bls_rps b h1]; rfl
theorem dblt_ok {b : Mp.B} {xs : List PV} {ds : List D} {d : D} (h : RTs B M xs ds) (e : dblt b ds = some d) : ∃ v, bltP M b xs = some (v, M) ∧ Rp B M v d := by
  unfold dblt at e
  split at e
  · cases h with | cons a r => cases r; cases a; exact (by
    split at e
    · rename_i q; cases e; exact ⟨_, by simp only [bltP]; rw [if_pos q], .int _⟩
    · cases e)
  · cases h with | cons a r => cases r; obtain ⟨n, zs, rfl, h1, h2⟩ := a; cases e; exact ⟨_, by simp only [bltP, h1]; rw [h2.length], .int _⟩
  · cases h with | cons a r =>
    cases r; obtain ⟨n, zs, rfl, h1, h2, h3⟩ := a; cases e
    exact ⟨_, by simp only [bltP, h1]; rw [show zs.length = _ from by have := congrArg List.length h2; simpa using this], .int _⟩
  · cases h with | cons a r => cases r; cases a with | tup r => cases e; exact ⟨_, by simp only [bltP]; rw [r.length], .int _⟩
  · cases h with | cons a r => cases r; cases a; cases e; exact ⟨_, by simp only [bltP], .int _⟩
  · cases h with | cons a r => cases r; cases a; cases e; exact ⟨_, by simp only [bltP], .int _⟩
  · cases h with | cons a r => cases r; cases a; cases e; exact ⟨_, by simp only [bltP], .int _⟩
  · cases h with | cons a r => cases r; cases a; cases e; exact ⟨_, by simp only [bltP], .int _⟩
  · cases h with | cons a r => cases r with | cons a2 r2 => cases r2; cases a; cases a2; cases e; exact ⟨_, by simp only [bltP], .int _⟩
  · cases h with | cons a r => cases r; obtain ⟨n, zs, rfl, h1, h2⟩ := a; obtain ⟨bs, q, rfl⟩ := Option.map_eq_some_iff.mp e; exact ⟨_, by simp only [bltP, lstAt, h1, Option.bind_some, bls_rps h2 q]; rfl, .bl _⟩
  · cases h with | cons a r => cases r; obtain ⟨n, zs, rfl, h1, h2⟩ := a; obtain ⟨bs, q, rfl⟩ := Option.map_eq_some_iff.mp e; exact ⟨_, by simp only [bltP, lstAt, h1, Option.bind_some, bls_rps h2 q]; rfl, .bl _⟩
  · cases h with | cons a r => cases r; obtain ⟨n, zs, rfl, h1, h2⟩ := a; obtain ⟨bs, q, rfl⟩ := Option.map_eq_some_iff.mp e; exact ⟨_, by simp only [bltP, lstAt, h1, Option.bind_some, ints_rps h2 q]; rfl, .int _⟩
  · cases h with | cons a r =>
    cases r; obtain ⟨n, zs, rfl, h1, h2⟩ := a; obtain ⟨m, q, rfl⟩ := Option.map_eq_some_iff.mp e
    obtain ⟨bs, q1, q2⟩ := Option.bind_eq_some_iff.mp q
    exact ⟨_, by simp only [bltP, lstAt, h1, Option.bind_some, ints_rps h2 q1, q2]; rfl, .int _⟩
  · cases h with | cons a r =>
    cases r; obtain ⟨n, zs, rfl, h1, h2⟩ := a; obtain ⟨m, q, rfl⟩ := Option.map_eq_some_iff.mp e
    obtain ⟨bs, q1, q2⟩ := Option.bind_eq_some_iff.mp q
    exact ⟨_, by simp only [bltP, lstAt, h1, Option.bind_some, ints_rps h2 q1, q2]; rfl, .int _⟩
  · cases h with | cons a r => cases r; obtain ⟨n, zs, rfl, h1, h2⟩ := a; cases e; exact ⟨_, by simp only [bltP, lstAt, h1]; rfl, .tup h2⟩
  · cases h with | cons a r => cases r; cases a with | tup r => cases e; exact ⟨_, by simp only [bltP], .tup r⟩
  · cases h with | cons a r => cases r; cases a; exact (by
    split at e
    · rename_i q; cases e; exact ⟨_, by simp only [bltP]; rw [if_pos q], .str _⟩
    · cases e)
  · cases e
end
abbrev Env := List (Option OT)
def Bd (nss : List (List Nat)) (X : Nat → Prop) : Nat → Prop := fun n => n ∈ nss.flatten ∨ X n
structure SR (sg : Sg) (M : Mm) (env : Env) (nss : List (List Nat)) (X : Nat → Prop) : Prop where
  len : sg.length = env.length
  nl : nss.length = env.length
  at_ : ∀ (i : Nat) (t : OT), env[i]? = some (some t) → ∃ x ns, sg[i]? = some (some x) ∧ nss[i]? = some ns ∧ OR (Bd nss X) M t x ns
  no : ∀ (i : Nat), env[i]? = some none → nss[i]? = some []
  nd : nss.flatten.Nodup
  dj : ∀ n ∈ nss.flatten, ¬ X n
  xl : ∀ n, X n → n < M.length
theorem mem_fl {nss : List (List Nat)} {i : Nat} {ns : List Nat} (h : nss[i]? = some ns) : ∀ n ∈ ns, n ∈ nss.flatten := fun n hn => List.mem_flatten.mpr ⟨ns, List.mem_of_getElem? h, hn⟩
def conD : PV → Option D
  | .non => some .non | .bl b => some (.bl b) | .int i => some (.int i) | .str s => some (.str s)
  | _ => none
def OF.get : OF → Str → Option OT
  | .nil, _ => none
  | .no r, f => r.get f
  | .cons g t r, f => match f == g with | true => some t | false => r.get f
def OF.at : OF → Nat → Option OT
  | .nil, _ => none
  | .no _, 0 => none
  | .no r, i + 1 => r.at i
  | .cons _ t _, 0 => some t
  | .cons _ _ r, i + 1 => r.at i
mutual
def pk (env : Env) : E → Option OT
  | .var i => match env[i]? with | some (some t) => some t | _ => none
  | .con v => (conD v).map .v
  | .bop o a b => match pk env a, pk env b with | some (.v x), some (.v y) => (dbop o x y).map .v | _, _ => none
  | .neg a => match pk env a with | some (.v (.int i)) => some (.v (.int (-i))) | _ => none
  | .cmp o a b => match (pk env a).bind OT.top, (pk env b).bind OT.top with | some x, some y => (dcmp o x y).map fun k => .v (.bl k) | _, _ => none
  | .chn o1 o2 a b c =>
    match (pk env a).bind OT.top, (pk env b).bind OT.top with
    | some x, some y =>
      match dcmp o1 x y with
      | some true => (match (pk env c).bind OT.top with | some z => (dcmp o2 y z).map fun k => .v (.bl k) | none => none)
      | some false => some (.v (.bl false))
      | none => none
    | _, _ => none
  | .and a b => match pk env a with | some (.v (.bl true)) => pk env b | some (.v (.bl false)) => some (.v (.bl false)) | _ => none
  | .or a b => match pk env a with | some (.v (.bl true)) => some (.v (.bl true)) | some (.v (.bl false)) => pk env b | _ => none
  | .not a => match pk env a with | some (.v (.bl k)) => some (.v (.bl (!k))) | _ => none
  | .ite c a b => match pk env c with | some (.v (.bl true)) => pk env a | some (.v (.bl false)) => pk env b | _ => none
  | .tup es => match pks env es with | some ds => if ds.length ≤ sizeLine then some (.v (.tup ds)) else none | none => none
  | .idx a i => match (pk env a).bind OT.top, (pk env i).bind OT.top with | some x, some y => (didx x y).map .v | _, _ => none
  | .slc fl fh a lo hi =>
    match (pk env a).bind OT.top, (pk env lo).bind OT.top, (pk env hi).bind OT.top with
    | some (.tup xs), some y, some z => (dslc fl fh (.tup xs) y z).map .v
    | _, _, _ => none
  | .blt b es => match pts env es with | some ds => (dblt b ds).map .v | none => none
  | .mth .get1 o es =>
    match (pk env o).bind OT.top, pts env es with
    | some (.dic kvs), some [y] => (keyD y).map fun k => .v ((getG kvs k).getD .non)
    | _, _ => none
  | .isi a ts => match (pk env a).bind OT.top with | some d => (disi d ts).map fun k => .v (.bl k) | none => none
  | .fld c f o =>
    match pk env o with
    | some (.oi c' fs) => if c' = c then fs.get f else none
    | some (.v (.ins c' fs)) => if c' = c then (fs.lookup f).map .v else none
    | _ => none
  | .sld c _ i o =>
    match pk env o with
    | some (.os c' fs) => if c' = c then fs.at i else none
    | some (.v (.slt c' fs)) => if c' = c then (match fs[i]? with | some (some d) => some (.v d) | _ => none) else none
    | _ => none
  | .rev a => match pk env a with | some (.v (.tup xs)) => some (.v (.tup xs.reverse)) | _ => none
  | _ => none
def pks (env : Env) : Es → Option (List D)
  | .nil => some []
  | .cons e r => match pk env e, pks env r with | some (.v d), some ds => some (d :: ds) | _, _ => none
def pts (env : Env) : Es → Option (List D)
  | .nil => some []
  | .cons e r => match (pk env e).bind OT.top, pts env r with | some d, some ds => some (d :: ds) | _, _ => none
end
section
variable {B : Nat → Prop} {M : Mm}
theorem OFR.get : ∀ {t : OF} {vs : List (Str × PV)} {ns : List Nat} {f : Str} {u : OT}, OFR B M t vs ns → t.get f = some u → ∃ x ms, vs.lookup f = some x ∧ OR B M u x ms ∧ ∀ n ∈ ms, n ∈ ns
  | .nil, _, _, _, _, _, e => by cases e
  | .no _, _, _, _, _, h, _ => h.elim
  | .cons g t r, _, _, f, u, ⟨x, vs, m1, m2, a, b, h1, h2⟩, e => by
    subst a; subst b
    rw [OF.get] at e
    rw [List.lookup]
    split at e
    · rename_i q; rw [q]; cases e; exact ⟨x, m1, rfl, h1, fun n hn => by simp [hn]⟩
    · rename_i q; rw [q]
      obtain ⟨y, ms, k1, k2, k3⟩ := OFR.get h2 e
      exact ⟨y, ms, k1, k2, fun n hn => by simp [k3 n hn]⟩
theorem OSR.at : ∀ {t : OF} {vs : List (Option PV)} {ns : List Nat} {i : Nat} {u : OT}, OSR B M t vs ns → t.at i = some u → ∃ x ms, vs[i]? = some (some x) ∧ OR B M u x ms ∧ ∀ n ∈ ms, n ∈ ns
  | .nil, _, _, _, _, _, e => by cases e
  | .no _, _, _, 0, _, _, e => by cases e
  | .no r, _, _, i + 1, _, ⟨o, vs, a, h⟩, e => by
    subst a
    obtain ⟨y, ms, k1, k2, k3⟩ := OSR.at h (show r.at i = _ from e)
    exact ⟨y, ms, by simpa using k1, k2, k3⟩
  | .cons _ t r, _, _, 0, _, ⟨x, vs, m1, m2, a, b, h1, h2⟩, e => by
    subst a; subst b
    cases e
    exact ⟨x, m1, rfl, h1, fun n hn => by simp [hn]⟩
  | .cons _ t r, _, _, i + 1, _, ⟨x, vs, m1, m2, a, b, h1, h2⟩, e => by
    subst a; subst b
    obtain ⟨y, ms, k1, k2, k3⟩ := OSR.at h2 (show r.at i = _ from e)
    exact ⟨y, ms, by simpa using k1, k2, fun n hn => by simp [k3 n hn]⟩
theorem look_rps : ∀ {kvs : List (Str × PV)} {ds : List (Str × D)} {f : Str} {d : D}, kvs.map (·.1) = ds.map (·.1) → Rps B M (kvs.map (·.2)) (ds.map (·.2)) → ds.lookup f = some d → ∃ x, kvs.lookup f = some x ∧ Rp B M x d
  | _, [], _, _, _, _, e => by cases e
  | [], _ :: _, _, _, h, _, _ => by simp at h
  | (g, x) :: kvs, (g', d') :: ds, f, d, h, r, e => by
    simp only [List.map_cons, List.cons.injEq] at h r
    obtain ⟨rfl, h⟩ := h
    cases r with
    | cons a b =>
      rw [List.lookup] at e ⊢
      split at e
      · cases e; exact ⟨x, rfl, a⟩
      · exact look_rps h b e
theorem Rpo.at : ∀ {vs : List (Option PV)} {ds : List (Option D)} {i : Nat} {d : D}, Rpo B M vs ds → ds[i]? = some (some d) → ∃ x, vs[i]? = some (some x) ∧ Rp B M x d
  | _, _, _, _, .nil, e => by simp at e
  | _, _, 0, _, .no _, e => by simp at e
  | _, _, i + 1, d, .no b, e => by
    obtain ⟨x, h1, h2⟩ := Rpo.at (i := i) b (by simpa using e)
    exact ⟨x, by simpa using h1, h2⟩
  | _, _, 0, _, .cons a _, e => by simp at e; subst e; exact ⟨_, rfl, a⟩
  | _, _, i + 1, d, .cons _ b, e => by
    obtain ⟨x, h1, h2⟩ := Rpo.at (i := i) b (by simpa using e)
    exact ⟨x, by simpa using h1, h2⟩
end
theorem top_b {o : Option OT} {d : D} (h : o.bind OT.top = some d) : ∃ t, o = some t ∧ t.top = some d := Option.bind_eq_some_iff.mp h
end Mp.V
namespace Mp.V
open PySem L2
section
variable {cf : CF} {sg : Sg} {M : Mm} {env : Env} {nss : List (List Nat)} {X : Nat → Prop} (S : SR sg M env nss X)
include S
mutual
theorem pk_ok : ∀ (e : E) {t : OT}, pk env e = some t → ∃ v ns, evE cf e sg M = some (v, M) ∧ OR (Bd nss X) M t v ns ∧ ∀ n ∈ ns, n ∈ nss.flatten
  | .var i, t, h => by
    rw [pk] at h
    split at h
    · rename_i u q
      cases h
      obtain ⟨x, ns, h1, h2, h3⟩ := S.at_ i t q
      exact ⟨x, ns, e_var h1, h3, mem_fl h2⟩
    · cases h
  | .con v, t, h => by
    rw [pk] at h
    obtain ⟨d, h1, rfl⟩ := Option.map_eq_some_iff.mp h
    refine ⟨v, [], e_con, ⟨?_, rfl⟩, by simp⟩
    cases v <;> simp [conD] at h1 <;> subst h1 <;> constructor
  | .bop o a b, t, h => by
    rw [pk] at h
    split at h
    · rename_i x y h1 h2
      obtain ⟨z, h3, rfl⟩ := Option.map_eq_some_iff.mp h
      obtain ⟨v1, _, e1, r1, _⟩ := pk_ok a h1
      obtain ⟨v2, _, e2, r2, _⟩ := pk_ok b h2
      obtain ⟨v, e3, r3⟩ := dbop_ok r1.1 r2.1 h3
      exact ⟨v, [], e_bop e1 e2 e3, ⟨r3, rfl⟩, by simp⟩
    · cases h
  | .neg a, t, h => by
    rw [pk] at h
    split at h
    · rename_i i h1
      cases h
      obtain ⟨v1, _, e1, r1, _⟩ := pk_ok a h1
      cases r1.1
      exact ⟨.int (-i), [], by rw [evE, e1], ⟨.int _, rfl⟩, by simp⟩
    · cases h
  | .cmp o a b, t, h => by
    rw [pk] at h
    split at h
    · rename_i x y h1 h2
      obtain ⟨k, h3, rfl⟩ := Option.map_eq_some_iff.mp h
      obtain ⟨t1, q1, q2⟩ := top_b h1
      obtain ⟨t2, q3, q4⟩ := top_b h2
      obtain ⟨v1, _, e1, r1, _⟩ := pk_ok a q1
      obtain ⟨v2, _, e2, r2, _⟩ := pk_ok b q3
      exact ⟨.bl k, [], e_cmp e1 e2 (dcmp_ok (r1.rt q2) (r2.rt q4) h3), ⟨.bl _, rfl⟩, by simp⟩
    · cases h
  | .chn o1 o2 a b c, t, h => by
    rw [pk] at h
    split at h
    · rename_i x y h1 h2
      obtain ⟨t1, q1, q2⟩ := top_b h1
      obtain ⟨t2, q3, q4⟩ := top_b h2
      obtain ⟨v1, _, e1, r1, _⟩ := pk_ok a q1
      obtain ⟨v2, _, e2, r2, _⟩ := pk_ok b q3
      split at h
      · rename_i c1
        have k1 := dcmp_ok (r1.rt q2) (r2.rt q4) c1
        split at h
        · rename_i z h3
          obtain ⟨k, h4, rfl⟩ := Option.map_eq_some_iff.mp h
          obtain ⟨t3, q5, q6⟩ := top_b h3
          obtain ⟨v3, _, e3, r3, _⟩ := pk_ok c q5
          have k2 := dcmp_ok (r2.rt q4) (r3.rt q6) h4
          exact ⟨.bl k, [], by rw [evE, e1]; simp only [e2, k1, e3, k2]; rfl, ⟨.bl _, rfl⟩, by simp⟩
        · cases h
      · rename_i c1
        have k1 := dcmp_ok (r1.rt q2) (r2.rt q4) c1
        cases h
        exact ⟨.bl false, [], by rw [evE, e1]; simp only [e2, k1], ⟨.bl _, rfl⟩, by simp⟩
      · cases h
    · cases h
  | .and a b, t, h => by
    rw [pk] at h
    split at h
    · rename_i h1
      obtain ⟨v1, _, e1, r1, _⟩ := pk_ok a h1
      cases r1.1
      obtain ⟨v2, ns, e2, r2, k⟩ := pk_ok b h
      exact ⟨v2, ns, e_andT e1 e2, r2, k⟩
    · rename_i h1
      obtain ⟨v1, _, e1, r1, _⟩ := pk_ok a h1
      cases r1.1
      cases h
      exact ⟨.bl false, [], e_andF e1, ⟨.bl _, rfl⟩, by simp⟩
    · cases h
  | .or a b, t, h => by
    rw [pk] at h
    split at h
    · rename_i h1
      obtain ⟨v1, _, e1, r1, _⟩ := pk_ok a h1
      cases r1.1
      cases h
      exact ⟨.bl true, [], e_orT e1, ⟨.bl _, rfl⟩, by simp⟩
    · rename_i h1
      obtain ⟨v1, _, e1, r1, _⟩ := pk_ok a h1
      cases r1.1
      obtain ⟨v2, ns, e2, r2, k⟩ := pk_ok b h
      exact ⟨v2, ns, e_orF e1 e2, r2, k⟩
    · cases h
  | .not a, t, h => by
    rw [pk] at h
    split at h
    · rename_i k h1
      obtain ⟨v1, _, e1, r1, _⟩ := pk_ok a h1
      cases r1.1
      cases h
      exact ⟨_, [], e_not e1, ⟨.bl _, rfl⟩, by simp⟩
    · cases h
  | .ite c a b, t, h => by
    rw [pk] at h
    split at h
    · rename_i h1
      obtain ⟨v1, _, e1, r1, _⟩ := pk_ok c h1
      cases r1.1
      obtain ⟨v2, ns, e2, r2, k⟩ := pk_ok a h
      exact ⟨v2, ns, e_iteT e1 e2, r2, k⟩
    · rename_i h1
      obtain ⟨v1, _, e1, r1, _⟩ := pk_ok c h1
      cases r1.1
      obtain ⟨v2, ns, e2, r2, k⟩ := pk_ok b h
      exact ⟨v2, ns, e_iteF e1 e2, r2, k⟩
    · cases h
  | .tup es, t, h => by
    rw [pk] at h
    split at h
    · rename_i ds h1
      split at h
      · rename_i hl
        cases h
        obtain ⟨vs, e1, r1⟩ := pks_ok es h1
        exact ⟨.tup vs, [], by rw [evE, e1]; simp only []; rw [if_pos (by rw [r1.length]; exact hl)], ⟨.tup r1, rfl⟩, by simp⟩
      · cases h
    · cases h
  | .idx a i, t, h => by
    rw [pk] at h
    split at h
    · rename_i x y h1 h2
      obtain ⟨k, h3, rfl⟩ := Option.map_eq_some_iff.mp h
      obtain ⟨t1, q1, q2⟩ := top_b h1
      obtain ⟨t2, q3, q4⟩ := top_b h2
      obtain ⟨v1, _, e1, r1, _⟩ := pk_ok a q1
      obtain ⟨v2, _, e2, r2, _⟩ := pk_ok i q3
      obtain ⟨v, h4, r3⟩ := didx_ok (r1.rt q2) (r2.rt q4) h3
      exact ⟨v, [], e_idx e1 e2 h4, ⟨r3, rfl⟩, by simp⟩
    · cases h
  | .slc fl fh a lo hi, t, h => by
    rw [pk] at h
    split at h
    · rename_i xs y z h1 h2 h3
      obtain ⟨k, h4, rfl⟩ := Option.map_eq_some_iff.mp h
      obtain ⟨t1, q1, q2⟩ := top_b h1
      obtain ⟨t2, q3, q4⟩ := top_b h2
      obtain ⟨t3, q5, q6⟩ := top_b h3
      obtain ⟨v1, _, e1, r1, _⟩ := pk_ok a q1
      obtain ⟨v2, _, e2, r2, _⟩ := pk_ok lo q3
      obtain ⟨v3, _, e3, r3, _⟩ := pk_ok hi q5
      unfold dslc at h4
      split at h4
      · rename_i p q k1 k2
        cases h4
        have w := r1.rt q2
        cases w with
        | tup w =>
          refine ⟨_, [], ?_, ⟨.tup (cut_rps w p q), rfl⟩, by simp⟩
          rw [evE, e1]; simp only [e2, e3, slcP, dopt_ok (r2.rt q4) k1, dopt_ok (r3.rt q6) k2]
      · cases h4
    · cases h
  | .blt b es, t, h => by
    rw [pk] at h
    split at h
    · rename_i ds h1
      obtain ⟨k, h3, rfl⟩ := Option.map_eq_some_iff.mp h
      obtain ⟨vs, e1, r1⟩ := pts_ok es h1
      obtain ⟨v, e2, r2⟩ := dblt_ok r1 h3
      exact ⟨v, [], e_blt e1 e2, ⟨r2, rfl⟩, by simp⟩
    · cases h
  | .mth m o es, t, h => by
    cases m <;> first | (rw [pk] at h; cases h; done) | skip
    all_goals try (simp [pk] at h; done)
    rw [pk] at h
    split at h
    · rename_i kvs y h1 h2
      obtain ⟨k, h3, rfl⟩ := Option.map_eq_some_iff.mp h
      obtain ⟨t1, q1, q2⟩ := top_b h1
      obtain ⟨v1, _, e1, r1, _⟩ := pk_ok o q1
      obtain ⟨vs, e2, r2⟩ := pts_ok es h2
      obtain ⟨n, zs, rfl, g1, g2, g3⟩ := r1.rt q2
      cases r2 with
      | cons r2 r4 =>
        cases r4
        obtain ⟨k1, k2⟩ := getG_rps (B := Bd nss X) (M := M) k g2 g3
        cases q : getG kvs k with
        | none =>
          refine ⟨.non, [], ?_, ⟨.non, rfl⟩, by simp⟩
          rw [evE, e1]
          simp only [mtOk, dicAt, g1, Option.isSome_some, if_true, e2, mthP, Option.bind_some, key_rt r2, h3, Option.map_some, k2 q]
          rfl
        | some d =>
          obtain ⟨v, k3, k4⟩ := k1 d q
          refine ⟨v, [], ?_, ⟨k4, rfl⟩, by simp⟩
          rw [evE, e1]
          simp only [mtOk, dicAt, g1, Option.isSome_some, if_true, e2, mthP, Option.bind_some, key_rt r2, h3, Option.map_some, k3]
          rfl
    · cases h
  | .isi a ts, t, h => by
    rw [pk] at h
    split at h
    · rename_i d h1
      obtain ⟨k, h3, rfl⟩ := Option.map_eq_some_iff.mp h
      obtain ⟨t1, q1, q2⟩ := top_b h1
      obtain ⟨v1, _, e1, r1, _⟩ := pk_ok a q1
      obtain ⟨k1, k2⟩ := ty_rt (r1.rt q2) h3
      exact ⟨.bl k, [], e_isi e1 k2 k1, ⟨.bl _, rfl⟩, by simp⟩
    · cases h
  | .fld c f o, t, h => by
    rw [pk] at h
    split at h
    · rename_i c' fs h1
      split at h
      · rename_i hc
        subst hc
        obtain ⟨v1, ns, e1, ⟨n, vs, ms, rfl, rfl, g1, g2⟩, k⟩ := pk_ok o h1
        obtain ⟨x, us, q1, q2, q3⟩ := OFR.get g2 h
        exact ⟨x, us, e_fld e1 (by simp [insAt, g1]) q1, q2, fun n hn => k n (by simp [q3 n hn])⟩
      · cases h
    · rename_i c' fs h1
      split at h
      · rename_i hc
        subst hc
        obtain ⟨d, h3, rfl⟩ := Option.map_eq_some_iff.mp h
        obtain ⟨v1, ns, e1, r1, k⟩ := pk_ok o h1
        cases r1.1 with
        | ins a b c2 r =>
          obtain ⟨x, q1, q2⟩ := look_rps c2 r h3
          exact ⟨x, [], e_fld e1 (by simp [insAt, b]) q1, ⟨q2, rfl⟩, by simp⟩
      · cases h
    · cases h
  | .sld c f i o, t, h => by
    rw [pk] at h
    split at h
    · rename_i c' fs h1
      split at h
      · rename_i hc
        subst hc
        obtain ⟨v1, ns, e1, ⟨n, vs, ms, rfl, rfl, g1, g2⟩, k⟩ := pk_ok o h1
        obtain ⟨x, us, q1, q2, q3⟩ := OSR.at g2 h
        refine ⟨x, us, ?_, q2, fun n hn => k n (by simp [q3 n hn])⟩
        rw [evE, e1]; simp [sltAt, g1, q1]
      · cases h
    · rename_i c' fs h1
      split at h
      · rename_i hc
        subst hc
        split at h
        · rename_i d h3
          cases h
          obtain ⟨v1, ns, e1, r1, k⟩ := pk_ok o h1
          cases r1.1 with
          | slt a b r =>
            obtain ⟨x, q1, q2⟩ := r.at h3
            refine ⟨x, [], ?_, ⟨q2, rfl⟩, by simp⟩
            rw [evE, e1]; simp [sltAt, b, q1]
        · cases h
      · cases h
    · cases h
  | .rev a, t, h => by
    rw [pk] at h
    split at h
    · rename_i xs h1
      cases h
      obtain ⟨v1, _, e1, r1, _⟩ := pk_ok a h1
      cases r1.1 with
      | tup w => exact ⟨_, [], by rw [evE, e1], ⟨.tup w.reverse, rfl⟩, by simp⟩
    · cases h
  | .lst _, t, h => by simp [pk] at h
  | .dnew, t, h => by simp [pk] at h
  | .dct _ _, t, h => by simp [pk] at h
  | .call _ _, t, h => by simp [pk] at h
  | .mc _ _ _ _ _, t, h => by simp [pk] at h
  | .knot _ _, t, h => by simp [pk] at h
  | .kidx _ _, t, h => by simp [pk] at h
  | .callv _ _ _, t, h => by simp [pk] at h
  | .lc _ _ _ _ _, t, h => by simp [pk] at h
  | .ssc _ _ _ _ _, t, h => by simp [pk] at h
  | .lc2 _ _ _ _ _ _ _ _ _, t, h => by simp [pk] at h
  | .callp _ _ _, t, h => by simp [pk] at h
  | .mcp _ _ _ _ _ _, t, h => by simp [pk] at h
  | .sit _, t, h => by simp [pk] at h
  | .lmc _ _ _, t, h => by simp [pk] at h
  | .calld _ _ _, t, h => by simp [pk] at h
  | .lcd _ _ _ _ _ _, t, h => by simp [pk] at h
  | .dcd _ _ _ _ _ _ _, t, h => by simp [pk] at h
  | .isc _ _, t, h => by simp [pk] at h
  | .oeq _ _ _ _, t, h => by simp [pk] at h
  | .dzip _ _, t, h => by simp [pk] at h
  | .ten _, t, h => by simp [pk] at h
theorem pks_ok : ∀ (es : Es) {ds : List D}, pks env es = some ds → ∃ vs, evEs cf es sg M = some (vs, M) ∧ Rps (Bd nss X) M vs ds
  | .nil, ds, h => by rw [pks] at h; cases h; exact ⟨[], es_nil, .nil⟩
  | .cons e r, ds, h => by
    rw [pks] at h
    split at h
    · rename_i d ds' h1 h2
      cases h
      obtain ⟨v1, _, e1, r1, _⟩ := pk_ok e h1
      obtain ⟨vs, e2, r2⟩ := pks_ok r h2
      exact ⟨v1 :: vs, es_cons e1 e2, .cons r1.1 r2⟩
    · cases h
theorem pts_ok : ∀ (es : Es) {ds : List D}, pts env es = some ds → ∃ vs, evEs cf es sg M = some (vs, M) ∧ RTs (Bd nss X) M vs ds
  | .nil, ds, h => by rw [pts] at h; cases h; exact ⟨[], es_nil, .nil⟩
  | .cons e r, ds, h => by
    rw [pts] at h
    split at h
    · rename_i d ds' h1 h2
      cases h
      obtain ⟨t1, q1, q2⟩ := top_b h1
      obtain ⟨v1, _, e1, r1, _⟩ := pk_ok e q1
      obtain ⟨vs, e2, r2⟩ := pts_ok r h2
      exact ⟨v1 :: vs, es_cons e1 e2, .cons (r1.rt q2) r2⟩
    · cases h
end
theorem pt_ok (e : E) {d : D} (h : (pk env e).bind OT.top = some d) : ∃ v, evE cf e sg M = some (v, M) ∧ RT (Bd nss X) M v d := by
  obtain ⟨t, h1, h2⟩ := top_b h
  obtain ⟨v, ns, e1, r, _⟩ := pk_ok S e h1
  exact ⟨v, e1, r.rt h2⟩
end
end Mp.V
namespace Mp.V
open PySem L2
theorem set_split {nss : List (List Nat)} {i : Nat} {us : List Nat} (h : nss[i]? = some us) : ∃ l1 l2, nss = l1 ++ us :: l2 ∧ ∀ ns, nss.set i ns = l1 ++ ns :: l2 := by
  obtain ⟨hi, e⟩ := List.getElem?_eq_some_iff.mp h
  refine ⟨nss.take i, nss.drop (i + 1), ?_, fun ns => ?_⟩
  · rw [← e]; simp
  · rw [List.set_eq_take_append_cons_drop, if_pos hi]
theorem set_mem {nss : List (List Nat)} {i : Nat} {us ns : List Nat} (h : nss[i]? = some us) {n : Nat} (hn : n ∈ (nss.set i ns).flatten) : n ∈ nss.flatten ∨ n ∈ ns := by
  obtain ⟨l1, l2, e1, e2⟩ := set_split h
  rw [e2] at hn
  rw [e1]
  simp only [List.flatten_append, List.flatten_cons, List.mem_append] at hn ⊢
  grind
theorem set_nd {nss : List (List Nat)} {i : Nat} {us ns : List Nat} (h : nss[i]? = some us) (nd : nss.flatten.Nodup) (nd2 : ns.Nodup) (hs : ∀ n ∈ ns, n ∈ us ∨ n ∉ nss.flatten) : (nss.set i ns).flatten.Nodup := by
  obtain ⟨l1, l2, e1, e2⟩ := set_split h
  rw [e2]
  rw [e1] at nd hs
  simp only [List.flatten_append, List.flatten_cons, List.nodup_append, List.mem_append] at nd hs ⊢
  obtain ⟨a, ⟨b, c, d⟩, e⟩ := nd
  refine ⟨a, ⟨nd2, c, fun x hx y hy => ?_⟩, fun x hx y hy => ?_⟩
  · rcases hs x hx with q | q
    · exact d x q y hy
    · intro z; subst z; exact q (.inr (.inr hy))
  · rcases hy with hy | hy
    · rcases hs y hy with q | q
      · exact e x hx y (.inl q)
      · intro z; subst z; exact q (.inl hx)
    · exact e x hx y (.inr hy)
theorem set_out {nss : List (List Nat)} {i : Nat} {us : List Nat} (h : nss[i]? = some us) (nd : nss.flatten.Nodup) {n : Nat} (hn : n ∈ (nss.set i []).flatten) : n ∈ nss.flatten ∧ n ∉ us := by
  obtain ⟨l1, l2, e1, e2⟩ := set_split h
  rw [e2] at hn
  rw [e1] at nd ⊢
  simp only [List.flatten_append, List.flatten_cons, List.nodup_append, List.mem_append, List.flatten_nil, List.nil_append] at nd hn ⊢
  obtain ⟨a, ⟨b, c, d⟩, e⟩ := nd
  rcases hn with q | q
  · exact ⟨.inl q, fun z => e n q n (.inl z) rfl⟩
  · exact ⟨.inr (.inr q), fun z => d n z n q rfl⟩
theorem SR.lt {sg : Sg} {M : Mm} {env : Env} {nss : List (List Nat)} {X : Nat → Prop} (S : SR sg M env nss X) : ∀ n ∈ nss.flatten, n < M.length := fun n hn => by
  obtain ⟨ns, h1, h2⟩ := List.mem_flatten.mp hn
  obtain ⟨i, hi⟩ := List.mem_iff_getElem?.mp h1
  have hl : i < env.length := by rw [← S.nl]; exact (List.getElem?_eq_some_iff.mp hi).1
  cases e : env[i]? with
  | none => rw [List.getElem?_eq_none_iff] at e; omega
  | some o =>
    cases o with
    | none => rw [S.no i e] at hi; cases hi; cases h2
    | some t =>
      obtain ⟨x, ns', _, q1, q2⟩ := S.at_ i t e
      rw [hi] at q1; cases q1
      exact q2.lt n h2
theorem SR.set {sg : Sg} {M : Mm} {env : Env} {nss : List (List Nat)} {X X' : Nat → Prop} (S : SR sg M env nss X') {i : Nat} {t : OT} {v : PV} {ns us : List Nat} (hu : nss[i]? = some us) (hv : OR (Bd nss X') M t v ns) (nd : ns.Nodup) (h1 : ∀ n ∈ ns, X' n ∨ n ∈ us) (h2 : ∀ n ∈ ns, ¬ X n) (hX : ∀ n, X n → X' n) : SR (sg.set i (some v)) M (env.set i (some t)) (nss.set i ns) X := by
  have hi : i < nss.length := (List.getElem?_eq_some_iff.mp hu).1
  have st : Stp (Bd nss X') (Bd (nss.set i ns) X) M M := fun n o a b => ⟨fun z => a (by
    rcases z with z | z
    · rcases set_mem hu z with q | q
      · exact .inl q
      · rcases h1 n q with w | w
        · exact .inr w
        · exact .inl (mem_fl hu n w)
    · exact .inr (hX n z)), b⟩
  refine ⟨by simp [S.len], by simp [S.nl], fun j u e => ?_, fun j e => ?_, ?_, fun n hn => ?_, fun n hn => S.xl n (hX n hn)⟩
  · by_cases hj : i = j
    · subst hj
      rw [List.getElem?_set_self (by rw [← S.nl]; exact hi)] at e
      cases e
      exact ⟨v, ns, List.getElem?_set_self (by rw [S.len, ← S.nl]; exact hi), List.getElem?_set_self hi, hv.step ⟨st, fun n _ o h => h⟩⟩
    · rw [List.getElem?_set_ne hj] at e
      obtain ⟨x, ms, a, b, c⟩ := S.at_ j u e
      exact ⟨x, ms, by rw [List.getElem?_set_ne hj]; exact a, by rw [List.getElem?_set_ne hj]; exact b, c.step ⟨st, fun n _ o h => h⟩⟩
  · by_cases hj : i = j
    · subst hj
      rw [List.getElem?_set_self (by rw [← S.nl]; exact hi)] at e
      cases e
    · rw [List.getElem?_set_ne hj] at e ⊢
      exact S.no j e
  · refine set_nd hu S.nd nd fun n hn => ?_
    rcases h1 n hn with q | q
    · exact .inr fun z => S.dj n z q
    · exact .inl q
  · rcases set_mem hu hn with q | q
    · exact fun z => S.dj n q (hX n z)
    · exact h2 n q
theorem SR.wipe {sg : Sg} {M : Mm} {env : Env} {nss : List (List Nat)} {X : Nat → Prop} (S : SR sg M env nss X) {i : Nat} {us : List Nat} (hu : nss[i]? = some us) (o : Option PV) : SR (sg.set i o) M (env.set i none) (nss.set i []) X := by
  have hi : i < nss.length := (List.getElem?_eq_some_iff.mp hu).1
  have st : Stp (Bd nss X) (Bd (nss.set i []) X) M M := fun n o a b => ⟨fun z => a (by
    rcases z with z | z
    · exact .inl (set_out hu S.nd z).1
    · exact .inr z), b⟩
  refine ⟨by simp [S.len], by simp [S.nl], fun j u e => ?_, fun j e => ?_, ?_, fun n hn => ?_, S.xl⟩
  · by_cases hj : i = j
    · subst hj
      rw [List.getElem?_set_self (by rw [← S.nl]; exact hi)] at e
      cases e
    · rw [List.getElem?_set_ne hj] at e
      obtain ⟨x, ms, a, b, c⟩ := S.at_ j u e
      exact ⟨x, ms, by rw [List.getElem?_set_ne hj]; exact a, by rw [List.getElem?_set_ne hj]; exact b, c.step ⟨st, fun n _ o h => h⟩⟩
  · by_cases hj : i = j
    · subst hj
      rw [List.getElem?_set_self hi]
    · rw [List.getElem?_set_ne hj] at e ⊢
      exact S.no j e
  · exact set_nd hu S.nd (by simp) (by simp)
  · exact S.dj n (set_out hu S.nd hn).1
theorem SR.mono {sg : Sg} {M : Mm} {env : Env} {nss : List (List Nat)} {X X' : Nat → Prop} (S : SR sg M env nss X') (hX : ∀ n, X n → X' n) : SR sg M env nss X := by
  have st : Stp (Bd nss X') (Bd nss X) M M := fun n o a b => ⟨fun z => a (z.imp id (hX n)), b⟩
  exact ⟨S.len, S.nl, fun j u e => by
    obtain ⟨x, ms, a, b, c⟩ := S.at_ j u e
    exact ⟨x, ms, a, b, c.step ⟨st, fun n _ o h => h⟩⟩, S.no, S.nd, fun n hn z => S.dj n hn (hX n z), fun n hn => S.xl n (hX n hn)⟩
theorem SR.mem {sg : Sg} {M M' : Mm} {env : Env} {nss : List (List Nat)} {X X' : Nat → Prop} (S : SR sg M env nss X) (hM : ∀ (n : Nat) (o : Ob), ¬ X n → M[n]? = some o → M'[n]? = some o) (hl : M.length ≤ M'.length) (hX : ∀ n, X' n → X n ∨ M.length ≤ n) (hx : ∀ n, X' n → n < M'.length) : SR sg M' env nss X' := by
  have st : Stp (Bd nss X) (Bd nss X') M M' := fun n o a b => ⟨fun z => a (z.imp id fun w => (hX n w).elim id fun q => by have := (List.getElem?_eq_some_iff.mp b).1; omega), hM n o (fun z => a (.inr z)) b⟩
  refine ⟨S.len, S.nl, fun j u e => ?_, S.no, S.nd, fun n hn z => ?_, hx⟩
  · obtain ⟨x, ms, a, b, c⟩ := S.at_ j u e
    exact ⟨x, ms, a, b, c.step ⟨st, fun n hn o h => hM n o (S.dj n (mem_fl b n hn)) h⟩⟩
  · rcases hX n z with q | q
    · exact S.dj n hn q
    · have := S.lt n hn; omega
theorem SR.free {sg : Sg} {M : Mm} {env : Env} {nss : List (List Nat)} {X : Nat → Prop} (S : SR sg M env nss X) {i : Nat} {t : OT} {d : D} (e : env[i]? = some (some t)) (hd : t.toD = some d) : ∃ x nss', sg[i]? = some (some x) ∧ SR sg M (env.set i (some (.v d))) nss' X ∧ Rp (Bd nss' X) M x d ∧ (∀ n ∈ nss'.flatten, n ∈ nss.flatten) := by
  obtain ⟨x, ns, h1, h2, h3⟩ := S.at_ i t e
  have hr : Rp (Bd (nss.set i []) X) M x d := h3.free hd fun n z => by
    rcases z with z | z
    · exact ⟨.inl (set_out h2 S.nd z).1, (set_out h2 S.nd z).2⟩
    · exact ⟨.inr z, fun w => S.dj n (mem_fl h2 n w) z⟩
  have hs : sg.set i (some x) = sg := by
    refine List.ext_getElem? fun j => ?_
    by_cases hj : i = j
    · subst hj; rw [List.getElem?_set_self (List.getElem?_eq_some_iff.mp h1).1, h1]
    · rw [List.getElem?_set_ne hj]
  have W := S.wipe h2 (some x)
  have hi : i < nss.length := (List.getElem?_eq_some_iff.mp h2).1
  have P := W.set (X := X) (i := i) (t := .v d) (v := x) (ns := []) (us := []) (by rw [List.getElem?_set_self hi]) ⟨hr, rfl⟩ (by simp) (by simp) (by simp) (fun _ h => h)
  rw [List.set_set, List.set_set, List.set_set, hs] at P
  exact ⟨x, nss.set i [], h1, P, hr, fun n hn => (set_out h2 S.nd hn).1⟩
def ORs (B : Nat → Prop) (M : Mm) : List OT → List PV → List (List Nat) → Prop
  | [], [], [] => True
  | t :: ts, v :: vs, m :: ms => OR B M t v m ∧ ORs B M ts vs ms
  | _, _, _ => False
theorem ORs.step {B B' : Nat → Prop} {M M' : Mm} : ∀ {ts : List OT} {vs : List PV} {ms : List (List Nat)}, Stt B B' M M' ms.flatten → ORs B M ts vs ms → ORs B' M' ts vs ms
  | [], [], [], _, _ => trivial
  | _ :: _, _ :: _, _ :: _, s, ⟨a, b⟩ => ⟨a.step (s.sub fun n hn => by simp [hn]), ORs.step (s.sub fun n hn => by simp at hn ⊢; exact .inr hn) b⟩
  | [], [], _ :: _, _, h => h.elim
  | [], _ :: _, _, _, h => h.elim
  | _ :: _, [], _, _, h => h.elim
  | _ :: _, _ :: _, [], _, h => h.elim
structure ERs (A : Bool) (sg : Sg) (M : Mm) (env : Env) (nss : List (List Nat)) (X : Nat → Prop) (vs : List PV) (M' : Mm) (ts : List OT) (mss : List (List Nat)) (env' : Env) (nss' : List (List Nat)) : Prop where
  sr : SR sg M' env' nss' (fun n => X n ∨ n ∈ mss.flatten)
  or : ORs (Bd nss' (fun n => X n ∨ n ∈ mss.flatten)) M' ts vs mss
  nd : mss.flatten.Nodup
  mx : ∀ n ∈ mss.flatten, ¬ X n
  nw : ∀ n, n ∈ mss.flatten ∨ n ∈ nss'.flatten → n ∈ nss.flatten ∨ M.length ≤ n
  fr : ∀ i, i < M.length → i ∉ nss.flatten → M'[i]? = M[i]?
  le : M.length ≤ M'.length
  al : A = true → env' = env ∧ nss' = nss ∧ ∀ i, i < M.length → M'[i]? = M[i]?
def HEs (A : Bool) (cf : CF) (es : Es) (env : Env) (Q : List OT → Env → Prop) : Prop := ∀ (sg : Sg) (M : Mm) (nss : List (List Nat)) (X : Nat → Prop), SR sg M env nss X → ∃ vs M' ts mss env' nss', evEs cf es sg M = some (vs, M') ∧ ERs A sg M env nss X vs M' ts mss env' nss' ∧ Q ts env'
def HE (A : Bool) (cf : CF) (e : E) (env : Env) (Q : OT → Env → Prop) : Prop := ∀ (sg : Sg) (M : Mm) (nss : List (List Nat)) (X : Nat → Prop), SR sg M env nss X → ∃ v M' t ns env' nss', evE cf e sg M = some (v, M') ∧ ERs A sg M env nss X [v] M' [t] [ns] env' nss' ∧ Q t env'
section
variable {A : Bool} {cf : CF} {env : Env} {e a b c : E} {es : Es}
theorem HE.mono {Q Q' : OT → Env → Prop} (h : HE A cf e env Q) (hq : ∀ t env', Q t env' → Q' t env') : HE A cf e env Q' := fun sg M nss X S => by
  obtain ⟨v, M', t, ns, env', nss', h1, h2, h3⟩ := h sg M nss X S
  exact ⟨v, M', t, ns, env', nss', h1, h2, hq _ _ h3⟩
theorem HEs.mono {Q Q' : List OT → Env → Prop} (h : HEs A cf es env Q) (hq : ∀ t env', Q t env' → Q' t env') : HEs A cf es env Q' := fun sg M nss X S => by
  obtain ⟨v, M', t, ns, env', nss', h1, h2, h3⟩ := h sg M nss X S
  exact ⟨v, M', t, ns, env', nss', h1, h2, hq _ _ h3⟩
theorem SR.nil {sg : Sg} {M : Mm} {nss : List (List Nat)} {X : Nat → Prop} (S : SR sg M env nss X) : SR sg M env nss (fun n => X n ∨ n ∈ ([[]] : List (List Nat)).flatten) := S.mono fun n h => by simpa using h
theorem ers_v {sg : Sg} {M : Mm} {nss : List (List Nat)} {X : Nat → Prop} (S : SR sg M env nss X) {v : PV} {d : D} (h : Rp (Bd nss X) M v d) : ERs A sg M env nss X [v] M [.v d] [[]] env nss :=
  ⟨S.nil, ⟨⟨h.step fun n o p q => ⟨fun z => p (z.imp id fun w => by simpa using w), q⟩, rfl⟩, trivial⟩, by simp, by simp, fun n hn => .inl (by simpa using hn), fun _ _ _ => rfl, Nat.le_refl _, fun _ => ⟨rfl, rfl, fun _ _ => rfl⟩⟩
theorem h_pk {d : D} {Q : OT → Env → Prop} (h : pk env e = some (.v d)) (q : Q (.v d) env) : HE A cf e env Q := fun sg M nss X S => by
  obtain ⟨v, ns, h1, h2, _⟩ := pk_ok (cf := cf) S e h
  exact ⟨v, M, .v d, [], env, nss, h1, ers_v S h2.1, q⟩
theorem h_free {i : Nat} {t : OT} {d : D} {Q : OT → Env → Prop} (h : env[i]? = some (some t)) (hd : t.toD = some d) (q : Q (.v d) (env.set i (some (.v d)))) : HE false cf (.var i) env Q := fun sg M nss X S => by
  obtain ⟨x, nss', h1, h2, h3, h4⟩ := S.free h hd
  have r := ers_v (A := false) h2 h3
  exact ⟨x, M, .v d, [], _, nss', e_var h1, ⟨r.sr, r.or, r.nd, r.mx, fun n hn => .inl (h4 n (by simpa using hn)), fun _ _ _ => rfl, r.le, fun z => by cases z⟩, q⟩
theorem hes_nil {Q : List OT → Env → Prop} (q : Q [] env) : HEs A cf .nil env Q := fun sg M nss X S =>
  ⟨[], M, [], [], env, nss, es_nil, ⟨S.mono fun n h => by simpa using h, trivial, by simp, by simp, fun n hn => .inl (by simpa using hn), fun _ _ _ => rfl, Nat.le_refl _, fun _ => ⟨rfl, rfl, fun _ _ => rfl⟩⟩, q⟩
theorem hes_cons {r : Es} {Q : List OT → Env → Prop} (h : HE A cf e env fun t env1 => HEs A cf r env1 fun ts env2 => Q (t :: ts) env2) : HEs A cf (.cons e r) env Q := fun sg M nss X S => by
  obtain ⟨v, M1, t, ns, env1, nss1, e1, R1, q1⟩ := h sg M nss X S
  obtain ⟨vs, M2, ts, mss, env2, nss2, e2, R2, q2⟩ := q1 sg M1 nss1 _ R1.sr
  have hns : ∀ n ∈ ns, n < M1.length := fun n hn => R1.sr.xl n (.inr (by simpa using hn))
  have hk : ∀ n ∈ ns, M2[n]? = M1[n]? := fun n hn => R2.fr n (hns n hn) fun z => R1.sr.dj n z (.inr (by simpa using hn))
  have eqX : ∀ n, ((X n ∨ n ∈ ([ns] : List (List Nat)).flatten) ∨ n ∈ mss.flatten) ↔ (X n ∨ n ∈ (ns :: mss).flatten) := fun n => by
    simp only [List.flatten_cons, List.flatten_nil, List.append_nil, List.mem_append]
    grind
  refine ⟨v :: vs, M2, t :: ts, ns :: mss, env2, nss2, es_cons e1 e2, ⟨R2.sr.mono fun n hn => (eqX n).mpr hn, ⟨?_, ?_⟩, ?_, fun n hn => ?_, fun n hn => ?_, fun i h1 h2 => ?_, Nat.le_trans R1.le R2.le, fun hA => ?_⟩, q2⟩
  · refine R1.or.1.step ⟨fun n o a b => ⟨fun z => ?_, ?_⟩, fun n hn o h => by rw [hk n hn]; exact h⟩
    · rcases z with z | z
      · rcases R2.nw n (.inr z) with q | q
        · exact a (.inl q)
        · have := (List.getElem?_eq_some_iff.mp b).1; omega
      · rcases (eqX n).mpr z with z | z
        · exact a (.inr z)
        · rcases R2.nw n (.inl z) with q | q
          · exact a (.inl q)
          · have := (List.getElem?_eq_some_iff.mp b).1; omega
    · rw [R2.fr n (List.getElem?_eq_some_iff.mp b).1 fun z => a (.inl z)]; exact b
  · refine R2.or.step ⟨fun n o a b => ⟨fun z => a ?_, b⟩, fun n _ o h => h⟩
    rcases z with z | z
    · exact .inl z
    · exact .inr ((eqX n).mpr z)
  · rw [List.flatten_cons, List.nodup_append]
    refine ⟨by simpa using R1.nd, R2.nd, fun x hx y hy z => ?_⟩
    subst z
    exact R2.mx x hy (.inr (by simpa using hx))
  · rw [List.flatten_cons, List.mem_append] at hn
    rcases hn with q | q
    · exact R1.mx n (by simpa using q)
    · exact fun z => R2.mx n q (.inl z)
  · have : (n ∈ ns ∨ n ∈ mss.flatten) ∨ n ∈ nss2.flatten := by simpa using hn
    have key : n ∈ nss1.flatten → n ∈ nss.flatten ∨ M.length ≤ n := fun z => R1.nw n (.inr z)
    have hl := R1.le
    rcases this with (q | q) | q
    · exact R1.nw n (.inl (by simpa using q))
    · rcases R2.nw n (.inl q) with w | w
      · exact key w
      · exact .inr (by omega)
    · rcases R2.nw n (.inr q) with w | w
      · exact key w
      · exact .inr (by omega)
  · have hl := R1.le
    rw [R2.fr i (by omega) fun z => by
      rcases R1.nw i (.inr z) with q | q
      · exact h2 q
      · omega]
    exact R1.fr i h1 h2
  · obtain ⟨a1, a2, a3⟩ := R1.al hA
    obtain ⟨b1, b2, b3⟩ := R2.al hA
    exact ⟨b1.trans a1, b2.trans a2, fun i hi => (b3 i (Nat.lt_of_lt_of_le hi R1.le)).trans (a3 i hi)⟩
theorem he_one {Q : OT → Env → Prop} (h : HE A cf e env Q) : HEs A cf (.cons e .nil) env fun ts env' => ∃ t, ts = [t] ∧ Q t env' :=
  hes_cons (h.mono fun t env1 q => hes_nil ⟨t, rfl, q⟩)
theorem he_two {Q : OT → OT → Env → Prop} (h : HE A cf a env fun t env1 => HE A cf b env1 fun u env2 => Q t u env2) : HEs A cf (.cons a (.cons b .nil)) env fun ts env' => ∃ t u, ts = [t, u] ∧ Q t u env' :=
  hes_cons (h.mono fun t env1 q => hes_cons (q.mono fun u env2 q2 => hes_nil ⟨t, u, rfl, q2⟩))
theorem ERs.val {sg : Sg} {M M' : Mm} {nss nss' : List (List Nat)} {X : Nat → Prop} {vs : List PV} {ts : List OT} {mss : List (List Nat)} {env' : Env} (R : ERs A sg M env nss X vs M' ts mss env' nss') {v : PV} {d : D} (h : Rp (Bd nss' fun n => X n ∨ n ∈ mss.flatten) M' v d) : ERs A sg M env nss X [v] M' [.v d] [[]] env' nss' := by
  have r := ers_v (A := true) (R.sr.mono fun n hn => .inl hn) (v := v) (d := d) (X := X) (h.step fun n o a b => ⟨fun z => a (z.imp id .inl), b⟩)
  exact ⟨r.sr, r.or, r.nd, r.mx, fun n hn => R.nw n (hn.imp (by simp) id), R.fr, R.le, R.al⟩
theorem ORs.tops {B : Nat → Prop} {M : Mm} : ∀ {ts : List OT} {vs : List PV} {ms : List (List Nat)} {ds : List D}, ORs B M ts vs ms → ts.mapM OT.top = some ds → RTs B M vs ds
  | [], [], [], ds, _, e => by cases e; exact .nil
  | t :: ts, v :: vs, m :: ms, ds, ⟨a, b⟩, e => by
    rw [List.mapM_cons] at e
    obtain ⟨d, h1, h2⟩ := Option.bind_eq_some_iff.mp e
    obtain ⟨ds', h3, h4⟩ := Option.bind_eq_some_iff.mp h2
    cases h4
    exact .cons (a.rt h1) (ORs.tops b h3)
  | [], [], _ :: _, _, h, _ => h.elim
  | [], _ :: _, _, _, h, _ => h.elim
  | _ :: _, [], _, _, h, _ => h.elim
  | _ :: _, _ :: _, [], _, h, _ => h.elim
theorem ORs.frees {B B' : Nat → Prop} {M : Mm} : ∀ {ts : List OT} {vs : List PV} {ms : List (List Nat)} {ds : List D}, ORs B M ts vs ms → ts.mapM OT.toD = some ds → (∀ n, B' n → B n ∧ n ∉ ms.flatten) → Rps B' M vs ds
  | [], [], [], ds, _, e, _ => by cases e; exact .nil
  | t :: ts, v :: vs, m :: ms, ds, ⟨a, b⟩, e, h => by
    rw [List.mapM_cons] at e
    obtain ⟨d, h1, h2⟩ := Option.bind_eq_some_iff.mp e
    obtain ⟨ds', h3, h4⟩ := Option.bind_eq_some_iff.mp h2
    cases h4
    exact .cons (a.free h1 fun n hn => ⟨(h n hn).1, fun z => (h n hn).2 (by simp [z])⟩) (ORs.frees b h3 fun n hn => ⟨(h n hn).1, fun z => (h n hn).2 (by simp at z ⊢; exact .inr z)⟩)
  | [], [], _ :: _, _, h, _, _ => h.elim
  | [], _ :: _, _, _, h, _, _ => h.elim
  | _ :: _, [], _, _, h, _, _ => h.elim
  | _ :: _, _ :: _, [], _, h, _, _ => h.elim
end
end Mp.V
namespace Mp.V
open PySem L2
section
variable {cf : CF} {sg : Sg} {M M' : Mm} {e r a b c : E} {es : Es} {vs : List PV}
theorem RTs.one {B : Nat → Prop} {v : PV} {ds : List D} (h : RTs B M [v] ds) : ∃ x, ds = [x] ∧ RT B M v x := by
  cases h with
  | cons a r => cases r; exact ⟨_, rfl, a⟩
theorem RTs.two {B : Nat → Prop} {v w : PV} {ds : List D} (h : RTs B M [v, w] ds) : ∃ x y, ds = [x, y] ∧ RT B M v x ∧ RT B M w y := by
  cases h with
  | cons a r => cases r with
    | cons b r => cases r; exact ⟨_, _, rfl, a, b⟩
theorem es_inv {r : Es} (h : evEs cf (.cons e r) sg M = some (vs, M')) : ∃ v M1 vs', evE cf e sg M = some (v, M1) ∧ evEs cf r sg M1 = some (vs', M') ∧ vs = v :: vs' := by
  rw [evEs] at h
  split at h
  · rename_i v M1 h1
    split at h
    · rename_i vs' M2 h2
      cases h
      exact ⟨v, M1, vs', h1, h2, rfl⟩
    · cases h
  · cases h
theorem nil_inv (h : evEs cf .nil sg M = some (vs, M')) : vs = [] ∧ M' = M := by rw [evEs] at h; cases h; exact ⟨rfl, rfl⟩
theorem one_inv (h : evEs cf (.cons a .nil) sg M = some (vs, M')) : ∃ v, evE cf a sg M = some (v, M') ∧ vs = [v] := by
  obtain ⟨v, M1, vs', h1, h2, rfl⟩ := es_inv h
  obtain ⟨rfl, rfl⟩ := nil_inv h2
  exact ⟨v, h1, rfl⟩
theorem two_inv (h : evEs cf (.cons a (.cons b .nil)) sg M = some (vs, M')) : ∃ v M1 w, evE cf a sg M = some (v, M1) ∧ evE cf b sg M1 = some (w, M') ∧ vs = [v, w] := by
  obtain ⟨v, M1, vs', h1, h2, rfl⟩ := es_inv h
  obtain ⟨w, h3, rfl⟩ := one_inv h2
  exact ⟨v, M1, w, h1, h3, rfl⟩
end
section
variable {A : Bool} {cf : CF} {env : Env} {e a b c : E} {es : Es} {Q : OT → Env → Prop}
theorem ERs.frees {sg : Sg} {M M' : Mm} {nss nss' : List (List Nat)} {X : Nat → Prop} {vs : List PV} {ts : List OT} {mss : List (List Nat)} {env' : Env} (R : ERs A sg M env nss X vs M' ts mss env' nss') {ds : List D} (h : ts.mapM OT.toD = some ds) : Rps (Bd nss' X) M' vs ds :=
  R.or.frees h fun n hn => by
    rcases hn with q | q
    · exact ⟨.inl q, fun z => R.sr.dj n q (.inr z)⟩
    · exact ⟨.inr (.inl q), fun z => R.mx n z q⟩
theorem ERs.tops {sg : Sg} {M M' : Mm} {nss nss' : List (List Nat)} {X : Nat → Prop} {vs : List PV} {ts : List OT} {mss : List (List Nat)} {env' : Env} (R : ERs A sg M env nss X vs M' ts mss env' nss') {ds : List D} (h : ts.mapM OT.top = some ds) : RTs (Bd nss' fun n => X n ∨ n ∈ mss.flatten) M' vs ds := R.or.tops h
theorem ERs.newO {sg : Sg} {M M' : Mm} {nss nss' : List (List Nat)} {X : Nat → Prop} {vs : List PV} {ts : List OT} {mss : List (List Nat)} {env' : Env} (R : ERs A sg M env nss X vs M' ts mss env' nss') {o : Ob} {t : OT} (h : ∀ B : Nat → Prop, Stp (Bd nss' X) B M' (M' ++ [o]) → OR B (M' ++ [o]) t (.ref M'.length) [M'.length]) : ERs A sg M env nss X [.ref M'.length] (M' ++ [o]) [t] [[M'.length]] env' nss' := by
  have S1 : SR sg M' env' nss' X := R.sr.mono fun n hn => .inl hn
  have ap : ∀ (n : Nat) (x : Ob), M'[n]? = some x → (M' ++ [o])[n]? = some x := fun n x h => by rw [List.getElem?_append_left (List.getElem?_eq_some_iff.mp h).1]; exact h
  have hfl : ∀ n, n ∈ ([[M'.length]] : List (List Nat)).flatten ↔ n = M'.length := fun n => by simp
  refine ⟨S1.mem (fun n x _ h => ap n x h) (by simp) (fun n hn => hn.imp id fun z => by rw [(hfl n).mp z]; exact Nat.le_refl _) fun n hn => ?_, ⟨h _ fun n x h1 h2 => ⟨fun z => h1 ?_, ap n x h2⟩, trivial⟩, by simp, fun n hn z => ?_, fun n hn => ?_, fun i h1 h2 => ?_, by have := R.le; simp; omega, fun hA => ?_⟩
  · rcases hn with q | q
    · have := S1.xl n q; simp; omega
    · rw [(hfl n).mp q]; simp
  · rcases z with z | z | z
    · exact .inl z
    · exact .inr z
    · rw [(hfl n).mp z] at h2
      have := (List.getElem?_eq_some_iff.mp h2).1
      omega
  · rw [(hfl n).mp hn] at z
    have := S1.xl _ z
    omega
  · rcases hn with q | q
    · rw [(hfl n).mp q]; exact .inr R.le
    · exact R.nw n (.inr q)
  · rw [List.getElem?_append_left (Nat.lt_of_lt_of_le h1 R.le)]; exact R.fr i h1 h2
  · obtain ⟨a1, a2, a3⟩ := R.al hA
    exact ⟨a1, a2, fun i hi => by rw [List.getElem?_append_left (Nat.lt_of_lt_of_le hi R.le)]; exact a3 i hi⟩
theorem ERs.newL {sg : Sg} {M M' : Mm} {nss nss' : List (List Nat)} {X : Nat → Prop} {vs : List PV} {ts : List OT} {mss : List (List Nat)} {env' : Env} (R : ERs A sg M env nss X vs M' ts mss env' nss') {xs : List PV} {ds : List D} (h : Rps (Bd nss' X) M' xs ds) : ERs A sg M env nss X [.ref M'.length] (M' ++ [.lst xs]) [.ol ds] [[M'.length]] env' nss' :=
  R.newO fun B s => ⟨M'.length, xs, rfl, rfl, by simp, h.step s⟩
theorem ERs.newD {sg : Sg} {M M' : Mm} {nss nss' : List (List Nat)} {X : Nat → Prop} {vs : List PV} {ts : List OT} {mss : List (List Nat)} {env' : Env} (R : ERs A sg M env nss X vs M' ts mss env' nss') {xs : List (Key × PV)} {ds : List (Key × D)} (hk : xs.map (·.1) = ds.map (·.1)) (h : Rps (Bd nss' X) M' (xs.map (·.2)) (ds.map (·.2))) : ERs A sg M env nss X [.ref M'.length] (M' ++ [.dic xs]) [.od ds] [[M'.length]] env' nss' :=
  R.newO fun B s => ⟨M'.length, xs, rfl, rfl, by simp, hk, h.step s⟩
theorem ers_nil {sg : Sg} {M : Mm} {nss : List (List Nat)} {X : Nat → Prop} (S : SR sg M env nss X) : ERs A sg M env nss X [] M [] [] env nss :=
  ⟨S.mono fun n h => by simpa using h, trivial, by simp, by simp, fun n hn => .inl (by simpa using hn), fun _ _ _ => rfl, Nat.le_refl _, fun _ => ⟨rfl, rfl, fun _ _ => rfl⟩⟩
theorem h_tops {F : List D → Option D} (h : HEs A cf es env fun ts env1 => ∃ ds d, ts.mapM OT.top = some ds ∧ F ds = some d ∧ Q (.v d) env1)
    (k : ∀ (sg : Sg) (M : Mm) (vs : List PV) (M' : Mm) (B : Nat → Prop) (ds : List D) (d : D), evEs cf es sg M = some (vs, M') → RTs B M' vs ds → F ds = some d → ∃ v, evE cf e sg M = some (v, M') ∧ Rp B M' v d) : HE A cf e env Q := fun sg M nss X S => by
  obtain ⟨vs, M', ts, mss, env', nss', e1, R, ds, d, h1, h2, h3⟩ := h sg M nss X S
  obtain ⟨v, e2, r⟩ := k sg M vs M' _ ds d e1 (R.tops h1) h2
  exact ⟨v, M', .v d, [], env', nss', e2, R.val r, h3⟩
theorem rt_bop {B : Nat → Prop} {M : Mm} {o : Bo} {v w : PV} {x y z : D} (ha : RT B M v x) (hb : RT B M w y) (e : dbop o x y = some z) : ∃ u, bopP M o v w = some (u, M) ∧ Rp B M u z := by
  refine dbop_ok (Rp.rtE ha ?_ ?_) (Rp.rtE hb ?_ ?_) e <;> (intro ds q; subst q; cases o <;> first | (simp [dbop] at e; done) | (cases x <;> simp [dbop] at e))
theorem h_bop {o : Bo} (h : HE A cf a env fun t env1 => HE A cf b env1 fun u env2 => ∃ x y z, t.top = some x ∧ u.top = some y ∧ dbop o x y = some z ∧ Q (.v z) env2) : HE A cf (.bop o a b) env Q := by
  refine h_tops (F := fun ds => match ds with | [x, y] => dbop o x y | _ => none) ((he_two h).mono fun ts env' => ?_) fun sg M vs M' B ds d e1 r e2 => ?_
  · rintro ⟨t, u, rfl, x, y, z, h1, h2, h3, h4⟩
    exact ⟨[x, y], z, by simp [h1, h2], h3, h4⟩
  · obtain ⟨v, M1, w, q1, q2, rfl⟩ := two_inv e1
    obtain ⟨x, y, rfl, r1, r2⟩ := r.two
    obtain ⟨u, q3, q4⟩ := rt_bop r1 r2 e2
    exact ⟨u, e_bop q1 q2 q3, q4⟩
theorem h_cmp {o : Co} (h : HE A cf a env fun t env1 => HE A cf b env1 fun u env2 => ∃ x y k, t.top = some x ∧ u.top = some y ∧ dcmp o x y = some k ∧ Q (.v (.bl k)) env2) : HE A cf (.cmp o a b) env Q := by
  refine h_tops (F := fun ds => match ds with | [x, y] => (dcmp o x y).map .bl | _ => none) ((he_two h).mono fun ts env' => ?_) fun sg M vs M' B ds d e1 r e2 => ?_
  · rintro ⟨t, u, rfl, x, y, z, h1, h2, h3, h4⟩
    exact ⟨[x, y], .bl z, by simp [h1, h2], by simp [h3], h4⟩
  · obtain ⟨v, M1, w, q1, q2, rfl⟩ := two_inv e1
    obtain ⟨x, y, rfl, r1, r2⟩ := r.two
    obtain ⟨k, q3, rfl⟩ := Option.map_eq_some_iff.mp e2
    exact ⟨.bl k, e_cmp q1 q2 (dcmp_ok r1 r2 q3), .bl k⟩
theorem h_idx (h : HE A cf a env fun t env1 => HE A cf b env1 fun u env2 => ∃ x y d, t.top = some x ∧ u.top = some y ∧ didx x y = some d ∧ Q (.v d) env2) : HE A cf (.idx a b) env Q := by
  refine h_tops (F := fun ds => match ds with | [x, y] => didx x y | _ => none) ((he_two h).mono fun ts env' => ?_) fun sg M vs M' B ds d e1 r e2 => ?_
  · rintro ⟨t, u, rfl, x, y, z, h1, h2, h3, h4⟩
    exact ⟨[x, y], z, by simp [h1, h2], h3, h4⟩
  · obtain ⟨v, M1, w, q1, q2, rfl⟩ := two_inv e1
    obtain ⟨x, y, rfl, r1, r2⟩ := r.two
    obtain ⟨u, q3, q4⟩ := didx_ok r1 r2 e2
    exact ⟨u, e_idx q1 q2 q3, q4⟩
theorem h_blt {o : Mp.B} (h : HEs A cf es env fun ts env1 => ∃ ds d, ts.mapM OT.top = some ds ∧ dblt o ds = some d ∧ Q (.v d) env1) : HE A cf (.blt o es) env Q :=
  h_tops (F := dblt o) h fun sg M vs M' B ds d e1 r e2 => by
    obtain ⟨v, q1, q2⟩ := dblt_ok r e2
    exact ⟨v, e_blt e1 q1, q2⟩
theorem h_not (h : HE A cf a env fun t env1 => ∃ k, t = .v (.bl k) ∧ Q (.v (.bl (!k))) env1) : HE A cf (.not a) env Q := by
  refine h_tops (F := fun ds => match ds with | [.bl k] => some (.bl (!k)) | _ => none) ((he_one h).mono fun us env' => ?_) fun sg M vs M' B ds d e1 r e2 => ?_
  · rintro ⟨t, rfl, k, rfl, h3⟩
    exact ⟨[.bl k], .bl (!k), rfl, rfl, h3⟩
  · obtain ⟨v, q1, rfl⟩ := one_inv e1
    obtain ⟨x, rfl, r1⟩ := r.one
    split at e2
    · rename_i k q; cases q; cases e2; cases r1; exact ⟨_, e_not q1, .bl _⟩
    · cases e2
theorem ERs.seq {sg : Sg} {M M1 M2 : Mm} {nss nss1 nss2 : List (List Nat)} {X : Nat → Prop} {vs ws : List PV} {ts us : List OT} {mss kss : List (List Nat)} {env1 env2 : Env} (R1 : ERs A sg M env nss X vs M1 ts mss env1 nss1) (R2 : ERs A sg M1 env1 nss1 X ws M2 us kss env2 nss2) : ERs A sg M env nss X ws M2 us kss env2 nss2 := by
  have key : ∀ n, n ∈ nss1.flatten → n ∈ nss.flatten ∨ M.length ≤ n := fun n z => R1.nw n (.inr z)
  have hl := R1.le
  refine ⟨R2.sr, R2.or, R2.nd, R2.mx, fun n hn => ?_, fun i h1 h2 => ?_, Nat.le_trans R1.le R2.le, fun hA => ?_⟩
  · rcases R2.nw n hn with q | q
    · exact key n q
    · exact .inr (by omega)
  · rw [R2.fr i (by omega) fun z => by
      rcases key i z with q | q
      · exact h2 q
      · omega]
    exact R1.fr i h1 h2
  · obtain ⟨a1, a2, a3⟩ := R1.al hA
    obtain ⟨b1, b2, b3⟩ := R2.al hA
    exact ⟨b1.trans a1, b2.trans a2, fun i hi => (b3 i (by omega)).trans (a3 i hi)⟩
theorem ERs.dropped {sg : Sg} {M M1 : Mm} {nss nss1 : List (List Nat)} {X : Nat → Prop} {vs : List PV} {ts : List OT} {mss : List (List Nat)} {env1 : Env} (R1 : ERs A sg M env nss X vs M1 ts mss env1 nss1) : SR sg M1 env1 nss1 X := R1.sr.mono fun n hn => .inl hn
theorem h_and (h : HE A cf a env fun t env1 => (t = .v (.bl true) ∧ HE A cf b env1 Q) ∨ (t = .v (.bl false) ∧ Q (.v (.bl false)) env1)) : HE A cf (.and a b) env Q := fun sg M nss X S => by
  obtain ⟨v, M1, t, ns, env1, nss1, e1, R1, q⟩ := h sg M nss X S
  rcases q with ⟨rfl, q⟩ | ⟨rfl, q⟩
  · cases R1.or.1.1
    obtain ⟨w, M2, u, ms, env2, nss2, e2, R2, q2⟩ := q sg M1 nss1 X R1.dropped
    exact ⟨w, M2, u, ms, env2, nss2, e_andT e1 e2, R1.seq R2, q2⟩
  · cases R1.or.1.1
    exact ⟨_, M1, _, [], env1, nss1, e_andF e1, R1.val (.bl false), q⟩
theorem h_or (h : HE A cf a env fun t env1 => (t = .v (.bl false) ∧ HE A cf b env1 Q) ∨ (t = .v (.bl true) ∧ Q (.v (.bl true)) env1)) : HE A cf (.or a b) env Q := fun sg M nss X S => by
  obtain ⟨v, M1, t, ns, env1, nss1, e1, R1, q⟩ := h sg M nss X S
  rcases q with ⟨rfl, q⟩ | ⟨rfl, q⟩
  · cases R1.or.1.1
    obtain ⟨w, M2, u, ms, env2, nss2, e2, R2, q2⟩ := q sg M1 nss1 X R1.dropped
    exact ⟨w, M2, u, ms, env2, nss2, e_orF e1 e2, R1.seq R2, q2⟩
  · cases R1.or.1.1
    exact ⟨_, M1, _, [], env1, nss1, e_orT e1, R1.val (.bl true), q⟩
theorem h_ite (h : HE A cf c env fun t env1 => (t = .v (.bl true) ∧ HE A cf a env1 Q) ∨ (t = .v (.bl false) ∧ HE A cf b env1 Q)) : HE A cf (.ite c a b) env Q := fun sg M nss X S => by
  obtain ⟨v, M1, t, ns, env1, nss1, e1, R1, q⟩ := h sg M nss X S
  rcases q with ⟨rfl, q⟩ | ⟨rfl, q⟩
  · cases R1.or.1.1
    obtain ⟨w, M2, u, ms, env2, nss2, e2, R2, q2⟩ := q sg M1 nss1 X R1.dropped
    exact ⟨w, M2, u, ms, env2, nss2, e_iteT e1 e2, R1.seq R2, q2⟩
  · cases R1.or.1.1
    obtain ⟨w, M2, u, ms, env2, nss2, e2, R2, q2⟩ := q sg M1 nss1 X R1.dropped
    exact ⟨w, M2, u, ms, env2, nss2, e_iteF e1 e2, R1.seq R2, q2⟩
theorem h_tup (h : HEs A cf es env fun ts env1 => ∃ ds, ts.mapM OT.toD = some ds ∧ ds.length ≤ 1000000 ∧ Q (.v (.tup ds)) env1) : HE A cf (.tup es) env Q := fun sg M nss X S => by
  obtain ⟨vs, M', ts, mss, env', nss', e1, R, ds, h1, h2, h3⟩ := h sg M nss X S
  have r := R.frees h1
  refine ⟨.tup vs, M', .v (.tup ds), [], env', nss', ?_, ?_, h3⟩
  · rw [evE, e1]; simp only []; rw [if_pos (by rw [r.length]; have : sizeLine = 16777216 := rfl; omega)]
  · exact (ers_nil (A := A) S).seq (show ERs A sg M env nss X [.tup vs] M' [.v (.tup ds)] [[]] env' nss' from by
      have w := ers_v (A := true) (sg := sg) R.dropped (Rp.tup r)
      exact ⟨w.sr, w.or, w.nd, w.mx, fun n hn => R.nw n (hn.imp (by simp) id), R.fr, R.le, R.al⟩)
theorem h_lst (h : HEs A cf es env fun ts env1 => ∃ ds, ts.mapM OT.toD = some ds ∧ ds.length ≤ 1000000 ∧ Q (.ol ds) env1) : HE A cf (.lst es) env Q := fun sg M nss X S => by
  obtain ⟨vs, M', ts, mss, env', nss', e1, R, ds, h1, h2, h3⟩ := h sg M nss X S
  have r := R.frees h1
  refine ⟨.ref M'.length, M' ++ [.lst vs], .ol ds, _, env', nss', ?_, R.newL r, h3⟩
  rw [evE, e1]; simp only []; rw [if_pos (by rw [r.length]; have : sizeLine = 16777216 := rfl; omega)]
theorem h_cat (h : HE A cf a env fun t env1 => HE A cf b env1 fun u env2 => ∃ xs ys, t.top = some (.lst xs) ∧ u.top = some (.lst ys) ∧ xs.length + ys.length ≤ 1000000 ∧ Q (.ol (xs ++ ys)) env2) : HE A cf (.bop .add a b) env Q := fun sg M nss X S => by
  obtain ⟨vs, M', ts, mss, env', nss', e1, R, t, u, rfl, xs, ys, h1, h2, h3, h4⟩ := he_two h sg M nss X S
  obtain ⟨v, M1, w, q1, q2, rfl⟩ := two_inv e1
  have r := R.tops (ds := [.lst xs, .lst ys]) (by simp [h1, h2])
  cases r with
  | cons r1 r2 =>
    cases r2 with
    | cons r2 r3 =>
      obtain ⟨n, zs, rfl, g1, g2⟩ := r1
      obtain ⟨m, us, rfl, g3, g4⟩ := r2
      refine ⟨.ref M'.length, M' ++ [.lst (zs ++ us)], .ol (xs ++ ys), _, env', nss', e_bop q1 q2 ?_, R.newL ((g2.append g4).step fun n o a b => ⟨fun z => a (z.imp id .inl), b⟩), h4⟩
      simp only [bopP, lstAt, g1, g3]
      rw [if_pos (by rw [g2.length, g4.length]; have : sizeLine = 16777216 := rfl; omega)]
theorem h_slcl {fl fh : Bool} {lo hi : E} {xs : List D} {y z : D} {ys : List D} (h1 : (pk env a).bind OT.top = some (.lst xs)) (h2 : (pk env lo).bind OT.top = some y) (h3 : (pk env hi).bind OT.top = some z) (h4 : dslc fl fh (.lst xs) y z = some (.lst ys)) (q : Q (.ol ys) env) : HE A cf (.slc fl fh a lo hi) env Q := fun sg M nss X S => by
  obtain ⟨v1, e1, r1⟩ := pt_ok (cf := cf) S a h1
  obtain ⟨v2, e2, r2⟩ := pt_ok (cf := cf) S lo h2
  obtain ⟨v3, e3, r3⟩ := pt_ok (cf := cf) S hi h3
  obtain ⟨n, zs, rfl, g1, g2⟩ := r1
  unfold dslc at h4
  split at h4
  · rename_i p q' k1 k2
    cases h4
    refine ⟨.ref M.length, M ++ [.lst (cutP zs p q')], .ol _, _, env, nss, ?_, (ers_nil S).newL (cut_rps g2 p q'), q⟩
    rw [evE, e1]; simp only [e2, e3, slcP, dopt_ok r2 k1, dopt_ok r3 k2, lstAt, g1]
  · cases h4
def keyIn (kv : Key × D) : Option Int := match kv.1 with | .inl i => some i | .inr _ => none
def dbltL : Mp.B → List D → Option (List D)
  | .list, [.lst xs] => some xs
  | .list, [.tup xs] => some xs
  | .list, [.cl ns] => some (ns.map .int)
  | .list, [.ptup xs] => some xs
  | .sorted, [.lst xs] => (dints xs).bind fun ns => if ns.length < 64 then some ((sortI ns).map .int) else none
  | .ssort, [.lst xs] => (dints xs).bind fun ns => if ns.length < 64 then some ((usortI ns).map .int) else none
  | .sorted, [.dic kvs] => (kvs.mapM keyIn).bind fun ns => if ns.length < 64 then some ((sortI ns).map .int) else none
  | _, _ => none
theorem keysI_of : ∀ {kvs : List (Key × PV)} {ds : List (Key × D)} {ns : List Int}, kvs.map (·.1) = ds.map (·.1) → ds.mapM keyIn = some ns → keysI kvs = some ns
  | [], [], _, _, e => by cases e; rfl
  | [], _ :: _, _, h, _ => by simp at h
  | _ :: _, [], _, h, _ => by simp at h
  | (k, v) :: kvs, (k', d) :: ds, ns, h, e => by
    simp only [List.map_cons, List.cons.injEq] at h
    obtain ⟨rfl, h⟩ := h
    rw [List.mapM_cons] at e
    obtain ⟨i, h1, h2⟩ := Option.bind_eq_some_iff.mp e
    obtain ⟨is, h3, h4⟩ := Option.bind_eq_some_iff.mp h2
    cases h4
    cases k with
    | inl j => cases h1; simp only [keysI]; rw [keysI_of h h3]; rfl
    | inr j => cases h1
theorem dbltL_ok {B : Nat → Prop} {M : Mm} {o : Mp.B} {xs : List PV} {ds ys : List D} (h : RTs B M xs ds) (e : dbltL o ds = some ys) : ∃ zs, bltP M o xs = some (.ref M.length, M ++ [.lst zs]) ∧ Rps B M zs ys := by
  unfold dbltL at e
  split at e
  · cases h with | cons a r => cases r; obtain ⟨n, zs, rfl, h1, h2⟩ := a; cases e; exact ⟨zs, by simp only [bltP, seqOf, lstAt, h1]; rfl, h2⟩
  · cases h with | cons a r => cases r; cases a with | tup r => cases e; exact ⟨_, by simp only [bltP, seqOf]; rfl, r⟩
  · cases h with | cons a r => cases r; cases a; cases e; exact ⟨_, by simp only [bltP, seqOf]; rfl, Rps.ints _⟩
  · cases h with | cons a r => cases r; cases a with | ptup r => cases e; exact ⟨_, by simp only [bltP, seqOf]; rfl, r⟩
  · cases h with | cons a r =>
    cases r; obtain ⟨n, zs, rfl, h1, h2⟩ := a
    obtain ⟨ns, q1, q2⟩ := Option.bind_eq_some_iff.mp e
    split at q2
    · rename_i hl; cases q2; exact ⟨_, by simp only [bltP, h1, ints_rps h2 q1, Option.bind_some]; rw [if_pos hl], Rps.ints _⟩
    · cases q2
  · cases h with | cons a r =>
    cases r; obtain ⟨n, zs, rfl, h1, h2⟩ := a
    obtain ⟨ns, q1, q2⟩ := Option.bind_eq_some_iff.mp e
    split at q2
    · rename_i hl; cases q2; exact ⟨_, by simp only [bltP, lstAt, h1, ints_rps h2 q1, Option.bind_some]; rw [if_pos hl], Rps.ints _⟩
    · cases q2
  · cases h with | cons a r =>
    cases r; obtain ⟨n, zs, rfl, h1, h2, h3⟩ := a
    obtain ⟨ns, q1, q2⟩ := Option.bind_eq_some_iff.mp e
    split at q2
    · rename_i hl; cases q2; exact ⟨_, by simp only [bltP, h1, keysI_of h2 q1, Option.bind_some]; rw [if_pos hl], Rps.ints _⟩
    · cases q2
  · cases e
theorem h_bltL {o : Mp.B} (h : HEs A cf es env fun ts env1 => ∃ ds ys, ts.mapM OT.top = some ds ∧ dbltL o ds = some ys ∧ Q (.ol ys) env1) : HE A cf (.blt o es) env Q := fun sg M nss X S => by
  obtain ⟨vs, M', ts, mss, env', nss', e1, R, ds, ys, h1, h2, h3⟩ := h sg M nss X S
  obtain ⟨zs, q1, q2⟩ := dbltL_ok (R.tops h1) h2
  exact ⟨.ref M'.length, M' ++ [.lst zs], .ol ys, _, env', nss', e_blt e1 q1, R.newL (q2.step fun n o a b => ⟨fun z => a (z.imp id .inl), b⟩), h3⟩
end
end Mp.V
namespace Mp.V
open PySem L2
theorem set_same {sg : Sg} {i : Nat} {x : PV} (h : sg[i]? = some (some x)) : sg.set i (some x) = sg := by
  refine List.ext_getElem? fun j => ?_
  by_cases hj : i = j
  · subst hj; rw [List.getElem?_set_self (List.getElem?_eq_some_iff.mp h).1, h]
  · rw [List.getElem?_set_ne hj]
def Lens (cf : CF) (e : E) (env : Env) (t : OT) (upd : OT → Env) : Prop :=
  ∀ (sg : Sg) (M : Mm) (nss : List (List Nat)) (X : Nat → Prop), SR sg M env nss X → ∃ x ns, evE cf e sg M = some (x, M) ∧ OR (Bd nss X) M t x ns ∧ (∀ n ∈ ns, n ∈ nss.flatten) ∧ ns.Nodup ∧
    ∀ (X2 : Nat → Prop) (M' : Mm) (t' : OT) (ns' : List Nat), (∀ n, X2 n → X n) → (∀ (n : Nat) (o : Ob), n ∉ ns → M[n]? = some o → M'[n]? = some o) → M.length ≤ M'.length → OR (fun n => Bd nss X n ∨ n ∈ ns') M' t' x ns' → ns'.Nodup → (∀ n ∈ ns', n ∈ ns ∨ X n ∨ M.length ≤ n) → (∀ n ∈ ns', ¬ X2 n) →
      ∃ nss', SR sg M' (upd t') nss' X2 ∧ ∀ n ∈ nss'.flatten, n ∈ nss.flatten ∨ n ∈ ns'
theorem slot_nd {nss : List (List Nat)} {i : Nat} {us : List Nat} (h : nss[i]? = some us) (nd : nss.flatten.Nodup) : us.Nodup := by
  obtain ⟨l1, l2, e1, e2⟩ := set_split h
  rw [e1] at nd
  simp only [List.flatten_append, List.flatten_cons, List.nodup_append] at nd
  exact nd.2.1.1
theorem SR.wipeX {sg : Sg} {M : Mm} {env : Env} {nss : List (List Nat)} {X : Nat → Prop} (S : SR sg M env nss X) {i : Nat} {us : List Nat} (hu : nss[i]? = some us) (o : Option PV) : SR (sg.set i o) M (env.set i none) (nss.set i []) (fun n => X n ∨ n ∈ us) := by
  have hi : i < nss.length := (List.getElem?_eq_some_iff.mp hu).1
  have st : Stp (Bd nss X) (Bd (nss.set i []) fun n => X n ∨ n ∈ us) M M := fun n o a b => ⟨fun z => a (by
    rcases z with z | z | z
    · exact .inl (set_out hu S.nd z).1
    · exact .inr z
    · exact .inl (mem_fl hu n z)), b⟩
  refine ⟨by simp [S.len], by simp [S.nl], fun j u e => ?_, fun j e => ?_, ?_, fun n hn => ?_, fun n hn => ?_⟩
  · by_cases hj : i = j
    · subst hj
      rw [List.getElem?_set_self (by rw [← S.nl]; exact hi)] at e
      cases e
    · rw [List.getElem?_set_ne hj] at e
      obtain ⟨x, ms, a, b, c⟩ := S.at_ j u e
      exact ⟨x, ms, by rw [List.getElem?_set_ne hj]; exact a, by rw [List.getElem?_set_ne hj]; exact b, c.step ⟨st, fun n _ o h => h⟩⟩
  · by_cases hj : i = j
    · subst hj
      rw [List.getElem?_set_self hi]
    · rw [List.getElem?_set_ne hj] at e ⊢
      exact S.no j e
  · exact set_nd hu S.nd (by simp) (by simp)
  · obtain ⟨a, b⟩ := set_out hu S.nd hn
    exact fun z => z.elim (S.dj n a) b
  · rcases hn with q | q
    · exact S.xl n q
    · exact S.lt n (mem_fl hu n q)
theorem lens_var {cf : CF} {env : Env} {i : Nat} {t : OT} (h : env[i]? = some (some t)) : Lens cf (.var i) env t (fun t' => env.set i (some t')) := fun sg M nss X S => by
  obtain ⟨x, ns, h1, h2, h3⟩ := S.at_ i t h
  refine ⟨x, ns, e_var h1, h3, mem_fl h2, slot_nd h2 S.nd, fun X2 M' t' ns' hX2 hM hl hO nd hn hnx => ?_⟩
  have hi : i < nss.length := (List.getElem?_eq_some_iff.mp h2).1
  have W := S.wipeX h2 (some x)
  have W2 := W.mem (M' := M') (X' := fun n => X2 n ∨ n ∈ ns') (fun n o a b => hM n o (fun z => a (.inr z)) b) hl (fun n hn2 => by
    rcases hn2 with q | q
    · exact .inl (.inl (hX2 n q))
    · rcases hn n q with w | w | w
      · exact .inl (.inr w)
      · exact .inl (.inl w)
      · exact .inr w) (fun n hn2 => by
    rcases hn2 with q | q
    · have := S.xl n (hX2 n q); omega
    · exact hO.lt n q)
  have P := W2.set (X := X2) (i := i) (t := t') (v := x) (ns := ns') (us := []) (by rw [List.getElem?_set_self hi]) (hO.step ⟨fun n o a b => ⟨fun z => a (by
    rcases z with z | z | z
    · exact .inl (.inl (set_out h2 S.nd z).1)
    · exact .inl (.inr (hX2 n z))
    · exact .inr z), b⟩, fun n _ o q => q⟩) nd (fun n q => .inl (.inr q)) hnx (fun n q => .inl q)
  rw [List.set_set, List.set_set, List.set_set, set_same h1] at P
  exact ⟨_, P, fun n q => set_mem h2 q⟩
def OF.put : OF → Str → OT → OF
  | .nil, f, t => .cons f t .nil
  | .no r, f, t => .no (r.put f t)
  | .cons g u r, f, t => match f == g with | true => .cons g t r | false => .cons g u (r.put f t)
def OF.setAt : OF → Nat → OT → OF
  | .nil, _, _ => .nil
  | .no r, 0, t => .cons ("" : Str) t r
  | .no r, i + 1, t => .no (r.setAt i t)
  | .cons g _ r, 0, t => .cons g t r
  | .cons g u r, i + 1, t => .cons g u (r.setAt i t)
section
variable {B : Nat → Prop} {M : Mm}
theorem OFR.put : ∀ {fs : OF} {vs : List (Str × PV)} {ms : List Nat} {f : Str} {t : OT}, OFR B M fs vs ms → fs.get f = some t → ∃ x us m1 m2, ms = m1 ++ us ++ m2 ∧ vs.lookup f = some x ∧ OR B M t x us ∧
    ∀ (B' : Nat → Prop) (M' : Mm) (t' : OT) (ns' : List Nat), Stt B B' M M' (m1 ++ m2) → OR B' M' t' x ns' → OFR B' M' (fs.put f t') vs (m1 ++ ns' ++ m2)
  | .nil, _, _, _, _, _, e => by cases e
  | .no _, _, _, _, _, h, _ => h.elim
  | .cons g u r, _, _, f, t, ⟨x, vs, m1, m2, a, b, h1, h2⟩, e => by
    subst a; subst b
    rw [OF.get] at e
    cases q : f == g with
    | true =>
      rw [q] at e
      cases e
      refine ⟨x, m1, [], m2, by simp, by rw [List.lookup, q], h1, fun B' M' t' ns' st hO => ?_⟩
      rw [OF.put, q]
      exact ⟨x, vs, ns', m2, rfl, by simp, hO, h2.step (st.sub fun n hn => by simpa using hn)⟩
    | false =>
      rw [q] at e
      obtain ⟨y, us, k1, k2, e1, e2, e3, e4⟩ := OFR.put h2 e
      subst e1
      refine ⟨y, us, m1 ++ k1, k2, by simp, by rw [List.lookup, q]; exact e2, e3, fun B' M' t' ns' st hO => ?_⟩
      rw [OF.put, q]
      exact ⟨x, vs, m1, k1 ++ ns' ++ k2, rfl, by simp, h1.step (st.sub fun n hn => by simp [hn]), e4 B' M' t' ns' (st.sub fun n hn => by simp at hn ⊢; grind) hO⟩
theorem OSR.put : ∀ {fs : OF} {vs : List (Option PV)} {ms : List Nat} {i : Nat} {t : OT}, OSR B M fs vs ms → fs.at i = some t → ∃ x us m1 m2, ms = m1 ++ us ++ m2 ∧ vs[i]? = some (some x) ∧ OR B M t x us ∧
    ∀ (B' : Nat → Prop) (M' : Mm) (t' : OT) (ns' : List Nat), Stt B B' M M' (m1 ++ m2) → OR B' M' t' x ns' → OSR B' M' (fs.setAt i t') vs (m1 ++ ns' ++ m2)
  | .nil, _, _, _, _, _, e => by cases e
  | .no _, _, _, 0, _, _, e => by cases e
  | .no r, _, _, i + 1, t, ⟨o, vs, a, h⟩, e => by
    subst a
    obtain ⟨y, us, k1, k2, e1, e2, e3, e4⟩ := OSR.put h (show r.at i = _ from e)
    subst e1
    exact ⟨y, us, k1, k2, rfl, by simpa using e2, e3, fun B' M' t' ns' st hO => ⟨o, vs, rfl, e4 B' M' t' ns' st hO⟩⟩
  | .cons g u r, _, _, 0, t, ⟨x, vs, m1, m2, a, b, h1, h2⟩, e => by
    subst a; subst b
    cases e
    exact ⟨x, m1, [], m2, by simp, rfl, h1, fun B' M' t' ns' st hO => ⟨x, vs, ns', m2, rfl, by simp, hO, h2.step (st.sub fun n hn => by simpa using hn)⟩⟩
  | .cons g u r, _, _, i + 1, t, ⟨x, vs, m1, m2, a, b, h1, h2⟩, e => by
    subst a; subst b
    obtain ⟨y, us, k1, k2, e1, e2, e3, e4⟩ := OSR.put h2 (show r.at i = _ from e)
    subst e1
    exact ⟨y, us, m1 ++ k1, k2, by simp, by simpa using e2, e3, fun B' M' t' ns' st hO => ⟨x, vs, m1, k1 ++ ns' ++ k2, rfl, by simp, h1.step (st.sub fun n hn => by simp [hn]), e4 B' M' t' ns' (st.sub fun n hn => by simp at hn ⊢; grind) hO⟩⟩
end
theorem lens_in {nss : List (List Nat)} {X : Nat → Prop} {M M' : Mm} {n : Nat} {m1 us m2 ns' : List Nat} (hs : ∀ k ∈ n :: (m1 ++ us ++ m2), k ∈ nss.flatten) (nd : (n :: (m1 ++ us ++ m2)).Nodup) (hlt : ∀ k ∈ nss.flatten, k < M.length) (hM : ∀ (k : Nat) (o : Ob), k ∉ us → M[k]? = some o → M'[k]? = some o) (nd' : ns'.Nodup) (hX : ∀ k ∈ nss.flatten, ¬ X k) (hn : ∀ k ∈ ns', k ∈ us ∨ X k ∨ M.length ≤ k) :
    (n :: (m1 ++ ns' ++ m2)).Nodup ∧ Stt (Bd nss X) (fun k => Bd nss X k ∨ k ∈ n :: (m1 ++ ns' ++ m2)) M M' (m1 ++ m2) ∧ (∀ o, M[n]? = some o → M'[n]? = some o) ∧ Stp (fun k => Bd nss X k ∨ k ∈ ns') (fun k => Bd nss X k ∨ k ∈ n :: (m1 ++ ns' ++ m2)) M' M' := by
  simp only [List.nodup_cons, List.nodup_append, List.mem_append, List.mem_cons] at nd hs ⊢
  obtain ⟨a, ⟨b1, b2, b3⟩, b4, b5⟩ := nd
  refine ⟨⟨?_, ⟨b1, nd', fun x hx y hy z => ?_⟩, b4, fun x hx y hy z => ?_⟩, ⟨fun k o h1 h2 => ⟨fun z => h1 ?_, hM k o (fun z => h1 (.inl (hs k (by simp [z])))) h2⟩, fun k hk o h => hM k o (fun z => ?_) h⟩, fun o h => hM n o (fun z => a (.inl (.inr z))) h, fun k o h1 h2 => ⟨fun z => h1 ?_, h2⟩⟩
  · rintro ((q | q) | q)
    · exact a (.inl (.inl q))
    · rcases hn n q with w | w | w
      · exact a (.inl (.inr w))
      · exact hX n (hs n (by simp)) w
      · have := hlt n (hs n (by simp)); omega
    · exact a (.inr q)
  · subst z
    rcases hn x hy with w | w | w
    · exact b3 x hx x w rfl
    · exact hX x (hs x (by simp [hx])) w
    · have := hlt x (hs x (by simp [hx])); omega
  · subst z
    rcases hx with hx | hx
    · exact b5 x (.inl hx) x hy rfl
    · rcases hn x hx with w | w | w
      · exact b5 x (.inr w) x hy rfl
      · exact hX x (hs x (by simp [hy])) w
      · have := hlt x (hs x (by simp [hy])); omega
  · rcases z with z | z | (z | z) | z
    · exact z
    · exact .inl (hs k (by simp [z]))
    · exact .inl (hs k (by simp [z]))
    · rcases hn k z with w | w | w
      · exact .inl (hs k (by simp [w]))
      · exact .inr w
      · have := (List.getElem?_eq_some_iff.mp h2).1; omega
    · exact .inl (hs k (by simp [z]))
  · rcases List.mem_append.mp hk with hk | hk
    · exact b3 k hk k z rfl
    · exact b5 k (.inr z) k hk rfl
  · rcases z with z | z | (z | z) | z
    · exact .inl z
    · exact .inl (.inl (hs k (by simp [z])))
    · exact .inl (.inl (hs k (by simp [z])))
    · exact .inr z
    · exact .inl (.inl (hs k (by simp [z])))
theorem lens_fld {cf : CF} {env : Env} {e : E} {c f : Str} {fs : OF} {t : OT} {upd : OT → Env} (L : Lens cf e env (.oi c fs) upd) (h : fs.get f = some t) : Lens cf (.fld c f e) env t (fun t' => upd (.oi c (fs.put f t'))) := fun sg M nss X S => by
  obtain ⟨x, ns, e1, ⟨n, vs, ms, rfl, rfl, g1, g2⟩, hs, nd, K⟩ := L sg M nss X S
  obtain ⟨y, us, m1, m2, rfl, q2, q3, q4⟩ := g2.put h
  refine ⟨y, us, e_fld e1 (by simp [insAt, g1]) q2, q3, fun k hk => hs k (by simp [hk]), ?_, fun X2 M' t' ns' hX2 hM hl hO nd' hn hnx => ?_⟩
  · simp only [List.nodup_cons, List.nodup_append] at nd
    exact nd.2.1.2.1
  · obtain ⟨w1, w2, w3, w4⟩ := lens_in (M := M) (M' := M') (X := X) hs nd S.lt hM nd' S.dj hn
    have h2X : ∀ k ∈ n :: (m1 ++ us ++ m2), ¬ X2 k := fun k hk z => S.dj k (hs k hk) (hX2 k z)
    have W := K X2 M' (.oi c (fs.put f t')) (n :: (m1 ++ ns' ++ m2)) hX2 (fun k o hk h => hM k o (fun z => hk (by simp [z])) h) hl ⟨n, vs, _, rfl, rfl, w3 _ g1, q4 _ M' t' ns' w2 (hO.step ⟨w4, fun k _ o q => q⟩)⟩ w1 (fun k hk => by
      simp only [List.mem_cons, List.mem_append] at hk ⊢
      rcases hk with hk | (hk | hk) | hk
      · exact .inl (.inl hk)
      · exact .inl (.inr (.inl (.inl hk)))
      · exact (hn k hk).imp (fun z => .inr (.inl (.inr z))) id
      · exact .inl (.inr (.inr hk))) (fun k hk => by
      simp only [List.mem_cons, List.mem_append] at hk
      rcases hk with hk | (hk | hk) | hk
      · exact h2X k (by simp [hk])
      · exact h2X k (by simp [hk])
      · exact hnx k hk
      · exact h2X k (by simp [hk]))
    obtain ⟨nss', W1, W2⟩ := W
    refine ⟨nss', W1, fun k hk => ?_⟩
    rcases W2 k hk with q | q
    · exact .inl q
    · simp only [List.mem_cons, List.mem_append] at q
      rcases q with q | (q | q) | q
      · exact .inl (hs k (by simp [q]))
      · exact .inl (hs k (by simp [q]))
      · exact .inr q
      · exact .inl (hs k (by simp [q]))
end Mp.V
namespace Mp.V
open PySem L2
inductive Flo where
  | nx | brk | ct | ret (t : OT)
structure SRs (K : List Nat) (sg : Sg) (M : Mm) (nss : List (List Nat)) (X : Nat → Prop) (sg' : Sg) (M' : Mm) (env' : Env) (nss' : List (List Nat)) (ns : List Nat) : Prop where
  sr : SR sg' M' env' nss' (fun n => X n ∨ n ∈ ns)
  nd : ns.Nodup
  mx : ∀ n ∈ ns, ¬ X n
  nw : ∀ n, n ∈ ns ∨ n ∈ nss'.flatten → n ∈ nss.flatten ∨ M.length ≤ n
  fr : ∀ i, i < M.length → i ∉ nss.flatten → M'[i]? = M[i]?
  le : M.length ≤ M'.length
  kp : ∀ j ∈ K, sg'[j]? = sg[j]?
def FlR (B : Nat → Prop) (M : Mm) : Flo → Fl → Sg → List Nat → Prop
  | .nx, .nx s, sg, ns => s = sg ∧ ns = []
  | .brk, .brk s, sg, ns => s = sg ∧ ns = []
  | .ct, .ct s, sg, ns => s = sg ∧ ns = []
  | .ret t, .ret v, _, ns => OR B M t v ns
  | _, _, _, _ => False
def HSt (cf : CF) (K : List Nat) (s : S) (env : Env) (Q : Flo → Env → Prop) : Prop := ∀ (sg : Sg) (M : Mm) (nss : List (List Nat)) (X : Nat → Prop), SR sg M env nss X → ∃ fl M' o sg' env' nss' ns, evS cf s sg M = some (fl, M') ∧ SRs K sg M nss X sg' M' env' nss' ns ∧ FlR (Bd nss' fun n => X n ∨ n ∈ ns) M' o fl sg' ns ∧ Q o env'
def HSs (cf : CF) (K : List Nat) (s : Ss) (env : Env) (Q : Flo → Env → Prop) : Prop := ∀ (sg : Sg) (M : Mm) (nss : List (List Nat)) (X : Nat → Prop), SR sg M env nss X → ∃ fl M' o sg' env' nss' ns, evSs cf s sg M = some (fl, M') ∧ SRs K sg M nss X sg' M' env' nss' ns ∧ FlR (Bd nss' fun n => X n ∨ n ∈ ns) M' o fl sg' ns ∧ Q o env'
section
variable {A : Bool} {cf : CF} {K : List Nat} {env : Env} {e a b c : E} {es : Es} {s : S} {ss ss2 : Ss} {Q : Flo → Env → Prop}
theorem srs_id {sg : Sg} {M : Mm} {nss : List (List Nat)} {X : Nat → Prop} (S : SR sg M env nss X) : SRs K sg M nss X sg M env nss [] :=
  ⟨S.mono fun n h => by simpa using h, by simp, by simp, fun n hn => .inl (by simpa using hn), fun _ _ _ => rfl, Nat.le_refl _, fun _ _ => rfl⟩
theorem srs_of {sg : Sg} {M M' : Mm} {nss nss' : List (List Nat)} {X : Nat → Prop} {vs : List PV} {ts : List OT} {mss : List (List Nat)} {env' : Env} (R : ERs A sg M env nss X vs M' ts mss env' nss') : SRs K sg M nss X sg M' env' nss' [] :=
  ⟨R.sr.mono fun n h => .inl (by simpa using h), by simp, by simp, fun n hn => R.nw n (.inr (by simpa using hn)), R.fr, R.le, fun _ _ => rfl⟩
theorem SRs.seq {sg sg1 sg2 : Sg} {M M1 M2 : Mm} {nss nss1 nss2 : List (List Nat)} {X : Nat → Prop} {env1 env2 : Env} {ns : List Nat} (R1 : SRs K sg M nss X sg1 M1 env1 nss1 []) (R2 : SRs K sg1 M1 nss1 X sg2 M2 env2 nss2 ns) : SRs K sg M nss X sg2 M2 env2 nss2 ns := by
  have key : ∀ n, n ∈ nss1.flatten → n ∈ nss.flatten ∨ M.length ≤ n := fun n z => R1.nw n (.inr z)
  have hl := R1.le
  refine ⟨R2.sr, R2.nd, R2.mx, fun n hn => ?_, fun i h1 h2 => ?_, Nat.le_trans R1.le R2.le, fun j hj => (R2.kp j hj).trans (R1.kp j hj)⟩
  · rcases R2.nw n hn with q | q
    · exact key n q
    · exact .inr (by omega)
  · rw [R2.fr i (by omega) fun z => by
      rcases key i z with q | q
      · exact h2 q
      · omega]
    exact R1.fr i h1 h2
theorem SRs.nil {sg sg1 : Sg} {M M1 : Mm} {nss nss1 : List (List Nat)} {X : Nat → Prop} {env1 : Env} (R1 : SRs K sg M nss X sg1 M1 env1 nss1 []) : SR sg1 M1 env1 nss1 X := R1.sr.mono fun n h => .inl h
theorem SRs.stp {sg sg1 : Sg} {M M1 : Mm} {nss nss1 : List (List Nat)} {X : Nat → Prop} {env1 : Env} {ns : List Nat} (R1 : SRs K sg M nss X sg1 M1 env1 nss1 ns) : Stp (Bd nss X) (Bd nss1 X) M M1 := fun n o a b => by
  have hl := (List.getElem?_eq_some_iff.mp b).1
  refine ⟨fun z => ?_, by rw [R1.fr n hl fun z => a (.inl z)]; exact b⟩
  rcases z with z | z
  · rcases R1.nw n (.inr z) with q | q
    · exact a (.inl q)
    · omega
  · exact a (.inr z)
theorem w_nil (q : Q .nx env) : HSs cf K .nil env Q := fun sg M nss X S => ⟨.nx sg, M, .nx, sg, env, nss, [], ss_nil, srs_id S, ⟨rfl, rfl⟩, q⟩
theorem HSs.mono {Q' : Flo → Env → Prop} (h : HSs cf K ss env Q) (hq : ∀ o env', Q o env' → Q' o env') : HSs cf K ss env Q' := fun sg M nss X S => by
  obtain ⟨fl, M', o, sg', env', nss', ns, h1, h2, h3, h4⟩ := h sg M nss X S
  exact ⟨fl, M', o, sg', env', nss', ns, h1, h2, h3, hq _ _ h4⟩
theorem HSt.mono {Q' : Flo → Env → Prop} (h : HSt cf K s env Q) (hq : ∀ o env', Q o env' → Q' o env') : HSt cf K s env Q' := fun sg M nss X S => by
  obtain ⟨fl, M', o, sg', env', nss', ns, h1, h2, h3, h4⟩ := h sg M nss X S
  exact ⟨fl, M', o, sg', env', nss', ns, h1, h2, h3, hq _ _ h4⟩
def thn (Q : Flo → Env → Prop) (k : Env → Prop) : Flo → Env → Prop
  | .nx, env => k env
  | o, env => Q o env
theorem w_cons (h : HSt cf K s env (thn Q fun env1 => HSs cf K ss env1 Q)) : HSs cf K (.cons s ss) env Q := fun sg M nss X S => by
  obtain ⟨fl, M1, o, sg1, env1, nss1, ns, e1, R1, F1, q⟩ := h sg M nss X S
  cases o with
  | nx =>
    cases fl with
    | nx s' =>
      obtain ⟨rfl, rfl⟩ := F1
      obtain ⟨fl, M2, o, sg2, env2, nss2, ns, e2, R2, F2, q2⟩ := q s' M1 nss1 X R1.nil
      exact ⟨fl, M2, o, sg2, env2, nss2, ns, ss_cons e1 e2, R1.seq R2, F2, q2⟩
    | _ => exact F1.elim
  | _ =>
    cases fl <;> first
      | exact F1.elim
      | exact ⟨_, M1, _, sg1, env1, nss1, ns, by rw [evSs, e1], R1, F1, q⟩
theorem w_exp (h : HE A cf e env fun _ env1 => Q .nx env1) : HSt cf K (.exp e) env Q := fun sg M nss X S => by
  obtain ⟨v, M', t, ns, env', nss', e1, R, q⟩ := h sg M nss X S
  exact ⟨_, M', .nx, sg, env', nss', [], s_exp e1, srs_of R, ⟨rfl, rfl⟩, q⟩
theorem w_ret (h : HE A cf e env fun t env1 => Q (.ret t) env1) : HSt cf K (.ret e) env Q := fun sg M nss X S => by
  obtain ⟨v, M', t, ns, env', nss', e1, R, q⟩ := h sg M nss X S
  have hf : ∀ n, n ∈ ([ns] : List (List Nat)).flatten ↔ n ∈ ns := fun n => by simp
  exact ⟨_, M', .ret t, sg, env', nss', ns, s_ret e1, ⟨R.sr.mono fun n h => h.imp id (hf n).mpr, by simpa using R.nd, fun n hn => R.mx n ((hf n).mpr hn), fun n hn => R.nw n (hn.imp (hf n).mpr id), R.fr, R.le, fun _ _ => rfl⟩,
    R.or.1.step ⟨fun n o a b => ⟨fun z => a (z.imp id fun w => w.imp id (hf n).mpr), b⟩, fun n _ o h => h⟩, q⟩
theorem w_retv {i : Nat} {t : OT} (h : env[i]? = some (some t)) (q : Q (.ret t) (env.set i none)) : HSt cf K (.ret (.var i)) env Q := fun sg M nss X S => by
  obtain ⟨x, ns, h1, h2, h3⟩ := S.at_ i t h
  have W := S.wipeX h2 (some x)
  rw [set_same h1] at W
  refine ⟨_, M, .ret t, sg, _, nss.set i [], ns, s_ret (e_var h1), ⟨W, slot_nd h2 S.nd, fun n hn => S.dj n (mem_fl h2 n hn), fun n hn => .inl ?_, fun _ _ _ => rfl, Nat.le_refl _, fun _ _ => rfl⟩, h3.step ⟨fun n o a b => ⟨fun z => a ?_, b⟩, fun n _ o h => h⟩, q⟩
  · rcases hn with hn | hn
    · exact mem_fl h2 n hn
    · exact (set_out h2 S.nd hn).1
  · rcases z with z | z | z
    · exact .inl (set_out h2 S.nd z).1
    · exact .inr z
    · exact .inl (mem_fl h2 n z)
theorem SR.put {sg : Sg} {M : Mm} {nss : List (List Nat)} {X : Nat → Prop} {ns : List Nat} {t : OT} {v : PV} (S : SR sg M env nss (fun n => X n ∨ n ∈ ns)) (h : OR (Bd nss fun n => X n ∨ n ∈ ns) M t v ns) (nd : ns.Nodup) (hx : ∀ n ∈ ns, ¬ X n) (i : Nat) : ∃ nss', SR (sg.set i (some v)) M (env.set i (some t)) nss' X ∧ ∀ n ∈ nss'.flatten, n ∈ nss.flatten ∨ n ∈ ns := by
  by_cases hi : i < nss.length
  · have hu := List.getElem?_eq_getElem hi
    exact ⟨nss.set i ns, S.set hu h nd (fun n hn => .inl (.inr hn)) hx (fun n hn => .inl hn), fun n hn => set_mem hu hn⟩
  · have l1 := S.nl
    have l2 := S.len
    rw [List.set_eq_of_length_le (by omega), List.set_eq_of_length_le (by omega)]
    exact ⟨nss, S.mono fun n hn => .inl hn, fun n hn => .inl hn⟩
theorem SR.putV {sg : Sg} {M : Mm} {nss : List (List Nat)} {X : Nat → Prop} {d : D} {v : PV} (S : SR sg M env nss X) (h : Rp (Bd nss X) M v d) (i : Nat) : ∃ nss', SR (sg.set i (some v)) M (env.set i (some (.v d))) nss' X ∧ ∀ n ∈ nss'.flatten, n ∈ nss.flatten := by
  obtain ⟨nss', h1, h2⟩ := SR.put (X := X) (ns := []) (t := .v d) (S.mono fun n hn => by simpa using hn) ⟨h.step fun n o a b => ⟨fun z => a (by rcases z with z | z; exact .inl z; exact .inr (by simpa using z)), b⟩, rfl⟩ (by simp) (by simp) i
  exact ⟨nss', h1, fun n hn => by simpa using h2 n hn⟩
theorem w_asg {i : Nat} (hK : i ∉ K) (h : HE A cf e env fun t env1 => Q .nx (env1.set i (some t))) : HSt cf K (.asg (.name i) e) env Q := fun sg M nss X S => by
  obtain ⟨v, M', t, ns, env', nss', e1, R, q⟩ := h sg M nss X S
  have hf : ∀ n, n ∈ ([ns] : List (List Nat)).flatten ↔ n ∈ ns := fun n => by simp
  obtain ⟨nss2, P, hP⟩ := SR.put (ns := ns) (R.sr.mono fun n h => h.imp id (hf n).mpr) (R.or.1.step ⟨fun n o a b => ⟨fun z => a (z.imp id fun w => w.imp id (hf n).mpr), b⟩, fun n _ o h => h⟩) (by simpa using R.nd) (fun n hn => R.mx n ((hf n).mpr hn)) i
  refine ⟨_, M', .nx, sg.set i (some v), _, nss2, [], s_asg e1 rfl, ⟨P.mono fun n h => by simpa using h, by simp, by simp, fun n hn => ?_, R.fr, R.le, fun j hj => List.getElem?_set_ne fun z => hK (by rw [z]; exact hj)⟩, ⟨rfl, rfl⟩, q⟩
  rcases hn with hn | hn
  · cases hn
  · rcases hP n hn with w | w
    · exact R.nw n (.inr w)
    · exact R.nw n (.inl ((hf n).mpr w))
def setE : List Nat → List OT → Env → Option Env
  | [], [], env => some env
  | i :: is, t :: ts, env => setE is ts (env.set i (some t))
  | _, _, _ => none
theorem put_all : ∀ {is : List Nat} {ts : List OT} {vs : List PV} {ms : List (List Nat)} {sg : Sg} {M : Mm} {env env' : Env} {nss : List (List Nat)} {X : Nat → Prop}, SR sg M env nss (fun n => X n ∨ n ∈ ms.flatten) → ORs (Bd nss fun n => X n ∨ n ∈ ms.flatten) M ts vs ms → ms.flatten.Nodup → (∀ n ∈ ms.flatten, ¬ X n) → setE is ts env = some env' →
    ∃ nss' sg', setAll is vs sg = some sg' ∧ SR sg' M env' nss' X ∧ (∀ n ∈ nss'.flatten, n ∈ nss.flatten ∨ n ∈ ms.flatten) ∧ ∀ j, j ∉ is → sg'[j]? = sg[j]?
  | [], [], [], [], sg, M, env, env', nss, X, S, _, _, _, e => by
    cases e
    exact ⟨nss, sg, rfl, S.mono fun n hn => .inl hn, fun n hn => .inl hn, fun _ _ => rfl⟩
  | i :: is, t :: ts, v :: vs, m :: ms, sg, M, env, env', nss, X, S, ⟨h1, h2⟩, nd, hx, e => by
    have hm : ∀ n, n ∈ (m :: ms).flatten ↔ n ∈ m ∨ n ∈ ms.flatten := fun n => by simp
    rw [List.flatten_cons, List.nodup_append] at nd
    obtain ⟨nss1, S1, hS1⟩ := SR.put (X := fun n => X n ∨ n ∈ ms.flatten) (ns := m) (S.mono fun n hn => by
        rcases hn with (q | q) | q
        · exact .inl q
        · exact .inr ((hm n).mpr (.inr q))
        · exact .inr ((hm n).mpr (.inl q))) (h1.step ⟨fun n o a b => ⟨fun z => a (by
        rcases z with z | (z | z) | z
        · exact .inl z
        · exact .inr (.inl z)
        · exact .inr (.inr ((hm n).mpr (.inr z)))
        · exact .inr (.inr ((hm n).mpr (.inl z)))), b⟩, fun n _ o q => q⟩) nd.1 (fun n hn z => by
        rcases z with z | z
        · exact hx n ((hm n).mpr (.inl hn)) z
        · exact nd.2.2 n hn n z rfl) i
    obtain ⟨nss2, sg2, e2, S2, hS2, k2⟩ := put_all (is := is) S1 (h2.step ⟨fun n o a b => ⟨fun z => a (by
        rcases z with z | z | z
        · rcases hS1 n z with w | w
          · exact .inl w
          · exact .inr (.inr ((hm n).mpr (.inl w)))
        · exact .inr (.inl z)
        · exact .inr (.inr ((hm n).mpr (.inr z)))), b⟩, fun n _ o q => q⟩) nd.2.1 (fun n hn => hx n ((hm n).mpr (.inr hn))) e
    refine ⟨nss2, sg2, e2, S2, fun n hn => ?_, fun j hj => ?_⟩
    · rcases hS2 n hn with q | q
      · rcases hS1 n q with w | w
        · exact .inl w
        · exact .inr ((hm n).mpr (.inl w))
      · exact .inr ((hm n).mpr (.inr q))
    · rw [k2 j (fun z => hj (by simp [z])), List.getElem?_set_ne (fun z => hj (by simp [z]))]
  | [], _ :: _, _, _, _, _, _, _, _, _, _, _, _, _, e => by cases e
  | _ :: _, [], _, _, _, _, _, _, _, _, _, _, _, _, e => by cases e
  | [], [], [], _ :: _, _, _, _, _, _, _, _, h, _, _, _ => h.elim
  | [], [], _ :: _, _, _, _, _, _, _, _, _, h, _, _, _ => h.elim
  | _ :: _, _ :: _, [], _, _, _, _, _, _, _, _, h, _, _, _ => h.elim
  | _ :: _, _ :: _, _ :: _, [], _, _, _, _, _, _, _, h, _, _, _ => h.elim
theorem w_asgt {is : List Nat} (hK : ∀ j ∈ K, j ∉ is) (h : HEs A cf es env fun ts env1 => ts.length ≤ 1000000 ∧ ∃ env2, setE is ts env1 = some env2 ∧ Q .nx env2) : HSt cf K (.asg (.tup is) (.tup es)) env Q := fun sg M nss X S => by
  obtain ⟨vs, M', ts, mss, env', nss', e1, R, hl, env2, q1, q2⟩ := h sg M nss X S
  obtain ⟨nss2, sg2, e2, P, hP, k2⟩ := put_all R.sr R.or R.nd R.mx q1
  have hlen : vs.length ≤ sizeLine := by
    have key : ∀ {ts : List OT} {vs : List PV} {ms : List (List Nat)} {B : Nat → Prop}, ORs B M' ts vs ms → ts.length = vs.length := by
      intro ts
      induction ts with
      | nil => intro vs ms B h; cases vs <;> cases ms <;> first | rfl | exact h.elim
      | cons t ts ih => intro vs ms B h; cases vs <;> cases ms <;> first | exact h.elim | simp [ih h.2]
    rw [← key R.or]
    have : sizeLine = 16777216 := rfl
    omega
  refine ⟨.nx sg2, M', .nx, sg2, env2, nss2, [], s_asg (x := .tup vs) (by rw [evE, e1]; simp only []; rw [if_pos hlen]) e2, ⟨P.mono fun n h => by simpa using h, by simp, by simp, fun n hn => ?_, R.fr, R.le, fun j hj => k2 j (hK j hj)⟩, ⟨rfl, rfl⟩, q2⟩
  rcases hn with hn | hn
  · cases hn
  · rcases hP n hn with w | w
    · exact R.nw n (.inr w)
    · exact R.nw n (.inl w)
def setV : List Nat → List D → Env → Option Env
  | [], [], env => some env
  | i :: is, t :: ts, env => setV is ts (env.set i (some (.v t)))
  | _, _, _ => none
def bindE : Tg → D → Env → Option Env
  | .name i, d, env => some (env.set i (some (.v d)))
  | .tup is, .tup ds, env => setV is ds env
  | .tup is, .lst ds, env => setV is ds env
  | .nst i is, .tup [d, .tup ds], env => setV is ds (env.set i (some (.v d)))
  | .nst i is, .tup [d, .lst ds], env => setV is ds (env.set i (some (.v d)))
  | _, _, _ => none
def tgI : Tg → List Nat
  | .name i => [i]
  | .tup is => is
  | .nst i is => i :: is
theorem putV_all : ∀ {is : List Nat} {ds : List D} {vs : List PV} {sg : Sg} {M : Mm} {env env' : Env} {nss : List (List Nat)} {X : Nat → Prop}, SR sg M env nss X → Rps (Bd nss X) M vs ds → setV is ds env = some env' →
    ∃ nss' sg', setAll is vs sg = some sg' ∧ SR sg' M env' nss' X ∧ (∀ n ∈ nss'.flatten, n ∈ nss.flatten) ∧ ∀ j, j ∉ is → sg'[j]? = sg[j]?
  | [], [], _, sg, M, env, env', nss, X, S, .nil, e => by
    cases e
    exact ⟨nss, sg, rfl, S, fun n hn => hn, fun _ _ => rfl⟩
  | i :: is, t :: ts, _, sg, M, env, env', nss, X, S, .cons h1 h2, e => by
    obtain ⟨nss1, S1, hS1⟩ := S.putV h1 i
    obtain ⟨nss2, sg2, e2, S2, hS2, k2⟩ := putV_all (is := is) S1 (h2.step fun n o a b => ⟨fun z => a (z.imp (hS1 n) id), b⟩) e
    refine ⟨nss2, sg2, e2, S2, fun n hn => hS1 n (hS2 n hn), fun j hj => ?_⟩
    rw [k2 j (fun z => hj (by simp [z])), List.getElem?_set_ne (fun z => hj (by simp [z]))]
  | [], _ :: _, _, _, _, _, _, _, _, _, _, e => by cases e
  | _ :: _, [], _, _, _, _, _, _, _, _, _, e => by cases e
theorem bind_ok {t : Tg} {d : D} {v : PV} {sg : Sg} {M : Mm} {env env' : Env} {nss : List (List Nat)} {X : Nat → Prop} (S : SR sg M env nss X) (h : Rp (Bd nss X) M v d) (e : bindE t d env = some env') :
    ∃ nss' sg', tgP t M v sg = some sg' ∧ SR sg' M env' nss' X ∧ (∀ n ∈ nss'.flatten, n ∈ nss.flatten) ∧ ∀ j, j ∉ tgI t → sg'[j]? = sg[j]? := by
  cases t with
  | name i =>
    cases e
    obtain ⟨nss1, S1, hS1⟩ := S.putV h i
    exact ⟨nss1, _, rfl, S1, hS1, fun j hj => List.getElem?_set_ne fun z => hj (by simp [tgI, z])⟩
  | tup is =>
    cases d with
    | tup ds => cases h with | tup r => exact putV_all S r e
    | lst ds =>
      cases h with
      | lst a1 a2 r =>
        obtain ⟨nss', sg', e1, e2⟩ := putV_all S r (show setV is ds env = some env' from e)
        exact ⟨nss', sg', by simp only [tgP, lstAt, a2, Option.bind_some]; exact e1, e2⟩
    | _ => cases e
  | nst i is =>
    have key : ∀ (ds : List D), d = .tup ds → (∃ d1 d2, ds = [d1, d2] ∧ ((∃ es, d2 = .tup es ∧ setV is es (env.set i (some (.v d1))) = some env') ∨ ∃ es, d2 = .lst es ∧ setV is es (env.set i (some (.v d1))) = some env')) := by
      intro ds q
      subst q
      match ds, e with
      | [d1, .tup d2], e => exact ⟨d1, _, rfl, .inl ⟨d2, rfl, e⟩⟩
      | [d1, .lst d2], e => exact ⟨d1, _, rfl, .inr ⟨d2, rfl, e⟩⟩
    cases d with
    | tup ds =>
      obtain ⟨d1, d2, rfl, e2⟩ := key ds rfl
      cases h with
      | tup r =>
        cases r with
        | cons a r =>
          cases r with
          | cons b r =>
            cases r
            rcases e2 with ⟨es, rfl, e2⟩ | ⟨es, rfl, e2⟩
            · cases b with
              | tup rr =>
                obtain ⟨nss1, S1, hS1⟩ := S.putV a i
                obtain ⟨nss2, sg2, e3, S2, hS2, k2⟩ := putV_all (is := is) S1 (rr.step fun n o a b => ⟨fun z => a (z.imp (hS1 n) id), b⟩) e2
                refine ⟨nss2, sg2, e3, S2, fun n hn => hS1 n (hS2 n hn), fun j hj => ?_⟩
                rw [k2 j (fun z => hj (by simp [tgI, z])), List.getElem?_set_ne (fun z => hj (by simp [tgI, z]))]
            · cases b with
              | lst a1 a2 rr =>
                obtain ⟨nss1, S1, hS1⟩ := S.putV a i
                obtain ⟨nss2, sg2, e3, S2, hS2, k2⟩ := putV_all (is := is) S1 (rr.step fun n o a b => ⟨fun z => a (z.imp (hS1 n) id), b⟩) e2
                refine ⟨nss2, sg2, by simp only [tgP, lstAt, a2, Option.bind_some]; exact e3, S2, fun n hn => hS1 n (hS2 n hn), fun j hj => ?_⟩
                rw [k2 j (fun z => hj (by simp [tgI, z])), List.getElem?_set_ne (fun z => hj (by simp [tgI, z]))]
    | _ => cases e
theorem w_asgb {t : Tg} (hK : ∀ j ∈ K, j ∉ tgI t) (h : HE A cf e env fun u env1 => ∃ d env2, u.toD = some d ∧ bindE t d env1 = some env2 ∧ Q .nx env2) : HSt cf K (.asg t e) env Q := fun sg M nss X S => by
  obtain ⟨v, M', u, ns, env', nss', e1, R, d, env2, q1, q2, q3⟩ := h sg M nss X S
  have r := R.frees (ds := [d]) (by simp [q1])
  cases r with
  | cons r _ =>
    obtain ⟨nss2, sg2, e2, S2, hS2, k2⟩ := bind_ok R.dropped r q2
    exact ⟨.nx sg2, M', .nx, sg2, env2, nss2, [], s_asg e1 e2, ⟨S2.mono fun n h => by simpa using h, by simp, by simp, fun n hn => R.nw n (.inr (by rcases hn with hn | hn; cases hn; exact hS2 n hn)), R.fr, R.le, fun j hj => k2 j (hK j hj)⟩, ⟨rfl, rfl⟩, q3⟩
theorem w_if (h : HE A cf c env fun t env1 => (t = .v (.bl true) ∧ HSs cf K ss env1 Q) ∨ (t = .v (.bl false) ∧ HSs cf K ss2 env1 Q)) : HSt cf K (.iff c ss ss2) env Q := fun sg M nss X S => by
  obtain ⟨v, M1, t, ns, env1, nss1, e1, R, q⟩ := h sg M nss X S
  rcases q with ⟨rfl, q⟩ | ⟨rfl, q⟩
  · cases R.or.1.1
    obtain ⟨fl, M2, o, sg2, env2, nss2, ms, e2, R2, F2, q2⟩ := q sg M1 nss1 X R.dropped
    exact ⟨fl, M2, o, sg2, env2, nss2, ms, s_ifT e1 e2, (srs_of R).seq R2, F2, q2⟩
  · cases R.or.1.1
    obtain ⟨fl, M2, o, sg2, env2, nss2, ms, e2, R2, F2, q2⟩ := q sg M1 nss1 X R.dropped
    exact ⟨fl, M2, o, sg2, env2, nss2, ms, s_ifF e1 e2, (srs_of R).seq R2, F2, q2⟩
end
end Mp.V
namespace Mp.V
open PySem L2
def SrcD (B : Nat → Prop) (M : Mm) : Src → List D → Prop
  | .tup xs, ds => Rps B M xs ds
  | .lst n, ds => ∃ xs, ¬ B n ∧ M[n]? = some (.lst xs) ∧ Rps B M xs ds
  | .cl ns, ds => ds = ns.map .int
  | .str z, ds => ds = z.cps.toList.map fun c => .str ⟨#[c]⟩
  | .rng lo n, ds => ds = (List.range n).map fun (i : Nat) => .int (lo + i)
  | .rngc lo c n, ds => ds = (List.range n).map fun (i : Nat) => .int (lo + i * c)
  | .en s, ds => ∃ es, SrcD B M s es ∧ ds = es.zipIdx.map fun q => .tup [.int (q.2 : Nat), q.1]
  | .zip s t, ds => ∃ es fs, SrcD B M s es ∧ SrcD B M t fs ∧ ds = List.zipWith (fun a b => .tup [a, b]) es fs
theorem SrcD.step {B B' : Nat → Prop} {M M' : Mm} (h : Stp B B' M M') : ∀ {s : Src} {ds : List D}, SrcD B M s ds → SrcD B' M' s ds
  | .tup _, _, r => Rps.step h r
  | .lst _, _, ⟨xs, a, b, c⟩ => ⟨xs, (h _ _ a b).1, (h _ _ a b).2, c.step h⟩
  | .cl _, _, r => r
  | .str _, _, r => r
  | .rng _ _, _, r => r
  | .rngc _ _ _, _, r => r
  | .en _, _, ⟨es, a, b⟩ => ⟨es, SrcD.step h a, b⟩
  | .zip _ _, _, ⟨es, fs, a, b, c⟩ => ⟨es, fs, SrcD.step h a, SrcD.step h b, c⟩
def OpR (B : Nat → Prop) (M : Mm) : Option PV → Option D → Prop
  | none, none => True
  | some x, some d => Rp B M x d
  | _, _ => False
theorem SrcD.get {B : Nat → Prop} {M : Mm} : ∀ {s : Src} {ds : List D}, SrcD B M s ds → ∀ i : Nat, ∃ o, s.get M i = some o ∧ OpR B M o ds[i]?
  | .tup xs, ds, r, i => by
    refine ⟨xs[i]?, rfl, ?_⟩
    cases e : ds[i]? with
    | none => rw [Rps.none r e]; trivial
    | some d => obtain ⟨x, h1, h2⟩ := Rps.get r e; rw [h1]; exact h2
  | .lst n, ds, ⟨xs, a, b, r⟩, i => by
    refine ⟨xs[i]?, by simp only [Src.get, lstAt, b]; rfl, ?_⟩
    cases e : ds[i]? with
    | none => rw [Rps.none r e]; trivial
    | some d => obtain ⟨x, h1, h2⟩ := Rps.get r e; rw [h1]; exact h2
  | .cl ns, ds, r, i => by
    subst r
    refine ⟨_, rfl, ?_⟩
    rw [List.getElem?_map]
    cases ns[i]? with
    | none => trivial
    | some j => exact .int j
  | .str z, ds, r, i => by
    subst r
    refine ⟨_, rfl, ?_⟩
    rw [List.getElem?_map, Array.getElem?_toList]
    cases z.cps[i]? with
    | none => trivial
    | some j => exact .str _
  | .rng lo n, ds, r, i => by
    subst r
    refine ⟨_, rfl, ?_⟩
    rw [List.getElem?_map]
    by_cases h : i < n
    · rw [if_pos h, List.getElem?_range h]; exact .int _
    · rw [if_neg h, List.getElem?_eq_none (by simp; omega)]; trivial
  | .rngc lo c n, ds, r, i => by
    subst r
    refine ⟨_, rfl, ?_⟩
    rw [List.getElem?_map]
    by_cases h : i < n
    · rw [if_pos h, List.getElem?_range h]; exact .int _
    · rw [if_neg h, List.getElem?_eq_none (by simp; omega)]; trivial
  | .en s, ds, ⟨es, a, b⟩, i => by
    subst b
    obtain ⟨o, h1, h2⟩ := SrcD.get a i
    refine ⟨_, by simp only [Src.get, h1]; rfl, ?_⟩
    rw [List.getElem?_map, List.getElem?_zipIdx]
    cases e : es[i]? with
    | none => rw [e] at h2; cases o with
      | none => trivial
      | some x => exact h2.elim
    | some d => rw [e] at h2; cases o with
      | none => exact h2.elim
      | some x =>
        show Rp B M (.tup [.int i, x]) (.tup [.int ((0 + i : Nat) : Int), d])
        rw [Nat.zero_add]
        exact .tup (.cons (.int _) (.cons h2 .nil))
  | .zip s t, ds, ⟨es, fs, a, b, c⟩, i => by
    subst c
    obtain ⟨o, h1, h2⟩ := SrcD.get a i
    obtain ⟨p, h3, h4⟩ := SrcD.get b i
    rw [List.getElem?_zipWith]
    cases e : es[i]? with
    | none => rw [e] at h2; cases o with
      | none => exact ⟨none, by simp only [Src.get, h1, h3], by simp; trivial⟩
      | some x => exact h2.elim
    | some d => rw [e] at h2; cases o with
      | none => exact h2.elim
      | some x =>
        cases e2 : fs[i]? with
        | none => rw [e2] at h4; cases p with
          | none => exact ⟨none, by simp only [Src.get, h1, h3], trivial⟩
          | some y => exact h4.elim
        | some f => rw [e2] at h4; cases p with
          | none => exact h4.elim
          | some y => exact ⟨some (.tup [x, y]), by simp only [Src.get, h1, h3], show Rp B M (.tup [x, y]) (.tup [d, f]) from .tup (.cons h2 (.cons h4 .nil))⟩
def HI (A : Bool) (cf : CF) (it : It) (env : Env) (Q : List D → Env → Prop) : Prop := ∀ (sg : Sg) (M : Mm) (nss : List (List Nat)) (X : Nat → Prop), SR sg M env nss X → ∃ s M' xs env' nss', evI cf it sg M = some (s, M') ∧ ERs A sg M env nss X [] M' [] [] env' nss' ∧ SrcD (Bd nss' X) M' s xs ∧ Q xs env'
def iterD : D → Option (List D)
  | .tup xs => some xs
  | .lst xs => some xs
  | .cl ns => some (ns.map .int)
  | .str z => some (z.cps.toList.map fun c => .str ⟨#[c]⟩)
  | .ptup xs => some xs
  | _ => none
section
variable {A : Bool} {cf : CF} {K : List Nat} {env : Env} {e a b c : E} {es : Es} {ss : Ss}
theorem iter_ok {B : Nat → Prop} {M : Mm} {x : PV} {d : D} {xs : List D} (h : Rp B M x d) (e : iterD d = some xs) : ∃ s, srcOf M x = some s ∧ SrcD B M s xs ∧ (s.isL = (match d with | .lst _ => true | .cl _ => true | _ => false)) ∧ (s.isT = (match d with | .tup _ => true | .ptup _ => true | _ => false)) := by
  cases h with
  | cl ns => cases e; exact ⟨.cl ns, rfl, rfl, rfl, rfl⟩
  | str z => cases e; exact ⟨.str z, rfl, rfl, rfl, rfl⟩
  | tup r => cases e; exact ⟨.tup _, rfl, r, rfl, rfl⟩
  | ptup r => cases e; exact ⟨.tup _, rfl, r, rfl, rfl⟩
  | @lst n ys ds a b r => cases e; exact ⟨.lst n, by simp only [srcOf, lstAt, b]; rfl, ⟨_, a, b, r⟩, rfl, rfl⟩
  | _ => cases e
theorem ers_end {sg : Sg} {M M' : Mm} {nss nss' : List (List Nat)} {X : Nat → Prop} {vs : List PV} {ts : List OT} {mss : List (List Nat)} {env' : Env} (R : ERs A sg M env nss X vs M' ts mss env' nss') : ERs A sg M env nss X [] M' [] [] env' nss' :=
  ⟨R.sr.mono fun n hn => .inl (by simpa using hn), trivial, by simp, by simp, fun n hn => R.nw n (.inr (by simpa using hn)), R.fr, R.le, R.al⟩
theorem i_seq {Q : List D → Env → Prop} (h : HE A cf e env fun t env1 => ∃ d xs, t.toD = some d ∧ iterD d = some xs ∧ Q xs env1) : HI A cf (.seq e) env Q := fun sg M nss X S => by
  obtain ⟨v, M', t, ns, env', nss', e1, R, d, xs, h1, h2, h3⟩ := h sg M nss X S
  have r := R.frees (ds := [d]) (by simp [h1])
  cases r with
  | cons r _ =>
    obtain ⟨s, q1, q2, _⟩ := iter_ok r h2
    exact ⟨s, M', xs, env', nss', by rw [evI, e1]; simp [q1], ers_end R, q2, h3⟩
theorem i_enum {Q : List D → Env → Prop} (h : HE A cf e env fun t env1 => ∃ d xs, t.toD = some d ∧ iterD d = some xs ∧ (match d with | .str _ => false | _ => true) = true ∧ Q (xs.zipIdx.map fun q => .tup [.int (q.2 : Nat), q.1]) env1) : HI A cf (.enum e) env Q := fun sg M nss X S => by
  obtain ⟨v, M', t, ns, env', nss', e1, R, d, xs, h1, h2, h3, h4⟩ := h sg M nss X S
  have r := R.frees (ds := [d]) (by simp [h1])
  cases r with
  | cons r _ =>
    obtain ⟨s, q1, q2, q4, q5⟩ := iter_ok r h2
    refine ⟨.en s, M', _, env', nss', ?_, ers_end R, ⟨xs, q2, rfl⟩, h4⟩
    have : (s.isL || s.isT) = true := by
      rw [q4, q5]
      cases d <;> first | rfl | (simp [iterD] at h2; done) | (simp at h3)
    rw [evI, e1]; simp only [q1]; rw [if_pos this]
theorem i_rng1 {Q : List D → Env → Prop} (h : HE A cf e env fun t env1 => ∃ j, t = .v (.int j) ∧ rngOk j = true ∧ Q ((List.range j.toNat).map fun (i : Nat) => .int (0 + (i : Int))) env1) : HI A cf (.rng1 e) env Q := fun sg M nss X S => by
  obtain ⟨v, M', t, ns, env', nss', e1, R, j, rfl, h2, h3⟩ := h sg M nss X S
  cases R.or.1.1
  exact ⟨.rng 0 j.toNat, M', _, env', nss', by rw [evI, e1]; simp [h2], ers_end R, rfl, h3⟩
def HF (cf : CF) (K : List Nat) (t : Tg) (b : Ss) (xs : List D) (env : Env) (Q : Flo → Env → Prop) : Prop := ∀ (sg : Sg) (M : Mm) (nss : List (List Nat)) (X : Nat → Prop) (s : Src) (all : List D) (i m : Nat), SR sg M env nss X → SrcD (Bd nss X) M s all → all.drop i = xs → xs.length < m → ∃ fl M' o sg' env' nss' ns, forL s (tgP t) (fun sg M => evSs cf b sg M) m i sg M = some (fl, M') ∧ SRs K sg M nss X sg' M' env' nss' ns ∧ FlR (Bd nss' fun n => X n ∨ n ∈ ns) M' o fl sg' ns ∧ Q o env'
theorem f_nil {t : Tg} {Q : Flo → Env → Prop} (q : Q .nx env) : HF cf K t ss [] env Q := fun sg M nss X s all i m S D e hm => by
  obtain ⟨o, h1, h2⟩ := D.get i
  have : all[i]? = none := by rw [List.getElem?_eq_none_iff]; simpa using e
  rw [this] at h2
  cases o with
  | some x => exact h2.elim
  | none =>
    cases m with
    | zero => simp at hm
    | succ m => exact ⟨.nx sg, M, .nx, sg, env, nss, [], by simp only [forL, h1], srs_id S, ⟨rfl, rfl⟩, q⟩
def fthn (Q : Flo → Env → Prop) (k : Env → Prop) : Flo → Env → Prop
  | .nx, env => k env
  | .ct, env => k env
  | .brk, env => Q .nx env
  | .ret t, env => Q (.ret t) env
theorem f_cons {t : Tg} {d : D} {ds : List D} {env1 : Env} {Q : Flo → Env → Prop} (hK : ∀ j ∈ K, j ∉ tgI t) (hb : bindE t d env = some env1) (h : HSs cf K ss env1 (fthn Q fun env2 => HF cf K t ss ds env2 Q)) : HF cf K t ss (d :: ds) env Q := fun sg M nss X s all i m S D e hm => by
  obtain ⟨o, h1, h2⟩ := D.get i
  have hd : all[i]? = some d := by
    have := congrArg List.head? e
    rwa [List.head?_drop] at this
  have ht : all.drop (i + 1) = ds := by rw [← List.tail_drop, e]; rfl
  rw [hd] at h2
  cases o with
  | none => exact h2.elim
  | some x =>
    cases m with
    | zero => simp at hm
    | succ m =>
      obtain ⟨nss1, sg1, e1, S1, hS1, k1⟩ := bind_ok S h2 hb
      have st0 : Stp (Bd nss X) (Bd nss1 X) M M := fun n o a b => ⟨fun z => a (z.imp (hS1 n) id), b⟩
      obtain ⟨fl, M2, o, sg2, env2, nss2, ns, e2, R2, F2, q⟩ := h sg1 M nss1 X S1
      have R2' : SRs K sg M nss X sg2 M2 env2 nss2 ns := ⟨R2.sr, R2.nd, R2.mx, fun n hn => (R2.nw n hn).imp (hS1 n) id, fun i hi hn => R2.fr i hi fun z => hn (hS1 i z), R2.le, fun j hj => (R2.kp j hj).trans (k1 j (hK j hj))⟩
      have go : ∀ sg2', fl = .nx sg2' ∨ fl = .ct sg2' → sg2' = sg2 → ns = [] → HF cf K t ss ds env2 Q → ∃ fl M' o sg' env' nss' ns, forL s (tgP t) (fun sg M => evSs cf ss sg M) (m + 1) i sg M = some (fl, M') ∧ SRs K sg M nss X sg' M' env' nss' ns ∧ FlR (Bd nss' fun n => X n ∨ n ∈ ns) M' o fl sg' ns ∧ Q o env' := by
        rintro sg2' hf rfl rfl hF
        obtain ⟨fl3, M3, o3, sg3, env3, nss3, ns3, e3, R3, F3, q3⟩ := hF sg2' M2 nss2 X s all (i + 1) m R2.nil (D.step fun n o a b => ⟨(R2'.stp n o a b).1, (R2'.stp n o a b).2⟩) ht (by simp at hm; omega)
        refine ⟨fl3, M3, o3, sg3, env3, nss3, ns3, ?_, R2'.seq R3, F3, q3⟩
        rcases hf with rfl | rfl <;> simp only [forL, h1, e1, e2, e3]
      cases o with
      | nx => cases fl <;> first | exact F2.elim | (obtain ⟨a, b⟩ := F2; exact go _ (.inl rfl) a b q)
      | ct => cases fl <;> first | exact F2.elim | (obtain ⟨a, b⟩ := F2; exact go _ (.inr rfl) a b q)
      | brk =>
        cases fl <;> first | exact F2.elim | skip
        rename_i s'
        obtain ⟨rfl, rfl⟩ := F2
        exact ⟨.nx s', M2, .nx, s', env2, nss2, [], by simp only [forL, h1, e1, e2], R2', ⟨rfl, rfl⟩, q⟩
      | ret u =>
        cases fl <;> first | exact F2.elim | skip
        exact ⟨_, M2, .ret u, sg2, env2, nss2, ns, by simp only [forL, h1, e1, e2], R2', F2, q⟩
theorem f_inv {t : Tg} {all : List D} {Q : Flo → Env → Prop} (hK : ∀ j ∈ K, j ∉ tgI t) (I : Nat → Env → Prop)
    (turn : ∀ (i : Nat) (d : D) (env : Env), all[i]? = some d → I i env → ∃ env1, bindE t d env = some env1 ∧ HSs cf K ss env1 (fthn Q (I (i + 1))))
    (stop : ∀ env, I all.length env → Q .nx env) : ∀ env, I 0 env → HF cf K t ss all env Q := by
  have key : ∀ (xs : List D) (i : Nat) (env : Env), all.drop i = xs → i ≤ all.length → I i env → HF cf K t ss xs env Q := by
    intro xs
    induction xs with
    | nil =>
      intro i env e hi h
      have : i = all.length := by
        have := congrArg List.length e
        simp at this; omega
      subst this
      exact f_nil (stop env h)
    | cons d ds ih =>
      intro i env e hi h
      have hd : all[i]? = some d := by
        have := congrArg List.head? e
        rwa [List.head?_drop] at this
      have ht : all.drop (i + 1) = ds := by rw [← List.tail_drop, e]; rfl
      obtain ⟨env1, h1, h2⟩ := turn i d env hd h
      refine f_cons hK h1 (h2.mono fun o env2 q => ?_)
      cases o with
      | nx => exact ih (i + 1) env2 ht (by have := (List.getElem?_eq_some_iff.mp hd).1; omega) q
      | ct => exact ih (i + 1) env2 ht (by have := (List.getElem?_eq_some_iff.mp hd).1; omega) q
      | brk => exact q
      | ret u => exact q
  exact fun env h => key all 0 env rfl (Nat.zero_le _) h
theorem w_for {t : Tg} {it : It} {Q : Flo → Env → Prop} (h : HI A cf it env fun xs env1 => xs.length < 900000 ∧ HF cf K t ss xs env1 Q) : HSt cf K (.for_ t it ss) env Q := fun sg M nss X S => by
  obtain ⟨s, M1, xs, env1, nss1, e1, R1, D, hl, q⟩ := h sg M nss X S
  obtain ⟨fl, M2, o, sg2, env2, nss2, ns, e2, R2, F2, q2⟩ := q sg M1 nss1 X s xs 0 bigN (R1.sr.mono fun n hn => .inl hn) D rfl (by unfold bigN; omega)
  exact ⟨fl, M2, o, sg2, env2, nss2, ns, by rw [evS, e1]; exact e2, (srs_of R1).seq R2, F2, q2⟩
end
end Mp.V
namespace Mp.V
open PySem L2
def wipeE (env : Env) : List Nat → Env
  | [] => env
  | i :: is => wipeE (env.set i none) is
def getE : List Nat → Env → Option (List OT)
  | [], _ => some []
  | i :: is, env => match env[i]?, getE is env with | some (some t), some ts => some (t :: ts) | _, _ => none
theorem set_in {nss : List (List Nat)} {i : Nat} {us : List Nat} (h : nss[i]? = some us) {n : Nat} (hn : n ∈ nss.flatten) : n ∈ us ∨ n ∈ (nss.set i []).flatten := by
  obtain ⟨l1, l2, e1, e2⟩ := set_split h
  rw [e2]
  rw [e1] at hn
  simp only [List.flatten_append, List.flatten_cons, List.mem_append] at hn ⊢
  grind
theorem getE_set {is : List Nat} {env : Env} {i : Nat} {o : Option OT} (h : i ∉ is) : getE is (env.set i o) = getE is env := by
  induction is with
  | nil => rfl
  | cons j js ih =>
    have hj : i ≠ j := fun z => h (by simp [z])
    simp only [getE, List.getElem?_set_ne hj, ih fun z => h (by simp [z])]
theorem wipe_all : ∀ {is : List Nat} {ts : List OT} {sg : Sg} {M : Mm} {env : Env} {nss : List (List Nat)} {X : Nat → Prop}, SR sg M env nss X → is.Nodup → getE is env = some ts →
    ∃ vs ms nss', setAll is vs sg = some sg ∧ is.map (fun i => sg[i]?) = vs.map (fun v => some (some v)) ∧ ORs (Bd nss X) M ts vs ms ∧ ms.flatten.Nodup ∧ (∀ n ∈ ms.flatten, n ∈ nss.flatten) ∧ SR sg M (wipeE env is) nss' (fun n => X n ∨ n ∈ ms.flatten) ∧ (∀ n ∈ nss'.flatten, n ∈ nss.flatten ∧ n ∉ ms.flatten) ∧ ∀ n ∈ nss.flatten, n ∈ ms.flatten ∨ n ∈ nss'.flatten
  | [], ts, sg, M, env, nss, X, S, _, e => by
    cases e
    exact ⟨[], [], nss, rfl, rfl, trivial, by simp, by simp, S.mono fun n hn => by simpa using hn, fun n hn => ⟨hn, by simp⟩, fun n hn => .inr hn⟩
  | i :: is, ts, sg, M, env, nss, X, S, nd, e => by
    rw [getE] at e
    split at e
    · rename_i t ts' h1 h2
      cases e
      rw [List.nodup_cons] at nd
      obtain ⟨x, us, k1, k2, k3⟩ := S.at_ i t h1
      have W := S.wipeX k2 (some x)
      rw [set_same k1] at W
      obtain ⟨vs, ms, nss', a1, a2, a3, a4, a5, a6, a7, a8⟩ := wipe_all W nd.2 (by rw [getE_set nd.1]; exact h2)
      have hf : ∀ n, n ∈ (us :: ms).flatten ↔ n ∈ us ∨ n ∈ ms.flatten := fun n => by simp
      refine ⟨x :: vs, us :: ms, nss', ?_, by simp [k1, a2], ⟨k3, a3.step ⟨fun n o p q => ⟨fun z => p ?_, q⟩, fun n _ o h => h⟩⟩, ?_, fun n hn => ?_, a6.mono fun n hn => ?_, fun n hn => ?_, fun n hn => ?_⟩
      · rw [setAll, set_same k1]; exact a1
      · rcases z with z | z
        · rcases set_in k2 z with w | w
          · exact .inr (.inr w)
          · exact .inl w
        · exact .inr (.inl z)
      · rw [List.flatten_cons, List.nodup_append]
        exact ⟨slot_nd k2 S.nd, a4, fun p hp q hq z => by subst z; exact (set_out k2 S.nd (a5 p hq)).2 hp⟩
      · rcases (hf n).mp hn with q | q
        · exact mem_fl k2 n q
        · exact (set_out k2 S.nd (a5 n q)).1
      · rcases hn with q | q
        · exact .inl (.inl q)
        · rcases (hf n).mp q with w | w
          · exact .inl (.inr w)
          · exact .inr w
      · obtain ⟨b1, b2⟩ := a7 n hn
        obtain ⟨b3, b4⟩ := set_out k2 S.nd b1
        exact ⟨b3, fun z => ((hf n).mp z).elim b4 b2⟩
      · rcases set_in k2 hn with q | q
        · exact .inl ((hf n).mpr (.inl q))
        · rcases a8 n q with w | w
          · exact .inl ((hf n).mpr (.inr w))
          · exact .inr w
    · cases e
def ioOf (io : List Nat) (ws : List PV) (vs : List PV) : Prop := io.map (fun i => ws[i]?) = vs.map some
def Call (cf : CF) (f : Nat) (io : List Nat) (args : List OT) (Q : OT → List OT → Prop) : Prop :=
  ∀ (M : Mm) (ws : List PV) (mss : List (List Nat)) (X : Nat → Prop), ORs (fun n => n ∈ mss.flatten ∨ X n) M args ws mss → mss.flatten.Nodup → (∀ n ∈ mss.flatten, ¬ X n) → (∀ n, X n → n < M.length) →
    ∃ v M' t ns fin vs ms', cf f ws M = some (v, M') ∧ ioOf io ws vs ∧ ORs (fun n => (n ∈ ms'.flatten ∨ n ∈ ns) ∨ X n) M' fin vs ms' ∧ OR (fun n => (n ∈ ms'.flatten ∨ n ∈ ns) ∨ X n) M' t v ns ∧ (ms'.flatten ++ ns).Nodup ∧ (∀ n, n ∈ ms'.flatten ∨ n ∈ ns → ¬ X n) ∧
      (∀ n, n ∈ ms'.flatten ∨ n ∈ ns → n ∈ mss.flatten ∨ M.length ≤ n) ∧ (∀ i, i < M.length → i ∉ mss.flatten → M'[i]? = M[i]?) ∧ M.length ≤ M'.length ∧ Q t fin
theorem Call.mono {cf : CF} {f : Nat} {io : List Nat} {args : List OT} {Q Q' : OT → List OT → Prop} (h : Call cf f io args Q) (hq : ∀ t fin, Q t fin → Q' t fin) : Call cf f io args Q' := fun M ws mss X h1 h2 h3 h4 => by
  obtain ⟨v, M', t, ns, fin, vs, ms', a1, a2, a3, a4, a5, a6, a7, a8, a9, a10⟩ := h M ws mss X h1 h2 h3 h4
  exact ⟨v, M', t, ns, fin, vs, ms', a1, a2, a3, a4, a5, a6, a7, a8, a9, hq _ _ a10⟩
theorem sr_start {B : Nat → Prop} {M : Mm} (z : Nat) : ∀ {args : List OT} {ws : List PV} {mss : List (List Nat)}, ORs B M args ws mss → (ws.map some ++ List.replicate z none).length = (args.map some ++ List.replicate z none).length ∧ (mss ++ List.replicate z []).length = (args.map some ++ List.replicate z none).length ∧ mss.length = args.length ∧
    (∀ (i : Nat) (t : OT), (args.map some ++ List.replicate z none)[i]? = some (some t) → ∃ x ns, (ws.map some ++ List.replicate z none)[i]? = some (some x) ∧ (mss ++ List.replicate z [])[i]? = some ns ∧ OR B M t x ns) ∧
    (∀ (i : Nat), (args.map some ++ List.replicate z none)[i]? = some none → (mss ++ List.replicate z ([] : List Nat))[i]? = some [])
  | [], [], [], _ => by
    refine ⟨by simp, by simp, rfl, fun i t h => ?_, fun i h => ?_⟩
    · simp [List.getElem?_replicate] at h
    · simp [List.getElem?_replicate] at h ⊢; exact h
  | t :: ts, v :: vs, m :: ms, ⟨a, b⟩ => by
    obtain ⟨h1, h2, h3, h4, h5⟩ := sr_start z b
    refine ⟨by simpa using h1, by simpa using h2, by simp [h3], fun i t h => ?_, fun i h => ?_⟩
    · cases i with
      | zero => simp at h; subst h; exact ⟨v, m, rfl, rfl, a⟩
      | succ i => exact h4 i t (by simpa using h)
    · cases i with
      | zero => simp at h
      | succ i => exact h5 i (by simpa using h)
  | [], [], _ :: _, h => h.elim
  | [], _ :: _, _, h => h.elim
  | _ :: _, [], _, h => h.elim
  | _ :: _, _ :: _, [], h => h.elim
def retQ (io : List Nat) (Q : OT → List OT → Prop) : Flo → Env → Prop
  | .ret t, env => ∃ fin, getE io env = some fin ∧ Q t fin
  | .nx, env => ∃ fin, getE io env = some fin ∧ Q (.v .non) fin
  | _, _ => False
theorem map_io {ws : List PV} {sg : Sg} {z : Nat} : ∀ {io : List Nat} {vs : List PV}, io.map (fun i => sg[i]?) = vs.map (fun v => some (some v)) → (∀ j ∈ io, sg[j]? = (ws.map some ++ List.replicate z none)[j]?) → (∀ j ∈ io, j < ws.length) → io.map (fun i => ws[i]?) = vs.map some
  | [], [], _, _, _ => rfl
  | [], _ :: _, h, _, _ => by simp at h
  | _ :: _, [], h, _, _ => by simp at h
  | i :: is, v :: vs, h, hk, hlt => by
    simp only [List.map_cons, List.cons.injEq] at h ⊢
    refine ⟨?_, map_io h.2 (fun j hj => hk j (by simp [hj])) (fun j hj => hlt j (by simp [hj]))⟩
    have e := hk i (by simp)
    have hi := hlt i (by simp)
    rw [h.1, List.getElem?_append_left (by simpa using hi), List.getElem?_map] at e
    rw [List.getElem?_eq_getElem hi] at e ⊢
    simp at e
    rw [e]
theorem call_fn {tab : Nat → Option Dx} {k f : Nat} {d : Df} {io : List Nat} {args : List OT} {Q : OT → List OT → Prop} (hf : tab f = some (.fn d)) (hl : args.length = d.np) (hio : io.Nodup) (hlt : ∀ j ∈ io, j < d.np)
    (h : HSs (cfN tab k) io d.body (args.map some ++ List.replicate (d.ns - d.np) none) (retQ io Q)) : Call (cfN tab (k + 1)) f io args Q := fun M ws mss X hO nd hx hX => by
  obtain ⟨b1, b2, b3, b4, b5⟩ := sr_start (d.ns - d.np) hO
  have hfl : ∀ n, n ∈ (mss ++ List.replicate (d.ns - d.np) ([] : List Nat)).flatten ↔ n ∈ mss.flatten := fun n => by simp
  have hnd : (mss ++ List.replicate (d.ns - d.np) ([] : List Nat)).flatten.Nodup := by
    rw [List.flatten_append]; simpa using nd
  have S : SR (ws.map some ++ List.replicate (d.ns - d.np) none) M (args.map some ++ List.replicate (d.ns - d.np) none) (mss ++ List.replicate (d.ns - d.np) []) X :=
    ⟨b1, b2, fun i t e => by
      obtain ⟨x, ns, c1, c2, c3⟩ := b4 i t e
      exact ⟨x, ns, c1, c2, c3.step ⟨fun n o p q => ⟨fun z => p (z.imp (hfl n).mp id), q⟩, fun n _ o h => h⟩⟩, b5, hnd, fun n hn => hx n ((hfl n).mp hn), hX⟩
  have hwl : ws.length = d.np := by
    have : ∀ {args : List OT} {ws : List PV} {mss : List (List Nat)} {B : Nat → Prop}, ORs B M args ws mss → ws.length = args.length := by
      intro args
      induction args with
      | nil => intro ws mss B h; cases ws <;> cases mss <;> first | rfl | exact h.elim
      | cons t ts ih => intro ws mss B h; cases ws <;> cases mss <;> first | exact h.elim | simp [ih h.2]
    rw [this hO, hl]
  obtain ⟨fl, M', o, sg', env', nss', ns, e1, R, F, q⟩ := h _ M _ X S
  have fin : ∀ t fin, getE io env' = some fin → Q t fin → (∀ v, OR (Bd nss' fun n => X n ∨ n ∈ ns) M' t v ns → (match (some (fl, M') : Option (Fl × Mm)) with | some (.ret v, M1) => some (v, M1) | some (.nx _, M1) => some (.non, M1) | _ => none) = some (v, M') →
      ∃ v M' t ns fin vs ms', cfN tab (k + 1) f ws M = some (v, M') ∧ ioOf io ws vs ∧ ORs (fun n => (n ∈ ms'.flatten ∨ n ∈ ns) ∨ X n) M' fin vs ms' ∧ OR (fun n => (n ∈ ms'.flatten ∨ n ∈ ns) ∨ X n) M' t v ns ∧ (ms'.flatten ++ ns).Nodup ∧ (∀ n, n ∈ ms'.flatten ∨ n ∈ ns → ¬ X n) ∧
      (∀ n, n ∈ ms'.flatten ∨ n ∈ ns → n ∈ mss.flatten ∨ M.length ≤ n) ∧ (∀ i, i < M.length → i ∉ mss.flatten → M'[i]? = M[i]?) ∧ M.length ≤ M'.length ∧ Q t fin) := by
    intro t fin g1 g2 v hv he
    obtain ⟨vs, ms, nss2, a1, a2, a3, a4, a5, a6, a7, a8⟩ := wipe_all R.sr hio g1
    refine ⟨v, M', t, ns, fin, vs, ms, ?_, map_io a2 (fun j hj => R.kp j hj) (fun j hj => by rw [hwl]; exact hlt j hj), ?_, ?_, ?_, fun n hn => ?_, fun n hn => ?_, fun i h1 h2 => R.fr i h1 fun z => h2 ((hfl i).mp z), R.le, g2⟩
    · simp only [cfN, hf, runD]
      rw [if_pos hwl, e1]
      exact he
    · refine a3.step ⟨fun n o p q => ⟨fun z => p ?_, q⟩, fun n _ o h => h⟩
      rcases z with (z | z) | z
      · exact .inl (a5 n z)
      · exact .inr (.inr z)
      · exact .inr (.inl z)
    · refine hv.step ⟨fun n o p q => ⟨fun z => p ?_, q⟩, fun n _ o h => h⟩
      rcases z with (z | z) | z
      · exact .inl (a5 n z)
      · exact .inr (.inr z)
      · exact .inr (.inl z)
    · rw [List.nodup_append]
      exact ⟨a4, R.nd, fun p hp r hr z => by subst z; exact R.sr.dj p (a5 p hp) (.inr hr)⟩
    · rcases hn with w | w
      · exact fun z => R.sr.dj n (a5 n w) (.inl z)
      · exact R.mx n w
    · rcases R.nw n (hn.elim (fun w => .inr (a5 n w)) .inl) with w | w
      · exact .inl ((hfl n).mp w)
      · exact .inr w
  cases o with
  | nx =>
    cases fl <;> first | exact F.elim | skip
    obtain ⟨rfl, rfl⟩ := F
    obtain ⟨g, g1, g2⟩ := q
    exact fin (.v .non) g g1 g2 .non ⟨.non, rfl⟩ rfl
  | ret t =>
    cases fl <;> first | exact F.elim | skip
    obtain ⟨g, g1, g2⟩ := q
    exact fin t g g1 g2 _ F rfl
  | brk => exact q.elim
  | ct => exact q.elim
inductive Ag where
  | val (d : D) | io (i : Nat)
def Ag.ix : List Ag → List Nat
  | [] => []
  | .val _ :: r => Ag.ix r
  | .io i :: r => i :: Ag.ix r
def Ag.pos : List Ag → Nat → List Nat
  | [], _ => []
  | .val _ :: r, k => Ag.pos r (k + 1)
  | .io _ :: r, k => k :: Ag.pos r (k + 1)
def Ag.mk : List Ag → List OT → Option (List OT)
  | [], [] => some []
  | .val d :: r, ts => (Ag.mk r ts).map (.v d :: ·)
  | .io _ :: r, t :: ts => (Ag.mk r ts).map (t :: ·)
  | _, _ => none
def AgR (B : Nat → Prop) (M : Mm) (sg : Sg) : List Ag → List PV → Prop
  | [], [] => True
  | .val d :: r, v :: vs => Rp B M v d ∧ AgR B M sg r vs
  | .io i :: r, v :: vs => sg[i]? = some (some v) ∧ AgR B M sg r vs
  | _, _ => False
def HAr (cf : CF) (es : Es) (env : Env) (Q : List Ag → Env → Prop) : Prop := ∀ (sg : Sg) (M : Mm) (nss : List (List Nat)) (X : Nat → Prop), SR sg M env nss X → ∃ vs M' as env' nss', evEs cf es sg M = some (vs, M') ∧ ERs false sg M env nss X [] M' [] [] env' nss' ∧ AgR (Bd nss' X) M' sg as vs ∧ Q as env'
theorem AgR.step {B B' : Nat → Prop} {M M' : Mm} {sg : Sg} (h : Stp B B' M M') : ∀ {as : List Ag} {vs : List PV}, AgR B M sg as vs → AgR B' M' sg as vs
  | [], [], _ => trivial
  | .val _ :: _, _ :: _, ⟨a, b⟩ => ⟨a.step h, AgR.step h b⟩
  | .io _ :: _, _ :: _, ⟨a, b⟩ => ⟨a, AgR.step h b⟩
  | [], _ :: _, z => z.elim
  | .val _ :: _, [], z => z.elim
  | .io _ :: _, [], z => z.elim
section
variable {A : Bool} {cf : CF} {env : Env} {e : E} {es : Es}
theorem a_nil {Q : List Ag → Env → Prop} (q : Q [] env) : HAr cf .nil env Q := fun sg M nss X S => ⟨[], M, [], env, nss, es_nil, ers_nil S, trivial, q⟩
theorem ERs.off {sg : Sg} {M M' : Mm} {nss nss' : List (List Nat)} {X : Nat → Prop} {vs : List PV} {ts : List OT} {mss : List (List Nat)} {env' : Env} (R : ERs A sg M env nss X vs M' ts mss env' nss') : ERs false sg M env nss X vs M' ts mss env' nss' := ⟨R.sr, R.or, R.nd, R.mx, R.nw, R.fr, R.le, fun z => by cases z⟩
theorem HE.off {Q : OT → Env → Prop} (h : HE A cf e env Q) : HE false cf e env Q := fun sg M nss X S => by
  obtain ⟨v, M', t, ns, env', nss', h1, h2, h3⟩ := h sg M nss X S
  exact ⟨v, M', t, ns, env', nss', h1, h2.off, h3⟩
theorem ERs.stp {sg : Sg} {M M' : Mm} {nss nss' : List (List Nat)} {X : Nat → Prop} {vs : List PV} {ts : List OT} {mss : List (List Nat)} {env' : Env} (R : ERs A sg M env nss X vs M' ts mss env' nss') : Stp (Bd nss X) (Bd nss' X) M M' := fun n o a b => by
  have hl := (List.getElem?_eq_some_iff.mp b).1
  refine ⟨fun z => ?_, by rw [R.fr n hl fun z => a (.inl z)]; exact b⟩
  rcases z with z | z
  · rcases R.nw n (.inr z) with q | q
    · exact a (.inl q)
    · omega
  · exact a (.inr z)
theorem a_val {Q : List Ag → Env → Prop} (h : HE A cf e env fun t env1 => ∃ d, t.toD = some d ∧ HAr cf es env1 fun as env2 => Q (.val d :: as) env2) : HAr cf (.cons e es) env Q := fun sg M nss X S => by
  obtain ⟨v, M1, t, ns, env1, nss1, e1, R1, d, h1, q⟩ := h sg M nss X S
  have r := R1.frees (ds := [d]) (by simp [h1])
  cases r with
  | cons r _ =>
    obtain ⟨vs, M2, as, env2, nss2, e2, R2, a2, q2⟩ := q sg M1 nss1 X R1.dropped
    exact ⟨v :: vs, M2, .val d :: as, env2, nss2, es_cons e1 e2, R1.off.seq R2, ⟨r.step R2.stp, a2⟩, q2⟩
theorem a_io {i : Nat} {t : OT} {Q : List Ag → Env → Prop} (h : env[i]? = some (some t)) (hr : HAr cf es env fun as env2 => Q (.io i :: as) env2) : HAr cf (.cons (.var i) es) env Q := fun sg M nss X S => by
  obtain ⟨x, ns, h1, h2, h3⟩ := S.at_ i t h
  obtain ⟨vs, M2, as, env2, nss2, e2, R2, a2, q2⟩ := hr sg M nss X S
  exact ⟨x :: vs, M2, .io i :: as, env2, nss2, es_cons (e_var h1) e2, R2, ⟨h1, a2⟩, q2⟩
theorem ag_or {B : Nat → Prop} {M : Mm} {sg : Sg} : ∀ {as : List Ag} {vs : List PV} {ts args : List OT} {us : List PV} {ms : List (List Nat)} (z : List PV), AgR B M sg as vs → Ag.mk as ts = some args → ORs B M ts us ms → (Ag.ix as).map (fun i => sg[i]?) = us.map (fun v => some (some v)) → ∃ mss, ORs B M args vs mss ∧ mss.flatten = ms.flatten ∧ (Ag.pos as z.length).map (fun i => (z ++ vs)[i]?) = us.map some
  | [], [], ts, args, us, ms, z, _, e, h, g => by
    cases ts <;> simp [Ag.mk] at e
    subst e
    cases us <;> cases ms <;> first | exact h.elim | exact ⟨[], trivial, rfl, rfl⟩
  | .val d :: as, v :: vs, ts, args, us, ms, z, ⟨a, b⟩, e, h, g => by
    obtain ⟨args', e', rfl⟩ := Option.map_eq_some_iff.mp (show (Ag.mk as ts).map (OT.v d :: ·) = some args from by cases ts <;> exact e)
    obtain ⟨mss, k1, k2, k3⟩ := ag_or (z ++ [v]) b e' h g
    exact ⟨[] :: mss, ⟨⟨a, rfl⟩, k1⟩, by simp [k2], by simpa [Ag.pos] using k3⟩
  | .io i :: as, v :: vs, [], args, us, ms, z, ⟨a, b⟩, e, h, g => by simp [Ag.mk] at e
  | .io i :: as, v :: vs, t :: ts, args, [], ms, z, ⟨a, b⟩, e, h, g => by cases ms <;> exact h.elim
  | .io i :: as, v :: vs, t :: ts, args, u :: us, [], z, ⟨a, b⟩, e, h, g => h.elim
  | .io i :: as, v :: vs, t :: ts, args, u :: us, m :: ms, z, ⟨a, b⟩, e, h, g => by
    obtain ⟨args', e', rfl⟩ := Option.map_eq_some_iff.mp (show (Ag.mk as ts).map (t :: ·) = some args from e)
    simp only [Ag.ix, List.map_cons, List.cons.injEq] at g
    obtain ⟨mss, k1, k2, k3⟩ := ag_or (z ++ [v]) b e' h.2 g.2
    rw [a] at g
    have : v = u := by simpa using g.1
    subst this
    exact ⟨m :: mss, ⟨h.1, k1⟩, by simp [k2], by simpa [Ag.pos] using k3⟩
  | [], _ :: _, _, _, _, _, _, h, _, _, _ => h.elim
  | .val _ :: _, [], _, _, _, _, _, h, _, _, _ => h.elim
  | .io _ :: _, [], _, _, _, _, _, h, _, _, _ => h.elim
theorem call_sr {f : Nat} {as : List Ag} {sg : Sg} {M : Mm} {nss : List (List Nat)} {X : Nat → Prop} {vs : List PV} {ts args : List OT} {Q : OT → List OT → Prop} (S : SR sg M env nss X) (ha : AgR (Bd nss X) M sg as vs) (nd : (Ag.ix as).Nodup) (hg : getE (Ag.ix as) env = some ts) (hm : Ag.mk as ts = some args) (hc : Call cf f (Ag.pos as 0) args Q) :
    ∃ v M' t ns fin, cf f vs M = some (v, M') ∧ Q t fin ∧ ∀ env2, setE (Ag.ix as) fin (wipeE env (Ag.ix as)) = some env2 → ∃ nss2, ERs false sg M env nss X [v] M' [t] [ns] env2 nss2 := by
  obtain ⟨us, ms, nss1, a1, a2, a3, a4, a5, a6, a7, a8⟩ := wipe_all S nd hg
  obtain ⟨mss, b1, b2, b3⟩ := ag_or [] ha hm a3 a2
  let Y : Nat → Prop := fun n => X n ∨ n ∈ nss1.flatten
  obtain ⟨v, M', t, ns, fin, vs2, ms', c1, c2, c3, c4, c5, c6, c7, c8, c9, c10⟩ := hc M vs mss Y (b1.step ⟨fun n o p q => ⟨fun z => p (by
      rcases z with z | z | z
      · rw [b2] at z; exact .inl (a5 n z)
      · exact .inr z
      · exact .inl (a7 n z).1), q⟩, fun n _ o h => h⟩) (by rw [b2]; exact a4) (fun n hn z => by
      rw [b2] at hn
      rcases z with z | z
      · exact S.dj n (a5 n hn) z
      · exact (a7 n z).2 hn) (fun n hn => by
      rcases hn with q | q
      · exact S.xl n q
      · exact S.lt n (a7 n q).1)
  have hvu : vs2 = us := by
    have : vs2.map some = us.map some := by
      rw [← b3]; exact c2.symm
    exact (List.map_inj_right (fun a b h => by simpa using h)).mp this
  subst hvu
  rw [b2] at c7 c8
  refine ⟨v, M', t, ns, fin, c1, c10, fun env2 hs => ?_⟩
  rw [List.nodup_append] at c5
  have S2 : SR sg M' (wipeE env (Ag.ix as)) nss1 (fun n => (X n ∨ n ∈ ns) ∨ n ∈ ms'.flatten) := a6.mem (M' := M') (fun n o p q => by
      have hl := (List.getElem?_eq_some_iff.mp q).1
      rw [c8 n hl fun z => p (.inr z)]; exact q) c9 (fun n hn => by
      rcases hn with (z | z) | z
      · exact .inl (.inl z)
      · rcases c7 n (.inr z) with w | w
        · exact .inl (.inr w)
        · exact .inr w
      · rcases c7 n (.inl z) with w | w
        · exact .inl (.inr w)
        · exact .inr w) (fun n hn => by
      have lts : ∀ {ts : List OT} {vs : List PV} {ms : List (List Nat)} {B : Nat → Prop}, ORs B M' ts vs ms → ∀ n ∈ ms.flatten, n < M'.length := by
        intro ts
        induction ts with
        | nil => intro vs ms B h n hn; cases vs <;> cases ms <;> first | exact h.elim | (simp at hn)
        | cons t ts ih =>
          intro vs ms B h n hn
          cases vs <;> cases ms <;> first | exact h.elim | skip
          rename_i m ms
          rw [List.flatten_cons, List.mem_append] at hn
          exact hn.elim (h.1.lt n) (ih h.2 n)
      rcases hn with (z | z) | z
      · have := S.xl n z; omega
      · exact c4.lt n z
      · exact lts c3 n z)
  obtain ⟨nss2, sg2, d1, d2, d3, d4⟩ := put_all (ms := ms') (ts := fin) (vs := vs2) S2 (c3.step ⟨fun n o p q => ⟨fun z => p (by
      rcases z with z | (z | z) | z
      · exact .inr (.inr z)
      · exact .inr (.inl z)
      · exact .inl (.inr z)
      · exact .inl (.inl z)), q⟩, fun n _ o h => h⟩) c5.1 (fun n hn z => by
      rcases z with z | z
      · exact c6 n (.inl hn) (.inl z)
      · exact c5.2.2 n hn n z rfl) hs
  rw [a1] at d1
  cases d1
  have hf : ∀ n, n ∈ ([ns] : List (List Nat)).flatten ↔ n ∈ ns := fun n => by simp
  refine ⟨nss2, d2.mono fun n hn => hn.imp id (hf n).mp, ⟨c4.step ⟨fun n o p q => ⟨fun z => p ?_, q⟩, fun n _ o h => h⟩, trivial⟩, by simpa using c5.2.1, fun n hn z => c6 n (.inr ((hf n).mp hn)) (.inl z), fun n hn => ?_, fun i h1 h2 => c8 i h1 fun z => h2 (a5 i z), c9, fun z => by cases z⟩
  · rcases z with z | z | z
    · rcases d3 n z with w | w
      · exact .inr (.inr w)
      · exact .inl (.inl w)
    · exact .inr (.inl z)
    · exact .inl (.inr ((hf n).mp z))
  · have key : n ∈ ms'.flatten ∨ n ∈ ns → n ∈ nss.flatten ∨ M.length ≤ n := fun z => (c7 n z).imp (a5 n) id
    rcases hn with z | z
    · exact key (.inr ((hf n).mp z))
    · rcases d3 n z with w | w
      · exact .inl (a7 n w).1
      · exact key (.inl w)
def callQ (cf : CF) (f : Nat) (as : List Ag) (env : Env) (Q : OT → Env → Prop) : Prop := (Ag.ix as).Nodup ∧ ∃ ts args, getE (Ag.ix as) env = some ts ∧ Ag.mk as ts = some args ∧ Call cf f (Ag.pos as 0) args fun t fin => ∃ env2, setE (Ag.ix as) fin (wipeE env (Ag.ix as)) = some env2 ∧ Q t env2
theorem callQ_ok {f : Nat} {as : List Ag} {Q : OT → Env → Prop} {env0 : Env} {sg : Sg} {M M1 : Mm} {nss nss1 : List (List Nat)} {X : Nat → Prop} {vs : List PV} (R : ERs false sg M env0 nss X [] M1 [] [] env nss1) (ha : AgR (Bd nss1 X) M1 sg as vs) (q : callQ cf f as env Q) : ∃ v M' t ns env' nss', cf f vs M1 = some (v, M') ∧ ERs false sg M env0 nss X [v] M' [t] [ns] env' nss' ∧ Q t env' := by
  obtain ⟨nd, ts, args, h1, h2, h3⟩ := q
  obtain ⟨v, M', t, ns, fin, e, ⟨env2, q1, q2⟩, r⟩ := call_sr R.dropped ha nd h1 h2 h3
  obtain ⟨nss2, R2⟩ := r env2 q1
  exact ⟨v, M', t, ns, env2, nss2, e, R.seq R2, q2⟩
theorem h_call {f : Nat} {Q : OT → Env → Prop} (h : HAr cf es env fun as env1 => callQ cf f as env1 Q) : HE false cf (.call f es) env Q := fun sg M nss X S => by
  obtain ⟨vs, M1, as, env1, nss1, e1, R, a, q⟩ := h sg M nss X S
  obtain ⟨v, M', t, ns, env', nss', e2, R2, q2⟩ := callQ_ok R a q
  exact ⟨v, M', t, ns, env', nss', e_call e1 e2, R2, q2⟩
end
end Mp.V
namespace Mp.V
open PySem L2
def dmutL : Mt → List D → List D → Option (D × List D)
  | .append, xs, [d] => if xs.length < 1000000 then some (.non, xs ++ [d]) else none
  | .extend, xs, [.lst ys] => if xs.length + ys.length < 1000000 then some (.non, xs ++ ys) else none
  | .pop1, xs, [.int i] => (ixN xs.length i).bind fun j => (xs[j]?).map fun y => (y, xs.eraseIdx j)
  | _, _, _ => none
section
variable {B : Nat → Prop} {M : Mm}
theorem rps_one {vs : List PV} {d : D} (h : Rps B M vs [d]) : ∃ v, vs = [v] ∧ Rp B M v d := by
  cases h with
  | cons a r => cases r; exact ⟨_, rfl, a⟩
theorem mutL_ok {m : Mt} {n : Nat} {zs vs : List PV} {xs ds xs' : List D} {r : D} (g : M[n]? = some (.lst zs)) (hz : Rps B M zs xs) (hv : Rps B M vs ds) (e : dmutL m xs ds = some (r, xs')) :
    ∃ v zs', mtOk M m (.ref n) = true ∧ mthP M m (.ref n) vs = some (v, M.set n (.lst zs')) ∧ Rps B M zs' xs' ∧ Rp B M v r := by
  have h24 : sizeLine = 16777216 := rfl
  unfold dmutL at e
  split at e
  · split at e
    · rename_i hl
      cases e
      obtain ⟨v, rfl, a⟩ := rps_one hv
      refine ⟨.non, zs ++ [v], by simp [mtOk, lstAt, g], ?_, hz.append (.cons a .nil), .non⟩
      simp only [mthP, lstAt, g, Option.bind_some]
      rw [if_pos (by rw [hz.length]; omega)]
    · cases e
  · split at e
    · rename_i hl
      cases e
      obtain ⟨v, rfl, a⟩ := rps_one hv
      cases a with
      | lst a1 a2 a3 =>
        refine ⟨.non, zs ++ _, by simp [mtOk, lstAt, g], ?_, hz.append a3, .non⟩
        simp only [mthP, lstAt, g, a2, Option.bind_some]
        rw [if_pos (by rw [hz.length, a3.length]; omega)]
    · cases e
  · obtain ⟨v, rfl, a⟩ := rps_one hv
    cases a
    obtain ⟨j, h1, h2⟩ := Option.bind_eq_some_iff.mp e
    obtain ⟨y, h3, h4⟩ := Option.map_eq_some_iff.mp h2
    cases h4
    obtain ⟨x, k1, k2⟩ := hz.get h3
    refine ⟨x, zs.eraseIdx j, by simp [mtOk, lstAt, g], ?_, hz.erase j, k2⟩
    simp only [mthP, lstAt, g, Option.bind_some]
    rw [hz.length, h1]
    simp only [Option.bind_some, k1, Option.map_some]
  · cases e
theorem putG_rps : ∀ {kvs : List (Key × PV)} {ds : List (Key × D)} {k : Key} {v : PV} {d : D}, kvs.map (·.1) = ds.map (·.1) → Rps B M (kvs.map (·.2)) (ds.map (·.2)) → Rp B M v d → (putD kvs k v).map (·.1) = (putG ds k d).map (·.1) ∧ Rps B M ((putD kvs k v).map (·.2)) ((putG ds k d).map (·.2)) := by
  intro kvs ds k v d h r hv
  have any : (kvs.any fun kv => decide (kv.1 = k)) = ds.any fun kv => decide (kv.1 = k) := by
    have e1 : (kvs.any fun kv => decide (kv.1 = k)) = (kvs.map (·.1)).any fun x => decide (x = k) := by rw [List.any_map]; rfl
    have e2 : (ds.any fun kv => decide (kv.1 = k)) = (ds.map (·.1)).any fun x => decide (x = k) := by rw [List.any_map]; rfl
    rw [e1, e2, h]
  unfold putD putG
  rw [any]
  split
  · rename_i hh
    clear hh any
    induction kvs generalizing ds with
    | nil => cases ds with
      | nil => exact ⟨rfl, .nil⟩
      | cons _ _ => simp at h
    | cons p kvs ih =>
      cases ds with
      | nil => simp at h
      | cons q ds =>
        obtain ⟨k1, v1⟩ := p
        obtain ⟨k2, d2⟩ := q
        simp only [List.map_cons, List.cons.injEq] at h r ⊢
        obtain ⟨rfl, h⟩ := h
        cases r with
        | cons a b =>
          obtain ⟨i1, i2⟩ := ih h b
          by_cases hk : k1 = k
          · simp only [hk, if_true]
            exact ⟨by simpa [hk] using i1, .cons hv (by simpa [hk] using i2)⟩
          · simp only [hk, if_false]
            exact ⟨by simpa [hk] using i1, .cons a (by simpa [hk] using i2)⟩
  · simp only [List.map_append, List.map_cons, List.map_nil]
    exact ⟨by rw [h], r.append (.cons hv .nil)⟩
end
section
variable {A : Bool} {cf : CF} {K : List Nat} {env : Env} {e a b c o : E} {es : Es} {ss : Ss}
theorem lens_l {sg : Sg} {M : Mm} {nss : List (List Nat)} {X : Nat → Prop} {xs : List D} {upd : OT → Env} (L : Lens cf o env (.ol xs) upd) (S : SR sg M env nss X) : ∃ n zs, evE cf o sg M = some (.ref n, M) ∧ n ∈ nss.flatten ∧ M[n]? = some (.lst zs) ∧ Rps (Bd nss X) M zs xs ∧
    ∀ (M1 : Mm) (zs' : List PV) (xs' : List D), (∀ i, i < M.length → M1[i]? = M[i]?) → M.length ≤ M1.length → Rps (Bd nss X) M1 zs' xs' → ∃ nss', SR sg (M1.set n (.lst zs')) (upd (.ol xs')) nss' X ∧ ∀ k ∈ nss'.flatten, k ∈ nss.flatten := by
  obtain ⟨x, ns, e1, ⟨n, zs, rfl, rfl, g1, g2⟩, hs, nd, K⟩ := L sg M nss X S
  have hn : n ∈ nss.flatten := hs n (by simp)
  refine ⟨n, zs, e1, hn, g1, g2, fun M1 zs' xs' hM hl r => ?_⟩
  have hlt := S.lt n hn
  obtain ⟨nss', W1, W2⟩ := K X (M1.set n (.lst zs')) (.ol xs') [n] (fun _ h => h) (fun k o' hk h => by
    have hk' : k ≠ n := by simpa using hk
    rw [List.getElem?_set_ne (fun z => hk' z.symm), hM k (List.getElem?_eq_some_iff.mp h).1]; exact h) (by simpa using hl)
    ⟨n, zs', rfl, rfl, List.getElem?_set_self (by omega), r.step fun k o' p q => ⟨fun z => p (z.elim id fun w => by simp at w; rw [w]; exact .inl hn), by rw [List.getElem?_set_ne (fun z => p (.inl (by rw [← z]; exact hn)))]; exact q⟩⟩ (by simp) (fun k hk => .inl hk) (fun k hk => S.dj k (hs k hk))
  exact ⟨nss', W1, fun k hk => (W2 k hk).elim id fun z => hs k z⟩
theorem lens_d {sg : Sg} {M : Mm} {nss : List (List Nat)} {X : Nat → Prop} {xs : List (Key × D)} {upd : OT → Env} (L : Lens cf o env (.od xs) upd) (S : SR sg M env nss X) : ∃ n zs, evE cf o sg M = some (.ref n, M) ∧ n ∈ nss.flatten ∧ M[n]? = some (.dic zs) ∧ zs.map (·.1) = xs.map (·.1) ∧ Rps (Bd nss X) M (zs.map (·.2)) (xs.map (·.2)) ∧
    ∀ (M1 : Mm) (zs' : List (Key × PV)) (xs' : List (Key × D)), (∀ i, i < M.length → M1[i]? = M[i]?) → M.length ≤ M1.length → zs'.map (·.1) = xs'.map (·.1) → Rps (Bd nss X) M1 (zs'.map (·.2)) (xs'.map (·.2)) → ∃ nss', SR sg (M1.set n (.dic zs')) (upd (.od xs')) nss' X ∧ ∀ k ∈ nss'.flatten, k ∈ nss.flatten := by
  obtain ⟨x, ns, e1, ⟨n, zs, rfl, rfl, g1, g0, g2⟩, hs, nd, K⟩ := L sg M nss X S
  have hn : n ∈ nss.flatten := hs n (by simp)
  refine ⟨n, zs, e1, hn, g1, g0, g2, fun M1 zs' xs' hM hl r0 r => ?_⟩
  have hlt := S.lt n hn
  obtain ⟨nss', W1, W2⟩ := K X (M1.set n (.dic zs')) (.od xs') [n] (fun _ h => h) (fun k o' hk h => by
    have hk' : k ≠ n := by simpa using hk
    rw [List.getElem?_set_ne (fun z => hk' z.symm), hM k (List.getElem?_eq_some_iff.mp h).1]; exact h) (by simpa using hl)
    ⟨n, zs', rfl, rfl, List.getElem?_set_self (by omega), r0, r.step fun k o' p q => ⟨fun z => p (z.elim id fun w => by simp at w; rw [w]; exact .inl hn), by rw [List.getElem?_set_ne (fun z => p (.inl (by rw [← z]; exact hn)))]; exact q⟩⟩ (by simp) (fun k hk => .inl hk) (fun k hk => S.dj k (hs k hk))
  exact ⟨nss', W1, fun k hk => (W2 k hk).elim id fun z => hs k z⟩
theorem ERs.chg {sg : Sg} {M M1 : Mm} {nss nss1 nss2 : List (List Nat)} {X : Nat → Prop} {vs : List PV} {ts : List OT} {mss : List (List Nat)} {env1 env2 : Env} (R : ERs A sg M env nss X vs M1 ts mss env1 nss1) {n : Nat} {ob : Ob} (hn : n ∈ nss1.flatten) (S : SR sg (M1.set n ob) env2 nss2 X) (hs : ∀ k ∈ nss2.flatten, k ∈ nss1.flatten) {v : PV} {d : D} (h : Rp (Bd nss1 X) M1 v d) : ERs false sg M env nss X [v] (M1.set n ob) [.v d] [[]] env2 nss2 := by
  have h2 : Rp (Bd nss2 X) (M1.set n ob) v d := h.step fun k o p q => ⟨fun z => p (z.imp (hs k) id), by rw [List.getElem?_set_ne (fun z => p (.inl (by rw [← z]; exact hn)))]; exact q⟩
  have r := ers_v (A := true) S h2
  refine ⟨r.sr, r.or, r.nd, r.mx, fun k hk => R.nw k (hk.imp (by simp) (hs k)), fun i h1 h3 => ?_, by have := R.le; simpa using this, fun z => by cases z⟩
  have : n ≠ i := fun z => by
    subst z
    rcases R.nw n (.inr hn) with q | q
    · exact h3 q
    · omega
  rw [List.getElem?_set_ne this]; exact R.fr i h1 h3
theorem h_mutl {m : Mt} {i : Nat} {xs0 : List D} {Q : OT → Env → Prop} (h0 : env[i]? = some (some (.ol xs0))) (h : HEs A cf es env fun ts env1 => ∃ ds xs xs' r, ts.mapM OT.toD = some ds ∧ env1[i]? = some (some (.ol xs)) ∧ dmutL m xs ds = some (r, xs') ∧ Q (.v r) (env1.set i (some (.ol xs')))) : HE false cf (.mth m (.var i) es) env Q := fun sg M nss X S => by
  obtain ⟨vs, M1, ts, mss, env1, nss1, e1, R, ds, xs, xs', r, h1, h2, h3, h4⟩ := h sg M nss X S
  obtain ⟨x, ns, k1, k2, n0, zs0, rfl, _, g0, _⟩ := S.at_ i _ h0
  obtain ⟨n, zs, e2, hn, g, rz, K⟩ := lens_l (cf := cf) (lens_var h2) R.dropped
  rw [e_var k1] at e2
  cases e2
  obtain ⟨v, zs', q1, q2, q3, q4⟩ := mutL_ok g rz (R.frees h1) h3
  obtain ⟨nss2, S2, hS2⟩ := K M1 zs' xs' (fun _ _ => rfl) (Nat.le_refl _) q3
  refine ⟨v, _, .v r, [], _, nss2, ?_, R.chg hn S2 hS2 q4, h4⟩
  have hmt : mtOk M m (.ref n0) = true := by
    cases m <;> simp [mtOk, lstAt, dicAt, g0, g] at q1 ⊢
  rw [evE, e_var k1]
  simp only [hmt, if_true, e1, q2]
theorem h_mutlp {m : Mt} {xs : List D} {upd : OT → Env} {Q : OT → Env → Prop} (L : Lens cf o env (.ol xs) upd) (h : HEs true cf es env fun ts _ => ∃ ds xs' r, ts.mapM OT.toD = some ds ∧ dmutL m xs ds = some (r, xs') ∧ Q (.v r) (upd (.ol xs'))) : HE false cf (.mth m o es) env Q := fun sg M nss X S => by
  obtain ⟨vs, M1, ts, mss, env1, nss1, e1, R, ds, xs', r, h1, h3, h4⟩ := h sg M nss X S
  obtain ⟨rfl, rfl, hM⟩ := R.al rfl
  obtain ⟨n, zs, e2, hn, g, rz, K⟩ := lens_l (cf := cf) L S
  have hlt := S.lt n hn
  obtain ⟨v, zs', q1, q2, q3, q4⟩ := mutL_ok (M := M1) (B := Bd nss1 X) (by rw [hM n hlt]; exact g) (rz.step fun k o p q => ⟨p, by rw [hM k (List.getElem?_eq_some_iff.mp q).1]; exact q⟩) (R.frees h1) h3
  obtain ⟨nss2, S2, hS2⟩ := K M1 zs' xs' hM R.le q3
  refine ⟨v, _, .v r, [], _, nss2, ?_, R.chg hn S2 hS2 q4, h4⟩
  have hmt : mtOk M m (.ref n) = true := by
    have : mtOk M1 m (.ref n) = mtOk M m (.ref n) := by cases m <;> simp [mtOk, lstAt, dicAt, hM n hlt]
    rw [← this]; exact q1
  rw [evE, e2]
  simp only [hmt, if_true, e1, q2]
theorem w_stod {Q : Flo → Env → Prop} (h : HE A cf c env fun t env1 => ∃ d kd k kvs upd, t.toD = some d ∧ pk env1 b = some (.v kd) ∧ keyD kd = some k ∧ Lens cf a env1 (.od kvs) upd ∧ kvs.length < 1000000 ∧ Q .nx (upd (.od (putG kvs k d)))) : HSt cf K (.sto a b c) env Q := fun sg M nss X S => by
  obtain ⟨v, M1, t, ns, env1, nss1, e1, R, d, kd, k, kvs, upd, h1, h2, h3, L, hl, q⟩ := h sg M nss X S
  have h24 : sizeLine = 16777216 := rfl
  obtain ⟨n, zs, e2, hn, g, g0, rz, Kk⟩ := lens_d (cf := cf) L R.dropped
  obtain ⟨w, _, e3, rw3, _⟩ := pk_ok (cf := cf) R.dropped b h2
  obtain ⟨v', hv', r⟩ := rps_one (R.frees (ds := [d]) (by simp [h1]))
  cases hv'
  obtain ⟨p1, p2⟩ := putG_rps (k := k) g0 rz r
  obtain ⟨nss2, S2, hS2⟩ := Kk M1 (putD zs k v) _ (fun _ _ => rfl) (Nat.le_refl _) p1 p2
  have R2 := R.chg hn S2 hS2 (v := .non) (d := .non) .non
  refine ⟨.nx sg, _, .nx, sg, _, nss2, [], s_sto e1 e2 e3 ?_, srs_of R2, ⟨rfl, rfl⟩, q⟩
  have hlen : zs.length = kvs.length := by have := congrArg List.length g0; simpa using this
  simp only [stoP, g, key_rt rw3.1.rt, h3, Option.bind_some]
  rw [if_pos (by omega)]
end
def okOwn (env : Env) (own : List Nat) : Bool := own.all fun j => match env[j]? with | some none => true | _ => false
theorem okOwn_at {env : Env} {own : List Nat} (h : okOwn env own = true) {j : Nat} (hj : j ∈ own) : env[j]? = some none := by
  unfold okOwn at h
  have := List.all_eq_true.mp h j hj
  split at this
  · rename_i q; exact q
  · cases this
theorem wipeP_at {sg : Sg} : ∀ {own : List Nat}, (wipeP sg own).length = sg.length ∧ ∀ j, j ∉ own → (wipeP sg own)[j]? = sg[j]?
  | [] => ⟨rfl, fun _ _ => rfl⟩
  | v :: vs => by
    obtain ⟨h1, h2⟩ := wipeP_at (sg := sg) (own := vs)
    refine ⟨by simp [wipeP, h1], fun j hj => ?_⟩
    simp only [wipeP]
    rw [List.getElem?_set_ne (fun z => hj (by simp [z])), h2 j fun z => hj (by simp [z])]
theorem SR.other {sg sg' : Sg} {M : Mm} {env : Env} {nss : List (List Nat)} {X : Nat → Prop} {own : List Nat} (S : SR sg M env nss X) (ho : okOwn env own = true) (hl : sg'.length = sg.length) (hs : ∀ j, j ∉ own → sg'[j]? = sg[j]?) : SR sg' M env nss X :=
  ⟨hl.trans S.len, S.nl, fun i t e => by
    obtain ⟨x, ns, a, b, c⟩ := S.at_ i t e
    refine ⟨x, ns, ?_, b, c⟩
    rw [hs i fun z => by rw [okOwn_at ho z] at e; cases e]; exact a, S.no, S.nd, S.dj, S.xl⟩
theorem wipeE_ok : ∀ {own : List Nat} {env : Env}, (∀ j ∈ own, j < env.length) → okOwn (wipeE env own) own = true ∧ (wipeE env own).length = env.length ∧ (∀ j : Nat, env[j]? = some none → (wipeE env own)[j]? = some none)
  | [], env, _ => ⟨rfl, rfl, fun _ h => h⟩
  | v :: vs, env, h => by
    have hv : v < env.length := h v (by simp)
    obtain ⟨h1, h2, h3⟩ := wipeE_ok (own := vs) (env := env.set v none) fun j hj => by simpa using h j (by simp [hj])
    refine ⟨?_, by simpa [wipeE] using h2, fun j hj => h3 j ?_⟩
    · unfold okOwn at h1 ⊢
      rw [List.all_cons, Bool.and_eq_true]
      refine ⟨?_, by simpa [wipeE] using h1⟩
      have : (wipeE env (v :: vs))[v]? = some none := h3 v (List.getElem?_set_self hv)
      rw [this]
    · by_cases q : v = j
      · subst q; exact List.getElem?_set_self hv
      · rw [List.getElem?_set_ne q]; exact hj
theorem SR.wipes {sg : Sg} {M : Mm} {X : Nat → Prop} : ∀ {own : List Nat} {env : Env} {nss : List (List Nat)}, SR sg M env nss X → (∀ j ∈ own, j < env.length) → ∃ nss', SR sg M (wipeE env own) nss' X ∧ ∀ n ∈ nss'.flatten, n ∈ nss.flatten
  | [], env, nss, S, _ => ⟨nss, S, fun _ h => h⟩
  | v :: vs, env, nss, S, h => by
    have hv : v < nss.length := by rw [S.nl]; exact h v (by simp)
    have hu := List.getElem?_eq_getElem hv
    have W := S.wipe hu (sg[v]?.getD none)
    have hs : sg.set v (sg[v]?.getD none) = sg := by
      have hvs : v < sg.length := by rw [S.len]; exact h v (by simp)
      refine List.ext_getElem? fun j => ?_
      by_cases q : v = j
      · subst q; rw [List.getElem?_set_self hvs, List.getElem?_eq_getElem hvs]; rfl
      · rw [List.getElem?_set_ne q]
    rw [hs] at W
    obtain ⟨nss', S', hS'⟩ := SR.wipes (own := vs) W fun j hj => by simpa using h j (by simp [hj])
    exact ⟨nss', S', fun n hn => (set_out hu S.nd (hS' n hn)).1⟩
def HL (cf : CF) (t : Tg) (c e : E) (own : List Nat) (xs acc : List D) (env : Env) (Q : List D → Env → Prop) : Prop := ∀ (sg : Sg) (M : Mm) (nss : List (List Nat)) (X : Nat → Prop) (s : Src) (all : List D) (i m dn : Nat) (av : List PV), SR sg M env nss (fun n => X n ∨ n = dn) → ¬ X dn → M[dn]? = some (.lst av) → Rps (Bd nss fun n => X n ∨ n = dn) M av acc → SrcD (Bd nss fun n => X n ∨ n = dn) M s all → all.drop i = xs → xs.length < m → acc.length + xs.length < 1000000 →
  ∃ M' yv ys env' nss', lcL s (tgP t) (fun sg M => evE cf c sg M) (fun sg M => evE cf e sg M) dn sg m i M = some M' ∧ M'[dn]? = some (.lst yv) ∧ Rps (Bd nss' fun n => X n ∨ n = dn) M' yv ys ∧ SR sg M' env' nss' (fun n => X n ∨ n = dn) ∧ okOwn env' own = true ∧ (∀ n ∈ nss'.flatten, n ∈ nss.flatten ∨ M.length ≤ n) ∧ (∀ i, i < M.length → i ≠ dn → i ∉ nss.flatten → M'[i]? = M[i]?) ∧ M.length ≤ M'.length ∧ Q ys env'
section
variable {A : Bool} {cf : CF} {K : List Nat} {env : Env} {e a b c o : E} {es : Es} {t : Tg} {own : List Nat}
theorem l_nil {acc : List D} {Q : List D → Env → Prop} (ho : okOwn env own = true) (q : Q acc env) : HL cf t c e own [] acc env Q := fun sg M nss X s all i m dn av S hx g r D e' hm ha => by
  obtain ⟨o, h1, h2⟩ := D.get i
  have : all[i]? = none := by rw [List.getElem?_eq_none_iff]; simpa using e'
  rw [this] at h2
  cases o with
  | some x => exact h2.elim
  | none =>
    cases m with
    | zero => simp at hm
    | succ m => exact ⟨M, av, acc, env, nss, by simp only [lcL, h1], g, r, S, ho, fun n hn => .inl hn, fun _ _ _ _ => rfl, Nat.le_refl _, q⟩
theorem l_cons {d : D} {ds acc : List D} {env1 : Env} {Q : List D → Env → Prop} (ht : ∀ j ∈ tgI t, j ∈ own) (hlt : ∀ j ∈ own, j < env.length) (hb : bindE t d env = some env1)
    (h : HE A cf c env1 fun u env2 => (u = .v (.bl true) ∧ HE A cf e env2 fun y env3 => ∃ f, y.toD = some f ∧ env3.length = env.length ∧ HL cf t c e own ds (acc ++ [f]) (wipeE env3 own) Q) ∨ (u = .v (.bl false) ∧ env2.length = env.length ∧ HL cf t c e own ds acc (wipeE env2 own) Q)) : HL cf t c e own (d :: ds) acc env Q := fun sg M nss X s all i m dn av S hx g r D e' hm ha => by
  obtain ⟨o, h1, h2⟩ := D.get i
  have hd : all[i]? = some d := by
    have := congrArg List.head? e'
    rwa [List.head?_drop] at this
  have htl : all.drop (i + 1) = ds := by rw [← List.tail_drop, e']; rfl
  rw [hd] at h2
  cases o with
  | none => exact h2.elim
  | some x =>
    cases m with
    | zero => simp at hm
    | succ m =>
      obtain ⟨nss1, sg1, e1, S1, hS1, k1⟩ := bind_ok S h2 hb
      have st0 : Stp (Bd nss fun n => X n ∨ n = dn) (Bd nss1 fun n => X n ∨ n = dn) M M := fun n o a b => ⟨fun z => a (z.imp (hS1 n) id), b⟩
      obtain ⟨v2, M2, u, ns2, env2, nss2, e2, R2, q⟩ := h sg1 M nss1 _ S1
      have hsl : sg.length = sg1.length := by rw [S1.len, S.len]; have := hb; exact (bind_len hb).symm
      have hdn1 : dn ∉ nss1.flatten := fun z => S1.dj dn z (.inr rfl)
      have hdl : dn < M.length := (List.getElem?_eq_some_iff.mp g).1
      have g2 : M2[dn]? = some (.lst av) := by rw [R2.fr dn hdl hdn1]; exact g
      have nw2 : ∀ n ∈ nss2.flatten, n ∈ nss.flatten ∨ M.length ≤ n := fun n hn => (R2.nw n (.inr hn)).imp (hS1 n) id
      have fr2 : ∀ i, i < M.length → i ∉ nss.flatten → M2[i]? = M[i]? := fun i h1 h2 => R2.fr i h1 fun z => h2 (hS1 i z)
      rcases q with ⟨rfl, q⟩ | ⟨rfl, hle, q⟩
      · cases R2.or.1.1
        obtain ⟨v3, M3, y, ns3, env3, nss3, e3, R3, f, q1, hle, q2⟩ := q sg1 M2 nss2 _ R2.dropped
        obtain ⟨v3', hv3, r3⟩ := rps_one (R3.frees (ds := [f]) (by simp [q1]))
        cases hv3
        have hl2 := R2.le
        have hl3 := R3.le
        have hdn2 : dn ∉ nss2.flatten := fun z => R2.dropped.dj dn z (.inr rfl)
        have hdn3 : dn ∉ nss3.flatten := fun z => R3.dropped.dj dn z (.inr rfl)
        have g3 : M3[dn]? = some (.lst av) := by rw [R3.fr dn (by omega) hdn2]; exact g2
        have st3 : Stp (Bd nss fun n => X n ∨ n = dn) (Bd nss3 fun n => X n ∨ n = dn) M M3 := fun n o a b => by
          obtain ⟨p1, p2⟩ := st0 n o a b
          obtain ⟨p3, p4⟩ := R2.stp n o p1 p2
          exact R3.stp n o p3 p4
        have nw3 : ∀ n ∈ nss3.flatten, n ∈ nss.flatten ∨ M.length ≤ n := fun n hn => by
          rcases R3.nw n (.inr hn) with w | w
          · exact nw2 n w
          · exact .inr (by omega)
        let M4 : Mm := M3.set dn (.lst (av ++ [v3]))
        have stX : Stp (Bd nss3 fun n => X n ∨ n = dn) (Bd nss3 fun n => X n ∨ n = dn) M3 M4 := fun n o a b => ⟨a, by
          show (M3.set dn _)[n]? = _
          rw [List.getElem?_set_ne (fun z => a (.inr (.inr z.symm)))]; exact b⟩
        have S4 : SR sg1 M4 env3 nss3 (fun n => X n ∨ n = dn) := R3.dropped.mem (fun n o p q => by
          show (M3.set dn _)[n]? = _
          rw [List.getElem?_set_ne (fun z => p (.inr z.symm))]; exact q) (by simp [M4]) (fun n hn => .inl hn) (fun n hn => by have := R3.dropped.xl n hn; simpa [M4] using this)
        obtain ⟨nss4, S5, hS5⟩ := SR.wipes (own := own) S4 (fun j hj => by rw [hle]; exact hlt j hj)
        have ok5 := (wipeE_ok (own := own) (env := env3) fun j hj => by rw [hle]; exact hlt j hj).1
        have S6 := S5.other ok5 hsl (fun j hj => (k1 j fun z => hj (ht j z)).symm)
        have st4 : Stp (Bd nss3 fun n => X n ∨ n = dn) (Bd nss4 fun n => X n ∨ n = dn) M3 M4 := fun n o a b => ⟨fun z => a (z.imp (hS5 n) id), (stX n o a b).2⟩
        obtain ⟨M', yv, ys, env', nss', w1, w2, w3, w4, w5, w6, w7, w8, w9⟩ := q2 sg M4 nss4 X s all (i + 1) m dn (av ++ [v3]) S6 hx (List.getElem?_set_self (by omega)) (((r.step st3).append (.cons r3 .nil)).step st4) ((D.step st3).step st4) htl (by simp at hm; omega) (by simp at ha ⊢; omega)
        have hl4 : M4.length = M3.length := by simp [M4]
        refine ⟨M', yv, ys, env', nss', ?_, w2, w3, w4, w5, fun n hn => ?_, fun i h1 h2 h3 => ?_, by omega, w9⟩
        · simp only [lcL, h1, e1, e2, e3, lstAt, g3]
          rw [if_pos (by rw [r.length]; have : sizeLine = 16777216 := rfl; simp at ha; omega)]
          exact w1
        · rcases w6 n hn with w | w
          · exact nw3 n (hS5 n w)
          · exact .inr (by omega)
        · rw [w7 i (by omega) h2 fun z => (nw3 i (hS5 i z)).elim h3 (fun w => by omega)]
          show (M3.set dn _)[i]? = _
          rw [List.getElem?_set_ne (fun z => h2 z.symm), R3.fr i (by omega) fun z => (nw2 i z).elim h3 (fun w => by omega)]
          exact fr2 i h1 h3
      · cases R2.or.1.1
        have hl2 := R2.le
        obtain ⟨nss4, S5, hS5⟩ := SR.wipes (own := own) R2.dropped (fun j hj => by rw [hle]; exact hlt j hj)
        have ok5 := (wipeE_ok (own := own) (env := env2) fun j hj => by rw [hle]; exact hlt j hj).1
        have S6 := S5.other ok5 hsl (fun j hj => (k1 j fun z => hj (ht j z)).symm)
        have st2 : Stp (Bd nss fun n => X n ∨ n = dn) (Bd nss4 fun n => X n ∨ n = dn) M M2 := fun n o a b => by
          obtain ⟨p1, p2⟩ := st0 n o a b
          obtain ⟨p3, p4⟩ := R2.stp n o p1 p2
          exact ⟨fun z => p3 (z.imp (hS5 n) id), p4⟩
        obtain ⟨M', yv, ys, env', nss', w1, w2, w3, w4, w5, w6, w7, w8, w9⟩ := q sg M2 nss4 X s all (i + 1) m dn av S6 hx g2 (r.step st2) (D.step st2) htl (by simp at hm; omega) (by simp at ha ⊢; omega)
        refine ⟨M', yv, ys, env', nss', ?_, w2, w3, w4, w5, fun n hn => ?_, fun i h1 h2 h3 => ?_, by omega, w9⟩
        · simp only [lcL, h1, e1, e2]; exact w1
        · rcases w6 n hn with w | w
          · exact nw2 n (hS5 n w)
          · exact .inr (by omega)
        · rw [w7 i (by omega) h2 fun z => (nw2 i (hS5 i z)).elim h3 (fun w => by omega)]
          exact fr2 i h1 h3
where
  bind_len {t : Tg} {d : D} {env env1 : Env} (h : bindE t d env = some env1) : env1.length = env.length := by
    have key : ∀ {is : List Nat} {ds : List D} {env env1 : Env}, setV is ds env = some env1 → env1.length = env.length := by
      intro is
      induction is with
      | nil => intro ds env env1 h; cases ds <;> simp [setV] at h; rw [h]
      | cons i is ih =>
        intro ds env env1 h
        cases ds with
        | nil => simp [setV] at h
        | cons d ds => have := ih (show setV is ds (env.set i (some (.v d))) = some env1 from h); simpa using this
    unfold bindE at h
    split at h
    · cases h; simp
    · exact key h
    · exact key h
    · have := key h; simpa using this
    · have := key h; simpa using this
    · cases h
theorem h_lc {it : It} {Q : OT → Env → Prop} (h : HI A cf it env fun xs env1 => okOwn env1 own = true ∧ xs.length < 900000 ∧ HL cf t c e own xs [] env1 fun ys env2 => Q (.ol ys) env2) : HE false cf (.lc own t it c e) env Q := fun sg M nss X S => by
  obtain ⟨s, M1, xs, env1, nss1, e1, R, D, ho, hl, q⟩ := h sg M nss X S
  have S1 := R.dropped
  obtain ⟨wl, wa⟩ := wipeP_at (sg := sg) (own := own)
  let M2 : Mm := M1 ++ [.lst []]
  have hap : ∀ (n : Nat) (x : Ob), M1[n]? = some x → M2[n]? = some x := fun n x h => by
    show (M1 ++ [_])[n]? = _
    rw [List.getElem?_append_left (List.getElem?_eq_some_iff.mp h).1]; exact h
  have S2 : SR (wipeP sg own) M2 env1 nss1 (fun n => X n ∨ n = M1.length) := (S1.other ho wl wa).mem (fun n x _ h => hap n x h) (by simp [M2]) (fun n hn => hn.imp id fun z => by omega) (fun n hn => by
    rcases hn with z | z
    · have := S1.xl n z; simp [M2]; omega
    · simp [M2, z])
  have st : Stp (Bd nss1 X) (Bd nss1 fun n => X n ∨ n = M1.length) M1 M2 := fun n o a b => ⟨fun z => by
    rcases z with z | z | z
    · exact a (.inl z)
    · exact a (.inr z)
    · have := (List.getElem?_eq_some_iff.mp b).1; omega, hap n o b⟩
  obtain ⟨M', yv, ys, env', nss', w1, w2, w3, w4, w5, w6, w7, w8, w9⟩ := q (wipeP sg own) M2 nss1 X s xs 0 bigN M1.length [] S2 (fun z => by have := S1.xl _ z; omega) (by simp [M2]) .nil (D.step st) rfl (by unfold bigN; omega) (by simp; omega)
  have S3 := w4.other w5 wl.symm (fun j hj => (wa j hj).symm)
  have hf : ∀ n, n ∈ ([[M1.length]] : List (List Nat)).flatten ↔ n = M1.length := fun n => by simp
  have hml := R.le
  have hm2 : M2.length = M1.length + 1 := by simp [M2]
  refine ⟨.ref M1.length, M', .ol ys, [M1.length], env', nss', ?_, ⟨S3.mono fun n hn => hn.imp id (hf n).mp, ⟨⟨M1.length, yv, rfl, rfl, w2, w3.step fun n o a b => ⟨fun z => a (z.imp id fun w => w.imp id (hf n).mp), b⟩⟩, trivial⟩, by simp, fun n hn z => ?_, fun n hn => ?_, fun i h1 h2 => ?_, by omega, fun z => by cases z⟩, w9⟩
  · rw [evE, e1]; exact congrArg (Option.map fun M2 => (PV.ref M1.length, M2)) w1
  · rw [(hf n).mp hn] at z; have := S1.xl _ z; omega
  · rcases hn with z | z
    · rw [(hf n).mp z]; exact .inr hml
    · rcases w6 n z with w | w
      · exact R.nw n (.inr w)
      · exact .inr (by omega)
  · rw [w7 i (by omega) (by omega) fun z => by
      rcases R.nw i (.inr z) with q | q
      · exact h2 q
      · omega]
    rw [show M2[i]? = M1[i]? from by show (M1 ++ [_])[i]? = _; rw [List.getElem?_append_left (by omega)]]
    exact R.fr i h1 h2
end
end Mp.V
namespace Mp.V
open PySem L2
def dfD : PV → Option D
  | .tup [] => some (.tup [])
  | v => conD v
theorem dfD_ok {B : Nat → Prop} {M : Mm} {v : PV} {d : D} (h : dfD v = some d) : Rp B M v d := by
  unfold dfD at h
  split at h
  · cases h; exact .tup .nil
  · cases v <;> simp [conD] at h <;> subst h <;> constructor
theorem AgR.get {B : Nat → Prop} {M : Mm} {sg : Sg} : ∀ {as : List Ag} {vs : List PV} {i : Nat} {a : Ag}, AgR B M sg as vs → as[i]? = some a → ∃ v, vs[i]? = some v ∧ AgR B M sg [a] [v]
  | [], _, i, a, _, e => by simp at e
  | .val d :: as, [], _, _, h, _ => h.elim
  | .io d :: as, [], _, _, h, _ => h.elim
  | .val d :: as, v :: vs, 0, a, h, e => by simp at e; subst e; exact ⟨v, rfl, h.1, trivial⟩
  | .io d :: as, v :: vs, 0, a, h, e => by simp at e; subst e; exact ⟨v, rfl, h.1, trivial⟩
  | .val d :: as, v :: vs, i + 1, a, h, e => AgR.get (i := i) h.2 (by simpa using e)
  | .io d :: as, v :: vs, i + 1, a, h, e => AgR.get (i := i) h.2 (by simpa using e)
theorem AgR.cons {B : Nat → Prop} {M : Mm} {sg : Sg} {a : Ag} {v : PV} {as : List Ag} {vs : List PV} (h : AgR B M sg [a] [v]) (h2 : AgR B M sg as vs) : AgR B M sg (a :: as) (v :: vs) := by
  cases a with
  | val d => exact ⟨h.1, h2⟩
  | io i => exact ⟨h.1, h2⟩
def permA (as : List Ag) (p : List Nat) : Option (List Ag) := p.mapM fun i => as[i]?
theorem perm_agr {B : Nat → Prop} {M : Mm} {sg : Sg} {as : List Ag} {vs : List PV} (h : AgR B M sg as vs) : ∀ {p : List Nat} {bs : List Ag}, permA as p = some bs → ∃ ys, permP vs p = some ys ∧ AgR B M sg bs ys
  | [], bs, e => by simp [permA] at e; subst e; exact ⟨[], rfl, trivial⟩
  | i :: p, bs, e => by
    unfold permA at e
    rw [List.mapM_cons] at e
    obtain ⟨y, h1, h2⟩ := Option.bind_eq_some_iff.mp e
    obtain ⟨ys', h3, h4⟩ := Option.bind_eq_some_iff.mp h2
    cases h4
    obtain ⟨v, k1, k2⟩ := h.get h1
    obtain ⟨ys, k3, k4⟩ := perm_agr h (p := p) h3
    refine ⟨v :: ys, ?_, k2.cons k4⟩
    unfold permP at k3 ⊢
    rw [List.mapM_cons, k1, k3]; rfl
theorem AgR.vals0 {B : Nat → Prop} {M : Mm} {sg : Sg} : ∀ {ds : List PV} {es : List D}, ds.mapM dfD = some es → AgR B M sg (es.map .val) ds
  | [], es, e => by cases e; trivial
  | d :: ds, es, e => by
    rw [List.mapM_cons] at e
    obtain ⟨y, h1, h2⟩ := Option.bind_eq_some_iff.mp e
    obtain ⟨ys', h3, h4⟩ := Option.bind_eq_some_iff.mp h2
    cases h4
    exact ⟨dfD_ok h1, AgR.vals0 h3⟩
theorem AgR.vals {B : Nat → Prop} {M : Mm} {sg : Sg} : ∀ {as : List Ag} {vs ds : List PV} {es : List D}, AgR B M sg as vs → ds.mapM dfD = some es → AgR B M sg (as ++ es.map .val) (vs ++ ds)
  | [], [], ds, es, _, e => AgR.vals0 e
  | .val d :: as, v :: vs, ds, es, h, e => ⟨h.1, AgR.vals h.2 e⟩
  | .io d :: as, v :: vs, ds, es, h, e => ⟨h.1, AgR.vals h.2 e⟩
  | [], _ :: _, _, _, h, _ => h.elim
  | .val _ :: _, [], _, _, h, _ => h.elim
  | .io _ :: _, [], _, _, h, _ => h.elim
section
variable {A : Bool} {cf : CF} {env : Env} {e a b c o : E} {es : Es}
theorem h_callp {f : Nat} {p : List Nat} {Q : OT → Env → Prop} (h : HAr cf es env fun as env1 => ∃ bs, permA as p = some bs ∧ callQ cf f bs env1 Q) : HE false cf (.callp f es p) env Q := fun sg M nss X S => by
  obtain ⟨vs, M1, as, env1, nss1, e1, R, ag, bs, hb, q⟩ := h sg M nss X S
  obtain ⟨ys, k1, k2⟩ := perm_agr ag hb
  obtain ⟨v, M', t, ns, env', nss', e2, R2, q2⟩ := callQ_ok R k2 q
  exact ⟨v, M', t, ns, env', nss', by rw [evE, e1]; simp only [k1, Option.bind_some]; exact e2, R2, q2⟩
end
end Mp.V
namespace Mp
open PySem L2
def Dr.Ev.wd : Dr.Ev → String
  | .put _ _ => "put" | .drop _ => "drop" | .join _ => "join" | .read _ _ => "read" | .save _ => "save" | .load _ _ => "load" | .wait => "wait"
theorem wd_at (e : Dr.Ev) : ∃ l, e.pv = .tup (.str e.wd :: l) := by cases e <;> exact ⟨_, rfl⟩
end Mp
namespace Mp
open PySem L2
theorem Bx.lt {M : Mm} {b : Nat} {k : Int} (h : Bx M b k) : b < M.length := by obtain ⟨_, _, _, hb, _⟩ := h; exact lt_of hb
theorem key_fl {k : Str} (h : Dr.KeyOk k) : FlOk (.str k) := by
  obtain ⟨s, _, rfl⟩ := h
  exact lay_str s
end Mp
namespace Mp.V
open PySem L2
mutual
def D.pl : D → Option PV
  | .non => some .non
  | .bl b => some (.bl b)
  | .int i => some (.int i)
  | .str s => some (.str s)
  | .cl ns => some (.cl ns)
  | .tup xs => (D.pls xs).map .tup
  | _ => none
def D.pls : List D → Option (List PV)
  | [] => some []
  | d :: ds => match d.pl, D.pls ds with | some v, some vs => some (v :: vs) | _, _ => none
end
section
variable {B : Nat → Prop} {M : Mm}
mutual
theorem Rp.pl : ∀ {x : PV} {d : D} {v : PV}, Rp B M x d → d.pl = some v → x = v
  | _, _, _, .non, e => by simp [D.pl] at e; exact e
  | _, _, _, .bl b, e => by simp [D.pl] at e; exact e
  | _, _, _, .int b, e => by simp [D.pl] at e; exact e
  | _, _, _, .str b, e => by simp [D.pl] at e; exact e
  | _, _, _, .cl b, e => by simp [D.pl] at e; exact e
  | _, _, _, .fn a b, e => by simp [D.pl] at e
  | _, _, _, .ptup _, e => by simp [D.pl] at e
  | _, _, _, .tup r, e => by
    rw [D.pl] at e
    obtain ⟨vs, h1, rfl⟩ := Option.map_eq_some_iff.mp e
    rw [Rps.pl r h1]
  | _, _, _, .lst _ _ _, e => by simp [D.pl] at e
  | _, _, _, .dic _ _ _ _, e => by simp [D.pl] at e
  | _, _, _, .ins _ _ _ _, e => by simp [D.pl] at e
  | _, _, _, .slt _ _ _, e => by simp [D.pl] at e
theorem Rps.pl : ∀ {x : List PV} {d : List D} {v : List PV}, Rps B M x d → D.pls d = some v → x = v
  | _, _, _, .nil, e => by simp [D.pls] at e; exact e.symm
  | _, _, _, .cons a b, e => by
    rw [D.pls] at e
    split at e
    · rename_i v vs h1 h2
      cases e
      rw [Rp.pl a h1, Rps.pl b h2]
    · cases e
end
mutual
theorem rp_pl : ∀ {d : D} {v : PV}, d.pl = some v → Rp B M v d
  | .non, _, e => by simp [D.pl] at e; subst e; exact .non
  | .bl b, _, e => by simp [D.pl] at e; subst e; exact .bl b
  | .int b, _, e => by simp [D.pl] at e; subst e; exact .int b
  | .str b, _, e => by simp [D.pl] at e; subst e; exact .str b
  | .cl b, _, e => by simp [D.pl] at e; subst e; exact .cl b
  | .tup xs, _, e => by
    rw [D.pl] at e
    obtain ⟨vs, h1, rfl⟩ := Option.map_eq_some_iff.mp e
    exact .tup (rps_pl h1)
  | .fn _ _, _, e => by simp [D.pl] at e
  | .ptup _, _, e => by simp [D.pl] at e
  | .lst _, _, e => by simp [D.pl] at e
  | .dic _, _, e => by simp [D.pl] at e
  | .ins _ _, _, e => by simp [D.pl] at e
  | .slt _ _, _, e => by simp [D.pl] at e
theorem rps_pl : ∀ {d : List D} {v : List PV}, D.pls d = some v → Rps B M v d
  | [], _, e => by simp [D.pls] at e; subst e; exact .nil
  | d :: ds, _, e => by
    rw [D.pls] at e
    split at e
    · rename_i v vs h1 h2
      cases e
      exact .cons (rp_pl h1) (rps_pl h2)
    · cases e
end
end
theorem pls_map {α : Type} {f : α → D} {g : α → PV} : ∀ {l : List α}, (∀ a ∈ l, (f a).pl = some (g a)) → D.pls (l.map f) = some (l.map g)
  | [], _ => by rw [List.map_nil, D.pls]; rfl
  | a :: l, h => by
    rw [List.map_cons, D.pls, h a (by simp), pls_map fun b hb => h b (by simp [hb])]
    rfl
def evD : Dr.Ev → D
  | .put k v => .tup [.str "put", .str k, .int v]
  | .drop k => .tup [.str "drop", .str k]
  | .join r => .tup [.str "join", .int r]
  | .read r u => .tup [.str "read", .int r, .int u]
  | .save r => .tup [.str "save", .int r]
  | .load r c => .tup [.str "load", .int r, .int c]
  | .wait => .tup [.str "wait"]
theorem evD_pl (e : Dr.Ev) : (evD e).pl = some e.pv := by cases e <;> simp [evD, D.pl, D.pls, Dr.Ev.pv]
def tbD (es : List Dr.Ev) : D := .tup (es.map evD)
theorem tbD_pl (es : List Dr.Ev) : (tbD es).pl = some (.tup (es.map Dr.Ev.pv)) := by
  rw [tbD, D.pl, pls_map fun e _ => evD_pl e]; rfl
theorem vals_or {B : Nat → Prop} {M : Mm} : ∀ {ds : List D} {ws : List PV} {mss : List (List Nat)}, ORs B M (ds.map .v) ws mss → Rps B M ws ds ∧ mss.flatten = []
  | [], [], [], _ => ⟨.nil, rfl⟩
  | d :: ds, w :: ws, m :: ms, ⟨⟨a, b⟩, c⟩ => by
    obtain ⟨h1, h2⟩ := vals_or c
    exact ⟨.cons a h1, by simp [b, h2]⟩
  | [], [], _ :: _, h => h.elim
  | [], _ :: _, _, h => h.elim
  | _ :: _, [], _, h => h.elim
  | _ :: _, _ :: _, [], h => h.elim
theorem call_frm {cf : CF} {f : Nat} {ds : List D} {P : OT → Prop} (h : ∀ (M : Mm) (X : Nat → Prop) (ws : List PV), Rps X M ws ds → (∀ n, X n → n < M.length) → ∃ v M' t ns, cf f ws M = some (v, M') ∧ Frm [] M M' ∧ OR (fun n => n ∈ ns ∨ X n) M' t v ns ∧ ns.Nodup ∧ (∀ n ∈ ns, M.length ≤ n) ∧ P t) : Call cf f [] (ds.map .v) (fun r fin => fin = [] ∧ P r) := fun M ws mss X hO nd hx hX => by
  obtain ⟨r, hm⟩ := vals_or hO
  obtain ⟨v, M', t, ns, e, F, o, nd2, nw, p⟩ := h M X ws (r.step fun n o a b => ⟨fun z => a (.inr z), b⟩) hX
  have hno : ∀ n, n ∈ ([] : List (List Nat)).flatten → False := by simp
  refine ⟨v, M', t, ns, [], [], [], e, rfl, trivial, o.step ⟨fun n o a b => ⟨fun z => a (by
      rcases z with (z | z) | z
      · exact (hno n z).elim
      · exact .inl z
      · exact .inr z), b⟩, fun n _ o h => h⟩, by simpa using nd2, fun n hn z => ?_, fun n hn => ?_, fun i h1 _ => F.at_ i (by simp) h1, F.len, rfl, p⟩
  · rcases hn with w | w
    · exact (hno n w).elim
    · have := nw n w; have := hX n z; omega
  · rcases hn with w | w
    · exact (hno n w).elim
    · exact .inr (nw n w)
def BxT (t : OT) (k : Int) : Prop := ∃ d s c : Int, t = .ol [.int d, .int s, .int c] ∧ 0 ≤ d ∧ 0 ≤ s ∧ s < 2147483563 ∧ 0 ≤ c ∧ c ≤ k
theorem BxT.mono {t : OT} {k k' : Int} (h : BxT t k) (hk : k ≤ k') : BxT t k' := by
  obtain ⟨d, s, c, a, b, e, f, g, i⟩ := h
  exact ⟨d, s, c, a, b, e, f, g, by omega⟩
theorem bx_of {B : Nat → Prop} {M : Mm} {t : OT} {x : PV} {ns : List Nat} {k : Int} (h : OR B M t x ns) (ht : BxT t k) : ∃ b, x = .ref b ∧ ns = [b] ∧ Bx M b k := by
  obtain ⟨d, s, c, rfl, h1, h2, h3, h4, h5⟩ := ht
  obtain ⟨b, xs, rfl, rfl, g, r⟩ := h
  have : xs = [.int d, .int s, .int c] := r.pl (by simp [D.pls, D.pl])
  subst this
  exact ⟨b, rfl, rfl, d, s, c, g, h1, h2, h3, h4, h5⟩
theorem of_bx {B : Nat → Prop} {M : Mm} {b : Nat} {k : Int} (h : Bx M b k) : ∃ t, BxT t k ∧ OR B M t (.ref b) [b] := by
  obtain ⟨d, s, c, g, h1, h2, h3, h4, h5⟩ := h
  exact ⟨.ol [.int d, .int s, .int c], ⟨d, s, c, rfl, h1, h2, h3, h4, h5⟩, b, _, rfl, rfl, g, rps_pl (by simp [D.pls, D.pl])⟩
theorem call_box {cf : CF} {f : Nat} {t : OT} {k k' : Int} {ds : List D} {P : D → Prop} (ht : BxT t k) (h : ∀ (M : Mm) (b : Nat) (X : Nat → Prop) (ws : List PV), Bx M b k → Rps (fun n => n = b ∨ X n) M ws ds → (∀ n, X n → n < M.length) → ∃ v M' d, cf f (.ref b :: ws) M = some (v, M') ∧ Frm [b] M M' ∧ Bx M' b k' ∧ Rp (fun n => n = b ∨ X n) M' v d ∧ P d) : Call cf f [0] (t :: ds.map .v) (fun r fin => ∃ d t', r = .v d ∧ fin = [t'] ∧ BxT t' k' ∧ P d) := fun M ws mss X hO nd hx hX => by
  cases ws with
  | nil => cases mss <;> exact hO.elim
  | cons w ws => cases mss with
    | nil => exact hO.elim
    | cons m mss =>
      obtain ⟨b, rfl, rfl, B⟩ := bx_of hO.1 ht
      obtain ⟨r, hm⟩ := vals_or hO.2
      have hf : ∀ n, n ∈ ([b] :: mss).flatten ↔ n = b := fun n => by simp [hm]
      obtain ⟨v, M', d, e, F, B', r', p⟩ := h M b X ws B (r.step fun n o p q => ⟨fun z => p (z.imp (hf n).mpr id), q⟩) hX
      obtain ⟨t', h1, h2⟩ := of_bx (B := fun n => n = b ∨ X n) B'
      have hg : ∀ n, (n ∈ ([[b]] : List (List Nat)).flatten ∨ n ∈ ([] : List Nat)) ↔ n = b := fun n => by simp
      refine ⟨v, M', .v d, [], [t'], [.ref b], [[b]], e, rfl, ⟨h2.step ⟨fun n o p q => ⟨fun z => p (z.imp (hg n).mp id), q⟩, fun n _ o h => h⟩, trivial⟩, ⟨r'.step fun n o p q => ⟨fun z => p (z.imp (hg n).mp id), q⟩, rfl⟩, by simp, fun n hn => ?_, fun n hn => .inl ((hf n).mpr ((hg n).mp hn)), fun i h3 h4 => F.at_ i (fun z => h4 ((hf i).mpr (by simpa using z))) h3, F.len, d, t', rfl, rfl, h1, p⟩
      rw [(hg n).mp hn]
      exact hx b ((hf b).mpr rfl)
theorem call_take {j : Nat} {t : OT} {k n : Int} (ht : BxT t k) (hk : k < 1000000000000) (h0 : 0 < n) (h1 : n < 1000000000) : Call (cfN tab (j + 1)) i_l_take [0] [t, .v (.int n)] (fun r fin => ∃ d t', r = .v d ∧ fin = [t'] ∧ BxT t' (k + 1) ∧ ∃ i, d = .int i ∧ 0 ≤ i ∧ i < n) :=
  call_box (ds := [.int n]) ht fun M b X ws B r hX => by
    have : ws = [.int n] := r.pl (by simp [D.pls, D.pl])
    subst this
    obtain ⟨i, l, i0, i1, e, B'⟩ := ht_ j M b k n B hk h0 h1
    exact ⟨_, _, .int i, e, Frm.set (by simp), B', .int i, i, rfl, i0, i1⟩
where ht_ (j : Nat) := Mp.ht j
end Mp.V
namespace Mp.V
open PySem L2
theorem l_pure {A : Bool} {cf : CF} {t : Tg} {c e : E} {own : List Nat} {p : D → Bool} {F : D → D} {env : Env} (ht : ∀ j ∈ tgI t, j ∈ own) (hlt : ∀ j ∈ own, j < env.length) (ho : okOwn env own = true) :
    ∀ {xs acc : List D} {Q : List D → Env → Prop}, (∀ x ∈ xs, ∃ env1, bindE t x env = some env1 ∧ wipeE env1 own = env ∧ HE A cf c env1 (fun u env2 => u = .v (.bl (p x)) ∧ env2 = env1) ∧ (p x = true → HE A cf e env1 (fun y env3 => y.toD = some (F x) ∧ env3 = env1))) → Q (acc ++ (xs.filter p).map F) env → HL cf t c e own xs acc env Q
  | [], acc, Q, _, q => l_nil ho (by simpa using q)
  | x :: xs, acc, Q, h, q => by
    obtain ⟨env1, h1, h2, h3, h4⟩ := h x (by simp)
    have hlen := l_cons.bind_len h1
    refine l_cons ht hlt h1 (h3.mono fun u env2 hu => ?_)
    obtain ⟨rfl, rfl⟩ := hu
    cases hp : p x with
    | true =>
      refine .inl ⟨rfl, (h4 hp).mono fun y env3 hy => ?_⟩
      obtain ⟨k1, rfl⟩ := hy
      refine ⟨F x, k1, hlen, ?_⟩
      rw [h2]
      exact l_pure ht hlt ho (fun y hy => h y (by simp [hy])) (by rw [List.filter_cons, if_pos hp] at q; simpa using q)
    | false =>
      refine .inr ⟨rfl, hlen, ?_⟩
      rw [h2]
      exact l_pure ht hlt ho (fun y hy => h y (by simp [hy])) (by rw [List.filter_cons, if_neg (by simp [hp])] at q; exact q)
theorem cutG_hi {α : Type} {xs : List α} {u : Nat} : cutG xs none (some (u : Int)) = xs.take u := by
  unfold cutG
  rw [HT.sIx_nat, HT.sIx_none]
  rw [List.drop_zero, Nat.sub_zero]
  by_cases h : u ≤ xs.length
  · rw [Nat.min_eq_left h]
  · rw [Nat.min_eq_right (by omega), List.take_of_length_le (Nat.le_refl _), List.take_of_length_le (by omega)]
def isSeq (d : D) (xs : List D) : Prop := d = .tup xs ∨ d = .lst xs
theorem isSeq.iter {d : D} {xs : List D} (h : isSeq d xs) : iterD d = some xs := by rcases h with rfl | rfl <;> rfl
theorem isSeq.len {d : D} {xs : List D} (h : isSeq d xs) : dblt .len [d] = some (.int xs.length) := by rcases h with rfl | rfl <;> rfl
theorem isSeq.idx {d : D} {xs : List D} (h : isSeq d xs) (i : Int) : didx d (.int i) = atI xs i := by rcases h with rfl | rfl <;> rfl
theorem din2 {w a b : Str} : din (.str w) (.tup [.str a, .str b]) = some (decide (w = a) || decide (w = b)) := by
  simp [din, dinP, D.flat, deqF]
  by_cases h1 : a = w <;> by_cases h2 : b = w <;> simp [h1, h2, eq_comm (a := w)]
end Mp.V
namespace Mp.V
open PySem L2
theorem rng_at {n i : Nat} {d : D} (h : ((List.range n).map fun (i : Nat) => (D.int (0 + (i : Int))))[i]? = some d) : d = .int (i : Nat) ∧ i < n := by
  rw [List.getElem?_map] at h
  obtain ⟨k, h1, rfl⟩ := Option.map_eq_some_iff.mp h
  have := (List.getElem?_eq_some_iff.mp h1)
  obtain ⟨h2, h3⟩ := this
  simp at h2 h3
  subst h3
  exact ⟨by simp, h2⟩
end Mp.V
namespace Mp.V
open PySem L2
mutual
def D.soft : D → D
  | .tup xs => .lst (D.softs xs)
  | .lst xs => .lst (D.softs xs)
  | d => d
def D.softs : List D → List D
  | [] => []
  | d :: ds => d.soft :: D.softs ds
end
theorem softs_map : ∀ xs : List D, D.softs xs = xs.map D.soft
  | [] => by rw [D.softs]; rfl
  | x :: xs => by rw [D.softs, softs_map xs]; rfl
def D.ok : Nat → D → Prop
  | 0, _ => False
  | k + 1, .tup xs => xs.length < 1000 ∧ ∀ x ∈ xs, D.ok k x
  | k + 1, .lst xs => xs.length < 1000 ∧ ∀ x ∈ xs, D.ok k x
  | _ + 1, .non => True
  | _ + 1, .bl _ => True
  | _ + 1, .int _ => True
  | _ + 1, .str _ => True
  | _, _ => False
def softT : D → OT
  | .tup xs => .ol (D.softs xs)
  | .lst xs => .ol (D.softs xs)
  | d => .v d
theorem softT_D (d : D) : (softT d).toD = some d.soft := by cases d <;> simp [softT, OT.toD, D.soft]
theorem call_lists {j : Nat} : ∀ {k : Nat} {d : D}, D.ok k d → Call (cfN tab (j + k)) i_l_lists [] [.v d] (fun r fin => r = softT d ∧ fin = [])
  | 0, _, h => h.elim
  | k + 1, d, h => by
    refine call_fn (d := ir_l_lists) (k := j + k) rfl rfl (by simp) (by simp) ?_
    have seq : ∀ xs : List D, isSeq d xs → xs.length < 1000 → (∀ x ∈ xs, D.ok k x) → HE false (cfN tab (j + k)) (.lc [1] (.name 1) (.seq (.var 0)) (.con (.bl true)) (.call i_l_lists (.cons (.var 1) .nil))) [some (.v d), none] (fun t _ => t = .ol (D.softs xs)) := by
      intro xs hs hl hx
      refine h_lc (A := false) (i_seq (h_pk (d := d) rfl ⟨_, xs, rfl, hs.iter, rfl, by omega, ?_⟩))
      refine l_pure (A := false) (p := fun _ => true) (F := D.soft) (by simp [tgI]) (by simp) rfl (fun x hx' => ⟨_, rfl, rfl, h_pk rfl ⟨rfl, rfl⟩, fun _ => ?_⟩) ?_
      · refine h_call (a_val (A := false) (h_pk (d := x) rfl ⟨x, rfl, a_nil ?_⟩))
        refine ⟨by simp [Ag.ix], [], _, rfl, rfl, (call_lists (j := j) (hx x hx')).mono ?_⟩
        rintro r fin ⟨rfl, rfl⟩
        exact ⟨_, rfl, softT_D x, rfl⟩
      · rw [softs_map, List.filter_eq_self.mpr (by simp), List.nil_append]
    have atom : (∀ xs, ¬ isSeq d xs) → disi d [.list, .tuple] = some false → HSs (cfN tab (j + k)) [] ir_l_lists.body [some (.v d), none] (retQ [] fun r fin => r = softT d ∧ fin = []) := by
      intro h1 h2
      refine w_cons (w_ret (A := false) (h_ite (h_pk (d := .bl false) (by simp [pk, OT.top, h2]) (.inr ⟨rfl, h_pk (d := d) rfl ⟨[], rfl, ?_, rfl⟩⟩))))
      cases d <;> first | rfl | exact absurd (Or.inl rfl) (h1 _) | exact absurd (Or.inr rfl) (h1 _)
    cases d with
    | tup xs => exact w_cons (w_ret (A := false) (h_ite (h_pk (d := .bl true) (by simp [pk, OT.top, disi, disT, dty]) (.inl ⟨rfl, (seq xs (.inl rfl) h.1 h.2).mono fun t env ht => ⟨[], rfl, ht, rfl⟩⟩))))
    | lst xs => exact w_cons (w_ret (A := false) (h_ite (h_pk (d := .bl true) (by simp [pk, OT.top, disi, disT, dty]) (.inl ⟨rfl, (seq xs (.inr rfl) h.1 h.2).mono fun t env ht => ⟨[], rfl, ht, rfl⟩⟩))))
    | non => exact atom (by intro xs z; rcases z with z | z <;> cases z) rfl
    | bl _ => exact atom (by intro xs z; rcases z with z | z <;> cases z) rfl
    | int _ => exact atom (by intro xs z; rcases z with z | z <;> cases z) rfl
    | str _ => exact atom (by intro xs z; rcases z with z | z <;> cases z) rfl
    | _ => exact h.elim
end Mp.V
namespace Mp.V
open PySem L2
theorem rps_pt {R : PV → PV → Prop} {B B' : Nat → Prop} {M : Mm} {xs ys : List PV} {ds : List D} (h1 : Rps B M xs ds) (h2 : Rps B' M ys ds) (hl : ds.length < 1000) (h : ∀ d ∈ ds, ∀ a b, Rp B M a d → Rp B' M b d → R a b) : Pt R xs ys := by
  refine ⟨by rw [h1.length]; exact hl, by rw [h1.length, h2.length], fun i x y e1 e2 => ?_⟩
  obtain ⟨d, k1, k2⟩ := h1.get' e1
  obtain ⟨d', k3, k4⟩ := h2.get' e2
  rw [k1] at k3; cases k3
  exact h d (List.mem_of_getElem? k1) x y k2 k4
theorem rp_sm {B B' : Nat → Prop} {M : Mm} : ∀ {k : Nat} {d : D} {a b : PV}, D.ok k d → Rp B M a d → Rp B' M b d → Sm k M a b
  | 0, _, _, _, h, _, _ => h.elim
  | k + 1, d, a, b, h, h1, h2 => by
    cases d with
    | tup ds =>
      cases h1 with | tup r1 => cases h2 with | tup r2 => exact rps_pt r1 r2 h.1 fun d hd a b p q => rp_sm (h.2 d hd) p q
    | lst ds =>
      cases h1 with | lst _ g1 r1 => cases h2 with | lst _ g2 r2 => exact ⟨_, _, g1, g2, rps_pt r1 r2 h.1 fun d hd a b p q => rp_sm (h.2 d hd) p q⟩
    | non => cases h1; cases h2; trivial
    | bl _ => cases h1; cases h2; exact rfl
    | int _ => cases h1; cases h2; exact rfl
    | str _ => cases h1; cases h2; exact rfl
    | _ => exact h.elim
mutual
def D.atv : D → Option PV
  | .non => some .non
  | .bl b => some (.bl b)
  | .int i => some (.int i)
  | .str s => some (.str s)
  | .tup xs => (D.atvs xs).map .tup
  | .lst xs => (D.atvs xs).map .tup
  | _ => none
def D.atvs : List D → Option (List PV)
  | [] => some []
  | d :: ds => match d.atv, D.atvs ds with | some v, some vs => some (v :: vs) | _, _ => none
end
mutual
theorem soft_atv : ∀ d : D, d.soft.atv = d.atv
  | .tup xs => by rw [D.soft, D.atv, D.atv, softs_atvs xs]
  | .lst xs => by rw [D.soft, D.atv, D.atv, softs_atvs xs]
  | .non => rfl
  | .bl _ => rfl
  | .int _ => rfl
  | .str _ => rfl
  | .cl _ => rfl
  | .fn _ _ => rfl
  | .ptup _ => rfl
  | .dic _ => rfl
  | .ins _ _ => rfl
  | .slt _ _ => rfl
theorem softs_atvs : ∀ ds : List D, D.atvs (D.softs ds) = D.atvs ds
  | [] => by rw [D.softs]
  | d :: ds => by rw [D.softs, D.atvs, D.atvs, soft_atv d, softs_atvs ds]
end
theorem atvs_at : ∀ {ds : List D} {vs : List PV}, D.atvs ds = some vs → ds.length = vs.length ∧ ∀ (i : Nat) (d : D), ds[i]? = some d → ∃ v, vs[i]? = some v ∧ d.atv = some v
  | [], vs, e => by rw [D.atvs] at e; cases e; exact ⟨rfl, fun i d h => by simp at h⟩
  | d :: ds, vs, e => by
    rw [D.atvs] at e
    split at e
    · rename_i v vs' h1 h2
      cases e
      obtain ⟨k1, k2⟩ := atvs_at h2
      refine ⟨by simp [k1], fun i x h => ?_⟩
      cases i with
      | zero => simp at h; subst h; exact ⟨v, rfl, h1⟩
      | succ i => exact k2 i x (by simpa using h)
    · cases e
theorem pls_atvs : ∀ {ds : List D} {vs : List PV}, D.pls ds = some vs → (∀ d ∈ ds, ∀ v, d.pl = some v → d.atv = some v) → D.atvs ds = some vs
  | [], vs, e, _ => by rw [D.pls] at e; rw [D.atvs]; exact e
  | d :: ds, vs, e, h => by
    rw [D.pls] at e
    split at e
    · rename_i v vs' h1 h2
      cases e
      rw [D.atvs, h d (by simp) v h1, pls_atvs h2 fun x hx => h x (by simp [hx])]
    · cases e
theorem pl_atv : ∀ {k : Nat} {d : D} {v : PV}, D.ok k d → d.pl = some v → d.atv = some v
  | 0, _, _, h, _ => h.elim
  | k + 1, d, v, h, e => by
    cases d with
    | tup ds =>
      rw [D.pl] at e
      obtain ⟨vs, h1, rfl⟩ := Option.map_eq_some_iff.mp e
      rw [D.atv, pls_atvs h1 fun x hx w hw => pl_atv (h.2 x hx) hw]; rfl
    | lst ds => simp [D.pl] at e
    | non => exact e
    | bl _ => exact e
    | int _ => exact e
    | str _ => exact e
    | _ => exact h.elim
theorem rp_at {B : Nat → Prop} {M : Mm} : ∀ {k : Nat} {d : D} {a y : PV}, D.ok k d → Rp B M a d → d.atv = some y → AT k M a y
  | 0, _, _, _, h, _, _ => h.elim
  | k + 1, d, a, y, h, h1, e => by
    have seq : ∀ {xs : List PV} {ds : List D} {ys : List PV}, Rps B M xs ds → ds.length < 1000 → (∀ x ∈ ds, D.ok k x) → D.atvs ds = some ys → Pt (AT k M) xs ys := by
      intro xs ds ys r hl hx e
      obtain ⟨k1, k2⟩ := atvs_at e
      refine ⟨by rw [r.length]; exact hl, by rw [r.length]; exact k1, fun i x z e1 e2 => ?_⟩
      obtain ⟨d, h3, h4⟩ := r.get' e1
      obtain ⟨v, h5, h6⟩ := k2 i d h3
      rw [e2] at h5; cases h5
      exact rp_at (hx d (List.mem_of_getElem? h3)) h4 h6
    cases d with
    | tup ds =>
      rw [D.atv] at e
      obtain ⟨vs, k1, rfl⟩ := Option.map_eq_some_iff.mp e
      cases h1 with | tup r => exact ⟨vs, rfl, seq r h.1 h.2 k1⟩
    | lst ds =>
      rw [D.atv] at e
      obtain ⟨vs, k1, rfl⟩ := Option.map_eq_some_iff.mp e
      cases h1 with | lst _ g r => exact ⟨_, vs, g, rfl, seq r h.1 h.2 k1⟩
    | non => cases h1; simp [D.atv] at e; exact e.symm
    | bl _ => cases h1; simp [D.atv] at e; exact e.symm
    | int _ => cases h1; simp [D.atv] at e; exact e.symm
    | str _ => cases h1; simp [D.atv] at e; exact e.symm
    | _ => exact h.elim
theorem ok_soft : ∀ {k : Nat} {d : D}, D.ok k d → D.ok k d.soft
  | 0, _, h => h.elim
  | k + 1, d, h => by
    cases d with
    | tup ds => rw [D.soft, softs_map]; exact ⟨by simpa using h.1, fun x hx => by obtain ⟨y, hy, rfl⟩ := List.mem_map.mp hx; exact ok_soft (h.2 y hy)⟩
    | lst ds => rw [D.soft, softs_map]; exact ⟨by simpa using h.1, fun x hx => by obtain ⟨y, hy, rfl⟩ := List.mem_map.mp hx; exact ok_soft (h.2 y hy)⟩
    | non => exact trivial
    | bl _ => exact trivial
    | int _ => exact trivial
    | str _ => exact trivial
    | _ => exact h.elim
theorem ok_ev (e : Dr.Ev) : D.ok 2 (evD e) := by cases e <;> simp [evD, D.ok]
theorem ok_tb {es : List Dr.Ev} (h : es.length < 1000) : D.ok 3 (tbD es) := ⟨by simpa using h, fun x hx => by obtain ⟨e, _, rfl⟩ := List.mem_map.mp hx; exact ok_ev e⟩
theorem ev_at (e : Dr.Ev) : didx (evD e) (.int 0) = some (.str e.wd) := by cases e <;> rfl
end Mp.V
namespace Mp.V
open PySem L2
def Asks (c m : Str) (t : OT) : Prop := ∀ (B : Nat → Prop) (M : Mm) (x : PV) (ns : List Nat), OR B M t x ns → ∃ n fs, x = .ref n ∧ insAt M c n = some fs ∧ (fs.lookup m).isNone = true
section
variable {A : Bool} {cf : CF} {K : List Nat} {env : Env} {e : E} {es : Es}
theorem h_mc {c m : Str} {f i : Nat} {t : OT} {Q : OT → Env → Prop} (hi : env[i]? = some (some t)) (hA : Asks c m t) (h : HAr cf es env fun as env1 => callQ cf f (.io i :: as) env1 Q) : HE false cf (.mc c m f (.var i) es) env Q := fun sg M nss X S => by
  obtain ⟨x, ns, h1, h2, h3⟩ := S.at_ i t hi
  obtain ⟨n, fs, rfl, g1, g2⟩ := hA _ _ _ _ h3
  obtain ⟨vs, M1, as, env1, nss1, e1, R, a, q⟩ := h sg M nss X S
  obtain ⟨v, M', t', ns', env', nss', e2, R2, q2⟩ := callQ_ok R (as := .io i :: as) (vs := .ref n :: vs) ⟨h1, a⟩ q
  exact ⟨v, M', t', ns', env', nss', by rw [evE, e_var h1]; simp only [g1, g2, if_true, e1]; exact e2, R2, q2⟩
theorem h_mem {Q : OT → Env → Prop} (h : ∀ (sg : Sg) (M : Mm) (nss : List (List Nat)) (X : Nat → Prop), SR sg M env nss X → ∃ v M' t ns, evE cf e sg M = some (v, M') ∧ M.length ≤ M'.length ∧ (∀ i, i < M.length → M'[i]? = M[i]?) ∧ (∀ B : Nat → Prop, (∀ n, B n → Bd nss X n ∨ n ∈ ns) → OR B M' t v ns) ∧ ns.Nodup ∧ (∀ n ∈ ns, M.length ≤ n) ∧ Q t env) : HE A cf e env Q := fun sg M nss X S => by
  obtain ⟨v, M', t, ns, e1, le, fr, o, nd, nw, q⟩ := h sg M nss X S
  have hf : ∀ n, n ∈ ([ns] : List (List Nat)).flatten ↔ n ∈ ns := fun n => by simp
  have ap : ∀ (n : Nat) (x : Ob), M[n]? = some x → M'[n]? = some x := fun n x h => by rw [fr n (List.getElem?_eq_some_iff.mp h).1]; exact h
  have o' := o (Bd nss fun n => X n ∨ n ∈ ([ns] : List (List Nat)).flatten) (fun n z => by
    rcases z with z | z | z
    · exact .inl (.inl z)
    · exact .inl (.inr z)
    · exact .inr ((hf n).mp z))
  refine ⟨v, M', t, ns, env, nss, e1, ⟨S.mem (fun n x _ h => ap n x h) le (fun n hn => hn.imp id fun z => nw n ((hf n).mp z)) fun n hn => ?_, ⟨o', trivial⟩, by simpa using nd, fun n hn z => ?_, fun n hn => ?_, fun i h1 _ => fr i h1, le, fun _ => ⟨rfl, rfl, fr⟩⟩, q⟩
  · rcases hn with z | z
    · have := S.xl n z; omega
    · exact o'.lt n ((hf n).mp z)
  · have := S.xl n z; have := nw n ((hf n).mp hn); omega
  · rcases hn with z | z
    · exact .inr (nw n ((hf n).mp z))
    · exact .inl z
end
end Mp.V
namespace Mp.V
open PySem L2
inductive NT where
  | p (d : D) | l (xs : List NT)
mutual
def NTR (M : Mm) : NT → PV → List Nat → Prop
  | .p d, x, ns => d.pl = some x ∧ ns = []
  | .l ts, x, ns => ∃ n xs ms, x = .ref n ∧ ns = n :: ms ∧ M[n]? = some (.lst xs) ∧ NTRs M ts xs ms
def NTRs (M : Mm) : List NT → List PV → List Nat → Prop
  | [], xs, ms => xs = [] ∧ ms = []
  | t :: ts, xs, ms => ∃ x ys m1 m2, xs = x :: ys ∧ ms = m1 ++ m2 ∧ NTR M t x m1 ∧ NTRs M ts ys m2
end
mutual
def NT.d : NT → D
  | .p d => d
  | .l ts => .lst (NT.ds ts)
def NT.ds : List NT → List D
  | [] => []
  | t :: ts => t.d :: NT.ds ts
end
section
variable {M M' : Mm} {B : Nat → Prop}
mutual
theorem NTR.st : ∀ {t : NT} {x : PV} {ns : List Nat}, NTR M t x ns → (∀ n ∈ ns, M'[n]? = M[n]?) → NTR M' t x ns
  | .p _, _, _, h, _ => h
  | .l _, _, _, ⟨n, xs, ms, a, b, c, d⟩, h => by
    subst b
    exact ⟨n, xs, ms, a, rfl, (h n (by simp)).trans c, NTRs.st d fun k hk => h k (by simp [hk])⟩
theorem NTRs.st : ∀ {ts : List NT} {xs : List PV} {ns : List Nat}, NTRs M ts xs ns → (∀ n ∈ ns, M'[n]? = M[n]?) → NTRs M' ts xs ns
  | [], _, _, h, _ => h
  | _ :: _, _, _, ⟨x, ys, m1, m2, a, b, c, d⟩, h => by
    subst b
    exact ⟨x, ys, m1, m2, a, rfl, NTR.st c fun k hk => h k (by simp [hk]), NTRs.st d fun k hk => h k (by simp [hk])⟩
end
mutual
theorem NTR.lt : ∀ {t : NT} {x : PV} {ns : List Nat}, NTR M t x ns → ∀ n ∈ ns, n < M.length
  | .p _, _, _, ⟨_, e⟩, n, hn => by subst e; cases hn
  | .l _, _, _, ⟨m, xs, ms, _, b, c, d⟩, n, hn => by
    subst b
    rcases List.mem_cons.mp hn with rfl | hn
    · exact (List.getElem?_eq_some_iff.mp c).1
    · exact NTRs.lt d n hn
theorem NTRs.lt : ∀ {ts : List NT} {xs : List PV} {ns : List Nat}, NTRs M ts xs ns → ∀ n ∈ ns, n < M.length
  | [], _, _, ⟨_, e⟩, n, hn => by subst e; cases hn
  | _ :: _, _, _, ⟨x, ys, m1, m2, _, b, c, d⟩, n, hn => by
    subst b
    rcases List.mem_append.mp hn with hn | hn
    · exact NTR.lt c n hn
    · exact NTRs.lt d n hn
end
theorem NTRs.len : ∀ {ts : List NT} {xs : List PV} {ms : List Nat}, NTRs M ts xs ms → xs.length = ts.length
  | [], _, _, ⟨a, _⟩ => by subst a; rfl
  | _ :: ts, _, _, ⟨x, ys, m1, m2, a, _, _, d⟩ => by subst a; simp [NTRs.len d]
theorem NTRs.app : ∀ {ts us : List NT} {xs ys : List PV} {ms ns : List Nat}, NTRs M ts xs ms → NTRs M us ys ns → NTRs M (ts ++ us) (xs ++ ys) (ms ++ ns)
  | [], _, _, _, _, _, ⟨a, b⟩, h => by subst a; subst b; exact h
  | _ :: ts, _, _, _, _, _, ⟨x, ys, m1, m2, a, b, c, q⟩, h => by subst a; subst b; exact ⟨x, _, m1, m2 ++ _, rfl, by simp, c, NTRs.app q h⟩
theorem NTRs.snoc : ∀ {ts : List NT} {xs : List PV} {ms : List Nat} {d : D} {v : PV}, NTRs M ts xs ms → d.pl = some v → NTRs M (ts ++ [.p d]) (xs ++ [v]) ms
  | [], _, _, d, v, ⟨a, b⟩, e => by subst a; subst b; exact ⟨v, [], [], [], rfl, rfl, ⟨e, rfl⟩, rfl, rfl⟩
  | _ :: ts, _, _, d, v, ⟨x, ys, m1, m2, a, b, c, q⟩, e => by subst a; exact ⟨x, ys ++ [v], m1, m2, rfl, b, c, NTRs.snoc q e⟩
end
end Mp.V
namespace Mp
open PySem L2
structure Tms where
  tb : List (Int × List Nat)
  cp : List (List Nat)
def getI (l : List (Int × List Nat)) (r : Int) : Option (List Nat) := (l.find? fun q => decide (q.1 = r)).map (·.2)
def putI (l : List (Int × List Nat)) (r : Int) (v : List Nat) : List (Int × List Nat) :=
  if (l.any fun q => decide (q.1 = r)) = true then l.map (fun q => if q.1 = r then (q.1, v) else q) else l ++ [(r, v)]
theorem getI_put {l : List (Int × List Nat)} {r r' : Int} {v : List Nat} : getI (putI l r v) r' = if r' = r then some v else getI l r' := by
  unfold putI
  by_cases h : (l.any fun q => decide (q.1 = r)) = true
  · rw [if_pos h]
    induction l with
    | nil => simp at h
    | cons q l ih =>
      unfold getI
      rw [List.map_cons, List.find?_cons, List.find?_cons]
      by_cases hq : q.1 = r
      · by_cases hr : r' = r
        · subst hr; simp [hq]
        · have h1 : ¬ r = r' := fun z => hr z.symm
          have h2 : ¬ q.1 = r' := fun z => hr (z.symm.trans hq)
          simp only [hq, if_true, h1, h2, decide_false, hr, if_false]
          have : ((l.map fun q => if q.1 = r then (q.1, v) else q).find? fun q => decide (q.1 = r')) = l.find? fun q => decide (q.1 = r') := by
            clear ih h
            induction l with
            | nil => rfl
            | cons a l ih =>
              rw [List.map_cons, List.find?_cons, List.find?_cons, ih]
              by_cases ha : a.1 = r
              · have : ¬ a.1 = r' := fun z => hr (z.symm.trans ha)
                simp [ha, h1]
              · simp [ha]
          rw [this]
      · have h' : (l.any fun q => decide (q.1 = r)) = true := by simpa [hq] using h
        have := ih h'
        unfold getI at this
        simp only [hq, if_false]
        by_cases hr : q.1 = r'
        · have : ¬ r' = r := fun z => hq (hr.trans z)
          simp [hr, this]
        · simp only [hr, decide_false]
          exact this
  · rw [if_neg h]
    unfold getI
    rw [List.find?_append]
    have hn : (l.find? fun q => decide (q.1 = r)) = none := by
      rw [List.find?_eq_none]; intro x hx z; exact h (List.any_eq_true.mpr ⟨x, hx, z⟩)
    by_cases hr : r' = r
    · subst hr; rw [hn]; simp
    · have h1 : ¬ r = r' := fun z => hr z.symm
      rw [if_neg hr]
      cases (l.find? fun q => decide (q.1 = r')) with
      | none => simp [h1]
      | some a => simp
def Tms.step (X : Tms) (t : Nat) : Dr.Ev → Tms
  | .join r => { X with tb := putI X.tb r [] }
  | .read r u => let old := (getI X.tb r).getD []; { X with tb := putI X.tb r (old ++ List.replicate (u - (old.length : Int)).toNat t) }
  | .save r => { X with cp := X.cp ++ [(getI X.tb r).getD []] }
  | .load r c => { X with tb := putI X.tb r ((X.cp[c.toNat]?).getD []) }
  | _ => X
def tmsAt (es : List Dr.Ev) : Nat → Tms
  | 0 => ⟨[], []⟩
  | t + 1 => match es[t]? with | some e => (tmsAt es t).step t e | none => tmsAt es t
structure TmW (X : Tms) (ws : Dr.Ws) : Prop where
  pl : ∀ r : Int, getD ws.seats (.inl r) = (getI X.tb r).map fun l => .int l.length
  cp : ws.copies = X.cp.map fun l => PV.int l.length
def TmCan (X : Tms) : Dr.Ev → Prop
  | .read r u => ∃ l, getI X.tb r = some l ∧ (l.length : Int) ≤ u ∧ u < 1000
  | .save r => ∃ l, getI X.tb r = some l
  | .load _ c => 0 ≤ c ∧ ∃ l, X.cp[c.toNat]? = some l
  | _ => True
theorem getD_putN2 {kvs : List (Key × PV)} {k k' : Key} {v : PV} (h : k' ≠ k) : getD (putD kvs k v) k' = getD kvs k' := getD_putN h
theorem TmW.put {X : Tms} {ws : Dr.Ws} (h : TmW X ws) (r : Int) (l : List Nat) : TmW { X with tb := putI X.tb r l } { ws with seats := putD ws.seats (.inl r) (.int l.length) } := ⟨fun r' => by
    show getD (putD ws.seats _ _) _ = (getI (putI X.tb r l) r').map _
    rw [getI_put]
    by_cases e : r' = r
    · subst e; rw [if_pos rfl]; exact getD_putS
    · rw [if_neg e, getD_putN2 (fun z => e (by injection z))]; exact h.pl r', h.cp⟩
theorem TmW.step {X : Tms} {ws ws' : Dr.Ws} {t n : Nat} {e : Dr.Ev} (h : TmW X ws) (ho : Dr.EvOk e) (hw : Dr.WsOk ws n) (hn : n < 900) (hs : ws.step e = some ws') : TmCan X e ∧ TmW (X.step t e) ws' := by
  cases e with
  | put k v => cases hs; exact ⟨trivial, h.pl, h.cp⟩
  | drop k => cases hs; exact ⟨trivial, h.pl, h.cp⟩
  | wait => cases hs; exact ⟨trivial, h⟩
  | join r => cases hs; exact ⟨trivial, h.put r []⟩
  | read r u =>
    obtain ⟨⟨b, h1, h2, h3⟩, rfl⟩ := Dr.step_read hs
    have hm := hw.m1
    have hp := h.pl r
    rw [h1] at hp
    cases hx : getI X.tb r with
    | none => rw [hx] at hp; cases hp
    | some l =>
      rw [hx] at hp
      have hb : b = l.length := by simpa using hp
      refine ⟨⟨l, hx, by omega, by omega⟩, ?_⟩
      have := h.put r (l ++ List.replicate (u - (l.length : Int)).toNat t)
      have e1 : ((l ++ List.replicate (u - (l.length : Int)).toNat t).length : Int) = u := by simp; omega
      rw [e1] at this
      simp only [Tms.step, hx, Option.getD_some]
      exact this
  | save r =>
    obtain ⟨v, h1, rfl⟩ := Option.map_eq_some_iff.mp hs
    have hp := h.pl r
    rw [h1] at hp
    cases hx : getI X.tb r with
    | none => rw [hx] at hp; cases hp
    | some l =>
      rw [hx] at hp
      have hv : v = .int l.length := by simpa using hp
      refine ⟨⟨l, hx⟩, h.pl, ?_⟩
      show ws.copies ++ [v] = _
      simp only [Tms.step, hx, Option.getD_some, List.map_append, h.cp, hv]
      rfl
  | load r c =>
    obtain ⟨v, h1, rfl⟩ := Option.map_eq_some_iff.mp hs
    have hc : 0 ≤ c := ho.2.2
    have h2 : ws.copies[c.toNat]? = some v := by
      unfold atI ixN at h1
      rw [if_pos hc] at h1
      split at h1
      · simpa using h1
      · simp at h1
    rw [h.cp, List.getElem?_map] at h2
    obtain ⟨l, h3, h4⟩ := Option.map_eq_some_iff.mp h2
    refine ⟨⟨hc, l, h3⟩, ?_⟩
    subst h4
    have := h.put r l
    simp only [Tms.step, h3, Option.getD_some]
    exact this
theorem tbl_at {es : List Dr.Ev} {ws : Dr.Ws} (T : Tbl es ws) : ∀ t, t ≤ es.length → ∃ wt, Dr.w0.run (es.take t) = some wt ∧ wt.run (es.drop t) = some ws ∧ Dr.WsOk wt t ∧ TmW (tmsAt es t) wt
  | 0, _ => ⟨Dr.w0, rfl, by simpa using T.run, Dr.w0_ok, fun r => by simp [tmsAt, Dr.w0, getI, getD], rfl⟩
  | t + 1, ht => by
    obtain ⟨wt, h1, h2, h3, h4⟩ := tbl_at T t (by omega)
    have hl := T.len
    rw [List.drop_eq_getElem_cons (by omega)] at h2
    obtain ⟨w2, q1, q2⟩ := Option.bind_eq_some_iff.mp (show (wt.step es[t]).bind (fun w => w.run (es.drop (t + 1))) = some ws from h2)
    have ho := T.ok _ (List.getElem_mem (show t < es.length by omega))
    have := h4.step (t := t) ho h3 (by omega) q1
    refine ⟨w2, ?_, q2, Dr.step_ok h3 ho q1, ?_⟩
    · rw [List.take_succ_eq_append_getElem (by omega)]
      exact Dr.Ws.run_app h1 q1
    · rw [tmsAt, List.getElem?_eq_getElem (by omega)]
      exact this.2
end Mp
namespace Mp.V
open PySem L2
theorem callv {cf : CF} {f : Nat} {ds : List D} {env : Env} {Q : OT → Env → Prop} {P : OT → Prop} (h : Call cf f [] (ds.map .v) (fun r fin => fin = [] ∧ P r)) (q : ∀ r, P r → Q r env) : callQ cf f (ds.map .val) env Q := by
  have h1' : ∀ l : List D, Ag.ix (l.map .val) = [] := fun l => by
    induction l with
    | nil => rfl
    | cons _ _ ih => exact ih
  have h1 := h1' ds
  have h2 : ∀ (l : List D) (k : Nat), Ag.pos (l.map .val) k = [] := fun l => by
    induction l with
    | nil => intro k; rfl
    | cons _ _ ih => intro k; exact ih (k + 1)
  have h3 : ∀ l : List D, Ag.mk (l.map .val) [] = some (l.map .v) := fun l => by
    induction l with
    | nil => rfl
    | cons d l ih => show (Ag.mk (l.map .val) []).map (OT.v d :: ·) = _; rw [ih]; rfl
  refine ⟨by rw [h1]; simp, [], ds.map .v, by rw [h1]; rfl, h3 ds, ?_⟩
  rw [h2]
  refine h.mono fun r fin z => ?_
  obtain ⟨rfl, z⟩ := z
  exact ⟨env, by rw [h1]; rfl, q r z⟩
theorem swap {cf : CF} {f : Nat} {args : List OT} {P : OT → Prop} (h : Call cf f [] args (fun r fin => P r ∧ fin = [])) : Call cf f [] args (fun r fin => fin = [] ∧ P r) := h.mono fun _ _ z => ⟨z.2, z.1⟩
theorem ag_vals : ∀ l : List D, Ag.ix (l.map .val) = [] ∧ (∀ k : Nat, Ag.pos (l.map .val) k = []) ∧ Ag.mk (l.map .val) [] = some (l.map .v)
  | [] => ⟨rfl, fun _ => rfl, rfl⟩
  | d :: l => by
    obtain ⟨a, b, c⟩ := ag_vals l
    exact ⟨a, fun k => b (k + 1), by show (Ag.mk (l.map .val) []).map (OT.v d :: ·) = _; rw [c]; rfl⟩
theorem calli {cf : CF} {f i : Nat} {ds : List D} {t0 : OT} {env : Env} {Q : OT → Env → Prop} {P : OT → OT → Prop} (hi : env[i]? = some (some t0)) (h : Call cf f [0] (t0 :: ds.map .v) (fun r fin => ∃ t', fin = [t'] ∧ P r t')) (q : ∀ r t', P r t' → Q r (env.set i (some t'))) : callQ cf f (.io i :: ds.map .val) env Q := by
  obtain ⟨h1, h2, h3⟩ := ag_vals ds
  have e1 : Ag.ix (.io i :: ds.map .val) = [i] := by show i :: Ag.ix (ds.map .val) = [i]; rw [h1]
  have e2 : Ag.pos (.io i :: ds.map .val) 0 = [0] := by show 0 :: Ag.pos (ds.map .val) 1 = [0]; rw [h2 1]
  refine ⟨by rw [e1]; simp, [t0], t0 :: ds.map .v, by rw [e1]; simp [getE, hi], by show (Ag.mk (ds.map .val) []).map (t0 :: ·) = _; rw [h3]; rfl, ?_⟩
  rw [e2]
  refine h.mono fun r fin z => ?_
  obtain ⟨t', rfl, z⟩ := z
  exact ⟨env.set i (some t'), by rw [e1]; simp [wipeE, setE], q r t' z⟩
theorem one {cf : CF} {f : Nat} {args : List OT} {t' r0 : OT} (h : Call cf f [0] args (fun r fin => fin = [t'] ∧ r = r0)) : Call cf f [0] args (fun r fin => ∃ t2, fin = [t2] ∧ (t2 = t' ∧ r = r0)) := h.mono fun r fin z => ⟨t', z.1, rfl, z.2⟩
theorem cb {cf : CF} {f : Nat} {io : List Nat} {args : List OT} {P : D → OT → Prop} (h : Call cf f io args (fun r fin => ∃ d t', r = .v d ∧ fin = [t'] ∧ P d t')) : Call cf f io args (fun r fin => ∃ t', fin = [t'] ∧ ∃ d, r = .v d ∧ P d t') := h.mono fun r fin z => by
  obtain ⟨d, t', a, b, c⟩ := z
  exact ⟨t', b, d, a, c⟩
theorem w_free {cf : CF} {K : List Nat} {ss : Ss} {env : Env} {Q : Flo → Env → Prop} {i : Nat} {t : OT} {d : D} (h : env[i]? = some (some t)) (hd : t.toD = some d) (q : HSs cf K ss (env.set i (some (.v d))) Q) : HSs cf K ss env Q := fun sg M nss X S => by
  obtain ⟨v, M1, t1, ns, env1, nss1, e1, R, rfl, rfl⟩ := (h_free (cf := cf) h hd (Q := fun t e => t = .v d ∧ e = env.set i (some (.v d))) ⟨rfl, rfl⟩) sg M nss X S
  have e2 : M1 = M := by
    simp only [evE] at e1
    split at e1
    · cases e1; rfl
    · cases e1
  subst e2
  have R0 := srs_of (K := K) R
  obtain ⟨fl, M', o, sg', env', nss', ns', e3, R2, f, q2⟩ := q sg M1 nss1 X R0.nil
  exact ⟨fl, M', o, sg', env', nss', ns', e3, R0.seq R2, f, q2⟩
def vD : PV → D
  | .int i => .int i
  | _ => .non
theorem app_ok {xs : List D} {d : D} (h : xs.length < 1000) : dmutL .append xs [d] = some (.non, xs ++ [d]) := by
  simp only [dmutL]; rw [if_pos (by omega)]
def evS (s : Bool) (e : Dr.Ev) : D := if s then (evD e).soft else evD e
def tbS (s : Bool) (es : List Dr.Ev) : D := if s then .lst (es.map (evS true)) else .tup (es.map (evS false))
theorem tbS_t (es : List Dr.Ev) : tbS true es = (tbD es).soft := by
  rw [tbD, D.soft, softs_map, List.map_map]; rfl
theorem tbS_iter (s : Bool) (es : List Dr.Ev) : iterD (tbS s es) = some (es.map (evS s)) := by cases s <;> rfl
theorem tbS_str (s : Bool) (es : List Dr.Ev) : (match tbS s es with | .str _ => false | _ => true) = true := by cases s <;> rfl
theorem evS_seq (s : Bool) (e : Dr.Ev) : ∃ xs, evD e = .tup xs ∧ isSeq (evS s e) xs ∧ 1 ≤ xs.length := by
  cases s with
  | false => cases e <;> exact ⟨_, rfl, .inl rfl, by simp⟩
  | true => cases e <;> exact ⟨_, rfl, .inr rfl, by simp⟩
theorem evS_at (s : Bool) (e : Dr.Ev) (i : Int) : didx (evS s e) (.int i) = didx (evD e) (.int i) := by
  obtain ⟨xs, h1, h2, _⟩ := evS_seq s e
  rw [h2.idx, h1]; rfl
theorem ev_0 (s : Bool) (e : Dr.Ev) : didx (evS s e) (.int 0) = some (.str e.wd) := by rw [evS_at]; exact ev_at e
theorem ev_j1 (s : Bool) (r : Int) : didx (evS s (.join r)) (.int 1) = some (.int r) := by rw [evS_at]; rfl
theorem ev_r1 (s : Bool) (r u : Int) : didx (evS s (.read r u)) (.int 1) = some (.int r) := by rw [evS_at]; rfl
theorem ev_r2 (s : Bool) (r u : Int) : didx (evS s (.read r u)) (.int 2) = some (.int u) := by rw [evS_at]; rfl
theorem ev_s1 (s : Bool) (r : Int) : didx (evS s (.save r)) (.int 1) = some (.int r) := by rw [evS_at]; rfl
theorem ev_l1 (s : Bool) (r c : Int) : didx (evS s (.load r c)) (.int 1) = some (.int r) := by rw [evS_at]; rfl
theorem ev_l2 (s : Bool) (r c : Int) : didx (evS s (.load r c)) (.int 2) = some (.int c) := by rw [evS_at]; rfl
theorem enum_at {s : Bool} {es : List Dr.Ev} {t : Nat} {x : D} (h : (((es.map (evS s)).zipIdx).map fun q => D.tup [.int (q.2 : Nat), q.1])[t]? = some x) : ∃ e, es[t]? = some e ∧ x = .tup [.int (t : Nat), evS s e] := by
  rw [List.getElem?_map, List.getElem?_zipIdx, List.getElem?_map] at h
  cases he : es[t]? with
  | none => rw [he] at h; simp at h
  | some e => rw [he] at h; simp at h; exact ⟨e, rfl, h.symm⟩
end Mp.V
namespace Mp.V
open PySem L2
def D.st : D → Prop
  | .str s => PyData.canLay0 (.str s) = true
  | .tup xs => D.sts xs
  | .lst xs => D.sts xs
  | _ => True
where D.sts : List D → Prop
  | [] => True
  | d :: ds => D.st d ∧ D.sts ds
mutual
theorem ok_py : ∀ {k : Nat} {d : D}, D.ok k d → d.st → ∃ p, d.py = some p ∧ PyData.depth p ≤ k ∧ p.canLay0 = true ∧ PyData.eqv p p = true
  | 0, _, h, _ => h.elim
  | k + 1, .tup xs, h, g => by
    obtain ⟨ps, e, d, c, q⟩ := ok_pys h.2 g
    exact ⟨.tuple ps, by rw [D.py, e]; rfl, by simp only [PyData.depth]; omega, by simpa only [PyData.canLay0] using c, by simpa only [PyData.eqv] using q⟩
  | k + 1, .lst xs, h, g => by
    obtain ⟨ps, e, d, c, q⟩ := ok_pys h.2 g
    exact ⟨.list ps, by rw [D.py, e]; rfl, by simp only [PyData.depth]; omega, by simpa only [PyData.canLay0] using c, by simpa only [PyData.eqv] using q⟩
  | k + 1, .non, _, _ => ⟨.none, rfl, by simp [PyData.depth], by simp [PyData.canLay0], by simp [PyData.eqv]⟩
  | k + 1, .bl b, _, _ => ⟨.bool b, rfl, by simp [PyData.depth], by simp [PyData.canLay0], by simp [PyData.eqv]⟩
  | k + 1, .int i, _, _ => ⟨.int i, rfl, by simp [PyData.depth], by simp [PyData.canLay0], by simp [PyData.eqv]⟩
  | k + 1, .str s, _, g => ⟨.str s, rfl, by simp [PyData.depth], g, by simp [PyData.eqv]⟩
  | _ + 1, .cl _, h, _ => h.elim
  | _ + 1, .fn _ _, h, _ => h.elim
  | _ + 1, .ptup _, h, _ => h.elim
  | _ + 1, .dic _, h, _ => h.elim
  | _ + 1, .ins _ _, h, _ => h.elim
  | _ + 1, .slt _ _, h, _ => h.elim
theorem ok_pys : ∀ {k : Nat} {ds : List D}, (∀ x ∈ ds, D.ok k x) → D.st.D.sts ds → ∃ ps, D.pys ds = some ps ∧ PyData.depthAll ps ≤ k ∧ PyData.canLayAll0 ps = true ∧ PyData.eqvAll ps ps = true
  | k, [], _, _ => ⟨[], rfl, by simp [PyData.depthAll], by simp [PyData.canLayAll0], by simp [PyData.eqvAll]⟩
  | k, d :: ds, h, g => by
    obtain ⟨p, e, d1, c1, q1⟩ := ok_py (h d (by simp)) g.1
    obtain ⟨ps, e2, d2, c2, q2⟩ := ok_pys (ds := ds) (fun x hx => h x (by simp [hx])) g.2
    refine ⟨p :: ps, by rw [D.pys, e, e2], ?_, by simp [PyData.canLayAll0, c1, c2], by simp [PyData.eqvAll, q1, q2]⟩
    rw [dep_cons]
    exact Nat.max_le.mpr ⟨d1, d2⟩
end
theorem deq_self {k : Nat} {d : D} (h : D.ok k d) (hs : d.st) (hk : k ≤ 18) (h0 : deqS d d = none) : deq d d = some true := by
  obtain ⟨p, e, dp, c, q⟩ := ok_py h hs
  have hsh : SeqAt.shaped p = true := by
    show (p.canLay0 && decide (p.depth ≤ 64)) = true
    rw [c]
    simp; omega
  unfold deq
  rw [h0, e]
  simp only [hsh, and_self, q]
  rw [if_pos ⟨by omega, by omega, trivial⟩]
theorem deq_nil {k : Nat} {ds : List D} (h : D.ok k (.lst ds)) (hs : (D.lst ds).st) (hk : k ≤ 18) : deq (.lst ds) (.lst []) = some ds.isEmpty := by
  obtain ⟨p, e, dp, c, q⟩ := ok_py h hs
  have hsh : SeqAt.shaped p = true := by
    show (p.canLay0 && decide (p.depth ≤ 64)) = true
    rw [c]
    simp; omega
  have e2 : (D.lst []).py = some (.list []) := rfl
  unfold deq
  rw [show deqS (.lst ds) (.lst []) = none from rfl, e, e2]
  simp only [hsh]
  rw [if_pos ⟨by omega, by decide, trivial, by decide⟩]
  rw [D.py] at e
  obtain ⟨ps, e3, rfl⟩ := Option.map_eq_some_iff.mp e
  cases ds with
  | nil => cases e3; rfl
  | cons d ds =>
    rw [D.pys] at e3
    split at e3
    · cases e3; rfl
    · cases e3
theorem ok_ints {ns : List Int} (h : ns.length < 1000) : D.ok 2 (.lst (ns.map .int)) := ⟨by simpa using h, fun x hx => by obtain ⟨i, _, rfl⟩ := List.mem_map.mp hx; simp [D.ok]⟩
theorem sts_of : ∀ {ds : List D}, (∀ d ∈ ds, d.st) → D.st.D.sts ds
  | [], _ => trivial
  | d :: ds, h => ⟨h d (by simp), sts_of fun x hx => h x (by simp [hx])⟩
end Mp.V
namespace Mp.V
open PySem L2
theorem putI_len (l : List (Int × List Nat)) (r : Int) (v : List Nat) : (putI l r v).length ≤ l.length + 1 := by
  unfold putI
  split <;> simp
structure TmOk (X : Tms) (n : Nat) : Prop where
  tl : X.tb.length ≤ n
  cl : X.cp.length ≤ n
theorem TmOk.step {X : Tms} {n t : Nat} (h : TmOk X n) (e : Dr.Ev) : TmOk (X.step t e) (n + 1) := by
  have h1 := h.tl
  have h2 := h.cl
  cases e with
  | join r => exact ⟨Nat.le_trans (putI_len _ _ _) (by omega), by show X.cp.length ≤ _; omega⟩
  | read r u => exact ⟨Nat.le_trans (putI_len _ _ _) (by omega), by show X.cp.length ≤ _; omega⟩
  | load r c => exact ⟨Nat.le_trans (putI_len _ _ _) (by omega), by show X.cp.length ≤ _; omega⟩
  | save r => exact ⟨by show X.tb.length ≤ _; omega, by simp [Tms.step]; omega⟩
  | _ => exact ⟨by show X.tb.length ≤ _; omega, by show X.cp.length ≤ _; omega⟩
end Mp.V
namespace Mp.V
open PySem L2
end Mp.V
namespace Mp.V
open PySem L2
section
variable {A : Bool} {cf : CF} {K : List Nat} {env : Env} {e a o : E}
theorem OFR.putA {B : Nat → Prop} {M : Mm} : ∀ {fs : OF} {vs : List (Str × PV)} {ms : List Nat} {f : Str} {d0 d : D} {y : PV}, OFR B M fs vs ms → fs.get f = some (.v d0) → Rp B M y d → OFR B M (fs.put f (.v d)) (Mp.putA f y vs) ms
  | .nil, _, _, _, _, _, _, _, h, _ => by simp [OF.get] at h
  | .no _, _, _, _, _, _, _, h, _, _ => h.elim
  | .cons g t r, _, _, f, d0, d, y, ⟨x, vs, m1, m2, a, b, c, e⟩, h, hy => by
    subst a; subst b
    by_cases hg : f = g
    · subst hg
      simp only [OF.get, beq_self_eq_true] at h
      cases h
      obtain ⟨_, rfl⟩ := c
      simp only [OF.put, beq_self_eq_true, Mp.putA, if_true]
      exact ⟨y, vs, [], m2, rfl, rfl, ⟨hy, rfl⟩, e⟩
    · have hb : (f == g) = false := by simpa using hg
      have hg2 : ¬ g = f := fun z => hg z.symm
      simp only [OF.get, hb] at h
      simp only [OF.put, hb, Mp.putA, hg2, if_false]
      exact ⟨x, _, m1, m2, rfl, rfl, c, OFR.putA e h hy⟩
def OF.size : OF → Nat
  | .nil => 0
  | .no r => r.size + 1
  | .cons _ _ r => r.size + 1
theorem OFR.len {B : Nat → Prop} {M : Mm} : ∀ {fs : OF} {vs : List (Str × PV)} {ms : List Nat}, OFR B M fs vs ms → vs.length = fs.size
  | .nil, _, _, ⟨a, _⟩ => by subst a; rfl
  | .no _, _, _, h => h.elim
  | .cons _ _ _, _, _, ⟨_, _, _, _, a, _, _, e⟩ => by subst a; simp [OF.size, OFR.len e]
theorem OFR.look {B : Nat → Prop} {M : Mm} : ∀ {fs : OF} {vs : List (Str × PV)} {ms : List Nat} {f : Str} {d : D}, OFR B M fs vs ms → fs.get f = some (.v d) → ∃ x, vs.lookup f = some x ∧ Rp B M x d
  | .nil, _, _, _, _, _, h => by simp [OF.get] at h
  | .no _, _, _, _, _, h, _ => h.elim
  | .cons g t r, _, _, f, d, ⟨x, vs, m1, m2, a, b, c, e⟩, h => by
    subst a
    by_cases hg : f = g
    · subst hg
      simp only [OF.get, beq_self_eq_true] at h
      cases h
      exact ⟨x, by simp [List.lookup], c.1⟩
    · have hb : (f == g) = false := by simpa using hg
      simp only [OF.get, hb] at h
      obtain ⟨y, h1, h2⟩ := OFR.look e h
      exact ⟨y, by simp [List.lookup, hb, h1], h2⟩
theorem w_faug {c f : Str} {fs : OF} {upd : OT → Env} {i j : Int} {Q : Flo → Env → Prop} (L : Lens cf o env (.oi c fs) upd) (h1 : fs.get f = some (.v (.int i))) (h2 : pk env e = some (.v (.int j))) (hl : fs.size < 1000) (q : Q .nx (upd (.oi c (fs.put f (.v (.int (i + j))))))) : HSt cf K (.faug c f o e) env Q := fun sg M nss X S => by
  obtain ⟨x, ns, e1, ⟨n, vs, ms, rfl, rfl, g1, g2⟩, hs, nd, Kp⟩ := L sg M nss X S
  obtain ⟨w, wn, w1, w2, _⟩ := pk_ok (cf := cf) S e h2
  obtain ⟨w2, _⟩ := w2
  cases w2
  obtain ⟨y, y1, y2⟩ := g2.look h1
  cases y2
  have hn : n < M.length := (List.getElem?_eq_some_iff.mp g1).1
  have hnm : n ∉ ms := (List.nodup_cons.mp nd).1
  have st : Stt (Bd nss X) (fun k => Bd nss X k ∨ k ∈ n :: ms) M (M.set n (.ins c (Mp.putA f (.int (i + j)) vs))) ms := by
    refine ⟨fun k o a b => ?_, fun k hk o ho => by rw [List.getElem?_set_ne (fun z => hnm (by rw [z]; exact hk))]; exact ho⟩
    have hk : k ∉ n :: ms := fun z => a (.inl (hs k z))
    exact ⟨fun z => z.elim a hk, by rw [List.getElem?_set_ne (fun z => hk (by simp [z]))]; exact b⟩
  have g3 := (g2.step st).putA (f := f) (d := .int (i + j)) (y := .int (i + j)) h1 (.int _)
  obtain ⟨nss2, S2, hS2⟩ := Kp X (M.set n (.ins c (Mp.putA f (.int (i + j)) vs))) (.oi c (fs.put f (.v (.int (i + j))))) (n :: ms) (fun _ h => h) (fun k o hk h => by rw [List.getElem?_set_ne (fun z => hk (by simp [z]))]; exact h) (by simp)
    ⟨n, _, ms, rfl, rfl, List.getElem?_set_self hn, g3⟩ nd (fun k hk => .inl hk) (fun k hk => S.dj k (hs k hk))
  refine ⟨.nx sg, _, .nx, sg, _, nss2, [], ?_, ⟨S2.mono (fun n h => h.elim id (fun z => (by cases z))), List.nodup_nil, (fun n hn => (by cases hn)), (fun k hk => .inl (hk.elim (fun z => (by cases z)) (fun z => (hS2 k z).elim id (hs k)))), (fun k h3 h4 => ?_), (by simp), (fun _ _ => rfl)⟩, ⟨rfl, rfl⟩, q⟩
  · have hi : insAt M c n = some vs := by simp [insAt, g1]
    rw [Mp.evS, e1]
    simp only [hi, y1, w1]
    rw [if_pos (by rw [g2.len]; exact hl)]
  · rw [List.getElem?_set_ne (fun z => h4 (by rw [← z]; exact hs n (by simp)))]
end
end Mp.V
namespace Mp.V
open PySem L2
end Mp.V
namespace Mp.V
open PySem Mp
section
variable {A : Bool} {cf : CF} {K : List Nat} {env : Env} {e a b c o : E} {es : Es} {t : Tg} {own : List Nat}
theorem bind_len14 {t : Tg} {d : D} {env env1 : Env} (h : bindE t d env = some env1) : env1.length = env.length := by
  have key : ∀ {is : List Nat} {ds : List D} {env env1 : Env}, setV is ds env = some env1 → env1.length = env.length := by
    intro is
    induction is with
    | nil => intro ds env env1 h; cases ds <;> simp [setV] at h; rw [h]
    | cons i is ih =>
      intro ds env env1 h
      cases ds with
      | nil => simp [setV] at h
      | cons d ds => have := ih (show setV is ds (env.set i (some (.v d))) = some env1 from h); simpa using this
  unfold bindE at h
  split at h
  · cases h; simp
  · exact key h
  · exact key h
  · have := key h; simpa using this
  · have := key h; simpa using this
  · cases h
theorem l_map {α : Type} {f : α → D} {p : α → Bool} {F : α → D} (ht : ∀ j ∈ tgI t, j ∈ own) (hlt : ∀ j ∈ own, j < env.length) (ho : okOwn env own = true) :
    ∀ {L : List α} {acc : List D} {Q : List D → Env → Prop}, (∀ x ∈ L, ∃ env1, bindE t (f x) env = some env1 ∧ wipeE env1 own = env ∧ HE A cf c env1 (fun u env2 => u = .v (.bl (p x)) ∧ env2 = env1) ∧ (p x = true → HE A cf e env1 (fun y env3 => y.toD = some (F x) ∧ env3 = env1))) → Q (acc ++ (L.filter p).map F) env → HL cf t c e own (L.map f) acc env Q
  | [], acc, Q, _, q => l_nil ho (by simpa using q)
  | x :: L, acc, Q, h, q => by
    obtain ⟨env1, h1, h2, h3, h4⟩ := h x (by simp)
    have hlen := bind_len14 h1
    refine l_cons ht hlt h1 (h3.mono fun u env2 hu => ?_)
    obtain ⟨rfl, rfl⟩ := hu
    cases hp : p x with
    | true =>
      refine .inl ⟨rfl, (h4 hp).mono fun y env3 hy => ?_⟩
      obtain ⟨k1, rfl⟩ := hy
      refine ⟨F x, k1, hlen, ?_⟩
      rw [h2]
      exact l_map ht hlt ho (fun y hy => h y (by simp [hy])) (by rw [List.filter_cons, if_pos hp] at q; simpa using q)
    | false =>
      refine .inr ⟨rfl, hlen, ?_⟩
      rw [h2]
      exact l_map ht hlt ho (fun y hy => h y (by simp [hy])) (by rw [List.filter_cons, if_neg (by simp [hp])] at q; exact q)
end
end Mp.V
namespace Mp.V
open PySem L2
def seatsG (kvs : List (Key × PV)) : List (Key × D) := kvs.map fun kv => (kv.1, vD kv.2)
def coF (ws : Dr.Ws) : OF := .cons "own_many" (.v (.int ws.many)) (.cons "own_places" (.od (seatsG ws.seats)) (.cons "own_copies" (.ol (ws.copies.map vD)) .nil))
def coT (ws : Dr.Ws) : OT := .oi "Course" (coF ws)
theorem seats_put (kvs : List (Key × PV)) (k : Key) (v : PV) : putG (seatsG kvs) k (vD v) = seatsG (putD kvs k v) := by
  unfold putG putD seatsG
  have e1 : (kvs.map fun kv => (kv.1, vD kv.2)).any (fun kv => decide (kv.1 = k)) = kvs.any fun kv => decide (kv.1 = k) := by rw [List.any_map]; rfl
  rw [e1]
  split
  · rw [List.map_map, List.map_map]
    refine List.map_congr_left fun q _ => ?_
    simp only [Function.comp]
    split <;> rfl
  · simp
theorem seats_get (kvs : List (Key × PV)) (k : Key) : getG (seatsG kvs) k = (getD kvs k).map vD := by
  unfold getG getD seatsG
  rw [List.find?_map, Option.map_map, Option.map_map]
  rfl
theorem call_mk {j : Nat} : Call (cfN tab (j + 2)) i_mk_Course [] [] (fun r fin => fin = [] ∧ r = coT Dr.w0) := fun M ws mss X hO nd hx hX => by
  cases ws with
  | cons _ _ => cases mss <;> exact hO.elim
  | nil => cases mss with
    | cons _ _ => exact hO.elim
    | nil =>
      have e : cfN tab (j + 2) i_mk_Course [] M = some (.ref M.length, M ++ [.ins "Course" [("own_many", .int 0), ("own_places", .ref (M.length + 1)), ("own_copies", .ref (M.length + 2))], .dic [], .lst []]) := by
        simp [cfN, tab, mkD, runD, ir_Course_init, evSs, Mp.evS, evE, evEs, insAt, Mp.putA, sizeLine, str_inj]
      refine ⟨_, _, coT Dr.w0, [M.length, M.length + 1, M.length + 2], [], [], [], e, rfl, trivial, ⟨M.length, [("own_many", .int 0), ("own_places", .ref (M.length + 1)), ("own_copies", .ref (M.length + 2))], [M.length + 1, M.length + 2], rfl, rfl, by simp, ?_⟩, by simp, fun n hn z => ?_, fun n hn => ?_, fun i h1 _ => by rw [List.getElem?_append_left h1], by simp, rfl, rfl⟩
      · refine ⟨.int 0, _, [], _, rfl, rfl, ⟨.int 0, rfl⟩, .ref (M.length + 1), _, [M.length + 1], [M.length + 2], rfl, rfl, ⟨_, [], rfl, rfl, by simp, rfl, .nil⟩, .ref (M.length + 2), [], [M.length + 2], [], rfl, rfl, ⟨_, [], rfl, rfl, by simp, .nil⟩, rfl, rfl⟩
      · have := hX n z
        simp at hn
        omega
      · simp at hn; right; omega
theorem co_asks {ws : Dr.Ws} {m : Str} (h1 : m ≠ "own_many") (h2 : m ≠ "own_places") (h3 : m ≠ "own_copies") : Asks "Course" m (coT ws) := fun B M x ns h => by
  obtain ⟨n, vs, ms, rfl, rfl, g, x1, v1, a1, b1, rfl, _, _, x2, v2, a2, b2, rfl, _, _, x3, v3, a3, b3, rfl, _, _, rfl, _⟩ := h
  refine ⟨n, _, rfl, by simp [insAt, g]; rfl, ?_⟩
  have e1 : (m == ("own_many" : Str)) = false := by simpa using h1
  have e2 : (m == ("own_places" : Str)) = false := by simpa using h2
  have e3 : (m == ("own_copies" : Str)) = false := by simpa using h3
  simp [List.lookup, e1, e2, e3]
theorem w_cut2 {cf : CF} {K : List Nat} {env : Env} {i a b : Nat} {x d0 d1 : D} {r : List D} {Q : Flo → Env → Prop} (hK : ∀ j ∈ K, j ∉ [a, b]) (hx : isSeq x (d0 :: d1 :: r)) (h : env[i]? = some (some (.v x))) (q : Q .nx ((env.set a (some (.v d0))).set b (some (.v d1)))) :
    HSt cf K (.asg (.tup [a, b]) (.slc false true (.var i) (.con .non) (.con (.int 2)))) env Q := by
  have hcut : cutG (d0 :: d1 :: r) none (some ((2 : Nat) : Int)) = [d0, d1] := by rw [cutG_hi]; rfl
  rcases hx with rfl | rfl
  · refine w_asgb (A := true) hK <| h_pk (d := .tup [d0, d1]) ?_ ⟨_, _, rfl, rfl, q⟩
    have : dslc false true (.tup (d0 :: d1 :: r)) .non (.int 2) = some (.tup [d0, d1]) := by
      show some (D.tup (cutG (d0 :: d1 :: r) none (some ((2 : Nat) : Int)))) = _; rw [hcut]
    simp [pk, h, conD, OT.top, this]
  · refine w_asgb (A := true) hK <| h_slcl (xs := d0 :: d1 :: r) (y := .non) (z := .int 2) (ys := [d0, d1]) (by simp [pk, h, OT.top]) rfl rfl ?_ ⟨_, _, rfl, rfl, q⟩
    show some (D.lst (cutG (d0 :: d1 :: r) none (some ((2 : Nat) : Int)))) = _; rw [hcut]
theorem ev_two {s : Bool} {e : Dr.Ev} (h : e.wd ≠ "wait") : ∃ a r, isSeq (evS s e) (.str e.wd :: a :: r) ∧ didx (evS s e) (.int 1) = some a := by
  cases s with
  | false => cases e <;> first | exact absurd rfl h | exact ⟨_, _, .inl rfl, rfl⟩
  | true => cases e <;> first | exact absurd rfl h | exact ⟨_, _, .inr rfl, rfl⟩
abbrev goE (s : Bool) (ws : Dr.Ws) (e : Dr.Ev) (o2 o3 : Option OT) : Env := [some (coT ws), some (.v (evS s e)), o2, o3]
theorem call_go {j : Nat} {s : Bool} {ws ws' : Dr.Ws} {n : Nat} {e : Dr.Ev} (ho : Dr.WsOk ws n) (hn : n < 900) (hv : Dr.EvOk e) (hs : ws.step e = some ws') : Call (cfN tab (j + 1)) i_Course_go [0] [coT ws, .v (evS s e)] (fun r fin => fin = [coT ws'] ∧ r = .v .non) := by
  refine call_fn (d := ir_Course_go) rfl rfl (by simp) (by simp [ir_Course_go]) ?_
  show HSs (cfN tab j) [0] ir_Course_go.body (goE s ws e none none) _
  have hsl : (seatsG ws.seats).length < 1000000 := by have := ho.sl; simp [seatsG]; omega
  have cw0 : ∀ o2 o3, pk (goE s ws e o2 o3) (.cmp .eq (.idx (.var 1) (.con (.int 0))) (.con (.str "wait"))) = some (.v (.bl (decide (e.wd = ("wait" : Str))))) := fun o2 o3 => by
    simp [pk, OT.top, dcmp, deq, deqS, conD, ev_0]
  have cw : ∀ (w : Str) (o3 : Option OT), pk (goE s ws e (some (.v (.str e.wd))) o3) (.cmp .eq (.var 2) (.con (.str w))) = some (.v (.bl (decide (e.wd = w)))) := fun w o3 => by
    simp [pk, OT.top, dcmp, deq, deqS, conD]
  have ci : ∀ (o3 : Option OT), pk (goE s ws e (some (.v (.str e.wd))) o3) (.cmp .isin (.var 2) (.tup (.cons (.con (.str "put")) (.cons (.con (.str "drop")) .nil)))) = some (.v (.bl (decide (e.wd = ("put" : Str)) || decide (e.wd = ("drop" : Str))))) := fun o3 => by
    have h2 : pk (goE s ws e (some (.v (.str e.wd))) o3) (.tup (.cons (.con (.str "put")) (.cons (.con (.str "drop")) .nil))) = some (.v (.tup [.str "put", .str "drop"])) := by simp [pk, pks, conD, sizeLine]
    rw [pk, h2]
    simp only [pk, OT.top, Option.bind_some, dcmp, din2, Option.map_some, List.getElem?_cons_succ, List.getElem?_cons_zero]
  have fin : ∀ (ws2 : Dr.Ws) (a b : Option OT), ws2 = ws' → retQ [0] (fun r fin => fin = [coT ws'] ∧ r = .v .non) .nx [some (coT ws2), a, b, some (.v .non)] = retQ [0] (fun r fin => fin = [coT ws'] ∧ r = .v .non) .nx [some (coT ws2), a, b, some (.v .non)] := fun _ _ _ _ => rfl
  clear fin
  by_cases hw : e.wd = "wait"
  · have : e = .wait := by cases e <;> first | rfl | simp [Dr.Ev.wd, str_inj] at hw
    subst this
    cases hs
    exact w_cons <| w_if (A := true) <| h_pk (d := .bl true) (by rw [cw0, hw]; simp) (.inl ⟨rfl, w_cons <| w_ret (A := true) <| h_pk (d := .non) rfl ⟨_, rfl, rfl, rfl⟩⟩)
  · obtain ⟨a, r, hx, ha⟩ := ev_two (s := s) hw
    refine w_cons <| w_if (A := true) <| h_pk (d := .bl false) (by rw [cw0]; simp [hw]) (.inr ⟨rfl, w_nil <| w_cons <| w_cut2 (d0 := .str e.wd) (d1 := a) (by simp) hx rfl ?_⟩)
    show HSs (cfN tab j) [0] _ (goE s ws e (some (.v (.str e.wd))) (some (.v a))) _
    have many1 : ∀ wm : Int, wm = ws.many + 1 → ws' = { ws with many := ws.many + 1 } → retQ [0] (fun r fin => fin = [coT ws'] ∧ r = .v .non) .nx [some (.oi "Course" ((coF ws).put "own_many" (.v (.int (ws.many + 1))))), some (.v (evS s e)), some (.v (.str e.wd)), some (.v a)] := by
      rintro wm _ rfl
      exact ⟨_, rfl, rfl, rfl⟩
    have place1 : ∀ (p : Int) (v : PV), ws' = { ws with seats := putD ws.seats (.inl p) v } → retQ [0] (fun r fin => fin = [coT ws'] ∧ r = .v .non) .nx [some (.oi "Course" ((coF ws).put "own_places" (.od (putG (seatsG ws.seats) (.inl p) (vD v))))), some (.v (evS s e)), some (.v (.str e.wd)), some (.v a)] := by
      rintro p v rfl
      rw [seats_put]
      exact ⟨_, rfl, rfl, rfl⟩
    cases e with
    | wait => exact absurd rfl hw
    | put k v =>
      cases hs
      exact w_cons <| w_if (A := true) <| h_pk (d := .bl true) (by rw [ci]; simp [Dr.Ev.wd]) (.inl ⟨rfl, w_cons <| w_faug (j := 1) (lens_var rfl) rfl rfl (show 3 < 1000 by decide) (w_nil (w_nil (many1 _ rfl rfl)))⟩)
    | drop k =>
      cases hs
      exact w_cons <| w_if (A := true) <| h_pk (d := .bl true) (by rw [ci]; simp [Dr.Ev.wd]) (.inl ⟨rfl, w_cons <| w_faug (j := 1) (lens_var rfl) rfl rfl (show 3 < 1000 by decide) (w_nil (w_nil (many1 _ rfl rfl)))⟩)
    | join p =>
      cases hs
      rw [ev_j1] at ha; cases ha
      exact w_cons <| w_if (A := true) <| h_pk (d := .bl false) (by rw [ci]; simp [Dr.Ev.wd, str_inj]) (.inr ⟨rfl, w_cons <| w_if (A := true) <| h_pk (d := .bl true) (by rw [cw]; simp [Dr.Ev.wd]) (.inl ⟨rfl, w_cons <| w_stod (A := true) <| h_pk (d := .int 0) rfl ⟨_, .int p, .inl p, seatsG ws.seats, _, rfl, rfl, rfl, lens_fld (lens_var rfl) rfl, hsl, w_nil (w_nil (w_nil (place1 p (.int 0) rfl)))⟩⟩)⟩)
    | read p u =>
      obtain ⟨_, rfl⟩ := Dr.step_read hs
      rw [ev_r1] at ha; cases ha
      exact w_cons <| w_if (A := true) <| h_pk (d := .bl false) (by rw [ci]; simp [Dr.Ev.wd, str_inj]) (.inr ⟨rfl, w_cons <| w_if (A := true) <| h_pk (d := .bl false) (by rw [cw]; simp [Dr.Ev.wd, str_inj]) (.inr ⟨rfl, w_cons <| w_if (A := true) <| h_pk (d := .bl true) (by rw [cw]; simp [Dr.Ev.wd]) (.inl ⟨rfl, w_cons <| w_stod (A := true) <| h_pk (d := .int u) (by simp [pk, OT.top, conD, ev_r2]) ⟨_, .int p, .inl p, seatsG ws.seats, _, rfl, rfl, rfl, lens_fld (lens_var rfl) rfl, hsl, w_nil (w_nil (w_nil (w_nil (place1 p (.int u) rfl))))⟩⟩)⟩)⟩)
    | save p =>
      obtain ⟨v, hg, rfl⟩ := Option.map_eq_some_iff.mp hs
      rw [ev_s1] at ha; cases ha
      have hcl : (ws.copies.map vD).length < 1000 := by have := ho.cl; simp; omega
      refine w_cons <| w_if (A := true) <| h_pk (d := .bl false) (by rw [ci]; simp [Dr.Ev.wd, str_inj]) (.inr ⟨rfl, w_cons <| w_if (A := true) <| h_pk (d := .bl false) (by rw [cw]; simp [Dr.Ev.wd, str_inj]) (.inr ⟨rfl, w_cons <| w_if (A := true) <| h_pk (d := .bl false) (by rw [cw]; simp [Dr.Ev.wd, str_inj]) (.inr ⟨rfl, w_cons <| w_if (A := true) <| h_pk (d := .bl true) (by rw [cw]; simp [Dr.Ev.wd]) (.inl ⟨rfl, w_cons <| w_exp <| h_mutlp (xs := ws.copies.map vD) (lens_fld (lens_var rfl) rfl) <| hes_cons <| h_pk (d := vD v) ?_ <| hes_nil ⟨[vD v], _, _, rfl, app_ok hcl, w_nil (w_nil (w_nil (w_nil (w_nil ?_))))⟩⟩)⟩)⟩)⟩)
      · have : pk (goE s ws (.save p) (some (.v (.str (Dr.Ev.save p).wd))) (some (.v (.int p)))) (.fld "Course" "own_places" (.var 0)) = some (.od (seatsG ws.seats)) := rfl
        rw [pk, this]
        simp only [pk, OT.top, Option.bind_some, didx, keyD, seats_get, hg, Option.map_some, List.getElem?_cons_succ, List.getElem?_cons_zero]
      · refine ⟨_, rfl, ?_, rfl⟩
        show [OT.oi "Course" (.cons "own_many" (.v (.int ws.many)) (.cons "own_places" (.od (seatsG ws.seats)) (.cons "own_copies" (.ol (ws.copies.map vD ++ [vD v])) .nil)))] = _
        simp [coT, coF]
    | load p c =>
      obtain ⟨v, hg, rfl⟩ := Option.map_eq_some_iff.mp hs
      rw [ev_l1] at ha; cases ha
      refine w_cons <| w_if (A := true) <| h_pk (d := .bl false) (by rw [ci]; simp [Dr.Ev.wd, str_inj]) (.inr ⟨rfl, w_cons <| w_if (A := true) <| h_pk (d := .bl false) (by rw [cw]; simp [Dr.Ev.wd, str_inj]) (.inr ⟨rfl, w_cons <| w_if (A := true) <| h_pk (d := .bl false) (by rw [cw]; simp [Dr.Ev.wd, str_inj]) (.inr ⟨rfl, w_cons <| w_if (A := true) <| h_pk (d := .bl false) (by rw [cw]; simp [Dr.Ev.wd, str_inj]) (.inr ⟨rfl, w_cons <| w_stod (A := true) <| h_pk (d := vD v) ?_ ⟨_, .int p, .inl p, seatsG ws.seats, _, rfl, rfl, rfl, lens_fld (lens_var rfl) rfl, hsl, w_nil (w_nil (w_nil (w_nil (w_nil (place1 p v rfl)))))⟩⟩)⟩)⟩)⟩)
      have h1 : pk (goE s ws (.load p c) (some (.v (.str (Dr.Ev.load p c).wd))) (some (.v (.int p)))) (.fld "Course" "own_copies" (.var 0)) = some (.ol (ws.copies.map vD)) := rfl
      have h2 : pk (goE s ws (.load p c) (some (.v (.str (Dr.Ev.load p c).wd))) (some (.v (.int p)))) (.idx (.var 1) (.con (.int 2))) = some (.v (.int c)) := by simp [pk, OT.top, conD, ev_l2]
      rw [pk, h1, h2]
      simp only [OT.top, Option.bind_some, didx]
      have h3 : atI (ws.copies.map vD) c = some (vD v) := by
        unfold atI at hg ⊢
        rw [List.length_map]
        obtain ⟨j, h4, h5⟩ := Option.bind_eq_some_iff.mp hg
        rw [h4]
        simp [h5]
      rw [h3]; rfl
end Mp.V
namespace Mp.V
open PySem L2
def seatsK (kvs : List (Key × PV)) : List (Int × D) := kvs.filterMap fun kv => match kv.1 with | .inl i => some (i, vD kv.2) | .inr _ => none
def wsAt (es : List Dr.Ev) (t : Nat) : Dr.Ws := (Dr.w0.run (es.take t)).getD Dr.w0
theorem wsAt_of {es : List Dr.Ev} {t : Nat} {wt : Dr.Ws} (h : Dr.w0.run (es.take t) = some wt) : wsAt es t = wt := by unfold wsAt; rw [h]; rfl
theorem seatsK_len (kvs : List (Key × PV)) : (seatsK kvs).length ≤ kvs.length := List.length_filterMap_le _ _
end Mp.V
namespace Mp
open PySem L2
end Mp
namespace Mp.V
open PySem L2
def wsQ (ws : Dr.Ws) : Oq where
  p := fun M x ns => ∃ w s c, x = .ref w ∧ ns = [w, s, c] ∧ Dr.WAt M w s c ws
  st := fun ⟨w, s, c, a, b, h⟩ k => by
    subst b
    exact ⟨w, s, c, a, rfl, (k w (by simp)).trans h.w_, (k s (by simp)).trans h.s_, (k c (by simp)).trans h.c_, h.ne⟩
  lt := fun ⟨w, s, c, a, b, h⟩ n hn => by
    subst b
    simp at hn
    rcases hn with rfl | rfl | rfl
    · exact lt_of h.w_
    · exact lt_of h.s_
    · exact lt_of h.c_
theorem ws_or {B : Nat → Prop} {M : Mm} {ws : Dr.Ws} {w s c : Nat} (h : Dr.WAt M w s c ws) : OR B M (.oo (wsQ ws)) (.ref w) [w, s, c] := by
  rw [OR]; exact ⟨w, s, c, rfl, rfl, h⟩
section
variable {A : Bool} {cf : CF} {env : Env}
theorem h_wE {Q : OT → Env → Prop} (q : Q (.oo (wsQ Dr.w0)) env) : HE A cf Dr.wE env Q := h_mem fun sg M nss X S => by
  obtain ⟨M', e, W, F, l⟩ := Dr.wE_ok cf sg M
  obtain ⟨n1, n2⟩ := W.ne2
  have := W.ne
  refine ⟨_, M', .oo (wsQ Dr.w0), [M.length, M.length + 1, M.length + 2], e, F.len, fun i hi => F.at_ i (by simp) hi, fun B _ => ws_or W, by simp, fun n hn => ?_, q⟩
  simp at hn; omega
theorem idxW_s {M : Mm} {w s c : Nat} {ws : Dr.Ws} (h : Dr.WAt M w s c ws) : idxP M (.ref w) (.str "seats") = some (.ref s) := by
  have := h.w_; simp [idxP, this, Mp.keyOf, getD, Dr.wdic]
theorem keysI_seats : ∀ {kvs : List (Key × PV)}, (∀ kv ∈ kvs, ∃ p v : Int, kv = (.inl p, .int v)) → keysI kvs = some ((seatsK kvs).map (·.1))
  | [], _ => rfl
  | kv :: kvs, h => by
    obtain ⟨p, v, rfl⟩ := h kv (by simp)
    rw [keysI, keysI_seats fun x hx => h x (by simp [hx])]
    rfl
end
end Mp.V
namespace Mp.V
open PySem L2
theorem call_q {cf : CF} {f : Nat} {ds : List D} {P P' : Oq} {R : OT → Prop} (h : ∀ (M : Mm) (X : Nat → Prop) (x : PV) (ns : List Nat) (ws : List PV), P.p M x ns → Rps (fun n => n ∈ ns ∨ X n) M ws ds → ns.Nodup → (∀ n, X n → n < M.length) →
    ∃ v M' r ns' ms, cf f (x :: ws) M = some (v, M') ∧ M.length ≤ M'.length ∧ (∀ i, i < M.length → i ∉ ns → M'[i]? = M[i]?) ∧ P'.p M' x ns' ∧ ns'.Nodup ∧ (∀ i ∈ ns', i ∈ ns ∨ M.length ≤ i) ∧ (∀ B : Nat → Prop, (∀ n, B n → (n ∈ ns' ∨ n ∈ ms) ∨ X n) → OR B M' r v ms) ∧ ms.Nodup ∧ (∀ n ∈ ms, M.length ≤ n ∧ n ∉ ns') ∧ R r) :
    Call cf f [0] (.oo P :: ds.map .v) (fun r fin => fin = [.oo P'] ∧ R r) := fun M ws mss X hO nd hx hX => by
  cases ws with
  | nil => cases mss <;> exact hO.elim
  | cons w ws => cases mss with
    | nil => exact hO.elim
    | cons m mss =>
      obtain ⟨p, o2⟩ := hO
      obtain ⟨r, hm⟩ := vals_or o2
      have hf : ∀ n, n ∈ (m :: mss).flatten ↔ n ∈ m := fun n => by simp [hm]
      have hg : ∀ ns' : List Nat, ∀ n, n ∈ ([ns'] : List (List Nat)).flatten ↔ n ∈ ns' := fun ns' n => by simp
      obtain ⟨v, M', t, ns', ms, e, le, fr, p', nd', nw', o', ndm, nwm, q⟩ := h M X w m ws p (r.step fun n o a b => ⟨fun z => a (z.imp (hf n).mpr id), b⟩) (by
        have := nd; rw [List.flatten_cons, hm, List.append_nil] at this; exact this) hX
      refine ⟨v, M', t, ms, [.oo P'], [w], [ns'], e, rfl, ⟨p', trivial⟩, o' _ fun n z => z.imp (fun z => z.imp (hg ns' n).mp id) id, ?_, fun n hn z => ?_, fun n hn => ?_, fun i h1 h2 => fr i h1 fun z => h2 ((hf i).mpr z), le, rfl, q⟩
      · rw [List.nodup_append]
        exact ⟨by simpa using nd', ndm, fun a ha b hb z => by subst z; exact (nwm a hb).2 ((hg ns' a).mp ha)⟩
      · have := hX n z
        rcases hn with q | q
        · rcases nw' n ((hg ns' n).mp q) with k | k
          · exact hx n ((hf n).mpr k) z
          · omega
        · have := (nwm n q).1; omega
      · rcases hn with q | q
        · exact (nw' n ((hg ns' n).mp q)).imp (hf n).mpr id
        · exact .inr (nwm n q).1
theorem call_moved {j : Nat} {ws ws' : Dr.Ws} {n : Nat} {e : Dr.Ev} (ho : Dr.WsOk ws n) (hn : n < 900) (hs : ws.step e = some ws') : Call (cfN tab (j + 1)) i_l_moved [0] [.oo (wsQ ws), .v (evD e)] (fun r fin => fin = [.oo (wsQ ws')] ∧ r = .v .non) :=
  call_q (ds := [evD e]) (P' := wsQ ws') fun M X x ns vs p r nd hX => by
    obtain ⟨w, s, c, rfl, rfl, W⟩ := p
    have : vs = [e.pv] := r.pl (by simp [D.pls, evD_pl])
    subst this
    obtain ⟨M', e1, W', F, l⟩ := Dr.hm j M w s c ws ws' e W hs (by have := ho.sl; omega) (by have := ho.cl; omega)
    exact ⟨.non, M', .v .non, [w, s, c], [], e1, by omega, fun i h1 h2 => F.at_ i h2 h1, ⟨w, s, c, rfl, rfl, W'⟩, nd, fun i hi => .inl hi, fun B hB => ⟨.non, rfl⟩, by simp, by simp, rfl⟩
end Mp.V
namespace Mp.V
open PySem L2
section
variable {A : Bool} {cf : CF} {env : Env} {a b : E}
theorem h_rep {Q : OT → Env → Prop} (h : HE A cf a env fun t env1 => HE A cf b env1 fun u env2 => ∃ xs n, t.top = some (.lst xs) ∧ u.top = some (.int ((n : Nat) : Int)) ∧ xs.length ≤ 1000 ∧ n ≤ 1000 ∧ Q (.ol (List.replicate n xs).flatten) env2) : HE A cf (.bop .mul a b) env Q := fun sg M nss X S => by
  obtain ⟨vs, M', ts, mss, env', nss', e1, R, t, u, rfl, xs, n, h1, h2, h3, h3', h4⟩ := he_two h sg M nss X S
  obtain ⟨v, M1, w, q1, q2, rfl⟩ := two_inv e1
  have r := R.tops (ds := [.lst xs, .int ((n : Nat) : Int)]) (by simp [h1, h2])
  cases r with
  | cons r1 r2 =>
    cases r2 with
    | cons r2 r3 =>
      obtain ⟨m, zs, rfl, g1, g2⟩ := r1
      cases r2
      refine ⟨.ref M'.length, M' ++ [.lst (List.replicate n zs).flatten], .ol (List.replicate n xs).flatten, _, env', nss', e_bop q1 q2 ?_, R.newL ((Rps.reps g2 n).step fun n o a b => ⟨fun z => a (z.imp id .inl), b⟩), h4⟩
      have hb : zs.length * n ≤ 1000 * 1000 := Nat.mul_le_mul (by rw [g2.length]; exact h3) h3'
      simp only [bopP, lstAt, g1, Int.toNat_natCast]
      rw [if_pos ⟨by omega, by omega, by have : sizeLine = 16777216 := rfl; omega⟩]
end
def wdS (e : Dr.Ev) : Str := match e with
  | .put _ _ => "put" | .drop _ => "drop" | .join _ => "join" | .read _ _ => "read" | .save _ => "save" | .load _ _ => "load" | .wait => "wait"
theorem wd_pk {env : Env} {e : Dr.Ev} {i : Nat} (h : env[i]? = some (some (.v (evD e)))) : pk env (.idx (.var i) (.con (.int 0))) = some (.v (.str (wdS e))) := by
  simp only [pk, h, OT.top, Option.bind_some]
  cases e <;> rfl
def isW : Dr.Ev → Bool | .wait => true | _ => false
def wfS (most : Nat) (X : List Dr.Ev) (e : Dr.Ev) : List Dr.Ev := if (!isW e || decide ((X.filter isW).length < most)) = true then X ++ [e] else X
def wfA (most : Nat) (es : List Dr.Ev) : List Dr.Ev := es.foldl (wfS most) []
theorem wfA_snoc {most : Nat} {es : List Dr.Ev} {e : Dr.Ev} : wfA most (es ++ [e]) = wfS most (wfA most es) e := by unfold wfA; rw [List.foldl_append]; rfl
theorem run_snoc {es : List Dr.Ev} {e : Dr.Ev} {w : Dr.Ws} : w.run (es ++ [e]) = (w.run es).bind fun v => v.step e := by
  rw [Dr.Ws.run_append]
  cases w.run es with
  | none => rfl
  | some v => show (v.step e).bind (fun w => w.run []) = v.step e; cases v.step e <;> rfl
theorem wfA_run (most : Nat) (es : List Dr.Ev) : Dr.w0.run (wfA most es) = Dr.w0.run es ∧ (wfA most es).length ≤ es.length ∧ ∀ e ∈ wfA most es, e ∈ es := by
  have key : ∀ n, Dr.w0.run (wfA most (es.take n)) = Dr.w0.run (es.take n) ∧ (wfA most (es.take n)).length ≤ (es.take n).length ∧ ∀ e ∈ wfA most (es.take n), e ∈ es.take n := fun n => by
    induction n with
    | zero => rw [List.take_zero]; exact ⟨rfl, Nat.le_refl _, fun e h => h⟩
    | succ n ih =>
      rw [List.take_succ]
      cases he : es[n]? with
      | none => rw [Option.toList_none, List.append_nil]; exact ih
      | some e =>
        rw [Option.toList_some]
        generalize es.take n = es at ih
        obtain ⟨h1, h2, h3⟩ := ih
        rw [wfA_snoc]
        unfold wfS
        split
        · refine ⟨by rw [run_snoc, run_snoc, h1], by simp; omega, fun x hx => ?_⟩
          rcases List.mem_append.mp hx with h | h
          · exact List.mem_append_left _ (h3 x h)
          · exact List.mem_append_right _ h
        · rename_i hc
          have he : e = .wait := by
            cases e <;> first | rfl | (exfalso; exact hc (by simp [isW]))
          refine ⟨?_, by simp; omega, fun x hx => List.mem_append_left _ (h3 x hx)⟩
          rw [run_snoc, h1, he]
          cases Dr.w0.run es <;> rfl
  have := key es.length
  rwa [List.take_length] at this
theorem h_cntw {cf : CF} {X : List Dr.Ev} {env : Env} {Q : OT → Env → Prop} (h5 : env[5]? = some (some (.ol (X.map evD)))) (h7 : 7 < env.length) (hl : X.length < 1000) (q : Q (.v (.int (X.filter isW).length)) env) : HE false cf (.blt .len (.cons (.lc [7] (.name 7) (.seq (.var 5)) c1_l_waited (.var 7)) .nil)) env Q := fun sg M nss Y S => by
  obtain ⟨x, ns, e1, e2, n, zs, rfl, rfl, g, r⟩ := S.at_ 5 _ h5
  have hzs : zs = X.map Dr.Ev.pv := r.pl (pls_map fun e _ => evD_pl e)
  subst hzs
  have hn := lt_of g
  have hI : evI cf (.seq (.var 5)) sg M = some (.lst n, M) := by rw [evI, e_var e1]; simp [srcOf, lstAt, g]
  have h7' : 7 < sg.length := by rw [S.len]; exact h7
  have hset : ∀ v : PV, ((wipeP sg [7]).set 7 (some v))[7]? = some (some v) := fun v => by simp [wipeP, h7']
  let p : PV → Bool := fun x => match x with | .tup (.str z :: _) => decide (z = Str.ofString "wait") | _ => false
  have hp : ∀ e : Dr.Ev, p e.pv = isW e := fun e => by cases e <;> rfl
  have ev := lc_lst (cf := cf) (own := [7]) (t := .name 7) (c := c1_l_waited) (e := .var 7) (sg := sg) (xs := X.map Dr.Ev.pv) p id hI (by intro acc j; simp only [Src.get, lstAt, List.getElem?_append_left hn, g]; rfl) (by simp; omega)
    (by
      intro x hx acc
      obtain ⟨e, _, rfl⟩ := List.mem_map.mp hx
      refine ⟨_, rfl, ?_, fun _ => e_var (hset _)⟩
      obtain ⟨l, hl⟩ := wd_at e
      unfold c1_l_waited
      refine e_cmp (e_idx (e_var (hset _)) e_con (z := .str e.wd) (by rw [hl]; exact at0)) e_con ?_
      rw [hp]
      cases e <;> simp [cmpP, Dr.Ev.wd, isW, str_inj])
  have hlen : (((X.map Dr.Ev.pv).filter p).map id).length = (X.filter isW).length := by
    rw [List.length_map, List.filter_map, List.length_map]
    exact congrArg List.length (List.filter_congr fun e _ => hp e)
  have R := ((ers_nil (A := false) S).newL (xs := []) (ds := []) .nil)
  have S1 : SR sg (M ++ [Ob.lst (((X.map Dr.Ev.pv).filter p).map id)]) env nss Y := S.mem (fun k o _ hk => by rw [List.getElem?_append_left (lt_of hk)]; exact hk) (by simp) (fun _ h => .inl h) (fun k hk => by have := S.xl k hk; simp; omega)
  have r2 := ers_v (A := false) S1 (v := .int ((X.filter isW).length : Nat)) (d := .int ((X.filter isW).length : Nat)) (.int _)
  refine ⟨_, _, _, [], env, nss, e_blt (es_one ev) (q := some (.int ((X.filter isW).length : Nat), M ++ [Ob.lst (((X.map Dr.Ev.pv).filter p).map id)])) ?_, ⟨r2.sr, r2.or, r2.nd, r2.mx, fun k hk => .inl (by simpa using hk), fun i h1 _ => List.getElem?_append_left h1, by simp, fun z => by cases z⟩, q⟩
  simp only [bltP, get_last, hlen]
section
variable {es : List Dr.Ev} {ws : Dr.Ws} {j : Nat} {t : OT} {k : Int}
theorem call_table95 {many f : Int} {z : Str} (ht : BxT t k) (hk : k < 100000) (f1 : 1 ≤ f) (f2 : f ≤ 4) (z1 : 0 < z.length) (z2 : z.length < 1000) (m1 : 0 ≤ many) (m2 : many ≤ 20) : Call (cfN tab (j + 4)) i_l_table [0] [t, .v (.int many), .v (.int 4), .v (.int f), .v (.lst [.str "a", .str "b"]), .v (.str z)] (fun r fin => ∃ d t', r = .v d ∧ fin = [t'] ∧ BxT t' (k + 100) ∧ ∃ es, d = tbD es ∧ Dr.TbOk es 20) :=
  call_box (ds := [.int many, .int 4, .int f, .lst [.str "a", .str "b"], .str z]) ht fun M b X vs B r hX => by
    cases r with
    | cons a1 r => cases r with
      | cons a2 r => cases r with
        | cons a3 r => cases r with
          | cons a4 r => cases r with
            | cons a5 r =>
              cases r
              cases a1
              cases a2
              cases a3
              cases a5
              cases a4 with
              | lst hn g q =>
                rename_i n xs
                have hxs : xs = [.str "a", .str "b"] := q.pl (by simp [D.pls, D.pl])
                subst hxs
                have hne : n ≠ b := fun e => by
                  obtain ⟨d, s, c, hb, _⟩ := B
                  rw [e, hb] at g
                  cases g
                obtain ⟨es, M', e, F, B', hT, _⟩ := Dr.htb j M b n k f many 4 z B (by omega) hne ⟨["a", "b"], g, by simp, by decide, by intro x hx; simp at hx; rcases hx with rfl | rfl <;> exact ⟨_, by simp, rfl⟩⟩ f1 f2 z1 z2 m1 m2
                exact ⟨_, M', tbD es, e, F, B', rp_pl (tbD_pl es), es, rfl, hT⟩
theorem call_ended95 (h : Dr.TbOk es 26) (hl : es.length < 1000) : Call (cfN tab (j + 2)) i_l_ended [] [.v (tbD es)] (fun u fin => fin = [] ∧ ∃ es', u = .v (tbD es') ∧ Dr.TbF es') :=
  call_frm (ds := [tbD es]) fun M X vs r hX => by
    have : vs = [.tup (es.map Dr.Ev.pv)] := r.pl (by rw [D.pls, tbD_pl]; rfl)
    subst this
    obtain ⟨es', M', e, F, hF, _⟩ := Dr.hen j M es h
    exact ⟨_, M', .v (tbD es'), [], e, F, ⟨rp_pl (tbD_pl es'), rfl⟩, by simp, by simp, es', rfl, hF⟩
theorem call_waited {many f : Int} {most : Nat} (ht : BxT t k) (hk : k < 10000) (f1 : 1 ≤ f) (f2 : f ≤ 4) (m1 : 0 ≤ many) (m2 : many ≤ 20) : Call (cfN tab (j + 5)) i_l_waited [0] [t, .v (.int many), .v (.int (most : Nat)), .v (.int f)] (fun r fin => ∃ d t', r = .v d ∧ fin = [t'] ∧ BxT t' (k + 200) ∧ ∃ es ws, d = tbD es ∧ Tbl es ws) := by
  refine call_fn (d := ir_l_waited) rfl rfl (by simp) (by decide) ?_
  refine w_cons <| w_asgt (A := false) (by simp) <| hes_cons <| h_call <| a_io rfl <| a_val (A := false) <| h_pk (d := .int many) rfl ⟨_, rfl, a_val (A := false) <| h_pk (d := .int 4) rfl ⟨_, rfl, a_val (A := false) <| h_pk (d := .int f) rfl ⟨_, rfl, a_val (A := false) <| h_lst <| hes_cons <| h_pk (d := .str "a") rfl <| hes_cons <| h_pk (d := .str "b") rfl <| hes_nil ⟨[.str "a", .str "b"], rfl, by simp, _, rfl, a_val (A := false) <| h_pk (d := .str "pppdddrrrrwwwwsl") rfl ⟨_, rfl, a_nil (calli (i := 0) (ds := [.int many, .int 4, .int f, .lst [.str "a", .str "b"], .str "pppdddrrrrwwwwsl"]) rfl (cb (call_table95 (j := j) ht (by omega) f1 f2 (by decide) (by decide) m1 m2)) fun r t1 h => ?_)⟩⟩⟩⟩⟩
  obtain ⟨d, rfl, B1, es, rfl, hT⟩ := h
  have hel := hT.len
  refine hes_cons <| h_lst <| hes_nil ⟨[], rfl, by simp, hes_nil ⟨by simp, _, rfl, ?_⟩⟩
  refine w_cons <| w_for (A := true) <| i_seq <| h_pk (d := tbD es) rfl ⟨_, es.map evD, rfl, rfl, by simp; omega, ?_⟩
  refine f_inv (by simp [tgI]) (fun i env => ∃ o6, env = [some t1, some (.v (.int many)), some (.v (.int (most : Nat))), some (.v (.int f)), some (.v (tbD es)), some (.ol ((wfA most (es.take i)).map evD)), o6, none]) ?_ ?_ _ ⟨none, rfl⟩
  · rintro i x env hx ⟨o6, rfl⟩
    rw [List.getElem?_map] at hx
    obtain ⟨e, he, rfl⟩ := Option.map_eq_some_iff.mp hx
    have hX := (wfA_run most (es.take i)).2.1
    have hil : (es.take i).length ≤ 20 := by rw [List.length_take]; omega
    refine ⟨_, rfl, ?_⟩
    have hts : wfA most (es.take (i + 1)) = wfS most (wfA most (es.take i)) e := by rw [List.take_succ, he, ← wfA_snoc]; rfl
    generalize wfA most (es.take i) = X at hX hts
    unfold b2_l_waited
    have app : ∀ {Q : Flo → Env → Prop}, Q .nx [some t1, some (.v (.int many)), some (.v (.int (most : Nat))), some (.v (.int f)), some (.v (tbD es)), some (.ol ((X ++ [e]).map evD)), some (.v (evD e)), none] → HSs (cfN tab (j + 4)) [0] (.cons (.exp (.mth .append (.var 5) (.cons (.var 6) .nil))) .nil) [some t1, some (.v (.int many)), some (.v (.int (most : Nat))), some (.v (.int f)), some (.v (tbD es)), some (.ol (X.map evD)), some (.v (evD e)), none] Q := fun q => by
      refine w_cons <| w_exp <| h_mutl (A := true) (xs0 := X.map evD) rfl <| hes_cons <| h_pk (d := evD e) rfl <| hes_nil ⟨[evD e], X.map evD, _, _, rfl, rfl, app_ok (by simp; omega), w_nil ?_⟩
      rw [List.map_append] at q
      exact q
    have hw : ∀ {env : Env}, env[6]? = some (some (.v (evD e))) → pk env (.cmp .ne (.idx (.var 6) (.con (.int 0))) (.con (.str "wait"))) = some (.v (.bl (!isW e))) := fun {env} g => by
      rw [pk, wd_pk g]
      cases e <;> rfl
    refine w_cons <| w_if (A := false) <| h_or <| (h_pk (A := true) (d := .bl (!isW e)) (hw rfl) ?_).off
    cases hwt : isW e with
    | false =>
      have e2 : wfS most X e = X ++ [e] := by unfold wfS; rw [hwt]; rfl
      rw [e2] at hts
      exact .inr ⟨rfl, .inl ⟨rfl, app (w_nil ⟨_, by rw [hts]⟩)⟩⟩
    | true =>
      have hwl := List.length_filter_le isW X
      refine .inl ⟨rfl, h_cmp <| h_cntw rfl (by simp) (by omega) <| h_pk (d := .int (most : Nat)) rfl ⟨_, _, decide ((X.filter isW).length < most), rfl, rfl, ?_, ?_⟩⟩
      · show some (decide ((((X.filter isW).length : Nat) : Int) < ((most : Nat) : Int))) = _
        congr 1
        rw [Bool.eq_iff_iff]; simp
      · cases hd : decide ((X.filter isW).length < most) with
        | true =>
          have e2 : wfS most X e = X ++ [e] := by unfold wfS; rw [hd]; simp
          rw [e2] at hts
          exact .inl ⟨rfl, app (w_nil ⟨_, by rw [hts]⟩)⟩
        | false =>
          have e2 : wfS most X e = X := by unfold wfS; rw [hd, hwt]; rfl
          rw [e2] at hts
          exact .inr ⟨rfl, w_nil <| w_nil ⟨_, by rw [hts]; rfl⟩⟩
  · rintro env ⟨o6, rfl⟩
    have hln : (es.map evD).length = es.length := by simp
    rw [hln, List.take_length]
    obtain ⟨hr, hwl, hwm⟩ := wfA_run most es
    have hT2 : Dr.TbOk (wfA most es) 20 := ⟨by rw [hr]; exact hT.run, Nat.le_trans hwl hT.len, fun e he => hT.ok e (hwm e he)⟩
    generalize wfA most es = X at hT2
    have hX := hT2.len
    refine w_free (i := 5) rfl rfl ?_
    refine w_cons <| w_ret (A := false) <| h_ite <| h_cmp <| h_call <| a_io rfl <| a_val (A := false) <| h_pk (d := .int 2) rfl ⟨_, rfl, a_nil (calli (i := 0) (ds := [.int 2]) rfl (cb (call_take (j := j + 3) B1 (by omega) (by omega) (by omega))) fun r t2 h => ?_)⟩
    obtain ⟨d, rfl, B2, n, rfl, n0, n1⟩ := h
    refine h_pk (d := .int 0) rfl ⟨.int n, .int 0, decide (n = 0), rfl, rfl, by simp [dcmp, deq, deqS], ?_⟩
    cases hn : decide (n = 0) with
    | true =>
      refine .inl ⟨rfl, h_call <| a_val (A := false) <| h_blt <| hes_cons <| h_pk (d := .lst (X.map evD)) rfl <| hes_nil ⟨[.lst (X.map evD)], tbD X, rfl, rfl, _, rfl, a_nil (callv (ds := [tbD X]) (call_ended95 (j := j + 2) (hT2.mono (by omega)) (by omega)) fun r hr => ?_)⟩⟩
      obtain ⟨es', rfl, hF⟩ := hr
      obtain ⟨ws', T⟩ := hF.tbl
      exact ⟨[t2], rfl, tbD es', t2, rfl, rfl, B2.mono (by omega), es', ws', rfl, T⟩
    | false =>
      refine .inr ⟨rfl, h_blt <| hes_cons <| h_pk (d := .lst (X.map evD)) rfl <| hes_nil ⟨[.lst (X.map evD)], tbD X, rfl, rfl, ?_⟩⟩
      obtain ⟨ws', T⟩ := (hT2.f (by omega)).tbl
      exact ⟨[t2], rfl, tbD X, t2, rfl, rfl, B2.mono (by omega), X, ws', rfl, T⟩
end
end Mp.V
namespace Mp
open PySem L2
end Mp
namespace Mp.V
open PySem L2
theorem tbl_take {es : List Dr.Ev} {ws : Dr.Ws} (T : Tbl es ws) (m : Nat) : ∃ wt, Tbl (es.take m) wt := by
  have hr : Dr.w0.run (es.take m ++ es.drop m) = some ws := by rw [List.take_append_drop]; exact T.run
  rw [Dr.Ws.run_append] at hr
  obtain ⟨wt, h1, h2⟩ := Option.bind_eq_some_iff.mp hr
  have hl : (es.take m).length ≤ es.length := by rw [List.length_take]; omega
  have hlen := T.len
  refine ⟨wt, h1, ?_, by omega, fun e he => T.ok e (List.mem_of_mem_take he), ?_⟩
  · exact Int.le_trans (grow_run h2).2.2 T.many
  · have hk : Dr.WsOk wt (0 + (es.take m).length) := Dr.run_ok (n := 0) Dr.w0_ok (fun e he => T.ok e (List.mem_of_mem_take he)) h1
    exact hk.mono (by omega)
section
variable {A : Bool} {cf : CF} {env : Env} {a hi : E}
theorem h_slch {Q : OT → Env → Prop} (h : HE A cf a env fun t env1 => HE A cf hi env1 fun u env2 => ∃ xs n, t.top = some (.lst xs) ∧ u.top = some (.int ((n : Nat) : Int)) ∧ Q (.ol (xs.take n)) env2) : HE A cf (.slc false true a (.con .non) hi) env Q := fun sg M nss X S => by
  obtain ⟨vs, M', ts, mss, env', nss', e1, R, t, u, rfl, xs, n, h1, h2, h4⟩ := he_two h sg M nss X S
  obtain ⟨v, M1, w, q1, q2, rfl⟩ := two_inv e1
  have r := R.tops (ds := [.lst xs, .int ((n : Nat) : Int)]) (by simp [h1, h2])
  cases r with
  | cons r1 r2 =>
    cases r2 with
    | cons r2 r3 =>
      obtain ⟨m, zs, rfl, g1, g2⟩ := r1
      cases r2
      have hc := cut_rps g2 none (some (n : Int))
      rw [cut_hi, cutG_hi] at hc
      refine ⟨.ref M'.length, M' ++ [.lst (zs.take n)], .ol (xs.take n), _, env', nss', e_slc q1 e_con q2 ?_, R.newL (hc.step fun n o a b => ⟨fun z => a (z.imp id .inl), b⟩), h4⟩
      simp only [slcP, optI, lstAt, g1, cut_hi]
theorem h_repw {b : E} {Q : OT → Env → Prop} (h : HE A cf a env fun t env1 => HE A cf b env1 fun u env2 => ∃ x n, t.top = some (.lst [x]) ∧ u.top = some (.int ((n : Nat) : Int)) ∧ n ≤ 1000 ∧ Q (.ol (List.replicate n x)) env2) : HE A cf (.bop .mul a b) env Q :=
  h_rep <| h.mono fun t env1 q => q.mono fun u env2 ⟨x, n, h1, h2, h3, h4⟩ => ⟨[x], n, h1, h2, by simp, h3, by rw [List.flatten_replicate_singleton]; exact h4⟩
end
def lagB (v : Int) (e l : Nat) : List Dr.Ev := [.join 0, .put "a" v, .read 0 1] ++ List.replicate e .wait ++ [.drop "a"] ++ List.replicate l .wait
def lagU (w : Bool) (v : Int) (e l : Nat) : List Dr.Ev := if w then lagB v e l ++ [.put "b" 1, .read 0 3] else (lagB v e l).take 3 ++ [.save 0] ++ (lagB v e l).drop 3 ++ [.load 1 0, .read 0 2, .read 1 2]
def runB (es : List Dr.Ev) : Bool := match Dr.w0.run es with | some ws => decide (ws.many ≤ 26) | none => false
theorem lag_run : ∀ v ∈ [(0 : Int), 1, 2, 3, 4, 5, 6, 7, 8], ∀ e ∈ [0, 1, 2], ∀ l ∈ [1, 2], ∀ w ∈ [true, false], runB (lagU w v e l) = true := by decide +kernel
theorem lagB_ok {v : Int} {e l : Nat} (v0 : 0 ≤ v) (v1 : v ≤ 8) : ∀ x ∈ lagB v e l, Dr.EvOk x := fun x hx => by
  have hk : Dr.KeyOk "a" := ⟨"a", by simp, rfl⟩
  unfold lagB at hx
  simp only [List.mem_append, List.mem_cons, List.not_mem_nil, or_false, List.mem_replicate] at hx
  rcases hx with ((h | h) | h) | h
  · rcases h with rfl | rfl | rfl
    · exact ⟨by omega, by omega⟩
    · exact ⟨hk, v0, by omega⟩
    · exact ⟨by omega, by omega, by omega⟩
  · rw [h.2]; trivial
  · rw [h]; exact hk
  · rw [h.2]; trivial
theorem lag_tbl {v : Int} {e l : Nat} {w : Bool} (v0 : 0 ≤ v) (v1 : v ≤ 8) (he : e ≤ 2) (l1 : 1 ≤ l) (l2 : l ≤ 2) : ∃ ws, Tbl (lagU w v e l) ws := by
  have h := lag_run v (by simp; omega) e (by simp; omega) l (by simp; omega) w (by cases w <;> simp)
  have hb := lagB_ok (e := e) (l := l) v0 v1
  have hbl : (lagB v e l).length ≤ 10 := by unfold lagB; simp; omega
  have hkb : Dr.KeyOk "b" := ⟨"b", by simp, rfl⟩
  have ok : ∀ x ∈ lagU w v e l, Dr.EvOk x := fun x hx => by
    unfold lagU at hx
    cases w
    · simp only [Bool.false_eq_true, if_false, List.mem_append, List.mem_cons, List.not_mem_nil, or_false] at hx
      rcases hx with ((h | h) | h) | h
      · exact hb x (List.mem_of_mem_take h)
      · rw [h]; exact ⟨by omega, by omega⟩
      · exact hb x (List.mem_of_mem_drop h)
      · rcases h with rfl | rfl | rfl
        · exact ⟨by omega, by omega, by omega⟩
        · exact ⟨by omega, by omega, by omega⟩
        · exact ⟨by omega, by omega, by omega⟩
    · simp only [if_true, List.mem_append, List.mem_cons, List.not_mem_nil, or_false] at hx
      rcases hx with h | h
      · exact hb x h
      · rcases h with rfl | rfl
        · exact ⟨hkb, by omega, by omega⟩
        · exact ⟨by omega, by omega, by omega⟩
  have hl : (lagU w v e l).length ≤ 52 := by
    unfold lagU
    have := List.length_take_le 3 (lagB v e l)
    cases w <;> simp <;> omega
  unfold runB at h
  cases hr : Dr.w0.run (lagU w v e l) with
  | none => rw [hr] at h; cases h
  | some ws =>
    rw [hr] at h
    exact ⟨ws, hr, of_decide_eq_true h, hl, ok, (Dr.run_ok (n := 0) Dr.w0_ok ok hr).mono (by omega)⟩
theorem cutG_lo {α : Type} {xs : List α} {u : Nat} : cutG xs (some (u : Int)) none = xs.drop u := by
  unfold cutG
  have e1 : HT.sIx xs.length 0 (some (u : Int)) = min u xs.length := by simp [HT.sIx]; omega
  have e2 : HT.sIx xs.length xs.length none = xs.length := rfl
  rw [e1, e2]
  by_cases h : u ≤ xs.length
  · rw [Nat.min_eq_left h, List.take_of_length_le (by rw [List.length_drop]; omega)]
  · rw [Nat.min_eq_right (by omega), List.drop_length, List.drop_eq_nil_of_le (by omega), List.take_nil]
section
variable {t : OT} {k : Int} {j : Nat}
theorem call_lagging (ht : BxT t k) (hk : k < 10000) : Call (cfN tab (j + 3)) i_l_lagging [0] [t] (fun r fin => ∃ d t', r = .v d ∧ fin = [t'] ∧ BxT t' (k + 10) ∧ ∃ es ws, d = tbD es ∧ Tbl es ws) := by
  refine call_fn (d := ir_l_lagging) rfl rfl (by simp) (by decide) ?_
  refine w_cons <| w_asgt (A := false) (by simp) <| hes_cons <| h_repw <| h_lst <| hes_cons <| h_pk (d := evD .wait) rfl <| hes_nil ⟨[evD .wait], rfl, by simp, h_call <| a_io rfl <| a_val (A := false) <| h_pk (d := .int 3) rfl ⟨_, rfl, a_nil (calli (i := 0) (ds := [.int 3]) rfl (cb (call_take (j := j + 1) ht (by omega) (by omega) (by omega))) fun r t1 h => ?_)⟩⟩
  obtain ⟨d, rfl, B1, e', rfl, e0, e1⟩ := h
  obtain ⟨e, rfl⟩ : ∃ n : Nat, e' = (n : Int) := ⟨e'.toNat, by omega⟩
  refine ⟨evD .wait, e, rfl, rfl, by omega, hes_cons <| h_repw <| h_lst <| hes_cons <| h_pk (d := evD .wait) rfl <| hes_nil ⟨[evD .wait], rfl, by simp, h_bop <| h_pk (d := .int 1) rfl <| h_call <| a_io rfl <| a_val (A := false) <| h_pk (d := .int 2) rfl ⟨_, rfl, a_nil (calli (i := 0) (ds := [.int 2]) rfl (cb (call_take (j := j + 1) B1 (by omega) (by omega) (by omega))) fun r t2 h => ?_)⟩⟩⟩
  obtain ⟨d, rfl, B2, l', rfl, l0, l1⟩ := h
  obtain ⟨l, rfl, hl1, hl2⟩ : ∃ n : Nat, l' = (n : Int) - 1 ∧ 1 ≤ n ∧ n ≤ 2 := ⟨(l' + 1).toNat, by omega, by omega, by omega⟩
  refine ⟨.int 1, .int ((l : Int) - 1), .int (l : Nat), rfl, rfl, ?_, evD .wait, l, rfl, rfl, by omega, hes_nil ⟨by simp, _, rfl, w_free (i := 1) rfl rfl <| w_free (i := 2) rfl rfl ?_⟩⟩
  · show some (D.int (1 + ((l : Int) - 1))) = _
    congr 2
    omega
  refine w_cons <| w_asg (A := false) (by simp) <| h_cat <| h_cat <| h_cat <| h_lst <| hes_cons <| h_pk (d := evD (.join 0)) rfl <| hes_cons <| h_tup <| hes_cons <| h_pk (d := .str "put") rfl <| hes_cons <| h_pk (d := .str "a") rfl <| hes_cons <| h_call <| a_io rfl <| a_val (A := false) <| h_pk (d := .int 9) rfl ⟨_, rfl, a_nil (calli (i := 0) (ds := [.int 9]) rfl (cb (call_take (j := j + 1) B2 (by omega) (by omega) (by omega))) fun r t3 h => ?_)⟩
  obtain ⟨d, rfl, B3, v, rfl, v0, v1⟩ := h
  refine hes_nil ⟨[.str "put", .str "a", .int v], rfl, by simp, hes_cons <| h_pk (d := evD (.read 0 1)) rfl <| hes_nil ⟨[evD (.join 0), evD (.put "a" v), evD (.read 0 1)], rfl, by simp, h_pk (d := .lst (List.replicate e (evD .wait))) rfl ⟨_, _, rfl, rfl, by simp; omega, ?_⟩⟩⟩
  refine h_lst <| hes_cons <| h_pk (d := evD (.drop "a")) rfl <| hes_nil ⟨[evD (.drop "a")], rfl, by simp, _, _, rfl, rfl, by simp; omega, h_pk (d := .lst (List.replicate l (evD .wait))) rfl ⟨_, _, rfl, rfl, by simp; omega, ?_⟩⟩
  have hbl : (lagB v e l).length ≤ 10 := by unfold lagB; simp; omega
  have hbl2 : 5 ≤ (lagB v e l).length := by unfold lagB; simp; omega
  have eB : (([evD (.join 0), evD (.put "a" v), evD (.read 0 1)] ++ List.replicate e (evD .wait)) ++ [evD (.drop "a")]) ++ List.replicate l (evD .wait) = (lagB v e l).map evD := by unfold lagB; simp
  rw [eB]
  refine w_free (i := 3) rfl rfl ?_
  have T := fun w => lag_tbl (v := v) (e := e) (l := l) (w := w) v0 (by omega) (by omega) hl1 hl2
  have eU1 : lagU true v e l = lagB v e l ++ [.put "b" 1, .read 0 3] := rfl
  have eU2 : lagU false v e l = (lagB v e l).take 3 ++ [.save 0] ++ (lagB v e l).drop 3 ++ [.load 1 0, .read 0 2, .read 1 2] := rfl
  generalize lagB v e l = L at hbl hbl2 eU1 eU2
  have fin : ∀ {w : Bool} {t4 : OT}, BxT t4 (k + 4) → HSs (cfN tab (j + 2)) [0] (.cons (.ret (.blt .tuple (.cons (.slc false true (.var 3) (.con .non) (.bop .sub (.blt .len (.cons (.var 3) .nil)) (.blt .int (.cons (.cmp .eq (.call i_l_take (.cons (.var 0) (.cons (.con (.int 3)) .nil))) (.con (.int 0))) .nil)))) .nil))) .nil) [some t4, some (.v (.lst (List.replicate e (evD .wait)))), some (.v (.lst (List.replicate l (evD .wait)))), some (.v (.lst ((lagU w v e l).map evD)))] (retQ [0] fun r fin => ∃ d t', r = .v d ∧ fin = [t'] ∧ BxT t' (k + 10) ∧ ∃ es ws, d = tbD es ∧ Tbl es ws) := fun {w t4} B4 => by
    obtain ⟨ws, Tw⟩ := T w
    have hlen := Tw.len
    have hpos : 1 ≤ (lagU w v e l).length := by cases w <;> simp [eU1, eU2] <;> omega
    generalize lagU w v e l = U at Tw hlen hpos
    refine w_cons <| w_ret (A := false) <| h_blt <| hes_cons <| h_slch <| h_pk (d := .lst (U.map evD)) rfl <| h_bop <| h_blt <| hes_cons <| h_pk (d := .lst (U.map evD)) rfl <| hes_nil ⟨[.lst (U.map evD)], .int U.length, rfl, by simp [dblt], h_blt <| hes_cons <| h_cmp <| h_call <| a_io rfl <| a_val (A := false) <| h_pk (d := .int 3) rfl ⟨_, rfl, a_nil (calli (i := 0) (ds := [.int 3]) rfl (cb (call_take (j := j + 1) B4 (by omega) (by omega) (by omega))) fun r t5 h => ?_)⟩⟩
    obtain ⟨d, rfl, B5, n, rfl, n0, n1⟩ := h
    refine h_pk (d := .int 0) rfl ⟨.int n, .int 0, decide (n = 0), rfl, rfl, by simp [dcmp, deq, deqS], hes_nil ⟨[.bl (decide (n = 0))], .int (if n = 0 then 1 else 0), rfl, ?_, .int U.length, .int (if n = 0 then 1 else 0), .int ((U.length - (if n = 0 then 1 else 0) : Nat) : Int), rfl, rfl, ?_, U.map evD, U.length - (if n = 0 then 1 else 0), rfl, rfl, hes_nil ⟨[.lst ((U.map evD).take (U.length - (if n = 0 then 1 else 0)))], tbD (U.take (U.length - (if n = 0 then 1 else 0))), rfl, ?_, ?_⟩⟩⟩
    · by_cases h : n = 0 <;> simp [dblt, h]
    · show some (D.int (((U.length : Nat) : Int) - (if n = 0 then 1 else 0))) = _
      congr 2
      split <;> omega
    · show some (D.tup ((U.map evD).take _)) = some (D.tup ((U.take _).map evD))
      rw [List.map_take]
    · obtain ⟨wt, Tt⟩ := tbl_take Tw (U.length - (if n = 0 then 1 else 0))
      exact ⟨[t5], rfl, _, t5, rfl, rfl, B5.mono (by omega), _, wt, rfl, Tt⟩
  refine w_cons <| w_if (A := false) <| h_cmp <| h_call <| a_io rfl <| a_val (A := false) <| h_pk (d := .int 2) rfl ⟨_, rfl, a_nil (calli (i := 0) (ds := [.int 2]) rfl (cb (call_take (j := j + 1) B3 (by omega) (by omega) (by omega))) fun r t4 h => ?_)⟩
  obtain ⟨d, rfl, B4, n, rfl, n0, n1⟩ := h
  refine h_pk (d := .int 0) rfl ⟨.int n, .int 0, decide (n = 0), rfl, rfl, by simp [dcmp, deq, deqS], ?_⟩
  cases hn : decide (n = 0) with
  | true =>
    refine .inl ⟨rfl, w_cons <| w_asg (A := false) (by simp) <| h_cat <| h_pk (d := .lst (L.map evD)) rfl <| h_lst <| hes_cons <| h_pk (d := evD (.put "b" 1)) rfl <| hes_cons <| h_pk (d := evD (.read 0 3)) rfl <| hes_nil ⟨[evD (.put "b" 1), evD (.read 0 3)], rfl, by simp, _, _, rfl, rfl, by simp; omega, w_free (i := 3) rfl rfl <| w_nil ?_⟩⟩
    have := fin (w := true) (t4 := t4) (B4.mono (by omega))
    rw [eU1, List.map_append] at this
    exact this
  | false =>
    refine .inr ⟨rfl, w_cons <| w_asg (A := false) (by simp) <| h_cat <| h_cat <| h_cat <| h_slcl (xs := L.map evD) (y := .non) (z := .int 3) (ys := (L.take 3).map evD) rfl rfl rfl ?_ <| h_lst <| hes_cons <| h_pk (d := evD (.save 0)) rfl <| hes_nil ⟨[evD (.save 0)], rfl, by simp, _, _, rfl, rfl, by simp; omega, h_slcl (xs := L.map evD) (y := .int 3) (z := .non) (ys := (L.drop 3).map evD) rfl rfl rfl ?_ ⟨_, _, rfl, rfl, by simp; omega, h_lst <| hes_cons <| h_pk (d := evD (.load 1 0)) rfl <| hes_cons <| h_pk (d := evD (.read 0 2)) rfl <| hes_cons <| h_pk (d := evD (.read 1 2)) rfl <| hes_nil ⟨[evD (.load 1 0), evD (.read 0 2), evD (.read 1 2)], rfl, by simp, _, _, rfl, rfl, by simp; omega, w_free (i := 3) rfl rfl <| w_nil ?_⟩⟩⟩⟩
    · show some (D.lst (cutG (L.map evD) none (some ((3 : Nat) : Int)))) = _
      rw [cutG_hi, List.map_take]
    · show some (D.lst (cutG (L.map evD) (some ((3 : Nat) : Int)) none)) = _
      rw [cutG_lo, List.map_drop]
    have := fin (w := false) (t4 := t4) (B4.mono (by omega))
    rw [eU2, List.map_append, List.map_append, List.map_append] at this
    exact this
end
end Mp.V
namespace Mp.V
open PySem L2
def lkX (X : List (Int × Int)) (i : Nat) : Option Int := (X.find? fun p => decide (p.1 = (i : Int))).map (·.2)
def seatI (ws : Dr.Ws) (r : Int) : Int := match getD ws.seats (.inl r) with | some (.int b) => b | _ => 0
def rdE (ws : Dr.Ws) (r u : Int) : Dr.Ev := if seatI ws r < u then .read r u else .wait
def oneE (X : List (Int × Int)) (i : Nat) (ws : Dr.Ws) (e : Dr.Ev) : Dr.Ev :=
  match lkX X i with
  | some r => rdE ws r ws.many
  | none => match e with | .read r u => rdE ws r u | e => e
def wiS (X : List (Int × Int)) (i : Nat) (q : List Dr.Ev × Dr.Ws) (o : Option Dr.Ev) : List Dr.Ev × Dr.Ws :=
  match o with
  | none => q
  | some e => (q.1 ++ [oneE X i q.2 e], (q.2.step (oneE X i q.2 e)).getD q.2)
def wiN (X : List (Int × Int)) (es : List Dr.Ev) : Nat → List Dr.Ev × Dr.Ws
  | 0 => ([], Dr.w0)
  | n + 1 => wiS X n (wiN X es n) es[n]?
def wiE (X : List (Int × Int)) (es : List Dr.Ev) : List Dr.Ev := (wiN X es es.length).1
structure Alk (a b : Dr.Ws) : Prop where
  many : a.many = b.many
  keys : ∀ k, (getD a.seats k).isSome = (getD b.seats k).isSome
  cps : a.copies.length = b.copies.length
theorem getD_pp {kvs : List (Key × PV)} {k k' : Key} {v : PV} : (getD (putD kvs k v) k').isSome = (decide (k' = k) || (getD kvs k').isSome) := by
  by_cases h : k' = k
  · subst h; rw [getD_putS]; simp
  · rw [getD_putN h]; simp [h]
theorem seat_int {ws : Dr.Ws} {n : Nat} {r : Int} (h : Dr.WsOk ws n) (hs : (getD ws.seats (.inl r)).isSome = true) : getD ws.seats (.inl r) = some (.int (seatI ws r)) ∧ 0 ≤ r ∧ r ≤ 3 ∧ 0 ≤ seatI ws r := by
  obtain ⟨v, hv⟩ := Option.isSome_iff_exists.mp hs
  obtain ⟨p, i, e, h1, h2, h3⟩ := h.seats _ (Mp.getD_mem hv)
  cases e
  have e : seatI ws r = i := by simp only [seatI, hv]
  rw [e]; exact ⟨hv, h1, h2, h3⟩
theorem rd_step {a b : Dr.Ws} {n : Nat} {r u : Int} (h : Alk a b) (ha : Dr.WsOk a n) (hs : (getD b.seats (.inl r)).isSome = true) (hu : u ≤ a.many) (h0 : 0 ≤ u) : Dr.EvOk (rdE a r u) ∧ ∃ a', a.step (rdE a r u) = some a' ∧ Alk a' b := by
  have hsa : (getD a.seats (.inl r)).isSome = true := by rw [h.keys]; exact hs
  obtain ⟨e1, e2, e3, e4⟩ := seat_int ha hsa
  unfold rdE
  split
  · rename_i hlt
    refine ⟨⟨e2, e3, h0⟩, { a with seats := putD a.seats (.inl r) (.int u) }, ?_, h.many, fun k => ?_, h.cps⟩
    · simp only [Dr.Ws.step, e1]; rw [if_pos ⟨hlt, hu⟩]
    · show (getD (putD a.seats _ _) k).isSome = _
      rw [getD_pp]
      by_cases hk : k = .inl r
      · subst hk; simp [hs]
      · simp [hk, h.keys]
  · exact ⟨trivial, a, rfl, h⟩
theorem one_step {X : List (Int × Int)} {a b b' : Dr.Ws} {n i : Nat} {e : Dr.Ev} (h : Alk a b) (ha : Dr.WsOk a n) (hb : Dr.WsOk b n) (he : Dr.EvOk e) (hs : b.step e = some b') (hX : ∀ r, lkX X i = some r → e = .wait ∧ (getD b.seats (.inl r)).isSome = true) :
    Dr.EvOk (oneE X i a e) ∧ ∃ a', a.step (oneE X i a e) = some a' ∧ Alk a' b' := by
  unfold oneE
  cases hl : lkX X i with
  | some r =>
    obtain ⟨rfl, hr⟩ := hX r hl
    cases hs
    exact rd_step h ha hr (Int.le_refl _) ha.m0
  | none =>
    cases e with
    | put k v => cases hs; exact ⟨he, _, rfl, by show a.many + 1 = b.many + 1; rw [h.many], h.keys, h.cps⟩
    | drop k => cases hs; exact ⟨he, _, rfl, by show a.many + 1 = b.many + 1; rw [h.many], h.keys, h.cps⟩
    | join r => cases hs; exact ⟨he, _, rfl, h.many, fun k => by show (getD (putD a.seats _ _) k).isSome = (getD (putD b.seats _ _) k).isSome; rw [getD_pp, getD_pp, h.keys], h.cps⟩
    | read r u =>
      obtain ⟨⟨b0, q1, q2, q3⟩, rfl⟩ := Dr.step_read hs
      have hk : (getD b.seats (.inl r)).isSome = true := by rw [q1]; rfl
      obtain ⟨w1, a', w2, w3⟩ := rd_step (u := u) h ha hk (by rw [h.many]; exact q3) he.2.2
      refine ⟨w1, a', w2, w3.many, fun k => ?_, w3.cps⟩
      rw [w3.keys]
      show _ = (getD (putD b.seats _ _) k).isSome
      rw [getD_pp]
      by_cases hk2 : k = .inl r
      · subst hk2; simp [hk]
      · simp [hk2]
    | save r =>
      simp only [Dr.Ws.step] at hs
      obtain ⟨v, h1, h2⟩ := Option.map_eq_some_iff.mp hs
      subst h2
      have hk : (getD a.seats (.inl r)).isSome = true := by rw [h.keys, h1]; rfl
      obtain ⟨v', hv⟩ := Option.isSome_iff_exists.mp hk
      exact ⟨he, { a with copies := a.copies ++ [v'] }, by show ((getD a.seats (.inl r)).map fun v => _) = _; rw [hv]; rfl, h.many, h.keys, by show (a.copies ++ [v']).length = (b.copies ++ [v]).length; simp [h.cps]⟩
    | load r c =>
      simp only [Dr.Ws.step] at hs
      obtain ⟨v, h1, h2⟩ := Option.map_eq_some_iff.mp hs
      subst h2
      have hk : ∃ v', atI a.copies c = some v' := by
        simp only [atI, h.cps] at h1 ⊢
        obtain ⟨j, j1, j2⟩ := Option.bind_eq_some_iff.mp h1
        rw [j1]
        have : j < a.copies.length := by rw [h.cps]; exact (List.getElem?_eq_some_iff.mp j2).1
        exact ⟨a.copies[j], by simp [List.getElem?_eq_getElem this]⟩
      obtain ⟨v', hv⟩ := hk
      exact ⟨he, { a with seats := putD a.seats (.inl r) v' }, by show ((atI a.copies c).map fun v => _) = _; rw [hv]; rfl, h.many, fun k => by show (getD (putD a.seats _ _) k).isSome = (getD (putD b.seats _ _) k).isSome; rw [getD_pp, getD_pp, h.keys], h.cps⟩
    | wait => cases hs; exact ⟨trivial, a, rfl, h⟩
def XOk (X : List (Int × Int)) (es : List Dr.Ev) : Prop := ∀ i r, lkX X i = some r → i < es.length → es[i]? = some .wait ∧ (getD (wsAt es i).seats (.inl r)).isSome = true
structure WiOk (X : List (Int × Int)) (es : List Dr.Ev) (n : Nat) : Prop where
  run : Dr.w0.run (wiN X es n).1 = some (wiN X es n).2
  alk : Alk (wiN X es n).2 (wsAt es n)
  len : (wiN X es n).1.length = n
  wok : Dr.WsOk (wiN X es n).2 n
  ev : ∀ e ∈ (wiN X es n).1, Dr.EvOk e
theorem wi_step {X : List (Int × Int)} {es : List Dr.Ev} {ws : Dr.Ws} {n : Nat} {e : Dr.Ev} (T : Tbl es ws) (hX : XOk X es) (W : WiOk X es n) (he : es[n]? = some e) :
    (wiN X es n).2.step (oneE X n (wiN X es n).2 e) = some (wiN X es (n + 1)).2 ∧ (wiN X es (n + 1)).1 = (wiN X es n).1 ++ [oneE X n (wiN X es n).2 e] ∧ Dr.EvOk (oneE X n (wiN X es n).2 e) ∧ WiOk X es (n + 1) := by
  have hlt := (List.getElem?_eq_some_iff.mp he).1
  obtain ⟨wt, h1, h2, h3, _⟩ := tbl_at T n (by omega)
  have hwt := wsAt_of h1
  have hen : es[n] = e := by rw [List.getElem?_eq_getElem hlt] at he; exact Option.some.inj he
  rw [List.drop_eq_getElem_cons hlt, hen] at h2
  obtain ⟨w2, q1, q2⟩ := Option.bind_eq_some_iff.mp (show (wt.step e).bind (fun w => w.run (es.drop (n + 1))) = some ws from h2)
  have hw2 : wsAt es (n + 1) = w2 := wsAt_of (by rw [List.take_succ_eq_append_getElem hlt, hen]; exact Dr.Ws.run_app h1 q1)
  have heo := T.ok e (List.mem_of_getElem? he)
  obtain ⟨o1, a', o2, o3⟩ := one_step (X := X) (i := n) W.alk W.wok (by rw [hwt]; exact h3) heo (by rw [hwt]; exact q1) (fun r hr => by
    obtain ⟨z1, z2⟩ := hX n r hr hlt
    rw [he] at z1
    exact ⟨Option.some.inj z1, z2⟩)
  have e1 : wiN X es (n + 1) = ((wiN X es n).1 ++ [oneE X n (wiN X es n).2 e], a') := by
    show wiS X n (wiN X es n) es[n]? = _
    rw [he]
    show (_, ((wiN X es n).2.step _).getD _) = _
    rw [o2]; rfl
  refine ⟨by rw [e1]; exact o2, by rw [e1], o1, ?_, ?_, ?_, ?_, ?_⟩
  · rw [e1]; exact Dr.Ws.run_app W.run o2
  · rw [e1, hw2]; exact o3
  · rw [e1]; simp [W.len]
  · rw [e1]; exact Dr.step_ok W.wok o1 o2
  · rw [e1]
    intro x hx
    rcases List.mem_append.mp hx with h | h
    · exact W.ev x h
    · simp at h; subst h; exact o1
theorem wi_ok {X : List (Int × Int)} {es : List Dr.Ev} {ws : Dr.Ws} (T : Tbl es ws) (hX : XOk X es) : ∀ n, n ≤ es.length → WiOk X es n
  | 0, _ => ⟨rfl, ⟨rfl, fun _ => rfl, rfl⟩, rfl, Dr.w0_ok, fun e h => by cases h⟩
  | n + 1, h => (wi_step T hX (wi_ok T hX n (by omega)) (List.getElem?_eq_getElem (by omega))).2.2.2
theorem wi_tbl {X : List (Int × Int)} {es : List Dr.Ev} {ws : Dr.Ws} (T : Tbl es ws) (hX : XOk X es) : Tbl (wiE X es) (wiN X es es.length).2 := by
  have W := wi_ok T hX es.length (Nat.le_refl _)
  have hws : wsAt es es.length = ws := wsAt_of (by rw [List.take_length]; exact T.run)
  exact ⟨W.run, by rw [W.alk.many, hws]; exact T.many, by unfold wiE; rw [W.len]; exact T.len, W.ev, W.wok.mono T.len⟩
def ksW (ws : Dr.Ws) : List Int := sortI ((seatsK ws.seats).map (·.1))
def frN (es : List Dr.Ev) (n : Nat) : List (Nat × List Int) := ((List.range n).filter fun t => match es[t]? with | some e => isW e | none => false).map fun t => (t, ksW (wsAt es t))
end Mp.V
namespace Mp.V
open PySem L2
theorem idxW_m {M : Mm} {w s c : Nat} {ws : Dr.Ws} (h : Dr.WAt M w s c ws) : idxP M (.ref w) (.str "many") = some (.int ws.many) := by
  have := h.w_; simp [idxP, this, Mp.keyOf, getD, Dr.wdic]
section
variable {A : Bool} {cf : CF} {env : Env} {ws : Dr.Ws} {i : Nat} {Q : OT → Env → Prop}
theorem h_wmany (h1 : env[i]? = some (some (.oo (wsQ ws)))) (q : Q (.v (.int ws.many)) env) : HE A cf (.idx (.var i) (.con (.str "many"))) env Q := h_mem fun sg M nss X S => by
  obtain ⟨x, ns, g1, _, w, s, c, rfl, rfl, W⟩ := S.at_ i _ h1
  refine ⟨.int ws.many, M, .v (.int ws.many), [], ?_, Nat.le_refl _, fun i hi => rfl, fun B hB => ⟨.int _, rfl⟩, by simp, by simp, q⟩
  rw [Mp.evE, e_var g1]; simp only [evE, idxW_m W, Option.map_some]
theorem h_wsort (h1 : env[i]? = some (some (.oo (wsQ ws)))) (hc : ∀ kv ∈ ws.seats, ∃ p v : Int, kv = (.inl p, .int v)) (hl : ws.seats.length < 64) (q : Q (.ol ((ksW ws).map .int)) env) : HE A cf (.blt .sorted (.cons (.idx (.var i) (.con (.str "seats"))) .nil)) env Q := h_mem fun sg M nss X S => by
  obtain ⟨x, ns, g1, _, w, s, c, rfl, rfl, W⟩ := S.at_ i _ h1
  have e2 : evE cf (.idx (.var i) (.con (.str "seats"))) sg M = some (.ref s, M) := by
    rw [Mp.evE, e_var g1]; simp only [evE, idxW_s W, Option.map_some]
  have e3 : bltP M .sorted [.ref s] = some (.ref M.length, M ++ [.lst ((ksW ws).map .int)]) := by
    simp only [bltP, W.s_, keysI_seats hc, Option.bind_some]
    rw [if_pos (by have := seatsK_len ws.seats; simp; omega)]
    rfl
  exact ⟨.ref M.length, M ++ [.lst ((ksW ws).map .int)], .ol ((ksW ws).map .int), [M.length], e_blt (es_one e2) e3, by simp, fun i hi => by rw [List.getElem?_append_left hi], fun B hB => ⟨M.length, _, rfl, rfl, by simp, Rps.ints _⟩, by simp, by simp, q⟩
theorem h_wseat1 {a : E} {r b : Int} (h1 : env[i]? = some (some (.oo (wsQ ws)))) (h2 : pk env a = some (.v (.int r))) (hs : getD ws.seats (.inl r) = some (.int b)) (q : Q (.v (.int b)) env) : HE A cf (.idx (.idx (.var i) (.con (.str "seats"))) a) env Q := h_mem fun sg M nss X S => by
  obtain ⟨x, ns, g1, _, w, s, c, rfl, rfl, W⟩ := S.at_ i _ h1
  obtain ⟨v, ns2, e3, o3, _⟩ := pk_ok (cf := cf) S a h2
  cases o3.1
  refine ⟨.int b, M, .v (.int b), [], ?_, Nat.le_refl _, fun i hi => rfl, fun B hB => ⟨.int _, rfl⟩, by simp, by simp, q⟩
  have e2 : evE cf (.idx (.var i) (.con (.str "seats"))) sg M = some (.ref s, M) := by
    rw [Mp.evE, e_var g1]; simp only [evE, idxW_s W, Option.map_some]
  rw [Mp.evE, e2]
  simp only [e3, idxP, W.s_, Mp.keyOf, Option.bind_some, hs, Option.map_some]
end
theorem call_start {j : Nat} : Call (cfN tab (j + 1)) i_l_start [] [] (fun r fin => fin = [] ∧ r = .oo (wsQ Dr.w0)) := by
  refine call_fn (d := ir_l_start) rfl rfl (by simp) (by simp) ?_
  exact w_cons <| w_ret (A := true) <| h_wE ⟨[], rfl, rfl, rfl⟩
def wtD (q : Nat × List Int) : D := .tup [.int (q.1 : Nat), .lst (q.2.map .int)]
theorem frN_succ {es : List Dr.Ev} {t : Nat} {e : Dr.Ev} (he : es[t]? = some e) : frN es (t + 1) = frN es t ++ if isW e = true then [(t, ksW (wsAt es t))] else [] := by
  unfold frN
  rw [List.range_succ, List.filter_append, List.map_append]
  congr 1
  simp only [List.filter_cons, he, List.filter_nil]
  split <;> rfl
theorem frN_len (es : List Dr.Ev) (t : Nat) : (frN es t).length ≤ t := by
  unfold frN
  have := List.length_filter_le (fun t => match es[t]? with | some e => isW e | none => false) (List.range t)
  simp at this ⊢; exact this
theorem wait_pk {s : Bool} {env : Env} {e : Dr.Ev} {i : Nat} (h : env[i]? = some (some (.v (evS s e)))) : pk env (.cmp .eq (.idx (.var i) (.con (.int 0))) (.con (.str "wait"))) = some (.v (.bl (isW e))) := by
  have h1 : pk env (.idx (.var i) (.con (.int 0))) = some (.v (.str e.wd)) := by simp [pk, h, conD, OT.top, ev_0]
  rw [pk, h1]
  cases e <;> simp [pk, conD, OT.top, dcmp, deq, deqS, Dr.Ev.wd, isW, str_inj]
theorem read_pk {s : Bool} {env : Env} {e : Dr.Ev} {i : Nat} (h : env[i]? = some (some (.v (evS s e)))) : pk env (.cmp .eq (.idx (.var i) (.con (.int 0))) (.con (.str "read"))) = some (.v (.bl (decide (e.wd = "read")))) := by
  have h1 : pk env (.idx (.var i) (.con (.int 0))) = some (.v (.str e.wd)) := by simp [pk, h, conD, OT.top, ev_0]
  rw [pk, h1]
  simp [pk, conD, OT.top, dcmp, deq, deqS]
theorem ws_ints {ws : Dr.Ws} {n : Nat} (h : Dr.WsOk ws n) : ∀ kv ∈ ws.seats, ∃ p v : Int, kv = (.inl p, .int v) := fun kv hk => by
  obtain ⟨p, v, e, _⟩ := h.seats kv hk
  exact ⟨p, v, e⟩
theorem at_step {es : List Dr.Ev} {ws : Dr.Ws} {t : Nat} {e : Dr.Ev} (T : Tbl es ws) (he : es[t]? = some e) : Dr.WsOk (wsAt es t) t ∧ (wsAt es t).step e = some (wsAt es (t + 1)) := by
  have hlt := (List.getElem?_eq_some_iff.mp he).1
  obtain ⟨wt, h1, h2, h3, _⟩ := tbl_at T t (by omega)
  have hwt := wsAt_of h1
  have hen : es[t] = e := by rw [List.getElem?_eq_getElem hlt] at he; exact Option.some.inj he
  rw [List.drop_eq_getElem_cons hlt, hen] at h2
  obtain ⟨w2, q1, q2⟩ := Option.bind_eq_some_iff.mp (show (wt.step e).bind (fun w => w.run (es.drop (t + 1))) = some ws from h2)
  have hw2 : wsAt es (t + 1) = w2 := wsAt_of (by rw [List.take_succ_eq_append_getElem hlt, hen]; exact Dr.Ws.run_app h1 q1)
  rw [hwt, hw2]
  exact ⟨h3, q1⟩
theorem call_free {j : Nat} {es : List Dr.Ev} {ws : Dr.Ws} (T : Tbl es ws) : Call (cfN tab (j + 2)) i_l_free [] [.v (tbD es)] (fun u fin => fin = [] ∧ u = .ol ((frN es es.length).map wtD)) := by
  have hlen := T.len
  refine call_fn (d := ir_l_free) rfl rfl (by simp) (by simp) ?_
  refine w_cons <| w_asgt (A := false) (by simp) <| hes_cons <| h_lst <| hes_nil ⟨[], rfl, by simp, hes_cons <| h_call <| a_nil (callv (ds := []) (call_start (j := j)) fun r hr => ?_)⟩
  subst hr
  refine hes_nil ⟨by simp, _, rfl, ?_⟩
  refine w_cons (w_for (A := false) (i_enum (h_pk (d := tbS false es) rfl ⟨_, es.map (evS false), rfl, tbS_iter false es, tbS_str false es, by simp; omega, ?_⟩)))
  refine f_inv (by simp) (fun t env => ∃ o3 o4, env = [some (.v (tbD es)), some (.ol ((frN es t).map wtD)), some (.oo (wsQ (wsAt es t))), o3, o4]) ?_ ?_ _ ⟨none, none, rfl⟩
  · rintro t x env hx ⟨o3, o4, rfl⟩
    obtain ⟨e, he, rfl⟩ := enum_at hx
    refine ⟨_, rfl, ?_⟩
    have hlt := (List.getElem?_eq_some_iff.mp he).1
    obtain ⟨k1, k2⟩ := at_step T he
    have hsl : (wsAt es t).seats.length < 64 := by have := k1.sl; omega
    have hfl := frN_len es t
    have hs := frN_succ he
    have mv : ∀ {Q : Flo → Env → Prop} (L : List (Nat × List Int)), L = frN es (t + 1) → Q .nx [some (.v (tbD es)), some (.ol ((frN es (t + 1)).map wtD)), some (.oo (wsQ (wsAt es (t + 1)))), some (.v (.int (t : Nat))), some (.v (evS false e))] → HSs (cfN tab (j + 1)) [] (.cons (.exp (.call i_l_moved (.cons (.var 2) (.cons (.var 4) .nil)))) .nil) [some (.v (tbD es)), some (.ol (L.map wtD)), some (.oo (wsQ (wsAt es t))), some (.v (.int (t : Nat))), some (.v (evS false e))] Q := fun L hL q => by
      subst hL
      refine w_cons <| w_exp <| h_call <| a_io rfl <| a_val (A := false) <| h_pk (d := evS false e) rfl ⟨_, rfl, a_nil (calli (i := 2) (ds := [evS false e]) rfl (one (call_moved (j := j) k1 (by omega) k2)) fun r t2 h => ?_)⟩
      obtain ⟨rfl, rfl⟩ := h
      exact w_nil q
    refine w_cons <| w_if (A := true) <| h_pk (d := .bl (isW e)) (wait_pk rfl) ?_
    cases hw : isW e with
    | true =>
      rw [hw] at hs
      refine .inl ⟨rfl, w_cons <| w_exp <| h_mutl (A := false) (xs0 := (frN es t).map wtD) rfl <| hes_cons <| h_tup (A := false) <| hes_cons <| h_pk (d := .int (t : Nat)) rfl <| hes_cons <| h_wsort (i := 2) rfl (ws_ints k1) hsl <| hes_nil ⟨[.int (t : Nat), .lst ((ksW (wsAt es t)).map .int)], rfl, by simp, hes_nil ⟨[wtD (t, ksW (wsAt es t))], (frN es t).map wtD, _, _, rfl, rfl, app_ok (by simp; omega), w_nil ?_⟩⟩⟩
      have e1 : (frN es t).map wtD ++ [wtD (t, ksW (wsAt es t))] = (frN es t ++ [(t, ksW (wsAt es t))]).map wtD := by simp
      show HSs _ _ _ [_, some (.ol ((frN es t).map wtD ++ [wtD (t, ksW (wsAt es t))])), _, _, _] _
      rw [e1]
      exact mv (frN es t ++ [(t, ksW (wsAt es t))]) hs.symm ⟨_, _, rfl⟩
    | false =>
      rw [hw] at hs
      exact .inr ⟨rfl, w_nil (mv (frN es t) (by rw [hs]; simp) ⟨_, _, rfl⟩)⟩
  · rintro env ⟨o3, o4, rfl⟩
    have hn : (((es.map (evS false)).zipIdx).map fun q => D.tup [.int (q.2 : Nat), q.1]).length = es.length := by simp
    rw [hn]
    exact w_cons (w_retv (i := 1) rfl ⟨[], rfl, rfl, rfl⟩)
end Mp.V
namespace Mp.V
open PySem L2
def prI (p : Int × Int) : D := .tup [.int p.1, .int p.2]
def kvI (X : List (Int × Int)) : List (Key × D) := X.map fun p => (.inl p.1, .int p.2)
def kvP (X : List (Int × Int)) : List (Key × PV) := X.map fun p => (.inl p.1, .int p.2)
theorem kvI_rel {B : Nat → Prop} {M : Mm} : ∀ X : List (Int × Int), (kvP X).map (·.1) = (kvI X).map (·.1) ∧ Rps B M ((kvP X).map (·.2)) ((kvI X).map (·.2))
  | [] => ⟨rfl, .nil⟩
  | p :: X => ⟨by simp [kvP, kvI], .cons (.int _) (kvI_rel X).2⟩
theorem prKV_map : ∀ X : List (Int × Int), (X.map fun p => PV.tup [.int p.1, .int p.2]).mapM prKV = some (kvP X)
  | [] => rfl
  | p :: X => by
    rw [List.map_cons, List.mapM_cons, prKV_map X]; rfl
section
variable {A : Bool} {cf : CF} {env : Env} {es : Es} {Q : OT → Env → Prop}
theorem h_ptuple (h : HEs A cf es env fun ts env1 => ∃ xs, ts.mapM OT.toD = some [.lst xs] ∧ Q (.v (.ptup xs)) env1) : HE A cf (.blt .ptuple es) env Q := fun sg M nss X S => by
  obtain ⟨vs, M', ts, mss, env', nss', e1, R, xs, h1, h3⟩ := h sg M nss X S
  have r := R.frees h1
  cases r with
  | cons r r0 =>
    cases r0
    cases r with
    | @lst n zs _ hb g r =>
      refine ⟨.ptup zs, M', .v (.ptup xs), [], env', nss', e_blt e1 (by simp only [bltP, lstAt, g]; rfl), ?_, h3⟩
      exact (ers_nil (A := A) S).seq (show ERs A sg M env nss X [.ptup zs] M' [.v (.ptup xs)] [[]] env' nss' from by
        have w := ers_v (A := true) (sg := sg) R.dropped (Rp.ptup r)
        exact ⟨w.sr, w.or, w.nd, w.mx, fun n hn => R.nw n (hn.imp (by simp) id), R.fr, R.le, R.al⟩)
theorem h_dictpt (h : HEs A cf es env fun ts env1 => ∃ X, ts.mapM OT.top = some [.ptup (X.map prI)] ∧ (kvP X).foldl (fun acc kv => putD acc kv.1 kv.2) [] = kvP X ∧ Q (.od (kvI X)) env1) : HE A cf (.blt .dictp es) env Q := fun sg M nss Y S => by
  obtain ⟨vs, M', ts, mss, env', nss', e1, R, X, h1, h2, h3⟩ := h sg M nss Y S
  have r := R.tops h1
  cases r with
  | cons r r0 =>
    cases r0
    cases (show Rp _ _ _ _ from r) with
    | @ptup xs _ r =>
      have hx : xs = X.map (fun p => PV.tup [.int p.1, .int p.2]) := r.pl (pls_map fun p _ => rfl)
      subst hx
      have hk := kvI_rel (B := Bd nss' Y) (M := M') X
      exact ⟨.ref M'.length, M' ++ [.dic (kvP X)], .od (kvI X), _, env', nss', e_blt e1 (by simp only [bltP, prKV_map, Option.map_some, h2]), R.newD hk.1 hk.2, h3⟩
end
end Mp.V
namespace Mp.V
open PySem L2
def tldE (X : List (Int × Int)) (i : Nat) (ws : Dr.Ws) (e : Dr.Ev) : Dr.Ev := match lkX X i with | some r => .read r ws.many | none => e
theorem one_tld {X : List (Int × Int)} {i : Nat} {ws : Dr.Ws} {e : Dr.Ev} : oneE X i ws e = match tldE X i ws e with | .read r u => rdE ws r u | e => e := by
  unfold oneE tldE
  cases lkX X i with
  | some r => rfl
  | none => cases e <;> rfl
theorem getG_kvI (X : List (Int × Int)) (i : Nat) : getG (kvI X) (.inl (i : Int)) = (lkX X i).map D.int := by
  induction X with
  | nil => rfl
  | cons p X ih =>
    simp only [kvI, getG, lkX, List.map_cons, List.find?_cons] at ih ⊢
    by_cases h : p.1 = (i : Int)
    · simp [h]
    · have h2 : ¬ (Sum.inl p.1 : Key) = .inl (i : Int) := fun z => h (by injection z)
      simp only [h, h2, decide_false]
      exact ih
theorem tld_seat {X : List (Int × Int)} {es : List Dr.Ev} {ws : Dr.Ws} {n : Nat} {e : Dr.Ev} {r u : Int} (T : Tbl es ws) (hX : XOk X es) (W : WiOk X es n) (he : es[n]? = some e) (ht : tldE X n (wiN X es n).2 e = .read r u) :
    getD (wiN X es n).2.seats (.inl r) = some (.int (seatI (wiN X es n).2 r)) ∧ u ≤ (wiN X es n).2.many := by
  have hlt := (List.getElem?_eq_some_iff.mp he).1
  have key : (getD (wsAt es n).seats (.inl r)).isSome = true → getD (wiN X es n).2.seats (.inl r) = some (.int (seatI (wiN X es n).2 r)) := fun h => (seat_int W.wok (by rw [W.alk.keys]; exact h)).1
  unfold tldE at ht
  cases hl : lkX X n with
  | some q =>
    rw [hl] at ht
    cases ht
    exact ⟨key (hX n _ hl hlt).2, Int.le_refl _⟩
  | none =>
    rw [hl] at ht
    simp only at ht
    subst ht
    obtain ⟨_, k2⟩ := at_step T he
    obtain ⟨⟨b, q1, q2, q3⟩, _⟩ := Dr.step_read k2
    exact ⟨key (by rw [q1]; rfl), by rw [W.alk.many]; exact q3⟩
theorem rd_wd {e : Dr.Ev} (h : e.wd = "read") : ∃ r u, e = .read r u := by
  cases e <;> simp [Dr.Ev.wd] at h
  exact ⟨_, _, rfl⟩
theorem one_nrd {X : List (Int × Int)} {i : Nat} {ws : Dr.Ws} {e : Dr.Ev} (h : ¬ (tldE X i ws e).wd = "read") : oneE X i ws e = tldE X i ws e := by
  rw [one_tld]
  generalize tldE X i ws e = e' at h
  cases e' <;> first | rfl | exact absurd rfl h
abbrev WE (X : List (Int × Int)) (es : List Dr.Ev) (n : Nat) (o5 o6 o7 : Option OT) : Env := [some (.v (tbD es)), some (.v (.ptup (X.map prI))), some (.ol ((wiN X es n).1.map evD)), some (.oo (wsQ (wiN X es n).2)), some (.od (kvI X)), o5, o6, o7]
section
variable {j : Nat} {X : List (Int × Int)} {es : List Dr.Ev} {ws : Dr.Ws}
theorem with_turn {n : Nat} {e : Dr.Ev} {o7 : Option OT} (T : Tbl es ws) (hX : XOk X es) (W : WiOk X es n) (he : es[n]? = some e) {Q : Flo → Env → Prop} (q : ∀ o5 o6 o7, Q .nx (WE X es (n + 1) o5 o6 o7)) :
    HSs (cfN tab (j + 1)) [] b1_l_with (WE X es n (some (.v (.int (n : Nat)))) (some (.v (evD e))) o7) Q := by
  have hlen := T.len
  have hlt := (List.getElem?_eq_some_iff.mp he).1
  obtain ⟨s1, s2, s3, s4⟩ := wi_step T hX W he
  have hin : pk (WE X es n (some (.v (.int (n : Nat)))) (some (.v (evD e))) o7) (.cmp .isin (.var 5) (.var 4)) = some (.v (.bl (lkX X n).isSome)) := by
    simp [pk, OT.top, dcmp, din, keyD, getG_kvI]
  unfold b1_l_with
  have key : ∀ {ss : Ss}, HSs (cfN tab (j + 1)) [] ss (WE X es n (some (.v (.int (n : Nat)))) (some (.v (evD e))) (some (.v (evD (tldE X n (wiN X es n).2 e))))) Q → HSs (cfN tab (j + 1)) [] (.cons (.asg (.name 7) (.ite (.cmp .isin (.var 5) (.var 4)) (.tup (.cons (.con (.str "read")) (.cons (.idx (.var 4) (.var 5)) (.cons (.idx (.var 3) (.con (.str "many"))) .nil)))) (.var 6))) ss) (WE X es n (some (.v (.int (n : Nat)))) (some (.v (evD e))) o7) Q := fun {ss} h => by
    refine w_cons <| w_asg (A := false) (by simp) <| h_ite <| h_pk (d := .bl (lkX X n).isSome) hin ?_
    unfold tldE at h
    cases hl : lkX X n with
    | some r =>
      rw [hl] at h
      refine .inl ⟨rfl, h_tup (A := false) <| hes_cons <| h_pk (d := .str "read") rfl <| hes_cons <| h_pk (d := .int r) ?_ <| hes_cons <| h_wmany (i := 3) rfl <| hes_nil ⟨[.str "read", .int r, .int (wiN X es n).2.many], rfl, by simp, h⟩⟩
      simp [pk, OT.top, didx, keyD, getG_kvI, hl]
    | none =>
      rw [hl] at h
      exact .inr ⟨rfl, h_pk (d := evD e) rfl h⟩
  refine key ?_
  have fin : ∀ {o5 o6 o7}, o7 = some (OT.v (evD (oneE X n (wiN X es n).2 e))) → HSs (cfN tab (j + 1)) [] (.cons (.exp (.call i_l_moved (.cons (.var 3) (.cons (.var 7) .nil)))) (.cons (.exp (.mth .append (.var 2) (.cons (.var 7) .nil))) .nil)) (WE X es n o5 o6 o7) Q := fun {o5 o6 o7} h7 => by
    subst h7
    refine w_cons <| w_exp <| h_call <| a_io rfl <| a_val (A := false) <| h_pk (d := evD (oneE X n (wiN X es n).2 e)) rfl ⟨_, rfl, a_nil (calli (i := 3) (ds := [evD (oneE X n (wiN X es n).2 e)]) rfl (one (call_moved (j := j) W.wok (by omega) s1)) fun r t2 h => ?_)⟩
    obtain ⟨rfl, rfl⟩ := h
    refine w_cons <| w_exp <| h_mutl (A := true) (xs0 := (wiN X es n).1.map evD) rfl <| hes_cons <| h_pk (d := evD (oneE X n (wiN X es n).2 e)) rfl <| hes_nil ⟨[evD (oneE X n (wiN X es n).2 e)], (wiN X es n).1.map evD, _, _, rfl, rfl, app_ok (by simp [W.len]; omega), w_nil ?_⟩
    have e1 : (wiN X es n).1.map evD ++ [evD (oneE X n (wiN X es n).2 e)] = (wiN X es (n + 1)).1.map evD := by rw [s2]; simp
    show Q .nx [_, _, some (.ol ((wiN X es n).1.map evD ++ [evD (oneE X n (wiN X es n).2 e)])), _, _, _, _, _]
    rw [e1]
    exact q _ _ _
  generalize ht : tldE X n (wiN X es n).2 e = td at *
  refine w_cons <| w_if (A := false) <| h_and <| h_pk (d := .bl (decide (td.wd = "read"))) (read_pk (s := false) (e := td) rfl) ?_
  by_cases hw : td.wd = "read"
  · obtain ⟨r, u, rfl⟩ := rd_wd hw
    obtain ⟨g1, g2⟩ := tld_seat T hX W he ht
    have ho : oneE X n (wiN X es n).2 e = rdE (wiN X es n).2 r u := by rw [one_tld, ht]
    refine .inl ⟨by rw [decide_eq_true hw], h_cmp <| h_pk (d := .int u) rfl <| h_wseat1 (i := 3) (r := r) rfl rfl g1 ⟨_, _, decide (u ≤ seatI (wiN X es n).2 r), rfl, rfl, rfl, ?_⟩⟩
    by_cases hu : u ≤ seatI (wiN X es n).2 r
    · refine .inl ⟨by simp [hu], w_cons <| w_asg (A := false) (by simp) <| h_tup <| hes_cons <| h_pk (d := .str "wait") rfl <| hes_nil ⟨[.str "wait"], rfl, by simp, w_nil <| fin ?_⟩⟩
      rw [ho]; unfold rdE; rw [if_neg (by omega)]; rfl
    · refine .inr ⟨by simp [hu], w_nil <| fin ?_⟩
      rw [ho]; unfold rdE; rw [if_pos (by omega)]
  · refine .inr ⟨by rw [decide_eq_false hw], .inr ⟨rfl, w_nil <| fin ?_⟩⟩
    rw [one_nrd (by rw [ht]; exact hw), ht]
theorem call_with (T : Tbl es ws) (hX : XOk X es) (hf : (kvP X).foldl (fun acc kv => putD acc kv.1 kv.2) [] = kvP X) : Call (cfN tab (j + 2)) i_l_with [] [.v (tbD es), .v (.ptup (X.map prI))] (fun u fin => fin = [] ∧ u = .v (tbD (wiE X es))) := by
  have hlen := T.len
  refine call_fn (d := ir_l_with) rfl rfl (by simp) (by simp) ?_
  refine w_cons <| w_asgt (A := false) (by simp) <| hes_cons <| h_lst <| hes_nil ⟨[], rfl, by simp, hes_cons <| h_call <| a_nil (callv (ds := []) (call_start (j := j)) fun r hr => ?_)⟩
  subst hr
  refine hes_cons <| h_dictpt <| hes_cons <| h_pk (d := .ptup (X.map prI)) rfl <| hes_nil ⟨X, rfl, hf, hes_nil ⟨by simp, _, rfl, ?_⟩⟩
  refine w_cons (w_for (A := false) (i_enum (h_pk (d := tbS false es) rfl ⟨_, es.map (evS false), rfl, tbS_iter false es, tbS_str false es, by simp; omega, ?_⟩)))
  refine f_inv (by simp) (fun t env => t ≤ es.length ∧ ∃ o5 o6 o7, env = WE X es t o5 o6 o7) ?_ ?_ _ ⟨Nat.zero_le _, none, none, none, rfl⟩
  · rintro t x env hx ⟨hle, o5, o6, o7, rfl⟩
    obtain ⟨e, he, rfl⟩ := enum_at hx
    have hlt := (List.getElem?_eq_some_iff.mp he).1
    refine ⟨_, rfl, ?_⟩
    exact with_turn T hX (wi_ok T hX t hle) he fun o5 o6 o7 => ⟨by omega, o5, o6, o7, rfl⟩
  · rintro env ⟨_, o5, o6, o7, rfl⟩
    have hn : (((es.map (evS false)).zipIdx).map fun q => D.tup [.int (q.2 : Nat), q.1]).length = es.length := by simp
    rw [hn]
    exact w_cons <| w_ret (A := true) <| h_pk (d := tbD (wiE X es)) rfl ⟨[], rfl, rfl, rfl⟩
end
end Mp.V
namespace Mp.V
open PySem L2
theorem call_ast {j k : Nat} {d d' : D} {y : PV} (h : D.ok k d) (e : d.atv = some y) (e' : d'.pl = some y) : Call (cfN tab (j + k)) i_as_tuples [] [.v d] (fun r fin => fin = [] ∧ r = .v d') :=
  call_frm (ds := [d]) fun M X ws r hX => by
    cases r with
    | cons a r =>
      cases r
      obtain ⟨M', e1, F⟩ := hat j k M _ _ (rp_at h a e)
      exact ⟨_, M', .v d', [], e1, F, ⟨rp_pl e', rfl⟩, by simp, by simp, rfl⟩
structure AsT (d d' : D) : Prop where
  ok : D.ok 3 d
  at_ : ∃ y, d.atv = some y ∧ d'.pl = some y
theorem call_as {j : Nat} {d d' : D} (h : AsT d d') : Call (cfN tab (j + 3)) i_as_tuples [] [.v d] (fun r fin => fin = [] ∧ r = .v d') := by
  obtain ⟨y, h1, h2⟩ := h.at_
  exact call_ast h.ok h1 h2
theorem as_tb {s : Bool} {es : List Dr.Ev} (h : es.length < 1000) : AsT (tbS s es) (tbD es) := by
  have o := ok_tb h
  have a := pl_atv o (tbD_pl es)
  cases s with
  | false => exact ⟨o, _, a, tbD_pl es⟩
  | true => rw [tbS_t]; exact ⟨ok_soft o, _, by rw [soft_atv]; exact a, tbD_pl es⟩
theorem call_sameK {j k : Nat} {d : D} (h : D.ok k d) : Call (cfN tab (j + k)) i_l_same [] [.v d, .v d] (fun r fin => fin = [] ∧ r = .v (.bl true)) :=
  call_frm (ds := [d, d]) fun M X ws r hX => by
    cases r with
    | cons a r => cases r with
      | cons b r =>
        cases r
        obtain ⟨M', e, F⟩ := hs j k M _ _ (rp_sm h a b)
        exact ⟨.bl true, M', .v (.bl true), [], e, F, ⟨.bl true, rfl⟩, by simp, by simp, rfl⟩
section
variable {j : Nat} {X : List (Int × Int)} {es : List Dr.Ev} {ws : Dr.Ws}
theorem call_cmany : Call (cfN tab (j + 1)) i_Course_many [0] [coT ws] (fun r fin => fin = [coT ws] ∧ r = .v (.int ws.many)) := by
  refine call_fn (d := ir_Course_many) rfl rfl (by simp) (by simp [ir_Course_many]) ?_
  exact w_cons <| w_ret (A := true) <| h_pk (d := .int ws.many) rfl ⟨_, rfl, rfl, rfl⟩
theorem call_canR {r u b : Int} (hs : getD ws.seats (.inl r) = some (.int b)) (hu : u ≤ ws.many) : Call (cfN tab (j + 1)) i_Course_can [0] [coT ws, .v (evD (.read r u))] (fun x fin => fin = [coT ws] ∧ x = .v (.bl (decide (b < u)))) := by
  refine call_fn (d := ir_Course_can) rfl rfl (by simp) (by simp [ir_Course_can]) ?_
  have c0 : pk [some (coT ws), some (.v (evD (.read r u))), none, none] (.cmp .isin (.idx (.var 1) (.con (.int 0))) (.tup (.cons (.con (.str "put")) (.cons (.con (.str "drop")) (.cons (.con (.str "join")) (.cons (.con (.str "wait")) .nil)))))) = some (.v (.bl false)) := by
    have h1 : pk [some (coT ws), some (.v (evD (.read r u))), none, none] (.idx (.var 1) (.con (.int 0))) = some (.v (.str "read")) := rfl
    have h2 : pk [some (coT ws), some (.v (evD (.read r u))), none, none] (.tup (.cons (.con (.str "put")) (.cons (.con (.str "drop")) (.cons (.con (.str "join")) (.cons (.con (.str "wait")) .nil))))) = some (.v (.tup [.str "put", .str "drop", .str "join", .str "wait"])) := by simp [pk, pks, conD, sizeLine]
    rw [pk, h1, h2]
    simp [OT.top, dcmp, din, dinP, D.flat, deqF, str_inj]
  refine w_cons <| w_if (A := true) <| h_pk (d := .bl false) c0 (.inr ⟨rfl, w_nil <| w_cons <| w_cut2 (d0 := .str "read") (d1 := .int r) (r := [.int u]) (by simp) (.inl rfl) rfl ?_⟩)
  show HSs (cfN tab j) [0] _ [some (coT ws), some (.v (evD (.read r u))), some (.v (.str "read")), some (.v (.int r))] _
  refine w_cons <| w_if (A := true) <| h_pk (d := .bl true) (by simp [pk, OT.top, dcmp, deq, deqS, conD]) (.inl ⟨rfl, w_cons <| w_ret (A := true) <| h_pk (d := .bl (decide (b < u))) ?_ ⟨_, rfl, rfl, rfl⟩⟩)
  have hp : pk [some (coT ws), some (.v (evD (.read r u))), some (.v (.str "read")), some (.v (.int r))] (.fld "Course" "own_places" (.var 0)) = some (.od (seatsG ws.seats)) := rfl
  have hm : pk [some (coT ws), some (.v (evD (.read r u))), some (.v (.str "read")), some (.v (.int r))] (.fld "Course" "own_many" (.var 0)) = some (.v (.int ws.many)) := rfl
  have h3 : pk [some (coT ws), some (.v (evD (.read r u))), some (.v (.str "read")), some (.v (.int r))] (.var 3) = some (.v (.int r)) := rfl
  have h12 : pk [some (coT ws), some (.v (evD (.read r u))), some (.v (.str "read")), some (.v (.int r))] (.idx (.var 1) (.con (.int 2))) = some (.v (.int u)) := rfl
  have hg : getG (seatsG ws.seats) (.inl r) = some (.int b) := by rw [seats_get, hs]; rfl
  have ha : pk [some (coT ws), some (.v (evD (.read r u))), some (.v (.str "read")), some (.v (.int r))] (.cmp .isin (.var 3) (.fld "Course" "own_places" (.var 0))) = some (.v (.bl true)) := by
    rw [pk, h3, hp]; simp [OT.top, dcmp, din, keyD, hg]
  have hb : pk [some (coT ws), some (.v (evD (.read r u))), some (.v (.str "read")), some (.v (.int r))] (.idx (.fld "Course" "own_places" (.var 0)) (.var 3)) = some (.v (.int b)) := by
    rw [pk, h3, hp]; simp [OT.top, didx, keyD, hg]
  rw [pk, ha]
  simp only []
  rw [pk, hb, h12, hm]
  by_cases hlt : b < u
  · simp [OT.top, dcmp, hlt, hu]
  · simp [OT.top, dcmp, hlt]
theorem as_pr (p : Int × Int) : AsT (prI p) (prI p) := ⟨⟨by simp, fun x hx => by simp at hx; rcases hx with rfl | rfl <;> trivial⟩, _, rfl, rfl⟩
def isSqp (d : D) (xs : List D) : Prop := isSeq d xs ∨ d = .ptup xs
theorem isSqp.iter {d : D} {xs : List D} (h : isSqp d xs) : iterD d = some xs := by
  rcases h with h | rfl
  · exact h.iter
  · rfl
theorem call_asp {d : D} {f : Int × Int → D} (hf : ∀ p, AsT (f p) (prI p)) (hd : isSqp d (X.map f)) (hl : X.length < 1000) : Call (cfN tab (j + 4)) i_as_tuples_p [] [.v d] (fun r fin => fin = [] ∧ r = .v (.ptup (X.map prI))) := by
  refine call_fn (d := ir_as_tuples_p) rfl rfl (by simp) (by simp) ?_
  have hi : pk [some (.v d), none] (.isi (.var 0) [.list, .tuple]) = some (.v (.bl true)) := by
    rcases hd with (rfl | rfl) | rfl <;> simp [pk, OT.top, disi, disT, dty]
  refine w_cons <| w_ret (A := false) <| h_ite <| h_pk (d := .bl true) hi (.inl ⟨rfl, h_ptuple <| hes_cons <| h_lc (A := false) <| i_seq <| h_pk (d := d) rfl ⟨_, X.map f, rfl, hd.iter, rfl, by simp; omega, ?_⟩⟩)
  refine l_map (A := false) (p := fun _ => true) (F := prI) (by simp [tgI]) (by simp [ir_as_tuples_p]) rfl (fun x hx => ⟨_, rfl, rfl, (h_pk (A := true) (d := .bl true) rfl ⟨rfl, rfl⟩).off, fun _ => ?_⟩) ?_
  · exact h_call <| a_val (A := false) <| h_pk (d := f x) rfl ⟨_, rfl, a_nil (callv (ds := [f x]) (call_as (j := j) (hf x)) fun u hu => by subst hu; exact ⟨rfl, rfl⟩)⟩
  · rw [List.nil_append, List.filter_eq_self.mpr (fun _ _ => rfl)]
    exact hes_nil ⟨X.map prI, rfl, [], rfl, rfl, rfl⟩
abbrev WR (s : Bool) (d1 : D) (X : List (Int × Int)) (es : List Dr.Ev) (n : Nat) (o5 o6 o7 : Option OT) : Env := [some (.v (tbS s es)), some (.v d1), some (.od (kvI X)), some (coT (wiN X es n).2), some (.ol ((wiN X es n).1.map evD)), o5, o6, o7]
theorem wr_turn {s : Bool} {d1 : D} {n : Nat} {e : Dr.Ev} {o7 : Option OT} (T : Tbl es ws) (hX : XOk X es) (W : WiOk X es n) (he : es[n]? = some e) {Q : Flo → Env → Prop} (q : ∀ o5 o6 o7, Q .nx (WR s d1 X es (n + 1) o5 o6 o7)) :
    HSs (cfN tab (j + 1)) [] b1_with_reads (WR s d1 X es n (some (.v (.int (n : Nat)))) (some (.v (evD e))) o7) Q := by
  have hlen := T.len
  have hlt := (List.getElem?_eq_some_iff.mp he).1
  obtain ⟨s1, s2, s3, s4⟩ := wi_step T hX W he
  have hin : pk (WR s d1 X es n (some (.v (.int (n : Nat)))) (some (.v (evD e))) o7) (.cmp .isin (.var 5) (.var 2)) = some (.v (.bl (lkX X n).isSome)) := by
    simp [pk, OT.top, dcmp, din, keyD, getG_kvI]
  unfold b1_with_reads
  have key : ∀ {ss : Ss}, HSs (cfN tab (j + 1)) [] ss (WR s d1 X es n (some (.v (.int (n : Nat)))) (some (.v (evD e))) (some (.v (evD (tldE X n (wiN X es n).2 e))))) Q → HSs (cfN tab (j + 1)) [] (.cons (.asg (.name 7) (.ite (.cmp .isin (.var 5) (.var 2)) (.tup (.cons (.con (.str "read")) (.cons (.idx (.var 2) (.var 5)) (.cons (.mc "Course" "many" i_Course_many (.var 3) .nil) .nil)))) (.var 6))) ss) (WR s d1 X es n (some (.v (.int (n : Nat)))) (some (.v (evD e))) o7) Q := fun {ss} h => by
    refine w_cons <| w_asg (A := false) (by simp) <| h_ite <| h_pk (d := .bl (lkX X n).isSome) hin ?_
    unfold tldE at h
    cases hl : lkX X n with
    | some r =>
      rw [hl] at h
      refine .inl ⟨rfl, h_tup (A := false) <| hes_cons <| h_pk (d := .str "read") rfl <| hes_cons <| h_pk (d := .int r) ?_ <| hes_cons <| h_mc rfl (co_asks (by decide) (by decide) (by decide)) <| a_nil (calli (i := 3) (ds := []) rfl (one (call_cmany (j := j))) fun x t2 hh => ?_)⟩
      · simp [pk, OT.top, didx, keyD, getG_kvI, hl]
      · obtain ⟨rfl, rfl⟩ := hh
        exact hes_nil ⟨[.str "read", .int r, .int (wiN X es n).2.many], rfl, by simp, h⟩
    | none =>
      rw [hl] at h
      exact .inr ⟨rfl, h_pk (d := evD e) rfl h⟩
  refine key ?_
  have fin : ∀ {o5 o6 o7}, o7 = some (OT.v (evD (oneE X n (wiN X es n).2 e))) → HSs (cfN tab (j + 1)) [] (.cons (.exp (.mc "Course" "go" i_Course_go (.var 3) (.cons (.var 7) .nil))) (.cons (.exp (.mth .append (.var 4) (.cons (.var 7) .nil))) .nil)) (WR s d1 X es n o5 o6 o7) Q := fun {o5 o6 o7} h7 => by
    subst h7
    refine w_cons <| w_exp <| h_mc rfl (co_asks (by decide) (by decide) (by decide)) <| a_val (A := true) <| h_pk (d := evD (oneE X n (wiN X es n).2 e)) rfl ⟨_, rfl, a_nil (calli (i := 3) (ds := [evD (oneE X n (wiN X es n).2 e)]) rfl (one (call_go (j := j) (s := false) W.wok (by omega) s3 s1)) fun r t2 h => ?_)⟩
    obtain ⟨rfl, rfl⟩ := h
    refine w_cons <| w_exp <| h_mutl (A := true) (xs0 := (wiN X es n).1.map evD) rfl <| hes_cons <| h_pk (d := evD (oneE X n (wiN X es n).2 e)) rfl <| hes_nil ⟨[evD (oneE X n (wiN X es n).2 e)], (wiN X es n).1.map evD, _, _, rfl, rfl, app_ok (by simp [W.len]; omega), w_nil ?_⟩
    have e1 : (wiN X es n).1.map evD ++ [evD (oneE X n (wiN X es n).2 e)] = (wiN X es (n + 1)).1.map evD := by rw [s2]; simp
    show Q .nx [_, _, _, _, some (.ol ((wiN X es n).1.map evD ++ [evD (oneE X n (wiN X es n).2 e)])), _, _, _]
    rw [e1]
    exact q _ _ _
  generalize ht : tldE X n (wiN X es n).2 e = td at *
  refine w_cons <| w_if (A := false) <| h_and <| h_pk (d := .bl (decide (td.wd = "read"))) (read_pk (s := false) (e := td) rfl) ?_
  by_cases hw : td.wd = "read"
  · obtain ⟨r, u, rfl⟩ := rd_wd hw
    obtain ⟨g1, g2⟩ := tld_seat T hX W he ht
    have ho : oneE X n (wiN X es n).2 e = rdE (wiN X es n).2 r u := by rw [one_tld, ht]
    refine .inl ⟨by rw [decide_eq_true hw], h_not <| h_mc rfl (co_asks (by decide) (by decide) (by decide)) <| a_val (A := true) <| h_pk (d := evD (.read r u)) rfl ⟨_, rfl, a_nil (calli (i := 3) (ds := [evD (.read r u)]) rfl (one (call_canR (j := j) g1 g2)) fun x t2 h => ?_)⟩⟩
    obtain ⟨rfl, rfl⟩ := h
    refine ⟨_, rfl, ?_⟩
    by_cases hu : seatI (wiN X es n).2 r < u
    · refine .inr ⟨by simp [hu], w_nil <| fin ?_⟩
      rw [ho]; unfold rdE; rw [if_pos hu]
    · refine .inl ⟨by simp [hu], w_cons <| w_asg (A := false) (by simp) <| h_tup <| hes_cons <| h_pk (d := .str "wait") rfl <| hes_nil ⟨[.str "wait"], rfl, by simp, w_nil <| fin ?_⟩⟩
      rw [ho]; unfold rdE; rw [if_neg hu]; rfl
  · refine .inr ⟨by rw [decide_eq_false hw], .inr ⟨rfl, w_nil <| fin ?_⟩⟩
    rw [one_nrd (by rw [ht]; exact hw), ht]
theorem call_reads {s : Bool} {d1 : D} {f : Int × Int → D} (hf1 : ∀ p, AsT (f p) (prI p)) (T : Tbl es ws) (hX : XOk X es) (hd : isSqp d1 (X.map f)) (hl : X.length < 1000) (hf : (kvP X).foldl (fun acc kv => putD acc kv.1 kv.2) [] = kvP X) : Call (cfN tab (j + 5)) i_with_reads [] [.v (tbS s es), .v d1] (fun u fin => fin = [] ∧ u = .v (tbD (wiE X es))) := by
  have hlen := T.len
  refine call_fn (d := ir_with_reads) rfl rfl (by simp) (by simp) ?_
  refine w_cons <| w_asgt (A := false) (by simp) <| hes_cons <| h_dictpt <| hes_cons <| h_call <| a_val (A := false) <| h_pk (d := d1) rfl ⟨_, rfl, a_nil (callv (ds := [d1]) (call_asp (j := j) hf1 hd hl) fun u hu => ?_)⟩
  subst hu
  refine hes_nil ⟨X, rfl, hf, hes_cons <| h_call <| a_nil (callv (ds := []) (call_mk (j := j + 2)) fun r hr => ?_)⟩
  subst hr
  refine hes_cons <| h_lst <| hes_nil ⟨[], rfl, by simp, hes_nil ⟨by simp, _, rfl, ?_⟩⟩
  refine w_cons (w_for (A := false) (i_enum (h_call <| a_val (A := false) <| h_pk (d := tbS s es) rfl ⟨_, rfl, a_nil (callv (ds := [tbS s es]) (call_as (j := j + 1) (as_tb (by omega))) fun u hu => ?_)⟩)))
  subst hu
  refine ⟨_, es.map (evS false), rfl, tbS_iter false es, tbS_str false es, by simp; omega, ?_⟩
  refine f_inv (by simp) (fun t env => t ≤ es.length ∧ ∃ o5 o6 o7, env = WR s d1 X es t o5 o6 o7) ?_ ?_ _ ⟨Nat.zero_le _, none, none, none, rfl⟩
  · rintro t x env hx ⟨hle, o5, o6, o7, rfl⟩
    obtain ⟨e, he, rfl⟩ := enum_at hx
    have hlt := (List.getElem?_eq_some_iff.mp he).1
    refine ⟨_, rfl, ?_⟩
    exact wr_turn (j := j + 3) T hX (wi_ok T hX t hle) he fun o5 o6 o7 => ⟨by omega, o5, o6, o7, rfl⟩
  · rintro env ⟨_, o5, o6, o7, rfl⟩
    have hn : (((es.map (evS false)).zipIdx).map fun q => D.tup [.int (q.2 : Nat), q.1]).length = es.length := by simp
    rw [hn]
    exact w_cons <| w_ret (A := true) <| h_pk (d := tbD (wiE X es)) rfl ⟨[], rfl, rfl, rfl⟩
end
end Mp.V
namespace Mp.V
open PySem L2
theorem ks_mem {ws : Dr.Ws} {r : Int} (h : r ∈ ksW ws) : (getD ws.seats (.inl r)).isSome = true := by
  have h1 : r ∈ (seatsK ws.seats).map (·.1) := (sortI_perm _).mem_iff.mp h
  obtain ⟨e, he, rfl⟩ := List.mem_map.mp h1
  obtain ⟨kv, k1, k2⟩ := List.mem_filterMap.mp he
  unfold getD
  rw [Option.isSome_map, List.find?_isSome]
  refine ⟨kv, k1, ?_⟩
  cases hk : kv.1 with
  | inl i => rw [hk] at k2; cases k2; simp
  | inr s => rw [hk] at k2; cases k2
theorem fr_mem {es : List Dr.Ev} {n : Nat} {q : Nat × List Int} (h : q ∈ frN es n) : q.1 < n ∧ es[q.1]? = some .wait ∧ q.2 = ksW (wsAt es q.1) := by
  unfold frN at h
  obtain ⟨t, h1, rfl⟩ := List.mem_map.mp h
  obtain ⟨h2, h3⟩ := List.mem_filter.mp h1
  refine ⟨List.mem_range.mp h2, ?_, rfl⟩
  cases he : es[t]? with
  | none => rw [he] at h3; cases h3
  | some e =>
    rw [he] at h3
    cases e <;> first | rfl | cases h3
section
variable {j : Nat} {es : List Dr.Ev} {ws : Dr.Ws} {t : OT} {k : Int}
theorem call_of {xs : List D} (ht : BxT t k) (hk : k < 100000000) (h0 : xs ≠ []) (hl : xs.length < 1000) : Call (cfN tab (j + 2)) i_l_of [0] [t, .v (.lst xs)] (fun r fin => ∃ d t', r = .v d ∧ fin = [t'] ∧ BxT t' (k + 1) ∧ d ∈ xs) := by
  have hp : 0 < xs.length := List.length_pos_iff.mpr h0
  refine call_fn (d := ir_l_of) rfl rfl (by simp) (by simp [ir_l_of]) ?_
  refine w_cons <| w_ret (A := false) <| h_idx <| h_pk (d := .lst xs) rfl <| h_call <| a_io rfl <| a_val (A := false) <| h_pk (d := .int (xs.length : Nat)) rfl ⟨_, rfl, a_nil (calli (i := 0) (ds := [.int (xs.length : Nat)]) rfl (cb (call_take (j := j) ht (by omega) (by omega) (by omega))) fun r t1 h => ?_)⟩
  obtain ⟨d, rfl, B1, n, rfl, n0, n1⟩ := h
  obtain ⟨n, rfl⟩ := Int.eq_ofNat_of_zero_le n0
  have hn : n < xs.length := by omega
  refine ⟨.lst xs, .int ((n : Nat) : Int), xs[n], rfl, rfl, ?_, [t1], rfl, xs[n], t1, rfl, rfl, B1, List.getElem_mem hn⟩
  simp only [didx]
  exact at_nat (List.getElem?_eq_getElem hn)
structure XW (F : List (Nat × List Int)) (X : List (Int × Int)) : Prop where
  mem : ∀ p ∈ X, ∃ q ∈ F, p.1 = (q.1 : Int) ∧ p.2 ∈ q.2
  asc : X.Pairwise fun a b => a.1 < b.1
  len : X.length ≤ F.length
theorem fr_asc (es : List Dr.Ev) (n : Nat) : (frN es n).Pairwise fun a b => a.1 < b.1 := by
  unfold frN
  rw [List.pairwise_map]
  exact (List.pairwise_lt_range.filter _).imp fun h => h
theorem XW.snoc {F : List (Nat × List Int)} {X : List (Int × Int)} {q : Nat × List Int} {r : Int} (h : XW F X) (ha : (F ++ [q]).Pairwise fun a b => a.1 < b.1) (hr : r ∈ q.2) : XW (F ++ [q]) (X ++ [((q.1 : Int), r)]) := by
  refine ⟨fun p hp => ?_, ?_, by simp; exact h.len⟩
  · rcases List.mem_append.mp hp with z | z
    · obtain ⟨a, b, c⟩ := h.mem p z
      exact ⟨a, List.mem_append_left _ b, c⟩
    · simp at z; subst z
      exact ⟨q, by simp, rfl, hr⟩
  · rw [List.pairwise_append]
    refine ⟨h.asc, by simp, fun a ha1 b hb => ?_⟩
    simp at hb; subst hb
    obtain ⟨q1, m1, e1, _⟩ := h.mem a ha1
    have := (List.pairwise_append.mp ha).2.2 q1 m1 q (by simp)
    rw [e1]
    show (q1.1 : Int) < (q.1 : Int)
    omega
theorem XW.more {F : List (Nat × List Int)} {X : List (Int × Int)} {q : Nat × List Int} (h : XW F X) : XW (F ++ [q]) X :=
  ⟨fun p hp => let ⟨a, b, c⟩ := h.mem p hp; ⟨a, List.mem_append_left _ b, c⟩, h.asc, by have := h.len; simp; omega⟩
theorem lk_mem {X : List (Int × Int)} {i : Nat} {r : Int} (h : lkX X i = some r) : ((i : Int), r) ∈ X := by
  unfold lkX at h
  obtain ⟨p, h1, rfl⟩ := Option.map_eq_some_iff.mp h
  have h2 := List.find?_some h1
  have h3 := List.mem_of_find?_eq_some h1
  simp at h2
  rw [← h2]; exact h3
theorem XW.ok {es : List Dr.Ev} {X : List (Int × Int)} (h : XW (frN es es.length) X) : XOk X es := fun i r hi hl => by
  obtain ⟨q, m, e1, e2⟩ := h.mem _ (lk_mem hi)
  have e3 : i = q.1 := by have : (i : Int) = (q.1 : Int) := e1; omega
  subst e3
  obtain ⟨h1, h2, h3⟩ := fr_mem m
  exact ⟨h2, ks_mem (by rw [← h3]; exact e2)⟩
theorem put_new {kvs : List (Key × PV)} {k : Key} {v : PV} (h : ∀ kv ∈ kvs, kv.1 ≠ k) : putD kvs k v = kvs ++ [(k, v)] := by
  unfold putD
  rw [if_neg]
  intro hh
  obtain ⟨kv, hm, e⟩ := List.any_eq_true.mp hh
  exact h kv hm (by simpa using e)
theorem kv_fold : ∀ {X Y : List (Int × Int)}, (Y ++ X).Pairwise (fun a b => a.1 < b.1) → (kvP X).foldl (fun acc kv => putD acc kv.1 kv.2) (kvP Y) = kvP (Y ++ X)
  | [], Y, _ => by simp [kvP]
  | p :: X, Y, h => by
    have e1 : putD (kvP Y) (.inl p.1) (.int p.2) = kvP (Y ++ [p]) := by
      rw [put_new]
      · simp [kvP]
      · intro kv hk e
        obtain ⟨y, hy, rfl⟩ := List.mem_map.mp hk
        have e : (Sum.inl y.1 : Key) = .inl p.1 := e
        have e : y.1 = p.1 := by injection e
        have := (List.pairwise_append.mp h).2.2 y hy p (by simp)
        omega
    have e2 : (kvP (p :: X)).foldl (fun acc kv => putD acc kv.1 kv.2) (kvP Y) = (kvP X).foldl (fun acc kv => putD acc kv.1 kv.2) (putD (kvP Y) (.inl p.1) (.int p.2)) := rfl
    rw [e2, e1, kv_fold (X := X) (Y := Y ++ [p]) (by simpa using h)]
    simp
theorem XW.fold {F : List (Nat × List Int)} {X : List (Int × Int)} (h : XW F X) : (kvP X).foldl (fun acc kv => putD acc kv.1 kv.2) [] = kvP X := kv_fold (Y := []) (by simpa using h.asc)
theorem call_some (ht : BxT t k) (hk : k < 100000) (T : Tbl es ws) : Call (cfN tab (j + 3)) i_l_some_reads [0] [t, .v (tbD es)] (fun r fin => ∃ d t', r = .v d ∧ fin = [t'] ∧ BxT t' (k + 200) ∧ ∃ X, d = .ptup (X.map prI) ∧ XW (frN es es.length) X) := by
  have hlen := T.len
  have hfl := frN_len es es.length
  have hfa := fr_asc es es.length
  refine call_fn (d := ir_l_some_reads) rfl rfl (by simp) (by decide) ?_
  refine w_cons <| w_asg (A := false) (by simp) <| h_lst <| hes_nil ⟨[], rfl, by simp, ?_⟩
  refine w_cons <| w_for (A := false) <| i_seq <| h_call <| a_val (A := false) <| h_pk (d := tbD es) rfl ⟨_, rfl, a_nil (callv (ds := [tbD es]) (call_free (j := j) T) fun u hu => ?_)⟩
  subst hu
  have hks : ∀ q ∈ frN es es.length, q.2.length ≤ 52 := fun q hq => by
    obtain ⟨a, _, c⟩ := fr_mem hq
    rw [c]
    have h1 := (sortI_perm ((seatsK (wsAt es q.1).seats).map (·.1))).length_eq
    have h2 := seatsK_len (wsAt es q.1).seats
    have h3 := (at_step T (List.getElem?_eq_getElem a)).1.sl
    unfold ksW
    rw [h1]; simp; omega
  generalize hF : frN es es.length = F at *
  refine ⟨.lst (F.map wtD), F.map wtD, rfl, rfl, by simp; omega, ?_⟩
  refine f_inv (by simp [tgI]) (fun n env => n ≤ F.length ∧ ∃ t' X o3 o4, BxT t' (k + 2 * n) ∧ XW (F.take n) X ∧ env = [some t', some (.v (tbD es)), some (.ol (X.map prI)), o3, o4]) ?_ ?_ _ ⟨Nat.zero_le _, t, [], none, none, by simpa using ht, ⟨by simp, by simp, by simp⟩, rfl⟩
  · rintro n x env hxx ⟨hle, t', X, o3, o4, B, W, rfl⟩
    rw [List.getElem?_map] at hxx
    obtain ⟨q, hq, rfl⟩ := Option.map_eq_some_iff.mp hxx
    have hqF : q ∈ F := List.mem_of_getElem? hq
    have htl := (List.getElem?_eq_some_iff.mp hq).1
    have hs : F.take (n + 1) = F.take n ++ [q] := by rw [List.take_succ, hq]; rfl
    have hasc : (F.take n ++ [q]).Pairwise fun a b => a.1 < b.1 := by rw [← hs]; exact hfa.take
    have hkq := hks q hqF
    have hXl := W.len
    have hXl2 : X.length ≤ 52 := by rw [List.length_take] at hXl; omega
    refine ⟨_, rfl, ?_⟩
    unfold b1_l_some_reads
    have hd := deq_nil (ok_ints (ns := q.2) (by omega)) (sts_of fun d hd => by obtain ⟨i, _, rfl⟩ := List.mem_map.mp hd; trivial) (by omega)
    refine w_cons <| w_if (A := false) <| h_and <| h_cmp <| h_pk (d := .lst (q.2.map .int)) rfl <| h_lst <| hes_nil ⟨[], rfl, by simp, _, _, _, rfl, rfl, by rw [dcmp, hd]; rfl, ?_⟩
    by_cases hz : q.2 = []
    · refine .inr ⟨by simp [hz], .inr ⟨rfl, w_nil <| w_nil ⟨by omega, t', X, _, _, B.mono (by omega), ?_, rfl⟩⟩⟩
      rw [hs]; exact W.more
    · refine .inl ⟨by simp [hz], h_cmp <| h_call <| a_io rfl <| a_val (A := false) <| h_pk (d := .int 3) rfl ⟨_, rfl, a_nil (calli (i := 0) (ds := [.int 3]) rfl (cb (call_take (j := j + 1) B (by omega) (by omega) (by omega))) fun r t1 h => ?_)⟩⟩
      obtain ⟨d, rfl, B1, m, rfl, m0, m1⟩ := h
      refine h_pk (d := .int 0) rfl ⟨.int m, .int 0, decide (0 < m), rfl, rfl, rfl, ?_⟩
      by_cases hm : 0 < m
      · refine .inl ⟨by simp [hm], w_cons <| w_exp <| h_mutl (A := false) (xs0 := X.map prI) rfl <| hes_cons <| h_tup (A := false) <| hes_cons <| h_pk (d := .int (q.1 : Nat)) rfl <| hes_cons <| h_call <| a_io rfl <| a_val (A := false) <| h_pk (d := .lst (q.2.map .int)) rfl ⟨_, rfl, a_nil (calli (i := 0) (ds := [.lst (q.2.map .int)]) rfl (cb (call_of (j := j) B1 (by omega) (by simpa using hz) (by simp; omega))) fun r t2 h => ?_)⟩⟩
        obtain ⟨d, rfl, B2, hd2⟩ := h
        obtain ⟨r, hr, rfl⟩ := List.mem_map.mp hd2
        refine hes_nil ⟨[.int (q.1 : Nat), .int r], rfl, by simp, hes_nil ⟨[prI ((q.1 : Int), r)], X.map prI, _, _, rfl, rfl, app_ok (by simp; omega), w_nil <| w_nil ⟨by omega, t2, X ++ [((q.1 : Int), r)], some (.v (.int (q.1 : Nat))), some (.v (.lst (q.2.map .int))), B2.mono (by omega), ?_, by rw [List.map_append]; rfl⟩⟩⟩
        rw [hs]; exact W.snoc hasc hr
      · refine .inr ⟨by simp [hm], w_nil <| w_nil ⟨by omega, t1, X, _, _, B1.mono (by omega), ?_, rfl⟩⟩
        rw [hs]; exact W.more
  · rintro env ⟨hle, t', X, o3, o4, B, W, rfl⟩
    rw [List.length_map] at B W
    rw [List.take_length] at W
    exact w_cons <| w_ret (A := false) <| h_ptuple <| hes_cons <| h_free (i := 2) (d := .lst (X.map prI)) rfl rfl <| hes_nil ⟨X.map prI, rfl, [t'], rfl, _, t', rfl, rfl, B.mono (by omega), X, rfl, W⟩
end
end Mp.V
namespace Mp.V
open PySem L2
mutual
theorem st_soft : ∀ {d : D}, d.st → d.soft.st
  | .tup xs, h => sts_soft (ds := xs) h
  | .lst xs, h => sts_soft (ds := xs) h
  | .str _, h => h
  | .non, _ => trivial
  | .bl _, _ => trivial
  | .int _, _ => trivial
  | .cl _, _ => trivial
  | .fn _ _, _ => trivial
  | .ptup _, _ => trivial
  | .dic _, _ => trivial
  | .ins _ _, _ => trivial
  | .slt _ _, _ => trivial
theorem sts_soft : ∀ {ds : List D}, D.st.D.sts ds → D.st.D.sts (D.softs ds)
  | [], _ => trivial
  | d :: ds, h => ⟨st_soft h.1, sts_soft h.2⟩
end
theorem st_ev {e : Dr.Ev} (h : Dr.EvOk e) : (evD e).st := by
  have w : ∀ s : String, (D.str (Str.ofString s)).st := fun s => lay_str s
  have k : ∀ {s : Str}, Dr.KeyOk s → (D.str s).st := fun {s} h => key_fl h
  cases e with
  | put a v => exact ⟨w "put", k h.1, trivial, trivial⟩
  | drop a => exact ⟨w "drop", k h, trivial⟩
  | join r => exact ⟨w "join", trivial, trivial⟩
  | read r u => exact ⟨w "read", trivial, trivial, trivial⟩
  | save r => exact ⟨w "save", trivial, trivial⟩
  | load r c => exact ⟨w "load", trivial, trivial, trivial⟩
  | wait => exact ⟨w "wait", trivial⟩
theorem st_tb {es : List Dr.Ev} (h : ∀ e ∈ es, Dr.EvOk e) : (tbD es).st := sts_of fun d hd => by
  obtain ⟨e, he, rfl⟩ := List.mem_map.mp hd
  exact st_ev (h e he)
def ksD (p : Int × Int) : D := .lst [.int p.1, .int p.2]
theorem as_ks (p : Int × Int) : AsT (ksD p) (prI p) := ⟨⟨by simp, fun x hx => by simp at hx; rcases hx with rfl | rfl <;> trivial⟩, _, rfl, rfl⟩
section
variable {j : Nat} {es : List Dr.Ev} {ws : Dr.Ws}
theorem wi_nil (T : Tbl es ws) : ∀ n, n ≤ es.length → wiN [] es n = (es.take n, wsAt es n)
  | 0, _ => rfl
  | n + 1, h => by
    have he := List.getElem?_eq_getElem (show n < es.length by omega)
    obtain ⟨k1, k2⟩ := at_step T he
    have ih := wi_nil T n (by omega)
    have e0 : oneE [] n (wsAt es n) es[n] = es[n] := by
      generalize es[n] = e at k2
      cases e with
      | read r u =>
        obtain ⟨⟨b, q1, q2, q3⟩, _⟩ := Dr.step_read k2
        show rdE _ r u = _
        have hs : seatI (wsAt es n) r = b := by simp only [seatI, q1]
        unfold rdE
        rw [hs, if_pos q2]
      | _ => rfl
    show wiS [] n (wiN [] es n) es[n]? = _
    rw [ih, he]
    show (es.take n ++ [oneE [] n (wsAt es n) es[n]], ((wsAt es n).step (oneE [] n (wsAt es n) es[n])).getD _) = _
    rw [e0, k2, List.take_succ_eq_append_getElem (show n < es.length by omega)]; rfl
theorem wiE_nil (T : Tbl es ws) : wiE [] es = es := by
  unfold wiE
  rw [wi_nil T es.length (Nat.le_refl _), List.take_length]
theorem ok_prI (p : Int × Int) : D.ok 2 (prI p) := ⟨by simp, fun x hx => by simp at hx; rcases hx with rfl | rfl <;> trivial⟩
theorem call_listsP {X : List (Int × Int)} (hl : X.length < 1000) : Call (cfN tab (j + 3)) i_l_lists [] [.v (.ptup (X.map prI))] (fun r fin => r = .ol (X.map ksD) ∧ fin = []) := by
  refine call_fn (d := ir_l_lists) rfl rfl (by simp) (by simp) ?_
  refine w_cons <| w_ret (A := false) <| h_ite <| h_pk (d := .bl true) (by simp [pk, OT.top, disi, disT, dty]) (.inl ⟨rfl, h_lc (A := false) <| i_seq <| h_pk (d := .ptup (X.map prI)) rfl ⟨_, X.map prI, rfl, rfl, rfl, by simp; omega, ?_⟩⟩)
  refine l_map (A := false) (p := fun _ => true) (F := ksD) (by simp [tgI]) (by simp [ir_l_lists]) rfl (fun x hx => ⟨_, rfl, rfl, (h_pk (A := true) (d := .bl true) rfl ⟨rfl, rfl⟩).off, fun _ => ?_⟩) ?_
  · exact h_call <| a_val (A := false) <| h_pk (d := prI x) rfl ⟨_, rfl, a_nil (callv (ds := [prI x]) (swap (call_lists (j := j) (k := 2) (ok_prI x))) fun u hu => by subst hu; exact ⟨rfl, rfl⟩)⟩
  · rw [List.nil_append, List.filter_eq_self.mpr (fun _ _ => rfl)]
    exact ⟨[], rfl, rfl, rfl⟩
theorem st_ks {X : List (Int × Int)} : (D.lst (X.map ksD)).st := sts_of fun d hd => by
  obtain ⟨p, _, rfl⟩ := List.mem_map.mp hd
  exact ⟨trivial, trivial, trivial⟩
theorem ok_ks {X : List (Int × Int)} (hl : X.length < 1000) : D.ok 3 (.lst (X.map ksD)) := ⟨by simpa using hl, fun d hd => by
  obtain ⟨p, _, rfl⟩ := List.mem_map.mp hd
  exact ⟨by simp, fun x hx => by simp at hx; rcases hx with rfl | rfl <;> trivial⟩⟩
theorem rest80 {t2 : OT} {K : Int} {o1 o3 o4 o5 o6 o7 : Option OT} (B : BxT t2 K) (hk : K < 100000) (T : Tbl es ws) {Q : Flo → Env → Prop} (q : ∀ t3 o4 o5 o6 o7, BxT t3 (K + 200) → Q .nx [some t3, o1, some (.v (tbD es)), o3, o4, o5, o6, o7]) :
    HSs (cfN tab (j + 6)) [0] b1_l_right [some t2, o1, some (.v (tbD es)), o3, o4, o5, o6, o7] Q := by
  have hlen := T.len
  have hfl := frN_len es es.length
  unfold b1_l_right
  refine w_cons <| w_asg (A := false) (by simp) <| h_call <| a_io rfl <| a_val (A := false) <| h_pk (d := tbD es) rfl ⟨_, rfl, a_nil (calli (i := 0) (ds := [tbD es]) rfl (cb (call_some (j := j + 3) B (by omega) T)) fun r t1 h => ?_)⟩
  obtain ⟨d, rfl, B1, X, rfl, W⟩ := h
  have hXl := W.len
  have T2 := wi_tbl T W.ok
  have hVl := T2.len
  have cR1 : Call (cfN tab (j + 6)) i_with_reads [] [.v (tbD es), .v (.ptup (X.map prI))] (fun u fin => fin = [] ∧ u = .v (tbD (wiE X es))) := call_reads (j := j + 1) (s := false) (f := prI) as_pr T W.ok (.inr rfl) (by omega) W.fold
  have cR2 : Call (cfN tab (j + 6)) i_with_reads [] [.v (tbD es).soft, .v (.lst (X.map ksD))] (fun u fin => fin = [] ∧ u = .v (tbD (wiE X es))) := by
    rw [← tbS_t]
    exact call_reads (j := j + 1) (s := true) (f := ksD) as_ks T W.ok (.inl (.inr rfl)) (by omega) W.fold
  have cR3 : Call (cfN tab (j + 6)) i_with_reads [] [.v (tbD es), .v (.lst (X.map prI))] (fun u fin => fin = [] ∧ u = .v (tbD (wiE X es))) := call_reads (j := j + 1) (s := false) (f := prI) as_pr T W.ok (.inl (.inr rfl)) (by omega) W.fold
  have cW := call_with (j := j + 4) T W.ok W.fold
  have okV : D.ok 3 (tbD (wiE X es)) := ok_tb (by omega)
  generalize tbD (wiE X es) = V at *
  refine w_cons <| w_asgt (A := false) (by simp) <| hes_cons <| h_call <| a_val (A := false) <| h_pk (d := tbD es) rfl ⟨_, rfl, a_val (A := false) <| h_pk (d := .ptup (X.map prI)) rfl ⟨_, rfl, a_nil (callv (ds := [tbD es, .ptup (X.map prI)]) cW fun u hu => ?_)⟩⟩
  subst hu
  refine hes_cons <| h_lst <| hes_cons <| h_call <| a_val (A := false) <| h_pk (d := tbD es) rfl ⟨_, rfl, a_nil (callv (ds := [tbD es]) (swap (call_lists (j := j + 3) (k := 3) (ok_tb (by omega)))) fun u hu => ?_)⟩
  subst hu
  refine hes_cons <| h_call <| a_val (A := false) <| h_pk (d := .ptup (X.map prI)) rfl ⟨_, rfl, a_nil (callv (ds := [.ptup (X.map prI)]) (swap (call_listsP (j := j + 3) (by omega))) fun u hu => ?_)⟩
  subst hu
  refine hes_nil ⟨[(tbD es).soft, .lst (X.map ksD)], rfl, by simp, hes_nil ⟨by simp, _, rfl, ?_⟩⟩
  refine w_free (i := 6) rfl rfl ?_
  show HSs (cfN tab (j + 6)) [0] _ [some t1, o1, some (.v (tbD es)), o3, some (.v (.ptup (X.map prI))), some (.v V), some (.v (.lst [(tbD es).soft, .lst (X.map ksD)])), o7] _
  refine w_cons <| w_asg (A := false) (by simp) <| h_lst <| hes_cons <| h_call <| a_val (A := false) <| h_pk (d := tbD es) rfl ⟨_, rfl, a_val (A := false) <| h_pk (d := .ptup (X.map prI)) rfl ⟨_, rfl, a_nil (callv (ds := [tbD es, .ptup (X.map prI)]) cR1 fun u hu => ?_)⟩⟩
  subst hu
  refine hes_cons <| h_call <| a_val (A := false) <| h_pk (d := (tbD es).soft) rfl ⟨_, rfl, a_val (A := false) <| h_pk (d := .lst (X.map ksD)) rfl ⟨_, rfl, a_nil (callv (ds := [(tbD es).soft, .lst (X.map ksD)]) cR2 fun u hu => ?_)⟩⟩
  subst hu
  refine hes_nil ⟨[V, V], rfl, by simp, ?_⟩
  refine w_cons <| w_exp <| h_mutl (A := false) (xs0 := [V, V]) rfl <| hes_cons <| h_callp <| a_val (A := false) <| h_bltL <| hes_cons <| h_pk (d := .ptup (X.map prI)) rfl <| hes_nil ⟨[.ptup (X.map prI)], X.map prI, rfl, rfl, .lst (X.map prI), rfl, a_val (A := false) <| h_pk (d := tbD es) rfl ⟨_, rfl, a_nil ⟨[.val (tbD es), .val (.lst (X.map prI))], rfl, callv (ds := [tbD es, .lst (X.map prI)]) cR3 fun u hu => ?_⟩⟩⟩
  subst hu
  refine hes_nil ⟨[V], [V, V], _, _, rfl, rfl, app_ok (by simp), ?_⟩
  show HSs (cfN tab (j + 6)) [0] _ [some t1, o1, some (.v (tbD es)), o3, some (.v (.ptup (X.map prI))), some (.v V), some (.v (.lst [(tbD es).soft, .lst (X.map ksD)])), some (.ol [V, V, V])] _
  refine w_free (i := 7) rfl rfl ?_
  show HSs (cfN tab (j + 6)) [0] _ [some t1, o1, some (.v (tbD es)), o3, some (.v (.ptup (X.map prI))), some (.v V), some (.v (.lst [(tbD es).soft, .lst (X.map ksD)])), some (.v (.lst [V, V, V]))] _
  have ok3 : D.ok 4 (.lst [V, V, V]) := ⟨by simp, fun x hx => by simp at hx; subst hx; exact okV⟩
  refine w_cons <| w_if (A := false) <| h_or <| h_not <| h_call <| a_val (A := false) <| h_pk (d := .lst [V, V, V]) rfl ⟨_, rfl, a_val (A := false) <| h_repw <| h_lst <| hes_cons <| h_pk (d := V) rfl <| hes_nil ⟨[V], rfl, by simp, h_pk (d := .int ((3 : Nat) : Int)) rfl ⟨V, 3, rfl, rfl, by omega, .lst [V, V, V], rfl, a_nil (callv (ds := [.lst [V, V, V], .lst [V, V, V]]) (call_sameK (j := j + 2) (k := 4) ok3) fun u hu => ?_)⟩⟩⟩
  subst hu
  refine ⟨true, rfl, .inl ⟨rfl, ?_⟩⟩
  refine h_cmp <| h_pk (d := .lst [(tbD es).soft, .lst (X.map ksD)]) rfl <| h_lst <| hes_cons <| h_call <| a_val (A := false) <| h_pk (d := tbD es) rfl ⟨_, rfl, a_nil (callv (ds := [tbD es]) (swap (call_lists (j := j + 3) (k := 3) (ok_tb (by omega)))) fun u hu => ?_)⟩
  subst hu
  refine hes_cons <| h_call <| a_val (A := false) <| h_pk (d := .ptup (X.map prI)) rfl ⟨_, rfl, a_nil (callv (ds := [.ptup (X.map prI)]) (swap (call_listsP (j := j + 3) (by omega))) fun u hu => ?_)⟩
  subst hu
  have hd : deq (.lst [(tbD es).soft, .lst (X.map ksD)]) (.lst [(tbD es).soft, .lst (X.map ksD)]) = some true := by
    refine deq_self (k := 4) ⟨by simp, fun x hx => ?_⟩ ⟨st_soft (st_tb T.ok), st_ks, trivial⟩ (by decide) rfl
    simp at hx
    rcases hx with rfl | rfl
    · exact ok_soft (ok_tb (by omega))
    · exact ok_ks (by omega)
  refine hes_nil ⟨[(tbD es).soft, .lst (X.map ksD)], rfl, by simp, _, _, false, rfl, rfl, by rw [dcmp, hd]; rfl, .inr ⟨rfl, w_nil <| w_nil (q _ _ _ _ _ B1)⟩⟩
theorem tail80 {t2 : OT} {K : Int} {i : Nat} {o3 o4 o5 o6 o7 : Option OT} {ss : Ss} (hk : K < 5000) (T : Tbl es ws) (B2 : BxT t2 (K + 300)) (hs : ss = (.cons (.for_ (.name 3) (.rng1 (.con (.int 3))) b1_l_right) (.cons (.iff (.not (.call i_l_same (.cons (.call i_with_reads (.cons (.var 2) (.cons (.tup .nil) .nil))) (.cons (.var 2) .nil)))) (.cons (.ret (.con (.bl false))) .nil) .nil) .nil))) {Q : Flo → Env → Prop} (q : ∀ t3 o2 o3 o4 o5 o6 o7, BxT t3 (K + 1000) → Q .nx [some t3, some (.v (.int (i : Nat))), o2, o3, o4, o5, o6, o7]) :
    HSs (cfN tab (j + 6)) [0] ss [some t2, some (.v (.int (i : Nat))), some (.v (tbD es)), o3, o4, o5, o6, o7] Q := by
  subst hs
  have hlen := T.len
  refine w_cons <| w_for (A := true) <| i_rng1 <| h_pk (d := .int 3) rfl ⟨3, rfl, by decide, by decide, ?_⟩
  refine f_inv (by simp [tgI]) (fun k env => k ≤ 3 ∧ ∃ t' o3 o4 o5 o6 o7, BxT t' (K + 300 + 200 * k) ∧ env = [some t', some (.v (.int (i : Nat))), some (.v (tbD es)), o3, o4, o5, o6, o7]) ?_ ?_ _ ⟨by omega, t2, o3, o4, o5, o6, o7, by simpa using B2, rfl⟩
  · rintro k x env hx ⟨hk3, t', o3, o4, o5, o6, o7, B3, rfl⟩
    obtain ⟨rfl, ht⟩ := rng_at hx
    refine ⟨_, rfl, ?_⟩
    show HSs (cfN tab (j + 6)) [0] _ [some t', some (.v (.int (i : Nat))), some (.v (tbD es)), some (.v (.int (k : Nat))), o4, o5, o6, o7] _
    exact rest80 B3 (by omega) T fun t3 o4 o5 o6 o7 B4 => ⟨by omega, t3, _, o4, o5, o6, o7, B4.mono (by omega), rfl⟩
  · rintro env ⟨_, t', o3, o4, o5, o6, o7, B3, rfl⟩
    have c0 : Call (cfN tab (j + 6)) i_with_reads [] [.v (tbD es), .v (.tup [])] (fun u fin => fin = [] ∧ u = .v (tbD (wiE [] es))) := call_reads (j := j + 1) (s := false) (X := []) (f := prI) as_pr T (fun i r h => by cases h) (.inl (.inl rfl)) (by simp) rfl
    rw [wiE_nil T] at c0
    refine w_cons <| w_if (A := false) <| h_not <| h_call <| a_val (A := false) <| h_call <| a_val (A := false) <| h_pk (d := tbD es) rfl ⟨_, rfl, a_val (A := false) <| h_tup <| hes_nil ⟨[], rfl, by simp, _, rfl, a_nil (callv (ds := [tbD es, .tup []]) c0 fun u hu => ?_)⟩⟩
    subst hu
    refine ⟨_, rfl, a_val (A := false) <| h_pk (d := tbD es) rfl ⟨_, rfl, a_nil (callv (ds := [tbD es, tbD es]) (call_sameK (j := j + 3) (k := 3) (ok_tb (by omega))) fun u hu => ?_)⟩⟩
    subst hu
    exact ⟨true, rfl, .inr ⟨rfl, w_nil <| w_nil (q _ _ _ _ _ _ _ (B3.mono (by simp; omega)))⟩⟩
end
end Mp.V
namespace Mp.V
open PySem L2
section
variable {j : Nat} {es : List Dr.Ev} {ws : Dr.Ws}
theorem turn80 {t : OT} {K : Int} {i : Nat} {o2 o3 o4 o5 o6 o7 : Option OT} (B : BxT t K) (hk : K < 5000) {Q : Flo → Env → Prop} (q : ∀ t3 o2 o3 o4 o5 o6 o7, BxT t3 (K + 1000) → Q .nx [some t3, some (.v (.int (i : Nat))), o2, o3, o4, o5, o6, o7]) :
    HSs (cfN tab (j + 6)) [0] b2_l_right [some t, some (.v (.int (i : Nat))), o2, o3, o4, o5, o6, o7] Q := by
  unfold b2_l_right
  refine w_cons <| w_asg (A := false) (by simp) <| h_call <| a_io rfl <| a_nil (calli (i := 0) (ds := []) rfl (cb (call_lagging (j := j + 3) B (by omega))) fun r t1 h => ?_)
  obtain ⟨d, rfl, B1, es0, ws0, rfl, T0⟩ := h
  show HSs (cfN tab (j + 6)) [0] _ [some t1, some (.v (.int (i : Nat))), some (.v (tbD es0)), o3, o4, o5, o6, o7] _
  refine w_cons <| w_if (A := true) <| h_pk (d := .bl (decide ((0 : Int) < i))) ?_ ?_
  · show ((dcmp .gt (.int ((i : Nat) : Int)) (.int 0)).map fun k => OT.v (.bl k)) = _
    simp [dcmp]
  by_cases hz : (0 : Int) < i
  · refine .inl ⟨by rw [decide_eq_true hz], w_cons <| w_asg (A := false) (by simp) <| h_call <| a_io rfl <| a_val (A := false) <| h_bop <| h_pk (d := .int 8) rfl <| h_call <| a_io rfl <| a_val (A := false) <| h_pk (d := .int 6) rfl ⟨_, rfl, a_nil (calli (i := 0) (ds := [.int 6]) rfl (cb (call_take (j := j + 5) B1 (by omega) (by omega) (by omega))) fun r t2 h => ?_)⟩⟩
    obtain ⟨d, rfl, B2, a, rfl, a0, a1⟩ := h
    refine ⟨_, _, .int (8 + a), rfl, rfl, rfl, _, rfl, a_val (A := false) <| h_pk (d := .int ((4 : Nat) : Int)) rfl ⟨_, rfl, a_val (A := false) <| h_bop <| h_pk (d := .int 1) rfl <| h_call <| a_io rfl <| a_val (A := false) <| h_pk (d := .int 3) rfl ⟨_, rfl, a_nil (calli (i := 0) (ds := [.int 3]) rfl (cb (call_take (j := j + 5) B2 (by omega) (by omega) (by omega))) fun r t3 h => ?_)⟩⟩⟩
    obtain ⟨d, rfl, B3, f, rfl, f0, f1⟩ := h
    refine ⟨_, _, .int (1 + f), rfl, rfl, rfl, _, rfl, a_nil (calli (i := 0) (ds := [.int (8 + a), .int ((4 : Nat) : Int), .int (1 + f)]) rfl (cb (call_waited (j := j + 1) (most := 4) B3 (by omega) (by omega) (by omega) (by omega) (by omega))) fun r t4 h => ?_)⟩
    obtain ⟨d, rfl, B4, es, ws, rfl, T⟩ := h
    refine w_nil ?_
    show HSs (cfN tab (j + 6)) [0] _ [some t4, some (.v (.int (i : Nat))), some (.v (tbD es)), o3, o4, o5, o6, o7] _
    exact tail80 hk T (B4.mono (by omega)) rfl q
  · refine .inr ⟨by rw [decide_eq_false hz], w_nil ?_⟩
    exact tail80 hk T0 (B1.mono (by omega)) rfl q
theorem call_right80 {t : OT} (hb : BxT t 0) : Call (cfN tab (j + 7)) i_l_right [0] [t] (fun r fin => r = .v (.bl true)) := by
  refine call_fn (d := ir_l_right) rfl rfl (by simp) (by decide) ?_
  refine w_cons <| w_for (A := true) <| i_rng1 <| h_pk (d := .int 3) rfl ⟨3, rfl, by decide, by decide, ?_⟩
  refine f_inv (by simp [tgI]) (fun i env => ∃ t' o1 o2 o3 o4 o5 o6 o7, (∃ n', BxT t' n' ∧ n' ≤ 1000 * i) ∧ env = [some t', o1, o2, o3, o4, o5, o6, o7]) ?_ ?_ _ ⟨t, none, none, none, none, none, none, none, ⟨0, hb, by omega⟩, rfl⟩
  · rintro i x env hx ⟨t', o1, o2, o3, o4, o5, o6, o7, ⟨n, B, hn⟩, rfl⟩
    obtain ⟨rfl, ht⟩ := rng_at hx
    have hi : i < 3 := ht
    refine ⟨_, rfl, ?_⟩
    show HSs (cfN tab (j + 6)) [0] _ [some t', some (.v (.int (i : Nat))), o2, o3, o4, o5, o6, o7] _
    exact turn80 B (by omega) fun t3 o2 o3 o4 o5 o6 o7 B3 => ⟨t3, _, _, _, _, _, _, _, ⟨_, B3, by omega⟩, rfl⟩
  · rintro env ⟨t', o1, o2, o3, o4, o5, o6, o7, _, rfl⟩
    exact w_cons <| w_ret (A := true) <| h_pk (d := .bl true) rfl ⟨_, rfl, rfl⟩
end
end Mp.V
namespace Mp
open PySem L2
def Scr (M : Mm) (x : PV) (ns : List Int) : Prop := x = .cl ns ∨ ∃ a, x = .ref a ∧ M[a]? = some (.lst (ns.map .int))
theorem Scr.frm {M M' : Mm} {x : PV} {ns : List Int} {S : List Nat} (h : Scr M x ns) (F : Frm S M M') (hS : ∀ i ∈ S, M.length ≤ i) : Scr M' x ns := by
  rcases h with h | ⟨a, h1, h2⟩
  · exact .inl h
  · exact .inr ⟨a, h1, F.get h2 fun z => by have := hS a z; have := lt_of h2; omega⟩
theorem Scr.len {M : Mm} {x : PV} {ns : List Int} (h : Scr M x ns) : bltP M .len [x] = some (.int ns.length, M) := by
  rcases h with rfl | ⟨a, rfl, h2⟩
  · rfl
  · simp [bltP, h2]
theorem Scr.at_ {M : Mm} {x : PV} {ns : List Int} (h : Scr M x ns) {k : Nat} (hk : k < ns.length) : idxP M x (.int (k : Nat)) = some (.int ns[k]) := by
  rcases h with rfl | ⟨a, rfl, h2⟩
  · have hat : atI ns k = some ns[k] := by simp [atI, ixN, hk]
    simp [idxP, hat]
  · have : (ns.map PV.int)[k]? = some (.int ns[k]) := by simp [hk]
    simp only [idxP, h2]
    exact at_nat this
def HBx3 (cf : CF) : Prop := ∀ (M : Mm) (x : PV) (ns : List Int) (k : Nat), Scr M x ns → k ≤ 2 → ∃ M', cf i_l_box [x, .int k] M = some (.ref M.length, M') ∧ Bx M' M.length 0 ∧ Frm [] M M'
theorem box3_ok (cf : CF) {M : Mm} {x : PV} {ns : List Int} {k : Nat} (hS : Scr M x ns) (hk : k ≤ 2) : ∃ M', runD cf ir_l_box [x, .int k] M = some (.ref M.length, M') ∧ Bx M' M.length 0 ∧ Frm [] M M' := by
  have key : ∀ c : Int, (∀ sg : Sg, sg[0]? = some (some x) → sg[1]? = some (some (.int k)) → evE cf (.ite (.cmp .lt (.var 1) (.blt .len (.cons (.var 0) .nil))) (.idx (.var 0) (.var 1)) (.con (.int 0))) sg M = some (.int c, M)) → ∃ M', runD cf ir_l_box [x, .int k] M = some (.ref M.length, M') ∧ Bx M' M.length 0 ∧ Frm [] M M' := by
    intro c hc
    have hc' := hc [some x, some (.int k), none, none] rfl rfl
    generalize hq : E.ite (.cmp .lt (.var 1) (.blt .len (.cons (.var 0) .nil))) (.idx (.var 0) (.var 1)) (.con (.int 0)) = q at hc'
    let s : Int := (c % 2305843009213693921 + 40993 * k + 59) * 38873 % 2147483563
    let a : Int := if c < 0 then -c else c
    have ha : 0 ≤ a := by show 0 ≤ (if c < 0 then -c else c); split <;> omega
    have hp : (10 : Int) ^ 18 = 1000000000000000000 := by decide
    let d : Int := a * (if 1000000000000000000 ≤ a then 1 else 0)
    have m1 : mulOk 40993 k = true := by simp [mulOk]
    have m2 : ∀ x, mulOk x 38873 = true := fun x => by simp [mulOk]
    have m3 : ∀ (x : Int) (P : Prop) [Decidable P], mulOk x (if P then 1 else 0) = true := fun x P _ => by by_cases hP : P <;> simp [mulOk, hP]
    refine ⟨M ++ [Ob.lst [.int d, .int s, .int 0]], ?_, ⟨d, s, 0, get_last, ?_, Int.emod_nonneg _ (by decide), Int.emod_lt_of_pos _ (by decide), by decide, by decide⟩, .app⟩
    · have hb : ∀ b : Bool, (if b then (1 : Int) else 0) = if b = true then 1 else 0 := fun b => rfl
      simp [runD, ir_l_box, hq, evSs, evS, evE, evEs, tgP, hc', bltP, bopP, cmpP, m1, m2, m3, sizeLine, s, d, a]
    · show 0 ≤ a * (if 1000000000000000000 ≤ a then 1 else 0)
      split <;> omega
  have hl : ∀ sg : Sg, sg[0]? = some (some x) → evE cf (.blt .len (.cons (.var 0) .nil)) sg M = some (.int ns.length, M) := fun sg h0 => e_blt (es_one (e_var h0)) hS.len
  by_cases hlt : k < ns.length
  · refine key ns[k] fun sg h0 h1 => ?_
    have : (k : Int) < ns.length := by omega
    have hc : evE cf (.cmp .lt (.var 1) (.blt .len (.cons (.var 0) .nil))) sg M = some (.bl true, M) := by
      rw [evE, e_var h1]; simp only [hl sg h0]; simp [cmpP, this]
    rw [evE, hc]
    simp only []
    rw [evE, e_var h0]
    simp only []
    rw [e_var h1]
    simp only [hS.at_ hlt, Option.map_some]
  · refine key 0 fun sg h0 h1 => ?_
    have : ¬ (k : Int) < ns.length := by omega
    have hc : evE cf (.cmp .lt (.var 1) (.blt .len (.cons (.var 0) .nil))) sg M = some (.bl false, M) := by
      rw [evE, e_var h1]; simp only [hl sg h0]; simp [cmpP, this]
    rw [evE, hc]
    simp only []
    rw [evE]
theorem hbx3 (j : Nat) : HBx3 (cfN tab (j + 1)) := fun M x ns k hS h => box3_ok (cfN tab j) hS h
def HRt (cf : CF) : Prop := ∀ (M : Mm) (b : Nat), Bx M b 0 → ∃ M', cf i_l_right [.ref b] M = some (.bl true, M') ∧ Frm [b] M M'
theorem hrt (j : Nat) : HRt (cfN tab (j + 7)) := fun M b B => by
  obtain ⟨t, h1, h2⟩ := V.of_bx (B := fun n => n ∈ ([[b]] : List (List Nat)).flatten ∨ False) B
  obtain ⟨v, M', r, ns, fin, vs, ms', e, _, _, o, _, _, _, fr, le, rfl⟩ := V.call_right80 (j := j) h1 M [.ref b] [[b]] (fun _ => False) ⟨h2, trivial⟩ (by simp) (by simp) (by simp)
  cases o.1
  exact ⟨M', e, le, fun i hi hl => fr i hl (by simpa using hi)⟩
theorem good_at (M0 : Mm) (x : PV) (ns : List Int) (hS : Scr M0 x ns) : ∃ M', cfN tab 13 i_law [x] M0 = some (.bl true, M') := by
  show ∃ M', runD (cfN tab 12) ir_law [x] M0 = some (.bl true, M')
  have Bb : HBx3 (cfN tab 12) := hbx3 11
  have Rr : HRt (cfN tab 12) := hrt 5
  generalize cfN tab 12 = cf at *
  let n : Nat := 1 + min 2 ns.length
  have hn : n ≤ 3 := by show 1 + min 2 ns.length ≤ 3; omega
  obtain ⟨M', e1, c1, F1⟩ := lc_inv (src := .rng 0 n) (bind := tgP (.name 1)) (c := fun sg M => evE cf (.con (.bl true)) sg M) (e := fun sg M => evE cf e1_law sg M) (d := M0.length) (sg := [some x, none]) (fun i N => N[M0.length]? = some (.lst (List.replicate i (.bl true))) ∧ Frm [] M0 N) (n := n) (M := M0 ++ [Ob.lst []]) (by omega)
    ⟨get_last, .app⟩
    (by
      intro i N hi hI
      obtain ⟨c1, F1⟩ := hI
      have hS1 := hS.frm F1 (by simp)
      obtain ⟨N1, e2, B2, f2⟩ := Bb N x ns i hS1 (by omega)
      obtain ⟨N2, e3, f3⟩ := Rr N1 N.length B2
      have hN := lt_of c1
      have c3 : N2[M0.length]? = some (.lst (List.replicate i (.bl true))) := f3.get (f2.get c1 (by simp)) (by simp; omega)
      refine ⟨.int (0 + i), [some x, some (.int (0 + i))], by simp [Src.get, hi], rfl, .inl ⟨N, .bl true, N2, List.replicate i (.bl true), e_con, ?_, by simp only [lstAt, c3], by simp; omega, ?_, ?_⟩⟩
      · unfold e1_law
        have : (0 : Int) + i = i := by omega
        rw [this]
        exact e_call (es_one (e_call (es_cons (e_var rfl) (es_one (e_var rfl))) e2)) e3
      · rw [List.getElem?_set_self (lt_of c3), List.replicate_succ']
      · have hl1 := F1.len
        have hl2 := f2.len
        have hl3 := f3.len
        refine ⟨by simp; omega, fun k _ hk => ?_⟩
        rw [List.getElem?_set_ne (by omega), f3.at_ k (by simp; omega) (by omega), f2.at_ k (by simp) (by omega), F1.at_ k (by simp) hk])
    (by intro N hI; simp [Src.get])
  refine ⟨M', run_ret rfl ?_⟩
  have hI : evI cf (.rng1 (.bop .add (.con (.int 1)) (.blt .min2 (.cons (.con (.int 2)) (.cons (.blt .len (.cons (.var 0) .nil)) .nil))))) [some x, none] M0 = some (.rng 0 n, M0) := by
    have h1 : evE cf (.bop .add (.con (.int 1)) (.blt .min2 (.cons (.con (.int 2)) (.cons (.blt .len (.cons (.var 0) .nil)) .nil)))) [some x, none] M0 = some (.int n, M0) := by
      refine e_bop e_con (e_blt (es_cons e_con (es_one (e_blt (es_one (e_var rfl)) hS.len))) rfl) ?_
      show some (PV.int (1 + (if (ns.length : Int) < 2 then (ns.length : Int) else 2)), M0) = some (.int ((1 + min 2 ns.length : Nat) : Int), M0)
      congr 3
      split <;> omega
    rw [evI, h1]
    have hro : rngOk (n : Int) = true := by simp [rngOk]; omega
    simp only [hro]
    rfl
  have hE : evE cf (.lc [1] (.name 1) (.rng1 (.bop .add (.con (.int 1)) (.blt .min2 (.cons (.con (.int 2)) (.cons (.blt .len (.cons (.var 0) .nil)) .nil))))) (.con (.bl true)) e1_law) [some x, none] M0 = some (.ref M0.length, M') := by
    rw [evE, hI]
    have hwp : wipeP [some x, none] [1] = [some x, none] := rfl
    simp only [hwp, e1]; rfl
  unfold ir_law
  refine ss_ret (e_blt (es_one hE) ?_)
  simp only [bltP, lstAt, c1, Option.bind_some, blsOf_rep, Option.map_some]
  simp
theorem good (ns : List Int) (hns : ns.length ≤ 63) : ∃ M', cfN tab (12 + 1) 18 [.cl ns] [] = some (.bl true, M') := good_at [] _ ns (.inl rfl)
end Mp
set_option maxRecDepth 100000 in
set_option maxHeartbeats 0 in
theorem PySem.Challenge.cw_missedmarks_k80_reads_in_the_place_of_wa_holds : PySem.Challenge.rw_missedmarks_k80_reads_in_the_place_of_wa.Holds :=
  Mp.reduce Mp.good
