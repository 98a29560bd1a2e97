import PyProof.Rows.All
import Wide.All
import OpenK.AllK
import Wide.FinOn
import HandS.HeadHook4
import HandS.AnyAll
import HandS.ForMost
import HandS.HeadHook1
import HandS.SlotsVar
import HandS.Slots
import KE.SortData
import HandS.TupMul
import HandS.Lambda
import HandS.TupAny
import HandS.Deep
import HandS.IsInst
import HandS.More
import HandS.WordsDict
import KE.KSortedM
import KE.GoesMore
import HandS.Zip
import HandS.TryOnly
import HandS.Style
import HandS.Small
import HandS.Defaults
import HandS.IterVal
import HandS.HeadHook3
import KE.KRevSl
import HandS.Head0
import HandS.Head1
import HandS.Head2
import HandS.HeadEnd
import HandS.HeadHook2
import HandS.OwnEq
import HandS.DeepEq
import HandS.DictComp
import KE.KDictZip
import HandS.SetKeys
import HandS.SetBool
import HandS.Strs
import HandS.SetFor
import HandS.DictTup
import HandS.OwnIter
import HandS.TupSets
import HandS.FStr
import PyProof.TupleOfGen
import HandS.ExcValue
import HandS.HeadWalk
import PySem.Challenge.RW_missedmarks_k01_sweeps_and_guards_or_non
set_option Elab.async false
set_option linter.all false
set_option maxRecDepth 100000
set_option maxHeartbeats 4000000
set_option autoImplicit false
namespace Mp
open PySem
def tfD:List He.Defn:=[]
def tabs (K:PySem.W.Frag):List Addr:=tfD.map fun p=>(He.cT K p).2
end Mp
namespace Mp
open PySem L2
inductive PV where
 | non | bl (b:Bool) | int (i:Int) | str (s:Str) | tup (xs:List PV) | ref (n:Nat) | cl (ns:List Int) | fn (n:Nat) (x:Str) | ptup (xs:List PV)
inductive Ob where
 | lst (xs:List PV)
 | dic (kvs:List (Key × PV))
 | ins (c:Str) (fs:List (Str × PV))
 | slt (c:Str) (vs:List (Option PV))
 | frz (kvs:List (Key × PV))
abbrev Mm:=List Ob
abbrev Sg:=List (Option PV)
def CL (K:PySem.W.Frag) (H:Hp) (a:Addr) (ns:List Int):Prop :=
 (∃ o,H a=some (.frz o (.lst (ns.map V.int))))\/∀ H':Hp,SqL K H' a (ns.map V.int)
theorem CL.sq {K:PySem.W.Frag} {H:Hp} {a:Addr} {ns:List Int} (h:CL K H a ns):SqL K H a (ns.map V.int):=by
 rcases h with ⟨o,h⟩ | h
 ·exact .inl (.inr ⟨o,h⟩)
 ·exact h H
def plo (us:List Value):Obj:={ cls:=.type "tuple",data:=.seq us.toArray }
def PlT (H:Hp) (a:Addr) (vs:List V):Prop:=∃ o:Obj,o.cls=.type "tuple" /\ o.dict=none/\H a=some (.frz o (.tup vs))
theorem PlT.sqT {K:PySem.W.Frag} {H:Hp} {a:Addr} {vs:List V} (h:PlT H a vs):SqT K H a vs:=let ⟨o,_,_,h⟩:=h;.inl (.inr ⟨o,h⟩)
mutual
inductive RV (K:PySem.W.Frag) (r:List Addr) (H:Hp):PV->V->Prop
 | non:RV K r H .non .non
 | bl (b:Bool):RV K r H (.bl b) (.bl b)
 | int (i:Int):RV K r H (.int i) (.int i)
 | str (s:Str):RV K r H (.str s) (.str s)
 | tup {xs:List PV} {a:Addr} {vs:List V}:SqT K H a vs->RVs K r H xs vs->RV K r H (.tup xs) (.ref a)
 | ref {n:Nat} {a:Addr}:r[n]? = some a->RV K r H (.ref n) (.ref a)
 | cl {ns:List Int} {a:Addr}:CL K H a ns->RV K r H (.cl ns) (.ref a)
 | fn (n:Nat) (x:Str):RV K r H (.fn n x) (.ref (He.ga K x))
 | ptup {xs:List PV} {a:Addr} {vs:List V}:PlT H a vs->RVs K r H xs vs->RV K r H (.ptup xs) (.ref a)
inductive RVs (K:PySem.W.Frag) (r:List Addr) (H:Hp):List PV->List V->Prop
 | nil:RVs K r H [] []
 | cons {x:PV} {xs:List PV} {v:V} {vs:List V}:RV K r H x v->RVs K r H xs vs->RVs K r H (x::xs) (v::vs)
end
structure OwnsOk (H H':Hp):Prop where
 own:∀ a x,H a=some (.own x)->H' a=some (.own x)\/(H' a=some (.xd [])/\∃ φ,H' x=some (.ext φ))
 xd:∀ a,H a=some (.xd [])->H' a=some (.xd [])
 ext:∀ a φ,H a=some (.ext φ)->∃ φ',H' a=some (.ext φ')
theorem OwnsOk.trans {H1 H2 H3:Hp} (a:OwnsOk H1 H2) (b:OwnsOk H2 H3):OwnsOk H1 H3 :=
 ⟨fun x y h=>by
  rcases a.own x y h with h | ⟨h,φ,h2⟩
  ·exact b.own x y h
  ·exact .inr ⟨b.xd x h,b.ext y φ h2⟩,fun x h=>b.xd x (a.xd x h),fun x φ h=>let ⟨ψ,h2⟩:=a.ext x φ h;b.ext x ψ h2⟩
theorem OwnsOk.keep {H H':Hp} (k:∀ a o,(∀ ps,o≠.tbl ps)->H a=some o->H' a=some o):OwnsOk H H' :=
 ⟨fun a x h=>.inl (k a _ (fun _ z=>by cases z) h),fun a h=>k a _ (fun _ z=>by cases z) h,fun a φ h=>⟨φ,k a _ (fun _ z=>by cases z) h⟩⟩
def Stays (ho o:HO):Prop:=(∀ φ,ho=.ext φ->∃ φ',o=.ext φ')/\(∀ x,ho≠.own x)/\ho≠.xd []
theorem OwnsOk.upd {H:Hp} {a:Addr} {ho o:HO} (h:H a=some ho) (hx:Stays ho o):OwnsOk H (upd H a o):=by
 refine ⟨fun b x e=>.inl ?_,fun b e=>?_,fun b φ e=>?_⟩
 ·rw [upd_ne];exact e
  intro z;subst z;rw [h] at e;cases e;exact hx.2.1 x rfl
 ·rw [upd_ne];exact e
  intro z;subst z;rw [h] at e;cases e;exact hx.2.2 rfl
 ·by_cases z:b=a
  ·subst z
   rw [h] at e;cases e
   obtain ⟨φ',e2⟩:=hx.1 φ rfl
   exact ⟨φ',by rw [<- e2];exact upd_same⟩
  ·exact ⟨φ,by rw [upd_ne z];exact e⟩
def zjg (H:Hp) (P:Addr):Prop:=∃ ps:Array Value,H P=some (.tbl ps)/\TriplesOk ps.toList/\∀ (pos:Pos) (cv:Value),codeAmong pos ps.toList=some cv->∃ (c:Addr) (oc:Obj) (q:Str),cv=.ref c/\H c=some (.frz oc (LamX.CodeO c q))
theorem zjg.mv {H H':Hp} {P:Addr} (h:zjg H P) (t:∀ ps,H P=some (.tbl ps)->H' P=some (.tbl ps)) (k:∀ (c:Addr) (o:Obj) (q:Str),H c=some (.frz o (LamX.CodeO c q))->H' c=some (.frz o (LamX.CodeO c q))):zjg H' P:=by
 obtain ⟨ps,h1,h2,h3⟩:=h
 refine ⟨ps,t _ h1,h2,fun pos cv e=>?_⟩
 obtain ⟨c,oc,q,e1,e2⟩:=h3 pos cv e
 exact ⟨c,oc,q,e1,k _ _ _ e2⟩
theorem zjg.g {H:Hp} {P:Addr} (h:zjg H P):GxR.TabG H P:=let ⟨ps,h1,h2,_⟩:=h;⟨ps,h1,h2⟩
theorem zjg.ref {H:Hp} {P:Addr} (h:zjg H P):∃ ps,H P=some (.tbl ps):=let ⟨ps,h1,_⟩:=h;⟨ps,h1⟩
theorem zjg.nil {H:Hp} {P:Addr} (h:H P=some (.tbl #[])):zjg H P:=⟨#[],h,trivial,fun pos cv hc=>by
 have z:codeAmong pos []=some cv:=hc
 simp [codeAmong] at z⟩
structure Ext0 (r r':List Addr) (H H':Hp):Prop where
 pre:∃ t,r'=r++t
 tups:∀ a xs,H a=some (.tup xs)->H' a=some (.tup xs)
 frzs:∀ a o u,H a=some (.frz o u)->H' a=some (.frz o u)
 owns:OwnsOk H H'
 tbs:∀ a,zjg H a->zjg H' a
structure Ext (r r':List Addr) (H H':Hp):Prop extends Ext0 r r' H H' where
 fresh:∀ a,a∈r'->a∉r->H a=none
 oth:∀ a o,a∉r->(∀ ps,o≠.tbl ps)->(∀ x,o≠.own x)->H a=some o->H' a=some o
 live:∀ a o,H a=some o->∃ o',H' a=some o'
theorem Ext.refl {r:List Addr} {H:Hp}:Ext r r H H:=⟨⟨⟨[],by simp⟩,fun _ _ h=>h,fun _ _ _ h=>h,.keep fun _ _ _ h=>h,fun _ h=>h⟩,fun a h1 h2=>absurd h1 h2,fun _ _ _ _ _ h=>h,fun _ o h=>⟨o,h⟩⟩
theorem Ext.trans {r1 r2 r3:List Addr} {H1 H2 H3:Hp} (a:Ext r1 r2 H1 H2) (b:Ext r2 r3 H2 H3):Ext r1 r3 H1 H3:=by
 obtain ⟨t,e1⟩:=a.pre
 obtain ⟨u,e2⟩:=b.pre
 refine ⟨⟨⟨t++u,by rw [e2,e1,List.append_assoc]⟩,fun x xs h=>b.tups x xs (a.tups x xs h),fun x o u h=>b.frzs x o u (a.frzs x o u h),a.owns.trans b.owns,fun x h=>b.tbs x (a.tbs x h)⟩,fun x h3 h1=>?_,fun x o h1 ht hw h=>?_,fun x o h=>?_⟩
 ·by_cases h2:x∈r2
  ·exact a.fresh x h2 h1
  ·have q:=b.fresh x h3 h2
   cases e:H1 x with
   | none=>rfl
   | some o =>
    obtain ⟨o',e'⟩:=a.live x o e
    rw [e'] at q;cases q
 ·refine b.oth x o (fun h2=>?_) ht hw (a.oth x o h1 ht hw h)
  rw [a.fresh x h2 h1] at h;cases h
 ·obtain ⟨o',e'⟩:=a.live x o h
  exact b.live x o' e'
theorem Ext0.at {r r':List Addr} {H H':Hp} (e:Ext0 r r' H H') {n:Nat} {a:Addr} (h:r[n]? = some a):r'[n]? = some a:=by
 obtain ⟨t,rfl⟩:=e.pre
 rw [List.getElem?_append_left (List.getElem?_eq_some_iff.mp h).1]
 exact h
theorem Ext.at {r r':List Addr} {H H':Hp} (e:Ext r r' H H') {n:Nat} {a:Addr} (h:r[n]? = some a):r'[n]? = some a:=by
 obtain ⟨t,rfl⟩:=e.pre
 rw [List.getElem?_append_left (List.getElem?_eq_some_iff.mp h).1]
 exact h
section
variable {K:PySem.W.Frag} {r r':List Addr} {H H':Hp}
theorem Ext0.rd (e:Ext0 r r' H H') {a:Addr} {xs:List V} (h:Rd H a (.tup xs)):Rd H' a (.tup xs):=by
 rcases h with h | ⟨o,h⟩
 ·exact .inl (e.tups a xs h)
 ·exact .inr ⟨o,e.frzs a o _ h⟩
theorem Ext0.sqT (e:Ext0 r r' H H') {a:Addr} {xs:List V} (h:SqT K H a xs):SqT K H' a xs:=by
 rcases h with h | h
 ·exact .inl (e.rd h)
 ·exact .inr h
theorem Ext0.cl (e:Ext0 r r' H H') {a:Addr} {ns:List Int} (h:CL K H a ns):CL K H' a ns:=by
 rcases h with ⟨o,h⟩ | h
 ·exact .inl ⟨o,e.frzs a o _ h⟩
 ·exact .inr h
theorem Ext0.plT (e:Ext0 r r' H H') {a:Addr} {xs:List V} (h:PlT H a xs):PlT H' a xs:=let ⟨o,h1,h2,h3⟩:=h;⟨o,h1,h2,e.frzs a o _ h3⟩
mutual
theorem RV.ext0 (e:Ext0 r r' H H'):∀ {x:PV} {v:V},RV K r H x v->RV K r' H' x v
 | _,_,.non=>.non
 | _,_,.bl b=>.bl b
 | _,_,.int b=>.int b
 | _,_,.str b=>.str b
 | _,_,.tup h hs=>.tup (e.sqT h) (RVs.ext0 e hs)
 | _,_,.ref h=>.ref (e.at h)
 | _,_,.cl h=>.cl (e.cl h)
 | _,_,.fn n x=>.fn n x
 | _,_,.ptup h hs=>.ptup (e.plT h) (RVs.ext0 e hs)
theorem RVs.ext0 (e:Ext0 r r' H H'):∀ {x:List PV} {v:List V},RVs K r H x v->RVs K r' H' x v
 | _,_,.nil=>.nil
 | _,_,.cons h hs=>.cons (RV.ext0 e h) (RVs.ext0 e hs)
end
theorem Ext.sqT (e:Ext r r' H H') {a:Addr} {xs:List V} (h:SqT K H a xs):SqT K H' a xs:=e.toExt0.sqT h
theorem Ext.cl (e:Ext r r' H H') {a:Addr} {ns:List Int} (h:CL K H a ns):CL K H' a ns:=e.toExt0.cl h
theorem RV.ext {x:PV} {v:V} (h:RV K r H x v) (e:Ext r r' H H'):RV K r' H' x v:=RV.ext0 e.toExt0 h
theorem RVs.ext {x:List PV} {v:List V} (h:RVs K r H x v) (e:Ext r r' H H'):RVs K r' H' x v:=RVs.ext0 e.toExt0 h
theorem RVs.length:∀ {x:List PV} {v:List V},RVs K r H x v->x.length=v.length
 | _,_,.nil=>rfl
 | _,_,.cons _ hs=>by simp [RVs.length hs]
theorem RVs.append:∀ {x y:List PV} {v u:List V},RVs K r H x v->RVs K r H y u->RVs K r H (x++y) (v++u)
 | _,_,_,_,.nil,h=>h
 | _,_,_,_,.cons h hs,h'=>.cons h (RVs.append hs h')
theorem RVs.get:∀ {x:List PV} {v:List V} {i:Nat} {p:PV},RVs K r H x v->x[i]? = some p->∃ u,v[i]? = some u/\RV K r H p u
 | _,_,_,_,.nil,e=>by simp at e
 | _,_,0,_,.cons h _,e=>by simp at e;subst e;exact ⟨_,rfl,h⟩
 | _,_,i+1,p,.cons _ hs,e=>by
  obtain ⟨u,h1,h2⟩:=RVs.get (i:=i) hs (by simpa using e)
  exact ⟨u,by simpa using h1,h2⟩
theorem RVs.get':∀ {x:List PV} {v:List V} {i:Nat} {u:V},RVs K r H x v->v[i]? = some u->∃ p,x[i]? = some p/\RV K r H p u
 | _,_,_,_,.nil,e=>by simp at e
 | _,_,0,_,.cons h _,e=>by simp at e;subst e;exact ⟨_,rfl,h⟩
 | _,_,i+1,p,.cons _ hs,e=>by
  obtain ⟨u,h1,h2⟩:=RVs.get' (i:=i) hs (by simpa using e)
  exact ⟨u,by simpa using h1,h2⟩
theorem RVs.drop:∀ {x:List PV} {v:List V} (n:Nat),RVs K r H x v->RVs K r H (x.drop n) (v.drop n)
 | _,_,0,h=>h
 | _,_,_+1,.nil=>.nil
 | _,_,n+1,.cons _ hs=>RVs.drop n hs
theorem RVs.take:∀ {x:List PV} {v:List V} (n:Nat),RVs K r H x v->RVs K r H (x.take n) (v.take n)
 | _,_,0,h=>.nil
 | _,_,_+1,.nil=>.nil
 | _,_,n+1,.cons h hs=>.cons h (RVs.take n hs)
theorem RVs.set:∀ {x:List PV} {v:List V} (n:Nat) {p:PV} {u:V},RVs K r H x v->RV K r H p u->RVs K r H (x.set n p) (v.set n u)
 | _,_,_,_,_,.nil,_=>.nil
 | _,_,0,_,_,.cons _ hs,h'=>.cons h' hs
 | _,_,n+1,_,_,.cons h hs,h'=>.cons h (RVs.set n hs h')
theorem RVs.reverse:∀ {x:List PV} {v:List V},RVs K r H x v->RVs K r H x.reverse v.reverse
 | _,_,.nil=>.nil
 | _,_,.cons h hs=>by
  rw [List.reverse_cons,List.reverse_cons]
  exact RVs.append (RVs.reverse hs) (.cons h .nil)
def SlA (H:Hp) (a C dx:Addr) (us:List (Option V)):Prop:=dx≠a/\((H a=some (SlX.SlO a C dx us)/\H dx=some (.xd []))\/(us=[]/\H a=some (.ins C dx [])/\H dx=some (.own a)))
theorem SlA.slt {H:Hp} {a C dx:Addr} {us:List (Option V)} (h:SlA H a C dx us):SlX.Slt H a C dx us:=by
 rcases h.2 with h | ⟨h1,h2,h3⟩
 ·exact .inr h
 ·exact .inl ⟨h2,h1⟩
theorem SlA.ext {H H':Hp} {a C dx:Addr} {us:List (Option V)} (e:OwnsOk H H') (h:H' a=H a) (g:SlA H a C dx us):SlA H' a C dx us:=by
 refine ⟨g.1,?_⟩
 rcases g.2 with ⟨g1,g2⟩ | ⟨g1,g2,g3⟩
 ·exact .inl ⟨h.trans g1,e.xd _ g2⟩
 ·refine .inr ⟨g1,h.trans g2,?_⟩
  rcases e.own _ _ g3 with z | ⟨_,φ,z⟩
  ·exact z
  ·rw [h,g2] at z;cases z
def RO (K:PySem.W.Frag) (r:List Addr) (H:Hp) (a:Addr):Ob->Prop
 | .lst xs=>∃ vs,H a=some (.lst vs)/\RVs K r H xs vs
 | .dic kvs=>∃ vs,H a=some (.dK vs)/\vs.map (·.1)=kvs.map (·.1)/\RVs K r H (kvs.map (·.2)) (vs.map (·.2))
 | .ins c fs=>∃ dx vs,H a=some (.ins (He.ga K c) dx vs)/\H dx=some (.own a)/\dx≠a/\vs.map (·.1)=fs.map (·.1)/\RVs K r H (fs.map (·.2)) (vs.map (·.2))
 | .slt c vs=>∃ dx us,SlA H a (He.ga K c) dx us/\us.length=vs.length/\∀ (i:Nat) (p:PV),vs[i]? = some (some p)->∃ u,us[i]? = some (some u)/\RV K r H p u
 | .frz kvs=>∃ o vs,H a=some (.frz o (.dK vs))/\vs.map (·.1)=kvs.map (·.1)/\RVs K r H (kvs.map (·.2)) (vs.map (·.2))
structure RH (K:PySem.W.Frag) (r:List Addr) (M:Mm) (H:Hp):Prop where
 len:r.length=M.length
 nd:r.Nodup
 ob:∀ (n:Nat) (a:Addr) (o:Ob),r[n]? = some a->M[n]? = some o->RO K r H a o
 tb:∀ a∈tabs K,zjg H a
theorem RO.there {a:Addr}:∀ {o:Ob},RO K r H a o->∃ ho,H a=some ho/\((∀ kvs,o≠.frz kvs)->Mut (some ho))
 | .lst _,⟨vs,h,_⟩=>⟨_,h,fun _=>trivial⟩
 | .dic _,⟨vs,h,_⟩=>⟨_,h,fun _=>trivial⟩
 | .ins _ _,⟨dx,vs,h,_⟩=>⟨_,h,fun _=>trivial⟩
 | .slt _ _,⟨dx,us,⟨_,h⟩,_⟩=>by
  rcases h with ⟨h,_⟩ | ⟨_,h,_⟩
  ·exact ⟨_,h,fun _=>trivial⟩
  ·exact ⟨_,h,fun _=>trivial⟩
 | .frz kvs,⟨_,vs,h,_⟩=>⟨_,h,fun z=>absurd rfl (z kvs)⟩
theorem RO.ext (e:Ext0 r r' H H') {a:Addr} (h:H' a=H a):∀ {o:Ob},RO K r H a o->RO K r' H' a o
 | .lst _,⟨vs,h1,h2⟩=>⟨vs,h.trans h1,RVs.ext0 e h2⟩
 | .dic _,⟨vs,h1,h2,h3⟩=>⟨vs,h.trans h1,h2,RVs.ext0 e h3⟩
 | .ins _ _,⟨dx,vs,h1,ho,hn,h2,h3⟩=>⟨dx,vs,h.trans h1,(e.owns.own _ _ ho).elim (fun z=>z) (fun ⟨_,φ,z⟩=>by rw [h,h1] at z;cases z),hn,h2,RVs.ext0 e h3⟩
 | .frz _,⟨o,vs,h1,h2,h3⟩=>⟨o,vs,h.trans h1,h2,RVs.ext0 e h3⟩
 | .slt _ _,⟨dx,us,h1,h4,h5⟩=>⟨dx,us,h1.ext e.owns h,h4,fun i p q=>let ⟨u,a,b⟩:=h5 i p q;⟨u,a,RV.ext0 e b⟩⟩
theorem RH.at {M:Mm} (h:RH K r M H) {n:Nat} {o:Ob} (e:M[n]? = some o):∃ a,r[n]? = some a/\RO K r H a o:=by
 have h1:n<r.length:=by rw [h.len];exact (List.getElem?_eq_some_iff.mp e).1
 exact ⟨r[n],List.getElem?_eq_getElem h1,h.ob n _ o (List.getElem?_eq_getElem h1) e⟩
theorem RH.there {M:Mm} (h:RH K r M H) {a:Addr} (m:a∈r):∃ ho,H a=some ho/\True:=by
 obtain ⟨n,hn,e⟩:=List.mem_iff_getElem.mp m
 have h1:n<M.length:=by rw [<- h.len];exact hn
 obtain ⟨ho,q,_⟩:=(h.ob n a M[n] (by rw [List.getElem?_eq_getElem hn,e]) (List.getElem?_eq_getElem h1)).there
 exact ⟨ho,q,trivial⟩
theorem RH.same {M:Mm} (h:RH K r M H) (e:Ext0 r r H H') (k:∀ a∈r,H' a=H a):RH K r M H' :=
 ⟨h.len,h.nd,fun n a o h1 h2=>(h.ob n a o h1 h2).ext e (k a (List.mem_of_getElem? h1)),fun a ha=>e.tbs a (h.tb a ha)⟩
theorem zbM {p:Addr} {o:HO} (hp:H p=none) (t:List Addr) (ht:t=[p]\/t=[]:=by first | exact .inl rfl | exact .inr rfl):Ext r (r++t) H (upd H p o):=by
 refine ⟨⟨⟨t,rfl⟩,fun a xs h=>by rw [upd_ne (ne_of_none h hp)];exact h,fun a o u h=>by rw [upd_ne (ne_of_none h hp)];exact h,.keep fun a o _ h=>by rw [upd_ne (ne_of_none h hp)];exact h,fun a h=>h.mv (fun ps e=>by rw [upd_ne (ne_of_none e hp)];exact e) fun a o u h=>by rw [upd_ne (ne_of_none h hp)];exact h⟩,fun a h1 h2=>?_,fun a o _ _ _ h=>by rw [upd_ne (ne_of_none h hp)];exact h,fun a o h=>⟨o,by rw [upd_ne (ne_of_none h hp)];exact h⟩⟩
 rcases List.mem_append.mp h1 with h | h
 ·exact absurd h h2
 ·rcases ht with rfl | rfl
  ·have:a=p:=by simpa using h
   rw [this];exact hp
  ·cases h
theorem zaF {p:Addr} {o:HO} (hp:H p=none):Ext r r H (upd H p o):=by
 have:=zbM (r:=r) (o:=o) hp [] (.inr rfl)
 rwa [List.append_nil] at this
theorem RH.other {M:Mm} (h:RH K r M H) {p:Addr} (o:HO) (hp:H p=none):RH K r M (upd H p o) :=
 h.same (zaF hp).toExt0 fun a m=>by
  obtain ⟨ho,e,_⟩:=h.there m
  exact upd_ne (ne_of_none e hp)
theorem RH.new {M:Mm} (h:RH K r M H) {p:Addr} {ho:HO} {o:Ob} (hp:H p=none) (q:RO K (r++[p]) (upd H p ho) p o):RH K (r++[p]) (M++[o]) (upd H p ho):=by
 have np:p∉r:=fun m=>by
  obtain ⟨ho,e,_⟩:=h.there m
  rw [hp] at e;cases e
 refine ⟨by simp [h.len],?_,fun n a o' h1 h2=>?_,fun a ha=>(zbM (r:=r) hp []).tbs a (h.tb a ha)⟩
 ·rw [List.nodup_append]
  refine ⟨h.nd,by simp,fun a ha b hb=>?_⟩
  have:b=p:=by simpa using hb
  subst this
  exact fun z=>np (z ▸ ha)
 ·by_cases hn:n<r.length
  ·rw [List.getElem?_append_left hn] at h1
   rw [List.getElem?_append_left (by rw [<- h.len];exact hn)] at h2
   refine (h.ob n a o' h1 h2).ext (zbM hp [p]).toExt0 (upd_ne fun z=>?_)
   subst z
   exact np (List.mem_of_getElem? h1)
  ·have h3:n=r.length:=by
    have:=(List.getElem?_eq_some_iff.mp h1).1
    simp at this
    omega
   subst h3
   rw [List.getElem?_append_right (Nat.le_refl _)] at h1
   rw [h.len,List.getElem?_append_right (Nat.le_refl _)] at h2
   simp at h1 h2
   subst h1;subst h2
   exact q
theorem zdf {a:Addr} {o:HO} {ho:HO} (h:H a=some ho) (m:Mut (some ho)) (ma:a∈r) (hx:Stays ho o:=by exact ⟨(fun _ z=>nomatch z),(fun _ z=>nomatch z),(fun z=>nomatch z)⟩):Ext r r H (upd H a o):=by
 refine ⟨⟨⟨[],by simp⟩,fun b xs e=>?_,fun b q u e=>?_,.upd h hx,fun b hb=>hb.mv (fun ps e=>?_) fun c q u e=>?_⟩,fun b h1 h2=>absurd h1 h2,fun b q hb _ _ e=>?_,fun b q e=>?_⟩
 ·rw [upd_ne];exact e
  intro z;subst z;rw [h] at e;cases e;exact m
 ·rw [upd_ne];exact e
  intro z;subst z;rw [h] at e;cases e;exact m
 ·rw [upd_ne];exact e
  intro z;subst z;rw [h] at e;cases e;exact m
 ·rw [upd_ne];exact e
  intro z;subst z;rw [h] at e;cases e;exact m
 ·rw [upd_ne];exact e
  intro z;subst z;exact hb ma
 ·by_cases hb:b=a
  ·subst hb;exact ⟨o,upd_same⟩
  ·exact ⟨q,by rw [upd_ne hb];exact e⟩
theorem RH.set {M:Mm} (h:RH K r M H) {n:Nat} {a:Addr} {ho h0:HO} {o:Ob} (e0:H a=some h0) (m0:Mut (some h0)) (ha:r[n]? = some a) (q:RO K r (upd H a ho) a o) (hx:Stays h0 ho:=by exact ⟨(fun _ z=>nomatch z),(fun _ z=>nomatch z),(fun z=>nomatch z)⟩):RH K r (M.set n o) (upd H a ho):=by
 refine ⟨by simp [h.len],h.nd,fun k b o' h1 h2=>?_,fun b hb=>(zdf (r:=r) (o:=ho) e0 m0 (List.mem_of_getElem? ha) hx).tbs b (h.tb b hb)⟩
 by_cases hk:k=n
 ·subst hk
  rw [ha] at h1;cases h1
  rw [List.getElem?_set_self (by rw [<- h.len];exact (List.getElem?_eq_some_iff.mp ha).1)] at h2
  cases h2
  exact q
 ·rw [List.getElem?_set_ne (fun z=>hk z.symm)] at h2
  refine (h.ob k b o' h1 h2).ext (zdf e0 m0 (List.mem_of_getElem? ha) hx).toExt0 (upd_ne fun z=>?_)
  subst z
  exact hk (nodup_ixA h.nd h1 ha)
where
 nodup_ixA {N:List Addr} (hN:N.Nodup) {i j:Nat} {x:Addr} (a:N[i]? = some x) (b:N[j]? = some x):i=j:=by
  obtain ⟨h1,e1⟩:=List.getElem?_eq_some_iff.mp a
  obtain ⟨h2,e2⟩:=List.getElem?_eq_some_iff.mp b
  exact (List.getElem_inj hN).mp (e1.trans e2.symm)
structure RS (K:PySem.W.Frag) (r:List Addr) (H:Hp) (sg:Sg) (s:L2.St):Prop where
 len:sg.length=s.length
 at_:∀ (i:Nat) (p:PV),sg[i]? = some (some p)->∃ v:V,s[i]? = some (some v)/\RV K r H p v
theorem RS.ext {sg:Sg} {s:L2.St} (h:RS K r H sg s) (e:Ext r r' H H'):RS K r' H' sg s :=
 ⟨h.len,fun i p q=>let ⟨v,h1,h2⟩:=h.at_ i p q;⟨v,h1,h2.ext e⟩⟩
theorem RS.set {sg:Sg} {s:L2.St} (h:RS K r H sg s) (i:Nat) {p:PV} {v:V} (q:RV K r H p v):RS K r H (sg.set i (some p)) (s.set i (some v)) :=
 ⟨by simp [h.len],fun j p' e=>by
  by_cases hj:i=j
  ·subst hj
   by_cases hl:i<sg.length
   ·rw [List.getElem?_set_self hl] at e
    cases e
    exact ⟨v,List.getElem?_set_self (by rw [<- h.len];exact hl),q⟩
   ·rw [List.getElem?_eq_none (by simpa using hl)] at e;cases e
  ·rw [List.getElem?_set_ne hj] at e
   rw [List.getElem?_set_ne hj]
   exact h.at_ j p' e⟩
end
def zeh (K:PySem.W.Frag) (r:List Addr) (H:Hp) (z:PV) (M':Mm) (Q:VK):Prop:=∀ r' u H',Ext r r' H H'->RH K r' M' H'->RV K r' H' z u->Q u H'
end Mp
namespace Mp
open PySem PySem.Spec PyProof.Rows L2
structure TabbedC (P:Addr) (H H':Hp):Prop where
 at_:∃ ps,H' P=some (.tbl ps)
 tab:∀ {a:Addr},zjg H a->zjg H' a
 keep:∀ b o,b≠P->H b=some o->H' b=some o
theorem TabbedC.hit {P:Addr} {H:Hp} {ps:Array Value} (h:H P=some (.tbl ps)):TabbedC P H H:=⟨⟨ps,h⟩,fun h=>h,fun _ _ _ h=>h⟩
end Mp
namespace Mp
open PySem L2
inductive Co where
 | eq | ne | lt | le | gt | ge | isin | notin | isN | isNN | eqw | ltw
 deriving DecidableEq
inductive Ty where
 | list | tuple | int | bool | str | dict
 deriving DecidableEq
inductive B where
 | len | int | abs | min2 | max2 | all | any | sum | tuple | list | sorted | ssort | min1 | max1 | dict | str | sortp | sortd | sortk | ssortt | ssortL | ptuple | dictp | sortl | dictl | ssortp
 deriving DecidableEq
inductive Mt where
 | append | pop0 | pop1 | extend | get1 | dpop2 | setd | get2
 deriving DecidableEq
inductive Dw where
 | keys | items | vals
 deriving DecidableEq
inductive Bo where
 | add | sub | mul | fdiv | mod | pow
 deriving DecidableEq
inductive Tg where
 | name (i:Nat) | tup (is:List Nat) | nst (i:Nat) (is:List Nat)
mutual
inductive E where
 | var (i:Nat) | con (v:PV)
 | bop (o:Bo) (a b:E) | neg (a:E)
 | cmp (o:Co) (a b:E) | chn (o1 o2:Co) (a b c:E)
 | and (a b:E) | or (a b:E) | not (a:E) | ite (c a b:E)
 | tup (es:Es) | lst (es:Es) | dnew | dct (ks:List Key) (vs:Es)
 | idx (a i:E) | slc (fl fh:Bool) (a lo hi:E)
 | call (f:Nat) (es:Es)
 | blt (b:B) (es:Es) | mth (m:Mt) (o:E) (es:Es)
 | isi (a:E) (ts:List Ty)
 | fld (c f:Str) (o:E) | mc (c m:Str) (f:Nat) (o:E) (es:Es) | mcs (c m:Str) (f:Nat) (o:E) (es:Es)
 | knot (tb:List (Str × List (Nat × Str))) (a:E) | kidx (tb:List (Str × List (Nat × Str))) (a:E) | callv (i:Nat) (fs:List (Nat × Str)) (es:Es) | rev (a:E)
 | lc (own:List Nat) (t:Tg) (it:It) (c e:E)
 | ssc (own:List Nat) (t:Tg) (it:It) (c e:E)
 | lc2 (own own1:List Nat) (t:Tg) (it:It) (c:E) (t1:Tg) (it1:It) (c1 e:E) | callp (f:Nat) (es:Es) (p:List Nat) | mcp (c m:Str) (f:Nat) (o:E) (es:Es) (p:List Nat)
 | lcd (k:Dw) (own:List Nat) (t:Tg) (d c e:E) | dcd (k:Dw) (own:List Nat) (t:Tg) (d c ke e:E) | isc (c:Str) (a:E) | oeq (c:Str) (f:Nat) (a b:E) | dzip (a b:E) | ten (a:E) | oeqn (c:Str) (f:Nat) (a b:E) | fmt (a:E) | fst (es:Es) | rpr (c:Str) (f:Nat) (o:E)
 | sii (o:E) | ssct (own:List Nat) (t:Tg) (it:It) (c e:E)
 | nxk (ir ip:Nat) (a b:E) | sld (c f:Str) (i:Nat) (o:E) | sit (o:E) | lmc (c:Str) (f:Nat) (o:E) | calld (f:Nat) (es:Es) (ds:List PV)
 | ptup (es:Es) | nxg (own:List Nat) (t:Tg) (it:It) (c e:E) | callpd (f:Nat) (es:Es) (p:List Nat) (ds:List PV)
inductive Es where
 | nil | cons (e:E) (r:Es)
inductive It where
 | seq (e:E) | rng1 (a:E) | rng2 (a b:E) | rng3 (a b c:E) | enum (e:E) | zip (a b:E) | own (c:Str) (i:Nat) (e:E)
end
mutual
inductive S where
 | asg (t:Tg) (e:E) | sto (o i v:E) | exp (e:E) | ret (e:E)
 | iff (c:E) (a b:Ss) | for_ (t:Tg) (it:It) (b:Ss) | whl (c:E) (b:Ss)
 | pass | brk | cnt | stuck | ford (k:Dw) (t:Tg) (d:E) (b:Ss)
 | fset (c f:Str) (o v:E) | faug (c f:Str) (o v:E) | sto2 (o1 i1 o2 i2 v:E) | sset (c f:Str) (i:Nat) (o v:E) | asgl (is:List Nat) (e:E) | sset2 (c f1:Str) (i1:Nat) (o1:E) (f2:Str) (i2:Nat) (o2 v:E)
inductive Ss where
 | nil | cons (s:S) (r:Ss)
end
abbrev R:=Option (PV × Mm)
def zdC:Nat:=1000000
def enP:Nat->List PV->List PV
 | _,[]=>[]
 | i,x::xs=>.tup [.int i,x]::enP (i+1) xs
def zad:PV->Option Key
 | .int i=>some (.inl i)
 | .str s=>some (.inr s)
 | _=>none
def getD (kvs:List (Key × PV)) (k:Key):Option PV:=(kvs.find? fun kv=>decide (kv.1=k)).map (·.2)
def zaH (kvs:List (Key × PV)) (k:Key) (v:PV):List (Key × PV) :=
 if (kvs.any fun kv=>decide (kv.1=k))=true then kvs.map (fun kv=>if kv.1=k then (kv.1,v) else kv) else kvs++[(k,v)]
def zl (M:Mm) (n:Nat):Option (List PV) :=
 match M[n]? with
 | some (.lst xs)=>some xs
 | _=>none
def zbu (M:Mm) (n:Nat):Option (List (Key × PV)) :=
 match M[n]? with
 | some (.dic xs)=>some xs
 | _=>none
def toD:Nat->Mm->PV->Option PyData
 | 0,_,_=>none
 | n+1,M,.tup xs=>(xs.mapM (toD n M)).map .tuple
 | n+1,M,.ref k =>
  match M[k]? with
  | some (.lst xs)=>(xs.mapM (toD n M)).map .list
  | _=>none
 | _+1,_,.non=>some .none
 | _+1,_,.bl b=>some (.bool b)
 | _+1,_,.int i=>some (.int i)
 | _+1,_,.str s=>some (.str s)
 | _+1,_,.cl ns=>some (.list (ns.map .int))
 | _+1,_,.fn _ _=>none
 | n+1,M,.ptup xs=>(xs.mapM (toD n M)).map .tuple
def eqS:PV->PV->Option Bool
 | .non,.non=>some true | .non,.int _=>some false | .int _,.non=>some false | .non,.bl _=>some false | .bl _,.non=>some false
 | .non,.str _=>some false | .str _,.non=>some false
 | .int i,.int j=>some (decide (i=j)) | .bl i,.bl j=>some (decide (i=j)) | .str i,.str j=>some (decide (i=j))
 | .int _,.str _=>some false | .str _,.int _=>some false | .bl _,.str _=>some false | .str _,.bl _=>some false
 | _,_=>none
def eqP (M:Mm) (x y:PV):Option Bool :=
 match eqS x y with
 | some b=>some b
 | none =>
  match toD 20 M x,toD 20 M y with
  | some d,some e=>if SeqAt.shaped d && SeqAt.shaped e then some (PyData.eqv d e) else none
  | _,_=>none
def zaS:PV->Bool
 | .non=>true | .bl _=>true | .int _=>true | .str _=>true | _=>false
def eqF:PV->PV->Bool
 | .non,.non=>true
 | .bl i,.bl j=>i == j | .int i,.int j=>i == j | .str i,.str j=>i == j
 | .bl a,.int j=>(if a then 1 else 0) == j | .int i,.bl b=>i == (if b then 1 else 0)
 | _,_=>false
def inP (x:PV) (xs:List PV):Option Bool:=if zaS x && xs.all zaS then some (xs.any fun y=>eqF y x) else none
def sgn:PV->Option Nat
 | .str s=>match s.cps.toList with | [c]=>some c | _=>none
 | _=>none
def inD (M:Mm) (x:PV) (n:Nat):Option Bool :=
 match toD 20 M x,toD 20 M (.ref n) with
 | some d,some (.list ds)=>if SeqAt.shaped d && SeqAt.shaped (.list ds) && decide (PyData.depth d<=60) then some (ds.any fun z=>PyData.eqv z d) else none
 | _,_=>none
def inDT (M:Mm) (x:PV) (xs:List PV):Option Bool :=
 match toD 20 M x,toD 20 M (.tup xs) with
 | some d,some (.tuple ds)=>if SeqAt.shaped d && SeqAt.shaped (.tuple ds) && decide (PyData.depth d<=60) then some (ds.any fun z=>PyData.eqv z d) else none
 | _,_=>none
def zcx (M:Mm) (x:PV):PV->Option Bool
 | .tup xs=>(match inP x xs with | some b=>some b | none=>inDT M x xs)
 | .str z=>(sgn x).map fun c=>decide (c∈z.cps.toList)
 | .ref n =>
  match M[n]? with
  | some (.lst xs)=>(match inP x xs with | some b=>some b | none=>inD M x n)
  | some (.dic kvs)=>(zad x).map fun k=>(getD kvs k).isSome
  | some (.frz kvs)=>(zad x).map fun k=>(getD kvs k).isSome
  | _=>none
 | _=>none
def allW (f:PV->PV->Option Bool):List PV->List PV->Option Bool
 | [],[]=>some true
 | x::xs,y::ys=>match f x y,allW f xs ys with | some a,some b=>some (a && b) | _,_=>none
 | _,_=>none
def allD (f:PV->PV->Option Bool) (ls:List (Key × PV)):List (Key × PV)->Option Bool
 | []=>some true
 | (k,v)::r=>match getD ls k with | some u=>(match f v u,allD f ls r with | some a,some b=>some (a && b) | _,_=>none) | none=>some false
def eqW:Nat->Mm->PV->PV->Option Bool
 | 0,_,_,_=>none
 | k+1,M,x,y =>
  if zaS x && zaS y then some (eqF x y) else
  match x,y with
  | .tup xs,.tup ys=>if xs.length=ys.length then allW (eqW k M) xs ys else (allW (eqW k M) (xs.take ys.length) (ys.take xs.length)).map fun _=>false
  | .ref n,.ref m =>
   if n=m then some true else
   match M[n]?,M[m]? with
   | some (.lst xs),some (.lst ys)=>if xs.length=ys.length then allW (eqW k M) xs ys else some false
   | some (.dic ks),some (.dic ls)=>if ks.length=ls.length then allD (eqW k M) ls ks else some false
   | _,_=>none
  | _,_=>none
def ltW (M:Mm) (xs ys:List PV):Option Bool :=
 match toD 20 M (.tup xs),toD 20 M (.tup ys) with
 | some d,some e=>if PySem.W.alike d e=true/\PyData.depth d<=20 then some (PySem.W.dataLt d e) else none
 | _,_=>none
def zK (M:Mm):Co->PV->PV->Option Bool
 | .eq,x,y=>eqP M x y
 | .ne,x,y=>(eqP M x y).map (!·)
 | .lt,.int i,.int j=>some (decide (i<j))
 | .le,.int i,.int j=>some (decide (i<=j))
 | .gt,.int i,.int j=>some (decide (j<i))
 | .ge,.int i,.int j=>some (decide (j<=i))
 | .isin,x,y=>zcx M x y
 | .notin,x,y=>(zcx M x y).map (!·)
 | .isN,x,.non=>some (match x with | .non=>true | _=>false)
 | .isNN,x,.non=>some (match x with | .non=>false | _=>true)
 | .isN,.bl a,.bl b=>some (a == b)
 | .isNN,.bl a,.bl b=>some (!(a == b))
 | .eqw,.tup xs,.tup ys=>allW (eqW 12 M) xs ys
 | .ltw,.tup xs,.tup ys=>ltW M xs ys
 | _,_,_=>none
def zcY (i j:Int):Bool:=(decide (-(2 ^ 64)<i) && decide (i<2 ^ 64)) || (decide (-(2 ^ 64)<j) && decide (j<2 ^ 64))
def zat (M:Mm):Bo->PV->PV->R
 | .add,.int i,.int j=>some (.int (i+j),M)
 | .add,.str a,.str b=>if a.length+b.length<=sizeLine then some (.str (a++b),M) else none
 | .add,.tup xs,.tup ys=>if xs.length+ys.length<=sizeLine then some (.tup (xs++ys),M) else none
 | .add,.ptup xs,.ptup ys=>if xs.length+ys.length<=sizeLine then some (.ptup (xs++ys),M) else none
 | .add,.ref a,.ref b =>
  match zl M a,zl M b with
  | some xs,some ys=>if xs.length+ys.length<=sizeLine then some (.ref M.length,M++[.lst (xs++ys)]) else none
  | _,_=>none
 | .sub,.int i,.int j=>some (.int (i-j),M)
 | .mul,.int i,.int j=>if zcY i j then some (.int (i*j),M) else none
 | .mul,.ref a,.int j =>
  match zl M a with
  | some xs=>if -(2 ^ 63)<=j/\j<2 ^ 63/\xs.length*j.toNat<=sizeLine then some (.ref M.length,M++[.lst (List.replicate j.toNat xs).flatten]) else none
  | _=>none
 | .mul,.tup xs,.int j=>if 0<=j/\j<=1000/\xs.length<=1000 then some (.tup (List.replicate j.toNat xs).flatten,M) else none
 | .fdiv,.int i,.int j=>if 0<j/\j<1073741824 then some (.int (i / j),M) else none
 | .mod,.int i,.int j=>if 0<j then some (.int (i % j),M) else none
 | .pow,.int i,.int j=>if 0<=j/\j<=1000000/\i.natAbs<2 ^ 64 then some (.int (i ^ j.toNat),M) else none
 | _,_,_=>none
def zas (M:Mm):PV->PV->Option PV
 | .tup xs,.int i=>atI xs i
 | .cl ns,.int i=>(atI ns i).map .int
 | .str z,.int i=>if z.length<=sizeLine then (atI z.cps.toList i).map fun c=>.str ⟨#[c]⟩ else none
 | .ref n,y =>
  match M[n]?,y with
  | some (.lst xs),.int i=>atI xs i
  | some (.dic kvs),y=>(zad y).bind (getD kvs)
  | some (.frz kvs),y=>(zad y).bind (getD kvs)
  | _,_=>none
 | _,_=>none
def zgV:Bool->PV->Option (Option Int)
 | false,.non=>some none
 | true,.int i=>some (some i)
 | _,_=>none
def zid (xs:List PV) (lo hi:Option Int):List PV:=(xs.drop (HT.sIx xs.length 0 lo)).take (HT.sIx xs.length xs.length hi-HT.sIx xs.length 0 lo)
def zhD (fl fh:Bool) (M:Mm) (x lo hi:PV):R :=
 match zgV fl lo,zgV fh hi with
 | some a,some b =>
  match x with
  | .tup xs=>some (.tup (zid xs a b),M)
  | .ptup xs=>some (.tup (zid xs a b),M)
  | .ref n =>
   match zl M n with
   | some xs=>some (.ref M.length,M++[.lst (zid xs a b)])
   | none=>none
  | _=>none
 | _,_=>none
def zkb (M:Mm):PV->Option Ty
 | .bl _=>some .bool
 | .int _=>some .int
 | .str _=>some .str
 | .tup _=>some .tuple
 | .cl _=>some .list
 | .ref n =>
  match M[n]? with
  | some (.lst _)=>some .list
  | some (.dic _)=>some .dict
  | some (.ins _ _)=>none
  | some (.slt _ _)=>none
  | some (.frz _)=>none
  | none=>none
 | .non=>none
 | .fn _ _=>none
 | .ptup _=>some .tuple
@[simp] def insP (M:Mm):PV->Bool
 | .ref n =>
  match M[n]? with
  | some (.ins _ _)=>true
  | some (.slt _ _)=>true
  | some (.frz _)=>true
  | _=>false
 | .fn _ _=>true
 | _=>false
def zcA (M:Mm) (c:Str) (n:Nat):Option (List (Str × PV)) :=
 match M[n]? with
 | some (.ins d fs)=>if d=c then some fs else none
 | _=>none
def zgN (M:Mm) (c:Str) (n:Nat):Option (List (Option PV)) :=
 match M[n]? with
 | some (.slt d vs)=>if d=c then some vs else none
 | some (.ins d [])=>if d=c then some [] else none
 | _=>none
def lstNon (M:Mm):PV->Bool
 | .non=>true
 | .ref n=>(zl M n).isSome
 | _=>false
def joinS:Str->List PV->Option Str
 | acc,[]=>some acc
 | acc,.str y::r=>if (acc++y).length<=sizeLine then joinS (acc++y) r else none
 | _,_=>none
def putP (i:Nat) (v:PV) (vs:List (Option PV)):List (Option PV):=(vs++List.replicate (i+1-vs.length) none).set i (some v)
def minI:List Int->Option Int
 | []=>none
 | i::r=>some (r.foldl (fun a b=>if b<a then b else a) i)
def maxI:List Int->Option Int
 | []=>none
 | i::r=>some (r.foldl (fun a b=>if a<b then b else a) i)
def keyN (xs:List PV) (k:Nat):Option Str :=
 match xs[k]? with
 | some (.tup (_::.str z::_))=>some z
 | _=>none
def nxkP (xs:List PV) (z:Str) (i n:Nat):PV :=
 match (List.range n).find? (fun t=>keyN xs (i+t) == some z) with
 | some t=>.int (i+t:Nat)
 | none=>.non
def insS (e:Str × PV):List (Str × PV)->List (Str × PV)
 | []=>[e]
 | f::r=>if e.1.cps.toList<f.1.cps.toList then e::f::r else f::insS e r
def zeC (l:List (Str × PV)):List (Str × PV):=l.foldr insS []
def zft:List (Key × PV)->Option (List (Str × PV))
 | []=>some []
 | (.inr k,.int i)::r=>(zft r).map ((k,.int i) :: ·)
 | _=>none
def kvsI:List (Key × PV)->Option (List (Int × PV))
 | []=>some []
 | (.inl k,v)::r=>(kvsI r).map ((k,v) :: ·)
 | _=>none
def insK (e:Int × PV):List (Int × PV)->List (Int × PV)
 | []=>[e]
 | f::r=>if e.1<=f.1 then e::f::r else f::insK e r
def sortK (l:List (Int × PV)):List (Int × PV):=l.foldr insK []
def prsS:List PV->Option (List (Str × PV))
 | []=>some []
 | .tup [.str k,.int i]::r=>(prsS r).map ((k,.int i) :: ·)
 | _=>none
def putA (f:Str) (v:PV):List (Str × PV)->List (Str × PV)
 | []=>[(f,v)]
 | (g,x)::r=>if g=f then (g,v)::r else (g,x)::putA f v r
def zgw (M:Mm) (x:PV) (t:Ty):Bool :=
 match zkb M x with
 | some u=>u == t || (u == .bool && t == .int)
 | none=>false
def zaV:List PV->Option (List Int)
 | []=>some []
 | .int i::r=>(zaV r).map (i :: ·)
 | _=>none
def ze7:List PV->Option (List Bool)
 | []=>some []
 | .bl i::r=>(ze7 r).map (i :: ·)
 | _=>none
def zjG (i:Int):List Int->List Int
 | []=>[i]
 | j::r=>if i<=j then i::j::r else j::zjG i r
def zau (ns:List Int):List Int:=ns.foldr zjG []
def insU (i:Int):List Int->List Int
 | []=>[i]
 | j::r=>if i<j then i::j::r else if i=j then j::r else j::insU i r
def usortI (ns:List Int):List Int:=ns.foldr insU []
def insT (k:Str):List Str->List Str
 | []=>[k]
 | f::r=>if k.cps.toList<f.cps.toList then k::f::r else if k=f then f::r else f::insT k r
def usortT (ks:List Str):List Str:=ks.foldr insT []
def zga (k:Str × Int):List (Str × Int)->List (Str × Int)
 | []=>[k]
 | f::r=>if k.1.cps.toList<f.1.cps.toList\/(k.1=f.1/\k.2<f.2) then k::f::r else if k=f then f::r else f::zga k r
def zaU (ks:List (Str × Int)):List (Str × Int):=ks.foldr zga []
def tiOf:PV->Option (Str × Int)
 | .tup [.str x,.int i]=>some (x,i)
 | .ptup [.str x,.int i]=>some (x,i)
 | _=>none
def tiPV (p:Str × Int):PV:=.tup [.str p.1,.int p.2]
def tisOf:PV->Option (List (Str × Int))
 | .tup xs=>xs.mapM tiOf
 | .ptup xs=>xs.mapM tiOf
 | _=>none
def strsOf:List PV->Option (List Str)
 | []=>some []
 | .str i::r=>(strsOf r).map (i :: ·)
 | _=>none
def zff (M:Mm):PV->Option (List PV)
 | .tup xs=>some xs
 | .ref n=>zl M n
 | .cl ns=>some (ns.map .int)
 | .ptup xs=>some xs
 | _=>none
def prKV:PV->Option (Key × PV)
 | .tup [k,v]=>(zad k).map fun k=>(k,v)
 | _=>none
def zbH:List (Key × PV)->Option (List Int)
 | []=>some []
 | (.inl i,_)::r=>(zbH r).map (i :: ·)
 | _=>none
def keysT:List (Key × PV)->Option (List Str)
 | []=>some []
 | (.inr k,_)::r=>(keysT r).map (k :: ·)
 | _=>none
def tupB:PyData->Bool
 | .tuple (_::_)=>true
 | _=>false
def strB:PyData->Bool
 | .str _=>true
 | _=>false
def sortOk (ds:List PyData):Bool:=(ds.all fun d=>ds.all fun d'=>PySem.W.alike d d') && (ds.all tupB || ds.all strB) && decide (ds.length<=1000) && ds.all (fun d=>decide (PyData.depth d<=20))
mutual
def flatB:PyData->Bool
 | .none=>true
 | .bool _=>true
 | .int _=>true
 | .str _=>true
 | .tuple xs=>flatBs xs
 | _=>false
def flatBs:List PyData->Bool
 | []=>true
 | d::ds=>flatB d && flatBs ds
end
def lenD:PyData->Nat
 | .tuple xs=>xs.length
 | _=>0
def isTupD:PyData->Bool
 | .tuple _=>true
 | _=>false
def keyD (d:PyData):PyData:=.tuple [.int (lenD d),d]
def sortlOk (ds:List PyData):Bool:=(ds.all fun d=>ds.all fun d'=>PySem.W.alike d d') && (ds.all fun d=>isTupD d && (flatB d && (decide (lenD d<=sizeLine) && decide (PyData.depth d<=20)))) && decide (ds.length<=1000)
def sortlL (xs:List PV) (ds:List PyData):List PV:=((xs.zip ds).mergeSort (PySem.W.dataLe false (fun b=>keyD b.2))).map (·.1)
def zJ (M:Mm):B->List PV->R
 | .len,[x] =>
  match x with
  | .str z=>if z.length<=sizeLine then some (.int z.length,M) else none
  | .ref n =>
   match M[n]? with
   | some (.lst xs)=>some (.int xs.length,M)
   | some (.dic xs)=>some (.int xs.length,M)
   | _=>none
  | .tup xs=>some (.int xs.length,M)
  | .ptup xs=>some (.int xs.length,M)
  | .cl ns=>some (.int ns.length,M)
  | _=>none
 | .int,[.int i]=>some (.int i,M)
 | .int,[.bl b]=>some (.int (if b then 1 else 0),M)
 | .abs,[.int i]=>some (.int (if i<0 then -i else i),M)
 | .min2,[.int i,.int j]=>some (.int (if j<i then j else i),M)
 | .max2,[.int i,.int j]=>some (.int (if i<j then j else i),M)
 | .all,[.ref n]=>((zl M n).bind ze7).map fun bs=>(.bl (bs.all id),M)
 | .any,[.ref n]=>((zl M n).bind ze7).map fun bs=>(.bl (bs.any id),M)
 | .sum,[.ref n]=>((zl M n).bind zaV).map fun ns=>(.int ns.sum,M)
 | .sortp,[.ref n]=>((zl M n).bind prsS).bind fun l=>if l.length<64/\(l.map (·.1)).Nodup then some (.ref M.length,M++[.lst ((zeC l).map fun e=>.tup [.str e.1,e.2])]) else none
 | .sortl,[.ref n]=>(zl M n).bind fun xs=>(xs.mapM (toD 20 M)).bind fun ds=>if sortlOk ds then some (.ref M.length,M++[.lst (sortlL xs ds)]) else none
 | .sortd,[.ref n]=>(zl M n).bind fun xs=>(xs.mapM (toD 20 M)).bind fun ds=>if sortOk ds then some (.ref M.length,M++[.lst (((xs.zip ds).mergeSort (PySem.W.dataLe false (fun b=>b.2))).map (·.1))]) else none
 | .sortk,[.ref n]=>(zbu M n).bind fun kvs=>(keysT kvs).bind fun ks=>if ks.length<64/\ks.Nodup then some (.ref M.length,M++[.lst ((zeC (ks.map fun k=>(k,.non))).map fun e=>.str e.1)]) else none
 | .min1,[.ref n]=>(((zl M n).bind zaV).bind minI).map fun m=>(.int m,M)
 | .max1,[.ref n]=>(((zl M n).bind zaV).bind maxI).map fun m=>(.int m,M)
 | .tuple,[.ref n]=>(zl M n).map fun xs=>(.tup xs,M)
 | .tuple,[.tup xs]=>some (.tup xs,M)
 | .list,[x]=>(zff M x).map fun xs=>(.ref M.length,M++[.lst xs])
 | .sorted,[.ref n] =>
  match M[n]? with
  | some (.lst xs)=>(zaV xs).bind fun ns=>if ns.length<64 then some (.ref M.length,M++[.lst ((zau ns).map .int)]) else none
  | some (.dic kvs)=>(zbH kvs).bind fun ns=>if ns.length<64 then some (.ref M.length,M++[.lst ((zau ns).map .int)]) else none
  | _=>none
 | .ssort,[.ref n]=>((zl M n).bind zaV).bind fun ns=>if ns.length<64 then some (.ref M.length,M++[.lst ((usortI ns).map .int)]) else none
 | .ssortL,[.ref n]=>((zl M n).bind zaV).bind fun ns=>if ns.length<4000/\(usortI ns).length<64 then some (.ref M.length,M++[.lst ((usortI ns).map .int)]) else none
 | .ssortp,[v]=>(tisOf v).bind fun ps=>if ps.length<64 then some (.ref M.length,M++[.lst ((zaU ps).map tiPV)]) else none
 | .ssortt,[.ref n]=>((zl M n).bind strsOf).bind fun ns=>if ns.length<64 then some (.ref M.length,M++[.lst ((usortT ns).map .str)]) else none
 | .str,[.int i]=>if i.natAbs.log2<1920 then some (.str (Str.ofString (toString i)),M) else none
 | .dict,[.ref n]=>(zbu M n).map fun xs=>(.ref M.length,M++[.dic xs])
 | .ptuple,[.ref n]=>(zl M n).map fun xs=>(.ptup xs,M)
 | .dictl,[.ref n]=>(zl M n).bind fun xs=>(xs.mapM prKV).map fun ps=>(.ref M.length,M++[.dic (ps.foldl (fun acc kv=>zaH acc kv.1 kv.2) [])])
 | .dictp,[.ptup xs]=>(xs.mapM prKV).map fun ps=>(.ref M.length,M++[.dic (ps.foldl (fun acc kv=>zaH acc kv.1 kv.2) [])])
 | _,_=>none
def zcm (kvs:List (Key × PV)) (k:Key):List (Key × PV):=kvs.filter fun kv=>decide (kv.1≠k)
def zef (M:Mm):Mt->PV->List PV->R
 | .append,.ref n,[y]=>(zl M n).bind fun xs=>if xs.length<sizeLine then some (.non,M.set n (.lst (xs++[y]))) else none
 | .extend,.ref n,[.ref b]=>(zl M n).bind fun xs=>(zl M b).bind fun zs=>if xs.length+zs.length<=sizeLine then some (.non,M.set n (.lst (xs++zs))) else none
 | .pop1,.ref n,[.int i]=>(zl M n).bind fun xs=>(ixN xs.length i).bind fun j=>(xs[j]?).map fun y=>(y,M.set n (.lst (xs.eraseIdx j)))
 | .dpop2,.ref n,[k,d]=>(zbu M n).bind fun kvs=>(zad k).map fun k =>
  match getD kvs k with
  | some v=>(v,M.set n (.dic (zcm kvs k)))
  | none=>(d,M)
 | .setd,.ref n,[k,d]=>(zbu M n).bind fun kvs=>(zad k).bind fun k =>
  if kvs.length<sizeLine then
   match getD kvs k with
   | some v=>some (v,M)
   | none=>some (d,M.set n (.dic (zaH kvs k d)))
  else none
 | .get1,.ref n,[k]=>(zbu M n).bind fun kvs=>(zad k).map fun k=>((getD kvs k).getD .non,M)
 | .get2,.ref n,[k,d]=>(zbu M n).bind fun kvs=>(zad k).map fun k=>((getD kvs k).getD d,M)
 | _,_,_=>none
def zds (M:Mm):Mt->PV->Bool
 | .append,.ref n=>(zl M n).isSome
 | .pop0,.ref n=>(zl M n).isSome
 | .pop1,.ref n=>(zl M n).isSome
 | .extend,.ref n=>(zl M n).isSome
 | .get1,.ref n=>(zbu M n).isSome
 | .get2,.ref n=>(zbu M n).isSome
 | .dpop2,.ref n=>(zbu M n).isSome
 | .setd,.ref n=>(zbu M n).isSome
 | _,_=>false
def zjm (M:Mm) (o i v:PV):Option Mm :=
 match o with
 | .ref n =>
  match M[n]?,i with
  | some (.lst xs),.int k=>(ixN xs.length k).map fun j=>M.set n (.lst (xs.set j v))
  | some (.dic kvs),i=>(zad i).bind fun k=>if kvs.length<sizeLine then some (M.set n (.dic (zaH kvs k v))) else none
  | _,_=>none
 | _=>none
def zx:List Nat->List PV->Sg->Option Sg
 | [],[],sg=>some sg
 | i::is,x::xs,sg=>zx is xs (sg.set i (some x))
 | _,_,_=>none
def tgP:Tg->Mm->PV->Sg->Option Sg
 | .name i,_,x,sg=>some (sg.set i (some x))
 | .tup is,_,.tup xs,sg=>zx is xs sg
 | .tup is,M,.ref n,sg=>(zl M n).bind fun xs=>zx is xs sg
 | .nst i is,_,.tup [x,.tup xs],sg=>zx is xs (sg.set i (some x))
 | .nst i is,M,.tup [x,.ref n],sg=>(zl M n).bind fun xs=>zx is xs (sg.set i (some x))
 | _,_,_,_=>none
def z6 (sg:Sg):List Nat->Sg
 | []=>sg
 | v::vs=>(z6 sg vs).set v none
inductive Src where
 | tup (xs:List PV) | lst (n:Nat) | cl (ns:List Int) | str (z:Str) | rng (lo:Int) (n:Nat) | rngc (lo c:Int) (n:Nat)
 | en (s:Src) | zip (s t:Src)
def Src.get (M:Mm):Src->Nat->Option (Option PV)
 | .tup xs,i=>some xs[i]?
 | .lst n,i=>(zl M n).map fun xs=>xs[i]?
 | .cl ns,i=>some ((ns[i]?).map .int)
 | .str z,i=>some ((z.cps[i]?).map fun c=>.str ⟨#[c]⟩)
 | .rng lo n,i=>some (if i<n then some (.int (lo+i)) else none)
 | .rngc lo c n,i=>some (if i<n then some (.int (lo+i*c)) else none)
 | .en s,i=>(s.get M i).map fun o=>o.map fun x=>.tup [.int i,x]
 | .zip s t,i =>
  match s.get M i,t.get M i with
  | some (some x),some (some y)=>some (some (.tup [x,y]))
  | some none,some _=>some none
  | some (some _),some none=>some none
  | _,_=>none
def zam (M:Mm):PV->Option Src
 | .tup xs=>some (.tup xs)
 | .ptup xs=>some (.tup xs)
 | .ref n=>(zl M n).map fun _=>.lst n
 | .cl ns=>some (.cl ns)
 | .str z=>some (.str z)
 | _=>none
def Src.isL:Src->Bool
 | .lst _=>true | .cl _=>true | _=>false
def Src.isT:Src->Bool
 | .tup _=>true | _=>false
def zbQ (i:Int):Bool:=decide (-(2 ^ 62)<=i) && decide (i<2 ^ 62)
inductive Fl where
 | nx (sg:Sg) | brk (sg:Sg) | ct (sg:Sg) | ret (v:PV)
def zgy (s:Src) (bind:Mm->PV->Sg->Option Sg) (body:Sg->Mm->Option (Fl × Mm)):Nat->Nat->Sg->Mm->Option (Fl × Mm)
 | 0,_,_,_=>none
 | m+1,i,sg,M =>
  match s.get M i with
  | none=>none
  | some none=>some (.nx sg,M)
  | some (some x) =>
   match bind M x sg with
   | none=>none
   | some sg1 =>
    match body sg1 M with
    | none=>none
    | some (.nx sg2,M2)=>zgy s bind body m (i+1) sg2 M2
    | some (.ct sg2,M2)=>zgy s bind body m (i+1) sg2 M2
    | some (.brk sg2,M2)=>some (.nx sg2,M2)
    | some (.ret v,M2)=>some (.ret v,M2)
def whlL (c:Sg->Mm->R) (body:Sg->Mm->Option (Fl × Mm)):Nat->Sg->Mm->Option (Fl × Mm)
 | 0,_,_=>none
 | m+1,sg,M =>
  match c sg M with
  | some (.bl true,M1) =>
   match body sg M1 with
   | none=>none
   | some (.nx sg2,M2)=>whlL c body m sg2 M2
   | some (.ct sg2,M2)=>whlL c body m sg2 M2
   | some (.brk sg2,M2)=>some (.nx sg2,M2)
   | some (.ret v,M2)=>some (.ret v,M2)
  | some (.bl false,M1)=>some (.nx sg,M1)
  | _=>none
def lcL (s:Src) (bind:Mm->PV->Sg->Option Sg) (c e:Sg->Mm->R) (d:Nat) (sg:Sg):Nat->Nat->Mm->Option Mm
 | 0,_,_=>none
 | m+1,i,M =>
  match s.get M i with
  | none=>none
  | some none=>some M
  | some (some x) =>
   match bind M x sg with
   | none=>none
   | some sg1 =>
    match c sg1 M with
    | some (.bl true,M1) =>
     match e sg1 M1 with
     | none=>none
     | some (y,M2) =>
      match zl M2 d with
      | none=>none
      | some acc=>if acc.length<sizeLine then lcL s bind c e d sg m (i+1) (M2.set d (.lst (acc++[y]))) else none
    | some (.bl false,M1)=>lcL s bind c e d sg m (i+1) M1
    | _=>none
def nxL (s:Src) (bind:Mm->PV->Sg->Option Sg) (c e:Sg->Mm->R) (sg:Sg):Nat->Nat->Mm->R
 | 0,_,_=>none
 | m+1,i,M =>
  match s.get M i with
  | none=>none
  | some none=>some (.non,M)
  | some (some x) =>
   match bind M x sg with
   | none=>none
   | some sg1 =>
    match c sg1 M with
    | some (.bl true,M1)=>e sg1 M1
    | some (.bl false,M1)=>nxL s bind c e sg m (i+1) M1
    | _=>none
def lc2L (s:Src) (bind:Mm->PV->Sg->Option Sg) (c:Sg->Mm->R) (inner:Sg->Mm->Option Mm) (sg:Sg):Nat->Nat->Mm->Option Mm
 | 0,_,_=>none
 | m+1,i,M =>
  match s.get M i with
  | none=>none
  | some none=>some M
  | some (some x) =>
   match bind M x sg with
   | none=>none
   | some sg1 =>
    match c sg1 M with
    | some (.bl true,M1) =>
     match inner sg1 M1 with
     | none=>none
     | some M2=>lc2L s bind c inner sg m (i+1) M2
    | some (.bl false,M1)=>lc2L s bind c inner sg m (i+1) M1
    | _=>none
def dcL (s:Src) (bind:Mm->PV->Sg->Option Sg) (c ke e:Sg->Mm->R) (d:Nat) (sg:Sg):Nat->Nat->Mm->Option Mm
 | 0,_,_=>none
 | m+1,i,M =>
  match s.get M i with
  | none=>none
  | some none=>some M
  | some (some x) =>
   match bind M x sg with
   | none=>none
   | some sg1 =>
    match c sg1 M with
    | some (.bl true,M1) =>
     match ke sg1 M1 with
     | none=>none
     | some (y,M2) =>
      match e sg1 M2 with
      | none=>none
      | some (z,M3) =>
       match zbu M3 d,zad y with
       | some acc,some q=>if acc.length<sizeLine then dcL s bind c ke e d sg m (i+1) (M3.set d (.dic (zaH acc q z))) else none
       | _,_=>none
    | some (.bl false,M1)=>dcL s bind c ke e d sg m (i+1) M1
    | _=>none
def zgS (xs:List PV) (p:List Nat):Option (List PV):=p.mapM fun i=>xs[i]?
def scL (s:Src) (bind:Mm->PV->Sg->Option Sg) (c e:Sg->Mm->R) (sg:Sg):Nat->Nat->List Int->Mm->Option (List Int × Mm)
 | 0,_,_,_=>none
 | m+1,i,acc,M =>
  match s.get M i with
  | none=>none
  | some none=>some (acc,M)
  | some (some x) =>
   match bind M x sg with
   | none=>none
   | some sg1 =>
    match c sg1 M with
    | some (.bl true,M1) =>
     match e sg1 M1 with
     | some (.int y,M2)=>if acc.length<60 then scL s bind c e sg m (i+1) (acc++[y]) M2 else none
     | _=>none
    | some (.bl false,M1)=>scL s bind c e sg m (i+1) acc M1
    | _=>none
def stL (s:Src) (bind:Mm->PV->Sg->Option Sg) (c e:Sg->Mm->R) (sg:Sg):Nat->Nat->List Str->Mm->Option (List Str × Mm)
 | 0,_,_,_=>none
 | m+1,i,acc,M =>
  match s.get M i with
  | none=>none
  | some none=>some (acc,M)
  | some (some x) =>
   match bind M x sg with
   | none=>none
   | some sg1 =>
    match c sg1 M with
    | some (.bl true,M1) =>
     match e sg1 M1 with
     | some (.str y,M2)=>if acc.length<60 then stL s bind c e sg m (i+1) (acc++[y]) M2 else none
     | _=>none
    | some (.bl false,M1)=>stL s bind c e sg m (i+1) acc M1
    | _=>none
def keyP:Key->PV
 | .inl i=>.int i
 | .inr s=>.str s
def dwL:Dw->List (Key × PV)->List PV
 | .keys,kvs=>kvs.map fun e=>keyP e.1
 | .vals,kvs=>kvs.map fun e=>e.2
 | .items,kvs=>kvs.map fun e=>.tup [keyP e.1,e.2]
abbrev CF:=Nat->List PV->Mm->R
mutual
def evE (cf:CF):E->Sg->Mm->R
 | .var i,sg,M=>match sg[i]? with | some (some v)=>some (v,M) | _=>none
 | .con v,_,M=>some (v,M)
 | .bop o a b,sg,M =>
  match evE cf a sg M with
  | some (x,M1)=>match evE cf b sg M1 with | some (y,M2)=>zat M2 o x y | none=>none
  | none=>none
 | .neg a,sg,M=>match evE cf a sg M with | some (.int i,M1)=>some (.int (-i),M1) | _=>none
 | .cmp o a b,sg,M =>
  match evE cf a sg M with
  | some (x,M1)=>match evE cf b sg M1 with | some (y,M2)=>(zK M2 o x y).map fun k=>(.bl k,M2) | none=>none
  | none=>none
 | .chn o1 o2 a b c,sg,M =>
  match evE cf a sg M with
  | some (x,M1) =>
   match evE cf b sg M1 with
   | some (y,M2) =>
    match zK M2 o1 x y with
    | some true=>match evE cf c sg M2 with | some (z,M3)=>(zK M3 o2 y z).map fun k=>(.bl k,M3) | none=>none
    | some false=>some (.bl false,M2)
    | none=>none
   | none=>none
  | none=>none
 | .and a b,sg,M=>match evE cf a sg M with | some (.bl true,M1)=>evE cf b sg M1 | some (.bl false,M1)=>some (.bl false,M1) | _=>none
 | .or a b,sg,M=>match evE cf a sg M with | some (.bl true,M1)=>some (.bl true,M1) | some (.bl false,M1)=>evE cf b sg M1 | _=>none
 | .not a,sg,M=>match evE cf a sg M with | some (.bl k,M1)=>some (.bl (!k),M1) | _=>none
 | .ite c a b,sg,M=>match evE cf c sg M with | some (.bl true,M1)=>evE cf a sg M1 | some (.bl false,M1)=>evE cf b sg M1 | _=>none
 | .tup es,sg,M=>match zv cf es sg M with | some (xs,M1)=>if xs.length<=sizeLine then some (.tup xs,M1) else none | none=>none
 | .ptup es,sg,M=>match zv cf es sg M with | some (xs,M1)=>if xs.length<=sizeLine then some (.ptup xs,M1) else none | none=>none
 | .lst es,sg,M=>match zv cf es sg M with | some (xs,M1)=>if xs.length<=sizeLine then some (.ref M1.length,M1++[.lst xs]) else none | none=>none
 | .dnew,_,M=>some (.ref M.length,M++[.dic []])
 | .dct ks vs,sg,M =>
  match zv cf vs sg (M++[.dic []]) with
  | some (xs,M1) =>
   if xs.length=ks.length/\ks.length<=15 then
    match zbu M1 M.length with
    | some []=>some (.ref M.length,M1.set M.length (.dic ((ks.zip xs).foldl (fun acc kv=>zaH acc kv.1 kv.2) [])))
    | _=>none
   else none
  | none=>none
 | .idx a i,sg,M =>
  match evE cf a sg M with
  | some (x,M1)=>match evE cf i sg M1 with | some (y,M2)=>(zas M2 x y).map fun v=>(v,M2) | none=>none
  | none=>none
 | .slc fl fh a lo hi,sg,M =>
  match evE cf a sg M with
  | some (x,M1) =>
   match evE cf lo sg M1 with
   | some (y,M2)=>match evE cf hi sg M2 with | some (z,M3)=>zhD fl fh M3 x y z | none=>none
   | none=>none
  | none=>none
 | .call f es,sg,M=>match zv cf es sg M with | some (xs,M1)=>cf f xs M1 | none=>none
 | .calld f es ds,sg,M=>match zv cf es sg M with | some (xs,M1)=>cf f (xs++ds) M1 | none=>none
 | .blt b es,sg,M=>match zv cf es sg M with | some (xs,M1)=>zJ M1 b xs | none=>none
 | .mth m o es,sg,M =>
  match evE cf o sg M with
  | some (x,M1)=>if zds M1 m x then (match zv cf es sg M1 with | some (xs,M2)=>zef M2 m x xs | none=>none) else none
  | none=>none
 | .isi a ts,sg,M=>match evE cf a sg M with | some (x,M1)=>if insP M1 x then none else some (.bl (ts.any (zgw M1 x)),M1) | none=>none
 | .nxk ir ip a b,sg,M =>
  match evE cf a sg M with
  | some (.int i,M1) =>
   match evE cf b sg M1 with
   | some (.int j,M2) =>
    match sg[ir]?,sg[ip]? with
    | some (some (.ref n)),some (some (.int p)) =>
     match zl M2 n with
     | some xs =>
      match keyN xs p.toNat with
      | some z=>if 0<=p/\p<2 ^ 62/\0<=i/\i<2 ^ 62/\0<=j/\j<2 ^ 62/\(∀ t∈List.range (j-i).toNat,(keyN xs (i.toNat+t)).isSome=true) then some (nxkP xs z i.toNat (j-i).toNat,M2) else none
      | none=>none
     | none=>none
    | _,_=>none
   | _=>none
  | _=>none
 | .sld c _ i o,sg,M =>
  match evE cf o sg M with
  | some (.ref n,M1)=>(zgN M1 c n).bind fun vs=>match vs[i]? with | some (some v)=>some (v,M1) | _=>none
  | _=>none
 | .sit o,sg,M =>
  match evE cf o sg M with
  | some (.ref n,M1)=>((zbu M1 n).bind zft).bind fun l=>if l.length<64 then some (.ref M1.length,M1++[.lst ((zeC l).map fun e=>.tup [.str e.1,e.2])]) else none
  | _=>none
 | .sii o,sg,M =>
  match evE cf o sg M with
  | some (.ref n,M1)=>((zbu M1 n).bind kvsI).bind fun l=>if l.length<64 then some (.ref M1.length,M1++[.lst ((sortK l).map fun e=>.tup [.int e.1,e.2])]) else none
  | _=>none
 | .ssct own t it c e,sg,M =>
  match evI cf it sg M with
  | some (s,M1)=>(stL s (tgP t) (fun sg M=>evE cf c sg M) (fun sg M=>evE cf e sg M) (z6 sg own) zdC 0 [] M1).map fun q=>(.ref q.2.length,q.2++[.lst ((usortT q.1).map .str)])
  | none=>none
 | .lmc c f o,sg,M =>
  match evE cf o sg M with
  | some (.ref n,M1) =>
   match zcA M1 c n with
   | some _=>match cf f [.ref n] M1 with | some (.int k,M2)=>if 0<=k/\k<2 ^ 62 then some (.int k,M2) else none | _=>none
   | none=>none
  | _=>none
 | .fld c f o,sg,M =>
  match evE cf o sg M with
  | some (.ref n,M1)=>(zcA M1 c n).bind fun fs=>(fs.lookup f).map fun v=>(v,M1)
  | _=>none
 | .knot tb a,sg,M=>match evE cf a sg M with | some (.str z,M1)=>some (.bl (!(tb.any fun q=>decide (q.1=z))),M1) | _=>none
 | .kidx tb a,sg,M =>
  match evE cf a sg M with
  | some (.str z,M1)=>(tb.find? fun q=>decide (q.1=z)).map fun q=>(.tup (q.2.map fun p=>.fn p.1 p.2),M1)
  | _=>none
 | .callv i fs es,sg,M =>
  match sg[i]? with
  | some (some (.fn n x))=>if (n,x)∈fs then (match zv cf es sg M with | some (xs,M1)=>cf n xs M1 | none=>none) else none
  | _=>none
 | .rev a,sg,M=>match evE cf a sg M with | some (.tup xs,M1)=>some (.tup xs.reverse,M1) | some (.ptup xs,M1)=>some (.ptup xs.reverse,M1) | _=>none
 | .mc c m f o es,sg,M =>
  match evE cf o sg M with
  | some (.ref n,M1) =>
   match zcA M1 c n with
   | some fs=>if (fs.lookup m).isNone then (match zv cf es sg M1 with | some (xs,M2)=>cf f (.ref n::xs) M2 | none=>none) else none
   | none=>none
  | _=>none
 | .mcs c m f o es,sg,M =>
  match evE cf o sg M with
  | some (.ref n,M1) =>
   match zgN M1 c n with
   | some _=>match zv cf es sg M1 with | some (xs,M2)=>cf f (.ref n::xs) M2 | none=>none
   | none=>none
  | _=>none
 | .lc own t it c e,sg,M =>
  match evI cf it sg M with
  | some (s,M1)=>(lcL s (tgP t) (fun sg M=>evE cf c sg M) (fun sg M=>evE cf e sg M) M1.length (z6 sg own) zdC 0 (M1++[.lst []])).map fun M2=>(.ref M1.length,M2)
  | none=>none
 | .nxg own t it c e,sg,M =>
  match evI cf it sg M with
  | some (s,M1)=>nxL s (tgP t) (fun sg M=>evE cf c sg M) (fun sg M=>evE cf e sg M) (z6 sg own) zdC 0 M1
  | none=>none
 | .lc2 own own1 t it c t1 it1 c1 e,sg,M =>
  match evI cf it sg M with
  | some (s,M1)=>(lc2L s (tgP t) (fun sg M=>evE cf c sg M) (fun sg2 M2 =>
    match evI cf it1 sg2 M2 with
    | some (s1,M3)=>lcL s1 (tgP t1) (fun sg M=>evE cf c1 sg M) (fun sg M=>evE cf e sg M) M1.length (z6 sg2 own1) zdC 0 M3
    | none=>none) (z6 sg own) zdC 0 (M1++[.lst []])).map fun M2=>(.ref M1.length,M2)
  | none=>none
 | .mcp c m f o es p,sg,M =>
  match evE cf o sg M with
  | some (.ref n,M1) =>
   match zcA M1 c n with
   | some fs=>if (fs.lookup m).isNone then (match zv cf es sg M1 with | some (xs,M2)=>(zgS xs p).bind fun ys=>cf f (.ref n::ys) M2 | none=>none) else none
   | none=>none
  | _=>none
 | .lcd k own t d c e,sg,M =>
  match evE cf d sg M with
  | some (.ref n,_) =>
   match zbu M n with
   | some kvs =>
    match evE cf d sg (M.set n (.frz kvs)) with
    | some (.ref m,M1) =>
     if m=n then
      (lcL (.tup (dwL k kvs)) (tgP t) (fun sg M=>evE cf c sg M) (fun sg M=>evE cf e sg M) M1.length (z6 sg own) zdC 0 (M1++[.lst []])).map fun M2=>(.ref M1.length,M2.set n (.dic kvs))
     else none
    | _=>none
   | none=>none
  | _=>none
 | .dcd k own t d c ke e,sg,M =>
  match evE cf d sg M with
  | some (.ref n,_) =>
   match zbu M n with
   | some kvs =>
    match evE cf d sg (M.set n (.frz kvs)) with
    | some (.ref m,M1) =>
     if m=n then
      (dcL (.tup (dwL k kvs)) (tgP t) (fun sg M=>evE cf c sg M) (fun sg M=>evE cf ke sg M) (fun sg M=>evE cf e sg M) M1.length (z6 sg own) zdC 0 (M1++[.dic []])).map fun M2=>(.ref M1.length,M2.set n (.dic kvs))
     else none
    | _=>none
   | none=>none
  | _=>none
 | .ten a,sg,M =>
  match evE cf a sg M with
  | some (.tup xs,M1)=>some (.tup (enP 0 xs),M1)
  | some (.ref n,M1)=>(zl M1 n).map fun xs=>(.tup (enP 0 xs),M1)
  | _=>none
 | .dzip a b,sg,M =>
  match evE cf a sg M with
  | some (.ref n,M1) =>
   match evE cf b sg M1 with
   | some (.ref m,M2) =>
    match zl M2 n,zl M2 m with
    | some xs,some ys =>
     match xs.mapM zad with
     | some ks=>some (.ref M2.length,M2++[.dic ((ks.zip ys).foldl (fun acc kv=>zaH acc kv.1 kv.2) [])])
     | none=>none
    | _,_=>none
   | _=>none
  | _=>none
 | .isc c a,sg,M =>
  match evE cf a sg M with
  | some (.ref n,M1)=>match zcA M1 c n with | some _=>some (.bl true,M1) | none=>(zl M1 n).map fun _=>(.bl false,M1)
  | some (.non,M1)=>some (.bl false,M1)
  | _=>none
 | .oeq c f a b,sg,M =>
  match evE cf a sg M with
  | some (.ref n,M1) =>
   match evE cf b sg M1 with
   | some (.ref m,M2) =>
    match zcA M2 c n,zcA M2 c m with
    | some _,some _=>match cf f [.ref n,.ref m] M2 with | some (.bl q,M3)=>some (.bl q,M3) | _=>none
    | _,_=>none
   | _=>none
  | _=>none
 | .oeqn c f a b,sg,M =>
  match evE cf a sg M with
  | some (.ref n,M1) =>
   match evE cf b sg M1 with
   | some (y,M2) =>
    match zcA M2 c n with
    | some _=>if lstNon M2 y then (match cf f [.ref n,y] M2 with | some (.bl q,M3)=>some (.bl q,M3) | _=>none) else none
    | none=>none
   | none=>none
  | _=>none
 | .fmt a,sg,M =>
  match evE cf a sg M with
  | some (.str y,M1)=>if y.length<=sizeLine then some (.str y,M1) else none
  | some (.int i,M1)=>if i.natAbs.log2<1920 then some (.str (Str.ofString (toString i)),M1) else none
  | _=>none
 | .fst es,sg,M=>match zv cf es sg M with | some (xs,M1)=>(joinS Str.empty xs).map fun y=>(.str y,M1) | none=>none
 | .rpr c f o,sg,M =>
  match evE cf o sg M with
  | some (.ref n,M1) =>
   match zcA M1 c n with
   | some _=>match cf f [.ref n] M1 with | some (.str y,M2)=>some (.str y,M2) | _=>none
   | none=>none
  | _=>none
 | .callp f es p,sg,M=>match zv cf es sg M with | some (xs,M1)=>(zgS xs p).bind fun ys=>cf f ys M1 | none=>none
 | .callpd f es p ds,sg,M=>match zv cf es sg M with | some (xs,M1)=>(zgS xs p).bind fun ys=>cf f (ys++ds) M1 | none=>none
 | .ssc own t it c e,sg,M =>
  match evI cf it sg M with
  | some (s,M1)=>(scL s (tgP t) (fun sg M=>evE cf c sg M) (fun sg M=>evE cf e sg M) (z6 sg own) zdC 0 [] M1).map fun q=>(.ref q.2.length,q.2++[.lst ((usortI q.1).map .int)])
  | none=>none
def zv (cf:CF):Es->Sg->Mm->Option (List PV × Mm)
 | .nil,_,M=>some ([],M)
 | .cons e r,sg,M =>
  match evE cf e sg M with
  | some (x,M1)=>match zv cf r sg M1 with | some (xs,M2)=>some (x::xs,M2) | none=>none
  | none=>none
def evI (cf:CF):It->Sg->Mm->Option (Src × Mm)
 | .seq e,sg,M=>match evE cf e sg M with | some (x,M1)=>(zam M1 x).map fun s=>(s,M1) | none=>none
 | .own c i e,sg,M =>
  match evE cf e sg M with
  | some (.ref n,M1) =>
   match zgN M1 c n with
   | some vs=>match vs[i]? with | some (some (.ref m))=>(zl M1 m).map fun _=>(.lst m,M1) | _=>none
   | none=>none
  | _=>none
 | .rng1 a,sg,M=>match evE cf a sg M with | some (.int j,M1)=>if zbQ j then some (.rng 0 j.toNat,M1) else none | _=>none
 | .rng2 a b,sg,M =>
  match evE cf a sg M with
  | some (.int i,M1)=>match evE cf b sg M1 with | some (.int j,M2)=>if zbQ i && zbQ j then some (.rng i (j-i).toNat,M2) else none | _=>none
  | _=>none
 | .rng3 a b c,sg,M =>
  match evE cf a sg M with
  | some (.int i,M1) =>
   match evE cf b sg M1 with
   | some (.int j,M2) =>
    match evE cf c sg M2 with
    | some (.int k,M3)=>if zbQ i && zbQ j && decide (k = -1) then some (.rngc i (-1) (i-j).toNat,M3) else none
    | _=>none
   | _=>none
  | _=>none
 | .enum e,sg,M =>
  match evE cf e sg M with
  | some (x,M1)=>match zam M1 x with | some s=>if s.isL || s.isT then some (.en s,M1) else none | none=>none
  | none=>none
 | .zip a b,sg,M =>
  match evE cf a sg M with
  | some (x,M1) =>
   match evE cf b sg M1 with
   | some (y,M2) =>
    match zam M2 x,zam M2 y with
    | some s,some t=>if (s.isL && t.isL) || (s.isT && t.isT) || (s.isT && t.isL) then some (.zip s t,M2) else none
    | _,_=>none
   | none=>none
  | none=>none
end
mutual
def evS (cf:CF):S->Sg->Mm->Option (Fl × Mm)
 | .asg t e,sg,M=>match evE cf e sg M with | some (x,M1)=>(tgP t M1 x sg).map fun sg1=>(.nx sg1,M1) | none=>none
 | .sto o i v,sg,M =>
  match evE cf v sg M with
  | some (x,M1) =>
   match evE cf o sg M1 with
   | some (y,M2)=>match evE cf i sg M2 with | some (z,M3)=>(zjm M3 y z x).map fun M4=>(.nx sg,M4) | none=>none
   | none=>none
  | none=>none
 | .exp e,sg,M=>match evE cf e sg M with | some (_,M1)=>some (.nx sg,M1) | none=>none
 | .ret e,sg,M=>match evE cf e sg M with | some (x,M1)=>some (.ret x,M1) | none=>none
 | .iff c a b,sg,M=>match evE cf c sg M with | some (.bl true,M1)=>zM cf a sg M1 | some (.bl false,M1)=>zM cf b sg M1 | _=>none
 | .for_ t it b,sg,M=>match evI cf it sg M with | some (s,M1)=>zgy s (tgP t) (fun sg M=>zM cf b sg M) zdC 0 sg M1 | none=>none
 | .ford k t d b,sg,M =>
  match evE cf d sg M with
  | some (.ref n,_) =>
   match zbu M n with
   | some kvs =>
    match evE cf d sg (M.set n (.frz kvs)) with
    | some (.ref m,M1)=>if m=n then (zgy (.tup (dwL k kvs)) (tgP t) (fun sg M=>zM cf b sg M) zdC 0 sg M1).map fun q=>(q.1,q.2.set n (.dic kvs)) else none
    | _=>none
   | none=>none
  | _=>none
 | .whl c b,sg,M=>whlL (fun sg M=>evE cf c sg M) (fun sg M=>zM cf b sg M) zdC sg M
 | .pass,sg,M=>some (.nx sg,M)
 | .brk,sg,M=>some (.brk sg,M)
 | .cnt,sg,M=>some (.ct sg,M)
 | .stuck,_,_=>none
 | .fset c f o v,sg,M =>
  match evE cf v sg M with
  | some (x,M1) =>
   match evE cf o sg M1 with
   | some (.ref n,M2) =>
    match zcA M2 c n with
    | some fs=>if fs.length<1000 then some (.nx sg,M2.set n (.ins c (putA f x fs))) else none
    | none=>none
   | _=>none
  | none=>none
 | .asgl is e,sg,M =>
  match evE cf e sg M with
  | some (.ref n,M1)=>(zl M1 n).bind fun xs=>(zx is xs sg).map fun sg1=>(.nx sg1,M1)
  | _=>none
 | .sset c _ i o v,sg,M =>
  match evE cf v sg M with
  | some (x,M1) =>
   match evE cf o sg M1 with
   | some (.ref n,M2) =>
    match zgN M2 c n with
    | some vs=>some (.nx sg,M2.set n (.slt c (putP i x vs)))
    | none=>none
   | _=>none
  | none=>none
 | .sset2 c _ i1 o1 _ i2 o2 v,sg,M =>
  match evE cf v sg M with
  | some (.tup [x,y],M1) =>
   match evE cf o1 sg M1 with
   | some (.ref n,M2) =>
    match zgN M2 c n with
    | some vs =>
     match evE cf o2 sg (M2.set n (.slt c (putP i1 x vs))) with
     | some (.ref m,M3) =>
      match zgN M3 c m with
      | some us=>some (.nx sg,M3.set m (.slt c (putP i2 y us)))
      | none=>none
     | _=>none
    | none=>none
   | _=>none
  | _=>none
 | .sto2 o1 i1 o2 i2 v,sg,M =>
  match evE cf v sg M with
  | some (.tup [x,y],M1) =>
   match evE cf o1 sg M1 with
   | some (p,M2) =>
    match evE cf i1 sg M2 with
    | some (q,M3) =>
     match zjm M3 p q x with
     | some M4 =>
      match evE cf o2 sg M4 with
      | some (p2,M5) =>
       match evE cf i2 sg M5 with
       | some (q2,M6)=>(zjm M6 p2 q2 y).map fun M7=>(.nx sg,M7)
       | none=>none
      | none=>none
     | none=>none
    | none=>none
   | none=>none
  | _=>none
 | .faug c f o v,sg,M =>
  match evE cf o sg M with
  | some (.ref n,M1) =>
   match zcA M1 c n with
   | some fs =>
    match fs.lookup f with
    | some (.int i) =>
     match evE cf v sg M1 with
     | some (.int j,M2) =>
      match zcA M2 c n with
      | some gs=>if gs.length<1000 then some (.nx sg,M2.set n (.ins c (putA f (.int (i+j)) gs))) else none
      | none=>none
     | _=>none
    | _=>none
   | none=>none
  | _=>none
def zM (cf:CF):Ss->Sg->Mm->Option (Fl × Mm)
 | .nil,sg,M=>some (.nx sg,M)
 | .cons s r,sg,M =>
  match evS cf s sg M with
  | some (.nx sg1,M1)=>zM cf r sg1 M1
  | o=>o
end
structure Df where
 np:Nat
 ns:Nat
 body:Ss
def zL (cf:CF) (d:Df) (xs:List PV) (M:Mm):R :=
 if xs.length=d.np then
  match zM cf d.body (xs.map some++List.replicate (d.ns-d.np) none) M with
  | some (.ret v,M1)=>some (v,M1)
  | some (.nx _,M1)=>some (.non,M1)
  | _=>none
 else none
abbrev Err:=Str × List (Str × PV)
abbrev XF:=Nat->List PV->Mm->Option (Err × Mm)
inductive Xp where
 | rais (c f:Str) (e:E)
 | call (n:Nat) (es:Es)
 | calld (n:Nat) (es:Es) (ds:List PV)
 | ifT (c:E) (p:Xp)
 | ifF (c:E) (p:Xp)
 | nx (s:S) (p:Xp)
def xpE (cf:CF) (xf:XF):Xp->Sg->Mm->Option (Err × Sg × Mm)
 | .rais c f e,sg,M=>match evE cf e sg M with | some (v,M1)=>some ((c,[(f,v)]),sg,M1) | none=>none
 | .call n es,sg,M=>match zv cf es sg M with | some (vs,M1)=>(xf n vs M1).map fun q=>(q.1,sg,q.2) | none=>none
 | .calld n es ds,sg,M=>match zv cf es sg M with | some (vs,M1)=>(xf n (vs++ds) M1).map fun q=>(q.1,sg,q.2) | none=>none
 | .ifT c p,sg,M=>match evE cf c sg M with | some (.bl true,M1)=>xpE cf xf p sg M1 | _=>none
 | .ifF c p,sg,M=>match evE cf c sg M with | some (.bl false,M1)=>xpE cf xf p sg M1 | _=>none
 | .nx s p,sg,M=>match evS cf s sg M with | some (.nx sg1,M1)=>xpE cf xf p sg1 M1 | _=>none
def runX (cf:CF) (xf:XF) (d:Df) (ps:List Xp) (xs:List PV) (M:Mm):Option (Err × Mm) :=
 if xs.length=d.np then ps.findSome? fun p=>(xpE cf xf p (xs.map some++List.replicate (d.ns-d.np) none) M).map fun q=>(q.1,q.2.2) else none
def refE (xf:XF) (m:Nat) (xs:List PV) (M:Mm):R :=
 match xf m xs M with
 | some ((c,[(fl,v)]),M1)=>if c=("NotJoined" : Str)/\fl=("reader" : Str) then some (v,M1) else none
 | _=>none
def refQ (s:Str) (r:R):R:=r.map fun q=>(.tup [.str s,q.1],q.2)
def refX (cf:CF) (xf:XF) (np ns ci:Nat) (ps:List Xp) (xs:List PV) (M:Mm):R :=
 if xs.length=np then
  match ps.findSome? fun p=>xpE cf xf p ((xs.map some++List.replicate (ns-np) none).set ci (some .non)) M with
  | some ((c,[(fl,v)]),_,M1)=>if c=("NotJoined" : Str)/\fl=("reader" : Str) then some (v,M1) else none
  | _=>none
 else none
def refC (c0 f0:Str) (cf:CF) (xf:XF) (np ns:Nat) (cs:List Nat) (ps:List Xp) (xs:List PV) (M:Mm):R :=
 if xs.length=np then
  match ps.findSome? fun p=>xpE cf xf p (cs.foldl (fun s i=>s.set i (some .non)) (xs.map some++List.replicate (ns-np) none)) M with
  | some ((c,[(fl,v)]),_,M1)=>if c=c0/\fl=f0 then some (v,M1) else none
  | _=>none
 else none
inductive Dx where
 | fn (d:Df) | mk (c:Str) (i:Nat) | cat (d:Df) (ps:List Xp) | catq (d:Df) (ps:List Xp) (s:Str) | catx (np ns ci:Nat) (ps:List Xp) (xf:CF->XF) | catc (c0 f0:Str) (np ns:Nat) (cs:List Nat) (ps:List Xp) (xf:CF->XF)
def mkD (cf:CF) (c:Str) (i:Nat) (xs:List PV) (M:Mm):R :=
 match cf i (.ref M.length::xs) (M++[.ins c []]) with
 | some (.non,M1)=>some (.ref M.length,M1)
 | _=>none
def cfN (tab:Nat->Option Dx):Nat->CF
 | 0=>fun _ _ _=>none
 | k+1=>fun f xs M =>
  match tab f with
  | some (.fn d)=>zL (cfN tab k) d xs M
  | some (.mk c i)=>mkD (cfN tab k) c i xs M
  | some (.cat d ps)=>refE (fun _=>runX (cfN tab k) (fun _ _ _=>none) d ps) 0 xs M
  | some (.catq d ps s)=>refQ s (refE (fun _=>runX (cfN tab k) (fun _ _ _=>none) d ps) 0 xs M)
  | some (.catx np ns ci ps xf)=>refX (cfN tab k) (xf (cfN tab k)) np ns ci ps xs M
  | some (.catc c0 f0 np ns cs ps xf)=>refC c0 f0 (cfN tab k) (xf (cfN tab k)) np ns cs ps xs M
  | none=>none
end Mp
namespace L2
open PySem PySem.Spec PyProof.Rows
theorem zjj (l:Addr) (items:Array Value) (n:Nat) (dd:Option Addr) (sl:Array (Option Value)) (x:Int) (u:Tok) (c0:(decide (x < -(2 ^ 63)) || decide (x≥2 ^ 63))=false) (c1:(items.isEmpty || x == 1)=true) :
  Meets (Builtin.«tuple.__mul__» ⟨[.ref l,.int x u],[]⟩) (fun _ R s=>s.heap.get? l=some { cls:=.type "tuple",dict:=dd,data:=.seq items n,slots:=sl }/\R (.ok (.ret (Value.ref l))) s) :=
 .of_wp fun prog w A R s h=>by
  obtain ⟨hp,g,d,tk,os⟩:=s
  obtain ⟨hl,h⟩:=h
  have f1:=AutoSeq1.idx_int
  wp_walk using wpAny_loadPart' hl
  repeat (first
   | (refine wpAny_ite_false (decide_eq_false (by rw [c0];exact Bool.false_ne_true)) ?_;wp_walk using wpAny_loadPart' hl)
   | (refine wpAny_ite_true (decide_eq_true c1) ?_;wp_walk using wpAny_loadPart' hl))
  exact ⟨_,rfl,h⟩
theorem zjk (l:Addr) (items:Array Value) (n:Nat) (dd:Option Addr) (sl:Array (Option Value)) (x:Int) (u:Tok) (c0:(decide (x < -(2 ^ 63)) || decide (x≥2 ^ 63))=false) (c1:(items.isEmpty || x == 1)=false) (c2:(decide (x<=0) || items.isEmpty)=true) :
  Meets (Builtin.«tuple.__mul__» ⟨[.ref l,.int x u],[]⟩) (fun _ R s=>s.heap.get? l=some { cls:=.type "tuple",dict:=dd,data:=.seq items n,slots:=sl } /\
   R (.ok (.ret (Value.ref s.heap.objs.size))) { s with heap:=s.heap.push { cls:=Value.type "tuple",data:=Data.seq #[] },toks:=s.toks }) :=
 .of_wp fun prog w A R s h=>by
  obtain ⟨hp,g,d,tk,os⟩:=s
  obtain ⟨hl,h⟩:=h
  have f1:=AutoSeq1.idx_int
  wp_walk using wpAny_loadPart' hl
  repeat (first
   | (refine wpAny_ite_false (decide_eq_false (by rw [c0];exact Bool.false_ne_true)) ?_;wp_walk using wpAny_loadPart' hl)
   | (refine wpAny_ite_false (decide_eq_false (by rw [c1];exact Bool.false_ne_true)) ?_;wp_walk using wpAny_loadPart' hl)
   | (refine wpAny_ite_true (decide_eq_true c2) ?_;wp_walk using wpAny_loadPart' hl))
  exact ⟨_,rfl,h⟩
def rRepT01 (K:PySem.W.Frag):R2:=fun x y H Q=>∃ l k xs,x=.ref l/\y=.int k/\SqT K H l xs/\0<=k/\k<=1000/\(((k=1\/xs=[])/\Q (.ref l) H)\/(xs≠[]/\k=0/\∀ p,H p=none->Q (.ref p) (upd H p (.tup []))))
section
variable {X:Cx}
theorem zeL:OpR X (binaryOp .Mult) (rRepT01 X.K):=by
 intro pins s σ H x y v u Q I rx ry h
 obtain ⟨l,k,xs,rfl,rfl,hT,k0,k9,q⟩:=h
 cases rx
 obtain ⟨t,rfl⟩:=ry
 obtain ⟨its,r,⟨⟨cls,dd,data,sl⟩,ho,hc,n,hd⟩,hs⟩:=I.tuple hT
 simp only at hc hd
 subst hc hd
 have hle:its.length=xs.length:=r.length.symm
 have hb:(decide (k < -(2 ^ 63)) || decide (k≥2 ^ 63))=false:=by simp;omega
 rcases q with ⟨hk,q⟩ | ⟨hne,rfl,q⟩
 ·have c1:(its.toArray.isEmpty || k == 1)=true:=by
   rcases hk with rfl | rfl
   ·simp
   ·have:its=[]:=List.eq_nil_of_length_eq_zero (by rw [hle];rfl)
    subst this;rfl
  refine wpAny_binaryOp_repeat_ref (T := "tuple") (U := "int") (by decide) ⟨_,ho,rfl⟩ (fun s'=>typeIs_int s' k t) noFill_tuple_mul F.fills_int_mul F.slot_int_rmul repeat_tuple F.slot_int_index.lookup
   (call_meets F.slot_int_rmul (typeIs_int s k t) F.entry_int_rmul (F.args_int_rmul_2 _ _) (int_rmul_tuple k t l its.toArray n dd sl)
    ⟨ho,rfl,⟨_,ho,rfl⟩,call_meets F.slot_tuple_mul ⟨_,ho,rfl⟩ F.entry_tuple_mul (F.args_tuple_mul_2 _ _) (zjj l its.toArray n dd sl k t hb c1) ⟨ho,?_⟩⟩)
  exact ⟨.ref l,H,I,rfl,q⟩
 ·have hn:its≠[]:=fun e=>hne (by
   rw [e] at hle
   exact List.eq_nil_of_length_eq_zero hle.symm)
  have hi:its.toArray.isEmpty=false:=by
   cases its with
   | nil=>exact absurd rfl hn
   | cons a b=>rfl
  refine wpAny_binaryOp_repeat_ref (T := "tuple") (U := "int") (by decide) ⟨_,ho,rfl⟩ (fun s'=>typeIs_int s' 0 t) noFill_tuple_mul F.fills_int_mul F.slot_int_rmul repeat_tuple F.slot_int_index.lookup
   (call_meets F.slot_int_rmul (typeIs_int s 0 t) F.entry_int_rmul (F.args_int_rmul_2 _ _) (int_rmul_tuple 0 t l its.toArray n dd sl)
    ⟨ho,rfl,⟨_,ho,rfl⟩,call_meets F.slot_tuple_mul ⟨_,ho,rfl⟩ F.entry_tuple_mul (F.args_tuple_mul_2 _ _) (zjk l its.toArray n dd sl 0 t (by decide) (by rw [hi];rfl) (by rw [hi];rfl)) ⟨ho,?_⟩⟩)
  refine ⟨.ref s.heap.objs.size,_,I.laid (t':=s.toks) (o:=.tup []) (fun b ob q=>Heap.get?_push_of_some _ q) (Nat.le_refl _) ?_,rfl,q _ (I.hok.fresh (Nat.le_refl _))⟩
  exact ⟨by rw [sizeLine_eq];exact Nat.zero_le _,[],.nil,IsTup.new _ _⟩
end
end L2
namespace Mp
open PySem L2
def TEv (K:PySem.W.Frag) (f:Sg->Mm->R):TE:=fun s H Q=>∃ r sg M z M',RS K r H sg s/\RH K r M H/\f sg M=some (z,M')/\zeh K r H z M' Q
def TTv (K:PySem.W.Frag) (f:Sg->Mm->R):TT:=fun s H Q=>∃ r sg M b M',RS K r H sg s/\RH K r M H/\f sg M=some (.bl b,M')/\∀ r' H',Ext r r' H H'->RH K r' M' H'->Q b H'
def TAv (K:PySem.W.Frag) (f:Sg->Mm->Option (List PV × Mm)):TA:=fun s H Q=>∃ r sg M xs M',RS K r H sg s/\RH K r M H/\f sg M=some (xs,M')/\∀ r' vs H',Ext r r' H H'->RH K r' M' H'->RVs K r' H' xs vs->Q vs H'
def XE (X:Cx) (cf:CF) (e:Expr) (i:E):Prop:=PE X e (TEv X.K (evE cf i))
def XT (X:Cx) (cf:CF) (e:Expr) (i:E):Prop:=PT X e (TTv X.K (evE cf i))
def XW (X:Cx) (cf:CF) (e:Expr) (i:E):Prop:=PW X e (TTv X.K (evE cf i))
def XA (X:Cx) (cf:CF) (es:List Expr) (i:Es):Prop:=PA X es (TAv X.K (zv cf i))
theorem zak {X:Cx} {e:Expr} {t t':TE} (h:PE X e t) (k:∀ s H Q,t' s H Q->t s H Q):PE X e t':=⟨fun pins s σ H Q I q=>h.run pins s σ H Q I (k _ _ _ q)⟩
theorem zgQ {X:Cx} {e:Expr} {t t':TT} (h:PT X e t) (k:∀ s H Q,t' s H Q->t s H Q):PT X e t':=⟨fun pins s σ H Q I q=>h.run pins s σ H Q I (k _ _ _ q)⟩
theorem pw_imp {X:Cx} {e:Expr} {t t':TT} (h:PW X e t) (k:∀ s H Q,t' s H Q->t s H Q):PW X e t':=⟨fun wh pins s σ H Q I q=>h.run wh pins s σ H Q I (k _ _ _ q)⟩
theorem pa_imp {X:Cx} {e:List Expr} {t t':TA} (h:PA X e t) (k:∀ s H Q,t' s H Q->t s H Q):PA X e t':=⟨fun p pins s σ H Q I q=>h.run p pins s σ H Q I (k _ _ _ q)⟩
section
variable {K:PySem.W.Frag} {r:List Addr} {H:Hp} {M:Mm} {Q:VK} {z:PV} {u:V} {p a:Addr} {xs:List PV} {vs:List V}
theorem zeh.here (q:zeh K r H z M Q) (h:RH K r M H) (v:RV K r H z u):Q u H:=q r u H .refl h v
theorem zeh.tup (q:zeh K r H (.tup xs) M Q) (h:RH K r M H) (v:RVs K r H xs vs) (hp:H p=none):Q (.ref p) (upd H p (.tup vs)) :=
 q r _ _ (zaF hp) (h.other _ hp) (.tup (.inl (.inl upd_same)) (v.ext (zaF hp)))
theorem zeh.lst (q:zeh K r H (.ref M.length) (M++[.lst xs]) Q) (h:RH K r M H) (v:RVs K r H xs vs) (hp:H p=none):Q (.ref p) (upd H p (.lst vs)) :=
 q (r++[p]) _ _ (zbM hp [p]) (h.new hp ⟨vs,upd_same,v.ext (zbM hp [p])⟩) (.ref (by rw [<- h.len];simp))
theorem zeh.set {n:Nat} (q:zeh K r H z (M.set n (.lst xs)) Q) (h:RH K r M H) {ws:List V} (e0:H a=some (.lst ws)) (ha:r[n]? = some a) (v:RVs K r H xs vs) (hz:RV K r H z u):Q u (upd H a (.lst vs)):=by
 have e:=zdf (r:=r) (o:=.lst vs) e0 trivial (List.mem_of_getElem? ha)
 exact q r _ _ e (h.set e0 trivial ha ⟨vs,upd_same,v.ext e⟩) (hz.ext e)
theorem zbd {n:Nat} (h:RH K r M H) (e:zl M n=some xs):∃ a vs,r[n]? = some a/\H a=some (.lst vs)/\RVs K r H xs vs:=by
 unfold zl at e
 split at e
 ·rename_i ys e1
  cases e
  obtain ⟨a,h1,vs,h2,h3⟩:=h.at e1
  exact ⟨a,vs,h1,h2,h3⟩
 ·cases e
theorem RV.refAt {n:Nat} (v:RV K r H (.ref n) u) (ha:r[n]? = some a):u=.ref a:=by
 cases v with
 | ref h=>rw [ha] at h;cases h;rfl
end
section
variable {X:Cx} {cf:CF} {e a b c:Expr} {es:List Expr} {i ia ib ic:E} {pos:Pos}
theorem zb (j:Nat) {x:Str} (hN:X.N[j]? = some x:=by rfl) (hv:Vis X.env.scope x:=by first | exact Or.inl rfl | exact Or.inr (Or.inl rfl) | exact Or.inr (Or.inr rfl)) (hd:(x == ("__debug__" : Str))=false:=by decide)
  (hcd:(x == ("__classdict__" : Str))=false:=by decide):XE X cf (.Name x pos) (.var j):=by
 refine zak (pe_var hN hv hd hcd) fun s H Q h=>?_
 obtain ⟨r,sg,M,z,M',hs,hh,e,q⟩:=h
 simp only [evE] at e
 split at e
 ·rename_i v ev
  cases e
  obtain ⟨v,h1,h2⟩:=hs.at_ j z ev
  exact ⟨v,h1,q.here hh h2⟩
 ·cases e
theorem zgD {v:PV} {w:V} (h:PE X e (tC w)) (hv:∀ r H,RV X.K r H v w):XE X cf e (.con v):=by
 refine zak h fun s H Q h=>?_
 obtain ⟨r,sg,M,z,M',hs,hh,e,q⟩:=h
 simp only [evE] at e
 cases e
 exact q.here hh (hv r H)
theorem zf {n:Int} {j:Nat}:XE X cf (.Constant (.int n) j pos) (.con (.int n)):=zgD pe_int fun _ _=>.int n
theorem zcs {n:Bool} {j:Nat}:XE X cf (.Constant (.bool n) j pos) (.con (.bl n)):=zgD pe_bl fun _ _=>.bl n
theorem zj {n:Str} {j:Nat}:XE X cf (.Constant (.str n) j pos) (.con (.str n)):=zgD pe_str fun _ _=>.str n
theorem zdn {j:Nat}:XE X cf (.Constant .none j pos) (.con .non):=zgD pe_non fun _ _=>.non
theorem xe_gstr {x:Str} {n:Str} {t:Tok} (hg:Gl X x) (hm:X.mg x=some (.str n t)) (hd:(x == ("__debug__" : Str))=false:=by decide):XE X cf (.Name x pos) (.con (.str n)) :=
 zgD (pe_glob (v:=.str n) hg hm ⟨_,rfl⟩ hd) fun _ _=>.str n
theorem zbp {x:Str} {n:Str} (hg:Gl X x) (hm:∃ t,X.mg x=some (.str n t)) (hd:(x == ("__debug__" : Str))=false:=by decide):XE X cf (.Name x pos) (.con (.str n)) :=
 let ⟨_,h⟩:=hm;xe_gstr hg h hd
theorem zaM (h:XE X cf e i) (he:∀ whole,isTrue e X.env whole=(do let v <- whole;standAt e.pos;holding [v] (truthy v)):=by intro _;rfl):XT X cf e i:=by
 refine zgQ (pt_val h he) fun s H Q h=>?_
 obtain ⟨r,sg,M,b,M',hs,hh,e,q⟩:=h
 refine ⟨r,sg,M,_,M',hs,hh,e,fun r' u H' x h' v=>?_⟩
 cases v
 exact ⟨b,rfl,q r' H' x h'⟩
theorem zbm (h:XT X cf a ia):XT X cf (.UnaryOp .Not a pos) (.not ia):=by
 refine zgQ (pt_not h) fun s H Q h=>?_
 obtain ⟨r,sg,M,b,M',hs,hh,e,q⟩:=h
 simp only [evE] at e
 split at e
 ·rename_i k M1 e1
  cases e
  exact ⟨r,sg,M,k,_,hs,hh,e1,q⟩
 ·cases e
theorem zkl (h:XE X cf a ia):XE X cf (.UnaryOp .Not a pos) (.not ia):=by
 refine zak (pe_not h) fun s H Q h=>?_
 obtain ⟨r,sg,M,z,M',hs,hh,e,q⟩:=h
 simp only [evE] at e
 split at e
 ·rename_i k M1 e1
  cases e
  refine ⟨r,sg,M,_,_,hs,hh,e1,fun r' u H' x h' v=>?_⟩
  cases v
  exact ⟨k,rfl,q r' _ H' x h' (.bl _)⟩
 ·cases e
theorem zmg {K:PySem.W.Frag} {sg:Sg} {M M':Mm} {z:PV} (e:evE cf (.and ia ib) sg M=some (z,M')) :
  (∃ M1,evE cf ia sg M=some (.bl true,M1)/\evE cf ib sg M1=some (z,M'))\/(evE cf ia sg M=some (.bl false,M')/\z=.bl false):=by
 simp only [evE] at e
 split at e
 ·rename_i M1 e1;exact .inl ⟨M1,e1,e⟩
 ·rename_i M1 e1;cases e;exact .inr ⟨e1,rfl⟩
 ·cases e
theorem or_inv {sg:Sg} {M M':Mm} {z:PV} (e:evE cf (.or ia ib) sg M=some (z,M')) :
  (∃ M1,evE cf ia sg M=some (.bl false,M1)/\evE cf ib sg M1=some (z,M'))\/(evE cf ia sg M=some (.bl true,M')/\z=.bl true):=by
 simp only [evE] at e
 split at e
 ·rename_i M1 e1;cases e;exact .inr ⟨e1,rfl⟩
 ·rename_i M1 e1;exact .inl ⟨M1,e1,e⟩
 ·cases e
theorem zev {o:BoolOp} (ho:o=.And) (h:XT X cf a ia):XW X cf (.BoolOp o [a] pos) ia:=by subst ho;exact pw_and1 h
theorem zdl {o:BoolOp} (ho:o=.Or) (h:XT X cf a ia):XW X cf (.BoolOp o [a] pos) ia:=by subst ho;exact pw_or1 h
theorem zfn {rest:List Expr} (h:XT X cf a ia) (h2:XW X cf (.BoolOp .And (b::rest) pos) ib):XW X cf (.BoolOp .And (a::b::rest) pos) (.and ia ib):=by
 refine pw_imp (pw_and h h2) fun s H Q h=>?_
 obtain ⟨r,sg,M,z,M',hs,hh,e,q⟩:=h
 rcases zmg (K:=X.K) e with ⟨M1,e1,e2⟩ | ⟨e1,e2⟩
 ·refine ⟨r,sg,M,_,_,hs,hh,e1,fun r' H' x h'=>?_⟩
  refine iteT ?_
  exact ⟨r',sg,M1,z,M',hs.ext x,h',e2,fun r2 H2 x2 h2=>q r2 H2 (x.trans x2) h2⟩
 ·cases e2
  refine ⟨r,sg,M,_,_,hs,hh,e1,fun r' H' x h'=>?_⟩
  refine iteF ?_
  exact q r' H' x h'
theorem zed {rest:List Expr} (h:XT X cf a ia) (h2:XW X cf (.BoolOp .Or (b::rest) pos) ib):XW X cf (.BoolOp .Or (a::b::rest) pos) (.or ia ib):=by
 refine pw_imp (pw_or h h2) fun s H Q h=>?_
 obtain ⟨r,sg,M,z,M',hs,hh,e,q⟩:=h
 rcases or_inv e with ⟨M1,e1,e2⟩ | ⟨e1,e2⟩
 ·refine ⟨r,sg,M,_,_,hs,hh,e1,fun r' H' x h'=>?_⟩
  refine iteF ?_
  exact ⟨r',sg,M1,z,M',hs.ext x,h',e2,fun r2 H2 x2 h2=>q r2 H2 (x.trans x2) h2⟩
 ·cases e2
  refine ⟨r,sg,M,_,_,hs,hh,e1,fun r' H' x h'=>?_⟩
  refine iteT ?_
  exact q r' H' x h'
theorem zin (h:XW X cf a ia):XT X cf a ia:=PW.pt h
theorem zc1 {op:BoolOp} (h:XE X cf a ia):XE X cf (.BoolOp op [a] pos) ia:=pe_one h
theorem zbo {rest:List Expr} (h:XE X cf a ia) (h2:XE X cf (.BoolOp .And (b::rest) pos) ib):XE X cf (.BoolOp .And (a::b::rest) pos) (.and ia ib):=by
 refine zak (pe_and h h2) fun s H Q h=>?_
 obtain ⟨r,sg,M,z,M',hs,hh,e,q⟩:=h
 rcases zmg (K:=X.K) e with ⟨M1,e1,e2⟩ | ⟨e1,e2⟩
 ·refine ⟨r,sg,M,_,_,hs,hh,e1,fun r' u H' x h' v=>?_⟩
  cases v
  refine ⟨true,rfl,?_⟩
  refine iteT ?_
  exact ⟨r',sg,M1,z,M',hs.ext x,h',e2,fun r2 u2 H2 x2 h2 v2=>q r2 u2 H2 (x.trans x2) h2 v2⟩
 ·cases e2
  refine ⟨r,sg,M,_,_,hs,hh,e1,fun r' u H' x h' v=>?_⟩
  cases v
  refine ⟨false,rfl,?_⟩
  refine iteF ?_
  exact q r' _ H' x h' (.bl _)
theorem zgC (hc:XT X cf c ic) (ha:XE X cf a ia) (hb:XE X cf b ib):XE X cf (.IfExp c a b pos) (.ite ic ia ib):=by
 refine zak (pe_ifExp hc ha hb) fun s H Q h=>?_
 obtain ⟨r,sg,M,z,M',hs,hh,e,q⟩:=h
 simp only [evE] at e
 split at e
 ·rename_i M1 e1
  refine ⟨r,sg,M,_,_,hs,hh,e1,fun r' H' x h'=>?_⟩
  refine iteT ?_
  exact ⟨r',sg,M1,z,M',hs.ext x,h',e,fun r2 u2 H2 x2 h2 v2=>q r2 u2 H2 (x.trans x2) h2 v2⟩
 ·rename_i M1 e1
  refine ⟨r,sg,M,_,_,hs,hh,e1,fun r' H' x h'=>?_⟩
  refine iteF ?_
  exact ⟨r',sg,M1,z,M',hs.ext x,h',e,fun r2 u2 H2 x2 h2 v2=>q r2 u2 H2 (x.trans x2) h2 v2⟩
 ·cases e
theorem zd:XA X cf [] .nil:=by
 refine pa_imp pa_nil fun s H Q h=>?_
 obtain ⟨r,sg,M,xs,M',hs,hh,e,q⟩:=h
 simp only [zv] at e
 cases e
 exact q r [] H .refl hh .nil
theorem zcE {i:E} {j:Es} {sg:Sg} {M M':Mm} {ys:List PV} (e:zv cf (.cons i j) sg M=some (ys,M')) :
  ∃ x xs M1,evE cf i sg M=some (x,M1)/\zv cf j sg M1=some (xs,M')/\ys=x::xs:=by
 simp only [zv] at e
 split at e
 ·rename_i x M1 e1
  split at e
  ·rename_i xs M2 e2
   cases e
   exact ⟨x,xs,M1,e1,e2,rfl⟩
  ·cases e
 ·cases e
theorem za {j:Es} (h:XE X cf e i) (h2:XA X cf es j) (hs:starEach (e::es) X.env=(false,eval e X.env)::starEach es X.env:=by rfl):XA X cf (e::es) (.cons i j):=by
 refine pa_imp (pa_cons h h2 hs) fun s H Q h=>?_
 obtain ⟨r,sg,M,ys,M',hs,hh,e,q⟩:=h
 obtain ⟨x,xs,M1,e1,e2,rfl⟩:=zcE e
 exact ⟨r,sg,M,x,M1,hs,hh,e1,fun r1 u1 H1 x1 h1 v1=>⟨r1,sg,M1,xs,M',hs.ext x1,h1,e2,fun r2 us H2 x2 h2 v2=>q r2 (u1::us) H2 (x1.trans x2) h2 (.cons (v1.ext x2) v2)⟩⟩
theorem zq {k:Nat} {j:Es} (h:XA X cf es j):XE X cf (.Tuple es k pos) (.tup j):=by
 refine zak (pe_tup h) fun s H Q h=>?_
 obtain ⟨r,sg,M,z,M',hs,hh,e,q⟩:=h
 simp only [evE] at e
 split at e
 ·rename_i xs M1 e1
  split at e
  ·rename_i hl
   cases e
   refine ⟨r,sg,M,xs,_,hs,hh,e1,fun r1 vs H1 x1 h1 v1=>⟨by rw [<- v1.length];exact hl,fun p hp=>?_⟩⟩
   exact zeh.tup (fun r2 u2 H2 x2 h2 v2=>q r2 u2 H2 (x1.trans x2) h2 v2) h1 v1 hp
  ·cases e
 ·cases e
theorem zah {j:Es} (h:XA X cf es j):XE X cf (.List es pos) (.lst j):=by
 refine zak (pe_lst h) fun s H Q h=>?_
 obtain ⟨r,sg,M,z,M',hs,hh,e,q⟩:=h
 simp only [evE] at e
 split at e
 ·rename_i xs M1 e1
  split at e
  ·rename_i hl
   cases e
   refine ⟨r,sg,M,xs,_,hs,hh,e1,fun r1 vs H1 x1 h1 v1=>⟨by rw [<- v1.length];exact hl,fun p hp=>?_⟩⟩
   exact zeh.lst (fun r2 u2 H2 x2 h2 v2=>q r2 u2 H2 (x1.trans x2) h2 v2) h1 v1 hp
  ·cases e
 ·cases e
end
end Mp
namespace Mp
open PySem L2
def ROp (K:PySem.W.Frag) (f:Mm->PV->PV->R):R2:=fun x y H Q=>∃ r M a b z M',RH K r M H/\RV K r H a x/\RV K r H b y/\f M a b=some (z,M')/\zeh K r H z M' Q
def RCm (K:PySem.W.Frag) (f:Mm->PV->PV->Option Bool):R2:=fun x y H Q=>∃ r M a b k,RH K r M H/\RV K r H a x/\RV K r H b y/\f M a b=some k/\Q (.bl k) H
section
variable {X:Cx}
theorem zeh.ptup {K:PySem.W.Frag} {r:List Addr} {M:Mm} {H:Hp} {Q:VK} {xs:List PV} {vs:List V} {us:List Value} {p:Addr} (q:zeh K r H (.ptup xs) M Q) (h:RH K r M H) (v:RVs K r H xs vs) (hp:H p=none):Q (.ref p) (upd H p (.frz (plo us) (.tup vs))) :=
 q r _ _ (zaF hp) (h.other _ hp) (.ptup ⟨_,rfl,rfl,upd_same⟩ (v.ext (zaF hp)))
theorem op_catP:OpR X (binaryOp .Add) (fun x y H Q=>∃ (a b:Addr) (xs ys:List V),x=V.ref a/\y=V.ref b/\SqT X.K H a xs/\SqT X.K H b ys/\xs.length+ys.length<=sizeLine/\(xs=[]->Q (.ref b) H)/\(ys=[]->Q (.ref a) H)/\∀ p us,H p=none->Q (.ref p) (upd H p (.frz (plo us) (.tup (xs++ys))))):=by
 intro pins s σ H x y v u Q I rx ry h
 obtain ⟨a,b,xs,ys,rfl,rfl,ha,hb,hz,q0,q1,q2⟩:=h
 cases rx
 cases ry
 obtain ⟨its,r1,p1,_⟩:=I.tuple ha
 obtain ⟨its2,r2,p2,_⟩:=I.tuple hb
 by_cases hx:xs=[]
 ·subst hx
  cases r1
  exact cat_tup0 p1 p2 ⟨.ref b,H,I,rfl,q0 rfl⟩
 ·refine HT.cat_tup p1 p2 (fun z=>hx (r1.nil_iff.mp z)) (fun z=>⟨.ref a,H,I,rfl,q1 (r2.nil_iff.mp z)⟩) (fun z=>?_) (by rw [<- r1.length,<- r2.length];exact hz)
  refine ⟨.ref s.heap.objs.size,_,I.laid (t':=s.toks) (o:=.frz (plo (its++its2)) (.tup (xs++ys))) (fun b ob q=>Heap.get?_push_of_some _ q) (Nat.le_refl _) ?_,rfl,q2 _ _ (I.hok.fresh (Nat.le_refl _))⟩
  exact ⟨Heap.get?_push_size _ rfl,by rw [List.length_append];exact hz,_,r1.append r2,PyProof.Rows.IsTup.new _ _⟩
theorem zu:OpR X (binaryOp .Add) (ROp X.K fun M=>zat M .add):=by
 intro pins s σ H x y v u Q I rx ry h
 obtain ⟨r,M,a,b,z,M',hh,va,vb,e,q⟩:=h
 cases va with
 | int i =>
  cases vb with
  | int j=>simp only [zat] at e;cases e;exact op_add pins s σ H _ _ v u Q I rx ry ⟨i,j,rfl,rfl,q.here hh (.int _)⟩
  | _=>simp [zat] at e
 | str i =>
  cases vb with
  | str j =>
   simp only [zat] at e
   split at e
   ·rename_i hl;cases e;exact op_add_str pins s σ H _ _ v u Q I rx ry ⟨i,j,rfl,rfl,hl,q.here hh (.str _)⟩
   ·cases e
  | _=>simp [zat] at e
 | @tup xs a1 vs ha hxs =>
  cases vb with
  | @tup ys a2 us hb hys =>
   simp only [zat] at e
   split at e
   ·rename_i hl
    cases e
    refine op_catA pins s σ H _ _ v u Q I rx ry ⟨a1,a2,vs,us,rfl,rfl,ha,hb,by rw [<- hxs.length,<- hys.length];exact hl,fun z=>?_,fun _ z=>?_,fun _ _ p hp=>?_⟩
    ·subst z
     cases hxs
     exact q.here hh (.tup hb hys)
    ·subst z
     cases hys
     rw [List.append_nil] at q
     exact q.here hh (.tup ha hxs)
    ·exact q.tup hh (hxs.append hys) hp
   ·cases e
  | _=>simp [zat] at e
 | @ptup xs a1 vs ha hxs =>
  cases vb with
  | @ptup ys a2 us hb hys =>
   simp only [zat] at e
   split at e
   ·rename_i hl
    cases e
    refine op_catP pins s σ H _ _ v u Q I rx ry ⟨a1,a2,vs,us,rfl,rfl,ha.sqT,hb.sqT,by rw [<- hxs.length,<- hys.length];exact hl,fun z=>?_,fun z=>?_,fun p ws hp=>?_⟩
    ·subst z
     cases hxs
     exact q.here hh (.ptup hb hys)
    ·subst z
     cases hys
     rw [List.append_nil] at q
     exact q.here hh (.ptup ha hxs)
    ·exact zeh.ptup q hh (hxs.append hys) hp
   ·cases e
  | _=>simp [zat] at e
 | @ref n a1 hn =>
  cases vb with
  | @ref m a2 hm =>
   simp only [zat] at e
   split at e
   ·rename_i xs ys e1 e2
    split at e
    ·rename_i hl
     cases e
     obtain ⟨b1,vs,g1,g2,g3⟩:=zbd hh e1
     obtain ⟨b2,us,k1,k2,k3⟩:=zbd hh e2
     rw [hn] at g1;cases g1
     rw [hm] at k1;cases k1
     exact op_cat pins s σ H _ _ v u Q I rx ry ⟨a1,a2,vs,us,rfl,rfl,g2,k2,by rw [<- g3.length,<- k3.length];exact hl,fun p hp=>q.lst hh (g3.append k3) hp⟩
    ·cases e
   ·cases e
  | _=>simp [zat] at e
 | _=>simp [zat] at e
theorem zfX:OpR X (binaryOp .Sub) (ROp X.K fun M=>zat M .sub):=by
 intro pins s σ H x y v u Q I rx ry h
 obtain ⟨r,M,a,b,z,M',hh,va,vb,e,q⟩:=h
 cases va with
 | int i =>
  cases vb with
  | int j=>simp only [zat] at e;cases e;exact op_sub pins s σ H _ _ v u Q I rx ry ⟨i,j,rfl,rfl,q.here hh (.int _)⟩
  | _=>simp [zat] at e
 | _=>simp [zat] at e
theorem mulOk_C {i j:Int} (h:zcY i j=true):CMul i j:=by
 unfold zcY at h
 rcases Bool.or_eq_true_iff.mp h with h | h
 ·obtain ⟨h1,h2⟩:=Bool.and_eq_true_iff.mp h;exact .inl ⟨of_decide_eq_true h1,of_decide_eq_true h2⟩
 ·obtain ⟨h1,h2⟩:=Bool.and_eq_true_iff.mp h;exact .inr ⟨of_decide_eq_true h1,of_decide_eq_true h2⟩
theorem zgf {K:PySem.W.Frag} {r:List Addr} {H:Hp} {xs:List PV} {vs:List V} (h:RVs K r H xs vs):∀ n:Nat,RVs K r H (List.replicate n xs).flatten (List.replicate n vs).flatten
 | 0=>.nil
 | n+1=>by
  rw [List.replicate_succ,List.replicate_succ,List.flatten_cons,List.flatten_cons]
  exact h.append (zgf h n)
theorem zc9:OpR X (binaryOp .Mult) (ROp X.K fun M=>zat M .mul):=by
 intro pins s σ H x y v u Q I rx ry h
 obtain ⟨r,M,a,b,z,M',hh,va,vb,e,q⟩:=h
 cases va with
 | int i =>
  cases vb with
  | int j =>
   simp only [zat] at e
   split at e
   ·rename_i hl;cases e;exact op_mul pins s σ H _ _ v u Q I rx ry ⟨i,j,rfl,rfl,mulOk_C hl,q.here hh (.int _)⟩
   ·cases e
  | _=>simp [zat] at e
 | @ref n a1 hn =>
  cases vb with
  | int j =>
   simp only [zat] at e
   split at e
   ·rename_i xs e1
    split at e
    ·rename_i hl
     cases e
     obtain ⟨b1,vs,g1,g2,g3⟩:=zbd hh e1
     rw [hn] at g1;cases g1
     exact op_rep pins s σ H _ _ v u Q I rx ry ⟨a1,j,vs,rfl,rfl,g2,hl.1,hl.2.1,by rw [<- g3.length];exact hl.2.2,fun p hp=>q.lst hh (zgf g3 _) hp⟩
    ·cases e
   ·cases e
  | _=>simp [zat] at e
 | @tup xs a1 vs ha hxs =>
  cases vb with
  | int j =>
   simp only [zat] at e
   split at e
   ·rename_i hl
    cases e
    obtain ⟨l2,l3,l4⟩:=hl
    by_cases hne:vs=[]
    ·subst hne
     have hx:xs=[]:=by cases hxs;rfl
     subst hx
     have q':zeh X.K r H (.tup []) M Q:=by simpa using q
     exact zeL pins s σ H _ _ v u Q I rx ry ⟨a1,j,[],rfl,rfl,ha,l2,l3,.inl ⟨.inr rfl,q'.here hh (.tup ha hxs)⟩⟩
    by_cases j1:j=1
    ·subst j1
     have q':zeh X.K r H (.tup xs) M Q:=by simpa using q
     exact zeL pins s σ H _ _ v u Q I rx ry ⟨a1,1,vs,rfl,rfl,ha,l2,l3,.inl ⟨.inl rfl,q'.here hh (.tup ha hxs)⟩⟩
    ·by_cases j0:j=0
     ·subst j0
      have q':zeh X.K r H (.tup []) M Q:=by simpa using q
      exact zeL pins s σ H _ _ v u Q I rx ry ⟨a1,0,vs,rfl,rfl,ha,l2,l3,.inr ⟨hne,rfl,fun p hp=>q'.tup hh .nil hp⟩⟩
     ·exact op_repT pins s σ H _ _ v u Q I rx ry ⟨a1,j,vs,rfl,rfl,ha,hne,by omega,l3,by rw [<- hxs.length];exact l4,fun p hp=>q.tup hh (zgf hxs _) hp⟩
   ·cases e
  | _=>simp [zat] at e
 | _=>simp [zat] at e
theorem zfY:OpR X (binaryOp .FloorDiv) (ROp X.K fun M=>zat M .fdiv):=by
 intro pins s σ H x y v u Q I rx ry h
 obtain ⟨r,M,a,b,z,M',hh,va,vb,e,q⟩:=h
 cases va with
 | int i =>
  cases vb with
  | int j =>
   simp only [zat] at e
   split at e
   ·rename_i hl;cases e;exact op_fdiv pins s σ H _ _ v u Q I rx ry ⟨i,j,rfl,rfl,hl,q.here hh (.int _)⟩
   ·cases e
  | _=>simp [zat] at e
 | _=>simp [zat] at e
theorem zda:OpR X (binaryOp .Mod) (ROp X.K fun M=>zat M .mod):=by
 intro pins s σ H x y v u Q I rx ry h
 obtain ⟨r,M,a,b,z,M',hh,va,vb,e,q⟩:=h
 cases va with
 | int i =>
  cases vb with
  | int j =>
   simp only [zat] at e
   split at e
   ·rename_i hl;cases e;exact op_mod pins s σ H _ _ v u Q I rx ry ⟨i,j,rfl,rfl,hl,q.here hh (.int _)⟩
   ·cases e
  | _=>simp [zat] at e
 | _=>simp [zat] at e
theorem zhU:OpR X (binaryOp .Pow) (ROp X.K fun M=>zat M .pow):=by
 intro pins s σ H x y v u Q I rx ry h
 obtain ⟨r,M,a,b,z,M',hh,va,vb,e,q⟩:=h
 cases va with
 | int i =>
  cases vb with
  | int j =>
   simp only [zat] at e
   split at e
   ·rename_i hl;cases e;exact op_pow pins s σ H _ _ v u Q I rx ry ⟨i,j,rfl,rfl,hl,q.here hh (.int _)⟩
   ·cases e
  | _=>simp [zat] at e
 | _=>simp [zat] at e
mutual
theorem zdp {K:PySem.W.Frag} {r:List Addr} {H:Hp} {M:Mm} (hh:RH K r M H):∀ (n:Nat) {x:PV} {v:V} {d:PyData},toD n M x=some d->RV K r H x v->Dp K H v d
 | 0,_,_,_,e,_=>by simp [toD] at e
 | n+1,.non,_,_,e,h=>by simp only [toD] at e;cases e;cases h;exact .non
 | n+1,.bl b,_,_,e,h=>by simp only [toD] at e;cases e;cases h;exact .bl _
 | n+1,.int b,_,_,e,h=>by simp only [toD] at e;cases e;cases h;exact .int _
 | n+1,.str b,_,_,e,h=>by simp only [toD] at e;cases e;cases h;exact .str _
 | n+1,.tup xs,_,_,e,h=>by
  simp only [toD] at e
  cases h with
  | tup h1 h2 =>
   obtain ⟨ds,e1,rfl⟩:=Option.map_eq_some_iff.mp e
   exact .tup h1 (zfO hh n e1 h2)
 | n+1,.ptup xs,_,_,e,h=>by
  simp only [toD] at e
  cases h with
  | ptup h1 h2 =>
   obtain ⟨ds,e1,rfl⟩:=Option.map_eq_some_iff.mp e
   exact .tup h1.sqT (zfO hh n e1 h2)
 | n+1,.cl ns,_,_,e,h=>by
  simp only [toD] at e
  cases e
  cases h with
  | cl h=>exact .lst h.sq (cl_all ns)
 | n+1,.ref k,_,_,e,h=>by
  simp only [toD] at e
  split at e
  ·rename_i xs e0
   obtain ⟨ds,e1,rfl⟩:=Option.map_eq_some_iff.mp e
   obtain ⟨a,h1,vs,h2,h3⟩:=hh.at e0
   cases h with
   | ref h=>rw [h1] at h;cases h;exact .lst (.inl (.inl h2)) (zfO hh n e1 h3)
  ·cases e
theorem cl_all {K:PySem.W.Frag} {H:Hp}:∀ ns:List Int,DpAll K H (ns.map V.int) (ns.map PyData.int)
 | []=>.nil
 | n::ns=>.cons (.int n) (cl_all ns)
theorem zfO {K:PySem.W.Frag} {r:List Addr} {H:Hp} {M:Mm} (hh:RH K r M H) (n:Nat):∀ {xs:List PV} {vs:List V} {ds:List PyData},xs.mapM (toD n M)=some ds->RVs K r H xs vs->DpAll K H vs ds
 | [],_,_,e,h=>by
  cases h
  have e':some []=some _:=e
  cases e'
  exact .nil
 | x::xs,_,_,e,h=>by
  cases h with
  | cons h hs =>
   rw [List.mapM_cons] at e
   cases e1:toD n M x with
   | none=>rw [e1] at e;cases e
   | some d =>
    rw [e1] at e
    cases e2:xs.mapM (toD n M) with
    | none=>rw [e2] at e;cases e
    | some ds =>
     rw [e2] at e
     cases e
     exact .cons (zdp hh n e1 h) (zfO hh n e2 hs)
end
theorem eqS_ok {K:PySem.W.Frag} {r:List Addr} {H:Hp} {a b:PV} {x y:V} {k:Bool} (e:eqS a b=some k) (va:RV K r H a x) (vb:RV K r H b y):scal x y=true/\decide (x=y)=k:=by
 cases va<;>cases vb<;>simp [eqS] at e<;>subst e<;>simp [scal]
theorem zG (hu:X.A.units+64<cLine):OpR X (compareOp .Eq) (RCm X.K fun M=>zK M .eq):=by
 intro pins s σ H x y v u Q I rx ry h
 obtain ⟨r,M,a,b,k,hh,va,vb,e,q⟩:=h
 simp only [zK,eqP] at e
 split at e
 ·rename_i b e1
  cases e
  obtain ⟨h1,h2⟩:=eqS_ok e1 va vb
  exact op_eq pins s σ H x y v u Q I rx ry ⟨h1,by rw [h2];exact q⟩
 ·split at e
  ·rename_i d1 d2 e1 e2
   split at e
   ·rename_i hs
    cases e
    obtain ⟨s1,s2⟩:=Bool.and_eq_true_iff.mp hs
    exact op_eqD hu pins s σ H x y v u Q I rx ry ⟨_,_,zdp hh 20 e1 va,zdp hh 20 e2 vb,s1,s2,q⟩
   ·cases e
  ·cases e
theorem zdX (hu:X.A.units+64<cLine):OpR X (compareOp .NotEq) (RCm X.K fun M=>zK M .ne):=by
 intro pins s σ H x y v u Q I rx ry h
 obtain ⟨r,M,a,b,k,hh,va,vb,e,q⟩:=h
 simp only [zK] at e
 obtain ⟨k',e',rfl⟩:=Option.map_eq_some_iff.mp e
 clear e
 have e:eqP M a b=some k':=e'
 clear e'
 simp only [eqP] at e
 split at e
 ·rename_i b e1
  have e:=Option.some.inj e
  subst e
  obtain ⟨h1,h2⟩:=eqS_ok e1 va vb
  exact op_ne pins s σ H x y v u Q I rx ry ⟨h1,by rw [h2];exact q⟩
 ·split at e
  ·rename_i d1 d2 e1 e2
   split at e
   ·rename_i hs
    have e:=Option.some.inj e
    subst e
    obtain ⟨s1,s2⟩:=Bool.and_eq_true_iff.mp hs
    exact op_neD hu pins s σ H x y v u Q I rx ry ⟨_,_,zdp hh 20 e1 va,zdp hh 20 e2 vb,s1,s2,q⟩
   ·cases e
  ·cases e
theorem cmpI {co:Co} {op:CmpOp} {g:Int->Int->Bool} (ho:OpR X (compareOp op) (rI0 fun i j=>.bl (g i j))) (hc:∀ M a b k,zK M co a b=some k->∃ i j,a=.int i/\b=.int j/\k=g i j):OpR X (compareOp op) (RCm X.K fun M=>zK M co):=by
 intro pins s σ H x y v u Q I rx ry h
 obtain ⟨r,M,a,b,k,hh,va,vb,e,q⟩:=h
 obtain ⟨i,j,rfl,rfl,rfl⟩:=hc _ _ _ _ e
 cases va;cases vb
 exact ho pins s σ H _ _ v u Q I rx ry ⟨i,j,rfl,rfl,q⟩
theorem zgT:OpR X (compareOp .Lt) (RCm X.K fun M=>zK M .lt):=cmpI op_lt fun M a b k e=>by
 cases a<;>cases b<;>simp [zK] at e
 exact ⟨_,_,rfl,rfl,e.symm⟩
theorem ziF:OpR X (compareOp .LtE) (RCm X.K fun M=>zK M .le):=cmpI op_le fun M a b k e=>by
 cases a<;>cases b<;>simp [zK] at e
 exact ⟨_,_,rfl,rfl,e.symm⟩
theorem zeK:OpR X (compareOp .Gt) (RCm X.K fun M=>zK M .gt):=cmpI op_gt fun M a b k e=>by
 cases a<;>cases b<;>simp [zK] at e
 exact ⟨_,_,rfl,rfl,e.symm⟩
theorem zgU:OpR X (compareOp .GtE) (RCm X.K fun M=>zK M .ge):=cmpI op_ge fun M a b k e=>by
 cases a<;>cases b<;>simp [zK] at e
 exact ⟨_,_,rfl,rfl,e.symm⟩
theorem zhV:OpR X (compareOp .Is) (RCm X.K fun M=>zK M .isN):=by
 intro pins s σ H x y v u Q I rx ry h
 obtain ⟨r,M,a,b,k,hh,va,vb,e,q⟩:=h
 cases vb with
 | non =>
  refine op_isN pins s σ H x _ v u Q I rx ry ⟨rfl,?_⟩
  cases va<;>simp [zK] at e<;>subst e<;>simpa using q
 | bl b =>
  cases va with
  | bl a =>
   have e:(a == b)=k:=Option.some.inj e
   have e1:v=.bool a:=rx
   have e2:u=.bool b:=ry
   subst e1;subst e2
   exact wpAny_bind (wpAny_pure (wpAny_pure ⟨.bl (a == b),H,I,by cases a<;>cases b<;>rfl,by rw [e];exact q⟩))
  | _=>simp [zK] at e
 | _=>cases a<;>simp [zK] at e
theorem ziG:OpR X (compareOp .IsNot) (RCm X.K fun M=>zK M .isNN):=by
 intro pins s σ H x y v u Q I rx ry h
 obtain ⟨r,M,a,b,k,hh,va,vb,e,q⟩:=h
 cases vb with
 | non =>
  refine op_notN pins s σ H x _ v u Q I rx ry ⟨rfl,?_⟩
  cases va<;>simp [zK] at e<;>subst e<;>simpa using q
 | bl b =>
  cases va with
  | bl a =>
   have e:(!(a == b))=k:=Option.some.inj e
   have e1:v=.bool a:=rx
   have e2:u=.bool b:=ry
   subst e1;subst e2
   exact wpAny_bind (wpAny_pure (wpAny_pure ⟨.bl (!(a == b)),H,I,by cases a<;>cases b<;>rfl,by rw [e];exact q⟩))
  | _=>simp [zK] at e
 | _=>cases a<;>simp [zK] at e
theorem zlI {K:PySem.W.Frag} {r:List Addr} {H:Hp} {a:PV} {x:V} (va:RV K r H a x):flatV x=zaS a:=by cases va<;>rfl
theorem zi0 {K:PySem.W.Frag} {r:List Addr} {H:Hp}:∀ {xs:List PV} {vs:List V},RVs K r H xs vs->vs.all flatV=xs.all zaS
 | _,_,.nil=>rfl
 | _,_,.cons h hs=>by rw [List.all_cons,List.all_cons,zlI h,zi0 hs]
theorem eqF_ok {K:PySem.W.Frag} {r:List Addr} {H:Hp} {a b:PV} {x y:V} (va:RV K r H a x) (vb:RV K r H b y):eqV x y=eqF a b:=by
 cases va<;>cases vb<;>rfl
theorem any_ok {K:PySem.W.Frag} {r:List Addr} {H:Hp} {b:PV} {y:V} (vb:RV K r H b y):∀ {xs:List PV} {vs:List V},RVs K r H xs vs->inV y vs=xs.any fun z=>eqF z b
 | _,_,.nil=>rfl
 | _,_,.cons h hs=>by
  have:=any_ok vb hs
  unfold inV at this ⊢
  rw [List.any_cons,List.any_cons,eqF_ok h vb,this]
theorem inP_ok {K:PySem.W.Frag} {r:List Addr} {H:Hp} {a:PV} {x:V} {xs:List PV} {vs:List V} {k:Bool} (va:RV K r H a x) (hs:RVs K r H xs vs) (e:inP a xs=some k):flatV x=true/\vs.all flatV=true/\inV x vs=k:=by
 unfold inP at e
 split at e
 ·rename_i h
  cases e
  obtain ⟨h1,h2⟩:=Bool.and_eq_true_iff.mp h
  exact ⟨by rw [zlI va];exact h1,by rw [zi0 hs];exact h2,any_ok va hs⟩
 ·cases e
theorem zdt {K:PySem.W.Frag} {r:List Addr} {H:Hp} {a:PV} {x:V} {k:Key} (va:RV K r H a x) (e:zad a=some k):x=kV k:=by
 cases va<;>simp [zad] at e<;>subst e<;>rfl
theorem zeY {K:PySem.W.Frag} {r:List Addr} {H:Hp} (k:Key):∀ {kvs:List (Key × PV)} {vs:List (Key × V)},vs.map (·.1)=kvs.map (·.1)->RVs K r H (kvs.map (·.2)) (vs.map (·.2)) ->
  (getD kvs k).isSome=(valV vs k).isSome/\∀ p,getD kvs k=some p->∃ v,valV vs k=some v/\RV K r H p v
 | [],[],_,_=>⟨rfl,fun p e=>by simp [getD] at e⟩
 | [],_::_,e,_=>by simp at e
 | _::_,[],e,_=>by simp at e
 | (k1,p1)::kvs,(k2,v2)::vs,e,h=>by
  simp only [List.map_cons,List.cons.injEq] at e
  obtain ⟨e1,e2⟩:=e
  have e1:k2=k1:=e1
  subst e1
  cases h with
  | cons h hs =>
   obtain ⟨i1,i2⟩:=zeY k e2 hs
   by_cases hk:k2=k
   ·subst hk
    simp [getD,valV,List.find?_cons]
    exact h
   ·have a1:getD ((k2,p1)::kvs) k=getD kvs k:=by simp [getD,List.find?_cons,hk]
    have a2:valV ((k2,v2)::vs) k=valV vs k:=by simp [valV,List.find?_cons,hk]
    rw [a1,a2]
    exact ⟨i1,i2⟩
theorem zhg {K:PySem.W.Frag} {r:List Addr} {H:Hp} {M:Mm} {n:Nat} {kvs:List (Key × PV)} {a:Addr} (h:RH K r M H) (e:M[n]? = some (.dic kvs)) (ha:r[n]? = some a) :
  ∃ vs,H a=some (.dK vs)/\vs.map (·.1)=kvs.map (·.1)/\RVs K r H (kvs.map (·.2)) (vs.map (·.2)):=by
 obtain ⟨b,h1,vs,h2,h3,h4⟩:=h.at e
 rw [ha] at h1;cases h1
 exact ⟨vs,h2,h3,h4⟩
theorem frz_of {K:PySem.W.Frag} {r:List Addr} {H:Hp} {M:Mm} {n:Nat} {kvs:List (Key × PV)} {a:Addr} (h:RH K r M H) (e:M[n]? = some (.frz kvs)) (ha:r[n]? = some a) :
  ∃ o vs,H a=some (.frz o (.dK vs))/\vs.map (·.1)=kvs.map (·.1)/\RVs K r H (kvs.map (·.2)) (vs.map (·.2)):=by
 obtain ⟨b,h1,o,vs,h2,h3,h4⟩:=h.at e
 rw [ha] at h1;cases h1
 exact ⟨o,vs,h2,h3,h4⟩
theorem zgi {H:Hp} {a:Addr} {o:Obj} {kvs:List (Key × V)} {k:Key} (e:H a=some (.frz o (.dK kvs))):DGet H a (kV k) (valV kvs k):=.inl ⟨kvs,k,.inr ⟨o,e⟩,rfl,rfl⟩
theorem sgn_ok {a:PV} {c:Nat} (e:sgn a=some c):a=.str ⟨#[c]⟩:=by
 cases a with
 | str z =>
  simp only [sgn] at e
  split at e
  ·rename_i c' e1
   cases e
   obtain ⟨cps⟩:=z
   have:cps=#[c]:=by
    apply Array.ext'
    simpa using e1
   subst this
   rfl
  ·cases e
 | _=>simp [sgn] at e
theorem zlx {pins:List (Addr × Obj)} {s:Shared} {σ:L2.St} {H:Hp} {x y:V} {v u:Value} {Q:VK} (neg:Bool) (hu:X.A.units+64<cLine) (I:Inv X pins σ H s) (rx:RelV x v) (ry:RelV y u)
  {r:List Addr} {M:Mm} {a b:PV} {k:Bool} (hh:RH X.K r M H) (va:RV X.K r H a x) (vb:RV X.K r H b y) (e:zcx M a b=some k) (q:Q (.bl (if neg then !k else k)) H) :
  wpAny (model X.prog X.w) X.A (compareOp (if neg then .NotIn else .In) v u) (EP X pins σ Q) X.xe s:=by
 have seq:∀ {p:Addr} {xs:List PV} {vs:List V},y=.ref p->(SqL X.K H p vs\/SqT X.K H p vs)->RVs X.K r H xs vs->inP a xs=some k->wpAny (model X.prog X.w) X.A (compareOp (if neg then .NotIn else .In) v u) (EP X pins σ Q) X.xe s:=fun {p xs vs} ey hq hs he=>by
  obtain ⟨h1,h2,h3⟩:=inP_ok va hs he
  subst h3
  cases neg with
  | true=>exact op_notIn_seq pins s σ H x y v u Q I rx ry ⟨p,vs,ey,hq,h1,h2,q⟩
  | false=>exact op_in_seq pins s σ H x y v u Q I rx ry ⟨p,vs,ey,hq,h1,h2,q⟩
 cases vb with
 | @tup xs a1 vs ht hs =>
  simp only [zcx] at e
  split at e
  ·rename_i b2 e2
   cases e
   exact seq rfl (.inr ht) hs e2
  ·unfold inDT at e
   split at e
   ·rename_i d ds d1 d2
    split at e
    ·rename_i hd
     cases e
     simp only [Bool.and_eq_true,decide_eq_true_eq] at hd
     obtain ⟨⟨s1,s2⟩,s3⟩:=hd
     obtain ⟨as,r1⟩:=Dp.reads I d x v (zdp hh 20 d1 va) rx
     obtain ⟨bs,r2⟩:=Dp.reads I (.tuple ds) _ u (zdp hh 20 d2 (.tup ht hs)) ry
     have room:X.A.units+1+min (PyData.depthAll ds) d.depth<cLine:=by
      have:=Nat.min_le_right (PyData.depthAll ds) d.depth
      omega
     cases neg with
     | true=>exact SeqAt.notIn_tuple_reads r2 r1 (SeqAt.canLay_of_shaped s2) (SeqAt.canLay_of_shaped s1) room ⟨.bl _,H,I,rfl,q⟩
     | false=>exact SeqAt.in_tuple_reads r2 r1 (SeqAt.canLay_of_shaped s2) (SeqAt.canLay_of_shaped s1) room ⟨.bl _,H,I,rfl,q⟩
    ·cases e
   ·cases e
 | str z =>
  simp only [zcx] at e
  obtain ⟨c,e1,rfl⟩:=Option.map_eq_some_iff.mp e
  have:=sgn_ok e1
  subst this
  cases va
  cases neg with
  | true=>exact op_notIn_sign pins s σ H _ _ v u Q I rx ry ⟨c,z,rfl,rfl,q⟩
  | false=>exact op_in_sign pins s σ H _ _ v u Q I rx ry ⟨c,z,rfl,rfl,q⟩
 | @ref n a1 hn =>
  simp only [zcx] at e
  split at e
  ·rename_i xs e1
   obtain ⟨b1,g1,vs,g2,g3⟩:=hh.at e1
   rw [hn] at g1;cases g1
   split at e
   ·rename_i b2 e2
    cases e
    exact seq rfl (.inl (.inl (.inl g2))) g3 e2
   ·unfold inD at e
    split at e
    ·rename_i d ds d1 d2
     split at e
     ·rename_i hd
      cases e
      simp only [Bool.and_eq_true,decide_eq_true_eq] at hd
      obtain ⟨⟨s1,s2⟩,s3⟩:=hd
      obtain ⟨as,r1⟩:=Dp.reads I d x v (zdp hh 20 d1 va) rx
      obtain ⟨bs,r2⟩:=Dp.reads I (.list ds) _ u (zdp hh 20 d2 (.ref hn)) ry
      have room:X.A.units+1+min (PyData.depthAll ds) d.depth<cLine:=by
       have:=Nat.min_le_right (PyData.depthAll ds) d.depth
       omega
      cases neg with
      | true=>exact SeqAt.notIn_list_reads r2 r1 (SeqAt.canLay_of_shaped s2) (SeqAt.canLay_of_shaped s1) room ⟨.bl _,H,I,rfl,q⟩
      | false=>exact SeqAt.in_list_reads r2 r1 (SeqAt.canLay_of_shaped s2) (SeqAt.canLay_of_shaped s1) room ⟨.bl _,H,I,rfl,q⟩
     ·cases e
    ·cases e
  ·rename_i kvs e1
   obtain ⟨key,e2,rfl⟩:=Option.map_eq_some_iff.mp e
   obtain ⟨vs,g2,g3,g4⟩:=zhg hh e1 hn
   have:=zdt va e2
   subst this
   obtain ⟨i1,_⟩:=zeY key g3 g4
   rw [i1] at q
   cases (show u=Value.ref a1 from ry)
   cases neg with
   | true=>exact d_notIn (by omega) I (DGet.k (k:=key) g2) rx fun s' I'=>⟨.bl _,H,I',rfl,q⟩
   | false=>exact d_in (by omega) I (DGet.k (k:=key) g2) rx fun s' I'=>⟨.bl _,H,I',rfl,q⟩
  ·rename_i kvs e1
   obtain ⟨key,e2,rfl⟩:=Option.map_eq_some_iff.mp e
   obtain ⟨od,vs,g2,g3,g4⟩:=frz_of hh e1 hn
   have:=zdt va e2
   subst this
   obtain ⟨i1,_⟩:=zeY key g3 g4
   rw [i1] at q
   cases (show u=Value.ref a1 from ry)
   cases neg with
   | true=>exact d_notIn (by omega) I (zgi (k:=key) g2) rx fun s' I'=>⟨.bl _,H,I',rfl,q⟩
   | false=>exact d_in (by omega) I (zgi (k:=key) g2) rx fun s' I'=>⟨.bl _,H,I',rfl,q⟩
  ·cases e
 | _=>simp [zcx] at e
theorem zc4 (hu:X.A.units+64<cLine):OpR X (compareOp .In) (RCm X.K fun M=>zK M .isin):=by
 intro pins s σ H x y v u Q I rx ry h
 obtain ⟨r,M,a,b,k,hh,va,vb,e,q⟩:=h
 simp only [zK] at e
 exact zlx false (by omega) I rx ry hh va vb e q
theorem zeJ (hu:X.A.units+64<cLine):OpR X (compareOp .NotIn) (RCm X.K fun M=>zK M .notin):=by
 intro pins s σ H x y v u Q I rx ry h
 obtain ⟨r,M,a,b,k,hh,va,vb,e,q⟩:=h
 simp only [zK] at e
 obtain ⟨k',e',rfl⟩:=Option.map_eq_some_iff.mp e
 exact zlx true (by omega) I rx ry hh va vb e' q
theorem ix_dic (hu:X.A.units+1<cLine):IxR X (fun x y H Q=>∃ a v,x=.ref a/\DGet H a y (some v)/\Q v H):=by
 intro value slice pins s σ H x y v u Q I rx ry h hs
 obtain ⟨a,z,rfl,g,q⟩:=h
 cases (show v=Value.ref a from rx)
 exact PyProof.Rows.tail_any (dict_typeIs I g) PySem.F.slot_dict_getitem.lookup (d_getItem hu I g ry fun w' s' I' rw'=>⟨z,H,I',rw',q⟩) hs
def RIx (K:PySem.W.Frag):R2:=fun x y H Q=>∃ r M a b z,RH K r M H/\RV K r H a x/\RV K r H b y/\zas M a b=some z/\∀ u,RV K r H z u->Q u H
theorem atI_ok {K:PySem.W.Frag} {r:List Addr} {H:Hp} {xs:List PV} {vs:List V} {i:Int} {z:PV} (hs:RVs K r H xs vs) (e:atI xs i=some z):∃ v,atI vs i=some v/\RV K r H z v:=by
 unfold atI at e ⊢
 rw [<- hs.length]
 obtain ⟨j,e1,e2⟩:=Option.bind_eq_some_iff.mp e
 rw [e1]
 exact hs.get e2
theorem ixx (hu:X.A.units+64<cLine):IxR X (RIx X.K):=by
 intro value slice pins s σ H x y v u Q I rx ry h hp
 obtain ⟨r,M,a,b,z,hh,va,vb,e,q⟩:=h
 cases va with
 | @tup xs a1 vs ht hs =>
  cases vb with
  | int i =>
   simp only [zas] at e
   obtain ⟨w,h1,h2⟩:=atI_ok hs e
   exact ix_tup value slice pins s σ H _ _ v u Q I rx ry ⟨a1,vs,i,w,rfl,rfl,ht,h1,q w h2⟩ hp
  | _=>simp [zas] at e
 | @cl ns a1 hc =>
  cases vb with
  | int i =>
   simp only [zas] at e
   obtain ⟨w,h1,rfl⟩:=Option.map_eq_some_iff.mp e
   have:atI (ns.map V.int) i=some (V.int w):=by
    unfold atI at h1 ⊢
    rw [List.length_map]
    obtain ⟨j,e1,e2⟩:=Option.bind_eq_some_iff.mp h1
    rw [e1]
    show (ns.map V.int)[j]? = some (V.int w)
    rw [List.getElem?_map,e2]
    rfl
   exact ix_list value slice pins s σ H _ _ v u Q I rx ry ⟨a1,_,i,_,rfl,rfl,hc.sq,this,q _ (.int w)⟩ hp
  | _=>simp [zas] at e
 | str zz =>
  cases vb with
  | int i =>
   simp only [zas] at e
   split at e
   ·rename_i hl
    obtain ⟨c,h1,rfl⟩:=Option.map_eq_some_iff.mp e
    exact ix_str value slice pins s σ H _ _ v u Q I rx ry ⟨zz,i,c,rfl,rfl,hl,h1,q _ (.str _)⟩ hp
   ·cases e
  | _=>simp [zas] at e
 | @ref n a1 hn =>
  simp only [zas] at e
  split at e
  ·rename_i xs i e1
   obtain ⟨b1,g1,vs,g2,g3⟩:=hh.at e1
   rw [hn] at g1;cases g1
   cases vb
   obtain ⟨w,h1,h2⟩:=atI_ok g3 e
   exact ix_list value slice pins s σ H _ _ v u Q I rx ry ⟨a1,vs,i,w,rfl,rfl,.inl (.inl g2),h1,q w h2⟩ hp
  ·rename_i kvs _ e1
   obtain ⟨key,e2,e3⟩:=Option.bind_eq_some_iff.mp e
   obtain ⟨vs,g2,g3,g4⟩:=zhg hh e1 hn
   have:=zdt vb e2
   subst this
   obtain ⟨_,i2⟩:=zeY key g3 g4
   obtain ⟨w,w1,w2⟩:=i2 z e3
   exact ix_dic (by omega) value slice pins s σ H _ _ v u Q I rx ry ⟨a1,w,rfl,by rw [<- w1];exact DGet.k g2,q w w2⟩ hp
  ·rename_i kvs _ e1
   obtain ⟨key,e2,e3⟩:=Option.bind_eq_some_iff.mp e
   obtain ⟨od,vs,g2,g3,g4⟩:=frz_of hh e1 hn
   have:=zdt vb e2
   subst this
   obtain ⟨_,i2⟩:=zeY key g3 g4
   obtain ⟨w,w1,w2⟩:=i2 z e3
   exact ix_dic (by omega) value slice pins s σ H _ _ v u Q I rx ry ⟨a1,w,rfl,by rw [<- w1];exact zgi g2,q w w2⟩ hp
  ·cases e
 | _=>simp [zas] at e
end
end Mp
namespace Mp
open PySem L2
section
variable {X:Cx} {cf:CF} {e a b c:Expr} {es:List Expr} {i ia ib ic:E} {pos:Pos}
theorem zn {o:Operator} {bo:Bo} (ho:OpR X (binaryOp o) (ROp X.K fun M=>zat M bo)) (ha:XE X cf a ia) (hb:XE X cf b ib):XE X cf (.BinOp a o b pos) (.bop bo ia ib):=by
 refine zak (pe_op ho ha hb) fun s H Q h=>?_
 obtain ⟨r,sg,M,z,M',hs,hh,e,q⟩:=h
 simp only [evE] at e
 split at e
 ·rename_i x M1 e1
  split at e
  ·rename_i y M2 e2
   exact ⟨r,sg,M,x,M1,hs,hh,e1,fun r1 u1 H1 x1 h1 v1=>⟨r1,sg,M1,y,M2,hs.ext x1,h1,e2,fun r2 u2 H2 x2 h2 v2 =>
    ⟨r2,M2,x,y,z,M',h2,v1.ext x2,v2,e,fun r3 u3 H3 x3 h3 v3=>q r3 u3 H3 (x1.trans (x2.trans x3)) h3 v3⟩⟩⟩
  ·cases e
 ·cases e
theorem xe_neg (ha:XE X cf a ia):XE X cf (.UnaryOp .USub a pos) (.neg ia):=by
 refine zak (pe_un un_neg ha) fun s H Q h=>?_
 obtain ⟨r,sg,M,z,M',hs,hh,e,q⟩:=h
 simp only [evE] at e
 split at e
 ·rename_i k M1 e1
  cases e
  refine ⟨r,sg,M,_,_,hs,hh,e1,fun r1 u1 H1 x1 h1 v1=>?_⟩
  cases v1
  exact ⟨k,rfl,q r1 _ H1 x1 h1 (.int _)⟩
 ·cases e
theorem zl2 {o:Co} {sg:Sg} {M M':Mm} {z:PV} (e:evE cf (.cmp o ia ib) sg M=some (z,M')):∃ x y M1 k,evE cf ia sg M=some (x,M1)/\evE cf ib sg M1=some (y,M')/\zK M' o x y=some k/\z=.bl k:=by
 simp only [evE] at e
 split at e
 ·rename_i x M1 e1
  split at e
  ·rename_i y M2 e2
   obtain ⟨k,e3,e4⟩:=Option.map_eq_some_iff.mp e
   cases e4
   exact ⟨x,y,M1,k,e1,e2,e3,rfl⟩
  ·cases e
 ·cases e
theorem zaD {o:CmpOp} {co:Co} (ho:OpR X (compareOp o) (RCm X.K fun M=>zK M co)) (ha:XE X cf a ia) (hb:XE X cf b ib) (hm:behindInMarks o b=false):XE X cf (.Compare a [o] [b] pos) (.cmp co ia ib):=by
 refine zak (pe_cmpR ho ha hb hm) fun s H Q h=>?_
 obtain ⟨r,sg,M,z,M',hs,hh,e,q⟩:=h
 obtain ⟨x,y,M1,k,e1,e2,e3,rfl⟩:=zl2 e
 exact ⟨r,sg,M,x,M1,hs,hh,e1,fun r1 u1 H1 x1 h1 v1=>⟨r1,sg,M1,y,M',hs.ext x1,h1,e2,fun r2 u2 H2 x2 h2 v2 =>
  ⟨r2,M',x,y,k,h2,v1.ext x2,v2,e3,q r2 _ H2 (x1.trans x2) h2 (.bl k)⟩⟩⟩
theorem zp {o:CmpOp} {co:Co} (ho:OpR X (compareOp o) (RCm X.K fun M=>zK M co)) (ha:XE X cf a ia) (hb:XE X cf b ib) (hm:behindInMarks o b=false):XT X cf (.Compare a [o] [b] pos) (.cmp co ia ib):=by
 refine zgQ (pt_cmpR ho ha hb hm) fun s H Q h=>?_
 obtain ⟨r,sg,M,z,M',hs,hh,e,q⟩:=h
 obtain ⟨x,y,M1,k,e1,e2,e3,e4⟩:=zl2 e
 cases e4
 exact ⟨r,sg,M,x,M1,hs,hh,e1,fun r1 u1 H1 x1 h1 v1=>⟨r1,sg,M1,y,M',hs.ext x1,h1,e2,fun r2 u2 H2 x2 h2 v2 =>
  ⟨r2,M',x,y,z,h2,v1.ext x2,v2,e3,z,rfl,q r2 H2 (x1.trans x2) h2⟩⟩⟩
theorem xt_chn {o o':CmpOp} {co co':Co} (ho:OpR X (compareOp o) (RCm X.K fun M=>zK M co)) (ho':OpR X (compareOp o') (RCm X.K fun M=>zK M co')) (ha:XE X cf a ia) (hb:XE X cf b ib) (hc:XE X cf c ic)
  (hm:lastMarks [o,o'] [b,c]=false:=by with_unfolding_all rfl):XT X cf (.Compare a [o,o'] [b,c] pos) (.chn co co' ia ib ic):=by
 refine zgQ (pt_chain ho ho' ha hb hc hm) fun s H Q h=>?_
 obtain ⟨r,sg,M,k0,M',hs,hh,e,q⟩:=h
 simp only [evE] at e
 split at e
 ·rename_i x M1 e1
  split at e
  ·rename_i y M2 e2
   refine ⟨r,sg,M,x,M1,hs,hh,e1,fun r1 u1 H1 x1 h1 v1=>⟨r1,sg,M1,y,M2,hs.ext x1,h1,e2,fun r2 u2 H2 x2 h2 v2=>?_⟩⟩
   split at e
   ·rename_i e3
    refine ⟨r2,M2,x,y,true,h2,v1.ext x2,v2,e3,true,rfl,iteT ?_⟩
    split at e
    ·rename_i w M3 e4
     obtain ⟨k,e5,e6⟩:=Option.map_eq_some_iff.mp e
     cases e6
     exact ⟨r2,sg,M2,w,M',hs.ext (x1.trans x2),h2,e4,fun r3 u3 H3 x3 h3 v3=>⟨r3,M',y,w,_,h3,v2.ext x3,v3,e5,_,rfl,q r3 H3 (x1.trans (x2.trans x3)) h3⟩⟩
    ·cases e
   ·rename_i e3
    cases e
    exact ⟨r2,_,x,y,false,h2,v1.ext x2,v2,e3,false,rfl,iteF ⟨_,rfl,q r2 H2 (x1.trans x2) h2⟩⟩
   ·cases e
  ·cases e
 ·cases e
theorem zm (hu:X.A.units+64<cLine) (ha:XE X cf a ia) (hb:XE X cf b ib) (hp:PlainIx b):XE X cf (.Subscript a b pos) (.idx ia ib):=by
 refine zak (pe_ix (ixx hu) ha hb hp) fun s H Q h=>?_
 obtain ⟨r,sg,M,z,M',hs,hh,e,q⟩:=h
 simp only [evE] at e
 split at e
 ·rename_i x M1 e1
  split at e
  ·rename_i y M2 e2
   obtain ⟨k,e3,e4⟩:=Option.map_eq_some_iff.mp e
   cases e4
   exact ⟨r,sg,M,x,M1,hs,hh,e1,fun r1 u1 H1 x1 h1 v1=>⟨r1,sg,M1,y,_,hs.ext x1,h1,e2,fun r2 u2 H2 x2 h2 v2 =>
    ⟨r2,_,x,y,z,h2,v1.ext x2,v2,e3,fun u v=>q r2 u H2 (x1.trans x2) h2 v⟩⟩⟩
  ·cases e
 ·cases e
def TOv (K:PySem.W.Frag) (fl:Bool) (f:Sg->Mm->R):TO:=fun s H Q=>∃ r sg M z o M',RS K r H sg s/\RH K r M H/\f sg M=some (z,M')/\zgV fl z=some o/\∀ r' H',Ext r r' H H'->RH K r' M' H'->Q o H'
theorem po_imp {o:Option Expr} {t t':TO} (h:PO X o t) (k:∀ s H Q,t' s H Q->t s H Q):PO X o t':=⟨fun pins s σ H Q I q=>h.run pins s σ H Q I (k _ _ _ q)⟩
def XO (X:Cx) (cf:CF) (o:Option Expr) (fl:Bool) (i:E):Prop:=PO X o (TOv X.K fl (evE cf i))
theorem xo0:XO X cf none false (.con .non):=by
 refine po_imp po_none fun s H Q h=>?_
 obtain ⟨r,sg,M,z,o,M',hs,hh,e,eo,q⟩:=h
 simp only [evE] at e
 cases e
 simp only [zgV] at eo
 cases eo
 exact q r H .refl hh
theorem xo1 (h:XE X cf e i):XO X cf (some e) true i:=by
 refine po_imp (po_some h) fun s H Q h=>?_
 obtain ⟨r,sg,M,z,o,M',hs,hh,e,eo,q⟩:=h
 refine ⟨r,sg,M,z,M',hs,hh,e,fun r1 u1 H1 x1 h1 v1=>?_⟩
 cases v1 with
 | int k=>simp only [zgV] at eo;cases eo;exact ⟨k,rfl,q r1 H1 x1 h1⟩
 | _=>simp [zgV] at eo
def RSl (K:PySem.W.Frag) (fl fh:Bool):V->Option Int->Option Int->Hp->VK->Prop:=fun x lo hi H Q=>∃ r M a pl ph z M',RH K r M H/\RV K r H a x/\zgV fl pl=some lo/\zgV fh ph=some hi/\zhD fl fh M a pl ph=some (z,M')/\zeh K r H z M' Q
theorem zhq {K:PySem.W.Frag} {r:List Addr} {H:Hp} {xs:List PV} {vs:List V} (h:RVs K r H xs vs) (lo hi:Option Int):RVs K r H (zid xs lo hi) (cutV vs lo hi):=by
 unfold zid cutV
 rw [h.length]
 exact (h.drop _).take _
theorem zlZ (vs:List V) (lo hi:Option Int) (h1:HT.sIx vs.length 0 lo=0) (h2:HT.sIx vs.length vs.length hi=vs.length):cutV vs lo hi=vs:=by
 unfold cutV
 rw [h1,h2]
 simp
theorem slx {fl fh:Bool}:SlR X (RSl X.K fl fh):=by
 intro pins s σ H x v vl vu lo hi sl Q I rx hs pl pu h
 obtain ⟨r,M,a,p1,p2,z,M',hh,va,o1,o2,e,q⟩:=h
 simp only [zhD,o1,o2] at e
 cases va with
 | @tup xs a1 vs ht hxs =>
  simp only at e
  cases e
  refine sl_tupA pins s σ H _ v vl vu lo hi sl Q I rx hs pl pu ⟨a1,vs,rfl,ht,fun w=>?_,fun _ p hp=>q.tup hh (zhq hxs lo hi) hp⟩
  have w2:=zhq hxs lo hi
  rw [zlZ vs lo hi w.1 w.2] at w2
  exact q.here hh (.tup ht w2)
 | @ptup xs a1 vs ht hxs =>
  simp only at e
  cases e
  refine sl_tupA pins s σ H _ v vl vu lo hi sl Q I rx hs pl pu ⟨a1,vs,rfl,ht.sqT,fun w=>?_,fun _ p hp=>q.tup hh (zhq hxs lo hi) hp⟩
  have w2:=zhq hxs lo hi
  rw [zlZ vs lo hi w.1 w.2] at w2
  exact q.here hh (.tup ht.sqT w2)
 | @ref n a1 hn =>
  simp only at e
  split at e
  ·rename_i xs e1
   cases e
   obtain ⟨b1,vs,g1,g2,g3⟩:=zbd hh e1
   rw [hn] at g1;cases g1
   exact sl_list pins s σ H _ v vl vu lo hi sl Q I rx hs pl pu ⟨a1,vs,rfl,.inl (.inl g2),fun p hp=>q.lst hh (zhq g3 lo hi) hp⟩
  ·cases e
 | _=>simp at e
theorem slc_inv {fl fh:Bool} {sg:Sg} {M M':Mm} {z:PV} (e:evE cf (.slc fl fh i ia ib) sg M=some (z,M')):∃ x y w M1 M2 M3,evE cf i sg M=some (x,M1)/\evE cf ia sg M1=some (y,M2)/\evE cf ib sg M2=some (w,M3)/\zhD fl fh M3 x y w=some (z,M'):=by
 simp only [evE] at e
 split at e
 ·rename_i x M1 e1
  split at e
  ·rename_i y M2 e2
   split at e
   ·rename_i w M3 e3;exact ⟨x,y,w,M1,M2,M3,e1,e2,e3,e⟩
   ·cases e
  ·cases e
 ·cases e
theorem slcP_opt {fl fh:Bool} {M:Mm} {x y w:PV} {z:PV × Mm} (e:zhD fl fh M x y w=some z):(∃ o,zgV fl y=some o)/\∃ o,zgV fh w=some o:=by
 unfold zhD at e
 split at e
 ·rename_i a b e1 e2;exact ⟨⟨a,e1⟩,⟨b,e2⟩⟩
 ·cases e
theorem zbn {fl fh:Bool} {lo hi:Option Expr} {p2:Pos} (h:XE X cf e i) (hl:XO X cf lo fl ia) (hu:XO X cf hi fh ib):XE X cf (.Subscript e (.Slice lo hi none p2) pos) (.slc fl fh i ia ib):=by
 refine zak (pe_slice (slx (fl:=fl) (fh:=fh)) h hl hu) fun s H Q h=>?_
 obtain ⟨r,sg,M,z,M',hs,hh,e,q⟩:=h
 obtain ⟨x,y,w,M1,M2,M3,e1,e2,e3,e4⟩:=slc_inv e
 obtain ⟨⟨o1,p1⟩,o2,p2⟩:=slcP_opt e4
 exact ⟨r,sg,M,x,M1,hs,hh,e1,fun r1 u1 H1 x1 h1 v1=>⟨r1,sg,M1,y,o1,M2,hs.ext x1,h1,e2,p1,fun r2 H2 x2 h2=>⟨r2,sg,M2,w,o2,M3,hs.ext (x1.trans x2),h2,e3,p2,fun r3 H3 x3 h3 =>
  ⟨r3,M3,x,y,w,z,M',h3,v1.ext (x2.trans x3),p1,p2,e4,fun r4 u4 H4 x4 h4 v4=>q r4 u4 H4 (x1.trans (x2.trans (x3.trans x4))) h4 v4⟩⟩⟩⟩
def RCl (K:PySem.W.Frag) (f:Mm->List PV->R):List V->Hp->VK->Prop:=fun vs H Q=>∃ r M xs z M',RH K r M H/\RVs K r H xs vs/\f M xs=some (z,M')/\zeh K r H z M' Q
theorem zB {bb:B} {x:Str} {id:String} {p:Pos} {j:Es} (hc:CallR X (.builtin id) (RCl X.K fun M=>zJ M bb)) (hg:Gl X x) (hm:X.mg x=none) (hv:bootBuiltins x=some (.builtin id)) (ha:XA X cf (e::es) j)
  (hn:x ≠ "__name__" := by decide) (hdb:(x == ("__debug__" : Str))=false:=by decide)
  (he:starEach (e::es) X.env=(false,eval e X.env)::starEach es X.env:=by rfl) (hpl:(backTo pos (starEach es X.env)).any (·.1)=false:=by rfl):XE X cf (.Call (.Name x p) (e::es) [] pos) (.blt bb j):=by
 refine zak (pe_callB hc hg hm hv ha hn hdb he hpl) fun s H Q h=>?_
 obtain ⟨r,sg,M,z,M',hs,hh,e,q⟩:=h
 simp only [evE] at e
 split at e
 ·rename_i xs M1 e1
  exact ⟨r,sg,M,xs,M1,hs,hh,e1,fun r1 us H1 x1 h1 v1=>⟨r1,M1,xs,z,M',h1,v1,e,fun r2 u2 H2 x2 h2 v2=>q r2 u2 H2 (x1.trans x2) h2 v2⟩⟩
 ·cases e
theorem zaT {bb:B} {x:Str} {T:String} {p:Pos} {j:Es} (hc:CallR X (.type T) (RCl X.K fun M=>zJ M bb)) (hg:Gl X x) (hm:X.mg x=none) (hv:bootBuiltins x=some (.type T)) (ha:XA X cf (e::es) j)
  (hn:x ≠ "__name__" := by decide) (hdb:(x == ("__debug__" : Str))=false:=by decide)
  (he:starEach (e::es) X.env=(false,eval e X.env)::starEach es X.env:=by rfl) (hpl:(backTo pos (starEach es X.env)).any (·.1)=false:=by rfl):XE X cf (.Call (.Name x p) (e::es) [] pos) (.blt bb j):=by
 refine zak (pe_callTy hc hg hm hv ha hn hdb he hpl) fun s H Q h=>?_
 obtain ⟨r,sg,M,z,M',hs,hh,e,q⟩:=h
 simp only [evE] at e
 split at e
 ·rename_i xs M1 e1
  exact ⟨r,sg,M,xs,M1,hs,hh,e1,fun r1 us H1 x1 h1 v1=>⟨r1,M1,xs,z,M',h1,v1,e,fun r2 u2 H2 x2 h2 v2=>q r2 u2 H2 (x1.trans x2) h2 v2⟩⟩
 ·cases e
theorem zaf:CallR X (.builtin "len") (RCl X.K fun M=>zJ M .len):=by
 intro pins s σ H vs us Q I rv h
 obtain ⟨r,M,xs,z,M',hh,hv,e,q⟩:=h
 cases hv with
 | nil=>simp [zJ] at e
 | @cons x xs v vs hx hv =>
  cases hv with
  | cons _ _=>simp [zJ] at e
  | nil =>
   cases hx with
   | str zz =>
    simp only [zJ] at e
    split at e
    ·rename_i hl;cases e;exact call_len_str pins s σ H _ us Q I rv ⟨zz,rfl,hl,q.here hh (.int _)⟩
    ·cases e
   | @tup ys a vs ht hys =>
    simp only [zJ] at e
    cases e
    refine call_len_seq pins s σ H _ us Q I rv ⟨a,vs,rfl,.inr ht,?_⟩
    rw [<- hys.length]
    exact q.here hh (.int _)
   | @ptup ys a vs ht hys =>
    simp only [zJ] at e
    cases e
    refine call_len_seq pins s σ H _ us Q I rv ⟨a,vs,rfl,.inr ht.sqT,?_⟩
    rw [<- hys.length]
    exact q.here hh (.int _)
   | @cl ns a hc =>
    simp only [zJ] at e
    cases e
    refine call_len_seq pins s σ H _ us Q I rv ⟨a,_,rfl,.inl hc.sq,?_⟩
    rw [List.length_map]
    exact q.here hh (.int _)
   | @ref n a hn =>
    simp only [zJ] at e
    split at e
    ·rename_i ys e1
     cases e
     obtain ⟨b1,g1,vs,g2,g3⟩:=hh.at e1
     rw [hn] at g1;cases g1
     refine call_len_seq pins s σ H _ us Q I rv ⟨a,vs,rfl,.inl (.inl (.inl g2)),?_⟩
     rw [<- g3.length]
     exact q.here hh (.int _)
    ·rename_i ys e1
     cases e
     obtain ⟨vs,g2,g3,g4⟩:=zhg hh e1 hn
     refine call_lenD pins s σ H _ us Q I rv ⟨a,vs,rfl,g2,?_⟩
     have:vs.length=ys.length:=by
      have:=congrArg List.length g3
      simpa using this
     rw [this]
     exact q.here hh (.int _)
    ·cases e
   | _=>simp [zJ] at e
theorem zb1 {bb:B} {K:PySem.W.Frag} {r:List Addr} {H:Hp} {xs:List PV} {vs:List V} (h:RVs K r H xs vs) {x:PV} (e:xs=[x]):∃ v,vs=[v]/\RV K r H x v:=by
 subst e
 cases h with
 | cons h hs=>cases hs;exact ⟨_,rfl,h⟩
theorem zdA:CallR X (.type "int") (RCl X.K fun M=>zJ M .int):=by
 intro pins s σ H vs us Q I rv h
 obtain ⟨r,M,xs,z,M',hh,hv,e,q⟩:=h
 cases hv with
 | nil=>simp [zJ] at e
 | @cons x xs v vs hx hv =>
  cases hv with
  | cons _ _=>cases x<;>simp [zJ] at e
  | nil =>
   cases hx with
   | int k=>simp only [zJ] at e;cases e;exact call_int1 pins s σ H _ us Q I rv (.inl ⟨k,rfl,q.here hh (.int _)⟩)
   | bl k=>simp only [zJ] at e;cases e;exact call_int1 pins s σ H _ us Q I rv (.inr ⟨k,rfl,q.here hh (.int _)⟩)
   | _=>simp [zJ] at e
theorem cl_abs:CallR X (.builtin "abs") (RCl X.K fun M=>zJ M .abs):=by
 intro pins s σ H vs us Q I rv h
 obtain ⟨r,M,xs,z,M',hh,hv,e,q⟩:=h
 cases hv with
 | nil=>simp [zJ] at e
 | @cons x xs v vs hx hv =>
  cases hv with
  | cons _ _=>cases x<;>simp [zJ] at e
  | nil =>
   cases hx with
   | int k=>simp only [zJ] at e;cases e;exact call_abs pins s σ H _ us Q I rv ⟨k,rfl,q.here hh (.int _)⟩
   | _=>simp [zJ] at e
theorem cl_min2 (hc:X.calm=true):CallR X (.builtin "min") (RCl X.K fun M=>zJ M .min2):=by
 intro pins s σ H vs us Q I rv h
 obtain ⟨r,M,xs,z,M',hh,hv,e,q⟩:=h
 match xs,hv,e with
 | [.int i,.int j],hv,e =>
  cases hv with
  | cons h1 hv2 =>
   cases hv2 with
   | cons h2 hv3 =>
    cases hv3
    cases h1
    cases h2
    simp only [zJ] at e
    obtain ⟨rfl,rfl⟩:=Prod.mk.inj (Option.some.inj e)
    exact call_min2 hc pins s σ H _ us Q I rv ⟨i,j,rfl,q.here hh (.int _)⟩
theorem bls_ok {K:PySem.W.Frag} {r:List Addr} {H:Hp}:∀ {xs:List PV} {vs:List V} {bs:List Bool},RVs K r H xs vs->ze7 xs=some bs->vs=bs.map V.bl
 | [],_,_,.nil,e=>by simp [ze7] at e;subst e;rfl
 | x::xs,_,_,.cons h hs,e=>by
  cases x with
  | bl b =>
   simp only [ze7] at e
   obtain ⟨bs,e1,rfl⟩:=Option.map_eq_some_iff.mp e
   cases h
   rw [bls_ok hs e1]
   rfl
  | _=>simp [ze7] at e
theorem zf8 {K:PySem.W.Frag} {r:List Addr} {H:Hp}:∀ {xs:List PV} {vs:List V} {bs:List Int},RVs K r H xs vs->zaV xs=some bs->vs=bs.map V.int
 | [],_,_,.nil,e=>by simp [zaV] at e;subst e;rfl
 | x::xs,_,_,.cons h hs,e=>by
  cases x with
  | int b =>
   simp only [zaV] at e
   obtain ⟨bs,e1,rfl⟩:=Option.map_eq_some_iff.mp e
   cases h
   rw [zf8 hs e1]
   rfl
  | _=>simp [zaV] at e
theorem zdN {K:PySem.W.Frag} {r:List Addr} {H:Hp}:∀ ns:List Int,RVs K r H (ns.map PV.int) (ns.map V.int)
 | []=>.nil
 | n::ns=>.cons (.int n) (zdN ns)
theorem zcH (hc:X.calm=true):CallR X (.builtin "all") (RCl X.K fun M=>zJ M .all):=by
 intro pins s σ H vs us Q I rv h
 obtain ⟨r,M,xs,z,M',hh,hv,e,q⟩:=h
 match xs,hv,e with
 | [.ref n],hv,e =>
  obtain ⟨v,rfl,hv1⟩:=zb1 (bb:=.all) hv rfl
  simp only [zJ] at e
  obtain ⟨bs,e1,e2⟩:=Option.map_eq_some_iff.mp e
  obtain ⟨ys,e3,e4⟩:=Option.bind_eq_some_iff.mp e1
  cases e2
  obtain ⟨a,ws,g1,g2,g3⟩:=zbd hh e3
  have:=hv1.refAt g1
  subst this
  rw [bls_ok g3 e4] at g2
  exact cr_all hc pins s σ H _ us Q I rv ⟨a,bs,rfl,.inl (.inl g2),q.here hh (.bl _)⟩
theorem cl_sum (hc:X.calm=true):CallR X (.builtin "sum") (RCl X.K fun M=>zJ M .sum):=by
 intro pins s σ H vs us Q I rv h
 obtain ⟨r,M,xs,z,M',hh,hv,e,q⟩:=h
 match xs,hv,e with
 | [.ref n],hv,e =>
  obtain ⟨v,rfl,hv1⟩:=zb1 (bb:=.all) hv rfl
  simp only [zJ] at e
  obtain ⟨bs,e1,e2⟩:=Option.map_eq_some_iff.mp e
  obtain ⟨ys,e3,e4⟩:=Option.bind_eq_some_iff.mp e1
  cases e2
  obtain ⟨a,ws,g1,g2,g3⟩:=zbd hh e3
  have:=hv1.refAt g1
  subst this
  rw [zf8 g3 e4] at g2
  exact cr_sum hc pins s σ H _ us Q I rv ⟨a,bs,rfl,.inl (.inl g2),q.here hh (.int _)⟩
theorem zdz:CallR X (.type "tuple") (RCl X.K fun M=>zJ M .tuple):=by
 intro pins s σ H vs us Q I rv h
 obtain ⟨r,M,xs,z,M',hh,hv,e,q⟩:=h
 match xs,hv,e with
 | [.ref n],hv,e =>
  obtain ⟨v,rfl,hv1⟩:=zb1 (bb:=.all) hv rfl
  simp only [zJ] at e
  obtain ⟨ys,e3,e2⟩:=Option.map_eq_some_iff.mp e
  cases e2
  obtain ⟨a,ws,g1,g2,g3⟩:=zbd hh e3
  have:=hv1.refAt g1
  subst this
  exact call_tuple_of pins s σ H _ us Q I rv ⟨a,ws,rfl,.inl ⟨.inl (.inl g2),fun p hp=>q.tup hh g3 hp⟩⟩
 | [.tup ys],hv,e =>
  obtain ⟨v,rfl,hv1⟩:=zb1 (bb:=.all) hv rfl
  simp only [zJ] at e
  cases e
  cases hv1 with
  | @tup _ a ws ht hs=>exact call_tuple_of pins s σ H _ us Q I rv ⟨a,ws,rfl,.inr ⟨ht,q.here hh (.tup ht hs)⟩⟩
theorem zgk:CallR X (.type "list") (RCl X.K fun M=>zJ M .list):=by
 intro pins s σ H vs us Q I rv h
 obtain ⟨r,M,xs,z,M',hh,hv,e,q⟩:=h
 match xs,hv,e with
 | [x],hv,e =>
  obtain ⟨v,rfl,hv1⟩:=zb1 (bb:=.all) hv rfl
  simp only [zJ] at e
  obtain ⟨ys,e3,e2⟩:=Option.map_eq_some_iff.mp e
  cases e2
  cases hv1 with
  | @tup ws a vs ht hs=>simp only [zff] at e3;cases e3;exact call_list_of pins s σ H _ us Q I rv ⟨a,vs,rfl,.inr ht,fun p hp=>q.lst hh hs hp⟩
  | @ptup ws a vs ht hs=>simp only [zff] at e3;cases e3;exact call_list_of pins s σ H _ us Q I rv ⟨a,vs,rfl,.inr ht.sqT,fun p hp=>q.lst hh hs hp⟩
  | @ref n a hn =>
   simp only [zff] at e3
   obtain ⟨a',ws,g1,g2,g3⟩:=zbd hh e3
   rw [hn] at g1;cases g1
   exact call_list_of pins s σ H _ us Q I rv ⟨a,ws,rfl,.inl (.inl (.inl g2)),fun p hp=>q.lst hh g3 hp⟩
  | @cl ns a hc=>simp only [zff] at e3;cases e3;exact call_list_of pins s σ H _ us Q I rv ⟨a,_,rfl,.inl hc.sq,fun p hp=>q.lst hh (zdN ns) hp⟩
  | _=>simp [zff] at e3
theorem zeQ (i:Int):∀ ns,(zjG i ns).Perm (i::ns)
 | []=>.refl _
 | j::r=>by
  unfold zjG
  split
  ·exact .refl _
  ·exact ((zeQ i r).cons j).trans (.swap i j r)
theorem zb5:∀ ns,(zau ns).Perm ns
 | []=>.refl _
 | i::r=>(zeQ i (zau r)).trans ((zb5 r).cons i)
theorem zeP (i:Int):∀ ns:List Int,ns.Pairwise (· <= ·)->(zjG i ns).Pairwise (· <= ·)
 | [],_=>by simp [zjG]
 | j::r,h=>by
  unfold zjG
  rw [List.pairwise_cons] at h
  split
  ·rename_i hij
   refine List.pairwise_cons.mpr ⟨fun y hy=>?_,List.pairwise_cons.mpr h⟩
   rcases List.mem_cons.mp hy with rfl | hy
   ·exact hij
   ·have:=h.1 y hy;omega
  ·rename_i hij
   refine List.pairwise_cons.mpr ⟨fun y hy=>?_,zeP i r h.2⟩
   rcases List.mem_cons.mp ((zeQ i r).mem_iff.mp hy) with rfl | hy
   ·omega
   ·exact h.1 y hy
theorem zdW:∀ ns:List Int,(zau ns).Pairwise (· <= ·)
 | []=>by simp [zau]
 | i::r=>zeP i _ (zdW r)
theorem zfr {ns ns':List Int} (p:ns'.Perm ns) (s:ns'.Pairwise (· <= ·)):ns'=zau ns :=
 PySem.W.ksm_same (p.trans (zb5 ns).symm) s (zdW ns)
theorem ziN:∀ {kvs:List (Key × PV)} {ns:List Int},zbH kvs=some ns->kvs.map (·.1)=ns.map Sum.inl
 | [],_,e=>by simp [zbH] at e;subst e;rfl
 | (.inl i,v)::r,_,e=>by
  simp only [zbH] at e
  obtain ⟨ns,e1,rfl⟩:=Option.map_eq_some_iff.mp e
  simp [ziN e1]
 | (.inr i,v)::r,_,e=>by simp [zbH] at e
theorem zl4 (hc:X.calm=true):CallR X (.builtin "sorted") (RCl X.K fun M=>zJ M .sorted):=by
 intro pins s σ H vs us Q I rv h
 obtain ⟨r,M,xs,z,M',hh,hv,e,q⟩:=h
 match xs,hv,e with
 | [.ref n],hv,e =>
  obtain ⟨v,rfl,hv1⟩:=zb1 (bb:=.all) hv rfl
  simp only [zJ] at e
  split at e
  ·rename_i ys e0
   obtain ⟨ns,e1,e2⟩:=Option.bind_eq_some_iff.mp e
   split at e2
   ·rename_i hl
    cases e2
    obtain ⟨a,g1,ws,g2,g3⟩:=hh.at e0
    have:=hv1.refAt g1
    subst this
    rw [zf8 g3 e1] at g2
    refine cr_sorted pins s σ H _ us Q I rv ⟨a,ns,rfl,.inl (.inl g2),hl,fun ns' p pm so hp=>?_⟩
    rw [zfr pm so]
    exact q.lst hh (zdN _) hp
   ·cases e2
  ·rename_i kvs e0
   obtain ⟨ns,e1,e2⟩:=Option.bind_eq_some_iff.mp e
   split at e2
   ·rename_i hl
    cases e2
    obtain ⟨a,g1,g⟩:=hh.at e0
    have:=hv1.refAt g1
    subst this
    obtain ⟨ws,g2,g3,g4⟩:=g
    refine call_sortedDI hc pins s σ H _ us Q I rv ⟨a,ws,ns,rfl,.inl g2,by rw [g3];exact ziN e1,hl,fun ns' p pm so hp=>?_⟩
    rw [zfr pm so]
    exact q.lst hh (zdN _) hp
   ·cases e2
  ·cases e
end
end Mp
namespace Mp
open PySem L2 PyProof.Rows
section
variable {prog:Program} {w:World} {A:Around} {E:Value->Shared->Prop} {s:Shared} {z TI TO i1 i2 l1 l2:Addr} {k1 k2:Nat} {xs ys:Array Value} {x y a b:Value}
theorem zki {Q:Value->Shared->Prop} (D:ZipApart z TI TO i1 i2 l1 l2) (hz:IsZip s.heap z TI TO Value.none) (hTI:IsPair s.heap TI (Value.ref i1) (Value.ref i2)) (hTO:IsPair s.heap TO a b) (h1:s.heap.IsTupleIter i1 l1 k1) (h2:s.heap.IsListIter i2 l2 k2) (hl1:s.heap.IsTuple l1 xs) (hl2:s.heap.IsList l2 ys) (hx:xs[k1]? = some x) (hy:ys[k2]? = some y)
  (hQ:∀ (h':Heap),IsZip h' z TI TO (rawInt ↑s.heap.objs.size)->IsPair h' TO x y->h'.IsTupleIter i1 l1 (k1+1)->h'.IsListIter i2 l2 (k2+1)->IsPair h' s.heap.objs.size x y->h'.objs.size=s.heap.objs.size+1->(∀ (c:Addr) (o:Obj),c≠z->c≠TO->c≠i1->c≠i2->s.heap.get? c=some o->h'.get? c=some o)->Q (Value.ref s.heap.objs.size) { s with heap:=h' }) :
  wpAny (model prog w) A (Builtin.«zip.__next__» { pos:=[Value.ref z] }) (fun fin s'=>∃ v,fin=Fin.done (Flow.ret v)/\Q v s') E s:=by
 refine wpAny_bind (wpAny_pure ?_)
 refine wpAny_bind (wpAny_field hz rfl rfl ?_)
 refine wpAny_bind (wpAny_field hz rfl rfl ?_)
 refine wpAny_bind (wpAny_seqItems hTI rfl ?_)
 refine wpAny_bind ?_
 refine wpAny_bind (wpAny_field hz rfl rfl ?_)
 refine wpAny_pure ?_
 refine wpAny_bind (wpAny_rule ?_)
 refine wpAny_bind (wpAny_field hz rfl rfl ?_)
 refine wpAny_bind (wpAny_setField_rec hz (by simp) fun h₁ hz₁ hs₁=>?_)
 refine wpAny_bind ?_
 rw [show (#[Value.ref i1,Value.ref i2].toList.zipIdx:List (Value × Nat))=[(Value.ref i1,0),(Value.ref i2,1)] from rfl,List.forIn_cons]
 refine wpAny_bind ?_
 refine wpAny_bind ?_
 refine wpAny_onRaise ?_
 refine wpAny_bind ?_
 have hl1':h₁.IsTuple l1 xs:=Heap.IsTuple.extBut hl1 (Heap.SameBut.extBut hs₁) D.l1z
 have h1':h₁.IsTupleIter i1 l1 k1:=Heap.IsTupleIter.extBut h1 (Heap.SameBut.extBut hs₁) D.i1z
 refine RZ.nextOf_tuple_item h1' hl1' hx fun h₂ h1₂ hs₂=>?_
 refine wpAny_pure ?_
 have hTO₂:IsPair h₂ TO a b:=Heap.SameBut.extBut hs₂ TO _ D.TOi1 (Heap.SameBut.extBut hs₁ TO _ D.TOz hTO)
 refine wpAny_bind (wpAny_seqItems hTO₂ rfl ?_)
 refine wpAny_bind (wpAny_updateSeq_pair hTO₂ fun h₃ hTO₃ hs₃=>?_)
 refine wpAny_bind (wpAny_letGo ?_)
 refine wpAny_pure ?_
 simp only
 rw [List.forIn_cons]
 refine wpAny_bind ?_
 refine wpAny_bind ?_
 refine wpAny_onRaise ?_
 refine wpAny_bind ?_
 have hl2':h₃.IsList l2 ys:=Heap.IsList.extBut (Heap.IsList.extBut (Heap.IsList.extBut hl2 (Heap.SameBut.extBut hs₁) D.l2z) (Heap.SameBut.extBut hs₂) D.l2i1) (Heap.SameBut.extBut hs₃) D.l2TO
 have h2':h₃.IsListIter i2 l2 k2:=Heap.IsListIter.extBut (Heap.IsListIter.extBut (Heap.IsListIter.extBut h2 (Heap.SameBut.extBut hs₁) D.i2z) (Heap.SameBut.extBut hs₂) (Ne.symm D.i12)) (Heap.SameBut.extBut hs₃) (Ne.symm D.TOi2)
 refine wpAny_nextOf_list_item h2' hl2' hy fun h₄ h2₄ hs₄=>?_
 refine wpAny_pure ?_
 have hTO₄:IsPair h₄ TO x b:=Heap.SameBut.extBut hs₄ TO _ D.TOi2 hTO₃
 refine wpAny_bind (wpAny_seqItems hTO₄ rfl ?_)
 refine wpAny_bind (wpAny_updateSeq_pair hTO₄ fun h₅ hTO₅ hs₅=>?_)
 refine wpAny_bind (wpAny_letGo ?_)
 refine wpAny_pure ?_
 simp only
 rw [List.forIn_nil]
 refine wpAny_pure ?_
 simp only
 have hTO₅:IsPair h₅ TO x y:=hTO₅
 refine wpAny_bind (wpAny_seqItems hTO₅ rfl ?_)
 refine wpAny_bind ?_
 have c₂:=Heap.SameBut.extBut hs₂
 have c₃:=Heap.SameBut.extBut hs₃
 have c₄:=Heap.SameBut.extBut hs₄
 have c₅:=Heap.SameBut.extBut hs₅
 have hz₅:=c₅ z _ (Ne.symm D.TOz) (c₄ z _ (Ne.symm D.i2z) (c₃ z _ (Ne.symm D.TOz) (c₂ z _ (Ne.symm D.i1z) hz₁)))
 refine wpAny_newTuple ?_ (by show (2:Nat)<=sizeLine;decide)
 have hz₆:=Heap.get?_push_of_some { cls:=Value.type "tuple",data:=Data.seq #[x,y] } hz₅
 refine wpAny_bind ?_
 refine wpAny_bind ?_
 refine wpAny_setField_rec hz₆ (by simp) fun h₇ hz₇ hs₇=>?_
 refine wpAny_setField_rec hz₇ (by simp) fun h₈ hz₈ hs₈=>?_
 refine wpAny_pure ?_
 have hsz:h₅.objs.size=s.heap.objs.size:=by
  have a1:=hs₁.1
  have a2:=hs₂.1
  have a3:=hs₃.1
  have a4:=hs₄.1
  have a5:=hs₅.1
  simp only at a1 a2 a3 a4 a5
  omega
 have c₁:=Heap.SameBut.extBut hs₁
 have c₇:=Heap.SameBut.extBut hs₇
 have c₈:=Heap.SameBut.extBut hs₈
 have hpu:∀ (c:Addr) (o:Obj),h₅.get? c=some o->(h₅.push { cls:=Value.type "tuple",data:=Data.seq #[x,y] }).get? c=some o:=fun c o q=>Heap.get?_push_of_some _ q
 have hzl:z<s.heap.objs.size:=Heap.lt_size hz
 refine ⟨_,rfl,?_⟩
 show Q (Value.ref h₅.objs.size) { s with heap:=h₈ }
 rw [hsz]
 refine hQ h₈ (by rw [<- hsz];exact hz₈) (c₈ TO _ D.TOz (c₇ TO _ D.TOz (hpu _ _ hTO₅))) ?_ ?_ ?_ ?_ ?_
 ·exact Heap.IsTupleIter.at h1₂ fun o q=>c₈ i1 _ D.i1z (c₇ i1 _ D.i1z (hpu _ _ (c₅ i1 _ (Ne.symm D.TOi1) (c₄ i1 _ D.i12 (c₃ i1 _ (Ne.symm D.TOi1) q)))))
 ·exact Heap.IsListIter.at h2₄ fun o q=>c₈ i2 _ D.i2z (c₇ i2 _ D.i2z (hpu _ _ (c₅ i2 _ (Ne.symm D.TOi2) q)))
 ·rw [<- hsz]
  have hne:h₅.objs.size≠z:=Nat.ne_of_gt (by rw [hsz];exact hzl)
  exact c₈ _ _ hne (c₇ _ _ hne (Heap.get?_push_size h₅ rfl))
 ·have a6:=Heap.size_push h₅ { cls:=Value.type "tuple",data:=Data.seq #[x,y].toList.toArray }
  exact hs₈.1.trans (hs₇.1.trans (a6.trans (by rw [hsz])))
 ·intro c o n1 n2 n3 n4 q
  exact c₈ c o n1 (c₇ c o n1 (hpu _ _ (c₅ c o n2 (c₄ c o n4 (c₃ c o n2 (c₂ c o n3 (c₁ c o n1 q)))))))
theorem zipM_end {Q:PySem.Fin->Shared->Prop} (hh:A.handled=none) (D:ZipApart z TI TO i1 i2 l1 l2) (hz:IsZip s.heap z TI TO Value.none) (hTI:IsPair s.heap TI (Value.ref i1) (Value.ref i2)) (hTO:IsPair s.heap TO a b) (h1:s.heap.IsTupleIter i1 l1 k1) (h2:s.heap.IsListIter i2 l2 k2) (hl1:s.heap.IsTuple l1 xs) (hl2:s.heap.IsList l2 ys) (hend:xs[k1]? = none\/ys[k2]? = none)
  (hE:∀ (h':Heap) (e:Addr),(∀ (c:Addr) (o:Obj),c≠z->c≠TO->c≠i1->c≠i2->s.heap.get? c=some o->h'.get? c=some o)->(∃ o,h'.get? e=some o/\o.cls=Value.type "StopIteration")->E (Value.ref e) { s with heap:=h' }) :
  wpAny (model prog w) A (Builtin.«zip.__next__» { pos:=[Value.ref z] }) Q E s:=by
 refine wpAny_bind (wpAny_pure ?_)
 refine wpAny_bind (wpAny_field hz rfl rfl ?_)
 refine wpAny_bind (wpAny_field hz rfl rfl ?_)
 refine wpAny_bind (wpAny_seqItems hTI rfl ?_)
 refine wpAny_bind ?_
 refine wpAny_bind (wpAny_field hz rfl rfl ?_)
 refine wpAny_pure ?_
 refine wpAny_bind (wpAny_rule ?_)
 refine wpAny_bind (wpAny_field hz rfl rfl ?_)
 refine wpAny_bind (wpAny_setField_rec hz (by simp) fun h₁ hz₁ hs₁=>?_)
 refine wpAny_bind ?_
 rw [show (#[Value.ref i1,Value.ref i2].toList.zipIdx:List (Value × Nat))=[(Value.ref i1,0),(Value.ref i2,1)] from rfl,List.forIn_cons]
 refine wpAny_bind ?_
 refine wpAny_bind ?_
 refine wpAny_onRaise ?_
 refine wpAny_bind ?_
 have hl1':h₁.IsTuple l1 xs:=Heap.IsTuple.extBut hl1 (Heap.SameBut.extBut hs₁) D.l1z
 have h1':h₁.IsTupleIter i1 l1 k1:=Heap.IsTupleIter.extBut h1 (Heap.SameBut.extBut hs₁) D.i1z
 have c₁:=Heap.SameBut.extBut hs₁
 have ne:∀ {h:Heap} {e:Addr} {oe:Obj} {fs:Array Value},h.get? z=some { cls:=Value.type "zip",data:=Data.fields fs }->h.get? e=some oe->oe.cls=Value.type "StopIteration" -> e≠z:=fun g1 g2 g3 q=>by
  subst q
  rw [g1] at g2
  injection g2 with g2
  subst g2
  simp at g3
 cases hx:xs[k1]? with
 | none =>
  refine RZ.nextOf_tuple_end hh h1' hl1' hx fun h₂ e hs₂ he=>?_
  obtain ⟨oe,hoe,hce⟩:=he
  have hz₂:=hs₂ z _ (Ne.symm D.i1z) hz₁
  have hez:=ne hz₂ hoe hce
  refine wpAny_setField_rec hz₂ (by simp) fun h₃ _ hs₃=>?_
  have c₃:=Heap.SameBut.extBut hs₃
  exact hE h₃ e (fun c o n1 n2 n3 n4 q=>c₃ c o n1 (hs₂ c o n3 (c₁ c o n1 q))) ⟨oe,c₃ e oe hez hoe,hce⟩
 | some x =>
  have hy:ys[k2]? = none:=by
   rcases hend with q | q
   ·rw [hx] at q;cases q
   ·exact q
  refine RZ.nextOf_tuple_item h1' hl1' hx fun h₂ h1₂ hs₂=>?_
  refine wpAny_pure ?_
  have hTO₂:IsPair h₂ TO a b:=Heap.SameBut.extBut hs₂ TO _ D.TOi1 (Heap.SameBut.extBut hs₁ TO _ D.TOz hTO)
  refine wpAny_bind (wpAny_seqItems hTO₂ rfl ?_)
  refine wpAny_bind (wpAny_updateSeq_pair hTO₂ fun h₃ hTO₃ hs₃=>?_)
  refine wpAny_bind (wpAny_letGo ?_)
  refine wpAny_pure ?_
  simp only
  rw [List.forIn_cons]
  refine wpAny_bind ?_
  refine wpAny_bind ?_
  refine wpAny_onRaise ?_
  refine wpAny_bind ?_
  have hl2':h₃.IsList l2 ys:=Heap.IsList.extBut (Heap.IsList.extBut (Heap.IsList.extBut hl2 (Heap.SameBut.extBut hs₁) D.l2z) (Heap.SameBut.extBut hs₂) D.l2i1) (Heap.SameBut.extBut hs₃) D.l2TO
  have h2':h₃.IsListIter i2 l2 k2:=Heap.IsListIter.extBut (Heap.IsListIter.extBut (Heap.IsListIter.extBut h2 (Heap.SameBut.extBut hs₁) D.i2z) (Heap.SameBut.extBut hs₂) (Ne.symm D.i12)) (Heap.SameBut.extBut hs₃) (Ne.symm D.TOi2)
  refine wpAny_nextOf_list_end hh h2' hl2' hy fun h₄ e hs₄ he=>?_
  obtain ⟨oe,hoe,hce⟩:=he
  have c₂:=Heap.SameBut.extBut hs₂
  have c₃:=Heap.SameBut.extBut hs₃
  have hz₄:=hs₄ z _ (Ne.symm D.i2z) (c₃ z _ (Ne.symm D.TOz) (c₂ z _ (Ne.symm D.i1z) hz₁))
  have hez:=ne hz₄ hoe hce
  refine wpAny_setField_rec hz₄ (by simp) fun h₅ _ hs₅=>?_
  have c₅:=Heap.SameBut.extBut hs₅
  exact hE h₅ e (fun c o n1 n2 n3 n4 q=>c₅ c o n1 (hs₄ c o n4 (c₃ c o n2 (c₂ c o n3 (c₁ c o n1 q))))) ⟨oe,c₅ e oe hez hoe,hce⟩
theorem zee {Q:Option Value->Shared->Prop} (D:ZipApart z TI TO i1 i2 l1 l2) (hz:IsZip s.heap z TI TO Value.none) (hTI:IsPair s.heap TI (Value.ref i1) (Value.ref i2)) (hTO:IsPair s.heap TO a b) (h1:s.heap.IsTupleIter i1 l1 k1) (h2:s.heap.IsListIter i2 l2 k2) (hl1:s.heap.IsTuple l1 xs) (hl2:s.heap.IsList l2 ys) (hx:xs[k1]? = some x) (hy:ys[k2]? = some y)
  (hQ:∀ (h':Heap),IsZip h' z TI TO (rawInt ↑s.heap.objs.size)->IsPair h' TO x y->h'.IsTupleIter i1 l1 (k1+1)->h'.IsListIter i2 l2 (k2+1)->IsPair h' s.heap.objs.size x y->h'.objs.size=s.heap.objs.size+1->(∀ (c:Addr) (o:Obj),c≠z->c≠TO->c≠i1->c≠i2->s.heap.get? c=some o->h'.get? c=some o)->Q (some (Value.ref s.heap.objs.size)) { s with heap:=h' }) :
  wpAny (model prog w) A (pyNext (Value.ref z)) Q E s:=by
 have hT:s.TypeIs (Value.ref z) "zip" := ⟨_,hz,rfl⟩
 exact wpAny_bind (wpAny_attempt (wpAny_callSpecial?_slot hT F.slot_zip_next (wpAny_call_entry F.slot_zip_next hT F.entry_zip_next (zki D hz hTI hTO h1 h2 hl1 hl2 hx hy fun h' a1 a2 a3 a4 a5 a6 a7=>wpAny_pure (hQ h' a1 a2 a3 a4 a5 a6 a7)) (F.args_zip_next_1 (Value.ref z)))))
theorem zeH {Q:Option Value->Shared->Prop} (hh:A.handled=none) (D:ZipApart z TI TO i1 i2 l1 l2) (hz:IsZip s.heap z TI TO Value.none) (hTI:IsPair s.heap TI (Value.ref i1) (Value.ref i2)) (hTO:IsPair s.heap TO a b) (h1:s.heap.IsTupleIter i1 l1 k1) (h2:s.heap.IsListIter i2 l2 k2) (hl1:s.heap.IsTuple l1 xs) (hl2:s.heap.IsList l2 ys) (hend:xs[k1]? = none\/ys[k2]? = none)
  (hQ:∀ (h':Heap),(∀ (c:Addr) (o:Obj),c≠z->c≠TO->c≠i1->c≠i2->s.heap.get? c=some o->h'.get? c=some o)->Q none { s with heap:=h' }) :
  wpAny (model prog w) A (pyNext (Value.ref z)) Q E s:=by
 have hT:s.TypeIs (Value.ref z) "zip" := ⟨_,hz,rfl⟩
 exact wpAny_bind (wpAny_attempt (wpAny_callSpecial?_slot hT F.slot_zip_next (wpAny_call_entry F.slot_zip_next hT F.entry_zip_next (zipM_end hh D hz hTI hTO h1 h2 hl1 hl2 hend fun h' e hk he=>by
  obtain ⟨o,ho,hc⟩:=he
  exact wpAny_bind (wpAny_isInstance ⟨o,ho,hc⟩ isSubtype_stop (wpAny_pure (hQ h' hk)))) (F.args_zip_next_1 (Value.ref z)))))
end
def ItzM (K:PySem.W.Frag) (a b:Addr):L2.It where
 go i H:=∃ xs ys x y,SqT K H a xs/\SqL K H b ys/\xs[i]? = some x/\ys[i]? = some y
 yld i H v H':=∃ T x y,v=V.ref T/\H T=none/\H'=upd H T (HO.tup [x,y])/\(∀ xs:List V,SqT K H a xs->xs[i]? = some x)/\∀ ys:List V,SqL K H b ys->ys[i]? = some y
 stop i H:=∃ xs ys,SqT K H a xs/\SqL K H b ys/\(xs.length<=i\/ys.length<=i)
theorem zkw {P:Program} {w:World} {K:PySem.W.Frag} {elts:List Expr} {kk:Nat} {tpos:Pos} {a b z TI TO i1 i2:Addr} (D:ZipApart z TI TO i1 i2 a b) :
  L2.Turn P w K (Expr.Tuple elts kk tpos) (ItzM K a b) [z,TI,TO,i1,i2] z fun i h =>
   IsZip h z TI TO Value.none/\IsPair h TI (Value.ref i1) (Value.ref i2)/\(∃ x y,IsPair h TO x y)/\h.IsTupleIter i1 a i/\h.IsListIter i2 b i where
 mem:=by simp
 obj i h st c hc:=by
  obtain ⟨hz,hTI,⟨x,y,hTO⟩,⟨o1,e1,_,d1⟩,⟨o2,e2,_,d2⟩⟩:=st
  simp only [List.mem_cons,List.not_mem_nil,or_false] at hc
  rcases hc with rfl | rfl | rfl | rfl | rfl
  ·exact ⟨_,hz,fun v=>by simp⟩
  ·exact ⟨_,hTI,fun v=>by simp⟩
  ·exact ⟨_,hTO,fun v=>by simp⟩
  ·exact ⟨_,e1,fun v=>by rw [d1];simp⟩
  ·exact ⟨_,e2,fun v=>by rw [d2];simp⟩
 keep i h h' st k:=by
  obtain ⟨hz,hTI,⟨x,y,hTO⟩,h1,h2⟩:=st
  exact ⟨k z (by simp) _ hz,k TI (by simp) _ hTI,⟨x,y,k TO (by simp) _ hTO⟩,Heap.IsTupleIter.at h1 fun o q=>k i1 (by simp) o q,Heap.IsListIter.at h2 fun o q=>k i2 (by simp) o q⟩
 item X hP hw hK hc i pins s σ H E I hf st hg:=by
  subst hP;subst hw;subst hK
  obtain ⟨hz,hTI,⟨x0,y0,hTO⟩,h1,h2⟩:=st
  obtain ⟨xs,ys,x,y,hqx,hqy,hx,hy⟩:=hg
  obtain ⟨its,rv,p,_⟩:=I.tuple hqx
  obtain ⟨its2,rv2,p2,_⟩:=I.list hqy
  obtain ⟨u,hu,ru⟩:=Vals.get rv hx
  obtain ⟨u2,hu2,ru2⟩:=Vals.get rv2 hy
  have hzl:=Heap.lt_size hz
  refine zee D hz hTI hTO h1 h2 p p2.isList (by rw [List.getElem?_toArray];exact hu) (by rw [List.getElem?_toArray];exact hu2) fun h' z' TO' h1' h2' hT hsz hk=>?_
  refine ⟨Value.ref s.heap.objs.size,rfl,wpAny_letOwnedTupleGo_zip z' fun h'' z'' sb=>?_⟩
  have hT2:=(sb.2 s.heap.objs.size (Nat.ne_of_gt hzl)).trans hT
  have new:ObjOk X.prog X.w (upd H s.heap.objs.size (HO.tup [x,y])) h'' s.heap.objs.size (HO.tup [x,y]):=⟨by show (2:Nat)<=sizeLine;decide,[u,u2],.cons ru (.cons ru2 .nil),_,hT2,rfl,0,rfl⟩
  have I1:=Inv.turnedNew (t':=s.toks) I (fun c o hb q=>by
   have n1:c≠z:=fun q'=>hb (by rw [q'];simp)
   exact (sb.2 c n1).trans (hk c o n1 (fun q'=>hb (by rw [q'];simp)) (fun q'=>hb (by rw [q'];simp)) (fun q'=>hb (by rw [q'];simp)) q)) hf (Nat.le_refl s.heap.objs.size) new
  refine ⟨V.ref s.heap.objs.size,upd H s.heap.objs.size (HO.tup [x,y]),I1,rfl,⟨s.heap.objs.size,x,y,rfl,HOk.fresh I.hok (Nat.le_refl _),rfl,fun l hl=>by rw [Inv.tuple_inj I hl hqx];exact hx,fun l hl=>by rw [Inv.list_inj I hl hqy];exact hy⟩,⟨z'',(sb.2 TI D.TIz).trans (hk TI _ D.TIz D.TITO D.TIi1 D.TIi2 hTI),⟨u,u2,(sb.2 TO D.TOz).trans TO'⟩,Heap.IsTupleIter.at h1' fun o q=>(sb.2 i1 D.i1z).trans q,Heap.IsListIter.at h2' fun o q=>(sb.2 i2 D.i2z).trans q⟩,fun c hcm=>?_⟩
  have hlt:c<s.heap.objs.size:=by
   obtain ⟨o1,e1,_⟩:=h1
   obtain ⟨o2,e2,_⟩:=h2
   have hcm':=hcm
   simp only [List.mem_cons,List.not_mem_nil,or_false] at hcm'
   rcases hcm' with q | q | q | q | q
   ·rw [q];exact hzl
   ·rw [q];exact Heap.lt_size hTI
   ·rw [q];exact Heap.lt_size hTO
   ·rw [q];exact Heap.lt_size e1
   ·rw [q];exact Heap.lt_size e2
  rw [upd_ne (Nat.ne_of_lt hlt)]
  exact (hf c hcm).1
 done X hP hw hK hc i pins s σ H E I hf st hg:=by
  subst hP;subst hw;subst hK
  obtain ⟨hz,hTI,⟨x0,y0,hTO⟩,h1,h2⟩:=st
  obtain ⟨xs,ys,hqx,hqy,hend⟩:=hg
  obtain ⟨its,rv,p,_⟩:=I.tuple hqx
  obtain ⟨its2,rv2,p2,_⟩:=I.list hqy
  have l1:=Vals.length rv
  have l2:=Vals.length rv2
  have he:its.toArray[i]? = none\/its2.toArray[i]? = none:=by
   rcases hend with q | q
   ·left;rw [List.getElem?_toArray,List.getElem?_eq_none_iff];omega
   ·right;rw [List.getElem?_toArray,List.getElem?_eq_none_iff];omega
  refine zeH (I.ok.hd hc) D hz hTI hTO h1 h2 p p2.isList he fun h' hk=>⟨rfl,Inv.turnedL (t':=s.toks) I (fun c o hb q=>?_) hf⟩
  exact hk c o (fun q'=>hb (by rw [q'];simp)) (fun q'=>hb (by rw [q'];simp)) (fun q'=>hb (by rw [q'];simp)) (fun q'=>hb (by rw [q'];simp)) q
 self A i s Q E st h:=wpAny_pyIter_zip st.1 h
theorem zko {M:Model} {A:Around} {E:Value->Shared->Prop} {s:Shared} {c:String} {vs:List Value} {Q:Value->Shared->Prop} (hl:vs.length<=5) (h:Q (Value.ref s.heap.objs.size) { s with heap:=s.heap.push { cls:=Value.type c,data:=Data.fields vs.toArray } }):wpAny M A (Builtin.SmallTypes.newRecord (Value.type c) vs) Q E s:=by
 obtain ⟨hp,g,d,tk,os⟩:=s
 have h24:sizeLine=16777216:=rfl
 unfold Builtin.SmallTypes.newRecord newObj
 refine wpAny_ite_false (by simp;omega) ?_
 refine wpAny_bind ?_
 refine wpAny_alloc' ?_
 exact wpAny_pure h
def zH1 (h:Heap) (l1:Addr):Heap:=h.push { cls:=Value.type "tuple_iterator",data:=Data.fields #[Value.ref l1,Value.int 0 0] }
def zH2 (h:Heap) (l1 l2:Addr):Heap:=(zH1 h l1).push { cls:=Value.type "list_iterator",data:=Data.fields #[Value.ref l2,Value.int 0 0] }
def zH3 (h:Heap) (l1 l2:Addr):Heap:=(zH2 h l1 l2).push { cls:=Value.type "tuple",data:=Data.seq #[Value.ref h.objs.size,Value.ref (zH1 h l1).objs.size] }
def zH4 (h:Heap) (l1 l2:Addr):Heap:=(zH3 h l1 l2).push { cls:=Value.type "tuple",data:=Data.seq #[Value.none,Value.none] }
def zH5 (h:Heap) (l1 l2:Addr):Heap:=(zH4 h l1 l2).push { cls:=Value.type "zip",data:=Data.fields #[Value.none,Value.bool false,Value.bool false,Value.ref (zH2 h l1 l2).objs.size,Value.ref (zH3 h l1 l2).objs.size] }
theorem zfg (l1 l2:Addr) (xs ys:Array Value):Meets (Builtin.«zip.__new__» { pos:=[Value.type "zip",Value.ref l1,Value.ref l2] }) fun _ R s =>
  s.heap.IsTuple l1 xs/\s.heap.IsList l2 ys/\R (Except.ok (Flow.ret (Value.ref (zH4 s.heap l1 l2).objs.size))) { s with heap:=zH5 s.heap l1 l2 } :=
 Meets.of_wp fun prog w A R s h=>by
  obtain ⟨hp,g,d,tk,os⟩:=s
  obtain ⟨hl1,hl2,h⟩:=h
  have hsub:=sub_zip
  have hL1:hp.IsTuple l1 xs:=hl1
  have hL2:=Heap.IsList.push hl2 { cls:=Value.type "tuple_iterator",data:=Data.fields #[Value.ref l1,Value.int 0 0] }
  refine wpAny_bind ?_
  refine wpAny_bind ?_
  refine wpAny_pure ?_
  refine wpAny_ite_false rfl ?_
  refine wpAny_bind ?_
  refine wpAny_of_eq hsub ?_
  refine wpAny_ite_false rfl ?_
  refine wpAny_pure ?_
  refine wpAny_ite_false rfl ?_
  refine wpAny_bind ?_
  refine wpAny_bind ?_
  refine wpAny_bind ?_
  refine wpAny_bind ?_
  refine wpAny_holding ?_
  refine wpAny_pyIter_tuple hL1 ?_
  refine wpAny_pure ?_
  refine wpAny_bind ?_
  refine wpAny_bind ?_
  refine wpAny_holding ?_
  refine wpAny_pyIter_list hL2 ?_
  refine wpAny_pure ?_
  refine wpAny_pure ?_
  refine wpAny_pure ?_
  refine wpAny_bind ?_
  refine wpAny_newTuple ?_ (by show (2:Nat)<=sizeLine;decide)
  refine wpAny_bind ?_
  refine wpAny_newTuple ?_ (by show (2:Nat)<=sizeLine;decide)
  refine wpAny_bind ?_
  refine zko (Nat.le_refl 5) ?_
  refine wpAny_pure ?_
  exact ⟨_,rfl,h⟩
theorem zl5 {prog:Program} {w:World} {A:Around} {E:Value->Shared->Prop} {s:Shared} {l1 l2:Addr} {xs ys:Array Value} {Q:Value->Shared->Prop} (hl1:s.heap.IsTuple l1 xs) (hl2:s.heap.IsList l2 ys)
  (h:∀ (h':Heap),IsZip h' (s.heap.objs.size+4) (s.heap.objs.size+2) (s.heap.objs.size+3) Value.none->IsPair h' (s.heap.objs.size+2) (Value.ref s.heap.objs.size) (Value.ref (s.heap.objs.size+1))->IsPair h' (s.heap.objs.size+3) Value.none Value.none ->
   h'.IsTupleIter s.heap.objs.size l1 0->h'.IsListIter (s.heap.objs.size+1) l2 0->h'.objs.size=s.heap.objs.size+5->(∀ (c:Addr) (o:Obj),s.heap.get? c=some o->h'.get? c=some o)->Q (Value.ref (s.heap.objs.size+4)) { s with heap:=h' }) :
  wpAny (model prog w) A (call (Value.type "zip") [Value.ref l1,Value.ref l2]) Q E s:=by
 have z1:(zH1 s.heap l1).objs.size=s.heap.objs.size+1:=Heap.size_push _ _
 have z2:(zH2 s.heap l1 l2).objs.size=s.heap.objs.size+2:=(Heap.size_push _ _).trans (by rw [z1])
 have z3:(zH3 s.heap l1 l2).objs.size=s.heap.objs.size+3:=(Heap.size_push _ _).trans (by rw [z2])
 have z4:(zH4 s.heap l1 l2).objs.size=s.heap.objs.size+4:=(Heap.size_push _ _).trans (by rw [z3])
 have z5:(zH5 s.heap l1 l2).objs.size=s.heap.objs.size+5:=(Heap.size_push _ _).trans (by rw [z4])
 have g5:(zH5 s.heap l1 l2).get? (zH4 s.heap l1 l2).objs.size=_:=Heap.get?_push_size (zH4 s.heap l1 l2) rfl
 have p5:∀ (c:Addr) (o:Obj),(zH4 s.heap l1 l2).get? c=some o->(zH5 s.heap l1 l2).get? c=some o:=fun c o q=>Heap.get?_push_of_some _ q
 have p4:∀ (c:Addr) (o:Obj),(zH3 s.heap l1 l2).get? c=some o->(zH4 s.heap l1 l2).get? c=some o:=fun c o q=>Heap.get?_push_of_some _ q
 have p3:∀ (c:Addr) (o:Obj),(zH2 s.heap l1 l2).get? c=some o->(zH3 s.heap l1 l2).get? c=some o:=fun c o q=>Heap.get?_push_of_some _ q
 have p2:∀ (c:Addr) (o:Obj),(zH1 s.heap l1).get? c=some o->(zH2 s.heap l1 l2).get? c=some o:=fun c o q=>Heap.get?_push_of_some _ q
 have p1:∀ (c:Addr) (o:Obj),s.heap.get? c=some o->(zH1 s.heap l1).get? c=some o:=fun c o q=>Heap.get?_push_of_some _ q
 have g4:=p5 _ _ (Heap.get?_push_size (zH3 s.heap l1 l2) (o:={ cls:=Value.type "tuple",data:=Data.seq #[Value.none,Value.none] }) rfl)
 have g3:=p5 _ _ (p4 _ _ (Heap.get?_push_size (zH2 s.heap l1 l2) (o:={ cls:=Value.type "tuple",data:=Data.seq #[Value.ref s.heap.objs.size,Value.ref (zH1 s.heap l1).objs.size] }) rfl))
 have g2:=p5 _ _ (p4 _ _ (p3 _ _ (Heap.get?_push_size (zH1 s.heap l1) (o:={ cls:=Value.type "list_iterator",data:=Data.fields #[Value.ref l2,Value.int 0 0] }) rfl)))
 have g1:=p5 _ _ (p4 _ _ (p3 _ _ (p2 _ _ (Heap.get?_push_size s.heap (o:={ cls:=Value.type "tuple_iterator",data:=Data.fields #[Value.ref l1,Value.int 0 0] }) rfl))))
 rw [z4,z2,z3] at g5
 rw [z3] at g4
 rw [z2,z1] at g3
 rw [z1] at g2
 refine callType_new F.called_zip (by decide) (F.typeCall_zip_2 (Value.ref l1) (Value.ref l2)) (F.newCall_zip_2 (Value.ref l1) (Value.ref l2)) (fun obj=>F.args_object_init_3 obj (Value.ref l1) (Value.ref l2)) F.entry_zip_new (zfg l1 l2 xs ys) ⟨hl1,hl2,?_⟩
 show Shared.TypeIs _ (Value.ref (zH4 s.heap l1 l2).objs.size) "zip" /\ Q (Value.ref (zH4 s.heap l1 l2).objs.size) { s with heap:=zH5 s.heap l1 l2 }
 rw [z4]
 exact ⟨⟨_,g5,rfl⟩,h _ g5 g3 g4 ⟨_,g1,rfl,rfl⟩ ⟨_,g2,rfl,rfl⟩ z5 fun c o q=>p5 _ _ (p4 _ _ (p3 _ _ (p2 _ _ (p1 _ _ q))))⟩
def iZip3 (K:PySem.W.Frag) (ta:TA):TI:=fun σ H R=>ta σ H fun vs H1=>∃ a b xs ys,vs=[V.ref a,V.ref b]/\((SqL K H1 a xs/\SqL K H1 b ys/\R (Itz K a b) H1)\/(SqT K H1 a xs/\SqT K H1 b ys/\R (RZ.ItzT K a b) H1)\/(SqT K H1 a xs/\SqL K H1 b ys/\R (ItzM K a b) H1))
theorem pi_zip3 {X:Cx} {e e2:Expr} {ta:TA} {p pos tpos:Pos} {elts:List Expr} {kk:Nat} (hg:Gl X "zip") (hm:X.mg "zip" = none) (ha:PA X [e,e2] ta)
  (hs:starEach [e,e2] X.env=(false,eval e X.env)::starEach [e2] X.env) (hpl:(backTo pos (starEach [e2] X.env)).any (fun x=>x.1)=false) :
  PI X (.Tuple elts kk tpos) (.Call (.Name "zip" p) [e,e2] [] pos) (iZip3 X.K ta) where
 run pins s σ H R I h:=PyProof.Rows.Call_ (ld_blt I hg hm PyProof.Rows.boot_zip (PyProof.Rows.callWith_type1 (thn (ha.run pos pins s σ H (fun vs H1=>∃ a b xs ys,vs=[V.ref a,V.ref b]/\((SqL X.K H1 a xs/\SqL X.K H1 b ys/\R (Itz X.K a b) H1)\/(SqT X.K H1 a xs/\SqT X.K H1 b ys/\R (RZ.ItzT X.K a b) H1)\/(SqT X.K H1 a xs/\SqL X.K H1 b ys/\R (ItzM X.K a b) H1))) I h) fun us s1 x=>by
  obtain ⟨vs,H1,I1,r1,a,b,xs,ys,rfl,hq⟩:=x
  cases r1 with
  | cons r rr =>
  cases rr with
  | cons r' rr2 =>
  cases rr2
  cases r
  cases r'
  have fresh5:∀ c,c∈[s1.heap.objs.size+4,s1.heap.objs.size+2,s1.heap.objs.size+3,s1.heap.objs.size,s1.heap.objs.size+1]->L2.FpOk X pins H1 c:=fun c hcm=>by
   have hle:s1.heap.objs.size<=c:=by
    simp only [List.mem_cons,List.not_mem_nil,or_false] at hcm
    rcases hcm with z | z | z | z | z<;>rw [z]<;>first | exact Nat.le_add_right _ _ | exact Nat.le_refl _
   exact Inv.fpOk I1 hle (HOk.fresh I1.hok hle)
  rcases hq with ⟨hqx,hqy,q⟩ | ⟨hqx,hqy,q⟩ | ⟨hqx,hqy,q⟩
  ·obtain ⟨its,rv,p1,_⟩:=I1.list hqx
   obtain ⟨its2,rv2,p2,_⟩:=I1.list hqy
   refine call_zip_2 p1.isList p2.isList fun h' hz hTI hTO h1 h2 hsz hk=>wpAny_pyIter_zip hz ?_
   have I2:=Inv.kept (t':=s1.toks) I1 hk
   exact ⟨s1.heap.objs.size+4,[s1.heap.objs.size+4,s1.heap.objs.size+2,s1.heap.objs.size+3,s1.heap.objs.size,s1.heap.objs.size+1],_,Itz X.K a b,H1,rfl,I2,turn_zip (PySem.W.ktu_apart s1.heap.objs.size a b (PlainL.lt p1) (PlainL.lt p2)),⟨hz,hTI,⟨_,_,hTO⟩,h1,h2⟩,fresh5,q⟩
  ·obtain ⟨its,rv,p1,_⟩:=I1.tuple hqx
   obtain ⟨its2,rv2,p2,_⟩:=I1.tuple hqy
   have q1:s1.heap.IsTuple a its.toArray:=p1
   have q2:s1.heap.IsTuple b its2.toArray:=p2
   obtain ⟨o1,ho1,_⟩:=id q1
   obtain ⟨o2,ho2,_⟩:=id q2
   refine RZ.call_zipT q1 q2 fun h' hz hTI hTO h1 h2 hsz hk=>wpAny_pyIter_zip hz ?_
   have I2:=Inv.kept (t':=s1.toks) I1 hk
   exact ⟨s1.heap.objs.size+4,[s1.heap.objs.size+4,s1.heap.objs.size+2,s1.heap.objs.size+3,s1.heap.objs.size,s1.heap.objs.size+1],_,RZ.ItzT X.K a b,H1,rfl,I2,RZ.turn_zipT (PySem.W.ktu_apart s1.heap.objs.size a b (Heap.lt_size ho1) (Heap.lt_size ho2)),⟨hz,hTI,⟨_,_,hTO⟩,h1,h2⟩,fresh5,q⟩
  ·obtain ⟨its,rv,p1,_⟩:=I1.tuple hqx
   obtain ⟨its2,rv2,p2,_⟩:=I1.list hqy
   have q1:s1.heap.IsTuple a its.toArray:=p1
   have q2:s1.heap.IsList b its2.toArray:=p2.isList
   obtain ⟨o1,ho1,_⟩:=id q1
   obtain ⟨o2,ho2,_⟩:=id q2
   refine zl5 q1 q2 fun h' hz hTI hTO h1 h2 hsz hk=>wpAny_pyIter_zip hz ?_
   have I2:=Inv.kept (t':=s1.toks) I1 hk
   exact ⟨s1.heap.objs.size+4,[s1.heap.objs.size+4,s1.heap.objs.size+2,s1.heap.objs.size+3,s1.heap.objs.size,s1.heap.objs.size+1],_,ItzM X.K a b,H1,rfl,I2,zkw (PySem.W.ktu_apart s1.heap.objs.size a b (Heap.lt_size ho1) (Heap.lt_size ho2)),⟨hz,hTI,⟨_,_,hTO⟩,h1,h2⟩,fresh5,q⟩) hs hpl) (by decide) (by decide))
end Mp
namespace Mp
open PySem L2
def gsOf:List Nat->TGs
 | []=>gNil
 | i::is=>gCons (gName i) (gsOf is)
def gAny (K:PySem.W.Frag) (n:Nat) (t:TGs):TG:=fun v σ H Q=>gTup K n t v σ H Q\/L2.gLst K n t v σ H Q
theorem pg_any {X:Cx} {pos:Pos} {es:List Expr} {k:Nat} {t:TGs} {n:Nat} (hc:X.calm=true) (h:PGs X es t) (hn:(assignEach es X.env).length=n) (hst:(assignEach es X.env).findIdx? (·.1)=none):PG X (.Tuple es k pos) (gAny X.K n t) :=
 ⟨fun pins s σ H v u Q I r hw=>by
  rcases hw with hw | hw
  ·exact (pg_tup hc h hn hst).run pins s σ H v u Q I r hw
  ·exact (pg_lst hc h hn hst).run pins s σ H v u Q I r hw⟩
def gOf (K:PySem.W.Frag):Tg->TG
 | .name i=>gName i
 | .tup is=>gAny K is.length (gsOf is)
 | .nst i is=>gTup K 2 (gCons (gName i) (gCons (gAny K is.length (gsOf is)) gNil))
def Tg.ixs:Tg->List Nat
 | .name i=>[i]
 | .tup is=>is
 | .nst i is=>i::is
def XG (X:Cx) (tg:Expr) (t:Tg):Prop:=PG X tg (gOf X.K t)
theorem zdo (s:L2.St) (i:Nat) (x:Option V):∀ vs:List Nat,(wipe (s.set i x) vs).set i none=(wipe s vs).set i none
 | []=>by show (s.set i x).set i none=s.set i none;rw [List.set_set]
 | v::vs=>by
  show ((wipe (s.set i x) vs).set v none).set i none=((wipe s vs).set v none).set i none
  by_cases h:v=i
  ·subst h
   rw [List.set_set,List.set_set]
   exact zdo s v x vs
  ·rw [List.set_comm _ _ h,List.set_comm _ _ h,zdo s i x vs]
theorem zei (s:L2.St) (i:Nat) (x:Option V):∀ vs:List Nat,i∈vs->wipe (s.set i x) vs=wipe s vs
 | v::vs,h=>by
  show (wipe (s.set i x) vs).set v none=(wipe s vs).set v none
  rcases List.mem_cons.mp h with e | h
  ·subst e;exact zdo s i x vs
  ·rw [zei s i x vs h]
theorem zex (s:L2.St):∀ vs:List Nat,wipe (wipe s vs) vs=wipe s vs
 | []=>rfl
 | v::vs=>by
  show (wipe ((wipe s vs).set v none) vs).set v none=(wipe s vs).set v none
  rw [zdo,zex s vs]
section
variable {K:PySem.W.Frag} {r:List Addr} {H:Hp}
theorem zlG {Q:L2.St->Hp->Prop}:∀ {is:List Nat} {ps:List PV} {xs:List V} {sg sg':Sg} {s:L2.St},RS K r H sg s->RVs K r H ps xs->zx is ps sg=some sg' ->
  (∀ s',RS K r H sg' s'->(∀ vs,(∀ i∈is,i∈vs)->wipe s' vs=wipe s vs)->Q s' H)->gsOf is xs s H Q
 | [],[],_,sg,sg',s,hs,.nil,e,q=>by
  simp only [zx] at e
  cases e
  exact ⟨rfl,q s hs fun _ _=>rfl⟩
 | i::is,p::ps,_,sg,sg',s,hs,.cons h hr,e,q=>by
  simp only [zx] at e
  exact ⟨_,_,rfl,zlG (hs.set i h) hr e fun s' h1 h2=>q s' h1 fun vs hv=>by
   rw [h2 vs fun j hj=>hv j (List.mem_cons_of_mem _ hj)]
   exact zei s i _ vs (hv i List.mem_cons_self)⟩
 | [],_::_,_,_,_,_,_,_,e,_=>by simp [zx] at e
 | _::_,[],_,_,_,_,_,_,e,_=>by simp [zx] at e
theorem zdL:∀ {is:List Nat} {ps:List PV} {sg sg':Sg},zx is ps sg=some sg'->is.length=ps.length
 | [],[],_,_,_=>rfl
 | _::is,_::ps,sg,sg',e=>by
  simp only [zx] at e
  simp [zdL e]
 | [],_::_,_,_,e=>by simp [zx] at e
 | _::_,[],_,_,e=>by simp [zx] at e
theorem tgP_nst {i:Nat} {is:List Nat} {M:Mm} {p:PV} {sg sg':Sg} (h:tgP (.nst i is) M p sg=some sg'):∃ y z,p=.tup [y,z]/\((∃ zs,z=.tup zs/\zx is zs (sg.set i (some y))=some sg')\/∃ n zs,z=.ref n/\zl M n=some zs/\zx is zs (sg.set i (some y))=some sg'):=by
 unfold tgP at h
 split at h
 ·rename_i h1;cases h1
 ·rename_i h1;cases h1
 ·rename_i h1;cases h1
 ·rename_i h1;cases h1;exact ⟨_,_,rfl,.inl ⟨_,rfl,h⟩⟩
 ·rename_i h1;cases h1
  obtain ⟨zs,k1,k2⟩:=Option.bind_eq_some_iff.mp h
  exact ⟨_,_,rfl,.inr ⟨_,zs,rfl,k1,k2⟩⟩
 ·cases h
theorem zme {M:Mm} {Q:L2.St->Hp->Prop} {is:List Nat} {p:PV} {x:V} {sg sg':Sg} {s:L2.St} (hh:RH K r M H) (hs:RS K r H sg s) (h:RV K r H p x)
  (e:(∃ zs,p=.tup zs/\zx is zs sg=some sg')\/∃ n zs,p=.ref n/\zl M n=some zs/\zx is zs sg=some sg')
  (q:∀ s',RS K r H sg' s'->(∀ vs,(∀ i∈is,i∈vs)->wipe s' vs=wipe s vs)->Q s' H):gAny K is.length (gsOf is) x s H Q:=by
 rcases e with ⟨zs,rfl,e⟩ | ⟨n,zs,rfl,el,e⟩
 ·cases h with
  | @tup ps a xs h1 h2=>exact .inl ⟨a,xs,rfl,h1,by rw [<- h2.length,zdL e],zlG hs h2 e q⟩
 ·have hM:M[n]? = some (.lst zs):=by
   unfold zl at el
   split at el
   ·rename_i q;cases el;exact q
   ·cases el
  cases h with
  | @ref _ a ha =>
   obtain ⟨a',ha',vs,g1,g2⟩:=hh.at hM
   rw [ha] at ha';cases ha'
   exact .inr ⟨a,vs,rfl,.inl (.inl g1),by rw [<- g2.length,zdL e],zlG hs g2 e q⟩
theorem g_run {M:Mm} {Q:L2.St->Hp->Prop} {t:Tg} {p:PV} {x:V} {sg sg':Sg} {s:L2.St} (hh:RH K r M H) (hs:RS K r H sg s) (h:RV K r H p x) (e:tgP t M p sg=some sg')
  (q:∀ s',RS K r H sg' s'->(∀ vs,(∀ i∈t.ixs,i∈vs)->wipe s' vs=wipe s vs)->Q s' H):gOf K t x s H Q:=by
 cases t with
 | name i =>
  simp only [tgP] at e
  cases e
  exact q _ (hs.set i h) fun vs hv=>zei s i _ vs (hv i (by simp [Tg.ixs]))
 | tup is =>
  refine zme hh hs h ?_ q
  unfold tgP at e
  split at e
  ·rename_i h1;cases h1
  ·rename_i h1;cases h1;exact .inl ⟨_,rfl,e⟩
  ·rename_i h1;cases h1
   obtain ⟨zs,k1,k2⟩:=Option.bind_eq_some_iff.mp e
   exact .inr ⟨_,zs,rfl,k1,k2⟩
  ·rename_i h1;cases h1
  ·rename_i h1;cases h1
  ·cases e
 | nst i is =>
  obtain ⟨y,z,rfl,e2⟩:=tgP_nst e
  cases h with
  | @tup _ a xs h1 h2 =>
   cases h2 with
   | cons hv1 h3 =>
    cases h3 with
    | cons hv2 h4 =>
     cases h4
     refine ⟨a,_,rfl,h1,rfl,_,_,rfl,_,_,rfl,?_⟩
     refine zme hh (hs.set i hv1) hv2 e2 fun s' q1 q2=>⟨rfl,q s' q1 fun vs hv=>?_⟩
     rw [q2 vs fun j hj=>hv j (by simp [Tg.ixs,hj])]
     exact zei s i _ vs (hv i (by simp [Tg.ixs]))
theorem RS.wipe {sg:Sg} {s:L2.St} (h:RS K r H sg s):∀ vs:List Nat,RS K r H (z6 sg vs) (L2.wipe s vs)
 | []=>h
 | v::vs=>by
  have ih:=h.wipe vs
  refine ⟨by simp [z6,L2.wipe,ih.len],fun i p e=>?_⟩
  simp only [z6] at e
  show ∃ x,((L2.wipe s vs).set v none)[i]? = some (some x)/\_
  by_cases hv:v=i
  ·subst hv
   by_cases hl:v<(z6 sg vs).length
   ·rw [List.getElem?_set_self hl] at e;cases e
   ·rw [List.getElem?_eq_none (by simpa using hl)] at e;cases e
  ·rw [List.getElem?_set_ne hv] at e
   rw [List.getElem?_set_ne hv]
   exact ih.at_ i p e
end
section
variable {X:Cx} {pos:Pos}
theorem zg (i:Nat) {x:Str} (hN:X.N.Nodup) (hi:X.N[i]? = some x:=by rfl) (hx:Loc X.env.scope x:=by first | exact .inl rfl | exact .inr rfl)
  (hf:X.fn x=true\/X.env.scope.names.lookup x=some .local:=by first | exact .inl rfl | exact .inr rfl | assumption):XG X (.Name x pos) (.name i):=pg_name hN hi hx hf
def XGs (X:Cx) (es:List Expr) (is:List Nat):Prop:=PGs X es (gsOf is)
theorem zew:XGs X [] []:=pgs_nil
theorem za4 {e:Expr} {es:List Expr} {i:Nat} {is:List Nat} (h:XG X e (.name i)) (h2:XGs X es is)
  (hs:(assignEach (e::es) X.env).map (·.2)=assign e X.env::(assignEach es X.env).map (·.2):=by rfl):XGs X (e::es) (i::is):=pgs_cons h h2 hs
theorem zgA {es:List Expr} {k:Nat} {is:List Nat} (hc:X.calm=true) (h:XGs X es is) (hn:(assignEach es X.env).length=is.length:=by rfl) (hst:(assignEach es X.env).findIdx? (·.1)=none:=by rfl) :
  XG X (.Tuple es k pos) (.tup is):=pg_any hc h hn hst
end
def zgp (K:PySem.W.Frag) (r0:List Addr) (H0:Hp) (s:Src) (J:L2.It):Prop :=
 ∀ r M H i,Ext r0 r H0 H->RH K r M H->(∀ x,s.get M i=some (some x)->J.go i H/\∀ v H',J.yld i H v H'->Ext r r H H'/\RH K r M H'/\RV K r H' x v)/\(s.get M i=some none->J.stop i H)
def TIv (K:PySem.W.Frag) (f:Sg->Mm->Option (Src × Mm)):TI:=fun s H R=>∃ r sg M src M',RS K r H sg s/\RH K r M H/\f sg M=some (src,M')/\∀ r' H' J,Ext r r' H H'->RH K r' M' H'->zgp K r' H' src J->R J H'
def XI (X:Cx) (cf:CF) (tg iter:Expr) (i:Mp.It):Prop:=PI X tg iter (TIv X.K (evI cf i))
section
variable {K:PySem.W.Frag} {r:List Addr} {H:Hp}
theorem zkM {a:Addr} {xs:List PV} {vs:List V} (h:SqT K H a vs) (hs:RVs K r H xs vs):zgp K r H (.tup xs) (Itt K a):=by
 intro r' M H' i x hh
 have h':=x.sqT h
 have hs':=hs.ext x
 refine ⟨fun p e=>?_,fun e=>?_⟩
 ·simp only [Src.get,Option.some.injEq] at e
  obtain ⟨v,e1,e2⟩:=hs'.get e
  refine ⟨⟨vs,v,h',e1⟩,fun w H2 y=>?_⟩
  obtain ⟨rfl,y⟩:=y
  have:=y vs h'
  rw [e1] at this;cases this
  exact ⟨.refl,hh,e2⟩
 ·simp only [Src.get,Option.some.injEq] at e
  exact ⟨vs,h',by rw [<- hs.length];exact List.getElem?_eq_none_iff.mp e⟩
theorem src_lst {a:Addr} {n:Nat} (h:r[n]? = some a):zgp K r H (.lst n) (Itl K a):=by
 intro r' M H' i x hh
 have h':=x.at h
 have key:∀ o,Src.get M (.lst n) i=some o->∃ xs vs,H' a=some (.lst vs)/\RVs K r' H' xs vs/\xs[i]? = o:=fun o e=>by
  simp only [Src.get] at e
  obtain ⟨xs,e1,e2⟩:=Option.map_eq_some_iff.mp e
  obtain ⟨b,vs,g1,g2,g3⟩:=zbd hh e1
  rw [h'] at g1;cases g1
  exact ⟨xs,vs,g2,g3,e2⟩
 refine ⟨fun p e=>?_,fun e=>?_⟩
 ·obtain ⟨xs,vs,g2,g3,e⟩:=key _ e
  obtain ⟨v,e1,e2⟩:=g3.get e
  refine ⟨⟨vs,v,.inl (.inl g2),e1⟩,fun w H2 y=>?_⟩
  obtain ⟨rfl,y⟩:=y
  have:=y vs (.inl (.inl g2))
  rw [e1] at this;cases this
  exact ⟨.refl,hh,e2⟩
 ·obtain ⟨xs,vs,g2,g3,e⟩:=key _ e
  exact ⟨vs,.inl (.inl g2),by rw [<- g3.length];exact List.getElem?_eq_none_iff.mp e⟩
theorem src_cl {a:Addr} {ns:List Int} (h:CL K H a ns):zgp K r H (.cl ns) (Itl K a):=by
 intro r' M H' i x hh
 have h':=(x.cl h).sq
 refine ⟨fun p e=>?_,fun e=>?_⟩
 ·simp only [Src.get,Option.some.injEq] at e
  obtain ⟨v,e1,rfl⟩:=Option.map_eq_some_iff.mp e
  have e1':(ns.map V.int)[i]? = some (V.int v):=by rw [List.getElem?_map,e1];rfl
  refine ⟨⟨_,_,h',e1'⟩,fun w H2 y=>?_⟩
  obtain ⟨rfl,y⟩:=y
  have:=y _ h'
  rw [e1'] at this;cases this
  exact ⟨.refl,hh,.int v⟩
 ·simp only [Src.get,Option.some.injEq] at e
  refine ⟨_,h',?_⟩
  rw [List.length_map]
  exact List.getElem?_eq_none_iff.mp (Option.map_eq_none_iff.mp e)
theorem src_str {z:Str}:zgp K r H (.str z) (Its z):=by
 intro r' M H' i x hh
 refine ⟨fun p e=>?_,fun e=>?_⟩
 ·simp only [Src.get,Option.some.injEq] at e
  obtain ⟨c,e1,rfl⟩:=Option.map_eq_some_iff.mp e
  refine ⟨(Array.getElem?_eq_some_iff.mp e1).1,fun w H2 y=>?_⟩
  obtain ⟨rfl,c',y,rfl⟩:=y
  rw [e1] at y;cases y
  exact ⟨.refl,hh,.str _⟩
 ·simp only [Src.get,Option.some.injEq] at e
  exact Array.getElem?_eq_none_iff.mp (Option.map_eq_none_iff.mp e)
theorem src_rng {lo:Int} {n:Nat}:zgp K r H (.rng lo n) (Itr lo n):=by
 intro r' M H' i x hh
 refine ⟨fun p e=>?_,fun e=>?_⟩
 ·simp only [Src.get,Option.some.injEq] at e
  split at e
  ·rename_i hi
   cases e
   refine ⟨hi,fun w H2 y=>?_⟩
   obtain ⟨rfl,rfl⟩:=y
   exact ⟨.refl,hh,.int _⟩
  ·cases e
 ·simp only [Src.get,Option.some.injEq] at e
  split at e
  ·cases e
  ·rename_i hi;exact Nat.le_of_not_lt hi
theorem zhT {T:Addr} {p q:PV} {v u:V} {M:Mm} (hh:RH K r M H) (hT:H T=none) (h1:RV K r H p v) (h2:RV K r H q u) :
  Ext r r H (upd H T (.tup [v,u]))/\RH K r M (upd H T (.tup [v,u]))/\RV K r (upd H T (.tup [v,u])) (.tup [p,q]) (.ref T):=by
 have x:=zaF (r:=r) (o:=.tup [v,u]) hT
 exact ⟨x,hh.other _ hT,.tup (.inl (.inl upd_same)) (.cons (h1.ext x) (.cons (h2.ext x) .nil))⟩
theorem zdH {M:Mm} {s t:Src} {i:Nat} {o:Option PV} (e:Src.get M (.zip s t) i=some o) :
  (∃ x y,s.get M i=some (some x)/\t.get M i=some (some y)/\o=some (.tup [x,y]))\/(s.get M i=some none/\(∃ q,t.get M i=some q)/\o=none)\/((∃ q,s.get M i=some (some q))/\t.get M i=some none/\o=none):=by
 simp only [Src.get] at e
 split at e
 ·rename_i x y e1 e2;cases e;exact .inl ⟨x,y,e1,e2,rfl⟩
 ·rename_i y e1 e2;cases e;exact .inr (.inl ⟨e1,⟨_,e2⟩,rfl⟩)
 ·rename_i y e1 e2;cases e;exact .inr (.inr ⟨⟨_,e1⟩,e2,rfl⟩)
 ·cases e
def zmi (SQ:Hp->List V->Prop) (K:PySem.W.Frag) (r0:List Addr) (H0:Hp) (s:Src):Prop :=
 ∀ r M H i o,Ext r0 r H0 H->RH K r M H->s.get M i=some o->∃ vs,SQ H vs/\(∀ x,o=some x->∃ v,vs[i]? = some v/\RV K r H x v)/\(o=none->vs.length<=i)
theorem side_lst {a:Addr} {n:Nat} (h:r[n]? = some a):zmi (fun H=>SqL K H a) K r H (.lst n):=by
 intro r' M H' i o x hh e
 simp only [Src.get] at e
 obtain ⟨xs,e1,rfl⟩:=Option.map_eq_some_iff.mp e
 obtain ⟨b,vs,g1,g2,g3⟩:=zbd hh e1
 rw [x.at h] at g1;cases g1
 exact ⟨vs,.inl (.inl g2),fun p hp=>g3.get hp,fun hp=>by rw [<- g3.length];exact List.getElem?_eq_none_iff.mp hp⟩
theorem side_cl {a:Addr} {ns:List Int} (h:CL K H a ns):zmi (fun H=>SqL K H a) K r H (.cl ns):=by
 intro r' M H' i o x hh e
 simp only [Src.get,Option.some.injEq] at e
 subst e
 refine ⟨_,(x.cl h).sq,fun p hp=>?_,fun hp=>?_⟩
 ·obtain ⟨v,e1,rfl⟩:=Option.map_eq_some_iff.mp hp
  exact ⟨.int v,by rw [List.getElem?_map,e1];rfl,.int v⟩
 ·rw [List.length_map]
  exact List.getElem?_eq_none_iff.mp (Option.map_eq_none_iff.mp hp)
theorem zix {a:Addr} {xs:List PV} {vs:List V} (h:SqT K H a vs) (hs:RVs K r H xs vs):zmi (fun H=>SqT K H a) K r H (.tup xs):=by
 intro r' M H' i o x hh e
 simp only [Src.get,Option.some.injEq] at e
 subst e
 exact ⟨vs,x.sqT h,fun p hp=>(hs.ext x).get hp,fun hp=>by rw [<- hs.length];exact List.getElem?_eq_none_iff.mp hp⟩
theorem zip_lst {a b:Addr} {s t:Src} (hs:zmi (fun H=>SqL K H a) K r H s) (ht:zmi (fun H=>SqL K H b) K r H t):zgp K r H (.zip s t) (Itz K a b):=by
 intro r' M H' i x hh
 refine ⟨fun p e=>?_,fun e=>?_⟩
 ·rcases zdH e with ⟨y,z,e1,e2,e3⟩ | ⟨_,_,e3⟩ | ⟨_,_,e3⟩<;>cases e3
  obtain ⟨vs,g1,g2,_⟩:=hs r' M H' i _ x hh e1
  obtain ⟨us,k1,k2,_⟩:=ht r' M H' i _ x hh e2
  obtain ⟨v,v1,v2⟩:=g2 y rfl
  obtain ⟨u,u1,u2⟩:=k2 z rfl
  refine ⟨⟨vs,us,v,u,g1,k1,v1,u1⟩,fun w H2 q=>?_⟩
  obtain ⟨T,v',u',rfl,hT,rfl,q1,q2⟩:=q
  have:=q1 vs g1;rw [v1] at this;cases this
  have:=q2 us k1;rw [u1] at this;cases this
  exact zhT hh hT v2 u2
 ·rcases zdH e with ⟨y,z,e1,e2,e3⟩ | ⟨e1,⟨_,e2⟩,_⟩ | ⟨⟨_,e1⟩,e2,_⟩
  ·cases e3
  ·obtain ⟨vs,g1,_,g2⟩:=hs r' M H' i _ x hh e1
   obtain ⟨us,k1,_,_⟩:=ht r' M H' i _ x hh e2
   exact ⟨vs,us,g1,k1,.inl (g2 rfl)⟩
  ·obtain ⟨vs,g1,_,_⟩:=hs r' M H' i _ x hh e1
   obtain ⟨us,k1,_,k2⟩:=ht r' M H' i _ x hh e2
   exact ⟨vs,us,g1,k1,.inr (k2 rfl)⟩
theorem zip_tup {a b:Addr} {s t:Src} (hs:zmi (fun H=>SqT K H a) K r H s) (ht:zmi (fun H=>SqT K H b) K r H t):zgp K r H (.zip s t) (RZ.ItzT K a b):=by
 intro r' M H' i x hh
 refine ⟨fun p e=>?_,fun e=>?_⟩
 ·rcases zdH e with ⟨y,z,e1,e2,e3⟩ | ⟨_,_,e3⟩ | ⟨_,_,e3⟩<;>cases e3
  obtain ⟨vs,g1,g2,_⟩:=hs r' M H' i _ x hh e1
  obtain ⟨us,k1,k2,_⟩:=ht r' M H' i _ x hh e2
  obtain ⟨v,v1,v2⟩:=g2 y rfl
  obtain ⟨u,u1,u2⟩:=k2 z rfl
  refine ⟨⟨vs,us,v,u,g1,k1,v1,u1⟩,fun w H2 q=>?_⟩
  obtain ⟨T,v',u',rfl,hT,rfl,q1,q2⟩:=q
  have:=q1 vs g1;rw [v1] at this;cases this
  have:=q2 us k1;rw [u1] at this;cases this
  exact zhT hh hT v2 u2
 ·rcases zdH e with ⟨y,z,e1,e2,e3⟩ | ⟨e1,⟨_,e2⟩,_⟩ | ⟨⟨_,e1⟩,e2,_⟩
  ·cases e3
  ·obtain ⟨vs,g1,_,g2⟩:=hs r' M H' i _ x hh e1
   obtain ⟨us,k1,_,_⟩:=ht r' M H' i _ x hh e2
   exact ⟨vs,us,g1,k1,.inl (g2 rfl)⟩
  ·obtain ⟨vs,g1,_,_⟩:=hs r' M H' i _ x hh e1
   obtain ⟨us,k1,_,k2⟩:=ht r' M H' i _ x hh e2
   exact ⟨vs,us,g1,k1,.inr (k2 rfl)⟩
theorem zip_tl {a b:Addr} {s t:Src} (hs:zmi (fun H=>SqT K H a) K r H s) (ht:zmi (fun H=>SqL K H b) K r H t):zgp K r H (.zip s t) (ItzM K a b):=by
 intro r' M H' i x hh
 refine ⟨fun p e=>?_,fun e=>?_⟩
 ·rcases zdH e with ⟨y,z,e1,e2,e3⟩ | ⟨_,_,e3⟩ | ⟨_,_,e3⟩<;>cases e3
  obtain ⟨vs,g1,g2,_⟩:=hs r' M H' i _ x hh e1
  obtain ⟨us,k1,k2,_⟩:=ht r' M H' i _ x hh e2
  obtain ⟨v,v1,v2⟩:=g2 y rfl
  obtain ⟨u,u1,u2⟩:=k2 z rfl
  refine ⟨⟨vs,us,v,u,g1,k1,v1,u1⟩,fun w H2 q=>?_⟩
  obtain ⟨T,v',u',rfl,hT,rfl,q1,q2⟩:=q
  have:=q1 vs g1;rw [v1] at this;cases this
  have:=q2 us k1;rw [u1] at this;cases this
  exact zhT hh hT v2 u2
 ·rcases zdH e with ⟨y,z,e1,e2,e3⟩ | ⟨e1,⟨_,e2⟩,_⟩ | ⟨⟨_,e1⟩,e2,_⟩
  ·cases e3
  ·obtain ⟨vs,g1,_,g2⟩:=hs r' M H' i _ x hh e1
   obtain ⟨us,k1,_,_⟩:=ht r' M H' i _ x hh e2
   exact ⟨vs,us,g1,k1,.inl (g2 rfl)⟩
  ·obtain ⟨vs,g1,_,_⟩:=hs r' M H' i _ x hh e1
   obtain ⟨us,k1,_,k2⟩:=ht r' M H' i _ x hh e2
   exact ⟨vs,us,g1,k1,.inr (k2 rfl)⟩
end
section
variable {X:Cx} {cf:CF} {tg e e2:Expr} {i j:E} {pos p:Pos}
theorem zT (h:XE X cf e i):XI X cf tg e (.seq i):=by
 refine ⟨fun pins s σ H R I q=>?_⟩
 obtain ⟨r,sg,M,src,M',hs,hh,ev,q⟩:=q
 simp only [evI] at ev
 split at ev
 ·rename_i x M1 e1
  obtain ⟨s',e2,e3⟩:=Option.map_eq_some_iff.mp ev
  cases e3
  cases x with
  | tup xs =>
   simp only [zam] at e2;cases e2
   refine (pi_tup h).run pins s σ H R I ⟨r,sg,M,_,_,hs,hh,e1,fun r1 u H1 x1 h1 v=>?_⟩
   cases v with
   | @tup _ a vs ht hxs=>exact ⟨a,rfl,⟨vs,ht⟩,q r1 H1 _ x1 h1 (zkM ht hxs)⟩
  | ptup xs =>
   simp only [zam] at e2;cases e2
   refine (pi_tup h).run pins s σ H R I ⟨r,sg,M,_,_,hs,hh,e1,fun r1 u H1 x1 h1 v=>?_⟩
   cases v with
   | @ptup _ a vs ht hxs=>exact ⟨a,rfl,⟨vs,ht.sqT⟩,q r1 H1 _ x1 h1 (zkM ht.sqT hxs)⟩
  | cl ns =>
   simp only [zam] at e2;cases e2
   refine (pi_list h).run pins s σ H R I ⟨r,sg,M,_,_,hs,hh,e1,fun r1 u H1 x1 h1 v=>?_⟩
   cases v with
   | @cl _ a hc=>exact ⟨a,rfl,⟨_,hc.sq⟩,q r1 H1 _ x1 h1 (src_cl hc)⟩
  | str z =>
   simp only [zam] at e2;cases e2
   refine (pi_str h).run pins s σ H R I ⟨r,sg,M,_,_,hs,hh,e1,fun r1 u H1 x1 h1 v=>?_⟩
   cases v
   exact ⟨z,rfl,q r1 H1 _ x1 h1 src_str⟩
  | ref n =>
   simp only [zam] at e2
   obtain ⟨xs,e3,e4⟩:=Option.map_eq_some_iff.mp e2
   cases e4
   refine (pi_list h).run pins s σ H R I ⟨r,sg,M,_,_,hs,hh,e1,fun r1 u H1 x1 h1 v=>?_⟩
   obtain ⟨a,vs,g1,g2,g3⟩:=zbd h1 e3
   exact ⟨a,v.refAt g1,⟨vs,.inl (.inl g2)⟩,q r1 H1 _ x1 h1 (src_lst g1)⟩
  | _=>simp [zam] at e2
 ·cases ev
theorem rngOk_b {i:Int} (h:zbQ i=true) : -(2 ^ 62)<=i/\i<2 ^ 62:=by
 obtain ⟨h1,h2⟩:=Bool.and_eq_true_iff.mp h
 exact ⟨of_decide_eq_true h1,of_decide_eq_true h2⟩
theorem zbB (hg:Gl X "range") (hm:X.mg "range" = none) (h:XE X cf e i) (hs:starEach [e] X.env=[(false,eval e X.env)]:=by rfl):XI X cf tg (.Call (.Name "range" p) [e] [] pos) (.rng1 i):=by
 refine ⟨fun pins s σ H R I q=>?_⟩
 obtain ⟨r,sg,M,src,M',hs',hh,ev,q⟩:=q
 simp only [evI] at ev
 split at ev
 ·rename_i k M1 e1
  split at ev
  ·rename_i hk
   cases ev
   obtain ⟨b1,b2⟩:=rngOk_b hk
   refine (pi_range1 hg hm (pa_cons h pa_nil hs) hs).run pins s σ H R I ⟨r,sg,M,_,_,hs',hh,e1,fun r1 u H1 x1 h1 v=>?_⟩
   cases v
   exact ⟨k,rfl,b1,b2,q r1 H1 _ x1 h1 src_rng⟩
  ·cases ev
 ·cases ev
theorem zkR {K:PySem.W.Frag} {r:List Addr} {H:Hp} {M:Mm} {x:PV} {u:V} {s:Src} (hh:RH K r M H) (v:RV K r H x u) (e:zam M x=some s) :
  (s.isL=true->∃ a vs,u=.ref a/\SqL K H a vs/\zmi (fun H=>SqL K H a) K r H s)/\(s.isT=true->∃ a vs,u=.ref a/\SqT K H a vs/\zmi (fun H=>SqT K H a) K r H s):=by
 cases v with
 | @tup xs a vs ht hxs=>simp only [zam] at e;cases e;exact ⟨fun z=>by simp [Src.isL] at z,fun _=>⟨a,vs,rfl,ht,zix ht hxs⟩⟩
 | @ptup xs a vs ht hxs=>simp only [zam] at e;cases e;exact ⟨fun z=>by simp [Src.isL] at z,fun _=>⟨a,vs,rfl,ht.sqT,zix ht.sqT hxs⟩⟩
 | @cl ns a hc=>simp only [zam] at e;cases e;exact ⟨fun _=>⟨a,_,rfl,hc.sq,side_cl hc⟩,fun z=>by simp [Src.isT] at z⟩
 | @ref n a hn =>
  simp only [zam] at e
  obtain ⟨xs,e3,e4⟩:=Option.map_eq_some_iff.mp e
  cases e4
  obtain ⟨b,vs,g1,g2,g3⟩:=zbd hh e3
  rw [hn] at g1;cases g1
  exact ⟨fun _=>⟨a,vs,rfl,.inl (.inl g2),side_lst hn⟩,fun z=>by simp [Src.isT] at z⟩
 | str z=>simp only [zam] at e;cases e;exact ⟨fun z=>by simp [Src.isL] at z,fun z=>by simp [Src.isT] at z⟩
 | _=>simp [zam] at e
theorem xi_zip {elts:List Expr} {kk:Nat} {tpos:Pos} (hg:Gl X "zip") (hm:X.mg "zip" = none) (h:XE X cf e i) (h2:XE X cf e2 j) (hs:starEach [e,e2] X.env=(false,eval e X.env)::starEach [e2] X.env:=by rfl) (hs1:starEach [e2] X.env=(false,eval e2 X.env)::starEach [] X.env:=by rfl)
  (hpl:(backTo pos (starEach [e2] X.env)).any (·.1)=false:=by rfl):XI X cf (.Tuple elts kk tpos) (.Call (.Name "zip" p) [e,e2] [] pos) (.zip i j):=by
 refine ⟨fun pins s σ H R I q=>?_⟩
 obtain ⟨r,sg,M,src,M',hs',hh,ev,q⟩:=q
 simp only [evI] at ev
 split at ev
 ·rename_i x M1 e1
  split at ev
  ·rename_i y M2 e2
   split at ev
   ·rename_i s1 s2 e3 e4
    split at ev
    ·rename_i hk
     cases ev
     refine (pi_zip3 hg hm (pa_cons h (pa_cons h2 pa_nil hs1) hs) hs hpl).run pins s σ H R I ⟨r,sg,M,_,_,hs',hh,e1,fun r1 u H1 x1 h1 v=>⟨r1,sg,M1,_,_,hs'.ext x1,h1,e2,fun r2 u2 H2 x2 h2 v2=>?_⟩⟩
     obtain ⟨a1,a2⟩:=zkR h2 (v.ext x2) e3
     obtain ⟨b1,b2⟩:=zkR h2 v2 e4
     rcases Bool.or_eq_true_iff.mp hk with hk | hk
     ·rcases Bool.or_eq_true_iff.mp hk with hk | hk
      ·obtain ⟨k1,k2⟩:=Bool.and_eq_true_iff.mp hk
       obtain ⟨a,vs,rfl,ha,sa⟩:=a1 k1
       obtain ⟨b,us,rfl,hb,sb⟩:=b1 k2
       exact ⟨a,b,vs,us,rfl,.inl ⟨ha,hb,q r2 H2 _ (x1.trans x2) h2 (zip_lst sa sb)⟩⟩
      ·obtain ⟨k1,k2⟩:=Bool.and_eq_true_iff.mp hk
       obtain ⟨a,vs,rfl,ha,sa⟩:=a2 k1
       obtain ⟨b,us,rfl,hb,sb⟩:=b2 k2
       exact ⟨a,b,vs,us,rfl,.inr (.inl ⟨ha,hb,q r2 H2 _ (x1.trans x2) h2 (zip_tup sa sb)⟩)⟩
     ·obtain ⟨k1,k2⟩:=Bool.and_eq_true_iff.mp hk
      obtain ⟨a,vs,rfl,ha,sa⟩:=a2 k1
      obtain ⟨b,us,rfl,hb,sb⟩:=b1 k2
      exact ⟨a,b,vs,us,rfl,.inr (.inr ⟨ha,hb,q r2 H2 _ (x1.trans x2) h2 (zip_tl sa sb)⟩)⟩
    ·cases ev
   ·cases ev
  ·cases ev
 ·cases ev
end
end Mp
namespace Mp
open PySem L2
def PostS (K:PySem.W.Frag) (r:List Addr) (H:Hp) (fl:Fl) (M':Mm) (D:Ends):Prop:=∀ r' H',Ext r r' H H'->RH K r' M' H' ->
 match fl with
 | .nx sg=>∀ s',RS K r' H' sg s'->D.nx s' H'
 | .brk sg=>∀ s',RS K r' H' sg s'->D.bk s' H'
 | .ct sg=>∀ s',RS K r' H' sg s'->D.ct s' H'
 | .ret v=>∀ u,RV K r' H' v u->D.rt u H'
def TSv (K:PySem.W.Frag) (f:Sg->Mm->Option (Fl × Mm)):TS:=fun D s H=>∃ r sg M fl M',RS K r H sg s/\RH K r M H/\f sg M=some (fl,M')/\PostS K r H fl M' D
def XS (X:Cx) (cf:CF) (st:Stmt) (i:S):Prop:=PS X st (TSv X.K (evS cf i))
def XSs (X:Cx) (cf:CF) (sts:List Stmt) (i:Ss):Prop:=PSs X sts (TSv X.K (zM cf i))
theorem zc3 {X:Cx} {st:Stmt} {t t':TS} (h:PS X st t) (k:∀ D s H,t' D s H->t D s H):PS X st t':=⟨fun pins s σ H D I q=>h.run pins s σ H D I (k _ _ _ q)⟩
theorem zlg {X:Cx} {st:List Stmt} {t t':TS} (h:PSs X st t) (k:∀ D s H,t' D s H->t D s H):PSs X st t':=⟨fun pins s σ H D I q=>h.run pins s σ H D I (k _ _ _ q)⟩
section
variable {X:Cx} {cf:CF} {e a b c o tg iter:Expr} {st:Stmt} {sts sts2:List Stmt} {i ia ib ic:E} {is:S} {iss iss2:Ss} {pos:Pos}
theorem zt (h:XE X cf e i):XS X cf (.Return (some e) pos) (.ret i):=by
 refine zc3 (ps_ret h) fun D s H q=>?_
 obtain ⟨r,sg,M,fl,M',hs,hh,ev,q⟩:=q
 simp only [evS] at ev
 split at ev
 ·rename_i x M1 e1
  cases ev
  exact ⟨r,sg,M,x,_,hs,hh,e1,fun r1 u H1 x1 h1 v=>q r1 H1 x1 h1 u v⟩
 ·cases ev
theorem za7 (h:XE X cf e i) (hw:swapsWith e none pos.line X.env=pure false:=by rfl):XS X cf (.Expr e pos) (.exp i):=by
 refine zc3 (ps_expr h hw) fun D s H q=>?_
 obtain ⟨r,sg,M,fl,M',hs,hh,ev,q⟩:=q
 simp only [evS] at ev
 split at ev
 ·rename_i x M1 e1
  cases ev
  exact ⟨r,sg,M,x,_,hs,hh,e1,fun r1 u H1 x1 h1 v=>q r1 H1 x1 h1 s (hs.ext x1)⟩
 ·cases ev
theorem zmd {D:Ends} {s:L2.St} {H:Hp} {t:Tg} (q:TSv X.K (evS cf (.asg t i)) D s H):tAsg (TEv X.K (evE cf i)) (gOf X.K t) D s H:=by
 obtain ⟨r,sg,M,fl,M',hs,hh,ev,q⟩:=q
 simp only [evS] at ev
 split at ev
 ·rename_i x M1 e1
  obtain ⟨sg1,e2,e3⟩:=Option.map_eq_some_iff.mp ev
  cases e3
  exact ⟨r,sg,M,x,_,hs,hh,e1,fun r1 u H1 x1 h1 v=>g_run h1 (hs.ext x1) v e2 fun s' h2 _=>q r1 H1 x1 h1 s' h2⟩
 ·cases ev
theorem zF {t:Tg} (h:XE X cf e i) (hg:XG X tg t) (h1:swapsWithSole [tg] e pos.line X.env=pure false:=by rfl) (h2:swappedStores [tg] e X.env=pure none:=by rfl)
  (h3:(assignEach [tg] X.env).map (·.2)=[assign tg X.env]:=by rfl):XS X cf (.Assign [tg] e pos) (.asg t i) :=
 zc3 (ps_asg h hg h1 h2 h3) fun D s H q=>zmd q
theorem z9 (hc:XT X cf c ic) (ha:XSs X cf sts iss) (hb:XSs X cf sts2 iss2):XS X cf (.If c sts sts2 pos) (.iff ic iss iss2):=by
 refine zc3 (ps_if hc ha hb) fun D s H q=>?_
 obtain ⟨r,sg,M,fl,M',hs,hh,ev,q⟩:=q
 simp only [evS] at ev
 split at ev
 ·rename_i M1 e1
  exact ⟨r,sg,M,_,_,hs,hh,e1,fun r1 H1 x1 h1=>iteT ⟨r1,sg,M1,fl,M',hs.ext x1,h1,ev,fun r2 H2 x2 h2=>q r2 H2 (x1.trans x2) h2⟩⟩
 ·rename_i M1 e1
  exact ⟨r,sg,M,_,_,hs,hh,e1,fun r1 H1 x1 h1=>iteF ⟨r1,sg,M1,fl,M',hs.ext x1,h1,ev,fun r2 H2 x2 h2=>q r2 H2 (x1.trans x2) h2⟩⟩
 ·cases ev
theorem ze:XSs X cf [] .nil:=by
 refine zlg pss_nil fun D s H q=>?_
 obtain ⟨r,sg,M,fl,M',hs,hh,ev,q⟩:=q
 simp only [zM] at ev
 cases ev
 exact q r H .refl hh s hs
theorem zc (h:XS X cf st is) (h2:XSs X cf sts iss):XSs X cf (st::sts) (.cons is iss):=by
 refine zlg (pss_cons h h2) fun D s H q=>?_
 obtain ⟨r,sg,M,fl,M',hs,hh,ev,q⟩:=q
 simp only [zM] at ev
 cases e1:evS cf is sg M with
 | none=>rw [e1] at ev;cases ev
 | some p =>
  obtain ⟨f1,M1⟩:=p
  rw [e1] at ev
  refine ⟨r,sg,M,f1,M1,hs,hh,e1,fun r1 H1 x1 h1=>?_⟩
  cases f1 with
  | nx sg1=>exact fun s' h3=>⟨r1,sg1,M1,fl,M',h3,h1,ev,fun r2 H2 x2 h2=>q r2 H2 (x1.trans x2) h2⟩
  | brk sg1=>cases ev;exact q r1 H1 x1 h1
  | ct sg1=>cases ev;exact q r1 H1 x1 h1
  | ret v=>cases ev;exact q r1 H1 x1 h1
theorem zb4 {t:Tg} {it:Mp.It} (hp:PassesOwn (model X.prog X.w) X.A X.env X.xe) (hc:X.calm=true) (hi:XI X cf tg iter it) (hg:XG X tg t) (hb:XSs X cf sts iss)
  (hs:∀ x,foldedSetIterable iter X.env x=pure x:=by intro _;rfl):XS X cf (.For tg iter sts [] pos) (.for_ t it iss):=by
 refine zc3 (ps_for hp hc hi hg hb hs) fun D s H q=>?_
 obtain ⟨r,sg,M,fl,M',hs,hh,ev,q⟩:=q
 simp only [evS] at ev
 split at ev
 ·rename_i src M1 e1
  refine ⟨r,sg,M,src,M1,hs,hh,e1,fun r1 H1 J x1 h1 ok=>?_⟩
  refine ⟨fun i m s H=>∃ r2 sg2 M2,Ext r1 r2 H1 H/\RS X.K r2 H sg2 s/\RH X.K r2 M2 H/\zgy src (tgP t) (fun sg M=>zM cf iss sg M) m i sg2 M2=some (fl,M'),⟨zdC,r1,sg,M1,.refl,hs.ext x1,h1,ev⟩,?_⟩
  rintro i m s2 H2 ⟨r2,sg2,M2,x2,hs2,h2,ev2⟩
  cases m with
  | zero=>simp only [zgy] at ev2;cases ev2
  | succ m =>
   simp only [zgy] at ev2
   obtain ⟨o1,o2⟩:=ok r2 M2 H2 i x2 h2
   cases eg:src.get M2 i with
   | none=>rw [eg] at ev2;cases ev2
   | some og =>
    rw [eg] at ev2
    cases og with
    | none=>cases ev2;exact .inl ⟨o2 eg,q r2 H2 (x1.trans x2) h2 s2 hs2⟩
    | some x =>
     obtain ⟨g1,g2⟩:=o1 x eg
     refine .inr ⟨g1,fun s' H'=>∃ r3 sg3 M3,Ext r1 r3 H1 H'/\RS X.K r3 H' sg3 s'/\RH X.K r3 M3 H'/\zgy src (tgP t) (fun sg M=>zM cf iss sg M) m (i+1) sg3 M3=some (fl,M'),fun s' H' ⟨r3,sg3,M3,k⟩=>⟨m,Nat.lt_succ_self m,r3,sg3,M3,k⟩,fun v H3 y=>?_⟩
     obtain ⟨x3,h3,v3⟩:=g2 v H3 y
     simp only at ev2
     cases eb:tgP t M2 x sg2 with
     | none=>rw [eb] at ev2;cases ev2
     | some sg3 =>
      rw [eb] at ev2
      refine g_run h3 (hs2.ext x3) v3 eb fun s4 hs4 _=>?_
      simp only at ev2
      cases ec:zM cf iss sg3 M2 with
      | none=>rw [ec] at ev2;cases ev2
      | some p =>
       obtain ⟨f4,M4⟩:=p
       rw [ec] at ev2
       refine ⟨r2,sg3,M2,f4,M4,hs4,h3,ec,fun r5 H5 x5 h5=>?_⟩
       cases f4 with
       | nx sg5=>exact fun s' k=>⟨r5,sg5,M4,(x2.trans x3).trans x5,k,h5,ev2⟩
       | ct sg5=>exact fun s' k=>⟨r5,sg5,M4,(x2.trans x3).trans x5,k,h5,ev2⟩
       | brk sg5=>cases ev2;exact fun s' k=>q r5 H5 (x1.trans ((x2.trans x3).trans x5)) h5 s' k
       | ret w=>cases ev2;exact fun u k=>q r5 H5 (x1.trans ((x2.trans x3).trans x5)) h5 u k
 ·cases ev
theorem xs_whl (hp:PassesOwn (model X.prog X.w) X.A X.env X.xe) (hc:XT X cf c ic) (hb:XSs X cf sts iss):XS X cf (.While c sts [] pos) (.whl ic iss):=by
 refine zc3 (ps_while hp hc hb) fun D s H q=>?_
 obtain ⟨r,sg,M,fl,M',hs,hh,ev,q⟩:=q
 simp only [evS] at ev
 refine ⟨fun m s H2=>∃ r2 sg2 M2,Ext r r2 H H2/\RS X.K r2 H2 sg2 s/\RH X.K r2 M2 H2/\whlL (fun sg M=>evE cf ic sg M) (fun sg M=>zM cf iss sg M) m sg2 M2=some (fl,M'),⟨zdC,r,sg,M,.refl,hs,hh,ev⟩,?_⟩
 rintro m s2 H2 ⟨r2,sg2,M2,x2,hs2,h2,ev2⟩
 cases m with
 | zero=>simp only [whlL] at ev2;cases ev2
 | succ m =>
  simp only [whlL] at ev2
  split at ev2
  ·rename_i M3 e3
   refine ⟨r2,sg2,M2,_,_,hs2,h2,e3,fun r3 H3 x3 h3=>iteT ⟨fun s' H'=>∃ r4 sg4 M4,Ext r r4 H H'/\RS X.K r4 H' sg4 s'/\RH X.K r4 M4 H'/\whlL (fun sg M=>evE cf ic sg M) (fun sg M=>zM cf iss sg M) m sg4 M4=some (fl,M'),fun s' H' ⟨r4,sg4,M4,k⟩=>⟨m,Nat.lt_succ_self m,r4,sg4,M4,k⟩,?_⟩⟩
   cases ec:zM cf iss sg2 M3 with
   | none=>rw [ec] at ev2;cases ev2
   | some p =>
    obtain ⟨f4,M4⟩:=p
    rw [ec] at ev2
    refine ⟨r3,sg2,M3,f4,M4,hs2.ext x3,h3,ec,fun r5 H5 x5 h5=>?_⟩
    cases f4 with
    | nx sg5=>exact fun s' k=>⟨r5,sg5,M4,(x2.trans x3).trans x5,k,h5,ev2⟩
    | ct sg5=>exact fun s' k=>⟨r5,sg5,M4,(x2.trans x3).trans x5,k,h5,ev2⟩
    | brk sg5=>cases ev2;exact fun s' k=>q r5 H5 ((x2.trans x3).trans x5) h5 s' k
    | ret w=>cases ev2;exact fun u k=>q r5 H5 ((x2.trans x3).trans x5) h5 u k
  ·rename_i M3 e3
   cases ev2
   exact ⟨r2,sg2,M2,_,_,hs2,h2,e3,fun r3 H3 x3 h3=>iteF (q r3 H3 (x2.trans x3) h3 s2 (hs2.ext x3))⟩
  ·cases ev2
def XTs (X:Cx) (cf:CF) (ifs:List Expr) (i:E):Prop:=PTs X ifs (TTv X.K (evE cf i))
theorem zal:XTs X cf [] (.con (.bl true)):=by
 refine ⟨fun pins s σ H Q I q=>pts_nil.run pins s σ H Q I ?_⟩
 obtain ⟨r,sg,M,b,M',hs,hh,e,q⟩:=q
 simp only [evE] at e
 cases e
 exact q r H .refl hh
theorem zbA (h:XT X cf c ic):XTs X cf [c] ic:=pts_one h
theorem lc_red {K:PySem.W.Frag} {s:L2.St} {H:Hp} {Q:VK} {t:Tg} {it:Mp.It} {vs:List Nat} (ht:∀ j∈t.ixs,j∈vs) (q:TEv K (evE cf (.lc vs t it ic i)) s H Q) :
  tLc (TIv K (evI cf it)) (gOf K t) (TTv K (evE cf ic)) (TEv K (evE cf i)) vs s H Q:=by
 obtain ⟨r,sg,M,z,M',hs,hh,ev,q⟩:=q
 simp only [evE] at ev
 split at ev
 ·rename_i src M1 e1
  obtain ⟨Mx,ev,ez⟩:=Option.map_eq_some_iff.mp ev
  cases ez
  refine ⟨r,sg,M,src,M1,hs,hh,e1,fun r1 H1 J x1 h1 ok D hD=>?_⟩
  have hx:Ext r1 (r1++[D]) H1 (upd H1 D (.lst [])):=zbM hD [D]
  have hn:RH K (r1++[D]) (M1++[.lst []]) (upd H1 D (.lst [])):=h1.new hD ⟨[],upd_same,.nil⟩
  have hd:(r1++[D])[M1.length]? = some D:=by rw [<- h1.len];simp
  refine ⟨fun k m H=>∃ r2 M2,Ext (r1++[D]) r2 (upd H1 D (.lst [])) H/\RH K r2 M2 H/\lcL src (tgP t) (fun sg M=>evE cf ic sg M) (fun sg M=>evE cf i sg M) M1.length (z6 sg vs) m k M2=some M',⟨zdC,r1++[D],_,.refl,hn,ev⟩,?_⟩
  rintro k m H2 ⟨r2,M2,x2,h2,ev2⟩
  cases m with
  | zero=>simp only [lcL] at ev2;cases ev2
  | succ m =>
   simp only [lcL] at ev2
   obtain ⟨o1,o2⟩:=ok r2 M2 H2 k (hx.trans x2) h2
   have xs2:Ext r r2 H H2:=x1.trans (hx.trans x2)
   cases eg:src.get M2 k with
   | none=>rw [eg] at ev2;cases ev2
   | some og =>
    rw [eg] at ev2
    cases og with
    | none=>cases ev2;exact .inl ⟨o2 eg,q r2 _ H2 xs2 h2 (.ref (x2.at hd))⟩
    | some x =>
     obtain ⟨g1,g2⟩:=o1 x eg
     refine .inr ⟨g1,fun H'=>∃ r3 M3,Ext (r1++[D]) r3 (upd H1 D (.lst [])) H'/\RH K r3 M3 H'/\lcL src (tgP t) (fun sg M=>evE cf ic sg M) (fun sg M=>evE cf i sg M) M1.length (z6 sg vs) m (k+1) M3=some M',fun H' ⟨r3,M3,w⟩=>⟨m,Nat.lt_succ_self m,r3,M3,w⟩,fun v H3 y=>?_⟩
     obtain ⟨x3,h3,v3⟩:=g2 v H3 y
     simp only at ev2
     cases eb:tgP t M2 x (z6 sg vs) with
     | none=>rw [eb] at ev2;cases ev2
     | some sg3 =>
      rw [eb] at ev2
      refine g_run h3 (((hs.ext xs2).ext x3).wipe vs) v3 eb fun s4 hs4 hw=>⟨by rw [hw vs ht,zex],?_⟩
      simp only at ev2
      split at ev2
      ·rename_i M4 e4
       refine ⟨r2,sg3,M2,_,_,hs4,h3,e4,fun r5 H5 x5 h5=>iteT ?_⟩
       cases e5:evE cf i sg3 M4 with
       | none=>rw [e5] at ev2;cases ev2
       | some p =>
        obtain ⟨y,M6⟩:=p
        rw [e5] at ev2
        refine ⟨r5,sg3,M4,y,M6,hs4.ext x5,h5,e5,fun r7 u7 H7 x7 h7 v7=>?_⟩
        simp only at ev2
        cases e8:zl M6 M1.length with
        | none=>rw [e8] at ev2;cases ev2
        | some acc =>
         rw [e8] at ev2
         simp only at ev2
         split at ev2
         ·rename_i hl
          obtain ⟨a,ws,k1,k2,k3⟩:=zbd h7 e8
          have x27:Ext (r1++[D]) r7 (upd H1 D (.lst [])) H7:=((x2.trans x3).trans x5).trans x7
          rw [x27.at hd] at k1;cases k1
          have xe:=zdf (r:=r7) (o:=.lst (ws++[u7])) k2 trivial (List.mem_of_getElem? (x27.at hd))
          exact ⟨ws,k2,by rw [<- k3.length];exact hl,r7,_,x27.trans xe,h7.set (o:=.lst (acc++[y])) k2 trivial (x27.at hd) ⟨_,upd_same,(k3.append (.cons v7 .nil)).ext xe⟩,ev2⟩
         ·cases ev2
      ·rename_i M4 e4
       exact ⟨r2,sg3,M2,_,_,hs4,h3,e4,fun r5 H5 x5 h5=>iteF ⟨r5,M4,(x2.trans x3).trans x5,h5,ev2⟩⟩
      ·cases ev2
 ·cases ev
section
variable {elt:Expr} {ifs:List Expr} {scope:Scope} {own:List (Str × Nat)} {t:Tg} {it:Mp.It}
theorem za8 (hc:X.calm=true) (hN:X.N.Nodup) (hi:XI X cf tg iter it) (ok:BlkOk X.N X.env.scope scope own)
  (hg:∀ (s:Shared) (H:Hp) (C:Addr) (cl:List (Str × Addr)) (fp:List Addr),XG (X.blk s H scope (compEnvC scope cl C X.env) fp) tg t) (ht:∀ (s:Shared) (H:Hp) (C:Addr) (cl:List (Str × Addr)) (fp:List Addr),XTs (X.blk s H scope (compEnvC scope cl C X.env) fp) cf ifs ic)
  (he:∀ (s:Shared) (H:Hp) (C:Addr) (cl:List (Str × Addr)) (fp:List Addr),XE (X.blk s H scope (compEnvC scope cl C X.env) fp) cf elt i) (hx:∀ j∈t.ixs,j∈own.map (·.2)) (hs:∀ x,foldedSetIterable iter X.env x=pure x:=by intro _;rfl) :
  XE X cf (.ListComp elt [⟨tg,iter,ifs,0⟩] scope pos) (.lc (own.map (·.2)) t it ic i) :=
 zak (pe_lc (g:=gOf X.K t) (tt:=TTv X.K (evE cf ic)) (te:=TEv X.K (evE cf i)) hc hN hi ok hg ht he hs) fun s H Q q=>lc_red hx q
theorem zfJ {n:Nat} {y:Str} {py spos:Pos} (hc:X.calm=true) (hN:X.N.Nodup) (hy:X.N[n]? = some y) (hyl:X.env.scope.names.lookup y=some .local)
  (hsw:swapsWith (.ListComp elt [⟨tg,iter,ifs,0⟩] scope pos) (some (.Name y py)) spos.line X.env=pure true) (hi:XI X cf tg iter it) (ok:BlkOk X.N X.env.scope scope own)
  (hg:∀ (s:Shared) (H:Hp) (C:Addr) (cl:List (Str × Addr)) (fp:List Addr),XG (X.blk s H scope (compEnvC scope cl C X.env) fp) tg t) (ht:∀ (s:Shared) (H:Hp) (C:Addr) (cl:List (Str × Addr)) (fp:List Addr),XTs (X.blk s H scope (compEnvC scope cl C X.env) fp) cf ifs ic)
  (he:∀ (s:Shared) (H:Hp) (C:Addr) (cl:List (Str × Addr)) (fp:List Addr),XE (X.blk s H scope (compEnvC scope cl C X.env) fp) cf elt i) (hx:∀ j∈t.ixs,j∈own.map (·.2)) (hs:∀ x,foldedSetIterable iter X.env x=pure x:=by intro _;rfl) :
  XS X cf (.Assign [.Name y py] (.ListComp elt [⟨tg,iter,ifs,0⟩] scope pos) spos) (.asg (.name n) (.lc (own.map (·.2)) t it ic i)):=by
 refine zc3 (ps_setLc (g:=gOf X.K t) (tt:=TTv X.K (evE cf ic)) (te:=TEv X.K (evE cf i)) hc hN hy hyl hsw hi ok hg ht he hs) fun D s H q=>?_
 have:=zmd (X:=X) (t:=.name n) q
 exact lc_red hx this
end
end
end Mp
namespace Mp
open PySem L2
section
variable {K:PySem.W.Frag} {r r':List Addr} {H H':Hp}
mutual
theorem RV.mv (ht:∀ a xs,SqT K H a xs->SqT K H' a xs) (hc:∀ a ns,CL K H a ns->CL K H' a ns) (hp:∀ a xs,PlT H a xs->PlT H' a xs):∀ {x:PV} {v:V},RV K r H x v->RV K r H' x v
 | _,_,.non=>.non
 | _,_,.bl b=>.bl b
 | _,_,.int b=>.int b
 | _,_,.str b=>.str b
 | _,_,.tup h hs=>.tup (ht _ _ h) (RVs.mv ht hc hp hs)
 | _,_,.ref h=>.ref h
 | _,_,.cl h=>.cl (hc _ _ h)
 | _,_,.fn n x=>.fn n x
 | _,_,.ptup h hs=>.ptup (hp _ _ h) (RVs.mv ht hc hp hs)
theorem RVs.mv (ht:∀ a xs,SqT K H a xs->SqT K H' a xs) (hc:∀ a ns,CL K H a ns->CL K H' a ns) (hp:∀ a xs,PlT H a xs->PlT H' a xs):∀ {x:List PV} {v:List V},RVs K r H x v->RVs K r H' x v
 | _,_,.nil=>.nil
 | _,_,.cons h hs=>.cons (RV.mv ht hc hp h) (RVs.mv ht hc hp hs)
end
variable {d:Addr} {od:Obj} {vs:List (Key × V)} {u:HO}
end
end Mp
namespace Mp
open PySem L2
def RSt (K:PySem.W.Frag):TSet:=fun o i v H Q=>∃ r M po pi pv M',RH K r M H/\RV K r H po o/\RV K r H pi i/\RV K r H pv v/\zjm M po pi pv=some M'/\∀ r' H',Ext r r' H H'->RH K r' M' H'->Q H'
theorem zld {K:PySem.W.Frag} {r:List Addr} {H:Hp} {k:Key} {p:PV} {v:V} (h:RV K r H p v):∀ {kvs:List (Key × PV)} {vs:List (Key × V)},vs.map (·.1)=kvs.map (·.1)->RVs K r H (kvs.map (·.2)) (vs.map (·.2)) ->
  (vs.map fun kv=>if kv.1=k then (kv.1,v) else kv).map (·.1)=(kvs.map fun kv=>if kv.1=k then (kv.1,p) else kv).map (·.1) /\
   RVs K r H ((kvs.map fun kv=>if kv.1=k then (kv.1,p) else kv).map (·.2)) ((vs.map fun kv=>if kv.1=k then (kv.1,v) else kv).map (·.2))
 | [],[],_,_=>⟨rfl,.nil⟩
 | [],_::_,e,_=>by simp at e
 | _::_,[],e,_=>by simp at e
 | (k1,p1)::kvs,(k2,v2)::vs,e,hs=>by
  simp only [List.map_cons,List.cons.injEq] at e
  obtain ⟨e1,e2⟩:=e
  have e1:k2=k1:=e1
  subst e1
  cases hs with
  | cons h1 hs =>
   obtain ⟨i1,i2⟩:=zld (k:=k) h e2 hs
   by_cases hk:k2=k
   ·subst hk
    simp only [List.map_cons,if_pos]
    exact ⟨by rw [i1],.cons h i2⟩
   ·simp only [List.map_cons,if_neg hk]
    exact ⟨by rw [i1],.cons h1 i2⟩
theorem zle {K:PySem.W.Frag} {r:List Addr} {H:Hp} (k:Key) {p:PV} {v:V} {kvs:List (Key × PV)} {vs:List (Key × V)} (h:RV K r H p v) (e:vs.map (·.1)=kvs.map (·.1)) (hs:RVs K r H (kvs.map (·.2)) (vs.map (·.2))) :
  (putK vs k v).map (·.1)=(zaH kvs k p).map (·.1)/\RVs K r H ((zaH kvs k p).map (·.2)) ((putK vs k v).map (·.2)):=by
 have ea:(vs.any fun kv=>decide (kv.1=k))=(kvs.any fun kv=>decide (kv.1=k)):=by
  have h1:(vs.any fun kv=>decide (kv.1=k))=(vs.map (·.1)).any fun q=>decide (q=k):=by rw [List.any_map];rfl
  have h2:(kvs.any fun kv=>decide (kv.1=k))=(kvs.map (·.1)).any fun q=>decide (q=k):=by rw [List.any_map];rfl
  rw [h1,h2,e]
 unfold putK zaH
 rw [ea]
 split
 ·exact zld h e hs
 ·refine ⟨by simp [e],?_⟩
  rw [List.map_append,List.map_append]
  exact hs.append (.cons h .nil)
section
variable {X:Cx} {cf:CF} {e a b c o tg iter:Expr} {es:List Expr} {st:Stmt} {sts sts2:List Stmt} {i ia ib ic io:E} {is:S} {iss iss2:Ss} {pos:Pos}
theorem setx (hu:X.A.units+64<cLine):PSet X (RSt X.K):=by
 intro pins s σ H o i v ov iv u Q I ro ri rv h
 obtain ⟨r,M,po,pi,pv,M',hh,vo,vi,vv,e,q⟩:=h
 cases vo with
 | @ref n a1 hn =>
  simp only [zjm] at e
  split at e
  ·rename_i xs k e1
   obtain ⟨j,e2,e3⟩:=Option.map_eq_some_iff.mp e
   subst e3
   obtain ⟨b1,g1,vs,g2,g3⟩:=hh.at e1
   rw [hn] at g1;cases g1
   cases vi
   refine set_list pins s σ H _ _ v ov iv u Q I ro ri rv ⟨a1,vs,k,j,rfl,rfl,g2,by rw [<- g3.length];exact e2,?_⟩
   have x:=zdf (r:=r) (o:=.lst (vs.set j v)) g2 trivial (List.mem_of_getElem? hn)
   exact q r _ x (hh.set g2 trivial hn ⟨_,upd_same,(g3.set j vv).ext x⟩)
  ·rename_i _ kvs e1
   obtain ⟨k,e2,e3⟩:=Option.bind_eq_some_iff.mp e
   split at e3
   ·rename_i hl
    cases e3
    obtain ⟨vs,g2,g3,g4⟩:=zhg hh e1 hn
    have:=zdt vi e2
    subst this
    obtain ⟨p1,p2⟩:=zle k vv g3 g4
    have x:=zdf (r:=r) (o:=.dK (putK vs k v)) g2 trivial (List.mem_of_getElem? hn)
    refine set_dict (by omega) pins s σ H _ _ v ov iv u Q I ro ri rv ⟨a1,_,rfl,DPut.k (k:=k) g2 ?_,q r _ x (hh.set (o:=.dic (zaH kvs k pv)) g2 trivial hn ⟨_,upd_same,p1,p2.ext x⟩)⟩
    have:=congrArg List.length g3
    simp only [List.length_map] at this
    omega
   ·cases e3
  ·cases e
 | _=>simp [zjm] at e
theorem zfo (hu:X.A.units+64<cLine) (hv:XE X cf e i) (ho:XE X cf a ia) (hi:XE X cf b ib) {spos:Pos}
  (ha:∀ v,assign (.Subscript a b pos) X.env v=(do
   let ov <- holding [v] (eval a X.env)
   let iv <- holding [v,ov] (eval b X.env)
   standAt pos
   holding [v,ov,iv] (setItem ov iv v)
   release [v,ov,iv] []):=by intro _;rfl)
  (h1:swapsWithSole [.Subscript a b pos] e spos.line X.env=pure false:=by rfl) (h2:swappedStores [.Subscript a b pos] e X.env=pure none:=by rfl)
  (h3:(assignEach [.Subscript a b pos] X.env).map (·.2)=[assign (.Subscript a b pos) X.env]:=by rfl):XS X cf (.Assign [.Subscript a b pos] e spos) (.sto ia ib i):=by
 refine zc3 (ps_asg hv (pg_sub ho hi (setx hu) ha) h1 h2 h3) fun D s H q=>?_
 obtain ⟨r,sg,M,fl,M',hs,hh,ev,q⟩:=q
 simp only [evS] at ev
 split at ev
 ·rename_i x M1 e1
  split at ev
  ·rename_i y M2 e2
   split at ev
   ·rename_i z M3 e3
    obtain ⟨M4,e4,e5⟩:=Option.map_eq_some_iff.mp ev
    cases e5
    exact ⟨r,sg,M,x,M1,hs,hh,e1,fun r1 u1 H1 x1 h1 v1=>⟨r1,sg,M1,y,M2,hs.ext x1,h1,e2,fun r2 u2 H2 x2 h2 v2=>⟨r2,sg,M2,z,M3,hs.ext (x1.trans x2),h2,e3,fun r3 u3 H3 x3 h3 v3 =>
     ⟨r3,M3,y,z,x,_,h3,v2.ext x3,v3,v1.ext (x2.trans x3),e4,fun r4 H4 x4 h4=>q r4 H4 (x1.trans (x2.trans (x3.trans x4))) h4 s (hs.ext (x1.trans (x2.trans (x3.trans x4))))⟩⟩⟩⟩
   ·cases ev
  ·cases ev
 ·cases ev
theorem zkx {j:Es} {sg:Sg} {M M':Mm} {z:PV} (ev:evE cf (.tup j) sg M=some (z,M')):∃ xs,zv cf j sg M=some (xs,M')/\z=.tup xs:=by
 simp only [evE] at ev
 split at ev
 ·rename_i xs M1 e1
  split at ev
  ·cases ev;exact ⟨xs,e1,rfl⟩
  ·cases ev
 ·cases ev
theorem zc6 {m n:Nat} {x y:Str} {px py pt:Pos} {kt k2 pt2} {j:Es} (hc:X.calm=true) (hN:X.N.Nodup) (hi:X.N[m]? = some x) (hj:X.N[n]? = some y) (hij:m≠n)
  (hx:X.env.scope.names.lookup x=some .local) (hy:X.env.scope.names.lookup y=some .local) (ha:XA X cf [a,b] j)
  (hw:swappedStores [.Tuple [.Name x px,.Name y py] kt pt] (.Tuple [a,b] k2 pt2) X.env=pure (some [x,y]))
  (hs:swapsWithSole [.Tuple [.Name x px,.Name y py] kt pt] (.Tuple [a,b] k2 pt2) pos.line X.env=pure false:=by rfl) :
  XS X cf (.Assign [.Tuple [.Name x px,.Name y py] kt pt] (.Tuple [a,b] k2 pt2) pos) (.asg (.tup [m,n]) (.tup j)):=by
 refine zc3 (ps_par hc hN hi hj hij hx hy ha hw hs) fun D s H q=>?_
 obtain ⟨r,sg,M,fl,M',hs,hh,ev,q⟩:=q
 simp only [evS] at ev
 split at ev
 ·rename_i z M1 e1
  obtain ⟨xs,e1',rfl⟩:=zkx e1
  obtain ⟨sg1,e2,e3⟩:=Option.map_eq_some_iff.mp ev
  cases e3
  refine ⟨r,sg,M,xs,_,hs,hh,e1',fun r1 vs H1 x1 h1 v1=>?_⟩
  match xs,v1,e2 with
  | [p1,p2],.cons w1 (.cons w2 .nil),e2 =>
   simp only [tgP,zx] at e2
   cases e2
   exact ⟨_,_,rfl,q r1 H1 x1 h1 _ (((hs.ext x1).set m w1).set n w2)⟩
 ·cases ev
theorem xs_par3 {m n l:Nat} {x y z:Str} {px py pz pt:Pos} {kt k2 pt2} {j:Es} (hc:X.calm=true) (hN:X.N.Nodup) (hi:X.N[m]? = some x) (hj:X.N[n]? = some y) (hl:X.N[l]? = some z) (hij:m≠n) (hil:m≠l) (hjl:n≠l)
  (hx:X.env.scope.names.lookup x=some .local) (hy:X.env.scope.names.lookup y=some .local) (hz:X.env.scope.names.lookup z=some .local) (ha:XA X cf [a,b,c] j)
  (hw:swappedStores [.Tuple [.Name x px,.Name y py,.Name z pz] kt pt] (.Tuple [a,b,c] k2 pt2) X.env=pure (some [x,y,z]))
  (hs:swapsWithSole [.Tuple [.Name x px,.Name y py,.Name z pz] kt pt] (.Tuple [a,b,c] k2 pt2) pos.line X.env=pure false:=by rfl) :
  XS X cf (.Assign [.Tuple [.Name x px,.Name y py,.Name z pz] kt pt] (.Tuple [a,b,c] k2 pt2) pos) (.asg (.tup [m,n,l]) (.tup j)):=by
 refine zc3 (ps_par3 hc hN hi hj hl hij hil hjl hx hy hz ha hw hs) fun D s H q=>?_
 obtain ⟨r,sg,M,fl,M',hs,hh,ev,q⟩:=q
 simp only [evS] at ev
 split at ev
 ·rename_i z M1 e1
  obtain ⟨xs,e1',rfl⟩:=zkx e1
  obtain ⟨sg1,e2,e3⟩:=Option.map_eq_some_iff.mp ev
  cases e3
  refine ⟨r,sg,M,xs,_,hs,hh,e1',fun r1 vs H1 x1 h1 v1=>?_⟩
  match xs,v1,e2 with
  | [p1,p2,p3],.cons w1 (.cons w2 (.cons w3 .nil)),e2 =>
   simp only [tgP,zx] at e2
   cases e2
   exact ⟨_,_,_,rfl,q r1 H1 x1 h1 _ ((((hs.ext x1).set m w1).set n w2).set l w3)⟩
 ·cases ev
theorem zeh.dic {K:PySem.W.Frag} {r:List Addr} {H:Hp} {M:Mm} {Q:VK} {p:Addr} (q:zeh K r H (.ref M.length) (M++[.dic []]) Q) (h:RH K r M H) (hp:H p=none):Q (.ref p) (upd H p (.dK [])) :=
 q (r++[p]) _ _ (zbM hp [p]) (h.new hp ⟨[],upd_same,rfl,.nil⟩) (.ref (by rw [<- h.len];simp))
theorem zhG:XE X cf (.Dict [] [] pos) .dnew:=by
 refine zak pe_dnewK fun s H Q h=>?_
 obtain ⟨r,sg,M,z,M',hs,hh,e,q⟩:=h
 simp only [evE] at e
 cases e
 exact fun p hp=>q.dic hh hp
def TPv (K:PySem.W.Frag) (ks:List Key) (f:Sg->Mm->Option (List PV × Mm)):L2.St->Hp->(List (V × V)->Hp->Prop)->Prop:=fun s H Q=>∃ r sg M xs M',RS K r H sg s/\RH K r M H/\f sg M=some (xs,M') /\
 ∀ r' vs H',Ext r r' H H'->RH K r' M' H'->RVs K r' H' xs vs->Q ((ks.map kV).zip vs) H'
structure XP (X:Cx) (cf:CF) (pos:Pos) (ks:List (Option Expr)) (vs:List Expr) (trs:List (TE × TE)) (keys:List Key) (j:Es):Prop where
 pp:PPs X pos ks vs trs
 len:keys.length=vs.length
 red:∀ s H Q,TPv X.K keys (zv cf j) s H Q->tPairs trs s H Q
theorem zkj:XP X cf pos [] [] [] [] .nil:=⟨pps_nil,rfl,fun s H Q h=>by
 obtain ⟨r,sg,M,xs,M',hs,hh,e,q⟩:=h
 simp only [zv] at e
 cases e
 exact q r [] H .refl hh .nil⟩
theorem zdm {k:Str} {jj:Nat} {kp:Pos} {ks:List (Option Expr)} {vs:List Expr} {trs:List (TE × TE)} {keys:List Key} {j:Es} (h:XE X cf e i) (hr:XP X cf pos ks vs trs keys j) :
  XP X cf pos (some (.Constant (.str k) jj kp)::ks) (e::vs) ((tC (.str k),TEv X.K (evE cf i))::trs) (.inr k::keys) (.cons i j):=⟨pps_cons pe_str h hr.pp,by simp [hr.len],fun s H Q h=>by
 obtain ⟨r,sg,M,ys,M',hs,hh,e,q⟩:=h
 obtain ⟨x,xs,M1,e1,e2,rfl⟩:=zcE e
 refine ⟨r,sg,M,x,M1,hs,hh,e1,fun r1 u1 H1 x1 h1 v1=>hr.red _ _ _ ⟨r1,sg,M1,xs,M',hs.ext x1,h1,e2,fun r2 us H2 x2 h2 v2=>?_⟩⟩
 exact q r2 (u1::us) H2 (x1.trans x2) h2 (.cons (v1.ext x2) v2)⟩
theorem fold_ok {K:PySem.W.Frag} {r:List Addr} {H:Hp}:∀ {ks:List Key} {xs:List PV} {vs:List V} {kvs:List (Key × PV)} {ws:List (Key × V)},RVs K r H xs vs->ws.map (·.1)=kvs.map (·.1)->RVs K r H (kvs.map (·.2)) (ws.map (·.2)) ->
  (mergeK ws (ks.zip vs)).map (·.1)=((ks.zip xs).foldl (fun acc kv=>zaH acc kv.1 kv.2) kvs).map (·.1)/\RVs K r H (((ks.zip xs).foldl (fun acc kv=>zaH acc kv.1 kv.2) kvs).map (·.2)) ((mergeK ws (ks.zip vs)).map (·.2))
 | [],_,_,_,_,_,e,h=>by simpa [mergeK] using ⟨e,h⟩
 | _::_,[],_,_,_,.nil,e,h=>by simpa [mergeK] using ⟨e,h⟩
 | k::ks,x::xs,_,kvs,ws,.cons (v:=v) h1 hs,e,h=>by
  obtain ⟨p1,p2⟩:=zle k h1 e h
  have:=fold_ok (ks:=ks) hs p1 p2
  simpa [mergeK] using this
theorem zkm {ks:List (Option Expr)} {vs:List Expr} {trs:List (TE × TE)} {keys:List Key} {j:Es} (h:XP X cf pos ks vs trs keys j) (hall:ks.all (·.isSome)=true) (hl:ks.length=vs.length) (h0:ks≠[]) (h15:ks.length<=15) :
  XE X cf (.Dict ks vs pos) (.dct keys j):=by
 refine zak (pe_disp h.pp hall hl h0 h15) fun s H Q q=>?_
 obtain ⟨r,sg,M,z,M',hs,hh,e,q⟩:=q
 simp only [evE] at e
 intro p hp
 have x0:=zbM (r:=r) (o:=.dK []) hp [p]
 have hn:RH X.K (r++[p]) (M++[.dic []]) (upd H p (.dK [])):=hh.new hp ⟨[],upd_same,rfl,.nil⟩
 have hd:(r++[p])[M.length]? = some p:=by rw [<- hh.len];simp
 split at e
 ·rename_i xs M1 e1
  split at e
  ·rename_i hk
   split at e
   ·rename_i e2
    cases e
    refine h.red _ _ _ ⟨r++[p],sg,_,xs,M1,hs.ext x0,hn,e1,fun r1 ws H1 x1 h1 v1=>?_⟩
    have g2:M1[M.length]? = some (.dic []):=by
     unfold zbu at e2
     split at e2
     ·rename_i kv e3;cases e2;exact e3
     ·cases e2
    obtain ⟨vs',k2,k3,_⟩:=zhg h1 g2 (x1.at hd)
    have k3':vs'=[]:=by simpa using k3
    subst k3'
    obtain ⟨p1,p2⟩:=fold_ok (ks:=keys) (kvs:=[]) (ws:=[]) v1 rfl .nil
    have x2:=zdf (r:=r1) (o:=.dK (mergeK [] (keys.zip ws))) k2 trivial (List.mem_of_getElem? (x1.at hd))
    refine ⟨k2,keys.zip ws,?_,?_,q r1 _ _ (x0.trans (x1.trans x2)) (h1.set k2 trivial (x1.at hd) ⟨_,upd_same,p1,p2.ext x2⟩) (.ref (x1.at hd))⟩
    ·rw [List.zip_map_left]
     rfl
    ·rw [List.length_zip];have:=hk.2;omega
   ·cases e
  ·cases e
 ·cases e
theorem mth_inv {m:Mt} {j:Es} {sg:Sg} {M M':Mm} {z:PV} (ev:evE cf (.mth m io j) sg M=some (z,M')):∃ x xs M1 M2,evE cf io sg M=some (x,M1)/\zds M1 m x=true/\zv cf j sg M1=some (xs,M2)/\zef M2 m x xs=some (z,M'):=by
 simp only [evE] at ev
 split at ev
 ·rename_i x M1 e1
  split at ev
  ·rename_i hk
   split at ev
   ·rename_i xs M2 e2;exact ⟨x,xs,M1,M2,e1,hk,e2,ev⟩
   ·cases ev
  ·cases ev
 ·cases ev
def RMt (K:PySem.W.Frag) (m:Mt):V->List V->Hp->VK->Prop:=fun x vs H Q=>∃ r M p ps z M',RH K r M H/\RV K r H p x/\RVs K r H ps vs/\zef M m p ps=some (z,M')/\zeh K r H z M' Q
theorem mt_red {T:String} {m:Mt} {j:Es} {ta:TA} {s:L2.St} {H:Hp} {Q:VK} (hT:∀ K r M H x v,RH K r M H->RV K r H x v->zds M m x=true->tyV K T v H) (hta:∀ s H Q,TAv X.K (zv cf j) s H Q->ta s H Q)
  (q:TEv X.K (evE cf (.mth m io j)) s H Q):tBM X.K T (RMt X.K m) (TEv X.K (evE cf io)) ta s H Q:=by
 obtain ⟨r,sg,M,z,M',hs,hh,ev,q⟩:=q
 obtain ⟨x,xs,M1,M2,e1,hk,e2,e3⟩:=mth_inv ev
 exact ⟨r,sg,M,x,M1,hs,hh,e1,fun r1 u1 H1 x1 h1 v1=>⟨hT _ _ _ _ _ _ h1 v1 hk,hta _ _ _ ⟨r1,sg,M1,xs,M2,hs.ext x1,h1,e2,fun r2 us H2 x2 h2 v2=>⟨r2,M2,x,xs,z,M',h2,v1.ext x2,v2,e3,fun r3 u3 H3 x3 h3 v3=>q r3 u3 H3 (x1.trans (x2.trans x3)) h3 v3⟩⟩⟩⟩
theorem tyL {m:Mt} (hm:∀ M x,zds M m x=true->∃ n xs,x=.ref n/\zl M n=some xs):∀ K r M H x v,RH K r M H->RV K r H x v->zds M m x=true->tyV K "list" v H:=fun K r M H x v hh hv hk=>by
 obtain ⟨n,xs,rfl,e⟩:=hm M x hk
 obtain ⟨a,vs,g1,g2,g3⟩:=zbd hh e
 have:=hv.refAt g1
 subst this
 exact .inl ⟨rfl,vs,.inl (.inl g2)⟩
theorem zjE:MtR X "list.append" (RMt X.K .append):=by
 intro pins s σ H x vs v us Q I rx rs h
 obtain ⟨r,M,p,ps,z,M',hh,hv,hs,e,q⟩:=h
 match p,ps,hv,hs,e with
 | .ref n,[y],hv,.cons hy .nil,e =>
  simp only [zef] at e
  obtain ⟨l,e5,e6⟩:=Option.bind_eq_some_iff.mp e
  split at e6
  ·rename_i hl
   obtain ⟨rfl,rfl⟩:=Prod.mk.inj (Option.some.inj e6)
   obtain ⟨a,ws,g1,g2,g3⟩:=zbd hh e5
   have:=hv.refAt g1
   subst this
   exact mt_append pins s σ H _ _ v us Q I rx rs ⟨a,ws,_,rfl,rfl,g2,by rw [<- g3.length];exact hl,q.set hh g2 g1 (g3.append (.cons hy .nil)) .non⟩
  ·cases e6
theorem RVs.erase {K:PySem.W.Frag} {r:List Addr} {H:Hp}:∀ {x:List PV} {v:List V} (n:Nat),RVs K r H x v->RVs K r H (x.eraseIdx n) (v.eraseIdx n)
 | _,_,_,.nil=>.nil
 | _,_,0,.cons _ hs=>hs
 | _,_,n+1,.cons h hs=>.cons h (RVs.erase n hs)
theorem mtx_pop1:MtR X "list.pop" (RMt X.K .pop1):=by
 intro pins s σ H x vs v us Q I rx rs h
 obtain ⟨r,M,p,ps,z,M',hh,hv,hs,e,q⟩:=h
 match p,ps,hv,hs,e with
 | .ref n,[.int i],hv,.cons hy .nil,e =>
  cases hy
  simp only [zef] at e
  obtain ⟨l,e5,e6⟩:=Option.bind_eq_some_iff.mp e
  obtain ⟨j,e7,e8⟩:=Option.bind_eq_some_iff.mp e6
  obtain ⟨y,e9,e10⟩:=Option.map_eq_some_iff.mp e8
  obtain ⟨rfl,rfl⟩:=Prod.mk.inj e10
  obtain ⟨a,ws,g1,g2,g3⟩:=zbd hh e5
  have:=hv.refAt g1
  subst this
  obtain ⟨w,w1,w2⟩:=g3.get e9
  obtain ⟨k1,k2,k3,k4⟩:=ixN_seq e7
  have hz:l.length<=sizeLine:=by
   have:=(I.hok a _ g2).1
   rw [g3.length];exact this
  have h24:sizeLine=16777216:=rfl
  refine mt_popAt pins s σ H _ _ v us Q I rx rs ⟨a,ws,i,j,w,rfl,rfl,g2,by omega,by omega,by rw [<- g3.length];exact k1,w1,q.set hh g2 g1 (g3.erase j) w2⟩
theorem zaq {apos cpos:Pos} (ho:XE X cf o io) (h:XE X cf e i) (hbase:attributeBase o "append" X.env (eval o X.env)=eval o X.env:=by rfl)
  (hfew:((backTo cpos (starEach [e] X.env)).all (fun x=>!x.1) && (backToKw cpos (keywordEach [] X.env)).all (fun x=>x.1.isSome)
   && decide ([e].length+([]:List Keyword).length+(if ([]:List Keyword).isEmpty then 0 else 1)<30))=true:=by rfl)
  (hline:(apos.endLine == cpos.line)=true:=by rfl) (hs:starEach [e] X.env=(false,eval e X.env)::starEach [] X.env:=by rfl) (hplain:(backTo cpos (starEach [] X.env)).any (·.1)=false:=by rfl) :
  XE X cf (.Call (.Attribute o "append" apos) [e] [] cpos) (.mth .append io (.cons i .nil)) :=
 zak (pe_bm PySem.F.plainAttrs_list PySem.F.slot_list_append PySem.F.type_list_append zjE ho (za h zd hs) hbase hfew hline hs hplain) fun s H Q q =>
  mt_red (tyL fun M x hk=>by cases x<;>simp [zds] at hk;obtain ⟨xs,e⟩:=Option.isSome_iff_exists.mp hk;exact ⟨_,xs,rfl,e⟩) (fun _ _ _ q=>q) q
theorem xe_pop1 {apos cpos:Pos} (ho:XE X cf o io) (h:XE X cf e i) (hbase:attributeBase o "pop" X.env (eval o X.env)=eval o X.env:=by rfl)
  (hfew:((backTo cpos (starEach [e] X.env)).all (fun x=>!x.1) && (backToKw cpos (keywordEach [] X.env)).all (fun x=>x.1.isSome)
   && decide ([e].length+([]:List Keyword).length+(if ([]:List Keyword).isEmpty then 0 else 1)<30))=true:=by rfl)
  (hline:(apos.endLine == cpos.line)=true:=by rfl) (hs:starEach [e] X.env=(false,eval e X.env)::starEach [] X.env:=by rfl) (hplain:(backTo cpos (starEach [] X.env)).any (·.1)=false:=by rfl) :
  XE X cf (.Call (.Attribute o "pop" apos) [e] [] cpos) (.mth .pop1 io (.cons i .nil)) :=
 zak (pe_bm PySem.F.plainAttrs_list PySem.F.slot_list_pop PySem.F.type_list_pop mtx_pop1 ho (za h zd hs) hbase hfew hline hs hplain) fun s H Q q =>
  mt_red (tyL fun M x hk=>by cases x<;>simp [zds] at hk;obtain ⟨xs,e⟩:=Option.isSome_iff_exists.mp hk;exact ⟨_,xs,rfl,e⟩) (fun _ _ _ q=>q) q
end
end Mp
namespace Mp
open PySem L2
def tyS:Ty->String
 | .list => "list" | .tuple => "tuple" | .int => "int" | .bool => "bool" | .str => "str" | .dict => "dict"
theorem zcw (u t:Ty):kitB (tyS u) (tyS t)=some (u == t || (u == .bool && t == .int)):=by
 cases u<;>cases t<;>decide +kernel
theorem kit_non (t:Ty):kitB "NoneType" (tyS t)=some false:=by
 cases t<;>decide +kernel
theorem tyx {K:PySem.W.Frag} {r:List Addr} {H:Hp} {M:Mm} {x:PV} {v:V} (hh:RH K r M H) (h:RV K r H x v) (hx:∀ n,x=.ref n->∃ o,M[n]? = some o) (ni:insP M x=false):∃ T:String,TyX K H v (.type T)/\∀ t,kitB T (tyS t)=some (zgw M x t):=by
 cases h with
 | non=>exact ⟨"NoneType",.base .non,fun t=>by rw [kit_non];rfl⟩
 | bl b=>exact ⟨"bool",.base (.bl b),fun t=>zcw .bool t⟩
 | int b=>exact ⟨"int",.base (.int b),fun t=>zcw .int t⟩
 | str b=>exact ⟨"str",.base (.str b),fun t=>zcw .str t⟩
 | @tup xs a vs ht hs =>
  refine ⟨"tuple",?_,fun t=>zcw .tuple t⟩
  rcases ht with (ht | ⟨o,ht⟩) | ⟨o,its,n,h1,h2,_⟩
  ·exact .base (.tup ht)
  ·exact .fTuple ht
  ·exact .kTuple h1 h2
 | @ptup xs a vs ht hs =>
  obtain ⟨o,_,_,ht⟩:=ht
  exact ⟨"tuple",.fTuple ht,fun t=>zcw .tuple t⟩
 | @cl ns a hc =>
  refine ⟨"list",?_,fun t=>zcw .list t⟩
  rcases hc with ⟨o,hc⟩ | hc
  ·exact .base (.frz hc)
  ·rcases hc (fun _=>none) with (z | ⟨o,z⟩) | ⟨o,its,n,h1,h2,_⟩
   ·cases z
   ·cases z
   ·exact .kList h1 h2
 | @ref n a hn =>
  obtain ⟨o,ho⟩:=hx n rfl
  have q:=hh.ob n a o hn ho
  cases o with
  | lst xs =>
   obtain ⟨vs,g,_⟩:=q
   refine ⟨"list",.base (.lst g),fun t=>?_⟩
   rw [show zgw M (.ref n) t=(Ty.list == t || (Ty.list == .bool && t == .int)) by simp [zgw,zkb,ho]]
   exact zcw .list t
  | dic xs =>
   obtain ⟨vs,g,_⟩:=q
   refine ⟨"dict",.base (.dK g),fun t=>?_⟩
   rw [show zgw M (.ref n) t=(Ty.dict == t || (Ty.dict == .bool && t == .int)) by simp [zgw,zkb,ho]]
   exact zcw .dict t
  | ins c fs=>simp [ho] at ni
  | slt c fs=>simp [ho] at ni
  | frz kvs=>simp [ho] at ni
 | fn n x=>simp at ni
theorem ref_in {K:PySem.W.Frag} {r:List Addr} {H:Hp} {M:Mm} {x:PV} {v:V} (hh:RH K r M H) (h:RV K r H x v):∀ n,x=.ref n->∃ o,M[n]? = some o:=fun n e=>by
 subst e
 cases h with
 | ref hn =>
  have:n<M.length:=by rw [<- hh.len];exact (List.getElem?_eq_some_iff.mp hn).1
  exact ⟨_,List.getElem?_eq_getElem this⟩
theorem zfu {K:PySem.W.Frag} {T:String} {f:Ty->Bool} (h:∀ t,kitB T (tyS t)=some (f t)):∀ ts:List Ty,PySem.W.kitAny K (.type T) (ts.map fun t=>Value.type (tyS t))=some (ts.any f)
 | []=>kitAny_nil
 | t::ts=>kitAny_cons (kit_ty (h t)) (fun hb=>by rw [List.any_cons,hb,Bool.false_or];exact zfu h ts) (fun hb=>by rw [List.any_cons,hb,Bool.true_or])
theorem zl3:∀ ts:List Ty,Paired ClsV (ts.map fun t=>V.ty (tyS t)) (ts.map fun t=>Value.type (tyS t))
 | []=>.nil
 | t::ts=>.cons (.ty _) (zl3 ts)
section
variable {X:Cx} {cf:CF} {e a b:Expr} {es:List Expr} {i ia:E} {pos p:Pos}
theorem z0 {t:Ty} (hg:Gl X "isinstance") (hm:X.mg "isinstance" = none) (ha:XE X cf a ia) (hb:PE X b (tC (.ty (tyS t))))
  (he:starEach [a,b] X.env=(false,eval a X.env)::starEach [b] X.env:=by rfl) (he2:starEach [b] X.env=(false,eval b X.env)::starEach [] X.env:=by rfl) (hpl:(backTo pos (starEach [b] X.env)).any (·.1)=false:=by rfl) :
  XE X cf (.Call (.Name "isinstance" p) [a,b] [] pos) (.isi ia [t]):=by
 refine zak (pe_callB call_isi hg hm (by decide +kernel) (pa_cons ha (pa_cons hb pa_nil he2) he) (by decide) (by decide) he hpl) fun s H Q h=>?_
 obtain ⟨r,sg,M,z,M',hs,hh,ev,q⟩:=h
 simp only [evE] at ev
 split at ev
 ·rename_i x M1 e1
  split at ev
  ·cases ev
  rename_i ni
  have ni:=eq_false_of_ne_true ni
  cases ev
  refine ⟨r,sg,M,x,_,hs,hh,e1,fun r1 u1 H1 x1 h1 v1=>?_⟩
  obtain ⟨T,ty,k⟩:=tyx h1 v1 (ref_in h1 v1) ni
  refine ⟨u1,.ty (tyS t),_,_,_,rfl,.ty _,ty,kit_ty (k t),q r1 _ H1 x1 h1 ?_⟩
  rw [List.any_cons,List.any_nil,Bool.or_false]
  exact .bl _
 ·cases ev
theorem zhF {ts:List Ty} {k:Nat} {tp:Pos} {tes:List Expr} {tt:TA} (hg:Gl X "isinstance") (hm:X.mg "isinstance" = none) (ha:XE X cf a ia) (hb:PA X tes tt) (hl:ts.length<=100) (htt:∀ s H Q,Q (ts.map fun t=>V.ty (tyS t)) H->tt s H Q)
  (he:starEach [a,.Tuple tes k tp] X.env=(false,eval a X.env)::starEach [.Tuple tes k tp] X.env:=by rfl) (he2:starEach [.Tuple tes k tp] X.env=(false,eval (.Tuple tes k tp) X.env)::starEach [] X.env:=by rfl) (hpl:(backTo pos (starEach [.Tuple tes k tp] X.env)).any (·.1)=false:=by rfl) :
  XE X cf (.Call (.Name "isinstance" p) [a,.Tuple tes k tp] [] pos) (.isi ia ts):=by
 refine zak (pe_callB call_isiT hg hm (by decide +kernel) (pa_cons ha (pa_cons (pe_tup hb) pa_nil he2) he) (by decide) (by decide) he hpl) fun s H Q h=>?_
 obtain ⟨r,sg,M,z,M',hs,hh,ev,q⟩:=h
 simp only [evE] at ev
 split at ev
 ·rename_i x M1 e1
  split at ev
  ·cases ev
  rename_i ni
  have ni:=eq_false_of_ne_true ni
  cases ev
  refine ⟨r,sg,M,x,_,hs,hh,e1,fun r1 u1 H1 x1 h1 v1=>htt _ _ _ ⟨?_,fun tp hp=>?_⟩⟩
  ·have:sizeLine=16777216:=rfl
   rw [List.length_map,this];omega
  ·have x2:=zaF (r:=r1) (o:=.tup (ts.map fun t=>V.ty (tyS t))) hp
   have h2:=h1.other (.tup (ts.map fun t=>V.ty (tyS t))) hp
   obtain ⟨T,ty,k⟩:=tyx h2 (v1.ext x2) (ref_in h2 (v1.ext x2)) ni
   exact ⟨u1,tp,_,_,_,_,rfl,upd_same,zl3 ts,ty,zfu k ts,q r1 _ _ (x1.trans x2) h2 (.bl _)⟩
 ·cases ev
theorem zac {x:Str} {t:Ty} (hg:Gl X x) (hm:X.mg x=none) (hv:bootBuiltins x=some (.type (tyS t))) (hn:x ≠ "__name__" := by decide) (hd:(x == ("__debug__" : Str))=false:=by decide):PE X (.Name x pos) (tC (.ty (tyS t))):=pe_bltn hg hm hv rfl hn hd
def zD (K:PySem.W.Frag) (fd:FuncData) (ps:List Str) (ds:List PV):Prop:=∀ j,j<=ds.length->∃ dvs dz,(∀ r H,RVs K r H (ds.drop j) dvs)/\Vals dvs dz/\Binds K fd ps dz
theorem zD.full {K:PySem.W.Frag} {fd:FuncData} {ps:List Str} {ds:List PV} (h:zD K fd ps ds):Binds K fd ps []:=by
 obtain ⟨dvs,dz,h1,h2,h3⟩:=h ds.length (Nat.le_refl _)
 have h4:=h1 [] (fun _=>none)
 rw [List.drop_length] at h4
 cases h4
 cases h2
 exact h3
theorem zD.none {K:PySem.W.Frag} {fd:FuncData} {ps:List Str} (h:Binds K fd ps []):zD K fd ps []:=fun j _=>⟨[],[],fun _ _=>by rw [List.drop_nil];exact .nil,.nil,h⟩
def zbY (K:PySem.W.Frag) (cf:CF) (n np:Nat):Sp:=fun vs H Q _=>vs.length=np/\∃ r M xs z M',RH K r M H/\RVs K r H xs vs/\cf n xs M=some (z,M')/\zeh K r H z M' Q
def gK (us ws:List Value):List Value:=if us.isEmpty then ws else []
def gKV (us ws:List V):List V:=if us.isEmpty then ws else []
def gI (p:List Nat) (us ws:List Value):List Value:=if us.isEmpty then p.filterMap (ws[·]?) else []
def gM (p:List Nat) (us ws:List Value):List Value:=match us with | [u]=>u::p.filterMap (ws[·]?) | _=>[]
def gMV (p:List Nat) (us ws:List V):List V:=match us with | [u]=>u::p.filterMap (ws[·]?) | _=>[]
def gIV (p:List Nat) (us ws:List V):List V:=if us.isEmpty then p.filterMap (ws[·]?) else []
def gJ (p:List Nat) (dz us ws:List Value):List Value:=if us.isEmpty then p.filterMap (ws[·]?)++dz else []
def gJV (p:List Nat) (dz us ws:List V):List V:=if us.isEmpty then p.filterMap (ws[·]?)++dz else []
def KBd (K:PySem.W.Frag) (fd:FuncData) (ps:List Str) (ds:List PV) (q:List Str × List Nat):Prop :=
 (q.2.length=ps.length->KBinds K fd ps q.1 (gI q.2) (gIV q.2)) /\
 (q.2.length≠ps.length->∃ dvs dz,(∀ r H,RVs K r H (ds.drop (q.2.length+ds.length-ps.length)) dvs)/\Vals dvs dz/\KBinds K fd ps q.1 (gJ q.2 dz) (gJV q.2 dvs))
structure OwnP (P:Program) (w:World) (K:PySem.W.Frag) (mg:Str->Option Value) (base:Heap) (A:Around) (cf:CF) (x:Str) (n:Nat) (ps ks:List Str) (p:List Nat):Prop where
 ex:∃ k f fd,FnOk P w K mg base CX0 k f fd ps (zbY K cf n ps.length)/\Room k A/\mg x=some (.ref f)/\PySem.W.keepIn K (.ref f)=true/\KBinds K fd ps ks (gI p) (gIV p)
 len:∀ xs M z,cf n xs M=some z->xs.length=ps.length
structure Own (P:Program) (w:World) (K:PySem.W.Frag) (mg:Str->Option Value) (base:Heap) (A:Around) (cf:CF) (x:Str) (n:Nat) (ps:List Str) (kw:Bool):Prop where
 ex:∃ k f fd,FnOk P w K mg base CX0 k f fd ps (zbY K cf n ps.length)/\Room k A/\mg x=some (.ref f)/\PySem.W.keepIn K (.ref f)=true/\Binds K fd ps []/\(kw=true->KBinds K fd ps ps gK gKV)
 len:∀ xs M z,cf n xs M=some z->xs.length=ps.length
structure Nm where
 x:Str
 ps:List Str
 kw:Bool
def Calls (P:Program) (w:World) (K:PySem.W.Frag) (mg:Str->Option Value) (base:Heap) (names:List Nm) (cf:CF) (k:Nat):Prop :=
 ∀ (n:Nat) (nm:Nm),names[n]? = some nm->(∃ f fd,FnOk P w K mg base CX0 k f fd nm.ps (zbY K cf n nm.ps.length)/\mg nm.x=some (.ref f)/\PySem.W.keepIn K (.ref f)=true/\Binds K fd nm.ps []/\(nm.kw=true->KBinds K fd nm.ps nm.ps gK gKV)) /\
  ∀ xs M z,cf n xs M=some z->xs.length=nm.ps.length
theorem Calls.own {P:Program} {w:World} {K:PySem.W.Frag} {mg:Str->Option Value} {base:Heap} {names:List Nm} {cf:CF} {k:Nat} (C:Calls P w K mg base names cf k) {A:Around} (hr:Room k A) {n:Nat} {x:Str} {ps:List Str} {kw:Bool} (h:names[n]? = some ⟨x,ps,kw⟩) :
  Own P w K mg base A cf x n ps kw:=by
 obtain ⟨⟨f,fd,h1,h2,h3,h4,h5⟩,hl⟩:=C n _ h
 exact ⟨⟨k,f,fd,h1,hr,h2,h3,h4,h5⟩,hl⟩
theorem call_red {n:Nat} {np:Nat} {j:Es} {ta:TA} {s:L2.St} {H:Hp} {Q:VK} {E:L2.XK} (hl:∀ xs M z,cf n xs M=some z->xs.length=np) (hta:∀ s H Q,TAv X.K (zv cf j) s H Q->ta s H Q) (q:TEv X.K (evE cf (.call n j)) s H Q):ta s H fun vs H1=>zbY X.K cf n np vs H1 Q E:=by
 obtain ⟨r,sg,M,z,M',hs,hh,ev,q⟩:=q
 simp only [evE] at ev
 split at ev
 ·rename_i xs M1 e1
  exact hta _ _ _ ⟨r,sg,M,xs,M1,hs,hh,e1,fun r1 us H1 x1 h1 v1=>⟨by rw [<- v1.length];exact hl _ _ _ ev,r1,M1,xs,z,M',h1,v1,ev,fun r2 u2 H2 x2 h2 v2=>q r2 u2 H2 (x1.trans x2) h2 v2⟩⟩
 ·cases ev
theorem zi {x:Str} {n:Nat} {ps:List Str} {kw:Bool} {j:Es} (O:Own X.prog X.w X.K X.mg X.base X.A cf x n ps kw) (hg:Gl X x) (ha:XA X cf (e::es) j)
  (hdb:(x == ("__debug__" : Str))=false:=by decide) (he:starEach (e::es) X.env=(false,eval e X.env)::starEach es X.env:=by rfl) (hpl:(backTo pos (starEach es X.env)).any (·.1)=false:=by rfl) :
  XE X cf (.Call (.Name x p) (e::es) [] pos) (.call n j):=by
 obtain ⟨k,f,fd,F,hr,hm,hk,hb,_⟩:=O.ex
 refine zak (pe_call F hr hg hm hk hb .nil pass0 ha hdb he hpl) fun s H Q q=>?_
 have:=call_red (E:=E0) (np:=ps.length) O.len (fun _ _ _ q=>q) q
 unfold tCall
 simp only [List.append_nil]
 exact this
def XK (X:Cx) (cf:CF) (ks:List Keyword) (i:Es):Prop:=PK X ks (TAv X.K (zv cf i))
theorem pk_imp {ks:List Keyword} {t t':TA} (h:PK X ks t) (k:∀ s H Q,t' s H Q->t s H Q):PK X ks t':=⟨fun p pins s σ H Q I q=>h.run p pins s σ H Q I (k _ _ _ q)⟩
theorem xk_nil:XK X cf [] .nil:=by
 refine pk_imp pk_nil fun s H Q h=>?_
 obtain ⟨r,sg,M,xs,M',hs,hh,e,q⟩:=h
 simp only [zv] at e
 cases e
 exact q r [] H .refl hh .nil
theorem zfK {nm:Option Str} {kp:Pos} {ks:List Keyword} {j:Es} (h:XE X cf e i) (h2:XK X cf ks j):XK X cf (⟨nm,e,kp⟩::ks) (.cons i j):=by
 refine pk_imp (pk_cons h h2) fun s H Q h=>?_
 obtain ⟨r,sg,M,ys,M',hs,hh,e,q⟩:=h
 obtain ⟨x,xs,M1,e1,e2,rfl⟩:=zcE e
 exact ⟨r,sg,M,x,M1,hs,hh,e1,fun r1 u1 H1 x1 h1 v1=>⟨r1,sg,M1,xs,M',hs.ext x1,h1,e2,fun r2 us H2 x2 h2 v2=>q r2 (u1::us) H2 (x1.trans x2) h2 (.cons (v1.ext x2) v2)⟩⟩
theorem ziD {K:PySem.W.Frag} {r:List Addr} {H:Hp} {xs:List PV} {vs:List V} (h:RVs K r H xs vs):∀ {p:List Nat} {ys:List PV},zgS xs p=some ys->RVs K r H ys (p.filterMap (vs[·]?))
 | [],ys,e=>by simp [zgS] at e;subst e;exact .nil
 | i::p,ys,e=>by
  unfold zgS at e
  rw [List.mapM_cons] at e
  obtain ⟨y,h1,h2⟩:=Option.bind_eq_some_iff.mp e
  obtain ⟨ys',h3,h4⟩:=Option.bind_eq_some_iff.mp h2
  cases h4
  obtain ⟨v,k1,k2⟩:=h.get h1
  rw [List.filterMap_cons,k1]
  exact .cons k2 (ziD h (p:=p) h3)
theorem zio {x:Str} {n:Nat} {ps ks:List Str} {pm:List Nat} {kws:List Keyword} {j:Es} (O:OwnP X.prog X.w X.K X.mg X.base X.A cf x n ps ks pm) (hg:Gl X x) (hkw:XK X cf kws j)
  (hall:(backToKw pos (keywordEach kws X.env)).all (·.1.isSome)=true:=by rfl) (hks:(backToKw pos (keywordEach kws X.env)).filterMap (·.1)=ks:=by rfl)
  (hdb:(x == ("__debug__" : Str))=false:=by decide) (hpl:((backTo pos (starEach [] X.env)).any (·.1) || (backToKw pos (keywordEach kws X.env)).any (·.1.isNone))=false:=by rfl) :
  XE X cf (.Call (.Name x p) [] kws pos) (.callp n j pm):=by
 obtain ⟨k,f,fd,F,hr,hm,hk,hb⟩:=O.ex
 refine ⟨fun pins s σ H Q I h=>?_⟩
 have h':TAv X.K (zv cf j) σ H fun vs H1=>zbY X.K cf n ps.length (gIV pm [] vs) H1 Q E0:=by
  obtain ⟨r,sg,M,z,M',hs,hh,ev,q⟩:=h
  simp only [evE] at ev
  split at ev
  ·rename_i xs M1 e1
   obtain ⟨ys,e2,e3⟩:=Option.bind_eq_some_iff.mp ev
   refine ⟨r,sg,M,xs,M1,hs,hh,e1,fun r1 us H1 x1 h1 v1=>?_⟩
   have v2:RVs X.K r1 H1 ys (gIV pm [] us):=ziD v1 e2
   exact ⟨by rw [<- v2.length];exact O.len _ _ _ e3,r1,M1,ys,z,M',h1,v2,e3,fun r2 u2 H2 x2 h2 v2=>q r2 u2 H2 (x1.trans x2) h2 v2⟩
  ·cases ev
 refine PySem.wpAny_Call_Name_kw (ld_glob I hg hm ?_ hdb)
 refine PySem.W.callWith_KW0 (h₀:=X.base) I.ok.mod.kin hk hall ?_ hpl
 refine thn (hkw.run pos pins s σ H _ I h') fun ws s2 ⟨zs,H2,I2,rz,q2⟩=>⟨I2.kIn,?_⟩
 rw [hks]
 exact run_fnk (ks:=ks) (us:=[]) (vs:=[]) F hr hb pass0 I2 .nil rz q2
theorem rs_start {K:PySem.W.Frag} {r:List Addr} {H:Hp} {N:List Str} {xs:List PV} {vs:List V} {m:Nat} (h:RVs K r H xs vs) (hm:m=N.length-vs.length):RS K r H (xs.map some++List.replicate m none) (L2.start N vs):=by
 subst hm
 refine ⟨by simp [L2.start,h.length],fun i p e=>?_⟩
 by_cases hi:i<xs.length
 ·rw [List.getElem?_append_left (by simpa using hi),List.getElem?_map] at e
  obtain ⟨q,e1,e2⟩:=Option.map_eq_some_iff.mp e
  cases e2
  obtain ⟨v,v1,v2⟩:=h.get e1
  refine ⟨v,?_,v2⟩
  unfold L2.start
  rw [List.getElem?_append_left (by rw [List.length_map,<- h.length];exact hi),List.getElem?_map,v1]
  rfl
 ·rw [List.getElem?_append_right (by simpa using hi)] at e
  rw [List.getElem?_replicate] at e
  split at e<;>cases e
theorem zQ {P:Program} {w:World} {K:PySem.W.Frag} {mg:Str->Option Value} {base:Heap} {x qual:Str} {params:Arguments} {sts:List Stmt} {sc:Scope} {f:Addr} {fd:FuncData} {N ps:List Str} {k n:Nat} {cf cf':CF} {d:Df} {dvs:List V} {kws:List (Str × V)} (F:FunD K x qual params sts sc dvs kws f fd) (S:FnScope N ps sc)
  (h1:d.np=ps.length) (h2:d.ns=N.length) (hcf:∀ xs M,cf' n xs M=zL cf d xs M)
  (body:∀ (cdv:Value) (A:Around) (outer:List Env) (s:Shared) (H:Hp) (E:L2.XK),Room k (A.deeper (PyProof.Rows.envOfC qual sc s.heap.objs.size f cdv))->XSs (cxOf CX0 P w K mg base N qual sc f cdv A outer s H E).nox cf sts d.body) :
  FnOk P w K mg base CX0 (k+1) f fd ps (zbY K cf' n ps.length):=by
 refine F.ok S (fun vs H Q E h=>h.1) fun cdv A outer s H vs Q E hr h=>⟨_,PSs.nox (body cdv A outer s H E hr),?_⟩
 obtain ⟨hl,r,M,xs,z,M',hh,hv,ev,q⟩:=h
 rw [hcf] at ev
 unfold zL at ev
 split at ev
 ·rename_i hx
  cases e1:zM cf d.body (xs.map some++List.replicate (d.ns-d.np) none) M with
  | none=>rw [e1] at ev;cases ev
  | some o =>
   obtain ⟨fl,M1⟩:=o
   rw [e1] at ev
   refine ⟨r,_,M,fl,M1,rs_start hv (by rw [h2,h1,hl]),hh,e1,fun r1 H1 x1 h1=>?_⟩
   cases fl with
   | ret v=>cases ev;exact fun u hu=>q r1 u H1 x1 h1 hu
   | nx sg=>cases ev;exact fun s' _=>q r1 _ H1 x1 h1 .non
   | brk sg=>cases ev
   | ct sg=>cases ev
 ·cases ev
theorem zA {P:Program} {w:World} {K:PySem.W.Frag} {mg:Str->Option Value} {base:Heap} {f:Addr} {fd:FuncData} {ps:List Str} {k n:Nat}:FnOk P w K mg base CX0 k f fd ps (zbY K (fun _ _ _=>none) n ps.length) :=
 ⟨fun vs H Q E h=>h.1,fun A outer s H args us vs Q E _ _ _ _ h=>by
  obtain ⟨_,r,M,xs,z,M',_,_,ev,_⟩:=h
  cases ev⟩
theorem kbinds {K:PySem.W.Frag} {x qual:Str} {params:Arguments} {body:List Stmt} {scope:Scope} {f:Addr} {fd:FuncData} {ps:List Str} (F:FunD K x qual params body scope [] [] f fd) (hp:ps≠[])
  (h:∀ (kV doc pm:Value) (an:Option Addr) (cdv ct:Value) (ws:List Value),ws.length=ps.length->bindArgs (PySem.W.fnOf x qual params body scope .none kV doc pm an cdv ct) ⟨[],ps.zip ws⟩=pure (ps.zip ws)):KBinds K fd ps ps gK gKV:=by
 obtain ⟨oc,od,dV,kV,doc,pm,an,cdv,ct,osl,rfl,lk,hcd,hD,hK⟩:=F.ex
 rcases hD with ⟨_,rfl⟩ | ⟨e,_⟩
 ·refine ⟨fun s us ws _ hl=>?_,fun {vs us zs ws} r1 r2=>?_⟩
  ·cases us with
   | nil=>exact .of_eq (h kV doc pm an cdv ct ws hl)
   | cons u us =>
    have:(gK (u::us) ws).length=0:=rfl
    rw [this] at hl
    exact absurd (List.length_eq_zero_iff.mp hl.symm) hp
  ·cases r1 with
   | nil=>exact r2
   | cons _ _=>exact .nil
 ·exact absurd rfl e
theorem gI_rel {p:List Nat}:∀ {zs:List V} {ws:List Value},Vals zs ws->Vals (p.filterMap (zs[·]?)) (p.filterMap (ws[·]?)):=by
 intro zs ws h
 have key:∀ i:Nat,(zs[i]? = none/\ws[i]? = none)\/∃ z w,zs[i]? = some z/\ws[i]? = some w/\Vals [z] [w]:=by
  induction h with
  | nil=>intro i;exact .inl ⟨by simp,by simp⟩
  | cons a _ ih =>
   intro i
   cases i with
   | zero=>exact .inr ⟨_,_,rfl,rfl,.cons a .nil⟩
   | succ i=>exact ih i
 induction p with
 | nil=>exact .nil
 | cons i p ih =>
  rw [List.filterMap_cons,List.filterMap_cons]
  rcases key i with ⟨a,b⟩ | ⟨z,w,a,b,c⟩
  ·rw [a,b];exact ih
  ·rw [a,b]
   cases c with
   | cons c _=>exact .cons c ih
theorem fm_all {α:Type} {p:List Nat} {ws:List α} (h:(p.filterMap (ws[·]?)).length=p.length) {i:Nat} (hi:i∈p):i<ws.length:=by
 induction p with
 | nil=>cases hi
 | cons j p ih =>
  rw [List.filterMap_cons] at h
  cases e:ws[j]? with
  | none =>
   rw [e] at h
   have:=List.length_filterMap_le (fun i=>ws[i]?) p
   simp at h
   omega
  | some w =>
   rw [e] at h
   rcases List.mem_cons.mp hi with rfl | hi
   ·exact (List.getElem?_eq_some_iff.mp e).1
   ·exact ih (by simpa using h) hi
theorem zlu {K:PySem.W.Frag} {x qual:Str} {params:Arguments} {body:List Stmt} {scope:Scope} {f:Addr} {fd:FuncData} {ps ks:List Str} {p:List Nat} (F:FunD K x qual params body scope [] [] f fd) (hp:ps≠[]) (hl:p.length=ps.length) {i:Nat} (hi:i∈p) (hik:i+1=ks.length)
  (h:∀ (kV doc pm:Value) (an:Option Addr) (cdv ct:Value) (ws:List Value),ks.length<=ws.length->bindArgs (PySem.W.fnOf x qual params body scope .none kV doc pm an cdv ct) ⟨[],ks.zip ws⟩=pure (ps.zip (p.filterMap (ws[·]?)))):KBinds K fd ps ks (gI p) (gIV p):=by
 obtain ⟨oc,od,dV,kV,doc,pm,an,cdv,ct,osl,rfl,lk,hcd,hD,hK⟩:=F.ex
 rcases hD with ⟨_,rfl⟩ | ⟨e,_⟩
 ·refine ⟨fun s us ws _ hl2=>?_,fun {vs us zs ws} r1 r2=>?_⟩
  ·cases us with
   | nil =>
    have hl3:(p.filterMap (ws[·]?)).length=p.length:=hl2.trans hl.symm
    exact .of_eq (h kV doc pm an cdv ct ws (by have:=fm_all hl3 hi;omega))
   | cons u us =>
    have:(gI p (u::us) ws).length=0:=rfl
    rw [this] at hl2
    exact absurd (List.length_eq_zero_iff.mp hl2.symm) hp
  ·cases r1 with
   | nil=>exact gI_rel r2
   | cons _ _=>exact .nil
 ·exact absurd rfl e
theorem runD_len {d:Df} {xs:List PV} {M:Mm} {z:PV × Mm} (h:zL cf d xs M=some z):xs.length=d.np:=by
 unfold zL at h
 split at h
 ·assumption
 ·cases h
end
end Mp
namespace Mp
open PySem PySem.Spec PyProof.Rows L2
section
variable {prog:Program} {w:World} {A:Around} {E:Value->Shared->Prop} {s:Shared}
theorem zcU {α β:Type} {f g:α->Option β}:∀ {l:List α},(∀ x∈l,f x=g x)->l.filterMap f=l.filterMap g
 | [],_=>rfl
 | a::l,h=>by
  rw [List.filterMap_cons,List.filterMap_cons,h a (by simp),zcU (l:=l) fun x hx=>h x (by simp [hx])]
theorem zkW (n:Nat):Builtin.Slice.sliceAdjust none none (-1) (n:Int)=((n:Int)-1,-1):=by
 unfold Builtin.Slice.sliceAdjust
 simp
theorem zkV (n:Nat):Builtin.Slice.slicePlaces ((n:Int)-1) (-1) (-1)=n:=by
 unfold Builtin.Slice.slicePlaces
 have h1:¬ ((-1:Int)>0):=by omega
 simp only [h1,if_false]
 split
 ·simp
 ·omega
theorem zjq {sl:Addr} {va vb vc:Value} {n:Nat} {Q:Int × Int × Nat->Shared->Prop} (hx:s.heap.IsSliceOf sl va vb vc) (pa:IsPart va none) (pb:IsPart vb none) (pc:IsPart vc (some (-1)))
  (h:Q ((n:Int)-1,-1,n) s):wpAny (model prog w) A (Builtin.Slice.sliceApplied (.ref sl) (pure (n:Int))) Q E s:=by
 obtain ⟨o,h1,_,h3⟩:=id hx
 unfold Builtin.Slice.sliceApplied Builtin.Slice.sliceFields
 refine wpAny_bind (wpAny_bind (wpAny_field h1 h3 (x:=va) rfl (wpAny_bind (wpAny_field h1 h3 (x:=vb) rfl (wpAny_bind (wpAny_field h1 h3 (x:=vc) rfl (wpAny_pure ?_)))))))
 refine wpAny_bind (HT.slicePart_ pc ?_)
 show wpAny _ _ (if ((-1:Int) == 0)=true then _ else _) _ _ s
 rw [if_neg (by decide)]
 refine wpAny_bind (HT.slicePart_ pa (wpAny_bind (HT.slicePart_ pb (wpAny_bind (wpAny_pure ?_)))))
 show wpAny _ _ (match Builtin.Slice.sliceAdjust none none (-1) (n:Int) with | (x,y)=>pure (x,(-1:Int),Builtin.Slice.slicePlaces x y (-1))) _ _ s
 rw [zkW n]
 show wpAny _ _ (pure ((n:Int)-1,(-1:Int),Builtin.Slice.slicePlaces ((n:Int)-1) (-1) (-1))) _ _ s
 rw [zkV]
 exact wpAny_pure h
theorem rv_pick (its:List Value):((List.range its.toArray.size).filterMap fun (m:Nat)=>its.toArray[((its.toArray.size:Int)-1+(m:Int)*(-1)).toNat]?).toArray=its.reverse.toArray:=by
 congr 1
 apply List.ext_getElem?
 intro i
 have hmap:((List.range its.toArray.size).filterMap fun (m:Nat)=>its.toArray[((its.toArray.size:Int)-1+(m:Int)*(-1)).toNat]?)=(List.range its.length).filterMap fun m=>its.reverse[m]?:=by
  have hsz:its.toArray.size=its.length:=by simp
  rw [hsz]
  apply zcU
  intro m hm
  have hm:m<its.length:=by simpa using hm
  have e:((its.length:Int)-1+(m:Int)*(-1)).toNat=its.length-1-m:=by omega
  rw [e,List.getElem?_reverse hm]
  simp
 rw [hmap]
 have hid:∀ l:List Value,(List.range l.length).filterMap (fun m=>l[m]?)=l:=by
  intro l
  induction l with
  | nil=>rfl
  | cons a l ih =>
   rw [List.length_cons,List.range_succ_eq_map,List.filterMap_cons]
   simp only [List.getElem?_cons_zero]
   rw [List.filterMap_map]
   congr 1
 have:=hid its.reverse
 rw [List.length_reverse] at this
 rw [this]
theorem rv_get {t sl:Addr} {its:List Value} {va vb vc:Value} {Q:Value->Shared->Prop} (ht:IsTup s.heap t its.toArray) (hx:s.heap.IsSliceOf sl va vb vc) (pa:IsPart va none) (pb:IsPart vb none) (pc:IsPart vc (some (-1)))
  (h:Q (.ref s.heap.objs.size) { s with heap:=s.heap.push { cls:=.type "tuple",data:=.seq its.reverse.toArray } }) (hz:its.length<=sizeLine) :
  wpAny (model prog w) A (getItem (.ref t) (.ref sl)) Q E s:=by
 have hk:sizeOk (.seq its.reverse.toArray):=by
  show its.reverse.toArray.size<=sizeLine
  simpa using hz
 obtain ⟨o,h1,h2,h3⟩:=id hx
 have hT:s.TypeIs (.ref sl) "slice" := ⟨o,h1,h2⟩
 unfold getItem
 try with_reducible refine wpAny_holding ?_
 first | refine wpAny_bind (wpAny_pure ?_) | skip
 refine wpAny_bind (wpAny_sequenceKey ht.typeIs (by decide) ?_)
 refine wpAny_bind (wpAny_callSpecial?_slot (name:=Str.ofString "__getitem__") ht.typeIs PyProof.Rows.slot_tuple_getitem (wpAny_call_entry PyProof.Rows.slot_tuple_getitem ht.typeIs entry_tuple_getitem ?_ (args_tuple_getitem _ _)))
 show wpAny _ _ (Builtin.Tuple.tupleItemsOf (.ref t) >>= _) _ _ s
 refine wpAny_bind (tupleItemsOf_ ht (wpAny_bind (wpAny_typeOf hT ?_)))
 rw [if_pos (by decide)]
 refine wpAny_bind (zjq hx pa pb pc ?_)
 have hno:¬ ((((its.toArray.size:Int)-1) == 0 && (-1:Int) == 1 && its.toArray.size == its.toArray.size)=true):=by
  simp
 show wpAny _ _ (if (((its.toArray.size:Int)-1) == 0 && (-1:Int) == 1 && its.toArray.size == its.toArray.size)=true then _ else _) _ _ s
 rw [if_neg hno,rv_pick]
 first
  | exact wpAny_bind (m:=Builtin.Tuple.tupleExact _) (wpAny_newObj_type (wpAny_pure ⟨_,rfl,wpAny_pure h⟩) hk)
  | exact wpAny_bind (m:=Builtin.Tuple.tupleExact _) (wpAny_newObj_type (wpAny_bind (wpAny_pure (wpAny_pure ⟨_,rfl,wpAny_pure h⟩))) hk)
  | exact wpAny_bind (wpAny_bind (m:=Builtin.Tuple.tupleExact _) (wpAny_newObj_type (wpAny_pure (wpAny_pure ⟨_,rfl,wpAny_pure h⟩)) hk))
  | exact wpAny_bind (wpAny_bind (m:=Builtin.Tuple.tupleExact _) (wpAny_newObj_type (wpAny_pure ⟨_,rfl,wpAny_pure h⟩) hk))
end
section
variable {X:Cx} {cf:CF} {e:Expr} {i:E}
def tRevT (K:PySem.W.Frag) (te:TE):TE:=fun σ H Q=>te σ H fun x H1=>∃ a xs,x=.ref a/\SqT K H1 a xs/\∀ p us,H1 p=none->Q (.ref p) (upd H1 p (.frz (plo us) (.tup xs.reverse)))
theorem pe_revT {te:TE} {k:Nat} {p1 p2 p3 pos:Pos} (he:PE X e te):PE X (.Subscript e (.Slice none none (some (.UnaryOp .USub (.Constant (.int 1) k p1) p2)) p3) pos) (tRevT X.K te):=by
 refine ⟨fun pins s σ H Q I h=>?_⟩
 refine Subscript_ (thn (he.run pins s σ H _ I h) fun v sa ⟨x,Ha,Ia,ra,a,xs,ex,hx,q⟩=>?_)
 subst ex
 cases ra
 have st:PO X (some (.UnaryOp .USub (.Constant (.int 1) k p1) p2)) (tPart (tUn (rU fun i=>.int (-i)) (tC (.int 1)))):=po_some (pe_un un_neg pe_int)
 refine wpAny_Slice (thn (po_none.run pins sa σ Ha (fun o H2=>o=none/\H2=Ha) Ia ⟨rfl,rfl⟩) fun va sb ⟨oa,Hb,Ib,pa,ea,eb⟩=>?_)
 subst ea eb
 refine thn (po_none.run pins sb σ Hb (fun o H2=>o=none/\H2=Hb) Ib ⟨rfl,rfl⟩) fun vb sc ⟨ob,Hc,Ic,pb,eb,ec⟩=>?_
 subst eb ec
 refine thn (st.run pins sc σ Hc (fun o H2=>o=some (-1)/\H2=Hc) Ic ⟨1,rfl,-1,rfl,rfl,rfl⟩) fun vc sd ⟨oc,Hd,Id,pc,ec,ed⟩=>?_
 subst ec ed
 have Ie:Inv X pins σ Hd { sd with heap:=sd.heap.push { cls:=.type "slice",data:=.fields #[va,vb,vc] } }:=Id.kept (t':=sd.toks) fun b ob q=>Heap.get?_push_of_some _ q
 obtain ⟨its,r,ht,hz⟩:=Ie.tuple hx
 have hlen:=r.length
 show wpAny (model X.prog X.w) X.A (subscriptTail e (.Slice none none (some (.UnaryOp .USub (.Constant (.int 1) k p1) p2)) p3) (.ref a) (.ref sd.heap.objs.size)) (EP X pins σ Q) X.xe { sd with heap:=sd.heap.push { cls:=.type "slice",data:=.fields #[va,vb,vc] } }
 refine tail_any (ops:=[.ref a,.ref sd.heap.objs.size]) ht.typeIs PyProof.Rows.slot_tuple_getitem.lookup ?_ (by with_unfolding_all rfl)
 refine rv_get ht (Heap.IsSliceOf.new _ va vb vc) pa pb pc ?_ (by rw [<- hlen];exact hz)
 refine ⟨.ref _,_,Ie.laid (t':=sd.toks) (o:=.frz (plo its.reverse) (.tup xs.reverse)) (fun b ob q=>Heap.get?_push_of_some _ q) (Nat.le_refl _) ?_,rfl,q _ _ (Ie.hok.fresh (Nat.le_refl _))⟩
 exact ⟨Heap.get?_push_size _ rfl,by rw [List.length_reverse];exact hz,_,r.reverse,IsTup.new _ _⟩
theorem zkk {k:Nat} {p1 p2 p3 pos:Pos} (he:XE X cf e i):XE X cf (.Subscript e (.Slice none none (some (.UnaryOp .USub (.Constant (.int 1) k p1) p2)) p3) pos) (.rev i):=by
 refine zak (pe_revT he) fun s H Q h=>?_
 obtain ⟨r,sg,M,z,M',hs,hh,ev,q⟩:=h
 simp only [evE] at ev
 split at ev
 ·rename_i xs M1 e1
  cases ev
  refine ⟨r,sg,M,.tup xs,_,hs,hh,e1,fun r1 u1 H1 x1 h1 v1=>?_⟩
  cases v1 with
  | tup ht hv=>exact ⟨_,_,rfl,ht,fun p us hp=>q _ _ _ (x1.trans (zaF hp)) (h1.other _ hp) (.tup (.inl (.inr ⟨_,upd_same⟩)) (hv.reverse.ext (zaF hp)))⟩
 ·rename_i xs M1 e1
  cases ev
  refine ⟨r,sg,M,.ptup xs,_,hs,hh,e1,fun r1 u1 H1 x1 h1 v1=>?_⟩
  cases v1 with
  | ptup ht hv=>exact ⟨_,_,rfl,ht.sqT,fun p us hp=>zeh.ptup (fun r2 u2 H2 x2 h2 v2=>q r2 u2 H2 (x1.trans x2) h2 v2) h1 hv.reverse hp⟩
 ·cases ev
end
end Mp
namespace Mp
open PySem L2
inductive Kd where
 | fn | me (c:Str) | mi (c:Str) | mk
structure Nx where
 kd:Kd
 x:Str
 ps:List Str
 kw:Bool
 ds:List PV
 kp:List (List Str × List Nat)
def zE (P:Program) (w:World) (K:PySem.W.Frag) (mg:Str->Option Value) (base:Heap) (names:List Nx) (cf:CF) (k:Nat):Prop :=
 ∀ (n:Nat) (nm:Nx),names[n]? = some nm ->
  match nm.kd with
  | .fn=>(∃ fd,FnOk P w K mg base CX0 k (He.ga K nm.x) fd nm.ps (zbY K cf n nm.ps.length)/\mg nm.x=some (.ref (He.ga K nm.x))/\PySem.W.keepIn K (.ref (He.ga K nm.x))=true/\zD K fd nm.ps nm.ds/\(nm.kw=true->KBinds K fd nm.ps nm.ps gK gKV)/\∀ q∈nm.kp,KBd K fd nm.ps nm.ds q) /\
    ∀ xs M z,cf n xs M=some z->xs.length=nm.ps.length
  | .me c=>(∃ f fd,FnOk P w K mg base CX0 k f fd nm.ps (zbY K cf n nm.ps.length)/\Meth K (He.ga K c) nm.x f/\zD K fd nm.ps nm.ds/\∀ q∈nm.kp,KBinds K fd nm.ps q.1 (gM q.2) (gMV q.2))/\Cls K (He.ga K c)/\∀ xs M z,cf n xs M=some z->xs.length=nm.ps.length
  | .mi c=>(∃ f fd,FnOk P w K mg base CX0 k f fd nm.ps (zbY K cf n nm.ps.length)/\Meth K (He.ga K c) nm.x f/\zD K fd nm.ps nm.ds)/\∀ xs M z,cf n xs M=some z->xs.length=nm.ps.length
  | .mk=>(∀ xs M,cf n xs M=none)\/∃ k' f fd i cf',k'+1<=k/\FnOk P w K mg base CX0 k' f fd ("self" :: nm.ps) (zbY K cf' i (nm.ps.length+1))/\Mk K (He.ga K nm.x) f/\mg nm.x=some (.ref (He.ga K nm.x))/\zD K fd ("self" :: nm.ps) nm.ds/\(∀ q∈nm.kp,KBinds K fd ("self" :: nm.ps) q.1 (gM q.2) (gMV q.2))/\(∀ xs M,cf n xs M=mkD cf' nm.x i xs M)/\∀ xs M z,cf' i xs M=some z->xs.length=nm.ps.length+1
section
variable {P:Program} {w:World} {K:PySem.W.Frag} {mg:Str->Option Value} {base:Heap} {names:List Nx} {cf:CF} {k:Nat} {A:Around} {n:Nat} {x c:Str} {ps:List Str} {kw:Bool} {ds:List PV} {kp:List (List Str × List Nat)}
theorem zE.own (C:zE P w K mg base names cf k) (hr:Room k A) (h:names[n]? = some ⟨.fn,x,ps,kw,ds,kp⟩):Own P w K mg base A cf x n ps kw:=by
 obtain ⟨⟨fd,h1,h2,h3,h4,h5⟩,hl⟩:=C n _ h
 exact ⟨⟨k,_,fd,h1,hr,h2,h3,h4.full,h5.1⟩,hl⟩
theorem zE.ownP (C:zE P w K mg base names cf k) (hr:Room k A) (h:names[n]? = some ⟨.fn,x,ps,kw,ds,kp⟩) {ks:List Str} {p:List Nat} (hp:(ks,p)∈kp) (hpl:p.length=ps.length:=by rfl):OwnP P w K mg base A cf x n ps ks p:=by
 obtain ⟨⟨fd,h1,h2,h3,h4,h5⟩,hl⟩:=C n _ h
 exact ⟨⟨k,_,fd,h1,hr,h2,h3,(h5.2 _ hp).1 hpl⟩,hl⟩
end
end Mp
namespace Mp
open PySem L2
def exAll (es:List (PySem.W.Frag->Bool)) (K:PySem.W.Frag):Bool:=es.all fun e=>e K
end Mp
namespace Mp
open PySem L2
section
variable {X:Cx} {cf:CF} {c a b:Expr} {pos:Pos} {ic ia ib:E} {tc ta tb:TT}
def tIfT (tc ta tb:TT):TT:=fun s H Q=>tc s H fun k H1=>if k=true then ta s H1 Q else tb s H1 Q
theorem pt_ifT (hc:PT X c tc) (ha:PT X a ta) (hb:PT X b tb):PT X (.IfExp c a b pos) (tIfT tc ta tb):=by
 refine ⟨fun pins s σ H Q I h=>?_⟩
 show wpAny _ _ (isTrue c X.env (eval c X.env) >>= fun k=>if k=true then isTrue a X.env (eval a X.env) else isTrue b X.env (eval b X.env)) _ _ s
 refine wpAny_bind (thn (hc.run pins s σ H _ I h) fun k s1 ⟨H1,I1,q1⟩=>?_)
 cases k with
 | true=>exact ha.run pins s1 σ H1 Q I1 q1
 | false=>exact hb.run pins s1 σ H1 Q I1 q1
theorem xt_if (hc:XT X cf c ic) (ha:XT X cf a ia) (hb:XT X cf b ib):XT X cf (.IfExp c a b pos) (.ite ic ia ib):=by
 refine zgQ (pt_ifT hc ha hb) fun s H Q h=>?_
 obtain ⟨r,sg,M,z,M',hs,hh,e,q⟩:=h
 simp only [evE] at e
 split at e
 ·rename_i M1 e1
  refine ⟨r,sg,M,_,_,hs,hh,e1,fun r' H' x h'=>?_⟩
  refine iteT ?_
  exact ⟨r',sg,M1,z,M',hs.ext x,h',e,fun r2 H2 x2 h2=>q r2 H2 (x.trans x2) h2⟩
 ·rename_i M1 e1
  refine ⟨r,sg,M,_,_,hs,hh,e1,fun r' H' x h'=>?_⟩
  refine iteF ?_
  exact ⟨r',sg,M1,z,M',hs.ext x,h',e,fun r2 H2 x2 h2=>q r2 H2 (x.trans x2) h2⟩
 ·cases e
end
end Mp
namespace Mp
open PySem L2 PyProof.Rows
structure SetKind (X:Cx) where
 Sn:Type
 Ob:Addr->Sn->HO
 zero:Sn
 ad:V->Sn->Sn->Prop
 new:∀ (H:Hp) (h:Heap) (D:Addr),h.get? D=some { cls:=.type "set",dict:=none,data:=.set #[] 0 (.fresh 0 0 (!X.w.params.followText "set-order")) }->ObjOk X.prog X.w H h D (Ob D zero)
 add:∀ (Y:Cx),Y.prog=X.prog->Y.w=X.w->∀ (pins:List (Addr × Obj)) (sg:L2.St) (H:Hp) (s:Shared) (D:Addr) (a b:Sn) (y:V) (u:Value) (Q:Value->Shared->Prop) (E:Value->Shared->Prop),L2.Inv Y pins sg H s->H D=some (Ob D a)->ad y a b->RelV y u ->
  (∀ s',L2.Inv Y pins sg (upd H D (Ob D b)) s'->Q .none s')->wpAny (model Y.prog Y.w) Y.A (call (.builtin "set.add") [.ref D,u]) Q E s
def tScG {X:Cx} (S:SetKind X) (wi:TI) (g:TG) (tt:TT) (te:TE) (vs:List Nat):TE:=fun sg H Q=>wi sg H fun J H1=>∀ D,H1 D=none->∃ W:Nat->Nat->Hp->Prop,(∃ m,W 0 m (upd H1 D (S.Ob D S.zero)))/\∀ i m H,W i m H ->
 (J.stop i H/\Q (.ref D) H)\/(J.go i H/\∃ Nx:Hp->Prop,(∀ H',Nx H'->∃ m',m'<m/\W (i+1) m' H')/\∀ x H',J.yld i H x H'->g x (wipe sg vs) H' fun s2 H2=>wipe s2 vs=wipe sg vs/\tt s2 H2 fun b H3 =>
  if b=true then te s2 H3 fun y H4=>∃ a b,H4 D=some (S.Ob D a)/\S.ad y a b/\Nx (upd H4 D (S.Ob D b)) else Nx H3)
section
variable {X:Cx}
theorem sc_run (S:SetKind X) {pins:List (Addr × Obj)} {s:Shared} {sg:L2.St} {H:Hp} {Q:VK} {elt tg iter:Expr} {ifs:List Expr} {scope:Scope} {own:List (Str × Nat)} {pos pos':Pos} {wi:TI} {g:TG} {tt:TT} {te:TE} {use:Option (Value->Sem Unit)} {Qf:Value->Shared->Prop}
  (hc:X.calm=true) (hN:X.N.Nodup) (I:L2.Inv X pins sg H s) (hi:PI X tg iter wi) (ok:BlkOk X.N X.env.scope scope own)
  (hg:∀ (s:Shared) (H:Hp) (C:Addr) (cl:List (Str × Addr)) (fp:List Addr),PG (X.blk s H scope (compEnvC scope cl C X.env) fp) tg g) (ht:∀ (s:Shared) (H:Hp) (C:Addr) (cl:List (Str × Addr)) (fp:List Addr),PTs (X.blk s H scope (compEnvC scope cl C X.env) fp) ifs tt)
  (he:∀ (s:Shared) (H:Hp) (C:Addr) (cl:List (Str × Addr)) (fp:List Addr),PE (X.blk s H scope (compEnvC scope cl C X.env) fp) elt te) (hs:∀ x,foldedSetIterable iter X.env x=pure x)
  (h:tScG S wi g tt te (own.map (·.2)) sg H Q)
  (back:∀ D C s' m H',L2.Inv X pins sg H' s'->Q (.ref D) H'->s'.heap.Ns C m->FpOk X pins H' C->compPost (model X.prog X.w) X.A X.xe use Qf (.ref D) C (.ok .next) s') :
  wpAny (model X.prog X.w) X.A (comprehension (.SetComp elt [⟨tg,iter,ifs,0⟩] scope pos) scope X.env pos' (newSet (.type "set")) false (eval iter X.env) use) Qf X.xe s:=by
 have free:∀ y∈scope.names,y.2=.free->∃ c,X.env.cells.lookup y.1=some c:=fun y hy e =>
  (ok.free y hy e).elim (fun k=>I.ok.has _ (.inl k)) (fun k=>I.ok.has _ (.inr k))
 refine wpAny_comprehension_free (use:=use) rfl hs (closure_ok free) ok.kind (fun y hy e=>by rw [ok.uniq y hy,e]) (thn (hi.run pins s sg H _ I h) fun xv sA hx=>thn hx fun itv sB hB=>?_)
 obtain ⟨it,fp,tn,J,HB,eB,IB,T,stB,fB,q⟩:=hB
 subst eB
 refine PpSet.newSet_ok (newEnv_comp ?_)
 generalize eD:sB.heap.objs.size=D
 obtain ⟨W,⟨m0,w0⟩,turn⟩:=q D (IB.hok.fresh (Nat.le_of_eq eD))
 generalize eC:({ sB with heap:=sB.heap.push { cls:=.type "set",dict:=none,data:=.set #[] 0 (.fresh 0 0 (!X.w.params.followText "set-order")) } }:Shared)=sC
 have hC:sC.heap=sB.heap.push { cls:=.type "set",dict:=none,data:=.set #[] 0 (.fresh 0 0 (!X.w.params.followText "set-order")) }:=by rw [<- eC]
 generalize eH:upd HB D (S.Ob D S.zero)=HC at w0
 have IC:L2.Inv X pins sg HC sC:=by
  rw [<- eC,<- eH]
  refine IB.laid (t':=sB.toks) (fun b o e=>Heap.get?_push_of_some _ e) (Nat.le_of_eq eD) (S.new _ _ _ ?_)
  rw [<- eD]
  exact Heap.get?_push_size _ rfl
 have fC:∀ b∈fp,FpOk X pins HC b/\b<sC.heap.objs.size:=fun b hb=>by
  have lt:b<sB.heap.objs.size:=by
   obtain ⟨o,e,_⟩:=T.obj _ _ stB b hb
   exact Heap.lt_size e
  refine ⟨⟨?_,(fB b hb).2⟩,by rw [hC,Heap.size_push];exact Nat.lt_succ_of_lt lt⟩
  rw [<- eH,upd_ne (by rw [<- eD];exact Nat.ne_of_lt lt)]
  exact (fB b hb).1
 have stC:tn 0 sC.heap:=T.keep _ _ _ stB fun b _ o e=>by rw [hC];exact Heap.get?_push_of_some _ e
 have IE:=block_start IC ok hN fC
 have pg:=hg sC HC sC.heap.objs.size (cellsFrom (sC.heap.objs.size+1) scope.names (cloFrom X.env.cells scope.names [])) fp
 have pt:=ht sC HC sC.heap.objs.size (cellsFrom (sC.heap.objs.size+1) scope.names (cloFrom X.env.cells scope.names [])) fp
 have pe:=he sC HC sC.heap.objs.size (cellsFrom (sC.heap.objs.size+1) scope.names (cloFrom X.env.cells scope.names [])) fp
 show codeAny _ _ (.compStart (.SetComp elt [⟨tg,iter,ifs,0⟩] scope pos) 0 (.ref it) (.ref D) (compEnvC scope (cellsFrom (sC.heap.objs.size+1) scope.names (cloFrom X.env.cells scope.names [])) sC.heap.objs.size X.env)) (compPost (model X.prog X.w) X.A X.xe use Qf (.ref D) sC.heap.objs.size) { sC with heap:=pushCells (sC.heap.push { cls:=.type "dict",data:=.dict #[] }) scope.names }
 generalize eE:compEnvC scope (cellsFrom (sC.heap.objs.size+1) scope.names (cloFrom X.env.cells scope.names [])) sC.heap.objs.size X.env=ce at IE pg pt pe ⊢
 have loc:ce.locals=sC.heap.objs.size:=by subst eE;rfl
 generalize eF:({ sC with heap:=pushCells (sC.heap.push { cls:=.type "dict",data:=.dict #[] }) scope.names }:Shared)=sF at IE ⊢
 have stF:tn 0 sF.heap:=T.keep _ _ _ stC fun b _ o e=>by rw [<- eF];exact pushCells_keeps _ _ _ _ (Heap.get?_push_of_some _ e)
 have fpk:∀ {s5:L2.St} {H5:Hp} {u5:Shared},L2.Inv (X.blk sC HC scope ce fp) [] s5 H5 u5->(∀ b∈fp,H5 b=none)->∀ b∈fp,FpOk (X.blk sC HC scope ce fp) [] H5 b:=fun J5 n5 b hb =>
  ⟨n5 b hb,(J5.ok.exf b hb).1,J5.ok.exfs b hb,.inl hb,fun x c e=>(J5.ok.exf b hb).2 x c e,fun p hp=>absurd (show p∈([]:List (Addr × Obj))++[] from hp) (by simp)⟩
 have loop:codeAny (model X.prog X.w) X.A (.compLoop (.SetComp elt [⟨tg,iter,ifs,0⟩] scope pos) 0 (.ref it) (.ref D) ce) (compPost (model X.prog X.w) X.A X.xe use Qf (.ref D) sC.heap.objs.size) sF:=by
  refine PpSet.compLoopS_any (fun n u5=>∃ i H5,L2.Inv (X.blk sC HC scope ce fp) [] (wipe sg (own.map (·.2))) H5 u5/\tn i u5.heap/\(∀ b∈fp,H5 b=none)/\W i n H5) ?_ m0 ⟨0,HC,IE,stF,fun b hb=>(fC b hb).1.1,w0⟩
  rintro n u5 ⟨i,H5,J5,st5,n5,w5⟩
  rcases turn i n H5 w5 with ⟨stop,qq⟩ | ⟨go,Nx,hNx,step⟩
  ·refine thnF (T.done (X.blk sC HC scope ce fp) rfl rfl rfl hc i [] u5 _ H5 (fun _ _=>False) J5 (fpk J5 n5) st5 stop) fun r u6 ⟨hr,J6⟩=>?_
   subst hr
   have J7:L2.Inv X pins sg H5 u6:=IC.call' (ch:=fp) J6.os J6.base J6.hok J6.bare fun b hb=>⟨(fC b hb).1.2.2.2.1,(fC b hb).1.2.1,(fC b hb).1.2.2.2.2.1,(fC b hb).1.2.2.2.2.2⟩
   have nC:H5 sC.heap.objs.size=none:=loc ▸ (show H5 ce.locals=none from J6.free)
   obtain ⟨m,hn,_⟩:=J6.loc
   have hn:u6.heap.Ns ce.locals m:=hn
   rw [loc] at hn
   exact back D sC.heap.objs.size u6 m H5 J7 qq hn (IC.fpOk (Nat.le_refl _) nC)
  ·refine thnF (T.item (X.blk sC HC scope ce fp) rfl rfl rfl hc i [] u5 _ H5 (fun _ _=>False) J5 (fpk J5 n5) st5 go) fun r u6 ⟨v6,hr,h6⟩=>?_
   subst hr
   refine thnF h6 fun _ u7 ⟨x,H7,J7,r7,y7,st7,n7⟩=>?_
   have J7':=J7.pinned (fpk J7 n7) (T.obj _ _ st7)
   refine thnF (pg.run _ u7 _ H7 x v6 _ J7' r7 (step x H7 y7)) fun _ u8 ⟨s8,H8,J8,hw8,q8⟩=>?_
   refine thnF (pt.run _ u8 s8 H8 _ J8 q8) fun b u9 ⟨H9,J9,q9⟩=>?_
   have fin:∀ {uz:Shared} {Hz:Hp},L2.Inv (X.blk sC HC scope ce fp) ([]++pinsAt fp u7.heap) s8 Hz uz->Nx Hz->∃ m,m<n/\∃ i H5,L2.Inv (X.blk sC HC scope ce fp) [] (wipe sg (own.map (·.2))) H5 uz/\tn i uz.heap/\(∀ b∈fp,H5 b=none)/\W i m H5:=fun {uz Hz} Jz nx=>by
    obtain ⟨m',hm,w'⟩:=hNx Hz nx
    have pin:∀ b∈fp,∀ o,u7.heap.get? b=some o->uz.heap.get? b=some o/\Hz b=none:=fun b hb o e =>
     let z:=Jz.pin (b,o) (List.mem_append_right _ (List.mem_append_right _ (mem_pinsAt hb e)))
     ⟨z.1,z.2.1⟩
    refine ⟨m',hm,i+1,Hz,(Jz.unpinned (pins:=[])).weak (by rw [<- hw8,wipe_length]) (fun j v e=>?_),T.keep _ _ _ st7 fun b hb o e=>(pin b hb o e).1,fun b hb=>?_,w'⟩
    ·rw [<- hw8] at e
     exact (wipe_some e).1
    ·obtain ⟨o,e,_⟩:=T.obj _ _ st7 b hb
     exact (pin b hb o e).2
   cases b with
   | false =>
    simp only [Bool.false_eq_true,if_false] at q9 ⊢
    exact fin J9 q9
   | true =>
    simp only [if_true] at q9 ⊢
    refine thnF (pe.run _ u9 s8 H9 _ J9 q9) fun z uA ⟨yv,HA,JA,rA,a1,b1,hA,hd,nx⟩=>?_
    exact S.add (X.blk sC HC scope ce fp) rfl rfl _ _ _ _ D a1 b1 yv z _ _ JA hA hd rA fun uB JB=>fin JB nx
 exact PpSet.codeAny_compStart_set loop (T.self X.A 0 _ _ _ stF loop)
theorem pe_scG (S:SetKind X) {elt tg iter:Expr} {ifs:List Expr} {scope:Scope} {own:List (Str × Nat)} {pos:Pos} {wi:TI} {g:TG} {tt:TT} {te:TE} (hc:X.calm=true) (hN:X.N.Nodup) (hi:PI X tg iter wi) (ok:BlkOk X.N X.env.scope scope own)
  (hg:∀ (s:Shared) (H:Hp) (C:Addr) (cl:List (Str × Addr)) (fp:List Addr),PG (X.blk s H scope (compEnvC scope cl C X.env) fp) tg g) (ht:∀ (s:Shared) (H:Hp) (C:Addr) (cl:List (Str × Addr)) (fp:List Addr),PTs (X.blk s H scope (compEnvC scope cl C X.env) fp) ifs tt)
  (he:∀ (s:Shared) (H:Hp) (C:Addr) (cl:List (Str × Addr)) (fp:List Addr),PE (X.blk s H scope (compEnvC scope cl C X.env) fp) elt te) (hs:∀ x,foldedSetIterable iter X.env x=pure x:=by intro _;rfl) :
  PE X (.SetComp elt [⟨tg,iter,ifs,0⟩] scope pos) (tScG S wi g tt te (own.map (·.2))):=by
 refine ⟨fun pins s sg H Q I h=>?_⟩
 rw [PpSet.eval_SetComp]
 refine sc_run S hc hN I hi ok hg ht he hs h fun D C s' m H' I' q hn f=>⟨m,hn,fun h'' sb=>?_⟩
 obtain ⟨f0,f1,f2,f3,f4,f5⟩:=f
 exact ⟨.ref D,H',I'.turned (t':=s'.toks) (fun b o hb e=>(sb.2 b hb).trans e) f0 f1 f3 f4 f5,rfl,q⟩
def zkU (X:Cx):SetKind X where
 Sn:=(Int->Bool) × Nat
 Ob:=fun D st=>SetO X.w D st.1 st.2
 zero:=(fun _=>false,0)
 ad:=fun y a b=>∃ c,y=.int c/\a.2+1<scanBound/\b=((fun j=>a.1 j || decide (j=c)),if a.1 c=true then a.2 else a.2+1)
 new:=fun H h D ho=>setO_new ((setR_new_at (ns:=[]) ho).congr fun j=>by simp)
 add:=fun Y e1 e2 pins sg H s D a b y u Q E I hD hd ru q=>by
  obtain ⟨P,w,K,mg,base,A,N,s0,H0,env,outer,stack,ex,fn,calm,pn,xe⟩:=Y
  cases e1
  cases e2
  obtain ⟨c,rfl,room,rfl⟩:=hd
  obtain ⟨tk,rfl⟩:=ru
  have R:=setO_get I hD
  refine setR_add R room fun h' sb new=>?_
  have he:∃ u,h'.get? D=some u:=by
   have ⟨o,_,_,_,ho,_⟩:=new
   exact ⟨o,ho⟩
  exact q _ (I.write (e:=D) (t':=s.toks+1) (by rw [hD];trivial) (.inl rfl) (fun b u hb hu=>(sb.2 b hb).trans hu) he (setO_new new))
end
theorem zku:∀ {a b:List Int},a.Pairwise (· < ·)->b.Pairwise (· < ·)->(∀ k,k∈a↔k∈b)->a=b
 | [],[],_,_,_=>rfl
 | [],y::ys,_,_,h=>absurd ((h y).mpr List.mem_cons_self) (by simp)
 | x::xs,[],_,_,h=>absurd ((h x).mp List.mem_cons_self) (by simp)
 | x::xs,y::ys,ha,hb,h=>by
  rw [List.pairwise_cons] at ha hb
  have exy:x=y:=by
   have h1:=(h x).mp List.mem_cons_self
   have h2:=(h y).mpr List.mem_cons_self
   rcases List.mem_cons.mp h1 with e | h1
   ·exact e
   ·rcases List.mem_cons.mp h2 with e | h2
    ·exact e.symm
    ·have:=hb.1 x h1;have:=ha.1 y h2;omega
  subst exy
  rw [zku ha.2 hb.2 fun k=>?_]
  constructor
  ·intro hk
   rcases List.mem_cons.mp ((h k).mp (List.mem_cons_of_mem _ hk)) with e | h'
   ·subst e;have:=ha.1 k hk;omega
   ·exact h'
  ·intro hk
   rcases List.mem_cons.mp ((h k).mpr (List.mem_cons_of_mem _ hk)) with e | h'
   ·subst e;have:=hb.1 k hk;omega
   ·exact h'
theorem zf9 (i k:Int):∀ ns:List Int,k∈insU i ns↔k=i\/k∈ns
 | []=>by simp [insU]
 | j::r=>by
  unfold insU
  split
  ·simp
  ·split
   ·rename_i e;subst e;simp
   ·rw [List.mem_cons,zf9 i k r,List.mem_cons]
    constructor
    ·rintro (h | h | h)
     ·exact .inr (.inl h)
     ·exact .inl h
     ·exact .inr (.inr h)
    ·rintro (h | h | h)
     ·exact .inr (.inl h)
     ·exact .inl h
     ·exact .inr (.inr h)
theorem zcN (k:Int):∀ ns:List Int,k∈usortI ns↔k∈ns
 | []=>by simp [usortI]
 | i::r=>by
  show k∈insU i (usortI r)↔_
  rw [zf9,zcN k r,List.mem_cons]
theorem zlv (i:Int):∀ ns:List Int,ns.Pairwise (· < ·)->(insU i ns).Pairwise (· < ·)
 | [],_=>by simp [insU]
 | j::r,h=>by
  rw [List.pairwise_cons] at h
  unfold insU
  split
  ·rename_i hij
   refine List.pairwise_cons.mpr ⟨fun y hy=>?_,List.pairwise_cons.mpr h⟩
   rcases List.mem_cons.mp hy with rfl | hy
   ·exact hij
   ·have:=h.1 y hy;omega
  ·split
   ·exact List.pairwise_cons.mpr h
   ·rename_i h1 h2
    refine List.pairwise_cons.mpr ⟨fun y hy=>?_,zlv i r h.2⟩
    rcases (zf9 i y r).mp hy with rfl | hy
    ·omega
    ·exact h.1 y hy
theorem zez:∀ ns:List Int,(usortI ns).Pairwise (· < ·)
 | []=>by simp [usortI]
 | i::r=>zlv i _ (zez r)
theorem zey {ns ms:List Int} {S:Int->Bool} (hS:∀ k,S k=true↔k∈ns) (p:ms.Pairwise (· < ·)) (m:∀ k,k∈ms↔S k=true):ms=usortI ns :=
 zku p (zez ns) fun k=>by rw [m,hS,zcN]
section
variable {X:Cx} {cf:CF} {i ic:E} {pos p:Pos} {elt tg iter:Expr} {ifs:List Expr} {scope:Scope} {own:List (Str × Nat)} {t:Tg} {it:Mp.It}
theorem RH.off {K:PySem.W.Frag} {r:List Addr} {M:Mm} {H:Hp} {D:Addr} {ho o:HO} (h:RH K r M H) (hD:H D=some ho) (hm:Mut (some ho)) (nd:D∉r) (hx:Stays ho o:=by first | exact ⟨(fun _ _=>⟨_,rfl⟩),(fun _ z=>nomatch z),(fun z=>nomatch z)⟩ | exact ⟨(fun _ z=>nomatch z),(fun _ z=>nomatch z),(fun z=>nomatch z)⟩):RH K r M (upd H D o):=by
 refine h.same ⟨⟨[],by simp⟩,fun b xs e=>?_,fun b q u e=>?_,.upd hD hx,fun b hb=>hb.mv (fun ps e=>?_) fun c o q e=>?_⟩ fun a ha=>upd_ne fun z=>nd (z ▸ ha)
 ·rw [upd_ne];exact e
  intro z;subst z;rw [hD] at e;cases e;exact hm
 ·rw [upd_ne];exact e
  intro z;subst z;rw [hD] at e;cases e;exact hm
 ·rw [upd_ne];exact e
  intro z;subst z;rw [hD] at e;cases e;exact hm
 ·rw [upd_ne];exact e
  intro z;subst z;rw [hD] at e;cases e;exact hm
theorem Ext.off {r r':List Addr} {H H':Hp} {D:Addr} {o:HO} (e:Ext r r' H H') (hD:H D=none) (hf:∃ ho,H' D=some ho/\Mut (some ho)) (hx:∃ φ,o=.ext φ:=by exact ⟨_,rfl⟩):Ext r r' H (upd H' D o):=by
 have ne:∀ {b:Addr} {q:HO},H b=some q->b≠D:=fun {b q} h z=>by subst z;rw [hD] at h;cases h
 exact ⟨⟨e.pre,fun b xs h=>by rw [upd_ne (ne h)];exact e.tups b xs h,fun b q u h=>by rw [upd_ne (ne h)];exact e.frzs b q u h,⟨fun b x h=>by
  rw [upd_ne (ne h)]
  rcases e.owns.own b x h with z | ⟨z,φ,z2⟩
  ·exact .inl z
  ·by_cases hxD:x=D
   ·obtain ⟨ψ,e2⟩:=hx
    exact .inr ⟨z,ψ,by subst hxD;rw [<- e2];exact upd_same⟩
   ·exact .inr ⟨z,φ,by rw [upd_ne hxD];exact z2⟩,fun b h=>by rw [upd_ne (ne h)];exact e.owns.xd b h,fun b φ h=>by rw [upd_ne (ne h)];exact e.owns.ext b φ h⟩,fun b h=>by
  obtain ⟨ps,hp⟩:=h.ref
  refine (e.tbs b h).mv (fun qs w=>by rw [upd_ne (ne hp)];exact w) fun c o q w=>?_
  rw [upd_ne];exact w
  intro z;subst z
  obtain ⟨ho,f1,f2⟩:=hf
  rw [w] at f1;cases f1;exact f2⟩,e.fresh,fun b q hb ht hw h=>by rw [upd_ne (ne h)];exact e.oth b q hb ht hw h,fun b q h=>by
  obtain ⟨o',h'⟩:=e.live b q h
  exact ⟨o',by rw [upd_ne (ne h)];exact h'⟩⟩
theorem Ext.nin {r r':List Addr} {H H':Hp} {D:Addr} {o:HO} (e:Ext r r' H H') (nd:D∉r) (hD:H D=some o):D∉r':=fun h=>by
 rw [e.fresh D h nd] at hD;cases hD
theorem zhP {src:Src} {b:Mm->PV->Sg->Option Sg} {c e:Sg->Mm->R} {sg:Sg} {acc':List Int} {Mz:Mm}:∀ (m:Nat) {k:Nat} {acc:List Int} {M:Mm},scL src b c e sg m k acc M=some (acc',Mz)->acc'.length<=60\/acc'.length<=acc.length
 | 0,_,_,_,h=>by simp only [scL] at h;cases h
 | m+1,k,acc,M,h=>by
  simp only [scL] at h
  split at h
  ·cases h
  ·cases h;exact .inr (Nat.le_refl _)
  ·split at h
   ·cases h
   ·split at h
    ·split at h
     ·split at h
      ·rcases zhP m h with q | q
       ·exact .inl q
       ·simp at q;left;omega
      ·cases h
     ·cases h
    ·exact zhP m h
    ·cases h
theorem sc_red {s:L2.St} {H:Hp} {Q:VK} {vs:List Nat} (ht:∀ j∈t.ixs,j∈vs) (q:TEv X.K (evE cf (.ssc vs t it ic i)) s H Q) :
  tScG (zkU X) (TIv X.K (evI cf it)) (gOf X.K t) (TTv X.K (evE cf ic)) (TEv X.K (evE cf i)) vs s H fun x H'=>∃ (a:Addr) (S:Int->Bool) (n:Nat),[x]=[V.ref a]/\H' a=some (SetO X.w a S n)/\n<64 /\
   ∀ (ns:List Int) (p:Addr),ns.Pairwise (· < ·)->(∀ k:Int,k∈ns↔S k=true)->ns.length=n->H' p=none->Q (.ref p) (upd H' p (.lst (ns.map V.int))):=by
 obtain ⟨r,sg,M,z,M',hs,hh,ev,q⟩:=q
 simp only [evE] at ev
 split at ev
 ·rename_i src M1 e1
  obtain ⟨Mx,ev',ez⟩:=Option.map_eq_some_iff.mp ev
  clear ev
  obtain ⟨acc',Mz⟩:=Mx
  cases ez
  refine ⟨r,sg,M,src,M1,hs,hh,e1,fun r1 H1 J x1 h1 ok D hD=>?_⟩
  have npD:D∉r1:=fun m=>by
   obtain ⟨ho,e,_⟩:=h1.there m
   rw [hD] at e;cases e
  refine ⟨fun k m H=>∃ r2 M2 acc S n,Ext r1 r2 H1 H/\RH X.K r2 M2 H/\D∉r2/\H D=some (SetO X.w D S n)/\n<=acc.length/\(∀ j,S j=true↔j∈acc)/\scL src (tgP t) (fun sg M=>evE cf ic sg M) (fun sg M=>evE cf i sg M) (z6 sg vs) m k acc M2=some (acc',Mz),
   ⟨zdC,r1,M1,[],fun _=>false,0,zaF hD,h1.other _ hD,npD,upd_same,Nat.le_refl _,fun j=>by simp,ev'⟩,?_⟩
  rintro k m H2 ⟨r2,M2,acc,S,n,x2,h2,nd2,hD2,hn2,hS2,ev2⟩
  cases m with
  | zero=>simp only [scL] at ev2;cases ev2
  | succ m =>
   simp only [scL] at ev2
   obtain ⟨o1,o2⟩:=ok r2 M2 H2 k x2 h2
   have xs2:Ext r r2 H H2:=x1.trans x2
   cases eg:src.get M2 k with
   | none=>rw [eg] at ev2;cases ev2
   | some og =>
    rw [eg] at ev2
    cases og with
    | none =>
     simp only at ev2
     obtain ⟨rfl,rfl⟩:=Prod.mk.inj (Option.some.inj ev2)
     have h60:acc.length<64:=by
      rcases zhP _ ev' with h | h
      ·omega
      ·have:acc.length<=0:=h
       omega
     refine .inl ⟨o2 eg,D,S,n,rfl,hD2,by omega,fun ns p pw mm _ hp=>?_⟩
     rw [zey hS2 pw mm]
     have xq:=zbM (r:=r2) (o:=.lst ((usortI acc).map V.int)) hp [p]
     exact q (r2++[p]) _ _ (xs2.trans xq) (h2.new hp ⟨_,upd_same,zdN _⟩) (.ref (by rw [<- h2.len];simp))
    | some x =>
     obtain ⟨g1,g2⟩:=o1 x eg
     refine .inr ⟨g1,fun H=>∃ r2 M2 acc S n,Ext r1 r2 H1 H/\RH X.K r2 M2 H/\D∉r2/\H D=some (SetO X.w D S n)/\n<=acc.length/\(∀ j,S j=true↔j∈acc)/\scL src (tgP t) (fun sg M=>evE cf ic sg M) (fun sg M=>evE cf i sg M) (z6 sg vs) m (k+1) acc M2=some (acc',Mz),fun H' w=>⟨m,Nat.lt_succ_self m,w⟩,fun v H3 y=>?_⟩
     obtain ⟨x3,h3,v3⟩:=g2 v H3 y
     have hD3:=x3.oth D _ nd2 (fun _ z=>by cases z) (fun _ z=>by cases z) hD2
     simp only at ev2
     cases eb:tgP t M2 x (z6 sg vs) with
     | none=>rw [eb] at ev2;cases ev2
     | some sg3 =>
      rw [eb] at ev2
      refine g_run h3 (((hs.ext xs2).ext x3).wipe vs) v3 eb fun s4 hs4 hw=>⟨by rw [hw vs ht,zex],?_⟩
      simp only at ev2
      split at ev2
      ·rename_i M4 e4
       refine ⟨r2,sg3,M2,_,_,hs4,h3,e4,fun r5 H5 x5 h5=>iteT ?_⟩
       have nd5:=x5.nin nd2 hD3
       have hD5:=x5.oth D _ nd2 (fun _ z=>by cases z) (fun _ z=>by cases z) hD3
       split at ev2
       ·rename_i y M6 e5
        split at ev2
        ·rename_i hl
         refine ⟨r5,sg3,M4,_,M6,hs4.ext x5,h5,e5,fun r7 u7 H7 x7 h7 v7=>?_⟩
         have nd7:=x7.nin nd5 hD5
         have hD7:=x7.oth D _ nd5 (fun _ z=>by cases z) (fun _ z=>by cases z) hD5
         cases v7
         have x17:Ext r1 r7 H1 H7:=x2.trans (x3.trans (x5.trans x7))
         refine ⟨(S,n),_,hD7,⟨y,rfl,by show n+1<4096;omega,rfl⟩,r7,M6,acc++[y],_,_,x17.off hD ⟨_,hD7,trivial⟩,h7.off hD7 trivial nd7,nd7,upd_same,?_,fun j=>?_,ev2⟩
         ·show (if S y=true then n else n+1)<=_
          rw [List.length_append]
          split
          ·omega
          ·simp;omega
         ·show (S j || decide (j=y))=true↔_
          rw [Bool.or_eq_true,hS2,decide_eq_true_eq,List.mem_append]
          simp
        ·cases ev2
       ·cases ev2
      ·rename_i M4 e4
       refine ⟨r2,sg3,M2,_,_,hs4,h3,e4,fun r5 H5 x5 h5=>iteF ⟨r5,M4,acc,S,n,x2.trans (x3.trans x5),h5,x5.nin nd2 hD3,x5.oth D _ nd2 (fun _ z=>by cases z) (fun _ z=>by cases z) hD3,hn2,hS2,ev2⟩⟩
      ·cases ev2
 ·cases ev
theorem xe_ssc (hc:X.calm=true) (hN:X.N.Nodup) {p1 p2:Pos} (hgs:Gl X "sorted") (hms:X.mg "sorted" = none) (hi:XI X cf tg iter it) (ok:BlkOk X.N X.env.scope scope own)
  (hg:∀ (s:Shared) (H:Hp) (C:Addr) (cl:List (Str × Addr)) (fp:List Addr),XG (X.blk s H scope (compEnvC scope cl C X.env) fp) tg t) (ht:∀ (s:Shared) (H:Hp) (C:Addr) (cl:List (Str × Addr)) (fp:List Addr),XTs (X.blk s H scope (compEnvC scope cl C X.env) fp) cf ifs ic)
  (he:∀ (s:Shared) (H:Hp) (C:Addr) (cl:List (Str × Addr)) (fp:List Addr),XE (X.blk s H scope (compEnvC scope cl C X.env) fp) cf elt i) (hx:∀ j∈t.ixs,j∈own.map (·.2)) (hs:∀ x,foldedSetIterable iter X.env x=pure x:=by intro _;rfl)
  (he1:starEach [.SetComp elt [⟨tg,iter,ifs,0⟩] scope pos] X.env=(false,eval (.SetComp elt [⟨tg,iter,ifs,0⟩] scope pos) X.env)::starEach [] X.env:=by rfl) (hpl:(backTo p2 (starEach [] X.env)).any (·.1)=false:=by rfl) :
  XE X cf (.Call (.Name "sorted" p1) [.SetComp elt [⟨tg,iter,ifs,0⟩] scope pos] [] p2) (.ssc (own.map (·.2)) t it ic i) :=
 zak (pe_callB (cr_sortedSet hc) hgs hms (by decide +kernel) (pa_cons (pe_scG (zkU X) (g:=gOf X.K t) (tt:=TTv X.K (evE cf ic)) (te:=TEv X.K (evE cf i)) hc hN hi ok hg ht he hs) pa_nil he1) (by decide) (by decide) he1 hpl) fun s H Q q=>sc_red hx q
end
end Mp
namespace Mp
open PySem L2 PyProof.Rows
open PySem.Sem (wp)
section
variable {P:Program} {w:World} {A:Around} {E:Value->Shared->Prop} {s:Shared}
set_option maxHeartbeats 8000000 in
theorem zgl {l:Addr} {items:Array Value} (ns:List Int) {Q:Value->Shared->Prop} (hh:A.handled=none) (hl:s.heap.IsList l items) (hit:IntsAre items.toList ns) (hb:ns.length+1<scanBound)
  (h:∀ (h':Heap) (tk c:Nat),SetR w h' s.heap.objs.size (fun j=>decide (j∈ns)) c->c<=ns.length->(∀ b o,s.heap.get? b=some o->h'.get? b=some o)->Q (.ref s.heap.objs.size) { s with heap:=h',toks:=tk }) :
  wpAny (model P w) A (call (.type "set") [.ref l]) Q E s:=by
 have isz:items.size=ns.length:=by
  have q:=IntsAre.length hit
  rw [Array.length_toList] at q
  exact q
 obtain ⟨c,tl,hmro⟩:=F.called_set.mro
 have hmade:=F.called_set.made
 have hsub:=F.called_set.sub
 refine wpAny_call (codeAny_of_tree ?_)
 show wpAny _ _ (callAny (.type "set") _) _ _ _
 refine wpAny_pure ⟨Code.quiet_builtin _ (by decide +kernel),codeAny_builtin F.entry_type_call ?_⟩
 rw [Around.under_plain (weight_type_call_type "set" [.ref l] []) rfl]
 have h1:=F.called_set.notType
 have h2:=F.called_set.canCreate
 have hct:=F.typeCall_set_1 (.ref l)
 repeat (any_goals (first | assumption | wp_step))
 generalize eN:({ cls:=.type "set",dict:=none,data:=.set #[] 0 (.fresh 0 0 (!w.params.followText "set-order")) }:Obj)=new
 refine codeAny_mono (code_set_led1 (.ref l) (E:=E) (Q₁:=fun obj s₁=>obj=.ref s.heap.objs.size/\s₁={ s with heap:=s.heap.push new }) ⟨rfl,by rw [<- eN]⟩) fun r s₁ hr=>?_
 cases r with
 | error e=>exact hr
 | ok fl =>
  cases fl with
  | ret obj =>
   obtain ⟨rfl,rfl⟩:=hr
   have hS:(s.heap.push new).get? s.heap.objs.size=some new:=Heap.get?_push_size _ (by rw [<- eN];rfl)
   have hT:Shared.TypeIs { s with heap:=s.heap.push new } (.ref s.heap.objs.size) "set" := ⟨_,hS,by rw [<- eN]⟩
   have hli:=F.called_set.init.lookup
   have hbi:=F.called_set.init.bind (.ref s.heap.objs.size)
   repeat (any_goals (first | assumption | wp_step))
   refine codeAny_mono (codeAny_call_builtin (R:=wants (fun r s₂=>r=.none/\∃ h' tk c,s₂={ s with heap:=h',toks:=tk }/\SetR w h' s.heap.objs.size (fun j=>decide (j∈ns)) c/\c<=ns.length /\
     (∀ b o,s.heap.get? b=some o->h'.get? b=some o)) E) F.called_set.init.plain F.entry_set_init (check_set_init_1 hT ?_)) fun r₂ s₂ hr₂=>?_
   ·obtain ⟨ol,hol,hcl,nl,hdl⟩:=hl
    obtain ⟨ocls,odict,odata,oslots⟩:=ol
    simp only at hcl hdl
    subst hcl;subst hdl
    have hol':(s.heap.push new).get? l=some { cls:=.type "list",dict:=odict,data:=.seq items nl,slots:=oslots }:=Heap.get?_push_of_some _ hol
    have hsls:=F.sub_list_set
    have hslf:=F.sub_list_frozenset
    have hne:(Value.type "list" == Value.type "dict")=false:=by decide
    have hl1:(s.heap.push new).IsList l items:=⟨_,hol',rfl,nl,rfl⟩
    subst eN
    unfold Builtin.«set.__init__» noKeywords Builtin.Frozenset.updateFrom
    generalize hPI:pyIter=PI
    wp_walk
    subst hPI
    refine wpAny_pyIter_list hl1 ?_
    refine wpAny_bind (wpAny_runValue ?_)
    have hlS:l<s.heap.objs.size:=Heap.lt_size hol
    have hh3:A.in1.in1.in1.handled=none:=by simp [hh]
    have sz:(s.heap.push { cls:=.type "set",dict:=none,data:=.set #[] 0 (.fresh 0 0 (!w.params.followText "set-order")) }).objs.size=s.heap.objs.size+1:=Heap.size_push ..
    have nI:l≠(s.heap.push { cls:=.type "set",dict:=none,data:=.set #[] 0 (.fresh 0 0 (!w.params.followText "set-order")) }).objs.size:=by rw [sz];exact Nat.ne_of_lt (Nat.lt_succ_of_lt hlS)
    have nS:s.heap.objs.size∉[(s.heap.push { cls:=.type "set",dict:=none,data:=.set #[] 0 (.fresh 0 0 (!w.params.followText "set-order")) }).objs.size,l]:=by
     rw [sz];simp only [List.mem_cons,List.not_mem_nil,or_false,not_or]
     exact ⟨Nat.ne_of_lt (Nat.lt_succ_self _),Nat.ne_of_gt hlS⟩
    have val:∀ (i:Nat) (v:Value),items[i]? = some v->∃ k t,ns[i]? = some k/\v=.int k t:=fun i v hv=>by
     have hi:i<ns.length:=by rw [<- isz];exact (Array.getElem?_eq_some_iff.mp hv).1
     obtain ⟨t,e⟩:=PyProof.Rows.IntsAre.int_at hit i v (by rw [Array.getElem?_toList];exact hv)
     refine ⟨ns[i],t,List.getElem?_eq_getElem hi,?_⟩
     rw [e,List.getD_eq_getElem?_getD,List.getElem?_eq_getElem hi]<;>rfl
    refine set_update_ints ((Walks.list hh3 _ l nI items).toS) s.heap.objs.size nS ns isz hb val (items.size-0) 0 _ (by omega) (Nat.zero_le _) ⟨⟨_,Heap.get?_push_size _ rfl,rfl,rfl⟩,(hl1.push _)⟩ ?hStart ?hEnd
    case hStart =>
     have hget:((s.heap.push { cls:=.type "set",dict:=none,data:=.set #[] 0 (.fresh 0 0 (!w.params.followText "set-order")) }).push { cls:=.type "list_iterator",data:=.fields #[.ref l,.int 0 0] }).get? s.heap.objs.size=some { cls:=.type "set",dict:=none,data:=.set #[] 0 (.fresh 0 0 (!w.params.followText "set-order")) }:=Heap.get?_push_of_some _ hS
     exact ⟨0,Nat.le_refl 0,setR_new_at hget⟩
    case hEnd =>
     intro s' c' hm hc' hS'
     obtain ⟨h',g2,d',tk',os'⟩:=s'
     cases (show g2=s.gens from hm.gens)
     cases (show d'=s.drawn from hm.drawn)
     cases (show os'=s.os from hm.os)
     show wpAny _ _ _ _ _ _
     refine wpAny_pure ?_
     show wpAny _ _ (ret Value.none) _ _ _
     rw [isz] at hc'
     refine wpAny_pure ⟨rfl,h',tk',c',rfl,hS',hc',fun b o e=>?_⟩
     have b0:b<s.heap.objs.size:=Heap.lt_size e
     refine hm.heap b o ?_ (Heap.get?_push_of_some _ (Heap.get?_push_of_some _ e))
     simp only [List.mem_cons,List.not_mem_nil,or_false,not_or]
     exact ⟨Nat.ne_of_lt b0,by rw [sz];exact Nat.ne_of_lt (Nat.lt_succ_of_lt b0)⟩
   ·cases r₂ with
    | error e=>exact hr₂
    | ok fl =>
     cases fl with
     | ret z =>
      obtain ⟨rfl,h',tk,c,rfl,q1,q2,q3⟩:=hr₂
      repeat (any_goals (first | assumption | wp_step))
      exact h h' tk c q1 q2 q3
     | _=>exact hr₂.elim
  | _=>exact hr.elim
end
section
variable {X:Cx} {cf:CF} {i:E} {e:Expr} {p1 p2 p3 p4:Pos}
theorem setR_cnt {w:World} {h:Heap} {a:Addr} {ns:List Int} {c:Nat} (R:SetR w h a (fun j=>decide (j∈ns)) c):c=(usortI ns).length:=by
 obtain ⟨o,es,ep,t,ho,h1,h2,h3,h4,h5,h6,h7,h8,_⟩:=R
 have nd:(usortI ns).Nodup:=(zez ns).imp fun h=>Int.ne_of_lt h
 have pm:=(List.perm_ext_iff_of_nodup h4 nd).mpr fun k=>by rw [<- h5 k,zcN];simp
 have:=pm.length_eq
 rw [List.length_map] at this
 rw [<- this,<- h8]
 simp
theorem ziR (i:Int):∀ ns:List Int,(insU i ns).length<=ns.length+1
 | []=>by simp [insU]
 | j::r=>by
  have:=ziR i r
  unfold insU
  split
  ·simp
  ·split
   ·simp
   ·simp only [List.length_cons];omega
theorem usortI_len:∀ ns:List Int,(usortI ns).length<=ns.length
 | []=>by simp [usortI]
 | i::r=>by
  have h1:=ziR i (usortI r)
  have h2:=usortI_len r
  show (insU i (usortI r)).length<=r.length+1
  omega
def rSetI (K:PySem.W.Frag) (w:World):List V->Hp->VK->Prop:=fun xs H Q=>∃ (l:Addr) (ns:List Int),xs=[V.ref l]/\SqL K H l (ns.map V.int)/\ns.length<4000/\∀ (a:Addr) (c:Nat),H a=none->c=(usortI ns).length->Q (.ref a) (upd H a (SetO w a (fun j=>decide (j∈ns)) c))
theorem cr_setI (hc:X.calm=true):CallR X (.type "set") (rSetI X.K X.w):=by
 intro pins s sg H xs us Q I r h
 obtain ⟨l,ns,rfl,hq,hl,q⟩:=h
 cases r with
 | cons r rr =>
  cases rr
  cases r
  obtain ⟨its,rv,p,hz⟩:=I.list hq
  refine zgl ns (I.ok.hd hc) p.isList (ints_of_vals rv) (by unfold scanBound;omega) fun h' tk c R hcn k=>?_
  exact ⟨.ref _,upd H s.heap.objs.size (SetO X.w s.heap.objs.size (fun j=>decide (j∈ns)) c),I.laid (t':=tk) k (Nat.le_refl _) (setO_new R),rfl,q _ c (I.hok.fresh (Nat.le_refl _)) (setR_cnt R)⟩
theorem xe_ssort (hc:X.calm=true) (hgs:Gl X "sorted") (hms:X.mg "sorted" = none) (hgt:Gl X "set") (hmt:X.mg "set" = none) (h:XE X cf e i)
  (he0:starEach [e] X.env=(false,eval e X.env)::starEach [] X.env:=by rfl)
  (he1:starEach [.Call (.Name "set" p3) [e] [] p4] X.env=(false,eval (.Call (.Name "set" p3) [e] [] p4) X.env)::starEach [] X.env:=by rfl) (hpl:(backTo p2 (starEach [] X.env)).any (·.1)=false:=by rfl) (hpl4:(backTo p4 (starEach [] X.env)).any (·.1)=false:=by rfl) :
  XE X cf (.Call (.Name "sorted" p1) [.Call (.Name "set" p3) [e] [] p4] [] p2) (.blt .ssort (.cons i .nil)):=by
 refine zak (pe_callB (cr_sortedSet hc) hgs hms (by decide +kernel) (pa_cons (pe_callTy (cr_setI hc) hgt hmt (by decide +kernel) (pa_cons h pa_nil he0) (by decide) (by decide) he0 hpl4) pa_nil he1) (by decide) (by decide) he1 hpl) fun s H Q q=>?_
 obtain ⟨r,sg,M,z,M',hs,hh,ev,q⟩:=q
 simp only [evE] at ev
 split at ev
 ·rename_i xs M1 e1
  obtain ⟨x,ys,M2,e2,e3,rfl⟩:=zcE e1
  simp only [zv] at e3
  cases e3
  cases x with
  | ref n =>
   simp only [zJ] at ev
   obtain ⟨ns,e4,e5⟩:=Option.bind_eq_some_iff.mp ev
   obtain ⟨l,e6,e7⟩:=Option.bind_eq_some_iff.mp e4
   split at e5
   ·rename_i hl
    obtain ⟨rfl,rfl⟩:=Prod.mk.inj (Option.some.inj e5)
    refine ⟨r,sg,M,_,_,hs,hh,e2,fun r1 u1 H1 x1 h1 v1=>?_⟩
    obtain ⟨a,ws,g1,g2,g3⟩:=zbd h1 e6
    have:=v1.refAt g1
    subst this
    rw [zf8 g3 e7] at g2
    refine ⟨a,ns,rfl,.inl (.inl g2),by omega,fun b c hb hcn=>⟨b,_,c,rfl,upd_same,by have:=usortI_len ns;omega,fun ms p pw mm _ hp=>?_⟩⟩
    rw [zey (ns:=ns) (fun k=>by simp) pw mm]
    have y1:=zaF (r:=r1) (o:=SetO X.w b (fun j=>decide (j∈ns)) c) hb
    have h2:=h1.other (SetO X.w b (fun j=>decide (j∈ns)) c) hb
    have y2:=zbM (r:=r1) (o:=.lst ((usortI ns).map V.int)) hp [p]
    exact q (r1++[p]) _ _ (x1.trans (y1.trans y2)) (h2.new hp ⟨_,upd_same,zdN _⟩) (.ref (by rw [<- h2.len];simp))
   ·cases e5
  | _=>simp [zJ] at ev
 ·cases ev
end
end Mp
namespace Mp
open PySem L2
theorem RO.no {K:PySem.W.Frag} {r:List Addr} {H:Hp} {a:Addr}:∀ {o:Ob},RO K r H a o->(∀ x,H a≠some (.own x))/\H a≠some (.xd [])
 | .lst _,⟨vs,h,_⟩=>by rw [h];exact ⟨(fun _ z=>nomatch z),(fun z=>nomatch z)⟩
 | .dic _,⟨vs,h,_⟩=>by rw [h];exact ⟨(fun _ z=>nomatch z),(fun z=>nomatch z)⟩
 | .ins _ _,⟨dx,vs,h,_⟩=>by rw [h];exact ⟨(fun _ z=>nomatch z),(fun z=>nomatch z)⟩
 | .slt _ _,⟨dx,us,⟨_,h⟩,_⟩=>by
  rcases h with ⟨h,_⟩ | ⟨_,h,_⟩
  ·rw [h];unfold SlX.SlO;exact ⟨(fun _ z=>nomatch z),(fun z=>nomatch z)⟩
  ·rw [h];exact ⟨(fun _ z=>nomatch z),(fun z=>nomatch z)⟩
 | .frz kvs,⟨_,vs,h,_⟩=>by rw [h];exact ⟨(fun _ z=>nomatch z),(fun z=>nomatch z)⟩
def eqV:Option (Option Value)->String->Bool
 | some (some (.builtin b)),s=>b == s
 | _,_=>false
end Mp
namespace Mp.It
open PySem PySem.Spec PyProof.Rows PySem.W L2 L2.DX
def PairS (h:Heap) (v:Value) (y:Str) (i:Int):Prop:=∃ (a:Addr) (t u:Tok),v=.ref a/\IsTup h a #[.str y t,.int i u]
end Mp.It
namespace Mp
open PySem L2
abbrev ltS (a b:Str):Prop:=a.cps.toList<b.cps.toList
theorem ltS_irr {a:Str}:¬ ltS a a:=List.lt_irrefl _
theorem ltS_tr {a b c:Str} (h:ltS a b) (k:ltS b c):ltS a c:=List.lt_trans h k
theorem ltS_tri (a b:Str):ltS a b\/a=b\/ltS b a:=by
 by_cases h:ltS a b
 ·exact .inl h
 by_cases k:ltS b a
 ·exact .inr (.inr k)
 refine .inr (.inl ?_)
 have e:a.cps.toList=b.cps.toList:=List.le_antisymm (List.not_lt.mp k) (List.not_lt.mp h)
 cases a;cases b
 simp at e
 simp [e]
theorem zg3 (e:Str × PV):∀ l,(insS e l).Perm (e::l)
 | []=>.refl _
 | f::r=>by
  unfold insS
  split
  ·exact .refl _
  ·exact ((zg3 e r).cons f).trans (.swap e f r)
theorem zdK:∀ l,(zeC l).Perm l
 | []=>.refl _
 | e::r=>(zg3 e (zeC r)).trans ((zdK r).cons e)
end Mp
namespace Mp.It
open PySem PySem.Spec PyProof.Rows PySem.W L2 L2.DX
section
variable {prog:Program} {w:World} {A:Around} {E:Value->Shared->Prop} {s:Shared}
theorem PairS.keeps {h h':Heap} {v:Value} {y:Str} {i:Int} (x:PairS h v y i) (k:∀ b o,h.get? b=some o->o.cls=.type "tuple" -> h'.get? b=some o):PairS h' v y i:=by
 obtain ⟨a,t,u,e,⟨o,ho,hc,r⟩⟩:=x
 exact ⟨a,t,u,e,⟨o,k _ _ ho hc,hc,r⟩⟩
end
end Mp.It
namespace Mp
open PySem L2 PySem.W
theorem zfh {α β:Type} {f:α->Option β} {x:α} {xs:List α} {ds:List β} (h:(x::xs).mapM f=some ds):∃ d ds',f x=some d/\xs.mapM f=some ds'/\ds=d::ds':=by
 rw [List.mapM_cons] at h
 cases e1:f x with
 | none=>rw [e1] at h;cases h
 | some d =>
  rw [e1] at h
  cases e2:xs.mapM f with
  | none=>rw [e2] at h;cases h
  | some ds' =>
   rw [e2] at h
   cases h
   exact ⟨d,ds',rfl,rfl,rfl⟩
end Mp
namespace Mp.Ts
open PySem PySem.Spec L2 PyProof.Rows
def txOf (e:Int × Value):Str:=match e.2 with | .str k _=>k | _=>Str.empty
def OkE (w:World) (e:Int × Value):Prop:=∃ k tk,e.2=Value.str k tk/\e.1=hashStr w k
structure TxAt (w:World) (h:Heap) (a:Addr) (S:Str->Bool) (n:Nat) (o:Obj) (es:Array (Int × Value)) (ep:Nat) (t:SetTable):Prop where
 ob:h.get? a=some o
 ex:o.ExactSet
 da:o.data=.set es ep t
 ok:∀ e∈es.toList,OkE w e
 nd:(es.toList.map txOf).Nodup
 mem:∀ k,S k=true↔k∈es.toList.map txOf
 sm:es.size<scanBound
 fi:t.fits es.size=true
 sz:es.size=n
 ri:Ris t.place.toList
 ld:w.params.followText "set-order" = true\/t.led=true
def TxS (w:World) (h:Heap) (a:Addr) (S:Str->Bool) (n:Nat):Prop:=∃ o es ep t,TxAt w h a S n o es ep t
section
variable {P:Program} {w:World} {h h':Heap} {a:Addr} {S:Str->Bool} {n:Nat}
theorem TxS.at (R:TxS w h a S n) (k:∀ o,h.get? a=some o->h'.get? a=some o):TxS w h' a S n:=by
 obtain ⟨o,es,ep,t,r⟩:=R
 exact ⟨o,es,ep,t,{ r with ob:=k o r.ob }⟩
theorem TxS.congr {S':Str->Bool} (R:TxS w h a S n) (e:∀ k,S' k=S k):TxS w h a S' n:=by rw [show S'=S from funext e];exact R
end
end Mp.Ts
namespace Mp
namespace Ts2
open PySem L2 PyProof.Rows
open PySem.Sem (wp)
section
variable {P:Program} {w:World} {K:Type} [DecidableEq K] {kd:KeyKind P w K} {A:Around} {E:Value->Shared->Prop} {s:Shared}
structure Leaf (kd:KeyKind P w K):Prop where
 cls:∀ {k v} (n:Nat),kd.is k v=true->ofAClassStatement n v=pure false
 hsh:∀ {k v} (n:Nat),kd.is k v=true->∃ b,hashByValue n v=pure b
theorem zg2 {ks:List K} {vs:List Value} (h:ItemsAre kd ks vs):∀ v∈vs,∃ k,kd.is k v=true:=by
 induction h with
 | nil=>exact fun _ h=>nomatch h
 | cons h1 _ ih=>exact fun v hv=>(List.mem_cons.mp hv).elim (fun e=>e ▸ ⟨_,h1⟩) (ih v)
theorem ziH (lf:Leaf kd) {k:List K} {b:Addr} {Q:Bool->Shared->Prop} (hk:IsTupleKey kd s.heap k b) (q:Q false s):wpAny (model P w) A (ofAClassStatement 8 (.ref b)) Q E s:=by
 have hT:=hk.typeIs
 obtain ⟨o,its,n,ho,_,hd,hi⟩:=hk
 have hall:=zg2 hi
 unfold ofAClassStatement
 refine wpAny_bind (wpAny_typeOf hT ?_)
 simp only [show (("tuple" : String) == "tuple")=true from by decide,if_true]
 refine wpAny_bind (wpAny_pure ?_)
 simp only [Bool.not_true,Bool.false_eq_true,if_false]
 refine wpAny_bind (wpAny_seqItems ho hd ?_)
 dsimp only
 refine wpAny_bind ?_
 rw [<- Array.forIn_toList]
 refine wpAny_forIn_list _ (fun rest r s'=>r.1=none/\s'=s/\∀ v∈rest,∃ k,kd.is k v=true) _ ?_ ?_ _ _ ⟨rfl,rfl,hall⟩
 ·rintro v rest r s' ⟨hr,rfl,h⟩
  obtain ⟨k',hk'⟩:=h v List.mem_cons_self
  rw [lf.cls 7 hk']
  refine wpAny_bind (wpAny_pure ?_)
  simp only [Bool.false_eq_true,if_false]
  exact wpAny_pure ⟨rfl,rfl,fun u hu=>h u (List.mem_cons_of_mem _ hu)⟩
 ·rintro ⟨r1,r2⟩ s' ⟨hr,rfl,_⟩
  cases (show r1=none from hr)
  exact wpAny_pure q
theorem by_value (lf:Leaf kd) {k:List K} {b:Addr} {Q:Bool->Shared->Prop} (hk:IsTupleKey kd s.heap k b) (q:∀ b,Q b s):wpAny (model P w) A (hashByValue 8 (.ref b)) Q E s:=by
 have hT:=hk.typeIs
 obtain ⟨o,its,n,ho,_,hd,hi⟩:=hk
 have hall:=zg2 hi
 unfold hashByValue
 refine wpAny_bind (wpAny_specialOf hT F.slot_tuple_hash.lookup ?_)
 dsimp only
 refine wpAny_bind (wpAny_seqItems ho hd ?_)
 refine wpAny_bind ?_
 dsimp only [Option.getD]
 rw [<- Array.forIn_toList]
 refine wpAny_forIn_list _ (fun rest r s'=>r.1=none/\s'=s/\∀ v∈rest,∃ k,kd.is k v=true) _ ?_ ?_ _ _ ⟨rfl,rfl,hall⟩
 ·rintro v rest r s' ⟨hr,rfl,h⟩
  obtain ⟨k',hk'⟩:=h v List.mem_cons_self
  obtain ⟨b',e⟩:=lf.hsh 7 hk'
  rw [e]
  refine wpAny_bind (wpAny_pure ?_)
  cases b'
  ·simp only [Bool.not_false,if_true]
   exact wpAny_pure (wpAny_pure (q false))
  ·simp only [Bool.not_true,Bool.false_eq_true,if_false]
   exact wpAny_pure ⟨rfl,rfl,fun u hu=>h u (List.mem_cons_of_mem _ hu)⟩
 ·rintro ⟨r1,r2⟩ s' ⟨hr,rfl,_⟩
  cases (show r1=none from hr)
  exact wpAny_pure (q true)
theorem not_seen (lf:Leaf kd) {k:List K} {b:Addr} {Q:Bool->Shared->Prop} (hk:IsTupleKey kd s.heap k b) {ys:List Value} (hy:∀ y∈ys,∃ k' c,y=Value.ref c/\IsTupleKey kd s.heap k' c) (q:Q false s) :
  wpAny (model P w) A (searchCouldBeSeen (.ref b) ys) Q E s:=by
 unfold searchCouldBeSeen
 refine wpAny_bind ?_
 refine wpAny_forIn_list _ (fun rest r s'=>r.1=none/\s'=s/\∀ y∈rest,∃ k' c,y=Value.ref c/\IsTupleKey kd s.heap k' c) _ ?_ ?_ _ _ ⟨rfl,rfl,hy⟩
 ·rintro v rest r s' ⟨hr,rfl,h⟩
  obtain ⟨k',c,rfl,hc⟩:=h v List.mem_cons_self
  have next:=fun u hu=>h u (List.mem_cons_of_mem _ hu)
  dsimp only
  by_cases same:(b == c || (carriedByValue (.ref b) && carriedByValue (.ref c)))=true
  ·exact wp_if_pos same (wpAny_pure ⟨rfl,rfl,next⟩)
  ·refine wp_if_neg same (wpAny_bind (wpAny_eqIsQuiet_tuple hk ?_))
   simp only [Bool.not_true,Bool.false_eq_true,if_false]
   refine wpAny_bind (wpAny_eqIsQuiet_tuple hc ?_)
   simp only [Bool.not_true,Bool.false_eq_true,if_false]
   refine wpAny_bind (ziH lf hk ?_)
   simp only [Bool.false_eq_true,if_false]
   refine wpAny_bind (ziH lf hc ?_)
   simp only [Bool.false_eq_true,if_false]
   exact wpAny_pure ⟨rfl,rfl,next⟩
 ·rintro ⟨r1,r2⟩ s' ⟨hr,rfl,_⟩
  cases (show r1=none from hr)
  exact wpAny_pure q
abbrev zk1 (kd:KeyKind P w K) (p:Addr × List K):Int × Value:=(tupleKeyHash kd p.2,.ref p.1)
structure SetP (kd:KeyKind P w K) (h:Heap) (a:Addr) (L:List (Addr × List K)) (es:Array (Int × Value)) (ep:Nat) (t:SetTable):Prop where
 obj:∃ o,h.get? a=some o/\o.ExactSet/\o.data=.set es ep t
 row:es.toList=L.map (zk1 kd)
 tab:TabOk t (L.map fun p=>tupleKeyHash kd p.2)
 key:(L.map (·.2)).Nodup
 tup:∀ p∈L,IsTupleKey kd h p.2 p.1
 led:w.params.followText "set-order" = true\/t.led=true
 rm:L.length*5<t.mask*3
 few:L.length<64
variable {a:Addr} {L:List (Addr × List K)} {es:Array (Int × Value)} {ep:Nat} {t:SetTable}
theorem zcO (h:es.toList=L.map (zk1 kd)):es.size=L.length:=by
 have:=congrArg List.length h
 rwa [List.length_map,Array.length_toList] at this
theorem ziB (h:es.toList=L.map (zk1 kd)) {i:Nat} {p:Addr × List K} (hp:L[i]? = some p):es[i]? = some (zk1 kd p):=by
 rw [<- Array.getElem?_toList,h,List.getElem?_map,hp];rfl
theorem SetP.fits (R:SetP kd s.heap a L es ep t):t.fits es.size=true:=by
 have h1:=R.tab.sz
 have h2:=zcO R.row
 have h3:=R.rm
 rw [List.length_map] at h1
 simp only [SetTable.fits,SetTable.fill,R.tab.dm,Bool.and_eq_true,beq_iff_eq,decide_eq_true_eq]
 refine ⟨by rw [h1,h2],?_⟩
 rw [h1]
 show L.length+0<=t.mask
 omega
abbrev zfq (t:SetTable) (H:Int) (c:Nat):SetTable.Probe:=nth t.mask (runAt t.mask (SetTable.bits H % (t.mask+1)) (SetTable.bits H)) c
theorem zfp (m:Nat):∀ (c:Nat) (p:SetTable.Probe),p.dummy=none->(nth m p c).dummy=none
 | 0,_,h=>h
 | c+1,p,h=>zfp m c (adv m p) (by unfold adv;split<;>exact h)
theorem seek (lf:Leaf kd) (R:SetP kd s.heap a L es ep t) {x:Addr} {k:List K} (hx:IsTupleKey kd s.heap k x) (hu:A.units<cLine) {N:Nat} (hN:N<10*SetTable.turns t.mask)
  (he:way t.mask (tupleKeyHash kd k) N∉t.place.toList) (hb:∀ c,c<N->way t.mask (tupleKeyHash kd k) c∈t.place.toList) {Q:SetFound->Shared->Prop}
  (qin:k∈L.map (·.2)->Q (.there none) s) (qout:k∉L.map (·.2)->Q (.free (way t.mask (tupleKeyHash kd k) N) false) s) :
  ∀ (f c:Nat) (st:Option SetTable.Probe),st.getD (t.probeStart (tupleKeyHash kd k))=zfq t (tupleKeyHash kd k) c->c<=N->N-c<f ->
   (∀ (c' i:Nat) (p:Addr × List K),c'<c->t.place.toList[i]? = some (way t.mask (tupleKeyHash kd k) c')->L[i]? = some p->p.2≠k) ->
   wpAny (model P w) A (setSearchFrom a (.ref x) (tupleKeyHash kd k) true f st) Q E s
 | 0,_,_,_,_,hf,_=>absurd hf (Nat.not_lt_zero _)
 | f+1,c,st,hst,hc,hf,gone=>by
  obtain ⟨o,ho,_,hd⟩:=R.obj
  rw [setSearchFrom_succ]
  refine wpAny_bind (wpAny_setState_of ho hd R.fits ?_)
  dsimp only
  refine wp_if_neg (by unfold SetTable.gaveWay;rw [mask_odd R.tab.mok];decide) ?_
  have on:∀ q,nth t.mask (zfq t (tupleKeyHash kd k) c) q=zfq t (tupleKeyHash kd k) (c+q):=fun q=>(nth_add t.mask c _ q).symm
  have sp:=go_spec t R.tab.ris R.tab.dm (fun i=>(es[i]?.map (·.1)).getD 0) (tupleKeyHash kd k) (10*SetTable.turns t.mask) (N-c) (zfq t (tupleKeyHash kd k) c) (zfp t.mask c _ rfl) (by omega)
   (fun q hq=>by rw [on];exact hb (c+q) (by omega)) (by rw [on,show c+(N-c)=N by omega];exact he)
  have hashOf:∀ (i:Nat) (p:Addr × List K),L[i]? = some p->(es[i]?.map (·.1)).getD 0=tupleKeyHash kd p.2:=fun i p hp=>by rw [ziB R.row hp];rfl
  rcases sp with ⟨q,i,hq,hi,hh,hno,hpr⟩ | ⟨hno,hpr⟩
  ·rw [on] at hi
   rw [on,on] at hpr
   have e1:t.probe (fun i=>(es[i]?.map (·.1)).getD 0) (tupleKeyHash kd k) (st.getD (t.probeStart (tupleKeyHash kd k)))=some (.candidate (way t.mask (tupleKeyHash kd k) (c+q)) i (zfq t (tupleKeyHash kd k) (c+(q+1)))):=by
    rw [hst];exact hpr
   rw [e1]
   dsimp only
   have il:i<L.length:=by
    have h1:=(List.getElem?_eq_some_iff.mp hi).1
    have h2:=R.tab.sz
    rw [List.length_map] at h2
    rw [Array.length_toList] at h1
    omega
   obtain ⟨p,hp⟩:∃ p,L[i]? = some p:=⟨_,List.getElem?_eq_getElem il⟩
   have hm:=List.mem_of_getElem? hp
   have sl:t.slot (way t.mask (tupleKeyHash kd k) (c+q))=.live i:=slot_live R.tab.ris hi
   have rest:wpAny (model P w) A (searchRest a (.ref x) (tupleKeyHash kd k) true f es t (way t.mask (tupleKeyHash kd k) (c+q)) i (zfq t (tupleKeyHash kd k) (c+(q+1)))) Q E s:=by
    unfold searchRest
    rw [ziB R.row hp]
    dsimp only
    refine wpAny_bind (wpAny_holding (wpAny_eqBool_tuple hu (R.tup p hm) hx ?_))
    refine wpAny_bind (wpAny_setState_of ho hd R.fits ?_)
    dsimp only
    by_cases hk:p.2=k
    ·exact wp_if_pos (by simp [hk]) (wpAny_pure (qin (List.mem_map.mpr ⟨p,hm,hk⟩)))
    ·refine wp_if_neg (by simp [hk]) ?_
     rw [sameMem]
     dsimp only
     simp only [if_true,sl,ziB R.row hp]
     refine wpAny_bind (wpAny_isSame_ref_self (wpAny_bind (wpAny_pure ?_)))
     simp only [if_true]
     refine wp_if_neg (by simp [hk]) ?_
     refine seek lf R hx hu hN he hb qin qout f (c+(q+1)) _ rfl (by omega) (by omega) fun c' i' p' hc' hi' hp'=>?_
     by_cases h1:c'<c
     ·exact gone c' i' p' h1 hi' hp'
     ·by_cases h2:c'<c+q
      ·intro e
       refine hno (c'-c) i' (by omega) (by rw [on,show c+(c'-c)=c' by omega];exact hi') ?_
       exact (hashOf i' p' hp').trans (by rw [e])
      ·have h3:c'=c+q:=by omega
       subst h3
       have s0:=slot_live R.tab.ris hi'
       rw [sl] at s0
       cases s0
       rw [hp] at hp'
       cases hp'
       exact hk
   by_cases hl:t.led=true
   ·exact wp_if_neg (by simp [hl]) rest
   ·refine wp_if_pos (by simp [hl]) ?_
    refine wpAny_bind (not_seen lf hx (fun y hy=>?_) (wp_if_neg (by decide) rest))
    obtain ⟨e,he',ee⟩:=List.mem_map.mp hy
    have he2:e∈es.toList:=by
     have h1:=(Array.mem_filter.mp (Array.mem_toList_iff.mp he')).1
     exact Array.mem_toList_iff.mpr h1
    rw [R.row] at he2
    obtain ⟨p2,hp2,e2⟩:=List.mem_map.mp he2
    exact ⟨p2.2,p2.1,by rw [<- ee,<- e2],R.tup p2 hp2⟩
  ·rw [on,show c+(N-c)=N by omega] at hpr
   have e1:t.probe (fun i=>(es[i]?.map (·.1)).getD 0) (tupleKeyHash kd k) (st.getD (t.probeStart (tupleKeyHash kd k)))=some (.empty (way t.mask (tupleKeyHash kd k) N) none):=by
    rw [hst];exact hpr
   rw [e1]
   dsimp only
   refine wpAny_pure (qout fun hm=>?_)
   obtain ⟨p,hpm,hk⟩:=List.mem_map.mp hm
   obtain ⟨i,hi⟩:=List.getElem?_of_mem hpm
   have il:i<t.place.toList.length:=by
    have h1:=(List.getElem?_eq_some_iff.mp hi).1
    have h2:=R.tab.sz
    rw [List.length_map] at h2
    rw [Array.length_toList]
    omega
   have hj:=List.getElem?_eq_getElem il
   obtain ⟨c',c1,c2⟩:=R.tab.before he (i:=i) (by rw [List.getElem?_map,hi];exact congrArg (fun z=>some (tupleKeyHash kd z)) hk) hj
   rw [<- c2] at hj
   by_cases h1:c'<c
   ·exact gone c' i p h1 hj hi hk
   ·refine hno (c'-c) i (by omega) (by rw [on,show c+(c'-c)=c' by omega];exact hj) ?_
    exact (hashOf i p hi).trans (by rw [hk])
theorem seek_add (lf:Leaf kd) (R:SetP kd s.heap a L es ep t) {x:Addr} {k:List K} (hx:IsTupleKey kd s.heap k x) (hu:A.units<cLine) {Q:SetFound->Shared->Prop}
  (qin:k∈L.map (·.2)->Q (.there none) s)
  (qout:∀ N,k∉L.map (·.2)->way t.mask (tupleKeyHash kd k) N∉t.place.toList->(∀ c,c<N->way t.mask (tupleKeyHash kd k) c∈t.place.toList)->Q (.free (way t.mask (tupleKeyHash kd k) N) false) s) :
  wpAny (model P w) A (setSearch a (.ref x) (tupleKeyHash kd k) true) Q E s:=by
 have h3:=R.rm
 obtain ⟨N,hN,he,hb⟩:=R.tab.first (by rw [List.length_map];omega) (tupleKeyHash kd k)
 have:10*SetTable.turns t.mask<=1420:=by
  unfold SetTable.turns
  rcases R.tab.mok with e | e | e<;>omega
 exact seek lf R hx hu hN he hb qin (fun h=>qout N h he hb) 100000 0 none rfl (Nat.zero_le _) (by omega) fun _ _ _ h=>absurd h (Nat.not_lt_zero _)
end
end Ts2
end Mp
namespace Mp
namespace Ts2
open PySem L2 PyProof.Rows
open PySem.Sem (wp)
section
variable {P:Program} {w:World} {K:Type} [DecidableEq K] {kd:KeyKind P w K} {A:Around} {E:Value->Shared->Prop} {s:Shared}
variable {a:Addr} {L:List (Addr × List K)} {es:Array (Int × Value)} {ep:Nat} {t:SetTable}
theorem zeO {h h':Heap} {k:List K} {b:Addr} {o:Obj} (x:IsTupleKey kd h k b) (ho:h.get? a=some o) (hd:o.data=.set es ep t) (hs:Heap.SameBut a h h'):IsTupleKey kd h' k b:=by
 obtain ⟨o',its,n,h1,h2,h3,h4⟩:=x
 refine ⟨o',its,n,(hs.2 b fun e=>?_).trans h1,h2,h3,h4⟩
 subst e
 rw [ho] at h1
 cases h1
 rw [hd] at h3
 cases h3
theorem zen {h h':Heap} {k:List K} {b:Addr} (x:IsTupleKey kd h k b) (hk:∀ c o,h.get? c=some o->h'.get? c=some o):IsTupleKey kd h' k b :=
 let ⟨o,its,n,h1,h2⟩:=x;⟨o,its,n,hk b o h1,h2⟩
theorem zcU {α β:Type} {f g:α->Option β}:∀ {l:List α},(∀ x∈l,f x=g x)->l.filterMap f=l.filterMap g
 | [],_=>rfl
 | x::l,h=>by
  rw [List.filterMap_cons,List.filterMap_cons,h x List.mem_cons_self,zcU fun y hy=>h y (List.mem_cons_of_mem _ hy)]
theorem zgP {α:Type}:∀ L:List α,(List.range L.length).filterMap (fun i=>L[i]?)=L
 | []=>rfl
 | x::L=>by
  rw [List.length_cons,List.range_succ_eq_map,List.filterMap_cons,List.filterMap_map]
  simp only [List.getElem?_cons_zero]
  exact congrArg (x :: ·) ((zcU fun i _=>by simp).trans (zgP L))
theorem zk0 (h:es.toList=L.map (zk1 kd)) (i:Nat):es[i]? = (L[i]?).map (zk1 kd):=by
 rw [<- Array.getElem?_toList,h,List.getElem?_map]
theorem zlr (h:es.toList=L.map (zk1 kd)) (order:Array Nat) (hp:order.toList.Perm (List.range L.length)) :
  ∃ L2:List (Addr × List K),(order.filterMap (es[·]?)).toList=L2.map (zk1 kd)/\L2.Perm L/\(L2.map fun p=>tupleKeyHash kd p.2)=order.toList.map fun i=>(es.map (·.1)).getD i 0:=by
 refine ⟨order.toList.filterMap fun i=>L[i]?,?_,?_,?_⟩
 ·rw [Array.toList_filterMap,List.map_filterMap]
  exact zcU fun i _=>zk0 h i
 ·have:=hp.filterMap fun i=>L[i]?
  rwa [zgP] at this
 ·have hl:∀ i∈order.toList,i<L.length:=fun i hi=>List.mem_range.mp (hp.mem_iff.mp hi)
  generalize order.toList=l at hl
  induction l with
  | nil=>rfl
  | cons i l ih =>
   have hi:=hl i List.mem_cons_self
   rw [List.filterMap_cons_some (List.getElem?_eq_getElem hi),List.map_cons,List.map_cons,ih fun j hj=>hl j (List.mem_cons_of_mem _ hj)]
   have e:(es.map (·.1))[i]? = some (tupleKeyHash kd L[i].2):=by
    rw [Array.getElem?_map,zk0 h,List.getElem?_eq_getElem hi];rfl
   rw [Array.getD_eq_getD_getElem?,e];rfl
theorem lay (lf:Leaf kd) {o:Obj} (ho:s.heap.get? a=some o) (hex:o.ExactSet) (hd:o.data=.set es ep t) (hr:es.toList=L.map (zk1 kd)) (hf:t.fits es.size=true)
  (hk:(L.map (·.2)).Nodup) (ht:∀ p∈L,IsTupleKey kd s.heap p.2 p.1) (hl:w.params.followText "set-order" = true\/t.led=true) (few:L.length<64) {n M:Nat}
  (hw:SetTable.sizeAbove n-1=M) (hM:MaskOk M) (h128:SetTable.sizeAbove n<=128) (hn:L.length*5<M*3) {Q:Unit->Shared->Prop}
  (q:∀ h' L' es' ep' t',Heap.SameBut a s.heap h'->SetP kd h' a L' es' ep' t'->L'.Perm L->Q () { s with heap:=h' }):wpAny (model P w) A (setRelay a n) Q E s:=by
 have hz:=zcO hr
 obtain ⟨t',order,e,hp,T,em,el,_,_⟩:=relaid_ok t (hs:=es.map (·.1)) (wanted:=n) hw hM (by rw [Array.size_map,hz];omega)
 rw [Array.size_map,hz] at hp
 obtain ⟨L2,r1,r2,r3⟩:=zlr hr order hp
 rw [<- r3] at T
 have hz2:(order.filterMap (es[·]?)).size=es.size:=by rw [zcO r1,r2.length_eq,hz]
 rw [setRelay_eq]
 refine wpAny_bind (wpAny_setState_of ho hd hf ?_)
 dsimp only
 refine wp_if_neg (by rw [sizeLine_eq];omega) ?_
 rw [e]
 dsimp only
 refine wpAny_bind (wp_if_neg (by rw [hz2];simp) ?_)
 refine wpAny_pure ?_
 dsimp only
 refine wpAny_storeSet_of ho hd ?_ (by rw [hz2,hz,sizeLine_eq];omega)
 have sb:Heap.SameBut a s.heap (s.heap.update a (Obj.putSet (order.filterMap (es[·]?)) t')):=Heap.SameBut.update ..
 refine q _ L2 (order.filterMap (es[·]?)) (ep+1) t' sb ⟨⟨_,store_at ho hd,hex,rfl⟩,r1,T,(r2.map (·.2)).nodup_iff.mpr hk,fun p hm=>zeO (ht p (r2.mem_iff.mp hm)) ho hd sb,by rw [el];exact hl,?_,by rw [r2.length_eq];exact few⟩ r2
 rw [r2.length_eq,em]
 exact hn
theorem add (lf:Leaf kd) (R:SetP kd s.heap a L es ep t) {x:Addr} {k:List K} (hx:IsTupleKey kd s.heap k x) (hu:A.units<cLine) (hfew:L.length+1<64) {Q:Bool->Shared->Prop}
  (q:∀ b h' L' es' ep' t',Heap.SameBut a s.heap h'->SetP kd h' a L' es' ep' t'->(k∈L.map (·.2)->L'=L)->(k∉L.map (·.2)->L'.Perm ((x,k)::L))->Q b { s with heap:=h' }) :
  wpAny (model P w) A (setAddHashed a (.ref x) (tupleKeyHash kd k)) Q E s:=by
 obtain ⟨o,ho,hex,hd⟩:=R.obj
 have hz:=zcO R.row
 have hrm:=R.rm
 unfold setAddHashed
 refine wpAny_holding ?_
 rw [show (100000:Nat)=99999+1 from rfl,setAddHashedIn_succ]
 refine wpAny_bind (wpAny_setState_of ho hd R.fits ?_)
 dsimp only
 refine wp_if_neg (by simp [byScan,Value.scannable]) ?_
 refine wpAny_bind (seek_add lf R hx hu (fun hm=>?_) fun N hm he hb=>?_)
 ·dsimp only
  exact wpAny_pure (q false s.heap L es ep t (Heap.SameBut.refl a s.heap) R (fun _=>rfl) fun z=>absurd hm z)
 dsimp only
 refine wpAny_bind (wpAny_setState_of ho hd R.fits ?_)
 dsimp only
 obtain ⟨u1,u2,u3,u4,u5,_,_,_,u9⟩:=R.tab.put he hb
 generalize t.put (way t.mask (tupleKeyHash kd k) N)=pt at u1 u3 u4 u5 u9 ⊢
 obtain ⟨t1,p⟩:=pt
 dsimp only at u1 u3 u4 u5 u9 ⊢
 rw [<- u1] at u2 u3
 have hin:(SetTable.insertAt es p (tupleKeyHash kd k,Value.ref x)).toList=(L.take p++(x,k)::L.drop p).map (zk1 kd):=by
  rw [SetTable.toList_insertAt,R.row,List.map_append,List.map_cons,List.map_take,List.map_drop]
 have pm:(L.take p++(x,k)::L.drop p).Perm ((x,k)::L):=by
  have h:(L.take p++(x,k)::L.drop p).Perm ((x,k)::(L.take p++L.drop p)):=List.perm_middle
  rwa [List.take_append_drop] at h
 have hh:(L.map fun p=>tupleKeyHash kd p.2).take p++tupleKeyHash kd k::(L.map fun p=>tupleKeyHash kd p.2).drop p=(L.take p++(x,k)::L.drop p).map fun p=>tupleKeyHash kd p.2:=by
  rw [List.map_append,List.map_cons,List.map_take,List.map_drop]
 rw [hh] at u3
 have nd1:((L.take p++(x,k)::L.drop p).map (·.2)).Nodup:=(pm.map (·.2)).nodup_iff.mpr (List.nodup_cons.mpr ⟨hm,R.key⟩)
 have hlen:=pm.length_eq
 rw [List.length_cons] at hlen
 generalize L.take p++(x,k)::L.drop p=L1 at hin pm u3 nd1 hlen
 have hz1:=zcO hin
 generalize SetTable.insertAt es p (tupleKeyHash kd k,Value.ref x)=es1 at hin hz1 ⊢
 have go:∀ t2:SetTable,t2.place=t1.place->t2.dummies=t1.dummies->t2.mask=t1.mask->t2.led=t1.led ->
   wpAny (model P w) A (do
    storeSet a es1 t2
    if !false && t2.tooFull then setRelay a (SetTable.grown (es.size+1))
    return true) Q E s:=fun t2 e1 e2 e3 e4=>by
  have T2:TabOk t2 (L1.map fun p=>tupleKeyHash kd p.2):=⟨by rw [e1];exact u3.ris,by rw [e2];exact u3.dm,by rw [e1];exact u3.sz,by rw [e3];exact u3.mok,by rw [e1,e3];exact u3.bd,by rw [e1,e3];exact u3.reach⟩
  have fl:t2.fill=L.length+1:=by
   have h:t2.fill=t1.fill:=by unfold SetTable.fill;rw [e1,e2]
   rw [h,u9,List.length_map]
  have full:t2.tooFull=decide (t2.fill*5≥t2.mask*3):=rfl
  refine wpAny_bind (wpAny_storeSet_of ho hd ?_ (by rw [hz1,hlen,sizeLine_eq];omega))
  have sb:Heap.SameBut a s.heap (s.heap.update a (Obj.putSet es1 t2)):=Heap.SameBut.update ..
  have ho1:=store_at (es':=es1) (t':=t2) ho hd
  generalize s.heap.update a (Obj.putSet es1 t2)=h1 at sb ho1 ⊢
  have tup1:∀ p∈L1,IsTupleKey kd h1 p.2 p.1:=fun p hp=>by
   rcases List.mem_cons.mp (pm.mem_iff.mp hp) with e | hp
   ·rw [e];exact zeO hx ho hd sb
   ·exact zeO (R.tup p hp) ho hd sb
  have led1:w.params.followText "set-order" = true\/t2.led=true:=by rw [e4,u5];exact R.led
  have hmask:t2.mask=t.mask:=e3.trans u4
  by_cases hf:t2.tooFull=true
  ·have h5:(L.length+1)*5≥t.mask*3:=by
    rw [full,decide_eq_true_eq,fl,hmask] at hf
    exact hf
   have which:(t.mask=7/\L.length=4)\/(t.mask=31/\L.length=18):=by
    rcases R.tab.mok with e | e | e
    ·left;rw [e] at h5 hrm;exact ⟨e,by omega⟩
    ·right;rw [e] at h5 hrm;exact ⟨e,by omega⟩
    ·exfalso;rw [e] at h5;omega
   have fits1:t2.fits es1.size=true:=by
    simp only [SetTable.fits,fl,Bool.and_eq_true,beq_iff_eq,decide_eq_true_eq]
    refine ⟨by rw [T2.sz,List.length_map,hz1],?_⟩
    rw [hmask]
    rcases which with ⟨x1,x2⟩ | ⟨x1,x2⟩<;>omega
   dsimp only
   refine wp_if_pos (by simp [hf]) (wpAny_bind ?_)
   rw [hz]
   have run:∀ M,SetTable.sizeAbove (SetTable.grown (L.length+1))-1=M->MaskOk M->SetTable.sizeAbove (SetTable.grown (L.length+1))<=128->(L.length+1)*5<M*3 ->
     wpAny (model P w) A (setRelay a (SetTable.grown (L.length+1))) (fun _ s'=>wpAny (model P w) A (pure true) Q E s') E { s with heap:=h1 }:=fun M m1 m2 m3 m4 =>
    lay lf (s:={ s with heap:=h1 }) ho1 hex rfl hin fits1 nd1 tup1 led1 (by rw [hlen];exact hfew) m1 m2 m3 (by rw [hlen];exact m4) fun h2 L2 es2 ep2 t3 sb2 R2 pm2 =>
     wpAny_pure (q true h2 L2 es2 ep2 t3 (sb.trans sb2) R2 (fun z=>absurd z hm) fun _=>pm2.trans pm)
   rcases which with ⟨_,x2⟩ | ⟨_,x2⟩
   ·exact run 31 (by rw [x2,size_20]) (.inr (.inl rfl)) (by rw [x2,size_20];decide) (by omega)
   ·exact run 127 (by rw [x2,size_76]) (.inr (.inr rfl)) (by rw [x2,size_76];decide) (by omega)
  ·dsimp only
   refine wp_if_neg (by simp [hf]) ?_
   refine wpAny_pure (q true h1 L1 es1 (ep+1) t2 sb ⟨⟨_,ho1,hex,rfl⟩,hin,T2,nd1,tup1,led1,?_,by rw [hlen];exact hfew⟩ (fun z=>absurd z hm) fun _=>pm)
   rw [full,decide_eq_true_eq,fl] at hf
   rw [hlen]
   omega
 by_cases hpl:t1.plain=true
 ·refine wp_if_pos hpl (wpAny_bind (by_value lf hx fun b=>?_))
  cases b
  ·exact go { t1 with plain:=false } rfl rfl rfl rfl
  ·exact go t1 rfl rfl rfl rfl
 ·exact wp_if_neg hpl (wpAny_bind (wpAny_pure (go t1 rfl rfl rfl rfl)))
end
end Ts2
end Mp
namespace Mp
namespace Ts2
open PySem L2 PyProof.Rows
open PySem.Sem (wp)
def Gat {K:Type} (ks:List (Addr × List K)) (i:Nat) (L:List (Addr × List K)):Prop :=
 (∀ p∈L,p∈ks.take i)/\(∀ p∈ks.take i,p.2∈L.map (·.2))/\L.length<=i
theorem Gat.next {K:Type} {ks L L':List (Addr × List K)} {i:Nat} {p:Addr × List K} (g:Gat ks i L) (hp:ks[i]? = some p)
  (h:(p.2∈L.map (·.2)/\L'=L)\/L'.Perm (p::L)):Gat ks (i+1) L':=by
 obtain ⟨g1,g2,g3⟩:=g
 have e:ks.take (i+1)=ks.take i++[p]:=by rw [List.take_add_one,hp];rfl
 unfold Gat
 rw [e]
 rcases h with ⟨h1,rfl⟩ | pm
 ·refine ⟨fun q hq=>List.mem_append_left _ (g1 q hq),fun q hq=>?_,Nat.le_succ_of_le g3⟩
  rcases List.mem_append.mp hq with hq | hq
  ·exact g2 q hq
  ·rw [List.mem_singleton.mp hq];exact h1
 ·refine ⟨fun q hq=>?_,fun q hq=>?_,by rw [pm.length_eq];exact Nat.succ_le_succ g3⟩
  ·rcases List.mem_cons.mp (pm.mem_iff.mp hq) with z | z
   ·rw [z];simp
   ·exact List.mem_append_left _ (g1 q z)
  ·refine ((pm.map (·.2)).mem_iff).mpr ?_
   rw [List.map_cons]
   rcases List.mem_append.mp hq with hq | hq
   ·exact List.mem_cons_of_mem _ (g2 q hq)
   ·rw [List.mem_singleton.mp hq];exact List.mem_cons_self
section
variable {P:Program} {w:World} {K:Type} [DecidableEq K] {kd:KeyKind P w K} {A:Around} {E:Value->Shared->Prop} {s:Shared}
variable {a:Addr} {L:List (Addr × List K)} {es:Array (Int × Value)} {ep:Nat} {t:SetTable}
theorem SetP.keep {h h':Heap} (R:SetP kd h a L es ep t) (ha:∀ o,h.get? a=some o->h'.get? a=some o) (ht:∀ p∈L,IsTupleKey kd h' p.2 p.1):SetP kd h' a L es ep t :=
 let ⟨o,ho,r⟩:=R.obj;⟨⟨o,ha o ho,r⟩,R.row,R.tab,R.key,ht,R.led,R.rm,R.few⟩
abbrev zf3 (w:World):Obj:={ cls:=.type "set",dict:=none,data:=.set #[] 0 (.fresh 0 0 (!w.params.followText "set-order")) }
theorem setP_new {h:Heap} (ho:h.get? a=some (zf3 w)):SetP kd h a [] #[] 0 (.fresh 0 0 (!w.params.followText "set-order")) where
 obj:=⟨_,ho,⟨rfl,rfl,rfl⟩,rfl⟩
 row:=rfl
 tab:=⟨List.Pairwise.nil,rfl,rfl,.inl rfl,fun _ hx=>absurd hx List.not_mem_nil,fun _ _ _ hi=>by simp at hi⟩
 key:=List.nodup_nil
 tup:=fun _ hp=>nomatch hp
 led:=by
  show _\/(!w.params.followText "set-order")=true
  cases w.params.followText "set-order" <;> simp
 rm:=(by decide:0*5<7*3)
 few:=(by decide:0<64)
theorem zhJ (lf:Leaf kd) {I:Addr} {fp wr:List Addr} {G:Array GenState->Array GenState->Prop} {n:Nat} {Pv:Nat->Value->Prop} {St:Nat->Shared->Prop} {R:Result->Shared->Prop}
  (W:WalksS P w A.in1 I fp wr G n Pv St) (D:Addr) (hD:D∉fp) (ks:List (Addr × List K)) (hn:n=ks.length) (hfew:ks.length<64) (hval:∀ i v,Pv i v->∃ p,ks[i]? = some p/\v=.ref p.1)
  (h0:Heap) (hk:∀ p∈ks,IsTupleKey kd h0 p.2 p.1) (hD0:h0.get? D=none) (hw0:∀ b∈wr,h0.get? b=none) (hu:A.in1.units<cLine) :
  ∀ (m i:Nat) (s:Shared),n-i=m->i<=n->St i s->(∀ b o,h0.get? b=some o->s.heap.get? b=some o)->(∃ L es ep t,SetP kd s.heap D L es ep t/\Gat ks i L) ->
   (∀ s' L es ep t,Moved (D::wr) G s s'->SetP kd s'.heap D L es ep t->Gat ks n L->(∀ b o,h0.get? b=some o->s'.heap.get? b=some o)->R (.ok (.ret .none)) s') ->
   codeAny (model P w) A (.builtin "set.update.loop" ⟨[.ref D,.ref I],[]⟩) R s:=by
 have nw:D∉wr:=fun h=>hD (W.sub _ h)
 have sub:∀ b∈wr,b∈D::wr:=fun b hb=>List.mem_cons_of_mem _ hb
 have old:∀ {s s':Shared},Moved wr G s s'->(∀ b o,h0.get? b=some o->s.heap.get? b=some o)->∀ b o,h0.get? b=some o->s'.heap.get? b=some o:=fun mv h b o e =>
  mv.heap b o (fun hb=>by rw [hw0 b hb] at e;cases e) (h b o e)
 intro m
 induction m with
 | zero =>
  intro i s hm hi st hh ⟨L,es,ep,t,T,g⟩ hR
  obtain rfl:i=n:=by omega
  refine codeAny_builtin F.entry_set_update_loop ?_
  rw [Around.under_plainId F.plain_set_update_loop _]
  show wpAny _ A.in1 (pyNext (.ref I) >>= _) _ _ s
  refine wpAny_bind (W.done s _ _ st fun s' mv=>?_)
  show wpAny _ A.in1 (ret Value.none) _ _ s'
  have hh':=old mv hh
  exact wpAny_pure (hR s' L es ep t (mv.mono sub) (T.keep (fun o e=>mv.heap D o nw e) fun p hp=>zen (hk p (List.mem_of_mem_take (g.1 p hp))) hh') g hh')
 | succ m ih =>
  intro i s hm hi st hh ⟨L,es,ep,t,T,g⟩ hR
  have lt:i<n:=by omega
  refine codeAny_builtin F.entry_set_update_loop ?_
  rw [Around.under_plainId F.plain_set_update_loop _]
  show wpAny _ A.in1 (pyNext (.ref I) >>= _) _ _ s
  refine wpAny_bind (W.item i s _ _ lt st fun v s' hP st' mv=>?_)
  obtain ⟨p,hp,rfl⟩:=hval i v hP
  have hh':=old mv hh
  have T':SetP kd s'.heap D L es ep t:=T.keep (fun o e=>mv.heap D o nw e) fun q hq=>zen (hk q (List.mem_of_mem_take (g.1 q hq))) hh'
  have hx:IsTupleKey kd s'.heap p.2 p.1:=zen (hk p (List.mem_of_getElem? hp)) hh'
  show wpAny _ A.in1 (holding [Value.ref p.1] (setAdd D (.ref p.1)) >>= _) _ _ s'
  refine wpAny_bind (wpAny_holding ?_)
  unfold setAdd
  refine wpAny_holding (wpAny_bind (wpAny_pyHash_tuple hu hx ?_))
  refine add lf (s:={ s' with toks:=s'.toks+(p.2.length+1) }) T' hx hu (by have:=g.2.2;omega) fun b h' L' es' ep' t' sb T2 c1 c2=>?_
  have g':Gat ks (i+1) L':=g.next hp (by
   rcases Classical.em (p.2∈L.map (·.2)) with c | c
   ·exact .inl ⟨c,c1 c⟩
   ·exact .inr (c2 c))
  have hh2:∀ b o,h0.get? b=some o->h'.get? b=some o:=fun b o e=>(sb.2 b fun z=>by rw [z,hD0] at e;cases e).trans (hh' b o e)
  refine wpAny_pure ⟨plainId_quiet F.plain_set_update_loop _,ih (i+1) _ (by omega) lt (W.frame _ s' _ _ st' (Nat.le_add_right _ _) fun b hb o e=>?_) hh2 ⟨L',es',ep',t',T2,g'⟩ fun s'' L2 es2 ep2 t2 mv2 T4 g4 hh4=>?_⟩
  ·rw [sb.2 b (fun h:b=D=>hD (by rw [<- h];exact hb))];exact e
  ·refine hR s'' L2 es2 ep2 t2 (Moved.trans W.gtrans ((mv.mono sub).then_heap (Nat.le_add_right _ _) fun b o hb e=>?_) mv2) T4 g4 hh4
   rw [sb.2 b (fun h:b=D=>hb (by rw [h];exact List.mem_cons_self))];exact e
theorem zhr (lf:Leaf kd) {l:Addr} {items:Array Value} (ks:List (Addr × List K)) {Q:Value->Shared->Prop} (hh:A.handled=none) (hl:s.heap.IsTuple l items) (hit:items.toList=ks.map fun p=>Value.ref p.1)
  (hk:∀ p∈ks,IsTupleKey kd s.heap p.2 p.1) (hfew:ks.length<64) (hu:A.units+3<cLine)
  (h:∀ (h':Heap) (tk:Nat) L es ep t,SetP kd h' s.heap.objs.size L es ep t->Gat ks ks.length L->(∀ b o,s.heap.get? b=some o->h'.get? b=some o)->Q (.ref s.heap.objs.size) { s with heap:=h',toks:=tk }) :
  wpAny (model P w) A (call (.type "set") [.ref l]) Q E s:=by
 have isz:items.size=ks.length:=by
  have q:=congrArg List.length hit
  rwa [Array.length_toList,List.length_map] at q
 obtain ⟨c,tl,hmro⟩:=F.called_set.mro
 have hmade:=F.called_set.made
 have hsub:=F.called_set.sub
 refine wpAny_call (codeAny_of_tree ?_)
 show wpAny _ _ (callAny (.type "set") _) _ _ _
 refine wpAny_pure ⟨Code.quiet_builtin _ (by decide +kernel),codeAny_builtin F.entry_type_call ?_⟩
 rw [Around.under_plain (weight_type_call_type "set" [.ref l] []) rfl]
 have h1:=F.called_set.notType
 have h2:=F.called_set.canCreate
 have hct:=F.typeCall_set_1 (.ref l)
 repeat (any_goals (first | assumption | wp_step))
 generalize eN:({ cls:=.type "set",dict:=none,data:=.set #[] 0 (.fresh 0 0 (!w.params.followText "set-order")) }:Obj)=new
 refine codeAny_mono (code_set_led1 (.ref l) (E:=E) (Q₁:=fun obj s₁=>obj=.ref s.heap.objs.size/\s₁={ s with heap:=s.heap.push new }) ⟨rfl,by rw [<- eN]⟩) fun r s₁ hr=>?_
 cases r with
 | error e=>exact hr
 | ok fl =>
  cases fl with
  | ret obj =>
   obtain ⟨rfl,rfl⟩:=hr
   have hS:(s.heap.push new).get? s.heap.objs.size=some new:=Heap.get?_push_size _ (by rw [<- eN];rfl)
   have hT:Shared.TypeIs { s with heap:=s.heap.push new } (.ref s.heap.objs.size) "set" := ⟨_,hS,by rw [<- eN]⟩
   have hli:=F.called_set.init.lookup
   have hbi:=F.called_set.init.bind (.ref s.heap.objs.size)
   repeat (any_goals (first | assumption | wp_step))
   refine codeAny_mono (codeAny_call_builtin (R:=wants (fun r s₂=>r=.none/\∃ h' tk L es ep t,s₂={ s with heap:=h',toks:=tk }/\SetP kd h' s.heap.objs.size L es ep t/\Gat ks ks.length L /\
     (∀ b o,s.heap.get? b=some o->h'.get? b=some o)) E) F.called_set.init.plain F.entry_set_init (check_set_init_1 hT ?_)) fun r₂ s₂ hr₂=>?_
   ·obtain ⟨ol,hol,hcl,nl,hdl⟩:=hl
    obtain ⟨ocls,odict,odata,oslots⟩:=ol
    simp only at hcl hdl
    subst hcl;subst hdl
    have hol':(s.heap.push new).get? l=some { cls:=.type "tuple",dict:=odict,data:=.seq items nl,slots:=oslots }:=Heap.get?_push_of_some _ hol
    have hsls:=F.sub_tuple_set
    have hslf:=F.sub_tuple_frozenset
    have hne:(Value.type "tuple" == Value.type "dict")=false:=by decide
    have hl1:(s.heap.push new).IsTuple l items:=⟨_,hol',rfl,nl,rfl⟩
    subst eN
    unfold Builtin.«set.__init__» noKeywords Builtin.Frozenset.updateFrom
    generalize hPI:pyIter=PI
    wp_walk
    subst hPI
    refine wpAny_pyIter_tuple hl1 ?_
    refine wpAny_bind (wpAny_runValue ?_)
    have hlS:l<s.heap.objs.size:=Heap.lt_size hol
    have hh3:A.in1.in1.in1.handled=none:=by simp [hh]
    have sz:(s.heap.push (zf3 w)).objs.size=s.heap.objs.size+1:=Heap.size_push ..
    have nI:l≠(s.heap.push (zf3 w)).objs.size:=by rw [sz];exact Nat.ne_of_lt (Nat.lt_succ_of_lt hlS)
    have nS:s.heap.objs.size∉[(s.heap.push (zf3 w)).objs.size,l]:=by
     rw [sz];simp only [List.mem_cons,List.not_mem_nil,or_false,not_or]
     exact ⟨Nat.ne_of_lt (Nat.lt_succ_self _),Nat.ne_of_gt hlS⟩
    have none_of:∀ b,s.heap.objs.size<=b->s.heap.get? b=none:=fun b hb=>by
     cases q:s.heap.get? b with
     | none=>rfl
     | some o=>exact absurd (Nat.lt_of_lt_of_le (Heap.lt_size q) hb) (Nat.lt_irrefl _)
    have val:∀ (i:Nat) (v:Value),items[i]? = some v->∃ p,ks[i]? = some p/\v=.ref p.1:=fun i v hv=>by
     have q:items.toList[i]? = some v:=by rw [Array.getElem?_toList];exact hv
     rw [hit,List.getElem?_map] at q
     obtain ⟨p,hp,e⟩:=Option.map_eq_some_iff.mp q
     exact ⟨p,hp,e.symm⟩
    refine zhJ lf ((Walks.tuple hh3 _ l nI items).toS) s.heap.objs.size nS ks isz hfew val s.heap hk (none_of _ (Nat.le_refl _)) (fun b hb=>none_of b (by rw [List.mem_singleton.mp hb,sz];exact Nat.le_succ _)) hu
     (items.size-0) 0 _ (by omega) (Nat.zero_le _) ⟨⟨_,Heap.get?_push_size _ rfl,rfl,rfl⟩,(hl1.push _)⟩ (fun b o e=>Heap.get?_push_of_some _ (Heap.get?_push_of_some _ e)) ?hStart ?hEnd
    case hStart=>exact ⟨[],#[],0,_,setP_new (Heap.get?_push_of_some _ hS),fun _ h=>absurd h List.not_mem_nil,fun _ h=>by simp at h,Nat.le_refl 0⟩
    case hEnd =>
     intro s' L es ep t hm hS' g' hkp
     obtain ⟨h',g2,d',tk',os'⟩:=s'
     cases (show g2=s.gens from hm.gens)
     cases (show d'=s.drawn from hm.drawn)
     cases (show os'=s.os from hm.os)
     show wpAny _ _ _ _ _ _
     refine wpAny_pure ?_
     show wpAny _ _ (ret Value.none) _ _ _
     rw [isz] at g'
     exact wpAny_pure ⟨rfl,h',tk',L,es,ep,t,rfl,hS',g',hkp⟩
   ·cases r₂ with
    | error e=>exact hr₂
    | ok fl =>
     cases fl with
     | ret z =>
      obtain ⟨rfl,h',tk,L,es,ep,t,rfl,q1,q2,q3⟩:=hr₂
      repeat (any_goals (first | assumption | wp_step))
      exact h h' tk L es ep t q1 q2 q3
     | _=>exact hr₂.elim
  | _=>exact hr.elim
end
end Ts2
end Mp
namespace Mp
namespace Ts2
open PySem L2 PyProof.Rows
open PySem.W (EachIs)
open PySem.Sem (wp)
abbrev TxI:=Str × Int
abbrev zkc (p:Addr × TxI):Addr × List Key:=(p.1,[.inr p.2.1,.inl p.2.2])
def ltP (p q:TxI):Prop:=ltS p.1 q.1\/(p.1=q.1/\p.2<q.2)
instance (p q:TxI):Decidable (ltP p q):=by unfold ltP;exact inferInstance
theorem zf5 {p:TxI}:¬ ltP p p:=fun h=>h.elim ltS_irr fun h=>absurd h.2 (Int.lt_irrefl _)
theorem ziJ {p q r:TxI} (h:ltP p q) (k:ltP q r):ltP p r:=by
 rcases h with h | ⟨h1,h2⟩
 ·rcases k with k | ⟨k1,k2⟩
  ·exact .inl (ltS_tr h k)
  ·exact .inl (k1 ▸ h)
 ·rcases k with k | ⟨k1,k2⟩
  ·exact .inl (h1 ▸ k)
  ·exact .inr ⟨h1.trans k1,Int.lt_trans h2 k2⟩
theorem zh0 (p q:TxI):ltP p q\/p=q\/ltP q p:=by
 rcases ltS_tri p.1 q.1 with h | h | h
 ·exact .inl (.inl h)
 ·rcases Int.lt_trichotomy p.2 q.2 with k | k | k
  ·exact .inl (.inr ⟨h,k⟩)
  ·exact .inr (.inl (Prod.ext h k))
  ·exact .inr (.inr (.inr ⟨h.symm,k⟩))
 ·exact .inr (.inr (.inl h))
abbrev zkf (p:Addr × TxI):PyData:=.tuple [.str p.2.1,.int p.2.2]
theorem zlV (p q:Addr × TxI):PySem.W.dataLt (zkf p) (zkf q)=decide (ltP p.2 q.2):=by
 rw [PySem.W.dataLt_pair (by simp [PySem.W.alike]) (by simp [PySem.W.alike]),PySem.W.dataLt_int,PySem.W.dataLt_str]
 simp only [PyData.eqv,beq_iff_eq]
 unfold ltP ltS
 by_cases h1:p.2.1=q.2.1
 ·have hn:¬ q.2.1.cps.toList<q.2.1.cps.toList:=List.lt_irrefl _
  by_cases h2:p.2.2=q.2.2<;>simp [h1,h2,hn]
 ·simp [h1]
theorem zdy (p q:Addr × TxI):PySem.W.dataLe false zkf p q=decide (¬ ltP q.2 p.2):=by
 show (!PySem.W.dataLt (zkf q) (zkf p))=_
 rw [zlV];simp
section
variable {P:Program} {w:World} {A:Around} {E:Value->Shared->Prop} {s:Shared}
theorem leafMix (P:Program) (w:World):Leaf (mixKind P w) where
 cls:=fun n h=>by rcases keyIs_shape h with ⟨i,t,rfl,rfl⟩ | ⟨x,t,rfl,rfl⟩<;>cases n<;>rfl
 hsh:=fun n h=>by
  rcases keyIs_shape h with ⟨i,t,rfl,rfl⟩ | ⟨x,t,rfl,rfl⟩
  ·exact ⟨true,by cases n<;>rfl⟩
  ·exact ⟨false,by cases n<;>rfl⟩
theorem zgR {α β:Type} {f:α->β}:∀ {l:List β} {M:List α},l.Perm (M.map f)->∃ M1:List α,l=M1.map f/\M1.Perm M
 | [],M,h=>by
  have:=h.length_eq
  rw [List.length_map] at this
  cases M with
  | nil=>exact ⟨[],rfl,.refl _⟩
  | cons m M=>simp at this
 | v::l,M,h=>by
  obtain ⟨m,hm,rfl⟩:=List.mem_map.mp (h.mem_iff.mp List.mem_cons_self)
  obtain ⟨a,b,rfl⟩:=List.append_of_mem hm
  have h2:(f m::l).Perm (f m::(a++b).map f):=h.trans (by rw [List.map_append,List.map_cons,List.map_append];exact List.perm_middle)
  obtain ⟨M1,e,p⟩:=zgR (List.perm_cons _ |>.mp h2)
  exact ⟨m::M1,by rw [e,List.map_cons],(p.cons m).trans List.perm_middle.symm⟩
theorem zjs {h:Heap} {b:Addr} {p:TxI} (x:IsTupleKey (mixKind P w) h [.inr p.1,.inl p.2] b):Reads h (.ref b) (.tuple [.str p.1,.int p.2]) []:=by
 obtain ⟨o,its,n,ho,hc,hd,hi⟩:=x
 generalize hl:its.toList=l at hi
 cases hi with
 | cons h1 h2 =>
  cases h2 with
  | cons h2 h3 =>
   cases h3
   rcases keyIs_shape (k:=.inr p.1) h1 with ⟨_,_,e,_⟩ | ⟨x,t,e,rfl⟩
   ·cases e
   ·cases e
    rcases keyIs_shape (k:=.inl p.2) h2 with ⟨i,t2,e,rfl⟩ | ⟨_,_,e,_⟩
    ·cases e
     refine Reads.tuple (as:=[]++([]++[])) ho hc hd ?_
     rw [hl]
     exact .cons (.str _ t) (.cons (.int _ t2) .nil)
    ·cases e
variable {a:Addr} {M:List (Addr × TxI)} {es:Array (Int × Value)} {ep:Nat} {t:SetTable}
theorem zck {α:Type} {R:Value->α->Prop} {f:α->Value}:∀ {M:List α},(∀ m∈M,R (f m) m)->EachIs R (M.map f) M
 | [],_=>.nil
 | m::M,h=>.cons (h m List.mem_cons_self) (zck fun x hx=>h x (List.mem_cons_of_mem _ hx))
theorem zg9 {M:List (Addr × TxI)}:∀ {us:List Value},EachIs (fun u (b:Addr × TxI)=>u=.ref b.1) us M->us=M.map fun b=>Value.ref b.1
 | _,.nil=>rfl
 | _,.cons h t=>by rw [h,zg9 t];rfl
theorem zhN (R:SetP (mixKind P w) s.heap a (M.map zkc) es ep t) (hh:A.handled=none) (hu:A.units+16<cLine) {Q:Value->Shared->Prop}
  (hQ:∀ s' p (out:Array Value) (c:Nat) (ys:List (Addr × TxI)),(∀ b o,s.heap.get? b=some o->s'.heap.get? b=some o)->s'.gens=s.gens->s'.os=s.os->s.heap.objs.size<=p ->
   s'.heap.get? p=some (seqObj "list" out c)->out.toList=ys.map (fun b=>Value.ref b.1)->ys.Perm M->(ys.map (·.2)).Pairwise ltP->Q (.ref p) s') :
  wpAny (model P w) A (call (.builtin "sorted") [.ref a]) Q E s:=by
 obtain ⟨o,ho,hex,hd⟩:=R.obj
 have hfew:=R.few
 have hz:=zcO R.row
 rw [List.length_map] at hfew hz
 refine Calls.call_function_entry kind_sorted plain_sorted entry_sorted (args_sorted1 _) ?_
 unfold Builtin.«sorted»
 refine wpAny_bind (m:=checkCount "sorted" 1 1 _) (wpAny_pure ?_)
 refine wpAny_bind (collect_set (A:=A.in1) hh ⟨o,ho,hex.1,hd⟩ R.fits (by unfold scanBound;omega) R.tab.ris R.led fun s1 vs k1 hz1 g1 o1 pm=>?_)
 have pm2:vs.Perm (M.map fun b=>Value.ref b.1):=by
  rw [R.row,List.map_map,List.map_map] at pm
  exact pm
 obtain ⟨M1,rfl,pM⟩:=zgR pm2
 have hl:M1.length<64:=by rw [pM.length_eq];exact hfew
 refine wpAny_bind (wpAny_newList ?_ (by rw [List.length_map,sizeLine_eq];omega))
 have hoL:(s1.heap.push (seqObj "list" (M1.map fun b=>Value.ref b.1).toArray 0)).get? s1.heap.objs.size=some (seqObj "list" (M1.map fun b=>Value.ref b.1).toArray 0):=Heap.get?_push_size _ rfl
 have rd:∀ b∈M1,Reads (s1.heap.push (seqObj "list" (M1.map fun b=>Value.ref b.1).toArray 0)) (.ref b.1) (zkf b) []:=fun b hb =>
  zjs (zen (R.tup (zkc b) (List.mem_map.mpr ⟨b,pM.mem_iff.mp hb,rfl⟩)) fun c u e=>Heap.get?_push_of_some _ (k1 c u e))
 refine wpAny_bind (wpAny_holding (PySem.W.list_sort_data (s:={ s1 with heap:=s1.heap.push (seqObj "list" (M1.map fun b=>Value.ref b.1).toArray 0) }) (enc:=zkf) (bs:=M1) hoL
  (zck (R:=fun u (b:Addr × TxI)=>u=.ref b.1) fun b _=>rfl) (zck fun b hb=>⟨[],rd b hb,by simp⟩) (PySem.W.AllAlike.of fun b b'=>by simp [PySem.W.alike,PySem.W.alikeAll]) (PySem.W.Sortable.tuples fun b=>⟨_,_,rfl⟩)
  (by rw [sizeLine_eq];omega) (fun b _=>?_) fun out hol heo=>?_))
 ·have e:(zkf b).depth<=8:=by simp [PyData.depth,PyData.depthAll]
  show A.units+1+1+_<_
  omega
 ·obtain ⟨c,hc⟩:=sortedHeap_at (vs:=M1.map fun b=>Value.ref b.1) (out:=out.toArray) hoL
  have eo:=zg9 heo
  have py:(M1.mergeSort (PySem.W.dataLe false zkf)).Perm M1:=List.mergeSort_perm _ _
  have pw:(M1.mergeSort (PySem.W.dataLe false zkf)).Pairwise fun p q=>¬ ltP q.2 p.2:=by
   have:=List.pairwise_mergeSort (le:=PySem.W.dataLe false zkf) (fun x y z h1 h2=>by
     rw [zdy,decide_eq_true_eq] at h1 h2 ⊢
     intro h3
     rcases zh0 x.2 y.2 with q | q | q
     ·exact h2 (ziJ h3 q)
     ·exact h2 (q ▸ h3)
     ·exact h1 q) (fun x y=>by
     rw [zdy,zdy,Bool.or_eq_true,decide_eq_true_eq,decide_eq_true_eq]
     rcases Classical.em (ltP y.2 x.2) with q | q
     ·exact .inr fun z=>zf5 (ziJ q z)
     ·exact .inl q) M1
   exact this.imp fun h=>by rw [zdy,decide_eq_true_eq] at h;exact h
  refine wpAny_pure ⟨_,rfl,hQ _ s1.heap.objs.size out.toArray c _ (fun b u e=>?_) g1 o1 hz1 hc (by simpa using eo) (py.trans pM) ?_⟩
  ·have q:=k1 b u e
   have hlt:=Heap.lt_size q
   show (sortedHeap (s1.heap.push (seqObj "list" (M1.map fun b=>Value.ref b.1).toArray 0)) s1.heap.objs.size (M1.map fun b=>Value.ref b.1) out.toArray).get? b=some u
   rw [sortedHeap_old (Nat.ne_of_lt hlt) (by rw [size_push'];exact Nat.lt_succ_of_lt hlt)]
   exact Heap.get?_push_of_some _ q
  ·have nd:((M1.mergeSort (PySem.W.dataLe false zkf)).map (·.2)).Nodup:=by
    refine ((py.trans pM).map (·.2)).nodup_iff.mpr ?_
    have hk:=R.key
    rw [List.map_map] at hk
    have:(M.map ((·.2) ∘ zkc))=(M.map (·.2)).map fun q:TxI=>([.inr q.1,.inl q.2]:List Key):=by rw [List.map_map];rfl
    rw [this] at hk
    exact List.Pairwise.of_map _ (fun _ _ hne e=>hne (by rw [e])) hk
   rw [List.pairwise_map]
   refine (pw.and (List.pairwise_map.mp nd)).imp fun {p q} h=>?_
   rcases zh0 p.2 q.2 with z | z | z
   ·exact z
   ·exact absurd z h.2
   ·exact absurd z h.1
end
end Ts2
end Mp
namespace Mp
open PySem L2 PyProof.Rows
open Ts2
theorem zgb (i k:TxI):∀ ns:List TxI,k∈zga i ns↔k=i\/k∈ns
 | []=>by simp [zga]
 | j::r=>by
  unfold zga
  split
  ·simp
  ·split
   ·rename_i e;subst e;simp
   ·rw [List.mem_cons,zgb i k r,List.mem_cons]
    constructor
    ·rintro (h | h | h)
     ·exact .inr (.inl h)
     ·exact .inl h
     ·exact .inr (.inr h)
    ·rintro (h | h | h)
     ·exact .inr (.inl h)
     ·exact .inl h
     ·exact .inr (.inr h)
theorem zdJ (k:TxI):∀ ns:List TxI,k∈zaU ns↔k∈ns
 | []=>by simp [zaU]
 | i::r=>by
  show k∈zga i (zaU r)↔_
  rw [zgb,zdJ k r,List.mem_cons]
theorem zlw (i:TxI):∀ ns:List TxI,ns.Pairwise ltP->(zga i ns).Pairwise ltP
 | [],_=>by simp [zga]
 | j::r,h=>by
  rw [List.pairwise_cons] at h
  unfold zga
  split
  ·rename_i hij
   refine List.pairwise_cons.mpr ⟨fun y hy=>?_,List.pairwise_cons.mpr h⟩
   rcases List.mem_cons.mp hy with rfl | hy
   ·exact hij
   ·exact ziJ hij (h.1 y hy)
  ·split
   ·exact List.pairwise_cons.mpr h
   ·rename_i h1 h2
    refine List.pairwise_cons.mpr ⟨fun y hy=>?_,zlw i r h.2⟩
    rcases (zgb i y r).mp hy with rfl | hy
    ·rcases zh0 y j with q | q | q
     ·exact absurd q h1
     ·exact absurd q h2
     ·exact q
    ·exact h.1 y hy
theorem zgF:∀ ns:List TxI,(zaU ns).Pairwise ltP
 | []=>by simp [zaU]
 | i::r=>zlw i _ (zgF r)
theorem zis:∀ {a b:List TxI},a.Pairwise ltP->b.Pairwise ltP->(∀ k,k∈a↔k∈b)->a=b
 | [],[],_,_,_=>rfl
 | [],y::ys,_,_,h=>absurd ((h y).mpr List.mem_cons_self) (by simp)
 | x::xs,[],_,_,h=>absurd ((h x).mp List.mem_cons_self) (by simp)
 | x::xs,y::ys,ha,hb,h=>by
  rw [List.pairwise_cons] at ha hb
  have exy:x=y:=by
   have h1:=(h x).mp List.mem_cons_self
   have h2:=(h y).mpr List.mem_cons_self
   rcases List.mem_cons.mp h1 with e | h1
   ·exact e
   ·rcases List.mem_cons.mp h2 with e | h2
    ·exact e.symm
    ·exact absurd (ziJ (hb.1 x h1) (ha.1 y h2)) zf5
  subst exy
  rw [zis ha.2 hb.2 fun k=>?_]
  constructor
  ·intro hk
   rcases List.mem_cons.mp ((h k).mp (List.mem_cons_of_mem _ hk)) with e | h'
   ·subst e;exact absurd (ha.1 k hk) zf5
   ·exact h'
  ·intro hk
   rcases List.mem_cons.mp ((h k).mpr (List.mem_cons_of_mem _ hk)) with e | h'
   ·subst e;exact absurd (hb.1 k hk) zf5
   ·exact h'
def zmj (P:Program) (w:World) (h:Heap) (a:Addr) (M:List (Addr × TxI)):Prop :=
 ∃ (es:Array (Int × Value)) (ep:Nat) (t:SetTable),(∃ o,h.get? a=some o/\o.ExactSet/\o.data=.set es ep t)/\es.toList=(M.map zkc).map (zk1 (mixKind P w))/\TabOk t ((M.map zkc).map fun p=>tupleKeyHash (mixKind P w) p.2) /\
  ((M.map zkc).map (·.2)).Nodup/\(w.params.followText "set-order" = true\/t.led=true)/\(M.map zkc).length*5<t.mask*3/\(M.map zkc).length<64
def zj2 (P:Program) (w:World) (a:Addr) (M:List (Addr × TxI)):HO:=.ext fun h=>zmj P w h a M
theorem setP0_of {P:Program} {w:World} {h:Heap} {a:Addr} {M:List (Addr × TxI)} {es ep t} (R:SetP (mixKind P w) h a (M.map zkc) es ep t):zmj P w h a M :=
 ⟨es,ep,t,R.obj,R.row,R.tab,R.key,R.led,R.rm,R.few⟩
theorem zjo {P:Program} {w:World} {h:Heap} {a:Addr} {M:List (Addr × TxI)} (R:zmj P w h a M) (ht:∀ p∈M,IsTupleKey (mixKind P w) h [.inr p.2.1,.inl p.2.2] p.1):∃ es ep t,SetP (mixKind P w) h a (M.map zkc) es ep t :=
 let ⟨es,ep,t,h1,h2,h3,h4,h5,h6,h7⟩:=R
 ⟨es,ep,t,h1,h2,h3,h4,fun p hp=>by obtain ⟨m,hm,rfl⟩:=List.mem_map.mp hp;exact ht m hm,h5,h6,h7⟩
theorem zkT {P:Program} {w:World} {H:Hp} {h:Heap} {a:Addr} {M:List (Addr × TxI)} (R:zmj P w h a M):ObjOk P w H h a (zj2 P w a M):=by
 have ⟨es,ep,t,⟨o,ho,r⟩,q⟩:=R
 refine ⟨R,⟨o,ho⟩,fun h1 h2 p k=>?_⟩
 have ⟨es',ep',t',⟨o',ho',r'⟩,q'⟩:=p
 exact ⟨es',ep',t',⟨o',k o' ho',r'⟩,q'⟩
section
variable {X:Cx}
theorem tiKey {pins:List (Addr × Obj)} {sg:L2.St} {H:Hp} {s:Shared} {b:Addr} {p:TxI} (I:L2.Inv X pins sg H s) (h:SqT X.K H b [V.str p.1,V.int p.2]):IsTupleKey (mixKind X.prog X.w) s.heap [.inr p.1,.inl p.2] b:=by
 obtain ⟨its,r,⟨o,ho,hc,n,hd⟩,_⟩:=I.tuple h
 refine ⟨o,its.toArray,n,ho,hc,hd,?_⟩
 cases r with
 | cons r1 r2 =>
  cases r2 with
  | cons r2 r3 =>
   cases r3
   obtain ⟨t1,rfl⟩:=r1
   obtain ⟨t2,rfl⟩:=r2
   exact .cons (keyIs_str p.1 t1) (.cons (keyIs_int p.2 t2) .nil)
theorem tiRefs:∀ {ks:List (Addr × TxI)} {us:List Value},Vals (ks.map fun p=>V.ref p.1) us->us=ks.map fun p=>Value.ref p.1
 | [],_,.nil=>rfl
 | p::ks,_,.cons r t=>by cases r;rw [tiRefs t]<;>rfl
theorem tiVals:∀ (ks:List (Addr × TxI)),Vals (ks.map fun p=>V.ref p.1) (ks.map fun p=>Value.ref p.1)
 | []=>.nil
 | p::ks=>.cons rfl (tiVals ks)
theorem tiSub {α β:Type} {f:α->β} {N:List α}:∀ {L:List β},(∀ x∈L,x∈N.map f)->∃ M:List α,L=M.map f/\∀ m∈M,m∈N
 | [],_=>⟨[],rfl,fun _ h=>absurd h List.not_mem_nil⟩
 | x::L,h=>by
  obtain ⟨m,hm,rfl⟩:=List.mem_map.mp (h x List.mem_cons_self)
  obtain ⟨M,rfl,hs⟩:=tiSub fun y hy=>h y (List.mem_cons_of_mem _ hy)
  exact ⟨m::M,rfl,fun q hq=>(List.mem_cons.mp hq).elim (fun e=>e ▸ hm) (hs q)⟩
def rSetP (K:PySem.W.Frag) (P:Program) (w:World):List V->Hp->VK->Prop:=fun xs H Q=>∃ (l:Addr) (ks:List (Addr × TxI)),xs=[V.ref l]/\SqT K H l (ks.map fun p=>V.ref p.1)/\(∀ p∈ks,SqT K H p.1 [V.str p.2.1,V.int p.2.2])/\ks.length<64 /\
 ∀ a M,H a=none->(∀ p∈M,p∈ks)->(∀ p∈ks,p.2∈M.map (·.2))->Q (.ref a) (upd H a (zj2 P w a M))
theorem cr_setP (hc:X.calm=true) (hu:X.A.units+64<cLine):CallR X (.type "set") (rSetP X.K X.prog X.w):=by
 intro pins s sg H xs us Q I r h
 obtain ⟨l,ks,rfl,hl,hk,hf,q⟩:=h
 rw [Vals.ref1 r]
 obtain ⟨its,rv,pl,hz⟩:=I.tuple hl
 refine zhr (leafMix X.prog X.w) (ks.map zkc) (I.ok.hd hc) pl (by simpa [Function.comp_def] using tiRefs rv) (fun p hp=>?_) (by rw [List.length_map];exact hf) (by omega) fun h' tk L es ep t R g k=>?_
 ·obtain ⟨m,hm,rfl⟩:=List.mem_map.mp hp
  exact tiKey I (hk m hm)
 ·obtain ⟨M,rfl,hs⟩:=tiSub fun x hx=>List.mem_of_mem_take (g.1 x hx)
  refine ⟨.ref s.heap.objs.size,upd H s.heap.objs.size (zj2 X.prog X.w s.heap.objs.size M),I.laid (t':=tk) k (Nat.le_refl _) (zkT (setP0_of R)),rfl,q _ M (I.hok.fresh (Nat.le_refl _)) hs fun p hp=>?_⟩
  have h1:=g.2.1 (zkc p) (by rw [List.take_length];exact List.mem_map.mpr ⟨p,hp,rfl⟩)
  rw [List.map_map] at h1
  obtain ⟨m,hm,e⟩:=List.mem_map.mp h1
  refine List.mem_map.mpr ⟨m,hm,?_⟩
  have e2:([.inr m.2.1,.inl m.2.2]:List Key)=[.inr p.2.1,.inl p.2.2]:=e
  injection e2 with a1 a2
  injection a2 with a2 _
  exact Prod.ext (Sum.inr.inj a1) (Sum.inl.inj a2)
def rSortP (K:PySem.W.Frag) (P:Program) (w:World):List V->Hp->VK->Prop:=fun vs H Q=>∃ (a:Addr) (M:List (Addr × TxI)),vs=[V.ref a]/\H a=some (zj2 P w a M)/\(∀ p∈M,SqT K H p.1 [V.str p.2.1,V.int p.2.2]) /\
 ∀ (ys:List (Addr × TxI)) (p:Addr),ys.Perm M->(ys.map (·.2)).Pairwise ltP->H p=none->Q (.ref p) (upd H p (.lst (ys.map fun b=>V.ref b.1)))
theorem cr_sortP (hc:X.calm=true) (hu:X.A.units+64<cLine):CallR X (.builtin "sorted") (rSortP X.K X.prog X.w):=by
 intro pins s sg H xs us Q I r h
 obtain ⟨a,M,rfl,ha,hk,q⟩:=h
 obtain rfl:=Vals.ref1 r
 have R0:zmj X.prog X.w s.heap a M:=(I.hok a _ ha).1
 obtain ⟨es,ep,t,R⟩:=zjo R0 fun p hp=>tiKey I (hk p hp)
 have hfew:=R.few
 rw [List.length_map] at hfew
 refine zhN R (I.ok.hd hc) (by omega) fun s' p out c ys k g o lt hp ho pm pw=>?_
 have np:H p=none:=I.hok.fresh lt
 have J:L2.Inv X pins sg (upd H p (.lst (ys.map fun b=>V.ref b.1))) { s with heap:=s'.heap,gens:=s'.gens,drawn:=s'.drawn,toks:=s'.toks } :=
  I.call (ch:=[]) (Un.laid k lt np) (I.hok.laid k lt ⟨by rw [List.length_map,pm.length_eq,sizeLine_eq];omega,out.toList,c,by rw [ho];exact tiVals ys,hp⟩) (by rw [g];exact I.bare) (fun _ z=>nomatch z)
 have e:s'={ s with heap:=s'.heap,gens:=s'.gens,drawn:=s'.drawn,toks:=s'.toks }:=by
  cases s';cases s;cases o;rfl
 rw [e]
 exact ⟨.ref p,_,J,rfl,q ys p pm pw np⟩
end
theorem tiOf_rv {K:PySem.W.Frag} {r:List Addr} {H:Hp} {x:PV} {p:TxI} {v:V} (e:tiOf x=some p) (h:RV K r H x v):∃ b,v=.ref b/\SqT K H b [V.str p.1,V.int p.2]:=by
 have pair:∀ {a:Str} {i:Int} {vs:List V},RVs K r H [.str a,.int i] vs->vs=[V.str a,V.int i]:=fun h=>by
  cases h with
  | cons h1 h2 =>
   cases h2 with
   | cons h2 h3=>cases h3;cases h1;cases h2;rfl
 unfold tiOf at e
 split at e
 ·cases e
  cases h with
  | tup h1 h2=>rw [pair h2] at h1;exact ⟨_,rfl,h1⟩
 ·cases e
  cases h with
  | ptup h1 h2=>rw [pair h2] at h1;exact ⟨_,rfl,h1.sqT⟩
 ·cases e
theorem zky {K:PySem.W.Frag} {r:List Addr} {H:Hp}:∀ {xs:List PV} {ps:List TxI} {vs:List V},xs.mapM tiOf=some ps->RVs K r H xs vs->∃ ks:List (Addr × TxI),vs=ks.map (fun p=>V.ref p.1)/\ks.map (·.2)=ps/\∀ p∈ks,SqT K H p.1 [V.str p.2.1,V.int p.2.2]
 | [],_,_,e,.nil=>by
  have e':some []=some _:=e
  cases e'
  exact ⟨[],rfl,rfl,fun _ h=>absurd h List.not_mem_nil⟩
 | x::xs,_,_,e,.cons h hs=>by
  obtain ⟨p,ps,e1,e2,rfl⟩:=zfh e
  obtain ⟨b,rfl,hb⟩:=tiOf_rv e1 h
  obtain ⟨ks,rfl,rfl,hk⟩:=zky e2 hs
  exact ⟨(b,p)::ks,rfl,rfl,fun q hq=>(List.mem_cons.mp hq).elim (fun e=>e ▸ hb) (hk q)⟩
theorem zkz {K:PySem.W.Frag} {r:List Addr} {H:Hp}:∀ (ys:List (Addr × TxI)),(∀ p∈ys,SqT K H p.1 [V.str p.2.1,V.int p.2.2])->RVs K r H ((ys.map (·.2)).map tiPV) (ys.map fun b=>V.ref b.1)
 | [],_=>.nil
 | y::ys,h=>.cons (.tup (h y List.mem_cons_self) (.cons (.str _) (.cons (.int _) .nil))) (zkz ys fun p hp=>h p (List.mem_cons_of_mem _ hp))
section
variable {X:Cx} {cf:CF} {i:E} {e:Expr} {p1 p2 p3 p4:Pos}
theorem zgB (hu:X.A.units+64<cLine) (hc:X.calm=true) (hgs:Gl X "sorted") (hms:X.mg "sorted" = none) (hgt:Gl X "set") (hmt:X.mg "set" = none) (h:XE X cf e i)
  (he0:starEach [e] X.env=(false,eval e X.env)::starEach [] X.env:=by rfl)
  (he1:starEach [.Call (.Name "set" p3) [e] [] p4] X.env=(false,eval (.Call (.Name "set" p3) [e] [] p4) X.env)::starEach [] X.env:=by rfl) (hpl:(backTo p2 (starEach [] X.env)).any (·.1)=false:=by rfl) (hpl4:(backTo p4 (starEach [] X.env)).any (·.1)=false:=by rfl) :
  XE X cf (.Call (.Name "sorted" p1) [.Call (.Name "set" p3) [e] [] p4] [] p2) (.blt .ssortp (.cons i .nil)):=by
 refine zak (pe_callB (cr_sortP hc hu) hgs hms (by decide +kernel) (pa_cons (pe_callTy (cr_setP hc hu) hgt hmt (by decide +kernel) (pa_cons h pa_nil he0) (by decide) (by decide) he0 hpl4) pa_nil he1) (by decide) (by decide) he1 hpl) fun s H Q q=>?_
 obtain ⟨r,sg,M,z,M',hs,hh,ev,q⟩:=q
 simp only [evE] at ev
 split at ev
 ·rename_i xs M1 e1
  obtain ⟨x,ys,M2,e2,e3,rfl⟩:=zcE e1
  simp only [zv] at e3
  cases e3
  simp only [zJ] at ev
  obtain ⟨ns,e4,e5⟩:=Option.bind_eq_some_iff.mp ev
  split at e5
  ·rename_i hl
   obtain ⟨rfl,rfl⟩:=Prod.mk.inj (Option.some.inj e5)
   refine ⟨r,sg,M,_,_,hs,hh,e2,fun r1 u1 H1 x1 h1 v1=>?_⟩
   have ⟨a,ks,hu1,g1,g2,g3⟩:∃ (a:Addr) (ks:List (Addr × TxI)),u1=.ref a/\SqT X.K H1 a (ks.map fun p=>V.ref p.1)/\ks.map (·.2)=ns/\∀ p∈ks,SqT X.K H1 p.1 [V.str p.2.1,V.int p.2.2]:=by
    unfold tisOf at e4
    split at e4
    ·cases v1 with
     | tup k1 k2 =>
      obtain ⟨ks,rfl,k3,k4⟩:=zky e4 k2
      exact ⟨_,ks,rfl,k1,k3,k4⟩
    ·cases v1 with
     | ptup k1 k2 =>
      obtain ⟨ks,rfl,k3,k4⟩:=zky e4 k2
      exact ⟨_,ks,rfl,k1.sqT,k3,k4⟩
    ·cases e4
   subst hu1
   refine ⟨a,ks,rfl,g1,g3,by rw [<- g2,List.length_map] at hl;exact hl,fun b M hb s1 s2=>?_⟩
   have y1:=zaF (r:=r1) (o:=zj2 X.prog X.w b M) hb
   have h2:=h1.other (zj2 X.prog X.w b M) hb
   refine ⟨b,M,rfl,upd_same,fun p hp=>y1.sqT (g3 p (s1 p hp)),fun ys p pm pw hp=>?_⟩
   have e6:ys.map (·.2)=zaU ns:=zis pw (zgF ns) fun k=>by
    rw [zdJ,<- g2,(pm.map (·.2)).mem_iff]
    constructor
    ·intro hk
     obtain ⟨m,hm,rfl⟩:=List.mem_map.mp hk
     exact List.mem_map.mpr ⟨m,s1 m hm,rfl⟩
    ·intro hk
     obtain ⟨m,hm,rfl⟩:=List.mem_map.mp hk
     exact s2 m hm
   have y2:=zbM (r:=r1) (o:=.lst (ys.map fun b=>V.ref b.1)) hp [p]
   exact q (r1++[p]) _ _ (x1.trans (y1.trans y2)) (h2.new hp ⟨_,upd_same,e6 ▸ zkz ys fun m hm=>y2.sqT (y1.sqT (g3 m (s1 m (pm.mem_iff.mp hm))))⟩) (.ref (by rw [<- h2.len];simp))
  ·cases e5
 ·cases ev
end
end Mp
namespace Mp
open PySem L2
section
variable {X:Cx} {cf:CF} {e:Expr} {i:E} {pos:Pos}
def tes (K:PySem.W.Frag) (cf:CF):Es->List TE
 | .nil=>[]
 | .cons i j=>TEv K (evE cf i)::tes K cf j
end
end Mp
namespace Mp
open PySem L2
def obsY (as:List Addr) (fa:List He.Fa) (fn:List He.DefD) (ts:List He.Tab) (tf:List He.Defn) (ex:PySem.W.Frag->Bool) (g:Addr->Option Obj):He.AlX :=
 (He.obsT fa fn ts (He.frT g as),ex (He.frT g as) && He.tabsB g tf (He.frT g as))
theorem saysY_of {as:List Addr} {fa:List He.Fa} {fn:List He.DefD} {ts:List He.Tab} {tf:List He.Defn} {ex:PySem.W.Frag->Bool} {w:World} {h:Heap} (e:obsY as fa fn ts tf ex h.get? = He.valX fn ts w):He.SaysX fa fn ts tf ex w h (He.frT h.get? as):=by
 have e1:He.obsT fa fn ts (He.frT h.get? as)=He.valT fn ts w:=congrArg (fun z=>z.1) e
 have e2:(ex (He.frT h.get? as) && He.tabsB h.get? tf (He.frT h.get? as))=true:=congrArg (fun z=>z.2) e
 obtain ⟨h1,h2⟩:=Bool.and_eq_true_iff.mp e2
 have key:∀ p∈tf,PySem.W.codeHdIn (He.frT h.get? as) (He.cT (He.frT h.get? as) p).1 (He.cT (He.frT h.get? as) p).2=true/\∃ o,h.get? (He.cT (He.frT h.get? as) p).2=some o/\He.emptyTab o=true:=fun p hp=>by
  obtain ⟨h3,h4⟩:=Bool.and_eq_true_iff.mp (List.all_eq_true.mp h2 p hp)
  refine ⟨h3,?_⟩
  cases q:h.get? (He.cT (He.frT h.get? as) p).2 with
  | none=>rw [q] at h4;cases h4
  | some o=>rw [q] at h4;exact ⟨o,rfl,h4⟩
 refine ⟨e1,h1,fun p hp=>(key p hp).1,fun p hp=>?_,fun p hp=>?_⟩
 ·obtain ⟨_,o,q,z⟩:=key p hp
  exact He.frT_none q z
 ·obtain ⟨_,o,q,z⟩:=key p hp
  rw [q,He.emptyTab_eq z]
def hookY (as:List Addr) (fa:List He.Fa) (fn:List He.DefD) (ts:List He.Tab) (tf:List He.Defn) (ex:PySem.W.Frag->Bool):PySem.W.Hook where
 α:=He.AlX
 obs s:=obsY as fa fn ts tf ex s.heap.get?
 val w:=He.valX fn ts w
 says w h:=∃ K,K.In h/\He.SaysX fa fn ts tf ex w h K
 of w s e:=⟨He.frT s.heap.get? as,He.frT_in,saysY_of e⟩
 keeps w h h':=fun ⟨K,hK,c⟩ k=>⟨K,hK.keeps k,c.t,c.more,c.hd,c.out,fun p hp=>k _ _ (c.empty p hp)⟩
theorem obsY_eq {as:List Addr} {fa:List He.Fa} {fn:List He.DefD} {ts:List He.Tab} {tf:List He.Defn} {ex:PySem.W.Frag->Bool} {g:Addr->Option Obj} {s:Shared} (h:∀ a,g a=s.heap.get? a):obsY as fa fn ts tf ex g=(hookY as fa fn ts tf ex).obs s:=by
 have e:=funext h
 rw [e];rfl
def oneT : PySem.W.Frag → Bool := fun _ => true
theorem run_two {r : PySem.W.OpenRow} {q : Program} {as : List Addr} {fa1 fa2 : List He.Fa} {fn1 fn2 : List He.DefD} {ts : List He.Tab} {tf : List He.Defn} {ex : PySem.W.Frag → Bool} {M : Nat} {loose : List Str} {w : World}
    (h1 : HandSHeadRun.RunEq r q (hookY as fa1 fn1 ts tf ex) (fun s => obsY as fa1 fn1 ts tf ex (HandSHeadRun.getT s)) M loose w)
    (h2 : HandSHeadRun.RunEq r q (hookY as fa2 fn2 [] [] oneT) (fun s => obsY as fa2 fn2 [] [] oneT (HandSHeadRun.getT s)) M loose w) :
    HandSHeadRun.RunEq r q (hookY as (fa1 ++ fa2) (fn1 ++ fn2) ts tf ex) (fun s => obsY as (fa1 ++ fa2) (fn1 ++ fn2) ts tf ex (HandSHeadRun.getT s)) M loose w := fun os => by
  have a := h1 os
  have b := h2 os
  obtain ⟨s, e, a⟩ := Option.map_eq_some_iff.mp a
  rw [e] at b ⊢
  have b := Option.some.inj b
  have a1 := congrArg (fun x => x.1) a
  have a2 := congrArg (fun x => x.2.1) a
  have a3 := congrArg (fun x => x.2.2) a
  have b3 := congrArg (fun x => x.2.2) b
  refine congrArg some (Prod.ext a1 (Prod.ext a2 ?_))
  have a3 : obsY as fa1 fn1 ts tf ex (HandSHeadRun.getT s) = He.valX fn1 ts w := a3
  have b3 : obsY as fa2 fn2 [] [] oneT (HandSHeadRun.getT s) = He.valX fn2 [] w := b3
  show obsY as (fa1 ++ fa2) (fn1 ++ fn2) ts tf ex (HandSHeadRun.getT s) = He.valX (fn1 ++ fn2) ts w
  simp only [obsY, He.valX, He.obsT, He.valT, He.obsD, He.valD, Prod.mk.injEq, Bool.and_eq_true, List.all_append, List.map_append] at a3 b3 ⊢
  obtain ⟨⟨⟨⟨c1, c2⟩, c3⟩, c4⟩, c5⟩ := a3
  obtain ⟨⟨⟨⟨d1, d2⟩, d3⟩, d4⟩, d5⟩ := b3
  exact ⟨⟨⟨⟨⟨c1, d1⟩, c2, d2⟩, by rw [c3, d3]⟩, c4⟩, c5⟩
end Mp
namespace Mp
open PySem L2
abbrev zeV:Nat:=0
abbrev zcS:Nat:=1
abbrev zeR:Nat:=2
abbrev zdd:Nat:=3
abbrev zde:Nat:=4
abbrev zfy:Nat:=5
abbrev zd0:Nat:=6
abbrev zeW:Nat:=7
abbrev zlz:Nat:=8
abbrev zr:Nat:=9
abbrev zcB:Nat:=10
abbrev zeo:Nat:=11
abbrev zdu:Nat:=12
abbrev zg5:Nat:=13
abbrev zbg:Nat:=14
abbrev zg4:Nat:=15
abbrev zdv:Nat:=16
abbrev zcQ:Nat:=17
abbrev zeS:Nat:=18
abbrev zb2:Nat:=19
abbrev zgc:Nat:=20
abbrev zcR:Nat:=21
abbrev zly:Nat:=22
abbrev zeU:Nat:=23
abbrev zbV:Nat:=24
abbrev zdP:Nat:=25
abbrev zd2:Nat:=26
abbrev zd1:Nat:=27
abbrev zdw:Nat:=28
abbrev zeT:Nat:=29
abbrev i_law:Nat:=30
def zbf:Df:=⟨1,1,(.cons (.ret (.and (.isi (.var 0) [.int]) (.not (.isi (.var 0) [.bool])))) .nil)⟩
def zbL:Df:=⟨1,1,(.cons (.ret (.and (.call zeV (.cons (.var 0) .nil)) (.cmp .ge (.var 0) (.con (.int 0))))) .nil)⟩
def zcW:E:=(.cmp .isin (.idx (.var 2) (.con (.int 0))) (.tup (.cons (.con (.str "put")) (.cons (.con (.str "drop")) .nil))))
def za0:Df:=⟨2,3,(.cons (.ret (.blt .len (.cons (.lc [2] (.name 2) (.seq (.slc false true (.var 0) (.con .non) (.var 1))) zcW (.var 2)) .nil))) .nil)⟩
def zhc:E:=(.cmp .le (.idx (.var 4) (.con (.int 0))) (.idx (.var 5) (.con (.int 0))))
def zea:Ss:=(.cons (.iff (.or (.not (.isi (.var 2) [.tuple])) (.or (.cmp .ne (.blt .len (.cons (.var 2) .nil)) (.con (.int 2))) (.not (.blt .all (.cons (.lc [3] (.name 3) (.seq (.var 2)) (.con (.bl true)) (.call zcS (.cons (.var 3) .nil))) .nil))))) (.cons (.ret (.con (.bl false))) .nil) .nil) (.cons (.iff (.or (.cmp .gt (.idx (.var 2) (.con (.int 0))) (.blt .len (.cons (.var 0) .nil))) (.cmp .gt (.idx (.var 2) (.con (.int 1))) (.call zeR (.cons (.var 0) (.cons (.idx (.var 2) (.con (.int 0))) .nil))))) (.cons (.ret (.con (.bl false))) .nil) .nil) .nil))
def zbe:Df:=⟨2,6,(.cons (.iff (.not (.isi (.var 1) [.tuple])) (.cons (.ret (.con (.bl false))) .nil) .nil) (.cons (.for_ (.name 2) (.seq (.var 1)) zea) (.cons (.ret (.blt .all (.cons (.lc [4,5] (.tup [4,5]) (.zip (.var 1) (.slc true false (.var 1) (.con (.int 1)) (.con .non))) (.con (.bl true)) zhc) .nil))) .nil)))⟩
def zhd:E:=(.cmp .isin (.var 3) (.call zeW (.cons (.var 0) .nil)))
def zaL:Df:=⟨2,4,(.cons (.iff (.or (.not (.isi (.var 1) [.tuple])) (.not (.blt .all (.cons (.lc [2] (.name 2) (.seq (.var 1)) (.con (.bl true)) (.call zfy (.cons (.var 2) .nil))) .nil)))) (.cons (.ret (.con (.bl false))) .nil) .nil) (.cons (.ret (.and (.cmp .eq (.blt .list (.cons (.var 1) .nil)) (.blt .ssortp (.cons (.var 1) .nil))) (.blt .all (.cons (.lc [3] (.name 3) (.seq (.var 1)) (.con (.bl true)) zhd) .nil)))) .nil))⟩
def zbK:Df:=⟨1,1,(.cons (.ret (.and (.isi (.var 0) [.tuple]) (.and (.cmp .eq (.blt .len (.cons (.var 0) .nil)) (.con (.int 2))) (.and (.cmp .isin (.idx (.var 0) (.con (.int 0))) (.tup (.cons (.con (.str "reader")) (.cons (.con (.str "copy")) .nil)))) (.call zcS (.cons (.idx (.var 0) (.con (.int 1))) .nil)))))) .nil)⟩
def zcn:E:=(.cmp .isin (.idx (.var 1) (.con (.int 0))) (.tup (.cons (.con (.str "join")) (.cons (.con (.str "load")) .nil))))
def zcl:E:=(.idx (.var 1) (.con (.int 1)))
def zaP:Df:=⟨1,2,(.cons (.ret (.ssc [1] (.name 1) (.seq (.var 0)) zcn zcl)) .nil)⟩
def zd5:E:=(.tup (.cons (.con (.str "copy")) (.cons (.var 3) .nil)))
def zd4:E:=(.tup (.cons (.con (.str "reader")) (.cons (.var 4) .nil)))
def zhu:E:=(.cmp .eq (.idx (.var 2) (.con (.int 0))) (.con (.str "save")))
def zX:Df:=⟨1,5,(.cons (.asg (.name 1) (.blt .len (.cons (.lc [2] (.name 2) (.seq (.var 0)) zhu (.var 2)) .nil))) (.cons (.ret (.bop .add (.lc [3] (.name 3) (.rng1 (.var 1)) (.con (.bl true)) zd5) (.lc [4] (.name 4) (.seq (.call zd0 (.cons (.var 0) .nil))) (.con (.bl true)) zd4))) .nil))⟩
def zci:Df:=⟨2,4,(.cons (.asg (.name 2) (.ite (.cmp .lt (.var 1) (.blt .len (.cons (.var 0) .nil))) (.idx (.var 0) (.var 1)) (.con (.int 0)))) (.cons (.asg (.name 3) (.bop .mod (.blt .int (.cons (.bop .mul (.bop .add (.bop .add (.bop .mod (.blt .int (.cons (.var 2) .nil)) (.con (.int 2305843009213693921))) (.bop .mul (.con (.int 41177)) (.var 1))) (.con (.int 53))) (.con (.int 38923))) .nil)) (.con (.int 2147483563)))) (.cons (.ret (.lst (.cons (.bop .mul (.blt .abs (.cons (.var 2) .nil)) (.blt .int (.cons (.cmp .ge (.blt .abs (.cons (.var 2) .nil)) (.bop .pow (.con (.int 10)) (.con (.int 18)))) .nil))) (.cons (.var 3) (.cons (.con (.int 0)) .nil))))) .nil)))⟩
def zbI:Df:=⟨2,5,(.cons (.iff (.cmp .gt (.idx (.var 0) (.con (.int 0))) (.con (.int 0))) (.cons (.asg (.name 2) (.bop .mod (.blt .int (.cons (.idx (.var 0) (.con (.int 0))) .nil)) (.var 1))) (.cons (.sto (.var 0) (.con (.int 0)) (.bop .fdiv (.idx (.var 0) (.con (.int 0))) (.var 1))) (.cons (.ret (.var 2)) .nil))) .nil) (.cons (.sto (.var 0) (.con (.int 2)) (.bop .add (.idx (.var 0) (.con (.int 2))) (.con (.int 1)))) (.cons (.asg (.name 3) (.bop .mod (.blt .int (.cons (.bop .pow (.bop .add (.idx (.var 0) (.con (.int 1))) (.bop .mul (.con (.int 51749)) (.idx (.var 0) (.con (.int 2))))) (.con (.int 3))) .nil)) (.con (.int 2147483549)))) (.cons (.asg (.name 4) (.bop .add (.bop .mod (.blt .int (.cons (.var 3) .nil)) (.con (.int 30011))) (.con (.int 17)))) (.cons (.ret (.bop .mod (.blt .int (.cons (.bop .fdiv (.bop .mod (.blt .int (.cons (.bop .add (.bop .mul (.var 3) (.var 4)) (.bop .mul (.idx (.var 0) (.con (.int 2))) (.con (.int 7039)))) .nil)) (.con (.int 2147483629))) (.con (.int 32))) .nil)) (.var 1))) .nil)))))⟩
def zcy:Df:=⟨2,2,(.cons (.ret (.idx (.var 1) (.call zr (.cons (.var 0) (.cons (.blt .len (.cons (.var 1) .nil)) .nil))))) .nil)⟩
def zbi:E:=(.call zeo (.cons (.var 2) (.cons (.var 3) .nil)))
def zax:Df:=⟨2,4,(.cons (.iff (.isi (.var 1) [.list,.tuple]) (.cons (.iff (.cmp .ne (.isi (.var 0) [.list]) (.isi (.var 1) [.list])) (.cons (.ret (.con (.bl false))) .nil) .nil) (.cons (.iff (.cmp .ne (.isi (.var 0) [.tuple]) (.isi (.var 1) [.tuple])) (.cons (.ret (.con (.bl false))) .nil) .nil) (.cons (.ret (.and (.cmp .eq (.blt .len (.cons (.var 0) .nil)) (.blt .len (.cons (.var 1) .nil))) (.blt .all (.cons (.lc [2,3] (.tup [2,3]) (.zip (.var 0) (.var 1)) (.con (.bl true)) zbi) .nil)))) .nil))) .nil) (.cons (.iff (.or (.cmp .isN (.var 1) (.con .non)) (.isi (.var 1) [.bool,.str])) (.cons (.ret (.and (.cmp .eq (.var 0) (.var 1)) (.and (.cmp .eq (.isi (.var 0) [.bool]) (.isi (.var 1) [.bool])) (.cmp .eq (.cmp .isN (.var 0) (.con .non)) (.cmp .isN (.var 1) (.con .non)))))) .nil) .nil) (.cons (.ret (.and (.isi (.var 0) [.int]) (.and (.not (.isi (.var 0) [.bool])) (.cmp .eq (.var 0) (.var 1))))) .nil)))⟩
def zbx:Df:=⟨1,2,(.cons (.ret (.ite (.isi (.var 0) [.list,.tuple]) (.lc [1] (.name 1) (.seq (.var 0)) (.con (.bl true)) (.call zdu (.cons (.var 1) .nil))) (.var 0))) .nil)⟩
def zH:Df:=⟨5,9,(.cons (.asg (.tup [5,6,7]) (.tup (.cons (.idx (.var 4) (.call zr (.cons (.var 0) (.cons (.blt .len (.cons (.var 4) .nil)) .nil)))) (.cons (.call zr (.cons (.var 0) (.cons (.var 2) .nil))) (.cons (.call zcB (.cons (.var 0) (.cons (.var 3) .nil))) .nil))))) (.cons (.iff (.cmp .eq (.var 5) (.con (.str "p"))) (.cons (.ret (.tup (.cons (.con (.str "put")) (.cons (.var 7) (.cons (.call zr (.cons (.var 0) (.cons (.con (.int 9)) .nil))) .nil))))) .nil) .nil) (.cons (.iff (.cmp .isin (.var 5) (.tup (.cons (.con (.str "d")) (.cons (.con (.str "w")) .nil)))) (.cons (.ret (.ite (.cmp .eq (.var 5) (.con (.str "d"))) (.tup (.cons (.con (.str "drop")) (.cons (.var 7) .nil))) (.tup (.cons (.con (.str "wait")) .nil)))) .nil) .nil) (.cons (.iff (.cmp .eq (.var 5) (.con (.str "j"))) (.cons (.ret (.tup (.cons (.con (.str "join")) (.cons (.var 6) .nil)))) .nil) .nil) (.cons (.iff (.cmp .eq (.var 5) (.con (.str "l"))) (.cons (.ret (.ite (.cmp .ne (.idx (.var 1) (.con (.str "copies"))) (.lst .nil)) (.tup (.cons (.con (.str "load")) (.cons (.var 6) (.cons (.call zr (.cons (.var 0) (.cons (.blt .len (.cons (.idx (.var 1) (.con (.str "copies"))) .nil)) .nil))) .nil)))) (.con .non))) .nil) .nil) (.cons (.iff (.cmp .notin (.var 6) (.idx (.var 1) (.con (.str "seats")))) (.cons (.ret (.tup (.cons (.con (.str "join")) (.cons (.var 6) .nil)))) .nil) .nil) (.cons (.iff (.cmp .eq (.var 5) (.con (.str "s"))) (.cons (.ret (.tup (.cons (.con (.str "save")) (.cons (.var 6) .nil)))) .nil) .nil) (.cons (.asg (.name 8) (.bop .sub (.idx (.var 1) (.con (.str "many"))) (.idx (.idx (.var 1) (.con (.str "seats"))) (.var 6)))) (.cons (.ret (.ite (.cmp .gt (.var 8) (.con (.int 0))) (.tup (.cons (.con (.str "read")) (.cons (.var 6) (.cons (.bop .add (.bop .add (.idx (.idx (.var 1) (.con (.str "seats"))) (.var 6)) (.con (.int 1))) (.call zr (.cons (.var 0) (.cons (.var 8) .nil)))) .nil)))) (.con .non))) .nil)))))))))⟩
def zV:Df:=⟨2,3,(.cons (.asg (.name 2) (.idx (.var 1) (.con (.int 0)))) (.cons (.iff (.cmp .isin (.var 2) (.tup (.cons (.con (.str "put")) (.cons (.con (.str "drop")) .nil)))) (.cons (.sto (.var 0) (.con (.str "many")) (.bop .add (.idx (.var 0) (.con (.str "many"))) (.con (.int 1)))) .nil) (.cons (.iff (.cmp .eq (.var 2) (.con (.str "join"))) (.cons (.sto (.idx (.var 0) (.con (.str "seats"))) (.idx (.var 1) (.con (.int 1))) (.con (.int 0))) .nil) (.cons (.iff (.cmp .eq (.var 2) (.con (.str "read"))) (.cons (.sto (.idx (.var 0) (.con (.str "seats"))) (.idx (.var 1) (.con (.int 1))) (.idx (.var 1) (.con (.int 2)))) .nil) (.cons (.iff (.cmp .eq (.var 2) (.con (.str "save"))) (.cons (.exp (.mth .append (.idx (.var 0) (.con (.str "copies"))) (.cons (.idx (.idx (.var 0) (.con (.str "seats"))) (.idx (.var 1) (.con (.int 1)))) .nil))) .nil) (.cons (.iff (.cmp .eq (.var 2) (.con (.str "load"))) (.cons (.sto (.idx (.var 0) (.con (.str "seats"))) (.idx (.var 1) (.con (.int 1))) (.idx (.idx (.var 0) (.con (.str "copies"))) (.idx (.var 1) (.con (.int 2))))) .nil) .nil) .nil)) .nil)) .nil)) .nil)) .nil))⟩
def zaA:Ss:=(.cons (.asg (.name 9) (.call zg5 (.cons (.var 0) (.cons (.var 7) (.cons (.var 3) (.cons (.var 4) (.cons (.var 5) .nil))))))) (.cons (.asg (.name 10) (.and (.cmp .isNN (.var 9) (.con .non)) (.and (.cmp .isin (.idx (.var 9) (.con (.int 0))) (.tup (.cons (.con (.str "put")) (.cons (.con (.str "drop")) .nil)))) (.cmp .ge (.idx (.var 7) (.con (.str "many"))) (.var 2))))) (.cons (.iff (.and (.cmp .isNN (.var 9) (.con .non)) (.and (.not (.var 10)) (.or (.cmp .ne (.idx (.var 9) (.con (.int 0))) (.con (.str "save"))) (.cmp .lt (.blt .len (.cons (.idx (.var 7) (.con (.str "copies"))) .nil)) (.con (.int 3)))))) (.cons (.exp (.call zbg (.cons (.var 7) (.cons (.var 9) .nil)))) (.cons (.exp (.mth .append (.var 6) (.cons (.var 9) .nil))) .nil)) .nil) .nil)))
def zbv:Df:=⟨6,11,(.cons (.asg (.tup [6,7]) (.tup (.cons (.lst .nil) (.cons (.dct [.inr "seats",.inr "copies",.inr "many"] (.cons .dnew (.cons (.lst .nil) (.cons (.con (.int 0)) .nil)))) .nil)))) (.cons (.for_ (.name 8) (.rng1 (.var 1)) zaA) (.cons (.ret (.blt .tuple (.cons (.var 6) .nil))) .nil)))⟩
def za1:E:=(.cmp .lt (.idx (.idx (.var 1) (.con (.str "seats"))) (.var 3)) (.idx (.var 1) (.con (.str "many"))))
def zbz:E:=(.tup (.cons (.con (.str "read")) (.cons (.var 3) (.cons (.idx (.var 1) (.con (.str "many"))) .nil))))
def zcX:Ss:=(.cons (.exp (.call zbg (.cons (.var 1) (.cons (.var 2) .nil)))) .nil)
def zby:Df:=⟨1,4,(.cons (.asg (.name 1) (.dct [.inr "seats",.inr "copies",.inr "many"] (.cons .dnew (.cons (.lst .nil) (.cons (.con (.int 0)) .nil))))) (.cons (.for_ (.name 2) (.seq (.var 0)) zcX) (.cons (.ret (.bop .add (.var 0) (.blt .tuple (.cons (.lc [3] (.name 3) (.seq (.blt .sorted (.cons (.idx (.var 1) (.con (.str "seats"))) .nil))) za1 zbz) .nil)))) .nil)))⟩
def zhv:E:=(.cmp .isin (.idx (.var 2) (.con (.int 0))) (.tup (.cons (.con (.str "put")) (.cons (.con (.str "drop")) .nil))))
def zcz:Df:=⟨2,3,(.cons (.ret (.blt .len (.cons (.lc [2] (.name 2) (.seq (.slc false true (.var 0) (.con .non) (.var 1))) zhv (.var 2)) .nil))) .nil)⟩
def zfI:E:=(.cmp .eq (.call zr (.cons (.var 0) (.cons (.con (.int 3)) .nil))) (.con (.int 0)))
def zjR:E:=(.tup (.cons (.con (.str "copy")) (.cons (.var 6) .nil)))
def zjP:E:=(.tup (.cons (.con (.str "reader")) (.cons (.var 7) .nil)))
def zj0:E:=(.cmp .isin (.idx (.var 5) (.con (.int 0))) (.tup (.cons (.con (.str "join")) (.cons (.con (.str "load")) .nil))))
def zjO:E:=(.idx (.var 5) (.con (.int 1)))
def zjZ:E:=(.cmp .eq (.idx (.var 5) (.con (.int 0))) (.con (.str "save")))
def zb8:Df:=⟨2,9,(.cons (.asg (.name 2) (.blt .len (.cons (.lc [5] (.name 5) (.seq (.var 1)) zjZ (.var 5)) .nil))) (.cons (.asg (.name 3) (.blt .ssort (.cons (.lc [5] (.name 5) (.seq (.var 1)) zj0 zjO) .nil))) (.cons (.asg (.name 4) (.bop .add (.lc [6] (.name 6) (.rng1 (.var 2)) (.con (.bl true)) zjR) (.lc [7] (.name 7) (.seq (.var 3)) (.con (.bl true)) zjP))) (.cons (.ret (.blt .tuple (.cons (.lc [8] (.name 8) (.seq (.var 4)) zfI (.var 8)) .nil))) .nil))))⟩
def zbO:Ss:=(.cons (.exp (.mth .append (.var 2) (.cons (.tup (.cons (.var 3) (.cons (.call zr (.cons (.var 0) (.cons (.bop .add (.call zcQ (.cons (.var 1) (.cons (.var 3) .nil))) (.con (.int 1))) .nil))) .nil))) .nil))) .nil)
def zbN:Ss:=(.cons (.for_ (.name 4) (.rng1 (.call zcB (.cons (.var 0) (.cons (.lst (.cons (.con (.int 0)) (.cons (.con (.int 0)) (.cons (.con (.int 1)) (.cons (.con (.int 1)) (.cons (.con (.int 2)) .nil)))))) .nil)))) zbO) .nil)
def zaw:Df:=⟨2,5,(.cons (.asg (.name 2) (.lst .nil)) (.cons (.for_ (.name 3) (.rng1 (.bop .add (.blt .len (.cons (.var 1) .nil)) (.con (.int 1)))) zbN) (.cons (.ret (.blt .tuple (.cons (.var 2) .nil))) .nil)))⟩
def zcF:E:=(.ite (.cmp .eq (.var 7) (.con (.str "p"))) (.tup (.cons (.con (.str "put")) (.cons (.var 4) (.cons (.call zr (.cons (.var 0) (.cons (.con (.int 9)) .nil))) .nil)))) (.tup (.cons (.con (.str "drop")) (.cons (.var 4) .nil))))
def zcJ:Ss:=(.cons (.asg (.name 5) (.idx (.lst (.cons (.con (.str "pd")) (.cons (.con (.str "pd")) (.cons (.con (.str "ppd")) (.cons (.con (.str "pdpd")) (.cons (.con (.str "dpd")) (.cons (.con (.str "pdp")) .nil))))))) (.call zr (.cons (.var 0) (.cons (.con (.int 6)) .nil))))) (.cons (.asg (.name 6) (.lc [7] (.name 7) (.seq (.var 5)) (.con (.bl true)) zcF)) (.cons (.iff (.cmp .le (.bop .add (.blt .sum (.cons (.lc [8] (.name 8) (.seq (.var 3)) (.con (.bl true)) (.blt .len (.cons (.var 8) .nil))) .nil)) (.blt .len (.cons (.var 6) .nil))) (.var 1)) (.cons (.exp (.mth .append (.var 3) (.cons (.var 6) .nil))) .nil) .nil) .nil)))
def zb9:Df:=⟨3,9,(.cons (.asg (.name 3) (.lst .nil)) (.cons (.for_ (.name 4) (.seq (.var 2)) zcJ) (.cons (.ret (.var 3)) .nil)))⟩
def za2:Ss:=(.cons (.asg (.name 5) (.bop .sub (.idx (.var 1) (.con (.str "many"))) (.idx (.idx (.var 1) (.con (.str "seats"))) (.var 4)))) (.cons (.iff (.and (.cmp .gt (.var 5) (.con (.int 0))) (.cmp .eq (.call zr (.cons (.var 0) (.cons (.con (.int 2)) .nil))) (.con (.int 0)))) (.cons (.exp (.mth .append (.var 3) (.cons (.tup (.cons (.con (.str "read")) (.cons (.var 4) (.cons (.bop .add (.bop .add (.idx (.idx (.var 1) (.con (.str "seats"))) (.var 4)) (.con (.int 1))) (.call zr (.cons (.var 0) (.cons (.var 5) .nil)))) .nil)))) .nil))) .nil) .nil) .nil))
def zw:Df:=⟨3,7,(.cons (.asg (.name 3) (.lst .nil)) (.cons (.for_ (.name 4) (.rng1 (.var 2)) za2) (.cons (.asg (.tup [6,4]) (.tup (.cons (.call zr (.cons (.var 0) (.cons (.con (.int 11)) .nil))) (.cons (.call zr (.cons (.var 0) (.cons (.var 2) .nil))) .nil)))) (.cons (.iff (.cmp .eq (.var 6) (.con (.int 0))) (.cons (.exp (.mth .append (.var 3) (.cons (.tup (.cons (.con (.str "wait")) .nil)) .nil))) .nil) .nil) (.cons (.iff (.and (.cmp .eq (.var 6) (.con (.int 1))) (.cmp .lt (.blt .len (.cons (.idx (.var 1) (.con (.str "copies"))) .nil)) (.con (.int 3)))) (.cons (.exp (.mth .append (.var 3) (.cons (.tup (.cons (.con (.str "save")) (.cons (.var 4) .nil))) .nil))) .nil) .nil) (.cons (.iff (.and (.cmp .eq (.var 6) (.con (.int 2))) (.cmp .ne (.idx (.var 1) (.con (.str "copies"))) (.lst .nil))) (.cons (.exp (.mth .append (.var 3) (.cons (.tup (.cons (.con (.str "load")) (.cons (.var 4) (.cons (.call zr (.cons (.var 0) (.cons (.blt .len (.cons (.idx (.var 1) (.con (.str "copies"))) .nil)) .nil))) .nil)))) .nil))) .nil) .nil) (.cons (.iff (.cmp .eq (.var 6) (.con (.int 3))) (.cons (.exp (.mth .append (.var 3) (.cons (.tup (.cons (.con (.str "join")) (.cons (.var 4) .nil))) .nil))) .nil) .nil) (.cons (.ret (.var 3)) .nil))))))))⟩
def zcp:Ss:=(.cons (.iff (.cmp .lt (.bop .add (.bop .add (.blt .len (.cons (.var 6) .nil)) (.var 9)) (.var 2)) (.var 3)) (.cons (.exp (.call zbg (.cons (.var 5) (.cons (.var 7) .nil)))) (.cons (.exp (.mth .append (.var 6) (.cons (.var 7) .nil))) .nil)) .nil) .nil)
def zdE:Ss:=(.cons (.asg (.name 8) (.idx (.var 4) (.call zr (.cons (.var 0) (.cons (.blt .len (.cons (.var 4) .nil)) .nil))))) (.cons (.exp (.mth .append (.var 6) (.cons (.mth .pop1 (.var 8) (.cons (.con (.int 0)) .nil)) .nil))) (.cons (.exp (.call zbg (.cons (.var 5) (.cons (.idx (.var 6) (.neg (.con (.int 1)))) .nil)))) (.cons (.asg (.name 4) (.lc [11] (.name 11) (.seq (.var 4)) (.cmp .ne (.var 11) (.lst .nil)) (.var 11))) (.cons (.asg (.name 9) (.blt .sum (.cons (.lc [11] (.name 11) (.seq (.var 4)) (.con (.bl true)) (.blt .len (.cons (.var 11) .nil))) .nil))) (.cons (.for_ (.name 7) (.seq (.call zcR (.cons (.var 0) (.cons (.var 5) (.cons (.var 2) .nil))))) zcp) .nil))))))
def zdD:Ss:=(.cons (.exp (.call zbg (.cons (.var 5) (.cons (.var 7) .nil)))) .nil)
def zcV:E:=(.tup (.cons (.con (.str "join")) (.cons (.var 10) .nil)))
def zbU:Df:=⟨4,12,(.cons (.asg (.name 4) (.call zgc (.cons (.var 0) (.cons (.var 1) (.cons (.slc false true (.lst (.cons (.con (.str "a")) (.cons (.con (.str "b")) (.cons (.con (.str "cc")) .nil)))) (.con .non) (.bop .sub (.bop .fdiv (.var 1) (.con (.int 2))) (.blt .int (.cons (.cmp .eq (.var 2) (.con (.int 3))) .nil)))) .nil))))) (.cons (.asg (.tup [5,6]) (.tup (.cons (.dct [.inr "seats",.inr "copies",.inr "many"] (.cons .dnew (.cons (.lst .nil) (.cons (.con (.int 0)) .nil)))) (.cons (.lc [10] (.name 10) (.rng1 (.var 2)) (.con (.bl true)) zcV) .nil)))) (.cons (.for_ (.name 7) (.seq (.var 6)) zdD) (.cons (.whl (.cmp .ne (.var 4) (.lst .nil)) zdE) (.cons (.ret (.call zdv (.cons (.blt .tuple (.cons (.var 6) .nil)) .nil))) .nil)))))⟩
def zaK:Df:=⟨2,5,(.cons (.iff (.cmp .eq (.call zr (.cons (.var 0) (.cons (.con (.int 2)) .nil))) (.con (.int 0))) (.cons (.ret (.call zly (.cons (.var 0) (.cons (.var 1) (.cons (.bop .add (.con (.int 1)) (.call zr (.cons (.var 0) (.cons (.con (.int 3)) .nil)))) (.cons (.con (.int 15)) .nil)))))) .nil) .nil) (.cons (.asg (.name 2) (.slc false true (.lst (.cons (.con (.str "a")) (.cons (.con (.str "b")) (.cons (.con (.str "cc")) (.cons (.con (.str "abc")) .nil))))) (.con .non) (.bop .add (.con (.int 2)) (.call zr (.cons (.var 0) (.cons (.con (.int 3)) .nil)))))) (.cons (.asg (.name 3) (.call zcB (.cons (.var 0) (.cons (.lst (.cons (.con (.str "ppdddrrrsl")) (.cons (.con (.str "pdddrrrwwj")) (.cons (.con (.str "ppddrrrrrsllw")) .nil)))) .nil)))) (.cons (.asg (.name 4) (.call zg4 (.cons (.var 0) (.cons (.bop .add (.con (.int 7)) (.call zr (.cons (.var 0) (.cons (.con (.int 6)) .nil)))) (.cons (.var 1) (.cons (.bop .add (.con (.int 1)) (.call zr (.cons (.var 0) (.cons (.con (.int 4)) .nil)))) (.cons (.var 2) (.cons (.var 3) .nil)))))))) (.cons (.ret (.ite (.cmp .gt (.call zr (.cons (.var 0) (.cons (.con (.int 4)) .nil))) (.con (.int 0))) (.call zdv (.cons (.var 4) .nil)) (.var 4))) .nil)))))⟩
def zaQ:Df:=⟨1,1,(.cons (.ret (.and (.isi (.var 0) [.int]) (.and (.not (.isi (.var 0) [.bool])) (.cmp .ge (.var 0) (.con (.int 0)))))) .nil)⟩
def zbJ:Df:=⟨1,1,(.cons (.ret (.and (.isi (.var 0) [.tuple]) (.cmp .eq (.blt .len (.cons (.var 0) .nil)) (.con (.int 2))))) .nil)⟩
def zdF:Ss:=(.cons (.iff (.or (.not (.call zbV (.cons (.var 3) .nil))) (.or (.not (.call zbV (.cons (.var 4) .nil))) (.not (.chn .le .le (.var 2) (.var 3) (.blt .len (.cons (.var 0) .nil)))))) (.cons (.ret (.con (.bl false))) .nil) .nil) (.cons (.iff (.cmp .gt (.var 4) (.call zcQ (.cons (.var 0) (.cons (.var 3) .nil)))) (.cons (.ret (.con (.bl false))) .nil) .nil) (.cons (.asg (.name 2) (.var 3)) .nil)))
def zaR:Df:=⟨2,6,(.cons (.iff (.or (.not (.isi (.var 1) [.tuple])) (.not (.blt .all (.cons (.lc [5] (.name 5) (.seq (.var 1)) (.con (.bl true)) (.call zdP (.cons (.var 5) .nil))) .nil)))) (.cons (.ret (.con (.bl false))) .nil) .nil) (.cons (.asg (.name 2) (.con (.int 0))) (.cons (.for_ (.tup [3,4]) (.seq (.var 1)) zdF) (.cons (.ret (.con (.bl true))) .nil))))⟩
def zco:Ss:=(.cons (.iff (.or (.not (.isi (.var 4) [.str])) (.or (.cmp .notin (.var 4) (.tup (.cons (.con (.str "copy")) (.cons (.con (.str "reader")) .nil)))) (.not (.call zbV (.cons (.var 5) .nil))))) (.cons (.ret (.con (.bl false))) .nil) .nil) (.cons (.iff (.ite (.cmp .eq (.var 4) (.con (.str "copy"))) (.cmp .ge (.var 5) (.var 2)) (.cmp .notin (.var 5) (.var 3))) (.cons (.ret (.con (.bl false))) .nil) .nil) .nil))
def zgo:E:=(.cmp .isin (.idx (.var 7) (.con (.int 0))) (.tup (.cons (.con (.str "join")) (.cons (.con (.str "load")) .nil))))
def zdx:E:=(.idx (.var 7) (.con (.int 1)))
def zgn:E:=(.cmp .eq (.idx (.var 7) (.con (.int 0))) (.con (.str "save")))
def zW:Df:=⟨2,8,(.cons (.iff (.or (.not (.isi (.var 1) [.tuple])) (.not (.blt .all (.cons (.lc [6] (.name 6) (.seq (.var 1)) (.con (.bl true)) (.call zdP (.cons (.var 6) .nil))) .nil)))) (.cons (.ret (.con (.bl false))) .nil) .nil) (.cons (.asg (.name 2) (.blt .len (.cons (.lc [7] (.name 7) (.seq (.var 0)) zgn (.var 7)) .nil))) (.cons (.asg (.name 3) (.lc [7] (.name 7) (.seq (.var 0)) zgo zdx)) (.cons (.for_ (.tup [4,5]) (.seq (.var 1)) zco) (.cons (.ret (.cmp .eq (.blt .list (.cons (.var 1) .nil)) (.blt .ssortp (.cons (.var 1) .nil)))) .nil)))))⟩
def zca:Df:=⟨2,9,(.cons (.iff (.cmp .eq (.var 1) (.tup .nil)) (.cons (.ret (.call zcB (.cons (.var 0) (.cons (.lst (.cons (.lst .nil) (.cons (.tup (.cons (.tup .nil) .nil)) (.cons (.tup (.cons (.tup (.cons (.con (.int 0)) .nil)) .nil)) (.cons (.tup (.cons (.tup (.cons (.con (.int 0)) (.cons (.con (.int 0)) (.cons (.con (.int 0)) .nil)))) .nil)) (.cons (.tup (.cons (.tup (.cons (.con (.str "reader")) (.cons (.con (.int 9)) .nil))) .nil)) (.cons (.tup (.cons (.tup (.cons (.con (.int 0)) (.cons (.con (.bl true)) .nil))) .nil)) (.cons (.tup (.cons (.tup (.cons (.con (.str "copy")) (.cons (.con (.int 7)) .nil))) .nil)) .nil)))))))) .nil)))) .nil) .nil) (.cons (.asg (.tup [2,3]) (.tup (.cons (.call zr (.cons (.var 0) (.cons (.blt .len (.cons (.var 1) .nil)) .nil))) (.cons (.call zr (.cons (.var 0) (.cons (.con (.int 2)) .nil))) .nil)))) (.cons (.asg (.tup [4,5]) (.tup (.cons (.idx (.var 1) (.var 2)) (.cons (.lst (.cons (.con (.bl true)) (.cons (.neg (.con (.int 1))) (.cons (.con (.int 0)) (.cons (.con (.int 1)) (.cons (.con (.int 5)) (.cons (.con (.int 99)) (.cons (.con (.str "reader")) (.cons (.con (.str "copy")) (.cons (.con (.str "readers")) (.cons (.con .non) (.cons (.tup .nil) (.cons (.bop .pow (.con (.int 10)) (.con (.int 12))) .nil))))))))))))) .nil)))) (.cons (.asg (.name 6) (.call zr (.cons (.var 0) (.cons (.con (.int 7)) .nil)))) (.cons (.iff (.cmp .eq (.var 6) (.con (.int 0))) (.cons (.ret (.bop .add (.bop .add (.slc false true (.var 1) (.con .non) (.var 2)) (.slc true true (.var 1) (.var 2) (.bop .add (.var 2) (.con (.int 1))))) (.slc true false (.var 1) (.var 2) (.con .non)))) .nil) .nil) (.cons (.iff (.cmp .eq (.var 6) (.con (.int 1))) (.cons (.ret (.bop .add (.bop .add (.slc false true (.var 1) (.con .non) (.var 2)) (.rev (.slc true true (.var 1) (.var 2) (.bop .add (.var 2) (.con (.int 2)))))) (.slc true false (.var 1) (.bop .add (.var 2) (.con (.int 2))) (.con .non)))) .nil) .nil) (.cons (.iff (.cmp .eq (.var 6) (.con (.int 2))) (.cons (.ret (.call zcB (.cons (.var 0) (.cons (.lst (.cons (.blt .list (.cons (.var 1) .nil)) (.cons (.bop .add (.bop .add (.slc false true (.var 1) (.con .non) (.var 2)) (.tup (.cons (.blt .list (.cons (.var 4) .nil)) .nil))) (.slc true false (.var 1) (.bop .add (.var 2) (.con (.int 1))) (.con .non))) (.cons (.bop .add (.var 1) (.tup (.cons (.slc false true (.var 4) (.con .non) (.con (.int 1))) .nil))) (.cons (.tup (.cons (.var 1) .nil)) .nil))))) .nil)))) .nil) .nil) (.cons (.asg (.name 7) (.call zcB (.cons (.var 0) (.cons (.var 5) .nil)))) (.cons (.iff (.and (.cmp .eq (.var 6) (.con (.int 3))) (.isi (.idx (.var 4) (.var 3)) [.int])) (.cons (.asg (.name 7) (.bop .sub (.bop .add (.idx (.var 4) (.var 3)) (.con (.int 1))) (.bop .mul (.con (.int 2)) (.call zr (.cons (.var 0) (.cons (.con (.int 2)) .nil)))))) .nil) .nil) (.cons (.asg (.name 8) (.ite (.cmp .eq (.var 3) (.con (.int 0))) (.tup (.cons (.var 7) (.cons (.idx (.var 4) (.con (.int 1))) .nil))) (.tup (.cons (.idx (.var 4) (.con (.int 0))) (.cons (.var 7) .nil))))) (.cons (.ret (.bop .add (.bop .add (.slc false true (.var 1) (.con .non) (.var 2)) (.tup (.cons (.var 8) .nil))) (.slc true false (.var 1) (.bop .add (.var 2) (.con (.int 1))) (.con .non)))) .nil)))))))))))⟩
def zdV:Ss:=(.cons (.asg (.name 8) (.lst (.cons (.call zdd (.cons (.var 2) (.cons (.var 7) .nil))) (.cons (.callp zdd (.cons (.var 7) (.cons (.var 3) .nil)) [1,0]) (.cons (.call zde (.cons (.var 2) (.cons (.var 7) .nil))) .nil))))) (.cons (.exp (.mth .append (.var 8) (.cons (.callp zde (.cons (.var 7) (.cons (.var 3) .nil)) [1,0]) .nil))) (.cons (.asg (.tup [9,10]) (.tup (.cons (.call zd2 (.cons (.var 2) (.cons (.var 7) .nil))) (.cons (.call zd1 (.cons (.var 2) (.cons (.var 7) .nil))) .nil)))) (.cons (.iff (.not (.call zeo (.cons (.var 8) (.cons (.lst (.cons (.var 9) (.cons (.var 9) (.cons (.var 10) (.cons (.var 10) .nil))))) .nil)))) (.cons (.ret (.con (.bl false))) .nil) .nil) .nil))))
def zjS:E:=(.call zdw (.cons (.var 0) (.cons (.var 5) .nil)))
def zjQ:E:=(.call zdw (.cons (.var 0) (.cons (.var 6) .nil)))
def zdU:Ss:=(.cons (.asg (.name 2) (.call zeU (.cons (.var 0) (.cons (.con (.int 6)) .nil)))) (.cons (.asg (.tup [3,4]) (.tup (.cons (.call zdu (.cons (.var 2) .nil)) (.cons (.lst (.cons (.con .non) (.cons (.con (.bl true)) (.cons (.con (.int 0)) (.cons (.con (.str "copy")) (.cons (.tup .nil) (.cons (.lst .nil) (.cons (.tup (.cons (.tup .nil) .nil)) (.cons (.tup (.cons (.tup (.cons (.con (.str "reader")) (.cons (.con (.int 0)) .nil))) .nil)) (.cons (.tup (.cons (.tup (.cons (.con (.str "copy")) (.cons (.con (.int 0)) .nil))) .nil)) .nil)))))))))) .nil)))) (.cons (.asg (.tup [5,6]) (.tup (.cons (.call zb2 (.cons (.var 0) (.cons (.var 2) .nil))) (.cons (.call zeS (.cons (.var 0) (.cons (.var 2) .nil))) .nil)))) (.cons (.asg (.name 4) (.bop .add (.var 4) (.lst (.cons (.var 5) (.cons (.var 6) (.cons (.rev (.var 5)) (.cons (.rev (.var 6)) .nil))))))) (.cons (.asg (.name 4) (.bop .add (.bop .add (.var 4) (.lc [11] (.name 11) (.rng1 (.con (.int 9))) (.con (.bl true)) zjS)) (.lc [11] (.name 11) (.rng1 (.con (.int 9))) (.con (.bl true)) zjQ))) (.cons (.for_ (.name 7) (.seq (.var 4)) zdV) .nil))))))
def zbw:Df:=⟨1,12,(.cons (.for_ (.name 1) (.rng1 (.con (.int 3))) zdU) (.cons (.ret (.con (.bl true))) .nil))⟩
def zi2:E:=(.call zeT (.cons (.call zlz (.cons (.var 0) (.cons (.var 1) .nil))) .nil))
def zfv:Df:=⟨1,2,(.cons (.ret (.blt .all (.cons (.lc [1] (.name 1) (.rng1 (.bop .add (.con (.int 1)) (.blt .min2 (.cons (.con (.int 2)) (.cons (.blt .len (.cons (.var 0) .nil)) .nil))))) (.con (.bl true)) zi2) .nil))) .nil)⟩
def tab:Nat->Option Dx
 | 0=>some (.fn zbf)
 | 1=>some (.fn zbL)
 | 2=>some (.fn za0)
 | 3=>some (.fn zbe)
 | 4=>some (.fn zaL)
 | 5=>some (.fn zbK)
 | 6=>some (.fn zaP)
 | 7=>some (.fn zX)
 | 8=>some (.fn zci)
 | 9=>some (.fn zbI)
 | 10=>some (.fn zcy)
 | 11=>some (.fn zax)
 | 12=>some (.fn zbx)
 | 13=>some (.fn zH)
 | 14=>some (.fn zV)
 | 15=>some (.fn zbv)
 | 16=>some (.fn zby)
 | 17=>some (.fn zcz)
 | 18=>some (.fn zb8)
 | 19=>some (.fn zaw)
 | 20=>some (.fn zb9)
 | 21=>some (.fn zw)
 | 22=>some (.fn zbU)
 | 23=>some (.fn zaK)
 | 24=>some (.fn zaQ)
 | 25=>some (.fn zbJ)
 | 26=>some (.fn zaR)
 | 27=>some (.fn zW)
 | 28=>some (.fn zca)
 | 29=>some (.fn zbw)
 | 30=>some (.fn zfv)
 | _=>none
end Mp
namespace Mp
open PySem L2
def zc7 (i:Nat):Stmt:=PySem.Challenge.pw_missedmarks_k01_sweeps_and_guards_or_non.main.body.getD i (.Pass ⟨0,0,0,0⟩)
abbrev zaG:Stmt:=zc7 8
abbrev zil:List Str:=["thing"]
theorem zik:FnScope zil ["thing"] (defScope zaG):=⟨rfl,rfl,rfl,by decide +kernel,rfl,by decide +kernel,by decide +kernel⟩
abbrev zaZ:Stmt:=zc7 9
abbrev zka:List Str:=["thing"]
theorem zj5:FnScope zka ["thing"] (defScope zaZ):=⟨rfl,rfl,rfl,by decide +kernel,rfl,by decide +kernel,by decide +kernel⟩
abbrev zba:Stmt:=zc7 10
abbrev zhy:List Str:=["timetable", "time", "event"]
theorem ze8:FnScope zhy ["timetable", "time"] (defScope zba):=⟨rfl,rfl,rfl,by decide +kernel,rfl,by decide +kernel,by decide +kernel⟩
abbrev zan:Stmt:=zc7 11
abbrev zdj:List Str:=["timetable", "thing", "pair", "part", "early", "late"]
theorem zaJ:FnScope zdj ["timetable", "thing"] (defScope zan):=⟨rfl,rfl,rfl,by decide +kernel,rfl,by decide +kernel,by decide +kernel⟩
abbrev zao:Stmt:=zc7 12
abbrev zdk:List Str:=["timetable", "thing", "part", "guard"]
theorem zbP:FnScope zdk ["timetable", "thing"] (defScope zao):=⟨rfl,rfl,rfl,by decide +kernel,rfl,by decide +kernel,by decide +kernel⟩
abbrev zaY:Stmt:=zc7 13
abbrev zj9:List Str:=["thing"]
theorem zj4:FnScope zj9 ["thing"] (defScope zaY):=⟨rfl,rfl,rfl,by decide +kernel,rfl,by decide +kernel,by decide +kernel⟩
abbrev zai:Stmt:=zc7 14
abbrev zeb:List Str:=["timetable", "event"]
theorem zcK:FnScope zeb ["timetable"] (defScope zai):=⟨rfl,rfl,rfl,by decide +kernel,rfl,by decide +kernel,by decide +kernel⟩
abbrev z8:Stmt:=zc7 15
abbrev zcr:List Str:=["timetable", "copies", "event", "number", "reader"]
theorem zaz:FnScope zcr ["timetable"] (defScope z8):=⟨rfl,rfl,rfl,by decide +kernel,rfl,by decide +kernel,by decide +kernel⟩
abbrev zc8:Stmt:=zc7 17
abbrev N_l_box:List Str:=["_law_script", "_law_k", "_law_cell", "_law_seed"]
theorem zij:FnScope N_l_box ["_law_script", "_law_k"] (defScope zc8):=⟨rfl,rfl,rfl,by decide +kernel,rfl,by decide +kernel,by decide +kernel⟩
abbrev zcg:Stmt:=zc7 18
abbrev N_l_take:List Str:=["_law_box_here", "_law_below", "_law_found", "_law_once", "_law_odd"]
theorem zet:FnScope N_l_take ["_law_box_here", "_law_below"] (defScope zcg):=⟨rfl,rfl,rfl,by decide +kernel,rfl,by decide +kernel,by decide +kernel⟩
abbrev zeE:Stmt:=zc7 19
abbrev N_l_of:List Str:=["_law_box_here", "_law_some"]
theorem S_l_of:FnScope N_l_of ["_law_box_here", "_law_some"] (defScope zeE):=⟨rfl,rfl,rfl,by decide +kernel,rfl,by decide +kernel,by decide +kernel⟩
abbrev zbR:Stmt:=zc7 20
abbrev zjh:List Str:=["_law_found", "_law_due", "_law_mine", "_law_its"]
theorem zeu:FnScope zjh ["_law_found", "_law_due"] (defScope zbR):=⟨rfl,rfl,rfl,by decide +kernel,rfl,by decide +kernel,by decide +kernel⟩
abbrev zbb:Stmt:=zc7 21
abbrev zhz:List Str:=["_law_matter", "_law_bit"]
theorem ze9:FnScope zhz ["_law_matter"] (defScope zbb):=⟨rfl,rfl,rfl,by decide +kernel,rfl,by decide +kernel,by decide +kernel⟩
abbrev zbE:Stmt:=zc7 22
abbrev zmn:List Str:=["_law_box_here", "_law_w", "_law_folk", "_law_names", "_law_words", "_law_way", "_law_p", "_law_key_so", "_law_gap"]
theorem zfa:FnScope zmn ["_law_box_here", "_law_w", "_law_folk", "_law_names", "_law_words"] (defScope zbE):=⟨rfl,rfl,rfl,by decide +kernel,rfl,by decide +kernel,by decide +kernel⟩
abbrev zbD:Stmt:=zc7 23
abbrev zmm:List Str:=["_law_w", "_law_event_so", "_law_word"]
theorem zhw:FnScope zmm ["_law_w", "_law_event_so"] (defScope zbD):=⟨rfl,rfl,rfl,by decide +kernel,rfl,by decide +kernel,by decide +kernel⟩
abbrev zbC:Stmt:=zc7 24
abbrev zml:List Str:=["_law_box_here", "_law_many_here", "_law_most", "_law_folk", "_law_names", "_law_words", "_law_found", "_law_w", "_law_turn", "_law_event_so", "_law_is_full"]
theorem zcL:FnScope zml ["_law_box_here", "_law_many_here", "_law_most", "_law_folk", "_law_names", "_law_words"] (defScope zbC):=⟨rfl,rfl,rfl,by decide +kernel,rfl,by decide +kernel,by decide +kernel⟩
abbrev zbc:Stmt:=zc7 25
abbrev zhB:List Str:=["_law_table_here", "_law_w", "_law_event_so", "_law_p"]
theorem zcM:FnScope zhB ["_law_table_here"] (defScope zbc):=⟨rfl,rfl,rfl,by decide +kernel,rfl,by decide +kernel,by decide +kernel⟩
abbrev zbS:Stmt:=zc7 26
abbrev zji:List Str:=["_law_table_here", "_law_spot", "_law_event_so"]
theorem zgr:FnScope zji ["_law_table_here", "_law_spot"] (defScope zbS):=⟨rfl,rfl,rfl,by decide +kernel,rfl,by decide +kernel,by decide +kernel⟩
abbrev zar:Stmt:=zc7 27
abbrev zcc:List Str:=["_law_box_here", "_law_table_here", "_law_count", "_law_readers_so", "_law_some", "_law_event_so", "_law_k", "_law_p", "_law_own"]
theorem zZ:FnScope zcc ["_law_box_here", "_law_table_here"] (defScope zar):=⟨rfl,rfl,rfl,by decide +kernel,rfl,by decide +kernel,by decide +kernel⟩
abbrev z7:Stmt:=zc7 28
abbrev zfm:List Str:=["_law_box_here", "_law_table_here", "_law_found", "_law_spot", "_law_turn"]
theorem za6:FnScope zfm ["_law_box_here", "_law_table_here"] (defScope z7):=⟨rfl,rfl,rfl,by decide +kernel,rfl,by decide +kernel,by decide +kernel⟩
abbrev zbq:Stmt:=zc7 29
abbrev zgs:List Str:=["_law_box_here", "_law_most", "_law_names", "_law_lots_here", "_law_word", "_law_signs", "_law_some", "_law_sign", "_law_own_so"]
theorem zbW:FnScope zgs ["_law_box_here", "_law_most", "_law_names"] (defScope zbq):=⟨rfl,rfl,rfl,by decide +kernel,rfl,by decide +kernel,by decide +kernel⟩
abbrev zaX:Stmt:=zc7 30
abbrev zj8:List Str:=["_law_box_here", "_law_w", "_law_folk", "_law_found", "_law_p", "_law_gap", "_law_way"]
theorem zcb:FnScope zj8 ["_law_box_here", "_law_w", "_law_folk"] (defScope zaX):=⟨rfl,rfl,rfl,by decide +kernel,rfl,by decide +kernel,by decide +kernel⟩
abbrev zbZ:Stmt:=zc7 31
abbrev zgt:List Str:=["_law_box_here", "_law_most", "_law_folk", "_law_far", "_law_lots_here", "_law_w", "_law_found", "_law_event_so", "_law_own_so", "_law_rest", "_law_p", "_law_some"]
theorem za3:FnScope zgt ["_law_box_here", "_law_most", "_law_folk", "_law_far"] (defScope zbZ):=⟨rfl,rfl,rfl,by decide +kernel,rfl,by decide +kernel,by decide +kernel⟩
abbrev zbF:Stmt:=zc7 32
abbrev zmo:List Str:=["_law_box_here", "_law_most", "_law_names", "_law_words", "_law_found"]
theorem zdG:FnScope zmo ["_law_box_here", "_law_most"] (defScope zbF):=⟨rfl,rfl,rfl,by decide +kernel,rfl,by decide +kernel,by decide +kernel⟩
abbrev zav:Stmt:=zc7 33
abbrev zhA:List Str:=["_law_matter"]
theorem zhx:FnScope zhA ["_law_matter"] (defScope zav):=⟨rfl,rfl,rfl,by decide +kernel,rfl,by decide +kernel,by decide +kernel⟩
abbrev zaW:Stmt:=zc7 34
abbrev zj7:List Str:=["_law_matter"]
theorem zj3:FnScope zj7 ["_law_matter"] (defScope zaW):=⟨rfl,rfl,rfl,by decide +kernel,rfl,by decide +kernel,by decide +kernel⟩
abbrev zaj:Stmt:=zc7 35
abbrev zec:List Str:=["_law_table_here", "_law_matter", "_law_last", "_law_when", "_law_end", "_law_own"]
theorem zay:FnScope zec ["_law_table_here", "_law_matter"] (defScope zaj):=⟨rfl,rfl,rfl,by decide +kernel,rfl,by decide +kernel,by decide +kernel⟩
abbrev zN:Stmt:=zc7 36
abbrev zbX:List Str:=["_law_table_here", "_law_matter", "_law_count", "_law_readers_so", "_law_sort_so", "_law_number", "_law_own", "_law_row"]
theorem zO:FnScope zbX ["_law_table_here", "_law_matter"] (defScope zN):=⟨rfl,rfl,rfl,by decide +kernel,rfl,by decide +kernel,by decide +kernel⟩
abbrev zch:Stmt:=zc7 37
abbrev N_l_bent:List Str:=["_law_box_here", "_law_matter", "_law_k", "_law_at", "_law_own", "_law_others", "_law_way", "_law_other_so", "_law_bent_here"]
theorem zcq:FnScope N_l_bent ["_law_box_here", "_law_matter"] (defScope zch):=⟨rfl,rfl,rfl,by decide +kernel,rfl,by decide +kernel,by decide +kernel⟩
abbrev zaO:Stmt:=zc7 38
abbrev zfb:List Str:=["_law_box_here", "_law_turn", "_law_table_here", "_law_soft", "_law_some", "_law_broom", "_law_watch_here", "_law_matter", "_law_told", "_law_due", "_law_fine", "_law_again"]
theorem zS:FnScope zfb ["_law_box_here"] (defScope zaO):=⟨rfl,rfl,rfl,by decide +kernel,rfl,by decide +kernel,by decide +kernel⟩
abbrev zgO:Stmt:=zc7 39
abbrev N_law:List Str:=["_law_script", "_law_k"]
theorem S_law:FnScope N_law ["_law_script"] (defScope zgO):=⟨rfl,rfl,rfl,by decide +kernel,rfl,by decide +kernel,by decide +kernel⟩
def names:List Nx:=[⟨.fn, "is_number",["thing"],false,[],[]⟩,
 ⟨.fn, "is_count",["thing"],false,[],[]⟩,
 ⟨.fn, "many_at",["timetable", "time"],false,[],[]⟩,
 ⟨.fn, "is_sweeps",["timetable", "thing"],true,[],[(["thing", "timetable"],[1,0])]⟩,
 ⟨.fn, "is_guards",["timetable", "thing"],true,[],[(["thing", "timetable"],[1,0])]⟩,
 ⟨.fn, "is_guard",["thing"],false,[],[]⟩,
 ⟨.fn, "readers_of",["timetable"],false,[],[]⟩,
 ⟨.fn, "guards_of",["timetable"],false,[],[]⟩,
 ⟨.fn, "_law_box",["_law_script", "_law_k"],false,[],[]⟩,
 ⟨.fn, "_law_take",["_law_box_here", "_law_below"],false,[],[]⟩,
 ⟨.fn, "_law_of",["_law_box_here", "_law_some"],false,[],[]⟩,
 ⟨.fn, "_law_same",["_law_found", "_law_due"],false,[],[]⟩,
 ⟨.fn, "_law_lists",["_law_matter"],false,[],[]⟩,
 ⟨.fn, "_law_event",["_law_box_here", "_law_w", "_law_folk", "_law_names", "_law_words"],false,[],[]⟩,
 ⟨.fn, "_law_moved",["_law_w", "_law_event_so"],false,[],[]⟩,
 ⟨.fn, "_law_table",["_law_box_here", "_law_many_here", "_law_most", "_law_folk", "_law_names", "_law_words"],false,[],[]⟩,
 ⟨.fn, "_law_ended",["_law_table_here"],false,[],[]⟩,
 ⟨.fn, "_law_many",["_law_table_here", "_law_spot"],false,[],[]⟩,
 ⟨.fn, "_law_watch",["_law_box_here", "_law_table_here"],false,[],[]⟩,
 ⟨.fn, "_law_some_broom",["_law_box_here", "_law_table_here"],false,[],[]⟩,
 ⟨.fn, "_law_lots",["_law_box_here", "_law_most", "_law_names"],false,[],[]⟩,
 ⟨.fn, "_law_beside",["_law_box_here", "_law_w", "_law_folk"],false,[],[]⟩,
 ⟨.fn, "_law_fit",["_law_box_here", "_law_most", "_law_folk", "_law_far"],false,[],[]⟩,
 ⟨.fn, "_law_drawn",["_law_box_here", "_law_most"],false,[],[]⟩,
 ⟨.fn, "_law_is_plain",["_law_matter"],false,[],[]⟩,
 ⟨.fn, "_law_is_duo",["_law_matter"],false,[],[]⟩,
 ⟨.fn, "_law_is_broom",["_law_table_here", "_law_matter"],false,[],[]⟩,
 ⟨.fn, "_law_is_watch",["_law_table_here", "_law_matter"],false,[],[]⟩,
 ⟨.fn, "_law_bent",["_law_box_here", "_law_matter"],false,[],[]⟩,
 ⟨.fn, "_law_right",["_law_box_here"],false,[],[]⟩,
 ⟨.fn, "law",["_law_script"],false,[],[]⟩]
structure Txt (K:PySem.W.Frag) (w:World) (mg:Str->Option Value):Prop where
 b_abs:mg "abs" = none
 b_all:mg "all" = none
 b_bool:mg "bool" = none
 b_int:mg "int" = none
 b_isinstance:mg "isinstance" = none
 b_len:mg "len" = none
 b_list:mg "list" = none
 b_min:mg "min" = none
 b_range:mg "range" = none
 b_set:mg "set" = none
 b_sorted:mg "sorted" = none
 b_str:mg "str" = none
 b_sum:mg "sum" = none
 b_tuple:mg "tuple" = none
 b_zip:mg "zip" = none
 c_COPY:∃ t,mg "COPY" = some (.str "copy" t)
 c_DROP:∃ t,mg "DROP" = some (.str "drop" t)
 c_JOIN:∃ t,mg "JOIN" = some (.str "join" t)
 c_LOAD:∃ t,mg "LOAD" = some (.str "load" t)
 c_PUT:∃ t,mg "PUT" = some (.str "put" t)
 c_READER:∃ t,mg "READER" = some (.str "reader" t)
 c_SAVE:∃ t,mg "SAVE" = some (.str "save" t)
def ze2:He.DefD:=⟨("is_number",none), "is_number", "is_number",defArgs zaG,defBody zaG,defScope zaG,[],[]⟩
def zfF:He.DefD:=⟨("is_count",none), "is_count", "is_count",defArgs zaZ,defBody zaZ,defScope zaZ,[],[]⟩
def zhh:He.DefD:=⟨("many_at",none), "many_at", "many_at",defArgs zba,defBody zba,defScope zba,[],[]⟩
def ze1:He.DefD:=⟨("is_sweeps",none), "is_sweeps", "is_sweeps",defArgs zan,defBody zan,defScope zan,[],[]⟩
def ze3:He.DefD:=⟨("is_guards",none), "is_guards", "is_guards",defArgs zao,defBody zao,defScope zao,[],[]⟩
def zfE:He.DefD:=⟨("is_guard",none), "is_guard", "is_guard",defArgs zaY,defBody zaY,defScope zaY,[],[]⟩
def zd6:He.DefD:=⟨("readers_of",none), "readers_of", "readers_of",defArgs zai,defBody zai,defScope zai,[],[]⟩
def ze4:He.DefD:=⟨("guards_of",none), "guards_of", "guards_of",defArgs z8,defBody z8,defScope z8,[],[]⟩
def zlX:He.DefD:=⟨("_law_box",none), "_law_box", "_law_box",defArgs zc8,defBody zc8,defScope zc8,[],[]⟩
def zi6:He.DefD:=⟨("_law_take",none), "_law_take", "_law_take",defArgs zcg,defBody zcg,defScope zcg,[],[]⟩
def d_l_of:He.DefD:=⟨("_law_of",none), "_law_of", "_law_of",defArgs zeE,defBody zeE,defScope zeE,[],[]⟩
def zi7:He.DefD:=⟨("_law_same",none), "_law_same", "_law_same",defArgs zbR,defBody zbR,defScope zbR,[],[]⟩
def zhm:He.DefD:=⟨("_law_lists",none), "_law_lists", "_law_lists",defArgs zbb,defBody zbb,defScope zbb,[],[]⟩
def zhn:He.DefD:=⟨("_law_event",none), "_law_event", "_law_event",defArgs zbE,defBody zbE,defScope zbE,[],[]⟩
def zhl:He.DefD:=⟨("_law_moved",none), "_law_moved", "_law_moved",defArgs zbD,defBody zbD,defScope zbD,[],[]⟩
def zhj:He.DefD:=⟨("_law_table",none), "_law_table", "_law_table",defArgs zbC,defBody zbC,defScope zbC,[],[]⟩
def zho:He.DefD:=⟨("_law_ended",none), "_law_ended", "_law_ended",defArgs zbc,defBody zbc,defScope zbc,[],[]⟩
def zi8:He.DefD:=⟨("_law_many",none), "_law_many", "_law_many",defArgs zbS,defBody zbS,defScope zbS,[],[]⟩
def zhi:He.DefD:=⟨("_law_watch",none), "_law_watch", "_law_watch",defArgs zar,defBody zar,defScope zar,[],[]⟩
def zc5:He.DefD:=⟨("_law_some_broom",none), "_law_some_broom", "_law_some_broom",defArgs z7,defBody z7,defScope z7,[],[]⟩
def zi9:He.DefD:=⟨("_law_lots",none), "_law_lots", "_law_lots",defArgs zbq,defBody zbq,defScope zbq,[],[]⟩
def zfD:He.DefD:=⟨("_law_beside",none), "_law_beside", "_law_beside",defArgs zaX,defBody zaX,defScope zaX,[],[]⟩
def zlW:He.DefD:=⟨("_law_fit",none), "_law_fit", "_law_fit",defArgs zbZ,defBody zbZ,defScope zbZ,[],[]⟩
def zhp:He.DefD:=⟨("_law_drawn",none), "_law_drawn", "_law_drawn",defArgs zbF,defBody zbF,defScope zbF,[],[]⟩
def zd8:He.DefD:=⟨("_law_is_plain",none), "_law_is_plain", "_law_is_plain",defArgs zav,defBody zav,defScope zav,[],[]⟩
def zfC:He.DefD:=⟨("_law_is_duo",none), "_law_is_duo", "_law_is_duo",defArgs zaW,defBody zaW,defScope zaW,[],[]⟩
def zd9:He.DefD:=⟨("_law_is_broom",none), "_law_is_broom", "_law_is_broom",defArgs zaj,defBody zaj,defScope zaj,[],[]⟩
def zd7:He.DefD:=⟨("_law_is_watch",none), "_law_is_watch", "_law_is_watch",defArgs zN,defBody zN,defScope zN,[],[]⟩
def zja:He.DefD:=⟨("_law_bent",none), "_law_bent", "_law_bent",defArgs zch,defBody zch,defScope zch,[],[]⟩
def zhk:He.DefD:=⟨("_law_right",none), "_law_right", "_law_right",defArgs zaO,defBody zaO,defScope zaO,[],[]⟩
def d_law:He.DefD:=⟨("law",none), "law", "law",defArgs zgO,defBody zgO,defScope zgO,[],[]⟩
def fnD:List He.DefD:=[ze2,zfF,zhh,ze1,ze3,zfE,zd6,ze4,zlX,zi6,d_l_of,zi7,zhm,zhn,zhl,zhj,zho,zi8,zhi,zc5,zi9,zfD,zlW,zhp,zd8,zfC,zd9,zd7,zja,zhk,d_law]
def faD:List He.Fa:=[.glo "is_number",.glo "is_count",.glo "many_at",.glo "is_sweeps",.glo "is_guards",.glo "is_guard",.glo "readers_of",.glo "guards_of",.glo "_law_box",.glo "_law_take",.glo "_law_of",.glo "_law_same",.glo "_law_lists",.glo "_law_event",.glo "_law_moved",.glo "_law_table",.glo "_law_ended",.glo "_law_many",.glo "_law_watch",.glo "_law_some_broom",.glo "_law_lots",.glo "_law_beside",.glo "_law_fit",.glo "_law_drawn",.glo "_law_is_plain",.glo "_law_is_duo",.glo "_law_is_broom",.glo "_law_is_watch",.glo "_law_bent",.glo "_law_right",.glo "law",.free "abs",.free "all",.free "bool",.free "int",.free "isinstance",.free "len",.free "list",.free "min",.free "range",.free "set",.free "sorted",.free "str",.free "sum",.free "tuple",.free "zip",.str "COPY" "copy",.str "DROP" "drop",.str "JOIN" "join",.str "LOAD" "load",.str "PUT" "put",.str "READER" "reader",.str "SAVE" "save"]
def tbD:List He.Tab:=[]
def exD:List (PySem.W.Frag->Bool):=[]
def asL:List Addr:=3::List.range' 4 1200
abbrev Rw:PySem.W.OpenRow:=PySem.W.OpenLaw.row PySem.Challenge.rw_missedmarks_k01_sweeps_and_guards_or_non
abbrev hk:PySem.W.Hook:=hookY asL faD fnD tbD tfD (exAll exD)
def ob (s:PySem.W.SharedT):He.AlX:=obsY asL faD fnD tbD tfD (exAll exD) (HandSHeadRun.getT s)
theorem ob_eq (s:PySem.W.SharedT):ob s=hk.obs s.abs:=obsY_eq (HandSHeadRun.getT_eq s)
def looseN:List Str:=[("is_number" : Str),("is_count" : Str),("many_at" : Str),("is_sweeps" : Str),("is_guards" : Str),("is_guard" : Str),("readers_of" : Str),("guards_of" : Str),("_law_box" : Str),("_law_take" : Str),("_law_of" : Str),("_law_same" : Str),("_law_lists" : Str),("_law_event" : Str),("_law_moved" : Str),("_law_table" : Str),("_law_ended" : Str),("_law_many" : Str),("_law_watch" : Str),("_law_some_broom" : Str),("_law_lots" : Str),("_law_beside" : Str),("_law_fit" : Str),("_law_drawn" : Str),("_law_is_plain" : Str),("_law_is_duo" : Str),("_law_is_broom" : Str),("_law_is_watch" : Str),("_law_bent" : Str),("_law_right" : Str),("COPY" : Str),("DROP" : Str),("JOIN" : Str),("LOAD" : Str),("PUT" : Str),("READER" : Str),("SAVE" : Str)]
def faP:List He.Fa:=[.glo "is_number",.glo "is_count",.glo "many_at",.glo "is_sweeps",.glo "is_guards",.glo "is_guard",.glo "readers_of",.glo "guards_of",.glo "_law_box",.glo "_law_take",.glo "_law_of",.glo "_law_same",.glo "_law_lists",.glo "_law_event",.glo "_law_moved",.glo "_law_table",.glo "_law_ended",.glo "_law_many",.glo "_law_watch",.glo "_law_some_broom",.glo "_law_lots",.glo "_law_beside",.glo "_law_fit",.glo "_law_drawn",.glo "_law_is_plain",.glo "_law_is_duo"]
def faQ:List He.Fa:=[.glo "_law_is_broom",.glo "_law_is_watch",.glo "_law_bent",.glo "_law_right",.glo "law",.free "abs",.free "all",.free "bool",.free "int",.free "isinstance",.free "len",.free "list",.free "min",.free "range",.free "set",.free "sorted",.free "str",.free "sum",.free "tuple",.free "zip",.str "COPY" "copy",.str "DROP" "drop",.str "JOIN" "join",.str "LOAD" "load",.str "PUT" "put",.str "READER" "reader",.str "SAVE" "save"]
def fnP:List He.DefD:=[ze2,zfF,zhh,ze1,ze3,zfE,zd6,ze4,zlX,zi6,d_l_of,zi7,zhm,zhn,zhl]
def fnQ:List He.DefD:=[zhj,zho,zi8,zhi,zc5,zi9,zfD,zlW,zhp,zd8,zfC,zd9,zd7,zja,zhk,d_law]
theorem fa_pq:faP++faQ=faD:=rfl
theorem fn_pq:fnP++fnQ=fnD:=rfl
set_option maxHeartbeats 0 in
theorem headrunP0 (w:World):HandSHeadRun.RunEq Rw (PySem.W.view Rw.prog [39]) (hookY asL faP fnP tbD tfD (exAll exD)) (fun s=>obsY asL faP fnP tbD tfD (exAll exD) (HandSHeadRun.getT s)) 6000 looseN (w.withFollow "special-get-raises" false):=by
 intro os
 kernel_rfl
set_option maxHeartbeats 0 in
theorem headrunQ0 (w:World):HandSHeadRun.RunEq Rw (PySem.W.view Rw.prog [39]) (hookY asL faQ fnQ [] [] Mp.oneT) (fun s=>obsY asL faQ fnQ [] [] Mp.oneT (HandSHeadRun.getT s)) 6000 looseN (w.withFollow "special-get-raises" false):=by
 intro os
 kernel_rfl
theorem headrun0 (w:World):HandSHeadRun.RunEq Rw (PySem.W.view Rw.prog [39]) hk ob 6000 looseN (w.withFollow "special-get-raises" false):=by
 have h:=Mp.run_two (headrunP0 w) (headrunQ0 w)
 rw [fa_pq,fn_pq] at h
 exact h
set_option maxHeartbeats 0 in
theorem headrunP1 (w:World):HandSHeadRun.RunEq Rw (PySem.W.view Rw.prog [39]) (hookY asL faP fnP tbD tfD (exAll exD)) (fun s=>obsY asL faP fnP tbD tfD (exAll exD) (HandSHeadRun.getT s)) 6000 looseN (w.withFollow "special-get-raises" true):=by
 intro os
 kernel_rfl
set_option maxHeartbeats 0 in
theorem headrunQ1 (w:World):HandSHeadRun.RunEq Rw (PySem.W.view Rw.prog [39]) (hookY asL faQ fnQ [] [] Mp.oneT) (fun s=>obsY asL faQ fnQ [] [] Mp.oneT (HandSHeadRun.getT s)) 6000 looseN (w.withFollow "special-get-raises" true):=by
 intro os
 kernel_rfl
theorem headrun1 (w:World):HandSHeadRun.RunEq Rw (PySem.W.view Rw.prog [39]) hk ob 6000 looseN (w.withFollow "special-get-raises" true):=by
 have h:=Mp.run_two (headrunP1 w) (headrunQ1 w)
 rw [fa_pq,fn_pq] at h
 exact h
theorem headrun (w:World):HandSHeadRun.RunEq Rw (PySem.W.view Rw.prog [39]) hk ob 6000 looseN w :=
 PySem.W.byRow2 "special-get-raises" (P:=fun w=>HandSHeadRun.RunEq Rw (PySem.W.view Rw.prog [39]) hk ob 6000 looseN w) headrun0 headrun1 w
section
variable {P:Program} {w:World} {K:PySem.W.Frag} {mg:Str->Option Value} {base:Heap} {f:Addr} {fd:FuncData} {k:Nat} {cf cf':CF}
theorem zgX (T:Txt K w mg) (C:zE P w K mg base names cf k) {dvs:List V} {kws:List (Str × V)} (F:FunD K "is_number" "is_number" (defArgs zaG) (defBody zaG) (defScope zaG) dvs kws f fd) (hcf:∀ xs M,cf' 0 xs M=zL cf zbf xs M) :
  FnOk P w K mg base CX0 (k+1+1) f fd ["thing"] (zbY K cf' 0 1):=by
 refine zQ (k:=k+1) (d:=zbf) F zik rfl rfl hcf fun cdv A outer s H E hr1=>?_
 have hr:=hr1.mono (Nat.le_succ k)
 exact (zc (zt (zbo (z0 (t:=.int) rfl T.b_isinstance (zb 0) (zac (t:=.int) rfl T.b_int (by decide +kernel))) (zc1 (zkl (z0 (t:=.bool) rfl T.b_isinstance (zb 0) (zac (t:=.bool) rfl T.b_bool (by decide +kernel))))))) ze)
theorem zhZ (T:Txt K w mg) (C:zE P w K mg base names cf k) {dvs:List V} {kws:List (Str × V)} (F:FunD K "is_count" "is_count" (defArgs zaZ) (defBody zaZ) (defScope zaZ) dvs kws f fd) (hcf:∀ xs M,cf' 1 xs M=zL cf zbL xs M) :
  FnOk P w K mg base CX0 (k+1+1) f fd ["thing"] (zbY K cf' 1 1):=by
 refine zQ (k:=k+1) (d:=zbL) F zj5 rfl rfl hcf fun cdv A outer s H E hr1=>?_
 have hr:=hr1.mono (Nat.le_succ k)
 exact (zc (zt (zbo (zi (C.own hr (n:=0) rfl) rfl (za (zb 0) zd)) (zc1 (zaD zgU (zb 0) zf (nomark _))))) ze)
theorem zjv (T:Txt K w mg) (C:zE P w K mg base names cf k) {dvs:List V} {kws:List (Str × V)} (F:FunD K "many_at" "many_at" (defArgs zba) (defBody zba) (defScope zba) dvs kws f fd) (hcf:∀ xs M,cf' 2 xs M=zL cf za0 xs M) :
  FnOk P w K mg base CX0 (k+1+1) f fd ["timetable", "time"] (zbY K cf' 2 2):=by
 refine zQ (k:=k+1) (d:=za0) F ze8 rfl rfl hcf fun cdv A outer s H E hr1=>?_
 have hr:=hr1.mono (Nat.le_succ k)
 exact (zc (zt (zB zaf (by rfl) T.b_len (by decide +kernel) (za (za8 (own:=[("event",2)]) rfl ze8.nd (zT (zbn (zb 0) xo0 (xo1 (zb 1)))) (blkOk_by (own:=[("event",2)]) (N:=zhy) (sc:=defScope zba) (by decide +kernel)) (fun _ _ _ _ _=>(zg 2 ze8.nd)) (fun _ _ _ _ _=>zbA (zp (zc4 hr.units) (zm hr.units (zb 2) zf (fun _ _=>rfl)) (zq (za (zbp rfl T.c_PUT) (za (zbp rfl T.c_DROP) zd))) rfl)) (fun _ _ _ _ _=>(zb 2)) (by decide)) zd))) ze)
theorem zgW (T:Txt K w mg) (C:zE P w K mg base names cf k) {dvs:List V} {kws:List (Str × V)} (F:FunD K "is_sweeps" "is_sweeps" (defArgs zan) (defBody zan) (defScope zan) dvs kws f fd) (hcf:∀ xs M,cf' 3 xs M=zL cf zbe xs M) :
  FnOk P w K mg base CX0 (k+1+1) f fd ["timetable", "thing"] (zbY K cf' 3 2):=by
 refine zQ (k:=k+1) (d:=zbe) F zaJ rfl rfl hcf fun cdv A outer s H E hr1=>?_
 have hr:=hr1.mono (Nat.le_succ k)
 exact (zc (z9 (zbm (zaM (z0 (t:=.tuple) rfl T.b_isinstance (zb 1) (zac (t:=.tuple) rfl T.b_tuple (by decide +kernel))))) (zc (zt zcs) ze) ze) (zc (zb4 PassesOwn.never rfl (zT (zb 1)) (zg 2 zaJ.nd) (zc (z9 (zin (zed (zbm (zaM (z0 (t:=.tuple) rfl T.b_isinstance (zb 2) (zac (t:=.tuple) rfl T.b_tuple (by decide +kernel))))) (zed (zp (zdX hr.units) (zB zaf (by rfl) T.b_len (by decide +kernel) (za (zb 2) zd)) zf (nomark _)) (zdl rfl (zbm (zaM (zB (zcH rfl) (by rfl) T.b_all (by decide +kernel) (za (za8 (own:=[("part",3)]) rfl zaJ.nd (zT (zb 2)) (blkOk_by (own:=[("part",3)]) (N:=zdj) (sc:=defScope zan) (by decide +kernel)) (fun _ _ _ _ _=>(zg 3 zaJ.nd)) (fun _ _ _ _ _=>zal) (fun _ _ _ _ _=>(zi (C.own hr (n:=1) rfl) rfl (za (zb 3) zd))) (by decide)) zd)))))))) (zc (zt zcs) ze) ze) (zc (z9 (zin (zed (zp zeK (zm hr.units (zb 2) zf (fun _ _=>rfl)) (zB zaf (by rfl) T.b_len (by decide +kernel) (za (zb 0) zd)) (nomark _)) (zdl rfl (zp zeK (zm hr.units (zb 2) zf (fun _ _=>rfl)) (zi (C.own hr (n:=2) rfl) rfl (za (zb 0) (za (zm hr.units (zb 2) zf (fun _ _=>rfl)) zd))) (nomark _))))) (zc (zt zcs) ze) ze) ze))) (zc (zt (zB (zcH rfl) (by rfl) T.b_all (by decide +kernel) (za (za8 (own:=[("early",4),("late",5)]) rfl zaJ.nd (xi_zip rfl T.b_zip (zb 1) (zbn (zb 1) (xo1 zf) xo0)) (blkOk_by (own:=[("early",4),("late",5)]) (N:=zdj) (sc:=defScope zan) (by decide +kernel)) (fun _ _ _ _ _=>(zgA rfl (za4 (zg 4 zaJ.nd) (za4 (zg 5 zaJ.nd) zew)))) (fun _ _ _ _ _=>zal) (fun _ _ _ _ _=>(zaD ziF (zm hr.units (zb 4) zf (fun _ _=>rfl)) (zm hr.units (zb 5) zf (fun _ _=>rfl)) (nomark _))) (by decide)) zd))) ze)))
theorem zgY (T:Txt K w mg) (C:zE P w K mg base names cf k) {dvs:List V} {kws:List (Str × V)} (F:FunD K "is_guards" "is_guards" (defArgs zao) (defBody zao) (defScope zao) dvs kws f fd) (hcf:∀ xs M,cf' 4 xs M=zL cf zaL xs M) :
  FnOk P w K mg base CX0 (k+1+1) f fd ["timetable", "thing"] (zbY K cf' 4 2):=by
 refine zQ (k:=k+1) (d:=zaL) F zbP rfl rfl hcf fun cdv A outer s H E hr1=>?_
 have hr:=hr1.mono (Nat.le_succ k)
 exact (zc (z9 (zin (zed (zbm (zaM (z0 (t:=.tuple) rfl T.b_isinstance (zb 1) (zac (t:=.tuple) rfl T.b_tuple (by decide +kernel))))) (zdl rfl (zbm (zaM (zB (zcH rfl) (by rfl) T.b_all (by decide +kernel) (za (za8 (own:=[("part",2)]) rfl zbP.nd (zT (zb 1)) (blkOk_by (own:=[("part",2)]) (N:=zdk) (sc:=defScope zao) (by decide +kernel)) (fun _ _ _ _ _=>(zg 2 zbP.nd)) (fun _ _ _ _ _=>zal) (fun _ _ _ _ _=>(zi (C.own hr (n:=5) rfl) rfl (za (zb 2) zd))) (by decide)) zd))))))) (zc (zt zcs) ze) ze) (zc (zt (zbo (zaD (zG hr.units) (zaT zgk (by rfl) T.b_list (by decide +kernel) (za (zb 1) zd)) (zgB hr.units rfl rfl T.b_sorted rfl T.b_set (zb 1)) (nomark _)) (zc1 (zB (zcH rfl) (by rfl) T.b_all (by decide +kernel) (za (za8 (own:=[("guard",3)]) rfl zbP.nd (zT (zb 1)) (blkOk_by (own:=[("guard",3)]) (N:=zdk) (sc:=defScope zao) (by decide +kernel)) (fun _ _ _ _ _=>(zg 3 zbP.nd)) (fun _ _ _ _ _=>zal) (fun _ _ _ _ _=>(zaD (zc4 hr.units) (zb 3) (zi (C.own hr (n:=7) rfl) rfl (za (zb 0) zd)) rfl)) (by decide)) zd))))) ze))
theorem zhY (T:Txt K w mg) (C:zE P w K mg base names cf k) {dvs:List V} {kws:List (Str × V)} (F:FunD K "is_guard" "is_guard" (defArgs zaY) (defBody zaY) (defScope zaY) dvs kws f fd) (hcf:∀ xs M,cf' 5 xs M=zL cf zbK xs M) :
  FnOk P w K mg base CX0 (k+1+1) f fd ["thing"] (zbY K cf' 5 1):=by
 refine zQ (k:=k+1) (d:=zbK) F zj4 rfl rfl hcf fun cdv A outer s H E hr1=>?_
 have hr:=hr1.mono (Nat.le_succ k)
 exact (zc (zt (zbo (z0 (t:=.tuple) rfl T.b_isinstance (zb 0) (zac (t:=.tuple) rfl T.b_tuple (by decide +kernel))) (zbo (zaD (zG hr.units) (zB zaf (by rfl) T.b_len (by decide +kernel) (za (zb 0) zd)) zf (nomark _)) (zbo (zaD (zc4 hr.units) (zm hr.units (zb 0) zf (fun _ _=>rfl)) (zq (za (zbp rfl T.c_READER) (za (zbp rfl T.c_COPY) zd))) rfl) (zc1 (zi (C.own hr (n:=1) rfl) rfl (za (zm hr.units (zb 0) zf (fun _ _=>rfl)) zd))))))) ze)
theorem zfZ (T:Txt K w mg) (C:zE P w K mg base names cf k) {dvs:List V} {kws:List (Str × V)} (F:FunD K "readers_of" "readers_of" (defArgs zai) (defBody zai) (defScope zai) dvs kws f fd) (hcf:∀ xs M,cf' 6 xs M=zL cf zaP xs M) :
  FnOk P w K mg base CX0 (k+1+1) f fd ["timetable"] (zbY K cf' 6 1):=by
 refine zQ (k:=k+1) (d:=zaP) F zcK rfl rfl hcf fun cdv A outer s H E hr1=>?_
 have hr:=hr1.mono (Nat.le_succ k)
 exact (zc (zt (xe_ssc (own:=[("event",1)]) rfl zcK.nd rfl T.b_sorted (zT (zb 0)) (blkOk_by (own:=[("event",1)]) (N:=zeb) (sc:=defScope zai) (by decide +kernel)) (fun _ _ _ _ _=>(zg 1 zcK.nd)) (fun _ _ _ _ _=>zbA (zp (zc4 hr.units) (zm hr.units (zb 1) zf (fun _ _=>rfl)) (zq (za (zbp rfl T.c_JOIN) (za (zbp rfl T.c_LOAD) zd))) rfl)) (fun _ _ _ _ _=>(zm hr.units (zb 1) zf (fun _ _=>rfl))) (by decide))) ze)
theorem zgZ (T:Txt K w mg) (C:zE P w K mg base names cf k) {dvs:List V} {kws:List (Str × V)} (F:FunD K "guards_of" "guards_of" (defArgs z8) (defBody z8) (defScope z8) dvs kws f fd) (hcf:∀ xs M,cf' 7 xs M=zL cf zX xs M) :
  FnOk P w K mg base CX0 (k+1+1) f fd ["timetable"] (zbY K cf' 7 1):=by
 refine zQ (k:=k+1) (d:=zX) F zaz rfl rfl hcf fun cdv A outer s H E hr1=>?_
 have hr:=hr1.mono (Nat.le_succ k)
 exact (zc (zF (zB zaf (by rfl) T.b_len (by decide +kernel) (za (za8 (own:=[("event",2)]) rfl zaz.nd (zT (zb 0)) (blkOk_by (own:=[("event",2)]) (N:=zcr) (sc:=defScope z8) (by decide +kernel)) (fun _ _ _ _ _=>(zg 2 zaz.nd)) (fun _ _ _ _ _=>zbA (zp (zG hr.units) (zm hr.units (zb 2) zf (fun _ _=>rfl)) (zbp rfl T.c_SAVE) (nomark _))) (fun _ _ _ _ _=>(zb 2)) (by decide)) zd)) (zg 1 zaz.nd)) (zc (zt (zn zu (za8 (own:=[("number",3)]) rfl zaz.nd (zbB rfl T.b_range (zb 1)) (blkOk_by (own:=[("number",3)]) (N:=zcr) (sc:=defScope z8) (by decide +kernel)) (fun _ _ _ _ _=>(zg 3 zaz.nd)) (fun _ _ _ _ _=>zal) (fun _ _ _ _ _=>(zq (za (zbp rfl T.c_COPY) (za (zb 3) zd)))) (by decide)) (za8 (own:=[("reader",4)]) rfl zaz.nd (zT (zi (C.own hr (n:=6) rfl) rfl (za (zb 0) zd))) (blkOk_by (own:=[("reader",4)]) (N:=zcr) (sc:=defScope z8) (by decide +kernel)) (fun _ _ _ _ _=>(zg 4 zaz.nd)) (fun _ _ _ _ _=>zal) (fun _ _ _ _ _=>(zq (za (zbp rfl T.c_READER) (za (zb 4) zd)))) (by decide)))) ze))
theorem ok_l_box (T:Txt K w mg) (C:zE P w K mg base names cf k) {dvs:List V} {kws:List (Str × V)} (F:FunD K "_law_box" "_law_box" (defArgs zc8) (defBody zc8) (defScope zc8) dvs kws f fd) (hcf:∀ xs M,cf' 8 xs M=zL cf zci xs M) :
  FnOk P w K mg base CX0 (k+1+1) f fd ["_law_script", "_law_k"] (zbY K cf' 8 2):=by
 refine zQ (k:=k+1) (d:=zci) F zij rfl rfl hcf fun cdv A outer s H E hr1=>?_
 have hr:=hr1.mono (Nat.le_succ k)
 exact (zc (zF (zgC (zp zgT (zb 1) (zB zaf (by rfl) T.b_len (by decide +kernel) (za (zb 0) zd)) (nomark _)) (zm hr.units (zb 0) (zb 1) (fun _ _=>rfl)) zf) (zg 2 zij.nd)) (zc (zF (zn zda (zaT zdA (by rfl) T.b_int (by decide +kernel) (za (zn zc9 (zn zu (zn zu (zn zda (zaT zdA (by rfl) T.b_int (by decide +kernel) (za (zb 2) zd)) zf) (zn zc9 zf (zb 1))) zf) zf) zd)) zf) (zg 3 zij.nd)) (zc (zt (zah (za (zn zc9 (zB cl_abs (by rfl) T.b_abs (by decide +kernel) (za (zb 2) zd)) (zaT zdA (by rfl) T.b_int (by decide +kernel) (za (zaD zgU (zB cl_abs (by rfl) T.b_abs (by decide +kernel) (za (zb 2) zd)) (zn zhU zf zf) (nomark _)) zd))) (za (zb 3) (za zf zd))))) ze)))
theorem zli (T:Txt K w mg) (C:zE P w K mg base names cf k) {dvs:List V} {kws:List (Str × V)} (F:FunD K "_law_take" "_law_take" (defArgs zcg) (defBody zcg) (defScope zcg) dvs kws f fd) (hcf:∀ xs M,cf' 9 xs M=zL cf zbI xs M) :
  FnOk P w K mg base CX0 (k+1+1) f fd ["_law_box_here", "_law_below"] (zbY K cf' 9 2):=by
 refine zQ (k:=k+1) (d:=zbI) F zet rfl rfl hcf fun cdv A outer s H E hr1=>?_
 have hr:=hr1.mono (Nat.le_succ k)
 exact (zc (z9 (zp zeK (zm hr.units (zb 0) zf (fun _ _=>rfl)) zf (nomark _)) (zc (zF (zn zda (zaT zdA (by rfl) T.b_int (by decide +kernel) (za (zm hr.units (zb 0) zf (fun _ _=>rfl)) zd)) (zb 1)) (zg 2 zet.nd)) (zc (zfo hr.units (zn zfY (zm hr.units (zb 0) zf (fun _ _=>rfl)) (zb 1)) (zb 0) zf) (zc (zt (zb 2)) ze))) ze) (zc (zfo hr.units (zn zu (zm hr.units (zb 0) zf (fun _ _=>rfl)) zf) (zb 0) zf) (zc (zF (zn zda (zaT zdA (by rfl) T.b_int (by decide +kernel) (za (zn zhU (zn zu (zm hr.units (zb 0) zf (fun _ _=>rfl)) (zn zc9 zf (zm hr.units (zb 0) zf (fun _ _=>rfl)))) zf) zd)) zf) (zg 3 zet.nd)) (zc (zF (zn zu (zn zda (zaT zdA (by rfl) T.b_int (by decide +kernel) (za (zb 3) zd)) zf) zf) (zg 4 zet.nd)) (zc (zt (zn zda (zaT zdA (by rfl) T.b_int (by decide +kernel) (za (zn zfY (zn zda (zaT zdA (by rfl) T.b_int (by decide +kernel) (za (zn zu (zn zc9 (zb 3) (zb 4)) (zn zc9 (zm hr.units (zb 0) zf (fun _ _=>rfl)) zf)) zd)) zf) zf) zd)) (zb 1))) ze)))))
theorem ok_l_of (T:Txt K w mg) (C:zE P w K mg base names cf k) {dvs:List V} {kws:List (Str × V)} (F:FunD K "_law_of" "_law_of" (defArgs zeE) (defBody zeE) (defScope zeE) dvs kws f fd) (hcf:∀ xs M,cf' 10 xs M=zL cf zcy xs M) :
  FnOk P w K mg base CX0 (k+1+1) f fd ["_law_box_here", "_law_some"] (zbY K cf' 10 2):=by
 refine zQ (k:=k+1) (d:=zcy) F S_l_of rfl rfl hcf fun cdv A outer s H E hr1=>?_
 have hr:=hr1.mono (Nat.le_succ k)
 exact (zc (zt (zm hr.units (zb 1) (zi (C.own hr (n:=9) rfl) rfl (za (zb 0) (za (zB zaf (by rfl) T.b_len (by decide +kernel) (za (zb 1) zd)) zd))) (fun _ _=>rfl))) ze)
theorem zlj (T:Txt K w mg) (C:zE P w K mg base names cf k) {dvs:List V} {kws:List (Str × V)} (F:FunD K "_law_same" "_law_same" (defArgs zbR) (defBody zbR) (defScope zbR) dvs kws f fd) (hcf:∀ xs M,cf' 11 xs M=zL cf zax xs M) :
  FnOk P w K mg base CX0 (k+1+1) f fd ["_law_found", "_law_due"] (zbY K cf' 11 2):=by
 refine zQ (k:=k+1) (d:=zax) F zeu rfl rfl hcf fun cdv A outer s H E hr1=>?_
 have hr:=hr1.mono (Nat.le_succ k)
 exact (zc (z9 (zaM (zhF (ts:=[.list,.tuple]) rfl T.b_isinstance (zb 1) (pa_cons (zac (t:=.list) rfl T.b_list (by decide +kernel)) (pa_cons (zac (t:=.tuple) rfl T.b_tuple (by decide +kernel)) pa_nil)) (by decide) (fun _ _ _ h=>h))) (zc (z9 (zp (zdX hr.units) (z0 (t:=.list) rfl T.b_isinstance (zb 0) (zac (t:=.list) rfl T.b_list (by decide +kernel))) (z0 (t:=.list) rfl T.b_isinstance (zb 1) (zac (t:=.list) rfl T.b_list (by decide +kernel))) (nomark _)) (zc (zt zcs) ze) ze) (zc (z9 (zp (zdX hr.units) (z0 (t:=.tuple) rfl T.b_isinstance (zb 0) (zac (t:=.tuple) rfl T.b_tuple (by decide +kernel))) (z0 (t:=.tuple) rfl T.b_isinstance (zb 1) (zac (t:=.tuple) rfl T.b_tuple (by decide +kernel))) (nomark _)) (zc (zt zcs) ze) ze) (zc (zt (zbo (zaD (zG hr.units) (zB zaf (by rfl) T.b_len (by decide +kernel) (za (zb 0) zd)) (zB zaf (by rfl) T.b_len (by decide +kernel) (za (zb 1) zd)) (nomark _)) (zc1 (zB (zcH rfl) (by rfl) T.b_all (by decide +kernel) (za (za8 (own:=[("_law_mine",2),("_law_its",3)]) rfl zeu.nd (xi_zip rfl T.b_zip (zb 0) (zb 1)) (blkOk_by (own:=[("_law_mine",2),("_law_its",3)]) (N:=zjh) (sc:=defScope zbR) (by decide +kernel)) (fun _ _ _ _ _=>(zgA rfl (za4 (zg 2 zeu.nd) (za4 (zg 3 zeu.nd) zew)))) (fun _ _ _ _ _=>zal) (fun _ _ _ _ _=>(zi (C.own hr (n:=11) rfl) rfl (za (zb 2) (za (zb 3) zd)))) (by decide)) zd))))) ze))) ze) (zc (z9 (zin (zed (zp zhV (zb 1) zdn (nomark _)) (zdl rfl (zaM (zhF (ts:=[.bool,.str]) rfl T.b_isinstance (zb 1) (pa_cons (zac (t:=.bool) rfl T.b_bool (by decide +kernel)) (pa_cons (zac (t:=.str) rfl T.b_str (by decide +kernel)) pa_nil)) (by decide) (fun _ _ _ h=>h)))))) (zc (zt (zbo (zaD (zG hr.units) (zb 0) (zb 1) (nomark _)) (zbo (zaD (zG hr.units) (z0 (t:=.bool) rfl T.b_isinstance (zb 0) (zac (t:=.bool) rfl T.b_bool (by decide +kernel))) (z0 (t:=.bool) rfl T.b_isinstance (zb 1) (zac (t:=.bool) rfl T.b_bool (by decide +kernel))) (nomark _)) (zc1 (zaD (zG hr.units) (zaD zhV (zb 0) zdn (nomark _)) (zaD zhV (zb 1) zdn (nomark _)) (nomark _)))))) ze) ze) (zc (zt (zbo (z0 (t:=.int) rfl T.b_isinstance (zb 0) (zac (t:=.int) rfl T.b_int (by decide +kernel))) (zbo (zkl (z0 (t:=.bool) rfl T.b_isinstance (zb 0) (zac (t:=.bool) rfl T.b_bool (by decide +kernel)))) (zc1 (zaD (zG hr.units) (zb 0) (zb 1) (nomark _)))))) ze)))
theorem zjA (T:Txt K w mg) (C:zE P w K mg base names cf k) {dvs:List V} {kws:List (Str × V)} (F:FunD K "_law_lists" "_law_lists" (defArgs zbb) (defBody zbb) (defScope zbb) dvs kws f fd) (hcf:∀ xs M,cf' 12 xs M=zL cf zbx xs M) :
  FnOk P w K mg base CX0 (k+1+1) f fd ["_law_matter"] (zbY K cf' 12 1):=by
 refine zQ (k:=k+1) (d:=zbx) F ze9 rfl rfl hcf fun cdv A outer s H E hr1=>?_
 have hr:=hr1.mono (Nat.le_succ k)
 exact (zc (zt (zgC (zaM (zhF (ts:=[.list,.tuple]) rfl T.b_isinstance (zb 0) (pa_cons (zac (t:=.list) rfl T.b_list (by decide +kernel)) (pa_cons (zac (t:=.tuple) rfl T.b_tuple (by decide +kernel)) pa_nil)) (by decide) (fun _ _ _ h=>h))) (za8 (own:=[("_law_bit",1)]) rfl ze9.nd (zT (zb 0)) (blkOk_by (own:=[("_law_bit",1)]) (N:=zhz) (sc:=defScope zbb) (by decide +kernel)) (fun _ _ _ _ _=>(zg 1 ze9.nd)) (fun _ _ _ _ _=>zal) (fun _ _ _ _ _=>(zi (C.own hr (n:=12) rfl) rfl (za (zb 1) zd))) (by decide)) (zb 0))) ze)
theorem zjB (T:Txt K w mg) (C:zE P w K mg base names cf k) {dvs:List V} {kws:List (Str × V)} (F:FunD K "_law_event" "_law_event" (defArgs zbE) (defBody zbE) (defScope zbE) dvs kws f fd) (hcf:∀ xs M,cf' 13 xs M=zL cf zH xs M) :
  FnOk P w K mg base CX0 (k+1+1) f fd ["_law_box_here", "_law_w", "_law_folk", "_law_names", "_law_words"] (zbY K cf' 13 5):=by
 refine zQ (k:=k+1) (d:=zH) F zfa rfl rfl hcf fun cdv A outer s H E hr1=>?_
 have hr:=hr1.mono (Nat.le_succ k)
 exact (zc (xs_par3 (m:=5) (n:=6) (l:=7) rfl zfa.nd rfl rfl rfl (by decide) (by decide) (by decide) rfl rfl rfl (za (zm hr.units (zb 4) (zi (C.own hr (n:=9) rfl) rfl (za (zb 0) (za (zB zaf (by rfl) T.b_len (by decide +kernel) (za (zb 4) zd)) zd))) (fun _ _=>rfl)) (za (zi (C.own hr (n:=9) rfl) rfl (za (zb 0) (za (zb 2) zd))) (za (zi (C.own hr (n:=10) rfl) rfl (za (zb 0) (za (zb 3) zd))) zd))) (by rfl)) (zc (z9 (zp (zG hr.units) (zb 5) zj (nomark _)) (zc (zt (zq (za zj (za (zb 7) (za (zi (C.own hr (n:=9) rfl) rfl (za (zb 0) (za zf zd))) zd))))) ze) ze) (zc (z9 (zp (zc4 hr.units) (zb 5) (zq (za zj (za zj zd))) rfl) (zc (zt (zgC (zp (zG hr.units) (zb 5) zj (nomark _)) (zq (za zj (za (zb 7) zd))) (zq (za zj zd)))) ze) ze) (zc (z9 (zp (zG hr.units) (zb 5) zj (nomark _)) (zc (zt (zq (za zj (za (zb 6) zd)))) ze) ze) (zc (z9 (zp (zG hr.units) (zb 5) zj (nomark _)) (zc (zt (zgC (zp (zdX hr.units) (zm hr.units (zb 1) zj (fun _ _=>rfl)) (zah zd) (nomark _)) (zq (za zj (za (zb 6) (za (zi (C.own hr (n:=9) rfl) rfl (za (zb 0) (za (zB zaf (by rfl) T.b_len (by decide +kernel) (za (zm hr.units (zb 1) zj (fun _ _=>rfl)) zd)) zd))) zd)))) zdn)) ze) ze) (zc (z9 (zp (zeJ hr.units) (zb 6) (zm hr.units (zb 1) zj (fun _ _=>rfl)) rfl) (zc (zt (zq (za zj (za (zb 6) zd)))) ze) ze) (zc (z9 (zp (zG hr.units) (zb 5) zj (nomark _)) (zc (zt (zq (za zj (za (zb 6) zd)))) ze) ze) (zc (zF (zn zfX (zm hr.units (zb 1) zj (fun _ _=>rfl)) (zm hr.units (zm hr.units (zb 1) zj (fun _ _=>rfl)) (zb 6) (fun _ _=>rfl))) (zg 8 zfa.nd)) (zc (zt (zgC (zp zeK (zb 8) zf (nomark _)) (zq (za zj (za (zb 6) (za (zn zu (zn zu (zm hr.units (zm hr.units (zb 1) zj (fun _ _=>rfl)) (zb 6) (fun _ _=>rfl)) zf) (zi (C.own hr (n:=9) rfl) rfl (za (zb 0) (za (zb 8) zd)))) zd)))) zdn)) ze)))))))))
theorem zjz (T:Txt K w mg) (C:zE P w K mg base names cf k) {dvs:List V} {kws:List (Str × V)} (F:FunD K "_law_moved" "_law_moved" (defArgs zbD) (defBody zbD) (defScope zbD) dvs kws f fd) (hcf:∀ xs M,cf' 14 xs M=zL cf zV xs M) :
  FnOk P w K mg base CX0 (k+1+1) f fd ["_law_w", "_law_event_so"] (zbY K cf' 14 2):=by
 refine zQ (k:=k+1) (d:=zV) F zhw rfl rfl hcf fun cdv A outer s H E hr1=>?_
 have hr:=hr1.mono (Nat.le_succ k)
 exact (zc (zF (zm hr.units (zb 1) zf (fun _ _=>rfl)) (zg 2 zhw.nd)) (zc (z9 (zp (zc4 hr.units) (zb 2) (zq (za zj (za zj zd))) rfl) (zc (zfo hr.units (zn zu (zm hr.units (zb 0) zj (fun _ _=>rfl)) zf) (zb 0) zj) ze) (zc (z9 (zp (zG hr.units) (zb 2) zj (nomark _)) (zc (zfo hr.units zf (zm hr.units (zb 0) zj (fun _ _=>rfl)) (zm hr.units (zb 1) zf (fun _ _=>rfl))) ze) (zc (z9 (zp (zG hr.units) (zb 2) zj (nomark _)) (zc (zfo hr.units (zm hr.units (zb 1) zf (fun _ _=>rfl)) (zm hr.units (zb 0) zj (fun _ _=>rfl)) (zm hr.units (zb 1) zf (fun _ _=>rfl))) ze) (zc (z9 (zp (zG hr.units) (zb 2) zj (nomark _)) (zc (za7 (zaq (zm hr.units (zb 0) zj (fun _ _=>rfl)) (zm hr.units (zm hr.units (zb 0) zj (fun _ _=>rfl)) (zm hr.units (zb 1) zf (fun _ _=>rfl)) (fun _ _=>rfl)))) ze) (zc (z9 (zp (zG hr.units) (zb 2) zj (nomark _)) (zc (zfo hr.units (zm hr.units (zm hr.units (zb 0) zj (fun _ _=>rfl)) (zm hr.units (zb 1) zf (fun _ _=>rfl)) (fun _ _=>rfl)) (zm hr.units (zb 0) zj (fun _ _=>rfl)) (zm hr.units (zb 1) zf (fun _ _=>rfl))) ze) ze) ze)) ze)) ze)) ze)) ze))
theorem zjx (T:Txt K w mg) (C:zE P w K mg base names cf k) {dvs:List V} {kws:List (Str × V)} (F:FunD K "_law_table" "_law_table" (defArgs zbC) (defBody zbC) (defScope zbC) dvs kws f fd) (hcf:∀ xs M,cf' 15 xs M=zL cf zbv xs M) :
  FnOk P w K mg base CX0 (k+1+1) f fd ["_law_box_here", "_law_many_here", "_law_most", "_law_folk", "_law_names", "_law_words"] (zbY K cf' 15 6):=by
 refine zQ (k:=k+1) (d:=zbv) F zcL rfl rfl hcf fun cdv A outer s H E hr1=>?_
 have hr:=hr1.mono (Nat.le_succ k)
 exact (zc (zc6 (m:=6) (n:=7) rfl zcL.nd rfl rfl (by decide) rfl rfl (za (zah zd) (za (zkm (zdm zhG (zdm (zah zd) (zdm zf zkj))) rfl rfl (fun z=>by cases z) (by decide)) zd)) (by rfl)) (zc (zb4 PassesOwn.never rfl (zbB rfl T.b_range (zb 1)) (zg 8 zcL.nd) (zc (zF (zi (C.own hr (n:=13) rfl) rfl (za (zb 0) (za (zb 7) (za (zb 3) (za (zb 4) (za (zb 5) zd)))))) (zg 9 zcL.nd)) (zc (zF (zbo (zaD ziG (zb 9) zdn (nomark _)) (zbo (zaD (zc4 hr.units) (zm hr.units (zb 9) zf (fun _ _=>rfl)) (zq (za zj (za zj zd))) rfl) (zc1 (zaD zgU (zm hr.units (zb 7) zj (fun _ _=>rfl)) (zb 2) (nomark _))))) (zg 10 zcL.nd)) (zc (z9 (zin (zfn (zp ziG (zb 9) zdn (nomark _)) (zfn (zbm (zaM (zb 10))) (zev rfl (zin (zed (zp (zdX hr.units) (zm hr.units (zb 9) zf (fun _ _=>rfl)) zj (nomark _)) (zdl rfl (zp zgT (zB zaf (by rfl) T.b_len (by decide +kernel) (za (zm hr.units (zb 7) zj (fun _ _=>rfl)) zd)) zf (nomark _))))))))) (zc (za7 (zi (C.own hr (n:=14) rfl) rfl (za (zb 7) (za (zb 9) zd)))) (zc (za7 (zaq (zb 6) (zb 9))) ze)) ze) ze)))) (zc (zt (zaT zdz (by rfl) T.b_tuple (by decide +kernel) (za (zb 6) zd))) ze)))
theorem zjC (T:Txt K w mg) (C:zE P w K mg base names cf k) {dvs:List V} {kws:List (Str × V)} (F:FunD K "_law_ended" "_law_ended" (defArgs zbc) (defBody zbc) (defScope zbc) dvs kws f fd) (hcf:∀ xs M,cf' 16 xs M=zL cf zby xs M) :
  FnOk P w K mg base CX0 (k+1+1) f fd ["_law_table_here"] (zbY K cf' 16 1):=by
 refine zQ (k:=k+1) (d:=zby) F zcM rfl rfl hcf fun cdv A outer s H E hr1=>?_
 have hr:=hr1.mono (Nat.le_succ k)
 exact (zc (zF (zkm (zdm zhG (zdm (zah zd) (zdm zf zkj))) rfl rfl (fun z=>by cases z) (by decide)) (zg 1 zcM.nd)) (zc (zb4 PassesOwn.never rfl (zT (zb 0)) (zg 2 zcM.nd) (zc (za7 (zi (C.own hr (n:=14) rfl) rfl (za (zb 1) (za (zb 2) zd)))) ze)) (zc (zt (zn zu (zb 0) (zaT zdz (by rfl) T.b_tuple (by decide +kernel) (za (za8 (own:=[("_law_p",3)]) rfl zcM.nd (zT (zB (zl4 rfl) (by rfl) T.b_sorted (by decide +kernel) (za (zm hr.units (zb 1) zj (fun _ _=>rfl)) zd))) (blkOk_by (own:=[("_law_p",3)]) (N:=zhB) (sc:=defScope zbc) (by decide +kernel)) (fun _ _ _ _ _=>(zg 3 zcM.nd)) (fun _ _ _ _ _=>zbA (zp zgT (zm hr.units (zm hr.units (zb 1) zj (fun _ _=>rfl)) (zb 3) (fun _ _=>rfl)) (zm hr.units (zb 1) zj (fun _ _=>rfl)) (nomark _))) (fun _ _ _ _ _=>(zq (za zj (za (zb 3) (za (zm hr.units (zb 1) zj (fun _ _=>rfl)) zd))))) (by decide)) zd)))) ze)))
theorem zlk (T:Txt K w mg) (C:zE P w K mg base names cf k) {dvs:List V} {kws:List (Str × V)} (F:FunD K "_law_many" "_law_many" (defArgs zbS) (defBody zbS) (defScope zbS) dvs kws f fd) (hcf:∀ xs M,cf' 17 xs M=zL cf zcz xs M) :
  FnOk P w K mg base CX0 (k+1+1) f fd ["_law_table_here", "_law_spot"] (zbY K cf' 17 2):=by
 refine zQ (k:=k+1) (d:=zcz) F zgr rfl rfl hcf fun cdv A outer s H E hr1=>?_
 have hr:=hr1.mono (Nat.le_succ k)
 exact (zc (zt (zB zaf (by rfl) T.b_len (by decide +kernel) (za (za8 (own:=[("_law_event_so",2)]) rfl zgr.nd (zT (zbn (zb 0) xo0 (xo1 (zb 1)))) (blkOk_by (own:=[("_law_event_so",2)]) (N:=zji) (sc:=defScope zbS) (by decide +kernel)) (fun _ _ _ _ _=>(zg 2 zgr.nd)) (fun _ _ _ _ _=>zbA (zp (zc4 hr.units) (zm hr.units (zb 2) zf (fun _ _=>rfl)) (zq (za zj (za zj zd))) rfl)) (fun _ _ _ _ _=>(zb 2)) (by decide)) zd))) ze)
theorem zjw (T:Txt K w mg) (C:zE P w K mg base names cf k) {dvs:List V} {kws:List (Str × V)} (F:FunD K "_law_watch" "_law_watch" (defArgs zar) (defBody zar) (defScope zar) dvs kws f fd) (hcf:∀ xs M,cf' 18 xs M=zL cf zb8 xs M) :
  FnOk P w K mg base CX0 (k+1+1) f fd ["_law_box_here", "_law_table_here"] (zbY K cf' 18 2):=by
 refine zQ (k:=k+1) (d:=zb8) F zZ rfl rfl hcf fun cdv A outer s H E hr1=>?_
 have hr:=hr1.mono (Nat.le_succ k)
 exact (zc (zF (zB zaf (by rfl) T.b_len (by decide +kernel) (za (za8 (own:=[("_law_event_so",5)]) rfl zZ.nd (zT (zb 1)) (blkOk_by (own:=[("_law_event_so",5)]) (N:=zcc) (sc:=defScope zar) (by decide +kernel)) (fun _ _ _ _ _=>(zg 5 zZ.nd)) (fun _ _ _ _ _=>zbA (zp (zG hr.units) (zm hr.units (zb 5) zf (fun _ _=>rfl)) zj (nomark _))) (fun _ _ _ _ _=>(zb 5)) (by decide)) zd)) (zg 2 zZ.nd)) (zc (zF (xe_ssort rfl rfl T.b_sorted rfl T.b_set (za8 (own:=[("_law_event_so",5)]) rfl zZ.nd (zT (zb 1)) (blkOk_by (own:=[("_law_event_so",5)]) (N:=zcc) (sc:=defScope zar) (by decide +kernel)) (fun _ _ _ _ _=>(zg 5 zZ.nd)) (fun _ _ _ _ _=>zbA (zp (zc4 hr.units) (zm hr.units (zb 5) zf (fun _ _=>rfl)) (zq (za zj (za zj zd))) rfl)) (fun _ _ _ _ _=>(zm hr.units (zb 5) zf (fun _ _=>rfl))) (by decide))) (zg 3 zZ.nd)) (zc (zF (zn zu (za8 (own:=[("_law_k",6)]) rfl zZ.nd (zbB rfl T.b_range (zb 2)) (blkOk_by (own:=[("_law_k",6)]) (N:=zcc) (sc:=defScope zar) (by decide +kernel)) (fun _ _ _ _ _=>(zg 6 zZ.nd)) (fun _ _ _ _ _=>zal) (fun _ _ _ _ _=>(zq (za zj (za (zb 6) zd)))) (by decide)) (za8 (own:=[("_law_p",7)]) rfl zZ.nd (zT (zb 3)) (blkOk_by (own:=[("_law_p",7)]) (N:=zcc) (sc:=defScope zar) (by decide +kernel)) (fun _ _ _ _ _=>(zg 7 zZ.nd)) (fun _ _ _ _ _=>zal) (fun _ _ _ _ _=>(zq (za zj (za (zb 7) zd)))) (by decide))) (zg 4 zZ.nd)) (zc (zt (zaT zdz (by rfl) T.b_tuple (by decide +kernel) (za (za8 (own:=[("_law_own",8)]) rfl zZ.nd (zT (zb 4)) (blkOk_by (own:=[("_law_own",8)]) (N:=zcc) (sc:=defScope zar) (by decide +kernel)) (fun _ _ _ _ _=>(zg 8 zZ.nd)) (fun _ _ _ _ _=>zbA (zp (zG hr.units) (zi (C.own hr (n:=9) rfl) rfl (za (zb 0) (za zf zd))) zf (nomark _))) (fun _ _ _ _ _=>(zb 8)) (by decide)) zd))) ze))))
theorem zeM (T:Txt K w mg) (C:zE P w K mg base names cf k) {dvs:List V} {kws:List (Str × V)} (F:FunD K "_law_some_broom" "_law_some_broom" (defArgs z7) (defBody z7) (defScope z7) dvs kws f fd) (hcf:∀ xs M,cf' 19 xs M=zL cf zaw xs M) :
  FnOk P w K mg base CX0 (k+1+1) f fd ["_law_box_here", "_law_table_here"] (zbY K cf' 19 2):=by
 refine zQ (k:=k+1) (d:=zaw) F za6 rfl rfl hcf fun cdv A outer s H E hr1=>?_
 have hr:=hr1.mono (Nat.le_succ k)
 exact (zc (zF (zah zd) (zg 2 za6.nd)) (zc (zb4 PassesOwn.never rfl (zbB rfl T.b_range (zn zu (zB zaf (by rfl) T.b_len (by decide +kernel) (za (zb 1) zd)) zf)) (zg 3 za6.nd) (zc (zb4 PassesOwn.never rfl (zbB rfl T.b_range (zi (C.own hr (n:=10) rfl) rfl (za (zb 0) (za (zah (za zf (za zf (za zf (za zf (za zf zd)))))) zd)))) (zg 4 za6.nd) (zc (za7 (zaq (zb 2) (zq (za (zb 3) (za (zi (C.own hr (n:=9) rfl) rfl (za (zb 0) (za (zn zu (zi (C.own hr (n:=17) rfl) rfl (za (zb 1) (za (zb 3) zd))) zf) zd))) zd))))) ze)) ze)) (zc (zt (zaT zdz (by rfl) T.b_tuple (by decide +kernel) (za (zb 2) zd))) ze)))
theorem zll (T:Txt K w mg) (C:zE P w K mg base names cf k) {dvs:List V} {kws:List (Str × V)} (F:FunD K "_law_lots" "_law_lots" (defArgs zbq) (defBody zbq) (defScope zbq) dvs kws f fd) (hcf:∀ xs M,cf' 20 xs M=zL cf zb9 xs M) :
  FnOk P w K mg base CX0 (k+1+1) f fd ["_law_box_here", "_law_most", "_law_names"] (zbY K cf' 20 3):=by
 refine zQ (k:=k+1) (d:=zb9) F zbW rfl rfl hcf fun cdv A outer s H E hr1=>?_
 have hr:=hr1.mono (Nat.le_succ k)
 exact (zc (zF (zah zd) (zg 3 zbW.nd)) (zc (zb4 PassesOwn.never rfl (zT (zb 2)) (zg 4 zbW.nd) (zc (zF (zm hr.units (zah (za zj (za zj (za zj (za zj (za zj (za zj zd))))))) (zi (C.own hr (n:=9) rfl) rfl (za (zb 0) (za zf zd))) (fun _ _=>rfl)) (zg 5 zbW.nd)) (zc (zfJ (own:=[("_law_sign",7)]) (n:=6) rfl zbW.nd rfl rfl (sw_true rfl rfl rfl (by decide +kernel)) (zT (zb 5)) (blkOk_by (own:=[("_law_sign",7)]) (N:=zgs) (sc:=defScope zbq) (by decide +kernel)) (fun _ _ _ _ _=>(zg 7 zbW.nd)) (fun _ _ _ _ _=>zal) (fun _ _ _ _ _=>(zgC (zp (zG hr.units) (zb 7) zj (nomark _)) (zq (za zj (za (zb 4) (za (zi (C.own hr (n:=9) rfl) rfl (za (zb 0) (za zf zd))) zd)))) (zq (za zj (za (zb 4) zd))))) (by decide)) (zc (z9 (zp ziF (zn zu (zB (cl_sum rfl) (by rfl) T.b_sum (by decide +kernel) (za (za8 (own:=[("_law_own_so",8)]) rfl zbW.nd (zT (zb 3)) (blkOk_by (own:=[("_law_own_so",8)]) (N:=zgs) (sc:=defScope zbq) (by decide +kernel)) (fun _ _ _ _ _=>(zg 8 zbW.nd)) (fun _ _ _ _ _=>zal) (fun _ _ _ _ _=>(zB zaf (by rfl) T.b_len (by decide +kernel) (za (zb 8) zd))) (by decide)) zd)) (zB zaf (by rfl) T.b_len (by decide +kernel) (za (zb 6) zd))) (zb 1) (nomark _)) (zc (za7 (zaq (zb 3) (zb 6))) ze) ze) ze)))) (zc (zt (zb 3)) ze)))
theorem zhX (T:Txt K w mg) (C:zE P w K mg base names cf k) {dvs:List V} {kws:List (Str × V)} (F:FunD K "_law_beside" "_law_beside" (defArgs zaX) (defBody zaX) (defScope zaX) dvs kws f fd) (hcf:∀ xs M,cf' 21 xs M=zL cf zw xs M) :
  FnOk P w K mg base CX0 (k+1+1) f fd ["_law_box_here", "_law_w", "_law_folk"] (zbY K cf' 21 3):=by
 refine zQ (k:=k+1) (d:=zw) F zcb rfl rfl hcf fun cdv A outer s H E hr1=>?_
 have hr:=hr1.mono (Nat.le_succ k)
 exact (zc (zF (zah zd) (zg 3 zcb.nd)) (zc (zb4 PassesOwn.never rfl (zbB rfl T.b_range (zb 2)) (zg 4 zcb.nd) (zc (zF (zn zfX (zm hr.units (zb 1) zj (fun _ _=>rfl)) (zm hr.units (zm hr.units (zb 1) zj (fun _ _=>rfl)) (zb 4) (fun _ _=>rfl))) (zg 5 zcb.nd)) (zc (z9 (zin (zfn (zp zeK (zb 5) zf (nomark _)) (zev rfl (zp (zG hr.units) (zi (C.own hr (n:=9) rfl) rfl (za (zb 0) (za zf zd))) zf (nomark _))))) (zc (za7 (zaq (zb 3) (zq (za zj (za (zb 4) (za (zn zu (zn zu (zm hr.units (zm hr.units (zb 1) zj (fun _ _=>rfl)) (zb 4) (fun _ _=>rfl)) zf) (zi (C.own hr (n:=9) rfl) rfl (za (zb 0) (za (zb 5) zd)))) zd)))))) ze) ze) ze))) (zc (zc6 (m:=6) (n:=4) rfl zcb.nd rfl rfl (by decide) rfl rfl (za (zi (C.own hr (n:=9) rfl) rfl (za (zb 0) (za zf zd))) (za (zi (C.own hr (n:=9) rfl) rfl (za (zb 0) (za (zb 2) zd))) zd)) (by rfl)) (zc (z9 (zp (zG hr.units) (zb 6) zf (nomark _)) (zc (za7 (zaq (zb 3) (zq (za zj zd)))) ze) ze) (zc (z9 (zin (zfn (zp (zG hr.units) (zb 6) zf (nomark _)) (zev rfl (zp zgT (zB zaf (by rfl) T.b_len (by decide +kernel) (za (zm hr.units (zb 1) zj (fun _ _=>rfl)) zd)) zf (nomark _))))) (zc (za7 (zaq (zb 3) (zq (za zj (za (zb 4) zd))))) ze) ze) (zc (z9 (zin (zfn (zp (zG hr.units) (zb 6) zf (nomark _)) (zev rfl (zp (zdX hr.units) (zm hr.units (zb 1) zj (fun _ _=>rfl)) (zah zd) (nomark _))))) (zc (za7 (zaq (zb 3) (zq (za zj (za (zb 4) (za (zi (C.own hr (n:=9) rfl) rfl (za (zb 0) (za (zB zaf (by rfl) T.b_len (by decide +kernel) (za (zm hr.units (zb 1) zj (fun _ _=>rfl)) zd)) zd))) zd)))))) ze) ze) (zc (z9 (zp (zG hr.units) (zb 6) zf (nomark _)) (zc (za7 (zaq (zb 3) (zq (za zj (za (zb 4) zd))))) ze) ze) (zc (zt (zb 3)) ze))))))))
theorem ok_l_fit (T:Txt K w mg) (C:zE P w K mg base names cf k) {dvs:List V} {kws:List (Str × V)} (F:FunD K "_law_fit" "_law_fit" (defArgs zbZ) (defBody zbZ) (defScope zbZ) dvs kws f fd) (hcf:∀ xs M,cf' 22 xs M=zL cf zbU xs M) :
  FnOk P w K mg base CX0 (k+1+1) f fd ["_law_box_here", "_law_most", "_law_folk", "_law_far"] (zbY K cf' 22 4):=by
 refine zQ (k:=k+1) (d:=zbU) F za3 rfl rfl hcf fun cdv A outer s H E hr1=>?_
 have hr:=hr1.mono (Nat.le_succ k)
 exact (zc (zF (zi (C.own hr (n:=20) rfl) rfl (za (zb 0) (za (zb 1) (za (zbn (zah (za zj (za zj (za zj zd)))) xo0 (xo1 (zn zfX (zn zfY (zb 1) zf) (zaT zdA (by rfl) T.b_int (by decide +kernel) (za (zaD (zG hr.units) (zb 2) zf (nomark _)) zd))))) zd)))) (zg 4 za3.nd)) (zc (zc6 (m:=5) (n:=6) rfl za3.nd rfl rfl (by decide) rfl rfl (za (zkm (zdm zhG (zdm (zah zd) (zdm zf zkj))) rfl rfl (fun z=>by cases z) (by decide)) (za (za8 (own:=[("_law_p",10)]) rfl za3.nd (zbB rfl T.b_range (zb 2)) (blkOk_by (own:=[("_law_p",10)]) (N:=zgt) (sc:=defScope zbZ) (by decide +kernel)) (fun _ _ _ _ _=>(zg 10 za3.nd)) (fun _ _ _ _ _=>zal) (fun _ _ _ _ _=>(zq (za zj (za (zb 10) zd)))) (by decide)) zd)) (by rfl)) (zc (zb4 PassesOwn.never rfl (zT (zb 6)) (zg 7 za3.nd) (zc (za7 (zi (C.own hr (n:=14) rfl) rfl (za (zb 5) (za (zb 7) zd)))) ze)) (zc (xs_whl PassesOwn.never (zp (zdX hr.units) (zb 4) (zah zd) (nomark _)) (zc (zF (zm hr.units (zb 4) (zi (C.own hr (n:=9) rfl) rfl (za (zb 0) (za (zB zaf (by rfl) T.b_len (by decide +kernel) (za (zb 4) zd)) zd))) (fun _ _=>rfl)) (zg 8 za3.nd)) (zc (za7 (zaq (zb 6) (xe_pop1 (zb 8) zf))) (zc (za7 (zi (C.own hr (n:=14) rfl) rfl (za (zb 5) (za (zm hr.units (zb 6) (xe_neg zf) (fun _ _=>rfl)) zd)))) (zc (zfJ (own:=[("_law_some",11)]) (n:=4) rfl za3.nd rfl rfl (sw_true rfl rfl rfl (by decide +kernel)) (zT (zb 4)) (blkOk_by (own:=[("_law_some",11)]) (N:=zgt) (sc:=defScope zbZ) (by decide +kernel)) (fun _ _ _ _ _=>(zg 11 za3.nd)) (fun _ _ _ _ _=>zbA (zp (zdX hr.units) (zb 11) (zah zd) (nomark _))) (fun _ _ _ _ _=>(zb 11)) (by decide)) (zc (zF (zB (cl_sum rfl) (by rfl) T.b_sum (by decide +kernel) (za (za8 (own:=[("_law_some",11)]) rfl za3.nd (zT (zb 4)) (blkOk_by (own:=[("_law_some",11)]) (N:=zgt) (sc:=defScope zbZ) (by decide +kernel)) (fun _ _ _ _ _=>(zg 11 za3.nd)) (fun _ _ _ _ _=>zal) (fun _ _ _ _ _=>(zB zaf (by rfl) T.b_len (by decide +kernel) (za (zb 11) zd))) (by decide)) zd)) (zg 9 za3.nd)) (zc (zb4 PassesOwn.never rfl (zT (zi (C.own hr (n:=21) rfl) rfl (za (zb 0) (za (zb 5) (za (zb 2) zd))))) (zg 7 za3.nd) (zc (z9 (zp zgT (zn zu (zn zu (zB zaf (by rfl) T.b_len (by decide +kernel) (za (zb 6) zd)) (zb 9)) (zb 2)) (zb 3) (nomark _)) (zc (za7 (zi (C.own hr (n:=14) rfl) rfl (za (zb 5) (za (zb 7) zd)))) (zc (za7 (zaq (zb 6) (zb 7))) ze)) ze) ze)) ze))))))) (zc (zt (zi (C.own hr (n:=16) rfl) rfl (za (zaT zdz (by rfl) T.b_tuple (by decide +kernel) (za (zb 6) zd)) zd))) ze)))))
theorem zjD (T:Txt K w mg) (C:zE P w K mg base names cf k) {dvs:List V} {kws:List (Str × V)} (F:FunD K "_law_drawn" "_law_drawn" (defArgs zbF) (defBody zbF) (defScope zbF) dvs kws f fd) (hcf:∀ xs M,cf' 23 xs M=zL cf zaK xs M) :
  FnOk P w K mg base CX0 (k+1+1) f fd ["_law_box_here", "_law_most"] (zbY K cf' 23 2):=by
 refine zQ (k:=k+1) (d:=zaK) F zdG rfl rfl hcf fun cdv A outer s H E hr1=>?_
 have hr:=hr1.mono (Nat.le_succ k)
 exact (zc (z9 (zp (zG hr.units) (zi (C.own hr (n:=9) rfl) rfl (za (zb 0) (za zf zd))) zf (nomark _)) (zc (zt (zi (C.own hr (n:=22) rfl) rfl (za (zb 0) (za (zb 1) (za (zn zu zf (zi (C.own hr (n:=9) rfl) rfl (za (zb 0) (za zf zd)))) (za zf zd)))))) ze) ze) (zc (zF (zbn (zah (za zj (za zj (za zj (za zj zd))))) xo0 (xo1 (zn zu zf (zi (C.own hr (n:=9) rfl) rfl (za (zb 0) (za zf zd)))))) (zg 2 zdG.nd)) (zc (zF (zi (C.own hr (n:=10) rfl) rfl (za (zb 0) (za (zah (za zj (za zj (za zj zd)))) zd))) (zg 3 zdG.nd)) (zc (zF (zi (C.own hr (n:=15) rfl) rfl (za (zb 0) (za (zn zu zf (zi (C.own hr (n:=9) rfl) rfl (za (zb 0) (za zf zd)))) (za (zb 1) (za (zn zu zf (zi (C.own hr (n:=9) rfl) rfl (za (zb 0) (za zf zd)))) (za (zb 2) (za (zb 3) zd))))))) (zg 4 zdG.nd)) (zc (zt (zgC (zp zeK (zi (C.own hr (n:=9) rfl) rfl (za (zb 0) (za zf zd))) zf (nomark _)) (zi (C.own hr (n:=16) rfl) rfl (za (zb 4) zd)) (zb 4))) ze)))))
theorem zf1 (T:Txt K w mg) (C:zE P w K mg base names cf k) {dvs:List V} {kws:List (Str × V)} (F:FunD K "_law_is_plain" "_law_is_plain" (defArgs zav) (defBody zav) (defScope zav) dvs kws f fd) (hcf:∀ xs M,cf' 24 xs M=zL cf zaQ xs M) :
  FnOk P w K mg base CX0 (k+1+1) f fd ["_law_matter"] (zbY K cf' 24 1):=by
 refine zQ (k:=k+1) (d:=zaQ) F zhx rfl rfl hcf fun cdv A outer s H E hr1=>?_
 have hr:=hr1.mono (Nat.le_succ k)
 exact (zc (zt (zbo (z0 (t:=.int) rfl T.b_isinstance (zb 0) (zac (t:=.int) rfl T.b_int (by decide +kernel))) (zbo (zkl (z0 (t:=.bool) rfl T.b_isinstance (zb 0) (zac (t:=.bool) rfl T.b_bool (by decide +kernel)))) (zc1 (zaD zgU (zb 0) zf (nomark _)))))) ze)
theorem zhW (T:Txt K w mg) (C:zE P w K mg base names cf k) {dvs:List V} {kws:List (Str × V)} (F:FunD K "_law_is_duo" "_law_is_duo" (defArgs zaW) (defBody zaW) (defScope zaW) dvs kws f fd) (hcf:∀ xs M,cf' 25 xs M=zL cf zbJ xs M) :
  FnOk P w K mg base CX0 (k+1+1) f fd ["_law_matter"] (zbY K cf' 25 1):=by
 refine zQ (k:=k+1) (d:=zbJ) F zj3 rfl rfl hcf fun cdv A outer s H E hr1=>?_
 have hr:=hr1.mono (Nat.le_succ k)
 exact (zc (zt (zbo (z0 (t:=.tuple) rfl T.b_isinstance (zb 0) (zac (t:=.tuple) rfl T.b_tuple (by decide +kernel))) (zc1 (zaD (zG hr.units) (zB zaf (by rfl) T.b_len (by decide +kernel) (za (zb 0) zd)) zf (nomark _))))) ze)
theorem zf2 (T:Txt K w mg) (C:zE P w K mg base names cf k) {dvs:List V} {kws:List (Str × V)} (F:FunD K "_law_is_broom" "_law_is_broom" (defArgs zaj) (defBody zaj) (defScope zaj) dvs kws f fd) (hcf:∀ xs M,cf' 26 xs M=zL cf zaR xs M) :
  FnOk P w K mg base CX0 (k+1+1) f fd ["_law_table_here", "_law_matter"] (zbY K cf' 26 2):=by
 refine zQ (k:=k+1) (d:=zaR) F zay rfl rfl hcf fun cdv A outer s H E hr1=>?_
 have hr:=hr1.mono (Nat.le_succ k)
 exact (zc (z9 (zin (zed (zbm (zaM (z0 (t:=.tuple) rfl T.b_isinstance (zb 1) (zac (t:=.tuple) rfl T.b_tuple (by decide +kernel))))) (zdl rfl (zbm (zaM (zB (zcH rfl) (by rfl) T.b_all (by decide +kernel) (za (za8 (own:=[("_law_own",5)]) rfl zay.nd (zT (zb 1)) (blkOk_by (own:=[("_law_own",5)]) (N:=zec) (sc:=defScope zaj) (by decide +kernel)) (fun _ _ _ _ _=>(zg 5 zay.nd)) (fun _ _ _ _ _=>zal) (fun _ _ _ _ _=>(zi (C.own hr (n:=25) rfl) rfl (za (zb 5) zd))) (by decide)) zd))))))) (zc (zt zcs) ze) ze) (zc (zF zf (zg 2 zay.nd)) (zc (zb4 PassesOwn.never rfl (zT (zb 1)) (zgA rfl (za4 (zg 3 zay.nd) (za4 (zg 4 zay.nd) zew))) (zc (z9 (zin (zed (zbm (zaM (zi (C.own hr (n:=24) rfl) rfl (za (zb 3) zd)))) (zed (zbm (zaM (zi (C.own hr (n:=24) rfl) rfl (za (zb 4) zd)))) (zdl rfl (zbm (xt_chn ziF ziF (zb 2) (zb 3) (zB zaf (by rfl) T.b_len (by decide +kernel) (za (zb 0) zd)))))))) (zc (zt zcs) ze) ze) (zc (z9 (zp zeK (zb 4) (zi (C.own hr (n:=17) rfl) rfl (za (zb 0) (za (zb 3) zd))) (nomark _)) (zc (zt zcs) ze) ze) (zc (zF (zb 3) (zg 2 zay.nd)) ze)))) (zc (zt zcs) ze))))
theorem zf0 (T:Txt K w mg) (C:zE P w K mg base names cf k) {dvs:List V} {kws:List (Str × V)} (F:FunD K "_law_is_watch" "_law_is_watch" (defArgs zN) (defBody zN) (defScope zN) dvs kws f fd) (hcf:∀ xs M,cf' 27 xs M=zL cf zW xs M) :
  FnOk P w K mg base CX0 (k+1+1) f fd ["_law_table_here", "_law_matter"] (zbY K cf' 27 2):=by
 refine zQ (k:=k+1) (d:=zW) F zO rfl rfl hcf fun cdv A outer s H E hr1=>?_
 have hr:=hr1.mono (Nat.le_succ k)
 exact (zc (z9 (zin (zed (zbm (zaM (z0 (t:=.tuple) rfl T.b_isinstance (zb 1) (zac (t:=.tuple) rfl T.b_tuple (by decide +kernel))))) (zdl rfl (zbm (zaM (zB (zcH rfl) (by rfl) T.b_all (by decide +kernel) (za (za8 (own:=[("_law_own",6)]) rfl zO.nd (zT (zb 1)) (blkOk_by (own:=[("_law_own",6)]) (N:=zbX) (sc:=defScope zN) (by decide +kernel)) (fun _ _ _ _ _=>(zg 6 zO.nd)) (fun _ _ _ _ _=>zal) (fun _ _ _ _ _=>(zi (C.own hr (n:=25) rfl) rfl (za (zb 6) zd))) (by decide)) zd))))))) (zc (zt zcs) ze) ze) (zc (zF (zB zaf (by rfl) T.b_len (by decide +kernel) (za (za8 (own:=[("_law_row",7)]) rfl zO.nd (zT (zb 0)) (blkOk_by (own:=[("_law_row",7)]) (N:=zbX) (sc:=defScope zN) (by decide +kernel)) (fun _ _ _ _ _=>(zg 7 zO.nd)) (fun _ _ _ _ _=>zbA (zp (zG hr.units) (zm hr.units (zb 7) zf (fun _ _=>rfl)) zj (nomark _))) (fun _ _ _ _ _=>(zb 7)) (by decide)) zd)) (zg 2 zO.nd)) (zc (zfJ (own:=[("_law_row",7)]) (n:=3) rfl zO.nd rfl rfl (sw_true rfl rfl rfl (by decide +kernel)) (zT (zb 0)) (blkOk_by (own:=[("_law_row",7)]) (N:=zbX) (sc:=defScope zN) (by decide +kernel)) (fun _ _ _ _ _=>(zg 7 zO.nd)) (fun _ _ _ _ _=>zbA (zp (zc4 hr.units) (zm hr.units (zb 7) zf (fun _ _=>rfl)) (zq (za zj (za zj zd))) rfl)) (fun _ _ _ _ _=>(zm hr.units (zb 7) zf (fun _ _=>rfl))) (by decide)) (zc (zb4 PassesOwn.never rfl (zT (zb 1)) (zgA rfl (za4 (zg 4 zO.nd) (za4 (zg 5 zO.nd) zew))) (zc (z9 (zin (zed (zbm (zaM (z0 (t:=.str) rfl T.b_isinstance (zb 4) (zac (t:=.str) rfl T.b_str (by decide +kernel))))) (zed (zp (zeJ hr.units) (zb 4) (zq (za zj (za zj zd))) rfl) (zdl rfl (zbm (zaM (zi (C.own hr (n:=24) rfl) rfl (za (zb 5) zd)))))))) (zc (zt zcs) ze) ze) (zc (z9 (xt_if (zp (zG hr.units) (zb 4) zj (nomark _)) (zp zgU (zb 5) (zb 2) (nomark _)) (zp (zeJ hr.units) (zb 5) (zb 3) rfl)) (zc (zt zcs) ze) ze) ze))) (zc (zt (zaD (zG hr.units) (zaT zgk (by rfl) T.b_list (by decide +kernel) (za (zb 1) zd)) (zgB hr.units rfl rfl T.b_sorted rfl T.b_set (zb 1)) (nomark _))) ze)))))
theorem zlm (T:Txt K w mg) (C:zE P w K mg base names cf k) {dvs:List V} {kws:List (Str × V)} (F:FunD K "_law_bent" "_law_bent" (defArgs zch) (defBody zch) (defScope zch) dvs kws f fd) (hcf:∀ xs M,cf' 28 xs M=zL cf zca xs M) :
  FnOk P w K mg base CX0 (k+1+1) f fd ["_law_box_here", "_law_matter"] (zbY K cf' 28 2):=by
 refine zQ (k:=k+1) (d:=zca) F zcq rfl rfl hcf fun cdv A outer s H E hr1=>?_
 have hr:=hr1.mono (Nat.le_succ k)
 exact (zc (z9 (zp (zG hr.units) (zb 1) (zq zd) (nomark _)) (zc (zt (zi (C.own hr (n:=10) rfl) rfl (za (zb 0) (za (zah (za (zah zd) (za (zq (za (zq zd) zd)) (za (zq (za (zq (za zf zd)) zd)) (za (zq (za (zq (za zf (za zf (za zf zd)))) zd)) (za (zq (za (zq (za zj (za zf zd))) zd)) (za (zq (za (zq (za zf (za zcs zd))) zd)) (za (zq (za (zq (za zj (za zf zd))) zd)) zd)))))))) zd)))) ze) ze) (zc (zc6 (m:=2) (n:=3) rfl zcq.nd rfl rfl (by decide) rfl rfl (za (zi (C.own hr (n:=9) rfl) rfl (za (zb 0) (za (zB zaf (by rfl) T.b_len (by decide +kernel) (za (zb 1) zd)) zd))) (za (zi (C.own hr (n:=9) rfl) rfl (za (zb 0) (za zf zd))) zd)) (by rfl)) (zc (zc6 (m:=4) (n:=5) rfl zcq.nd rfl rfl (by decide) rfl rfl (za (zm hr.units (zb 1) (zb 2) (fun _ _=>rfl)) (za (zah (za zcs (za (xe_neg zf) (za zf (za zf (za zf (za zf (za zj (za zj (za zj (za zdn (za (zq zd) (za (zn zhU zf zf) zd))))))))))))) zd)) (by rfl)) (zc (zF (zi (C.own hr (n:=9) rfl) rfl (za (zb 0) (za zf zd))) (zg 6 zcq.nd)) (zc (z9 (zp (zG hr.units) (zb 6) zf (nomark _)) (zc (zt (zn zu (zn zu (zbn (zb 1) xo0 (xo1 (zb 2))) (zbn (zb 1) (xo1 (zb 2)) (xo1 (zn zu (zb 2) zf)))) (zbn (zb 1) (xo1 (zb 2)) xo0))) ze) ze) (zc (z9 (zp (zG hr.units) (zb 6) zf (nomark _)) (zc (zt (zn zu (zn zu (zbn (zb 1) xo0 (xo1 (zb 2))) (zkk (zbn (zb 1) (xo1 (zb 2)) (xo1 (zn zu (zb 2) zf))))) (zbn (zb 1) (xo1 (zn zu (zb 2) zf)) xo0))) ze) ze) (zc (z9 (zp (zG hr.units) (zb 6) zf (nomark _)) (zc (zt (zi (C.own hr (n:=10) rfl) rfl (za (zb 0) (za (zah (za (zaT zgk (by rfl) T.b_list (by decide +kernel) (za (zb 1) zd)) (za (zn zu (zn zu (zbn (zb 1) xo0 (xo1 (zb 2))) (zq (za (zaT zgk (by rfl) T.b_list (by decide +kernel) (za (zb 4) zd)) zd))) (zbn (zb 1) (xo1 (zn zu (zb 2) zf)) xo0)) (za (zn zu (zb 1) (zq (za (zbn (zb 4) xo0 (xo1 zf)) zd))) (za (zq (za (zb 1) zd)) zd))))) zd)))) ze) ze) (zc (zF (zi (C.own hr (n:=10) rfl) rfl (za (zb 0) (za (zb 5) zd))) (zg 7 zcq.nd)) (zc (z9 (zin (zfn (zp (zG hr.units) (zb 6) zf (nomark _)) (zev rfl (zaM (z0 (t:=.int) rfl T.b_isinstance (zm hr.units (zb 4) (zb 3) (fun _ _=>rfl)) (zac (t:=.int) rfl T.b_int (by decide +kernel))))))) (zc (zF (zn zfX (zn zu (zm hr.units (zb 4) (zb 3) (fun _ _=>rfl)) zf) (zn zc9 zf (zi (C.own hr (n:=9) rfl) rfl (za (zb 0) (za zf zd))))) (zg 7 zcq.nd)) ze) ze) (zc (zF (zgC (zp (zG hr.units) (zb 3) zf (nomark _)) (zq (za (zb 7) (za (zm hr.units (zb 4) zf (fun _ _=>rfl)) zd))) (zq (za (zm hr.units (zb 4) zf (fun _ _=>rfl)) (za (zb 7) zd)))) (zg 8 zcq.nd)) (zc (zt (zn zu (zn zu (zbn (zb 1) xo0 (xo1 (zb 2))) (zq (za (zb 8) zd))) (zbn (zb 1) (xo1 (zn zu (zb 2) zf)) xo0))) ze)))))))))))
theorem zjy (T:Txt K w mg) (C:zE P w K mg base names cf k) {dvs:List V} {kws:List (Str × V)} (F:FunD K "_law_right" "_law_right" (defArgs zaO) (defBody zaO) (defScope zaO) dvs kws f fd) (hcf:∀ xs M,cf' 29 xs M=zL cf zbw xs M) :
  FnOk P w K mg base CX0 (k+1+1) f fd ["_law_box_here"] (zbY K cf' 29 1):=by
 refine zQ (k:=k+1) (d:=zbw) F zS rfl rfl hcf fun cdv A outer s H E hr1=>?_
 have hr:=hr1.mono (Nat.le_succ k)
 exact (zc (zb4 PassesOwn.never rfl (zbB rfl T.b_range zf) (zg 1 zS.nd) (zc (zF (zi (C.own hr (n:=23) rfl) rfl (za (zb 0) (za zf zd))) (zg 2 zS.nd)) (zc (zc6 (m:=3) (n:=4) rfl zS.nd rfl rfl (by decide) rfl rfl (za (zi (C.own hr (n:=12) rfl) rfl (za (zb 2) zd)) (za (zah (za zdn (za zcs (za zf (za zj (za (zq zd) (za (zah zd) (za (zq (za (zq zd) zd)) (za (zq (za (zq (za zj (za zf zd))) zd)) (za (zq (za (zq (za zj (za zf zd))) zd)) zd)))))))))) zd)) (by rfl)) (zc (zF (zq (za (zi (C.own hr (n:=19) rfl) rfl (za (zb 0) (za (zb 2) zd))) (za (zi (C.own hr (n:=18) rfl) rfl (za (zb 0) (za (zb 2) zd))) zd))) (zgA rfl (za4 (zg 5 zS.nd) (za4 (zg 6 zS.nd) zew)))) (zc (zF (zn zu (zb 4) (zah (za (zb 5) (za (zb 6) (za (zkk (zb 5)) (za (zkk (zb 6)) zd)))))) (zg 4 zS.nd)) (zc (zF (zn zu (zn zu (zb 4) (za8 (own:=[("_law_again",11)]) rfl zS.nd (zbB rfl T.b_range zf) (blkOk_by (own:=[("_law_again",11)]) (N:=zfb) (sc:=defScope zaO) (by decide +kernel)) (fun _ _ _ _ _=>(zg 11 zS.nd)) (fun _ _ _ _ _=>zal) (fun _ _ _ _ _=>(zi (C.own hr (n:=28) rfl) rfl (za (zb 0) (za (zb 5) zd)))) (by decide))) (za8 (own:=[("_law_again",11)]) rfl zS.nd (zbB rfl T.b_range zf) (blkOk_by (own:=[("_law_again",11)]) (N:=zfb) (sc:=defScope zaO) (by decide +kernel)) (fun _ _ _ _ _=>(zg 11 zS.nd)) (fun _ _ _ _ _=>zal) (fun _ _ _ _ _=>(zi (C.own hr (n:=28) rfl) rfl (za (zb 0) (za (zb 6) zd)))) (by decide))) (zg 4 zS.nd)) (zc (zb4 PassesOwn.never rfl (zT (zb 4)) (zg 7 zS.nd) (zc (zF (zah (za (zi (C.own hr (n:=3) rfl) rfl (za (zb 2) (za (zb 7) zd))) (za (zio (C.ownP hr (n:=3) rfl (ks:=["thing", "timetable"]) (p:=[1,0]) (by simp)) rfl (zfK (zb 7) (zfK (zb 3) xk_nil))) (za (zi (C.own hr (n:=4) rfl) rfl (za (zb 2) (za (zb 7) zd))) zd)))) (zg 8 zS.nd)) (zc (za7 (zaq (zb 8) (zio (C.ownP hr (n:=4) rfl (ks:=["thing", "timetable"]) (p:=[1,0]) (by simp)) rfl (zfK (zb 7) (zfK (zb 3) xk_nil))))) (zc (zc6 (m:=9) (n:=10) rfl zS.nd rfl rfl (by decide) rfl rfl (za (zi (C.own hr (n:=26) rfl) rfl (za (zb 2) (za (zb 7) zd))) (za (zi (C.own hr (n:=27) rfl) rfl (za (zb 2) (za (zb 7) zd))) zd)) (by rfl)) (zc (z9 (zbm (zaM (zi (C.own hr (n:=11) rfl) rfl (za (zb 8) (za (zah (za (zb 9) (za (zb 9) (za (zb 10) (za (zb 10) zd))))) zd))))) (zc (zt zcs) ze) ze) ze))))) ze))))))) (zc (zt zcs) ze))
theorem ok_law (T:Txt K w mg) (C:zE P w K mg base names cf k) {dvs:List V} {kws:List (Str × V)} (F:FunD K "law" "law" (defArgs zgO) (defBody zgO) (defScope zgO) dvs kws f fd) (hcf:∀ xs M,cf' 30 xs M=zL cf zfv xs M) :
  FnOk P w K mg base CX0 (k+1+1) f fd ["_law_script"] (zbY K cf' 30 1):=by
 refine zQ (k:=k+1) (d:=zfv) F S_law rfl rfl hcf fun cdv A outer s H E hr1=>?_
 have hr:=hr1.mono (Nat.le_succ k)
 exact (zc (zt (zB (zcH rfl) (by rfl) T.b_all (by decide +kernel) (za (za8 (own:=[("_law_k",1)]) rfl S_law.nd (zbB rfl T.b_range (zn zu zf (zB (cl_min2 rfl) rfl T.b_min (by decide +kernel) (za zf (za (zB zaf (by rfl) T.b_len (by decide +kernel) (za (zb 0) zd)) zd))))) (blkOk_by (own:=[("_law_k",1)]) (N:=N_law) (sc:=defScope zgO) (by decide +kernel)) (fun _ _ _ _ _=>(zg 1 S_law.nd)) (fun _ _ _ _ _=>zal) (fun _ _ _ _ _=>(zi (C.own hr (n:=29) rfl) rfl (za (zi (C.own hr (n:=8) rfl) rfl (za (zb 0) (za (zb 1) zd))) zd))) (by decide)) zd))) ze)
end
abbrev Says (w:World) (h:Heap) (K:PySem.W.Frag):Prop:=He.SaysX faD fnD tbD tfD (exAll exD) w h K
theorem zR {n:Nat} {d:Df} (h:tab n=some (.fn d)) {k:Nat}:∀ xs M z,cfN tab k n xs M=some z->xs.length=d.np:=fun xs M z e=>by
 cases k with
 | zero=>cases e
 | succ k =>
  simp only [cfN,h] at e
  exact runD_len e
theorem all_ok {P:Program} {w:World} {K:PySem.W.Frag} {mg:Str->Option Value} {base h h0:Heap} (X:K.In h) (G:h.Ns mainGlobals mg) (c:Says w h0 K) (T:Txt K w mg) (HT:∀ p∈tfD,GxR.TabB base mg (He.cT K p).1 (He.cT K p).2):∀ k,zE P w K mg base names (cfN tab k) (2*k):=by
 have st:∀ k,(k=0\/∃ i,k=i+1/\zE P w K mg base names (cfN tab i) (2*i))->zE P w K mg base names (cfN tab k) (2*k):=by
  intro k D n nm hn
  match n,hn with
  | 0,hn =>
   cases hn
   obtain ⟨fd,F⟩:=c.t.d.def_ 0 (d:=ze2) rfl
   exact ⟨⟨fd,(by rcases D with rfl | ⟨k,rfl,C⟩;exact zA;exact zgX T C F (fun _ _=>rfl)),He.glo_ok X G (c.t.d.fact 0 (f:=.glo "is_number") rfl),F.kp,zD.none (F.bindsN (ps:=["thing"]) (fun _ _ _ _ _ _ us hl=>match us,hl with | [_],_=>rfl)),(fun z=>by cases z),(fun q hq=>by simp at hq)⟩,(zR (d:=zbf) rfl)⟩
  | 1,hn =>
   cases hn
   obtain ⟨fd,F⟩:=c.t.d.def_ 1 (d:=zfF) rfl
   exact ⟨⟨fd,(by rcases D with rfl | ⟨k,rfl,C⟩;exact zA;exact zhZ T C F (fun _ _=>rfl)),He.glo_ok X G (c.t.d.fact 1 (f:=.glo "is_count") rfl),F.kp,zD.none (F.bindsN (ps:=["thing"]) (fun _ _ _ _ _ _ us hl=>match us,hl with | [_],_=>rfl)),(fun z=>by cases z),(fun q hq=>by simp at hq)⟩,(zR (d:=zbL) rfl)⟩
  | 2,hn =>
   cases hn
   obtain ⟨fd,F⟩:=c.t.d.def_ 2 (d:=zhh) rfl
   exact ⟨⟨fd,(by rcases D with rfl | ⟨k,rfl,C⟩;exact zA;exact zjv T C F (fun _ _=>rfl)),He.glo_ok X G (c.t.d.fact 2 (f:=.glo "many_at") rfl),F.kp,zD.none (F.bindsN (ps:=["timetable", "time"]) (fun _ _ _ _ _ _ us hl=>match us,hl with | [_,_],_=>rfl)),(fun z=>by cases z),(fun q hq=>by simp at hq)⟩,(zR (d:=za0) rfl)⟩
  | 3,hn =>
   cases hn
   obtain ⟨fd,F⟩:=c.t.d.def_ 3 (d:=ze1) rfl
   exact ⟨⟨fd,(by rcases D with rfl | ⟨k,rfl,C⟩;exact zA;exact zgW T C F (fun _ _=>rfl)),He.glo_ok X G (c.t.d.fact 3 (f:=.glo "is_sweeps") rfl),F.kp,zD.none (F.bindsN (ps:=["timetable", "thing"]) (fun _ _ _ _ _ _ us hl=>match us,hl with | [_,_],_=>rfl)),(fun _=>kbinds (ps:=["timetable", "thing"]) F (fun z=>by cases z) fun _ _ _ _ _ _ ws hl=>match ws,hl with | [_,_],_=>rfl),(fun qq hq=>by
    simp only [List.mem_cons,List.mem_nil_iff,or_false] at hq
    rcases hq with rfl
    ·refine ⟨fun _=>?_,fun z=>absurd rfl z⟩
     exact zlu (ps:=["timetable", "thing"]) (ks:=["thing", "timetable"]) (p:=[1,0]) F (fun z=>by cases z) rfl (i:=1) (by decide) rfl fun _ _ _ _ _ _ ws hl=>by
       rcases ws with _ | ⟨_,_ | ⟨_,_⟩⟩<;>first | (simp at hl;done) | rfl)⟩,(zR (d:=zbe) rfl)⟩
  | 4,hn =>
   cases hn
   obtain ⟨fd,F⟩:=c.t.d.def_ 4 (d:=ze3) rfl
   exact ⟨⟨fd,(by rcases D with rfl | ⟨k,rfl,C⟩;exact zA;exact zgY T C F (fun _ _=>rfl)),He.glo_ok X G (c.t.d.fact 4 (f:=.glo "is_guards") rfl),F.kp,zD.none (F.bindsN (ps:=["timetable", "thing"]) (fun _ _ _ _ _ _ us hl=>match us,hl with | [_,_],_=>rfl)),(fun _=>kbinds (ps:=["timetable", "thing"]) F (fun z=>by cases z) fun _ _ _ _ _ _ ws hl=>match ws,hl with | [_,_],_=>rfl),(fun qq hq=>by
    simp only [List.mem_cons,List.mem_nil_iff,or_false] at hq
    rcases hq with rfl
    ·refine ⟨fun _=>?_,fun z=>absurd rfl z⟩
     exact zlu (ps:=["timetable", "thing"]) (ks:=["thing", "timetable"]) (p:=[1,0]) F (fun z=>by cases z) rfl (i:=1) (by decide) rfl fun _ _ _ _ _ _ ws hl=>by
       rcases ws with _ | ⟨_,_ | ⟨_,_⟩⟩<;>first | (simp at hl;done) | rfl)⟩,(zR (d:=zaL) rfl)⟩
  | 5,hn =>
   cases hn
   obtain ⟨fd,F⟩:=c.t.d.def_ 5 (d:=zfE) rfl
   exact ⟨⟨fd,(by rcases D with rfl | ⟨k,rfl,C⟩;exact zA;exact zhY T C F (fun _ _=>rfl)),He.glo_ok X G (c.t.d.fact 5 (f:=.glo "is_guard") rfl),F.kp,zD.none (F.bindsN (ps:=["thing"]) (fun _ _ _ _ _ _ us hl=>match us,hl with | [_],_=>rfl)),(fun z=>by cases z),(fun q hq=>by simp at hq)⟩,(zR (d:=zbK) rfl)⟩
  | 6,hn =>
   cases hn
   obtain ⟨fd,F⟩:=c.t.d.def_ 6 (d:=zd6) rfl
   exact ⟨⟨fd,(by rcases D with rfl | ⟨k,rfl,C⟩;exact zA;exact zfZ T C F (fun _ _=>rfl)),He.glo_ok X G (c.t.d.fact 6 (f:=.glo "readers_of") rfl),F.kp,zD.none (F.bindsN (ps:=["timetable"]) (fun _ _ _ _ _ _ us hl=>match us,hl with | [_],_=>rfl)),(fun z=>by cases z),(fun q hq=>by simp at hq)⟩,(zR (d:=zaP) rfl)⟩
  | 7,hn =>
   cases hn
   obtain ⟨fd,F⟩:=c.t.d.def_ 7 (d:=ze4) rfl
   exact ⟨⟨fd,(by rcases D with rfl | ⟨k,rfl,C⟩;exact zA;exact zgZ T C F (fun _ _=>rfl)),He.glo_ok X G (c.t.d.fact 7 (f:=.glo "guards_of") rfl),F.kp,zD.none (F.bindsN (ps:=["timetable"]) (fun _ _ _ _ _ _ us hl=>match us,hl with | [_],_=>rfl)),(fun z=>by cases z),(fun q hq=>by simp at hq)⟩,(zR (d:=zX) rfl)⟩
  | 8,hn =>
   cases hn
   obtain ⟨fd,F⟩:=c.t.d.def_ 8 (d:=zlX) rfl
   exact ⟨⟨fd,(by rcases D with rfl | ⟨k,rfl,C⟩;exact zA;exact ok_l_box T C F (fun _ _=>rfl)),He.glo_ok X G (c.t.d.fact 8 (f:=.glo "_law_box") rfl),F.kp,zD.none (F.bindsN (ps:=["_law_script", "_law_k"]) (fun _ _ _ _ _ _ us hl=>match us,hl with | [_,_],_=>rfl)),(fun z=>by cases z),(fun q hq=>by simp at hq)⟩,(zR (d:=zci) rfl)⟩
  | 9,hn =>
   cases hn
   obtain ⟨fd,F⟩:=c.t.d.def_ 9 (d:=zi6) rfl
   exact ⟨⟨fd,(by rcases D with rfl | ⟨k,rfl,C⟩;exact zA;exact zli T C F (fun _ _=>rfl)),He.glo_ok X G (c.t.d.fact 9 (f:=.glo "_law_take") rfl),F.kp,zD.none (F.bindsN (ps:=["_law_box_here", "_law_below"]) (fun _ _ _ _ _ _ us hl=>match us,hl with | [_,_],_=>rfl)),(fun z=>by cases z),(fun q hq=>by simp at hq)⟩,(zR (d:=zbI) rfl)⟩
  | 10,hn =>
   cases hn
   obtain ⟨fd,F⟩:=c.t.d.def_ 10 (d:=d_l_of) rfl
   exact ⟨⟨fd,(by rcases D with rfl | ⟨k,rfl,C⟩;exact zA;exact ok_l_of T C F (fun _ _=>rfl)),He.glo_ok X G (c.t.d.fact 10 (f:=.glo "_law_of") rfl),F.kp,zD.none (F.bindsN (ps:=["_law_box_here", "_law_some"]) (fun _ _ _ _ _ _ us hl=>match us,hl with | [_,_],_=>rfl)),(fun z=>by cases z),(fun q hq=>by simp at hq)⟩,(zR (d:=zcy) rfl)⟩
  | 11,hn =>
   cases hn
   obtain ⟨fd,F⟩:=c.t.d.def_ 11 (d:=zi7) rfl
   exact ⟨⟨fd,(by rcases D with rfl | ⟨k,rfl,C⟩;exact zA;exact zlj T C F (fun _ _=>rfl)),He.glo_ok X G (c.t.d.fact 11 (f:=.glo "_law_same") rfl),F.kp,zD.none (F.bindsN (ps:=["_law_found", "_law_due"]) (fun _ _ _ _ _ _ us hl=>match us,hl with | [_,_],_=>rfl)),(fun z=>by cases z),(fun q hq=>by simp at hq)⟩,(zR (d:=zax) rfl)⟩
  | 12,hn =>
   cases hn
   obtain ⟨fd,F⟩:=c.t.d.def_ 12 (d:=zhm) rfl
   exact ⟨⟨fd,(by rcases D with rfl | ⟨k,rfl,C⟩;exact zA;exact zjA T C F (fun _ _=>rfl)),He.glo_ok X G (c.t.d.fact 12 (f:=.glo "_law_lists") rfl),F.kp,zD.none (F.bindsN (ps:=["_law_matter"]) (fun _ _ _ _ _ _ us hl=>match us,hl with | [_],_=>rfl)),(fun z=>by cases z),(fun q hq=>by simp at hq)⟩,(zR (d:=zbx) rfl)⟩
  | 13,hn =>
   cases hn
   obtain ⟨fd,F⟩:=c.t.d.def_ 13 (d:=zhn) rfl
   exact ⟨⟨fd,(by rcases D with rfl | ⟨k,rfl,C⟩;exact zA;exact zjB T C F (fun _ _=>rfl)),He.glo_ok X G (c.t.d.fact 13 (f:=.glo "_law_event") rfl),F.kp,zD.none (F.bindsN (ps:=["_law_box_here", "_law_w", "_law_folk", "_law_names", "_law_words"]) (fun _ _ _ _ _ _ us hl=>match us,hl with | [_,_,_,_,_],_=>rfl)),(fun z=>by cases z),(fun q hq=>by simp at hq)⟩,(zR (d:=zH) rfl)⟩
  | 14,hn =>
   cases hn
   obtain ⟨fd,F⟩:=c.t.d.def_ 14 (d:=zhl) rfl
   exact ⟨⟨fd,(by rcases D with rfl | ⟨k,rfl,C⟩;exact zA;exact zjz T C F (fun _ _=>rfl)),He.glo_ok X G (c.t.d.fact 14 (f:=.glo "_law_moved") rfl),F.kp,zD.none (F.bindsN (ps:=["_law_w", "_law_event_so"]) (fun _ _ _ _ _ _ us hl=>match us,hl with | [_,_],_=>rfl)),(fun z=>by cases z),(fun q hq=>by simp at hq)⟩,(zR (d:=zV) rfl)⟩
  | 15,hn =>
   cases hn
   obtain ⟨fd,F⟩:=c.t.d.def_ 15 (d:=zhj) rfl
   exact ⟨⟨fd,(by rcases D with rfl | ⟨k,rfl,C⟩;exact zA;exact zjx T C F (fun _ _=>rfl)),He.glo_ok X G (c.t.d.fact 15 (f:=.glo "_law_table") rfl),F.kp,zD.none (F.bindsN (ps:=["_law_box_here", "_law_many_here", "_law_most", "_law_folk", "_law_names", "_law_words"]) (fun _ _ _ _ _ _ us hl=>match us,hl with | [_,_,_,_,_,_],_=>rfl)),(fun z=>by cases z),(fun q hq=>by simp at hq)⟩,(zR (d:=zbv) rfl)⟩
  | 16,hn =>
   cases hn
   obtain ⟨fd,F⟩:=c.t.d.def_ 16 (d:=zho) rfl
   exact ⟨⟨fd,(by rcases D with rfl | ⟨k,rfl,C⟩;exact zA;exact zjC T C F (fun _ _=>rfl)),He.glo_ok X G (c.t.d.fact 16 (f:=.glo "_law_ended") rfl),F.kp,zD.none (F.bindsN (ps:=["_law_table_here"]) (fun _ _ _ _ _ _ us hl=>match us,hl with | [_],_=>rfl)),(fun z=>by cases z),(fun q hq=>by simp at hq)⟩,(zR (d:=zby) rfl)⟩
  | 17,hn =>
   cases hn
   obtain ⟨fd,F⟩:=c.t.d.def_ 17 (d:=zi8) rfl
   exact ⟨⟨fd,(by rcases D with rfl | ⟨k,rfl,C⟩;exact zA;exact zlk T C F (fun _ _=>rfl)),He.glo_ok X G (c.t.d.fact 17 (f:=.glo "_law_many") rfl),F.kp,zD.none (F.bindsN (ps:=["_law_table_here", "_law_spot"]) (fun _ _ _ _ _ _ us hl=>match us,hl with | [_,_],_=>rfl)),(fun z=>by cases z),(fun q hq=>by simp at hq)⟩,(zR (d:=zcz) rfl)⟩
  | 18,hn =>
   cases hn
   obtain ⟨fd,F⟩:=c.t.d.def_ 18 (d:=zhi) rfl
   exact ⟨⟨fd,(by rcases D with rfl | ⟨k,rfl,C⟩;exact zA;exact zjw T C F (fun _ _=>rfl)),He.glo_ok X G (c.t.d.fact 18 (f:=.glo "_law_watch") rfl),F.kp,zD.none (F.bindsN (ps:=["_law_box_here", "_law_table_here"]) (fun _ _ _ _ _ _ us hl=>match us,hl with | [_,_],_=>rfl)),(fun z=>by cases z),(fun q hq=>by simp at hq)⟩,(zR (d:=zb8) rfl)⟩
  | 19,hn =>
   cases hn
   obtain ⟨fd,F⟩:=c.t.d.def_ 19 (d:=zc5) rfl
   exact ⟨⟨fd,(by rcases D with rfl | ⟨k,rfl,C⟩;exact zA;exact zeM T C F (fun _ _=>rfl)),He.glo_ok X G (c.t.d.fact 19 (f:=.glo "_law_some_broom") rfl),F.kp,zD.none (F.bindsN (ps:=["_law_box_here", "_law_table_here"]) (fun _ _ _ _ _ _ us hl=>match us,hl with | [_,_],_=>rfl)),(fun z=>by cases z),(fun q hq=>by simp at hq)⟩,(zR (d:=zaw) rfl)⟩
  | 20,hn =>
   cases hn
   obtain ⟨fd,F⟩:=c.t.d.def_ 20 (d:=zi9) rfl
   exact ⟨⟨fd,(by rcases D with rfl | ⟨k,rfl,C⟩;exact zA;exact zll T C F (fun _ _=>rfl)),He.glo_ok X G (c.t.d.fact 20 (f:=.glo "_law_lots") rfl),F.kp,zD.none (F.bindsN (ps:=["_law_box_here", "_law_most", "_law_names"]) (fun _ _ _ _ _ _ us hl=>match us,hl with | [_,_,_],_=>rfl)),(fun z=>by cases z),(fun q hq=>by simp at hq)⟩,(zR (d:=zb9) rfl)⟩
  | 21,hn =>
   cases hn
   obtain ⟨fd,F⟩:=c.t.d.def_ 21 (d:=zfD) rfl
   exact ⟨⟨fd,(by rcases D with rfl | ⟨k,rfl,C⟩;exact zA;exact zhX T C F (fun _ _=>rfl)),He.glo_ok X G (c.t.d.fact 21 (f:=.glo "_law_beside") rfl),F.kp,zD.none (F.bindsN (ps:=["_law_box_here", "_law_w", "_law_folk"]) (fun _ _ _ _ _ _ us hl=>match us,hl with | [_,_,_],_=>rfl)),(fun z=>by cases z),(fun q hq=>by simp at hq)⟩,(zR (d:=zw) rfl)⟩
  | 22,hn =>
   cases hn
   obtain ⟨fd,F⟩:=c.t.d.def_ 22 (d:=zlW) rfl
   exact ⟨⟨fd,(by rcases D with rfl | ⟨k,rfl,C⟩;exact zA;exact ok_l_fit T C F (fun _ _=>rfl)),He.glo_ok X G (c.t.d.fact 22 (f:=.glo "_law_fit") rfl),F.kp,zD.none (F.bindsN (ps:=["_law_box_here", "_law_most", "_law_folk", "_law_far"]) (fun _ _ _ _ _ _ us hl=>match us,hl with | [_,_,_,_],_=>rfl)),(fun z=>by cases z),(fun q hq=>by simp at hq)⟩,(zR (d:=zbU) rfl)⟩
  | 23,hn =>
   cases hn
   obtain ⟨fd,F⟩:=c.t.d.def_ 23 (d:=zhp) rfl
   exact ⟨⟨fd,(by rcases D with rfl | ⟨k,rfl,C⟩;exact zA;exact zjD T C F (fun _ _=>rfl)),He.glo_ok X G (c.t.d.fact 23 (f:=.glo "_law_drawn") rfl),F.kp,zD.none (F.bindsN (ps:=["_law_box_here", "_law_most"]) (fun _ _ _ _ _ _ us hl=>match us,hl with | [_,_],_=>rfl)),(fun z=>by cases z),(fun q hq=>by simp at hq)⟩,(zR (d:=zaK) rfl)⟩
  | 24,hn =>
   cases hn
   obtain ⟨fd,F⟩:=c.t.d.def_ 24 (d:=zd8) rfl
   exact ⟨⟨fd,(by rcases D with rfl | ⟨k,rfl,C⟩;exact zA;exact zf1 T C F (fun _ _=>rfl)),He.glo_ok X G (c.t.d.fact 24 (f:=.glo "_law_is_plain") rfl),F.kp,zD.none (F.bindsN (ps:=["_law_matter"]) (fun _ _ _ _ _ _ us hl=>match us,hl with | [_],_=>rfl)),(fun z=>by cases z),(fun q hq=>by simp at hq)⟩,(zR (d:=zaQ) rfl)⟩
  | 25,hn =>
   cases hn
   obtain ⟨fd,F⟩:=c.t.d.def_ 25 (d:=zfC) rfl
   exact ⟨⟨fd,(by rcases D with rfl | ⟨k,rfl,C⟩;exact zA;exact zhW T C F (fun _ _=>rfl)),He.glo_ok X G (c.t.d.fact 25 (f:=.glo "_law_is_duo") rfl),F.kp,zD.none (F.bindsN (ps:=["_law_matter"]) (fun _ _ _ _ _ _ us hl=>match us,hl with | [_],_=>rfl)),(fun z=>by cases z),(fun q hq=>by simp at hq)⟩,(zR (d:=zbJ) rfl)⟩
  | 26,hn =>
   cases hn
   obtain ⟨fd,F⟩:=c.t.d.def_ 26 (d:=zd9) rfl
   exact ⟨⟨fd,(by rcases D with rfl | ⟨k,rfl,C⟩;exact zA;exact zf2 T C F (fun _ _=>rfl)),He.glo_ok X G (c.t.d.fact 26 (f:=.glo "_law_is_broom") rfl),F.kp,zD.none (F.bindsN (ps:=["_law_table_here", "_law_matter"]) (fun _ _ _ _ _ _ us hl=>match us,hl with | [_,_],_=>rfl)),(fun z=>by cases z),(fun q hq=>by simp at hq)⟩,(zR (d:=zaR) rfl)⟩
  | 27,hn =>
   cases hn
   obtain ⟨fd,F⟩:=c.t.d.def_ 27 (d:=zd7) rfl
   exact ⟨⟨fd,(by rcases D with rfl | ⟨k,rfl,C⟩;exact zA;exact zf0 T C F (fun _ _=>rfl)),He.glo_ok X G (c.t.d.fact 27 (f:=.glo "_law_is_watch") rfl),F.kp,zD.none (F.bindsN (ps:=["_law_table_here", "_law_matter"]) (fun _ _ _ _ _ _ us hl=>match us,hl with | [_,_],_=>rfl)),(fun z=>by cases z),(fun q hq=>by simp at hq)⟩,(zR (d:=zW) rfl)⟩
  | 28,hn =>
   cases hn
   obtain ⟨fd,F⟩:=c.t.d.def_ 28 (d:=zja) rfl
   exact ⟨⟨fd,(by rcases D with rfl | ⟨k,rfl,C⟩;exact zA;exact zlm T C F (fun _ _=>rfl)),He.glo_ok X G (c.t.d.fact 28 (f:=.glo "_law_bent") rfl),F.kp,zD.none (F.bindsN (ps:=["_law_box_here", "_law_matter"]) (fun _ _ _ _ _ _ us hl=>match us,hl with | [_,_],_=>rfl)),(fun z=>by cases z),(fun q hq=>by simp at hq)⟩,(zR (d:=zca) rfl)⟩
  | 29,hn =>
   cases hn
   obtain ⟨fd,F⟩:=c.t.d.def_ 29 (d:=zhk) rfl
   exact ⟨⟨fd,(by rcases D with rfl | ⟨k,rfl,C⟩;exact zA;exact zjy T C F (fun _ _=>rfl)),He.glo_ok X G (c.t.d.fact 29 (f:=.glo "_law_right") rfl),F.kp,zD.none (F.bindsN (ps:=["_law_box_here"]) (fun _ _ _ _ _ _ us hl=>match us,hl with | [_],_=>rfl)),(fun z=>by cases z),(fun q hq=>by simp at hq)⟩,(zR (d:=zbw) rfl)⟩
  | 30,hn =>
   cases hn
   obtain ⟨fd,F⟩:=c.t.d.def_ 30 (d:=d_law) rfl
   exact ⟨⟨fd,(by rcases D with rfl | ⟨k,rfl,C⟩;exact zA;exact ok_law T C F (fun _ _=>rfl)),He.glo_ok X G (c.t.d.fact 30 (f:=.glo "law") rfl),F.kp,zD.none (F.bindsN (ps:=["_law_script"]) (fun _ _ _ _ _ _ us hl=>match us,hl with | [_],_=>rfl)),(fun z=>by cases z),(fun q hq=>by simp at hq)⟩,(zR (d:=zfv) rfl)⟩
  | n+31,hn=>cases hn
 intro k
 induction k with
 | zero=>exact st 0 (.inl rfl)
 | succ k C=>exact st _ (.inr ⟨k,rfl,C⟩)
theorem txt_of {w:World} {K:PySem.W.Frag} {mg:Str->Option Value} {h h0:Heap} (X:K.In h) (G:h.Ns mainGlobals mg) (c:Says w h0 K):Txt K w mg :=
 ⟨He.free_ok X G (c.t.d.fact 31 (f:=.free "abs") rfl),He.free_ok X G (c.t.d.fact 32 (f:=.free "all") rfl),He.free_ok X G (c.t.d.fact 33 (f:=.free "bool") rfl),He.free_ok X G (c.t.d.fact 34 (f:=.free "int") rfl),He.free_ok X G (c.t.d.fact 35 (f:=.free "isinstance") rfl),He.free_ok X G (c.t.d.fact 36 (f:=.free "len") rfl),He.free_ok X G (c.t.d.fact 37 (f:=.free "list") rfl),He.free_ok X G (c.t.d.fact 38 (f:=.free "min") rfl),He.free_ok X G (c.t.d.fact 39 (f:=.free "range") rfl),He.free_ok X G (c.t.d.fact 40 (f:=.free "set") rfl),He.free_ok X G (c.t.d.fact 41 (f:=.free "sorted") rfl),He.free_ok X G (c.t.d.fact 42 (f:=.free "str") rfl),He.free_ok X G (c.t.d.fact 43 (f:=.free "sum") rfl),He.free_ok X G (c.t.d.fact 44 (f:=.free "tuple") rfl),He.free_ok X G (c.t.d.fact 45 (f:=.free "zip") rfl),He.str_ok X G (c.t.d.fact 46 (f:=.str "COPY" "copy") rfl),He.str_ok X G (c.t.d.fact 47 (f:=.str "DROP" "drop") rfl),He.str_ok X G (c.t.d.fact 48 (f:=.str "JOIN" "join") rfl),He.str_ok X G (c.t.d.fact 49 (f:=.str "LOAD" "load") rfl),He.str_ok X G (c.t.d.fact 50 (f:=.str "PUT" "put") rfl),He.str_ok X G (c.t.d.fact 51 (f:=.str "READER" "reader") rfl),He.str_ok X G (c.t.d.fact 52 (f:=.str "SAVE" "save") rfl)⟩
theorem cl_of {K:PySem.W.Frag} {H:Hp} {a:Addr} {ns:List Int} (o:Only H) (h:SqL K H a (ns.map V.int)):CL K H a ns:=by
 rcases h with (h | ⟨u,h⟩) | h
 ·rcases o a with z | ⟨_,_,z⟩
  ·rw [z] at h;cases h
  ·rw [z] at h;cases h
 ·exact .inl ⟨u,h⟩
 ·exact .inr fun H'=>.inr h
theorem facts {P:Program} {w:World} {K:PySem.W.Frag} {h:Heap} {mg:Str->Option Value} {f:Addr} (X:K.In h) (G:h.Ns mainGlobals mg) (hfa:mg ("law" : Str)=some (.ref f)) {h0:Heap} (c:Says w h0 K) :
  ∃ fd:FuncData,(∀ (s:Shared) (v:Value),BindsTo s fd ⟨[v],[]⟩ [("_law_script",v)])/\∀ base:Heap,K.In base->base.Ns mainGlobals mg->(∀ p∈tfD,GxR.TabB base mg (He.cT K p).1 (He.cT K p).2)->FnOk P w K mg base CX0 (2*12+1+1) f fd ["_law_script"] (zbY K (cfN tab (12+1)) 30 1):=by
 obtain ⟨fd,F⟩:=c.t.d.def_ 30 (d:=d_law) rfl
 have e:=hfa.symm.trans (He.glo_ok X G (c.t.d.fact 30 (f:=.glo "law") rfl))
 cases e
 have b:=FunD.bindsA (ps:=["_law_script"]) F fun _ _ _ _ _ _ us hl=>match us,hl with | [_],_=>rfl
 exact ⟨fd,fun s v=>b s [v] rfl,fun base hb hn ht=>ok_law (txt_of X G c) (all_ok (base:=base) X G c (txt_of X G c) ht 12) F fun _ _=>rfl⟩
end Mp
section
open PySem PySem.W PySem.Calls PyProof.Rows
set_option maxHeartbeats 0 in
theorem Mp.reduce (good : ∀ ns : List Int, ns.length <= 63 -> ∃ M', Mp.cfN Mp.tab (12 + 1) 30 [.cl ns] [] = some (.bl true, M')) : PySem.Challenge.rw_missedmarks_k01_sweeps_and_guards_or_non.Holds := by
 w_on; o_law
 refine HandSHeadRun.head_any (r := OpenLaw.row PySem.Challenge.rw_missedmarks_k01_sweeps_and_guards_or_non) (q := view (OpenLaw.row PySem.Challenge.rw_missedmarks_k01_sweeps_and_guards_or_non).prog [39]) (H := Mp.hk) (ob := Mp.ob) (M := 6000) (loose := Mp.looseN) (d := HandSHeadRun.topDef (OpenLaw.row PySem.Challenge.rw_missedmarks_k01_sweeps_and_guards_or_non).prog 39) (kwd := []) Mp.ob_eq
  (by kernel_rfl) (fun s => by kernel_rfl) Mp.headrun (by kernel_rfl) (by kernel_rfl) (by kernel_rfl) (by rfl) (by first | assumption | decide +kernel) (by decide +kernel) ⟨rfl, rfl, rfl, rfl, rfl, by decide +kernel⟩ ?hw ?hc
 case hw => w_witness2
 case hc =>
  refine L2.walk_ofE (l := PySem.Challenge.rw_missedmarks_k01_sweeps_and_guards_or_non) (n := 63) (k := 2 * 12 + 1 + 1) (x := "_law_script") (CX := L2.CX0) rfl (by decide) (by kernel_rfl) ⟨rfl, by decide, by decide⟩ ?F (fun _ _ _ _ z => z)
  intro w mg fa h Y G hmg0
  obtain ⟨K, KX, c⟩ := Y
  have hmg : mg ("law" : PySem.Str) = some (.ref fa) := by
   have e : (HandSHeadRun.topDef (OpenLaw.row PySem.Challenge.rw_missedmarks_k01_sweeps_and_guards_or_non).prog 39).name = ("law" : PySem.Str) := by kernel_rfl
   rw [<- e]
   exact hmg0
  obtain ⟨fd, hb, hF⟩ := Mp.facts (P := (PySem.Challenge.rw_missedmarks_k01_sweeps_and_guards_or_non).prog) (w := w) KX G hmg c
  refine ⟨K, fd, _, KX, hb, fun H a ns hl ho hS => ?_, fun base hbs hn => hF base hbs hn fun p hp => by cases hp⟩
  obtain ⟨M', e⟩ := good ns hl
  refine ⟨rfl, [], [], [.cl ns], _, M', ⟨rfl, List.nodup_nil, fun n a o h => (by cases h), fun b hb => by cases hb⟩, .cons (.cl (Mp.cl_of ho hS)) .nil, e, fun r' u H' _ _ hv => ?_⟩
  cases hv
  rfl
end
namespace Mp
open PySem L2
section
variable {cf:CF} {sg sg1 sg2:Sg} {M M1 M2 M3:Mm} {e a b c:E} {es:Es} {x y z v:PV} {xs ys:List PV} {s:S} {ss ss2:Ss} {i f:Nat} {w:Option (Fl × Mm)} {q:R}
theorem zfB:zv cf .nil sg M=some ([],M):=by rw [zv]
theorem zP (h:evE cf e sg M=some (x,M1)) (h2:zv cf es sg M1=some (xs,M2)):zv cf (.cons e es) sg M=some (x::xs,M2):=by rw [zv,h];simp only [h2]
theorem zae (h:evE cf e sg M=some (x,M1)):zv cf (.cons e .nil) sg M=some ([x],M1):=zP h zfB
theorem zU (h:sg[i]? = some (some v)):evE cf (.var i) sg M=some (v,M):=by rw [evE,h]
theorem zaB:evE cf (.con v) sg M=some (v,M):=by rw [evE]
theorem zd3 (h:zv cf es sg M=some (xs,M1)) (h2:cf f xs M1=q):evE cf (.call f es) sg M=q:=by rw [evE,h];exact h2
theorem zdg {b:B} (h:zv cf es sg M=some (xs,M1)) (h2:zJ M1 b xs=q):evE cf (.blt b es) sg M=q:=by rw [evE,h];exact h2
theorem e_lst (h:zv cf es sg M=some (xs,M1)) (hl:xs.length<=10000):evE cf (.lst es) sg M=some (.ref M1.length,M1++[Ob.lst xs]):=by
 rw [evE,h];simp only [];rw [if_pos (by have:sizeLine=16777216:=rfl;omega)]
theorem zjN (h:zv cf es sg M=some (xs,M1)) (hl:xs.length<=10000):evE cf (.tup es) sg M=some (.tup xs,M1):=by
 rw [evE,h];simp only [];rw [if_pos (by have:sizeLine=16777216:=rfl;omega)]
theorem zhb {o:Bo} (h:evE cf a sg M=some (x,M1)) (h2:evE cf b sg M1=some (y,M2)) (h3:zat M2 o x y=q):evE cf (.bop o a b) sg M=q:=by rw [evE,h];simp only [h2];exact h3
theorem zha {o:Co} {k:Bool} (h:evE cf a sg M=some (x,M1)) (h2:evE cf b sg M1=some (y,M2)) (h3:zK M2 o x y=some k):evE cf (.cmp o a b) sg M=some (.bl k,M2):=by rw [evE,h];simp only [h2,h3];rfl
theorem zia (h:evE cf a sg M=some (x,M1)) (h2:evE cf b sg M1=some (y,M2)) (h3:zas M2 x y=some z):evE cf (.idx a b) sg M=some (z,M2):=by rw [evE,h];simp only [h2,h3];rfl
theorem e_not {k:Bool} (h:evE cf a sg M=some (.bl k,M1)):evE cf (.not a) sg M=some (.bl (!k),M1):=by rw [evE,h]
theorem e_andT (h:evE cf a sg M=some (.bl true,M1)) (h2:evE cf b sg M1=q):evE cf (.and a b) sg M=q:=by rw [evE,h];exact h2
theorem e_andF (h:evE cf a sg M=some (.bl false,M1)):evE cf (.and a b) sg M=some (.bl false,M1):=by rw [evE,h]
theorem e_orF (h:evE cf a sg M=some (.bl false,M1)) (h2:evE cf b sg M1=q):evE cf (.or a b) sg M=q:=by rw [evE,h];exact h2
theorem e_orT (h:evE cf a sg M=some (.bl true,M1)):evE cf (.or a b) sg M=some (.bl true,M1):=by rw [evE,h]
theorem e_iteT (h:evE cf c sg M=some (.bl true,M1)) (h2:evE cf a sg M1=q):evE cf (.ite c a b) sg M=q:=by rw [evE,h];exact h2
theorem e_iteF (h:evE cf c sg M=some (.bl false,M1)) (h2:evE cf b sg M1=q):evE cf (.ite c a b) sg M=q:=by rw [evE,h];exact h2
theorem e_isi {ts:List Ty} {k:Bool} (h:evE cf a sg M=some (x,M1)) (h2:ts.any (zgw M1 x)=k) (h3:insP M1 x=false):evE cf (.isi a ts) sg M=some (.bl k,M1):=by rw [evE,h];simp only [h2,h3];rfl
theorem e_fld {c f:Str} {n:Nat} {fs:List (Str × PV)} (h:evE cf a sg M=some (.ref n,M1)) (h2:zcA M1 c n=some fs) (h3:fs.lookup f=some v):evE cf (.fld c f a) sg M=some (v,M1):=by rw [evE,h];simp only [h2,h3,Option.bind_some,Option.map_some]
theorem zjp {t:Tg} (h:evE cf e sg M=some (x,M1)) (h2:tgP t M1 x sg=some sg1):evS cf (.asg t e) sg M=some (.nx sg1,M1):=by rw [evS,h];simp only [h2];rfl
theorem s_exp (h:evE cf e sg M=some (x,M1)):evS cf (.exp e) sg M=some (.nx sg,M1):=by rw [evS,h]
theorem s_ret (h:evE cf e sg M=some (x,M1)):evS cf (.ret e) sg M=some (.ret x,M1):=by rw [evS,h]
theorem s_ifT (h:evE cf c sg M=some (.bl true,M1)) (h2:zM cf ss sg M1=w):evS cf (.iff c ss ss2) sg M=w:=by rw [evS,h];exact h2
theorem s_ifF (h:evE cf c sg M=some (.bl false,M1)) (h2:zM cf ss2 sg M1=w):evS cf (.iff c ss ss2) sg M=w:=by rw [evS,h];exact h2
theorem zkL:zM cf .nil sg M=some (.nx sg,M):=by rw [zM]
theorem zcu (h:evS cf s sg M=some (.nx sg1,M1)) (h2:zM cf ss sg1 M1=w):zM cf (.cons s ss) sg M=w:=by rw [zM,h];exact h2
theorem zgL (h:evE cf e sg M=some (x,M1)):zM cf (.cons (.ret e) ss) sg M=some (.ret x,M1):=by rw [zM,s_ret h]
theorem zeF {d:Df} (hl:xs.length=d.np) (h:zM cf d.body (xs.map some++List.replicate (d.ns-d.np) none) M=some (.ret v,M1)):zL cf d xs M=some (v,M1):=by
 rw [zL,if_pos hl,h]
end
end Mp
namespace Mp.V
open PySem L2
inductive D where
 | non | bl (b:Bool) | int (i:Int) | str (s:Str) | cl (ns:List Int) | fn (n:Nat) (x:Str)
 | tup (xs:List D) | lst (xs:List D) | dic (kvs:List (Key × D)) | ins (c:Str) (fs:List (Str × D)) | slt (c:Str) (fs:List (Option D)) | ptup (xs:List D)
mutual
inductive Rp (B:Nat->Prop) (M:Mm):PV->D->Prop
 | non:Rp B M .non .non
 | bl (b:Bool):Rp B M (.bl b) (.bl b)
 | int (i:Int):Rp B M (.int i) (.int i)
 | str (s:Str):Rp B M (.str s) (.str s)
 | cl (ns:List Int):Rp B M (.cl ns) (.cl ns)
 | fn (n:Nat) (x:Str):Rp B M (.fn n x) (.fn n x)
 | tup {xs:List PV} {ds:List D}:Rps B M xs ds->Rp B M (.tup xs) (.tup ds)
 | lst {n:Nat} {xs:List PV} {ds:List D}:¬ B n->M[n]? = some (.lst xs)->Rps B M xs ds->Rp B M (.ref n) (.lst ds)
 | dic {n:Nat} {kvs:List (Key × PV)} {ds:List (Key × D)}:¬ B n->M[n]? = some (.dic kvs)->kvs.map (·.1)=ds.map (·.1)->Rps B M (kvs.map (·.2)) (ds.map (·.2))->Rp B M (.ref n) (.dic ds)
 | ins {n:Nat} {c:Str} {kvs:List (Str × PV)} {ds:List (Str × D)}:¬ B n->M[n]? = some (.ins c kvs)->kvs.map (·.1)=ds.map (·.1)->Rps B M (kvs.map (·.2)) (ds.map (·.2))->Rp B M (.ref n) (.ins c ds)
 | slt {n:Nat} {c:Str} {vs:List (Option PV)} {ds:List (Option D)}:¬ B n->M[n]? = some (.slt c vs)->Rpo B M vs ds->Rp B M (.ref n) (.slt c ds)
 | ptup {xs:List PV} {ds:List D}:Rps B M xs ds->Rp B M (.ptup xs) (.ptup ds)
inductive Rps (B:Nat->Prop) (M:Mm):List PV->List D->Prop
 | nil:Rps B M [] []
 | cons {x:PV} {d:D} {xs:List PV} {ds:List D}:Rp B M x d->Rps B M xs ds->Rps B M (x::xs) (d::ds)
inductive Rpo (B:Nat->Prop) (M:Mm):List (Option PV)->List (Option D)->Prop
 | nil:Rpo B M [] []
 | no {o:Option PV} {xs:List (Option PV)} {ds:List (Option D)}:Rpo B M xs ds->Rpo B M (o::xs) (none::ds)
 | cons {x:PV} {d:D} {xs:List (Option PV)} {ds:List (Option D)}:Rp B M x d->Rpo B M xs ds->Rpo B M (some x::xs) (some d::ds)
end
def Stp (B B':Nat->Prop) (M M':Mm):Prop:=∀ (n:Nat) (o:Ob),¬ B n->M[n]? = some o->¬ B' n/\M'[n]? = some o
section
variable {B B':Nat->Prop} {M M':Mm}
mutual
theorem Rp.step (h:Stp B B' M M'):∀ {x:PV} {d:D},Rp B M x d->Rp B' M' x d
 | _,_,.non=>.non
 | _,_,.bl b=>.bl b
 | _,_,.int b=>.int b
 | _,_,.str b=>.str b
 | _,_,.cl b=>.cl b
 | _,_,.fn a b=>.fn a b
 | _,_,.tup a=>.tup (Rps.step h a)
 | _,_,.lst a b c=>.lst (h _ _ a b).1 (h _ _ a b).2 (Rps.step h c)
 | _,_,.dic a b c e=>.dic (h _ _ a b).1 (h _ _ a b).2 c (Rps.step h e)
 | _,_,.ins a b c e=>.ins (h _ _ a b).1 (h _ _ a b).2 c (Rps.step h e)
 | _,_,.slt a b c=>.slt (h _ _ a b).1 (h _ _ a b).2 (Rpo.step h c)
 | _,_,.ptup a=>.ptup (Rps.step h a)
theorem Rps.step (h:Stp B B' M M'):∀ {x:List PV} {d:List D},Rps B M x d->Rps B' M' x d
 | _,_,.nil=>.nil
 | _,_,.cons a b=>.cons (Rp.step h a) (Rps.step h b)
theorem Rpo.step (h:Stp B B' M M'):∀ {x:List (Option PV)} {d:List (Option D)},Rpo B M x d->Rpo B' M' x d
 | _,_,.nil=>.nil
 | _,_,.no a=>.no (Rpo.step h a)
 | _,_,.cons a b=>.cons (Rp.step h a) (Rpo.step h b)
end
theorem Rps.length:∀ {xs:List PV} {ds:List D},Rps B M xs ds->xs.length=ds.length
 | _,_,.nil=>rfl
 | _,_,.cons _ b=>by simp [Rps.length b]
theorem Rps.get:∀ {xs:List PV} {ds:List D} {i:Nat} {d:D},Rps B M xs ds->ds[i]? = some d->∃ x,xs[i]? = some x/\Rp B M x d
 | _,_,_,_,.nil,e=>by simp at e
 | _,_,0,_,.cons a _,e=>by simp at e;subst e;exact ⟨_,rfl,a⟩
 | _,_,i+1,d,.cons _ b,e=>by
  obtain ⟨x,h1,h2⟩:=Rps.get (i:=i) b (by simpa using e)
  exact ⟨x,by simpa using h1,h2⟩
theorem Rps.get':∀ {xs:List PV} {ds:List D} {i:Nat} {x:PV},Rps B M xs ds->xs[i]? = some x->∃ d,ds[i]? = some d/\Rp B M x d
 | _,_,_,_,.nil,e=>by simp at e
 | _,_,0,_,.cons a _,e=>by simp at e;subst e;exact ⟨_,rfl,a⟩
 | _,_,i+1,d,.cons _ b,e=>by
  obtain ⟨x,h1,h2⟩:=Rps.get' (i:=i) b (by simpa using e)
  exact ⟨x,by simpa using h1,h2⟩
theorem Rps.none {xs:List PV} {ds:List D} {i:Nat} (h:Rps B M xs ds) (e:ds[i]? = none):xs[i]? = none:=by
 have:=h.length
 rw [List.getElem?_eq_none_iff] at e ⊢
 omega
theorem Rps.append:∀ {xs ys:List PV} {ds es:List D},Rps B M xs ds->Rps B M ys es->Rps B M (xs++ys) (ds++es)
 | _,_,_,_,.nil,h=>h
 | _,_,_,_,.cons a b,h=>.cons a (Rps.append b h)
theorem Rps.drop:∀ {xs:List PV} {ds:List D} (n:Nat),Rps B M xs ds->Rps B M (xs.drop n) (ds.drop n)
 | _,_,0,h=>h
 | _,_,_+1,.nil=>.nil
 | _,_,n+1,.cons _ b=>Rps.drop n b
theorem Rps.take:∀ {xs:List PV} {ds:List D} (n:Nat),Rps B M xs ds->Rps B M (xs.take n) (ds.take n)
 | _,_,0,_=>.nil
 | _,_,_+1,.nil=>.nil
 | _,_,n+1,.cons a b=>.cons a (Rps.take n b)
theorem Rps.set:∀ {xs:List PV} {ds:List D} (n:Nat) {x:PV} {d:D},Rps B M xs ds->Rp B M x d->Rps B M (xs.set n x) (ds.set n d)
 | _,_,_,_,_,.nil,_=>.nil
 | _,_,0,_,_,.cons _ b,h=>.cons h b
 | _,_,n+1,_,_,.cons a b,h=>.cons a (Rps.set n b h)
theorem Rps.erase:∀ {xs:List PV} {ds:List D} (n:Nat),Rps B M xs ds->Rps B M (xs.eraseIdx n) (ds.eraseIdx n)
 | _,_,_,.nil=>.nil
 | _,_,0,.cons _ b=>b
 | _,_,n+1,.cons a b=>.cons a (Rps.erase n b)
theorem Rps.reverse:∀ {xs:List PV} {ds:List D},Rps B M xs ds->Rps B M xs.reverse ds.reverse
 | _,_,.nil=>.nil
 | _,_,.cons a b=>by
  rw [List.reverse_cons,List.reverse_cons]
  exact Rps.append (Rps.reverse b) (.cons a .nil)
theorem Rps.ints:∀ ns:List Int,Rps B M (ns.map .int) (ns.map .int)
 | []=>.nil
 | _::ns=>.cons (.int _) (Rps.ints ns)
end
structure Oq where
 p:Mm->PV->List Nat->Prop
 st:∀ {M M':Mm} {x:PV} {ns:List Nat},p M x ns->(∀ n∈ns,M'[n]? = M[n]?)->p M' x ns
 lt:∀ {M:Mm} {x:PV} {ns:List Nat},p M x ns->∀ n∈ns,n<M.length
mutual
inductive OT where
 | v (d:D) | ol (xs:List D) | od (kvs:List (Key × D)) | oi (c:Str) (fs:OF) | os (c:Str) (fs:OF) | oo (P:Oq)
inductive OF where
 | nil | no (r:OF) | cons (f:Str) (t:OT) (r:OF)
end
mutual
def OR (B:Nat->Prop) (M:Mm):OT->PV->List Nat->Prop
 | .v d,x,ns=>Rp B M x d/\ns=[]
 | .ol ds,x,ns=>∃ n xs,x=.ref n/\ns=[n]/\M[n]? = some (.lst xs)/\Rps B M xs ds
 | .od ds,x,ns=>∃ n kvs,x=.ref n/\ns=[n]/\M[n]? = some (.dic kvs)/\kvs.map (·.1)=ds.map (·.1)/\Rps B M (kvs.map (·.2)) (ds.map (·.2))
 | .oi c fs,x,ns=>∃ n vs ms,x=.ref n/\ns=n::ms/\M[n]? = some (.ins c vs)/\OFR B M fs vs ms
 | .os c fs,x,ns=>∃ n vs ms,x=.ref n/\ns=n::ms/\M[n]? = some (.slt c vs)/\OSR B M fs vs ms
 | .oo P,x,ns=>P.p M x ns
def OFR (B:Nat->Prop) (M:Mm):OF->List (Str × PV)->List Nat->Prop
 | .nil,vs,ms=>vs=[]/\ms=[]
 | .no _,_,_=>False
 | .cons f t r,vs,ms=>∃ x vs' m1 m2,vs=(f,x)::vs'/\ms=m1++m2/\OR B M t x m1/\OFR B M r vs' m2
def OSR (B:Nat->Prop) (M:Mm):OF->List (Option PV)->List Nat->Prop
 | .nil,vs,ms=>vs=[]/\ms=[]
 | .no r,vs,ms=>∃ o vs',vs=o::vs'/\OSR B M r vs' ms
 | .cons _ t r,vs,ms=>∃ x vs' m1 m2,vs=some x::vs'/\ms=m1++m2/\OR B M t x m1/\OSR B M r vs' m2
end
mutual
def OT.toD:OT->Option D
 | .v d=>some d
 | .ol xs=>some (.lst xs)
 | .od kvs=>some (.dic kvs)
 | .oi c fs=>fs.toDs.map (.ins c)
 | .os c fs=>fs.toDo.map (.slt c)
 | .oo _=>none
def OF.toDs:OF->Option (List (Str × D))
 | .nil=>some []
 | .no _=>none
 | .cons f t r=>match t.toD,r.toDs with | some d,some l=>some ((f,d)::l) | _,_=>none
def OF.toDo:OF->Option (List (Option D))
 | .nil=>some []
 | .no r=>r.toDo.map (none :: ·)
 | .cons _ t r=>match t.toD,r.toDo with | some d,some l=>some (some d::l) | _,_=>none
end
def Stt (B B':Nat->Prop) (M M':Mm) (ns:List Nat):Prop:=Stp B B' M M'/\∀ n∈ns,∀ o,M[n]? = some o->M'[n]? = some o
theorem Stt.sub {B B':Nat->Prop} {M M':Mm} {ns ms:List Nat} (h:Stt B B' M M' ns) (hs:∀ n∈ms,n∈ns):Stt B B' M M' ms:=⟨h.1,fun n hn=>h.2 n (hs n hn)⟩
section
variable {B B':Nat->Prop} {M M':Mm}
mutual
theorem OR.lt:∀ {t:OT} {x:PV} {ns:List Nat},OR B M t x ns->∀ n∈ns,n<M.length
 | .v _,_,_,⟨_,e⟩,n,hn=>by subst e;cases hn
 | .ol _,_,_,⟨m,xs,_,e,h,_⟩,n,hn=>by subst e;simp at hn;subst hn;exact (List.getElem?_eq_some_iff.mp h).1
 | .od _,_,_,⟨m,xs,_,e,h,_⟩,n,hn=>by subst e;simp at hn;subst hn;exact (List.getElem?_eq_some_iff.mp h).1
 | .oi _ _,_,_,⟨m,vs,ms,_,e,h,h2⟩,n,hn=>by
  subst e
  rcases List.mem_cons.mp hn with rfl | hn
  ·exact (List.getElem?_eq_some_iff.mp h).1
  ·exact OFR.lt h2 n hn
 | .os _ _,_,_,⟨m,vs,ms,_,e,h,h2⟩,n,hn=>by
  subst e
  rcases List.mem_cons.mp hn with rfl | hn
  ·exact (List.getElem?_eq_some_iff.mp h).1
  ·exact OSR.lt h2 n hn
 | .oo P,_,_,h,n,hn=>P.lt h n hn
theorem OFR.lt:∀ {t:OF} {x:List (Str × PV)} {ns:List Nat},OFR B M t x ns->∀ n∈ns,n<M.length
 | .nil,_,_,⟨_,e⟩,n,hn=>by subst e;cases hn
 | .no _,_,_,h,_,_=>h.elim
 | .cons _ _ _,_,_,⟨x,vs,m1,m2,_,e,h1,h2⟩,n,hn=>by
  subst e
  rcases List.mem_append.mp hn with q | q
  ·exact OR.lt h1 n q
  ·exact OFR.lt h2 n q
theorem OSR.lt:∀ {t:OF} {x:List (Option PV)} {ns:List Nat},OSR B M t x ns->∀ n∈ns,n<M.length
 | .nil,_,_,⟨_,e⟩,n,hn=>by subst e;cases hn
 | .no _,_,_,⟨_,_,_,h⟩,n,hn=>OSR.lt h n hn
 | .cons _ _ _,_,_,⟨x,vs,m1,m2,_,e,h1,h2⟩,n,hn=>by
  subst e
  rcases List.mem_append.mp hn with q | q
  ·exact OR.lt h1 n q
  ·exact OSR.lt h2 n q
end
theorem keep_lt {n:Nat} {ns:List Nat} (hl:∀ n∈ns,n<M.length) (h:∀ n∈ns,∀ o,M[n]? = some o->M'[n]? = some o):∀ n∈ns,M'[n]? = M[n]?:=fun n hn=>by
 rw [List.getElem?_eq_getElem (hl n hn)]
 exact h n hn _ (List.getElem?_eq_getElem (hl n hn))
mutual
theorem OR.step:∀ {t:OT} {x:PV} {ns:List Nat},Stt B B' M M' ns->OR B M t x ns->OR B' M' t x ns
 | .v _,_,_,s,⟨h,e⟩=>⟨h.step s.1,e⟩
 | .ol _,_,_,s,⟨n,xs,a,e,h,r⟩=>⟨n,xs,a,e,s.2 n (by rw [e];simp) _ h,r.step s.1⟩
 | .od _,_,_,s,⟨n,xs,a,e,h,k,r⟩=>⟨n,xs,a,e,s.2 n (by rw [e];simp) _ h,k,r.step s.1⟩
 | .oi _ _,_,_,s,⟨n,vs,ms,a,e,h,r⟩=>⟨n,vs,ms,a,e,s.2 n (by rw [e];simp) _ h,OFR.step (s.sub fun m hm=>by rw [e];simp [hm]) r⟩
 | .os _ _,_,_,s,⟨n,vs,ms,a,e,h,r⟩=>⟨n,vs,ms,a,e,s.2 n (by rw [e];simp) _ h,OSR.step (s.sub fun m hm=>by rw [e];simp [hm]) r⟩
 | .oo P,_,_,s,h=>P.st h (keep_lt (n:=0) (P.lt h) s.2)
theorem OFR.step:∀ {t:OF} {x:List (Str × PV)} {ns:List Nat},Stt B B' M M' ns->OFR B M t x ns->OFR B' M' t x ns
 | .nil,_,_,_,h=>h
 | .no _,_,_,_,h=>h.elim
 | .cons _ _ _,_,_,s,⟨x,vs,m1,m2,a,e,h1,h2⟩=>⟨x,vs,m1,m2,a,e,OR.step (s.sub fun m hm=>by rw [e];simp [hm]) h1,OFR.step (s.sub fun m hm=>by rw [e];simp [hm]) h2⟩
theorem OSR.step:∀ {t:OF} {x:List (Option PV)} {ns:List Nat},Stt B B' M M' ns->OSR B M t x ns->OSR B' M' t x ns
 | .nil,_,_,_,h=>h
 | .no _,_,_,s,⟨o,vs,a,h⟩=>⟨o,vs,a,OSR.step s h⟩
 | .cons _ _ _,_,_,s,⟨x,vs,m1,m2,a,e,h1,h2⟩=>⟨x,vs,m1,m2,a,e,OR.step (s.sub fun m hm=>by rw [e];simp [hm]) h1,OSR.step (s.sub fun m hm=>by rw [e];simp [hm]) h2⟩
end
mutual
theorem OR.free:∀ {t:OT} {x:PV} {ns:List Nat} {d:D},OR B M t x ns->t.toD=some d->(∀ n,B' n->B n/\n∉ns)->Rp B' M x d
 | .v _,_,_,_,⟨h,e⟩,rfl,s=>h.step fun n o a b=>⟨fun z=>a (s n z).1,b⟩
 | .ol _,_,_,_,⟨n,xs,a,e,h,r⟩,rfl,s=>by
  subst a;subst e
  exact .lst (fun z=>(s n z).2 (by simp)) h (r.step fun n o a b=>⟨fun z=>a (s n z).1,b⟩)
 | .od _,_,_,_,⟨n,xs,a,e,h,k,r⟩,rfl,s=>by
  subst a;subst e
  exact .dic (fun z=>(s n z).2 (by simp)) h k (r.step fun n o a b=>⟨fun z=>a (s n z).1,b⟩)
 | .oi _ _,_,_,_,⟨n,vs,ms,a,e,h,r⟩,q,s=>by
  subst a;subst e
  obtain ⟨l,h1,rfl⟩:=Option.map_eq_some_iff.mp q
  obtain ⟨k1,k2⟩:=OFR.free r h1 fun n hn=>⟨(s n hn).1,fun z=>(s n hn).2 (by simp [z])⟩
  exact .ins (fun z=>(s n z).2 (by simp)) h k1 k2
 | .os _ _,_,_,_,⟨n,vs,ms,a,e,h,r⟩,q,s=>by
  subst a;subst e
  obtain ⟨l,h1,rfl⟩:=Option.map_eq_some_iff.mp q
  exact .slt (fun z=>(s n z).2 (by simp)) h (OSR.free r h1 fun n hn=>⟨(s n hn).1,fun z=>(s n hn).2 (by simp [z])⟩)
theorem OFR.free:∀ {t:OF} {x:List (Str × PV)} {ns:List Nat} {d:List (Str × D)},OFR B M t x ns->t.toDs=some d->(∀ n,B' n->B n/\n∉ns)->x.map (·.1)=d.map (·.1)/\Rps B' M (x.map (·.2)) (d.map (·.2))
 | .nil,_,_,_,⟨a,e⟩,rfl,s=>by subst a;exact ⟨rfl,.nil⟩
 | .no _,_,_,_,h,_,_=>h.elim
 | .cons f t r,_,_,_,⟨x,vs,m1,m2,a,e,h1,h2⟩,q,s=>by
  subst a;subst e
  rw [OF.toDs] at q
  split at q
  ·rename_i d l q1 q2
   cases q
   obtain ⟨k1,k2⟩:=OFR.free h2 q2 fun n hn=>⟨(s n hn).1,fun z=>(s n hn).2 (by simp [z])⟩
   have k3:=OR.free h1 q1 fun n hn=>⟨(s n hn).1,fun z=>(s n hn).2 (by simp [z])⟩
   exact ⟨by simp [k1],.cons k3 k2⟩
  ·cases q
theorem OSR.free:∀ {t:OF} {x:List (Option PV)} {ns:List Nat} {d:List (Option D)},OSR B M t x ns->t.toDo=some d->(∀ n,B' n->B n/\n∉ns)->Rpo B' M x d
 | .nil,_,_,_,⟨a,e⟩,rfl,s=>by subst a;exact .nil
 | .no r,_,_,_,⟨o,vs,a,h⟩,q,s=>by
  subst a
  obtain ⟨l,h1,rfl⟩:=Option.map_eq_some_iff.mp q
  exact .no (OSR.free h h1 s)
 | .cons f t r,_,_,_,⟨x,vs,m1,m2,a,e,h1,h2⟩,q,s=>by
  subst a;subst e
  rw [OF.toDo] at q
  split at q
  ·rename_i d l q1 q2
   cases q
   exact .cons (OR.free h1 q1 fun n hn=>⟨(s n hn).1,fun z=>(s n hn).2 (by simp [z])⟩) (OSR.free h2 q2 fun n hn=>⟨(s n hn).1,fun z=>(s n hn).2 (by simp [z])⟩)
  ·cases q
end
end
end Mp.V
namespace Mp.V
open PySem L2
def OT.top:OT->Option D
 | .v d=>some d
 | .ol xs=>some (.lst xs)
 | .od kvs=>some (.dic kvs)
 | _=>none
def RT (B:Nat->Prop) (M:Mm) (x:PV):D->Prop
 | .lst ds=>∃ n xs,x=.ref n/\M[n]? = some (.lst xs)/\Rps B M xs ds
 | .dic ds=>∃ n kvs,x=.ref n/\M[n]? = some (.dic kvs)/\kvs.map (·.1)=ds.map (·.1)/\Rps B M (kvs.map (·.2)) (ds.map (·.2))
 | d=>Rp B M x d
section
variable {B:Nat->Prop} {M:Mm}
theorem Rp.rt {x:PV} {d:D} (h:Rp B M x d):RT B M x d:=by
 cases h with
 | lst a b c=>exact ⟨_,_,rfl,b,c⟩
 | dic a b c e=>exact ⟨_,_,rfl,b,c,e⟩
 | non=>exact .non
 | bl b=>exact .bl b
 | int b=>exact .int b
 | str b=>exact .str b
 | cl b=>exact .cl b
 | fn a b=>exact .fn a b
 | tup a=>exact .tup a
 | ptup a=>exact .ptup a
 | ins a b c e=>exact .ins a b c e
 | slt a b c=>exact .slt a b c
theorem OR.rt {t:OT} {x:PV} {ns:List Nat} {d:D} (h:OR B M t x ns) (e:t.top=some d):RT B M x d:=by
 cases t with
 | v d'=>cases e;exact h.1.rt
 | ol xs=>cases e;obtain ⟨n,xs,a,_,b,c⟩:=h;exact ⟨n,xs,a,b,c⟩
 | od xs=>cases e;obtain ⟨n,xs,a,_,b,c⟩:=h;exact ⟨n,xs,a,b,c⟩
 | _=>cases e
end
mutual
def D.py:D->Option PyData
 | .non=>some .none
 | .bl b=>some (.bool b)
 | .int i=>some (.int i)
 | .str s=>some (.str s)
 | .cl ns=>some (.list (ns.map .int))
 | .tup xs=>(D.pys xs).map .tuple
 | .lst xs=>(D.pys xs).map .list
 | .ptup xs=>(D.pys xs).map .tuple
 | _=>none
def D.pys:List D->Option (List PyData)
 | []=>some []
 | d::ds=>match d.py,D.pys ds with | some p,some ps=>some (p::ps) | _,_=>none
end
theorem dep_cons {p:PyData} {ps:List PyData}:PyData.depthAll (p::ps)=Nat.max (PyData.depth p) (PyData.depthAll ps):=by rw [PyData.depthAll]
section
variable {B:Nat->Prop} {M:Mm}
mutual
theorem Rp.toD:∀ {x:PV} {d:D} {p:PyData} {k:Nat},Rp B M x d->d.py=some p->PyData.depth p<k->Mp.toD k M x=some p
 | _,_,_,0,_,_,h=>by omega
 | _,_,_,k+1,.non,e,_=>by rw [D.py] at e;cases e;rfl
 | _,_,_,k+1,.bl b,e,_=>by rw [D.py] at e;cases e;rfl
 | _,_,_,k+1,.int b,e,_=>by rw [D.py] at e;cases e;rfl
 | _,_,_,k+1,.str b,e,_=>by rw [D.py] at e;cases e;rfl
 | _,_,_,k+1,.cl b,e,_=>by rw [D.py] at e;cases e;rfl
 | _,_,_,k+1,.fn a b,e,_=>by simp [D.py] at e
 | _,_,_,k+1,.tup a,e,h=>by
  rw [D.py] at e
  obtain ⟨ps,h1,rfl⟩:=Option.map_eq_some_iff.mp e
  rw [PyData.depth] at h
  simp only [Mp.toD]
  rw [Rps.toD a h1 (k:=k) (by omega)];rfl
 | _,_,_,k+1,.ptup a,e,h=>by
  rw [D.py] at e
  obtain ⟨ps,h1,rfl⟩:=Option.map_eq_some_iff.mp e
  rw [PyData.depth] at h
  simp only [Mp.toD]
  rw [Rps.toD a h1 (k:=k) (by omega)];rfl
 | _,_,_,k+1,.lst a b c,e,h=>by
  rw [D.py] at e
  obtain ⟨ps,h1,rfl⟩:=Option.map_eq_some_iff.mp e
  rw [PyData.depth] at h
  simp only [Mp.toD,b]
  rw [Rps.toD c h1 (k:=k) (by omega)];rfl
 | _,_,_,k+1,.dic _ _ _ _,e,_=>by simp [D.py] at e
 | _,_,_,k+1,.ins _ _ _ _,e,_=>by simp [D.py] at e
 | _,_,_,k+1,.slt _ _ _,e,_=>by simp [D.py] at e
theorem Rps.toD:∀ {x:List PV} {d:List D} {p:List PyData} {k:Nat},Rps B M x d->D.pys d=some p->PyData.depthAll p<k->x.mapM (Mp.toD k M)=some p
 | _,_,_,k,.nil,e,_=>by rw [D.pys] at e;cases e;rfl
 | _,_,_,k,.cons a b,e,h=>by
  rw [D.pys] at e
  split at e
  ·rename_i p ps h1 h2
   cases e
   rw [dep_cons] at h
   have h3:=Nat.le_max_left (PyData.depth p) (PyData.depthAll ps)
   have h4:=Nat.le_max_right (PyData.depth p) (PyData.depthAll ps)
   rw [List.mapM_cons,Rp.toD a h1 (k:=k) (Nat.lt_of_le_of_lt h3 h),Rps.toD b h2 (k:=k) (Nat.lt_of_le_of_lt h4 h)]
   rfl
  ·cases e
end
theorem RT.toD {x:PV} {d:D} {p:PyData} {k:Nat} (h:RT B M x d) (e:d.py=some p) (hd:PyData.depth p<k):Mp.toD k M x=some p:=by
 cases d with
 | lst ds =>
  obtain ⟨n,xs,rfl,a,b⟩:=h
  exact Rp.toD (B:=fun _=>False) (Rp.lst (fun z=>z) a (b.step fun n o _ q=>⟨fun z=>z,q⟩)) e hd
 | dic ds=>simp [D.py] at e
 | _=>exact Rp.toD h e hd
end
def zfj:Bo->D->D->Option D
 | .add,.int i,.int j=>some (.int (i+j))
 | .add,.str a,.str b=>if a.length+b.length<=sizeLine then some (.str (a++b)) else none
 | .add,.tup xs,.tup ys=>if xs.length+ys.length<=sizeLine then some (.tup (xs++ys)) else none
 | .add,.ptup xs,.ptup ys=>if xs.length+ys.length<=sizeLine then some (.ptup (xs++ys)) else none
 | .sub,.int i,.int j=>some (.int (i-j))
 | .mul,.int i,.int j=>if zcY i j then some (.int (i*j)) else none
 | .mul,.tup xs,.int j=>if 0<=j/\j<=1000/\xs.length<=1000 then some (.tup (List.replicate j.toNat xs).flatten) else none
 | .fdiv,.int i,.int j=>if 0<j/\j<1073741824 then some (.int (i / j)) else none
 | .mod,.int i,.int j=>if 0<j then some (.int (i % j)) else none
 | .pow,.int i,.int j=>if 0<=j/\j<=1000000/\i.natAbs<2 ^ 64 then some (.int (i ^ j.toNat)) else none
 | _,_,_=>none
section
variable {B:Nat->Prop} {M:Mm}
theorem Rps.reps {xs:List PV} {ds:List D} (h:Rps B M xs ds):∀ n:Nat,Rps B M (List.replicate n xs).flatten (List.replicate n ds).flatten
 | 0=>.nil
 | n+1=>by
  rw [List.replicate_succ,List.replicate_succ,List.flatten_cons,List.flatten_cons]
  exact h.append (Rps.reps h n)
theorem zlT {o:Bo} {a b:PV} {x y z:D} (ha:Rp B M a x) (hb:Rp B M b y) (e:zfj o x y=some z):∃ v,zat M o a b=some (v,M)/\Rp B M v z:=by
 unfold zfj at e
 split at e
 ·cases ha;cases hb;cases e;exact ⟨_,rfl,.int _⟩
 ·cases ha;cases hb
  split at e
  ·rename_i h;cases e;exact ⟨_,by simp only [zat];rw [if_pos h],.str _⟩
  ·cases e
 ·cases ha with | tup h1=>cases hb with | tup h2 =>
  split at e
  ·rename_i h;cases e;exact ⟨_,by simp only [zat];rw [if_pos (by rw [h1.length,h2.length];exact h)],.tup (h1.append h2)⟩
  ·cases e
 ·cases ha with | ptup h1=>cases hb with | ptup h2 =>
  split at e
  ·rename_i h;cases e;exact ⟨_,by simp only [zat];rw [if_pos (by rw [h1.length,h2.length];exact h)],.ptup (h1.append h2)⟩
  ·cases e
 ·cases ha;cases hb;cases e;exact ⟨_,rfl,.int _⟩
 ·cases ha;cases hb
  split at e
  ·rename_i h;cases e;exact ⟨_,by simp only [zat];rw [if_pos h],.int _⟩
  ·cases e
 ·cases ha with | tup h1=>cases hb with | int j =>
  split at e
  ·rename_i h;cases e
   obtain ⟨q2,q3,q4⟩:=h
   exact ⟨_,by simp only [zat];rw [if_pos ⟨q2,q3,by rw [h1.length];exact q4⟩],.tup (h1.reps _)⟩
  ·cases e
 ·cases ha;cases hb
  split at e
  ·rename_i h;cases e;exact ⟨_,by simp only [zat];rw [if_pos h],.int _⟩
  ·cases e
 ·cases ha;cases hb
  split at e
  ·rename_i h;cases e;exact ⟨_,by simp only [zat];rw [if_pos h],.int _⟩
  ·cases e
 ·cases ha;cases hb
  split at e
  ·rename_i h;cases e;exact ⟨_,by simp only [zat];rw [if_pos h],.int _⟩
  ·cases e
 ·cases e
end
def zi5:D->D->Option Bool
 | .non,.non=>some true | .non,.int _=>some false | .int _,.non=>some false | .non,.bl _=>some false | .bl _,.non=>some false
 | .non,.str _=>some false | .str _,.non=>some false
 | .int i,.int j=>some (decide (i=j)) | .bl i,.bl j=>some (decide (i=j)) | .str i,.str j=>some (decide (i=j))
 | .int _,.str _=>some false | .str _,.int _=>some false | .bl _,.str _=>some false | .str _,.bl _=>some false
 | _,_=>none
def deq (x y:D):Option Bool :=
 match zi5 x y with
 | some b=>some b
 | none =>
  match x.py,y.py with
  | some d,some e=>if PyData.depth d<20/\PyData.depth e<20/\SeqAt.shaped d=true/\SeqAt.shaped e=true then some (PyData.eqv d e) else none
  | _,_=>none
def D.flat:D->Bool
 | .non=>true | .bl _=>true | .int _=>true | .str _=>true | _=>false
def deqF:D->D->Bool
 | .non,.non=>true
 | .bl i,.bl j=>i == j | .int i,.int j=>i == j | .str i,.str j=>i == j
 | .bl a,.int j=>(if a then 1 else 0) == j | .int i,.bl b=>i == (if b then 1 else 0)
 | _,_=>false
def keyD:D->Option Key
 | .int i=>some (.inl i)
 | .str s=>some (.inr s)
 | _=>none
def zkd {α:Type} (kvs:List (Key × α)) (k:Key):Option α:=(kvs.find? fun kv=>decide (kv.1=k)).map (·.2)
def zi4 (x:D) (ys:List D):Option Bool:=if x.flat && ys.all D.flat then some (ys.any fun y=>deqF y x) else none
def dinD (x:D) (ys:List D):Option Bool :=
 match x.py,D.pys ys with
 | some d,some ds=>if PyData.depth d<20/\PyData.depthAll ds<19/\SeqAt.shaped d=true/\SeqAt.shaped (.list ds)=true then some (ds.any fun z=>PyData.eqv z d) else none
 | _,_=>none
def dinDT (x:D) (ys:List D):Option Bool :=
 match x.py,D.pys ys with
 | some d,some ds=>if PyData.depth d<20/\PyData.depthAll ds<19/\SeqAt.shaped d=true/\SeqAt.shaped (.tuple ds)=true then some (ds.any fun z=>PyData.eqv z d) else none
 | _,_=>none
def din (x:D):D->Option Bool
 | .tup xs=>(match zi4 x xs with | some b=>some b | none=>dinDT x xs)
 | .lst xs=>(match zi4 x xs with | some b=>some b | none=>dinD x xs)
 | .dic kvs=>(keyD x).map fun k=>(zkd kvs k).isSome
 | .str z=>(match x with | .str s=>(match s.cps.toList with | [c]=>some (decide (c∈z.cps.toList)) | _=>none) | _=>none)
 | _=>none
def zcG:Co->D->D->Option Bool
 | .eq,x,y=>deq x y
 | .ne,x,y=>(deq x y).map (!·)
 | .lt,.int i,.int j=>some (decide (i<j))
 | .le,.int i,.int j=>some (decide (i<=j))
 | .gt,.int i,.int j=>some (decide (j<i))
 | .ge,.int i,.int j=>some (decide (j<=i))
 | .isin,x,y=>din x y
 | .notin,x,y=>(din x y).map (!·)
 | .isN,x,.non=>some (match x with | .non=>true | _=>false)
 | .isNN,x,.non=>some (match x with | .non=>false | _=>true)
 | .isN,.bl a,.bl b=>some (a == b)
 | .isNN,.bl a,.bl b=>some (!(a == b))
 | _,_,_=>none
section
variable {B:Nat->Prop} {M:Mm}
theorem Rp.rtE {x:PV} {d:D} (h:RT B M x d) (hd:∀ ds,d≠.lst ds) (hd2:∀ ds,d≠.dic ds):Rp B M x d:=by
 cases d with
 | lst ds=>exact absurd rfl (hd ds)
 | dic ds=>exact absurd rfl (hd2 ds)
 | _=>exact h
theorem eqS_rt {a b:PV} {x y:D} (ha:RT B M a x) (hb:RT B M b y):eqS a b=zi5 x y:=by
 have key:∀ {a:PV} {x:D},RT B M a x->(x=.non/\a=.non)\/(∃ i,x=.bl i/\a=.bl i)\/(∃ i,x=.int i/\a=.int i)\/(∃ i,x=.str i/\a=.str i) \/
   ((∃ ns,a=.cl ns)\/(∃ xs,a=.tup xs)\/(∃ n,a=.ref n)\/(∃ n s,a=.fn n s)\/(∃ xs,a=.ptup xs))/\((∃ ns,x=.cl ns)\/(∃ n s,x=.fn n s)\/(∃ xs,x=.tup xs)\/(∃ xs,x=.lst xs)\/(∃ xs,x=.dic xs)\/(∃ c xs,x=.ins c xs)\/(∃ c xs,x=.slt c xs)\/(∃ xs,x=.ptup xs)):=by
  intro a x h
  cases x with
  | lst ds=>obtain ⟨n,xs,rfl,_⟩:=h;simp
  | dic ds=>obtain ⟨n,xs,rfl,_⟩:=h;simp
  | _=>cases h<;>simp
 rcases key ha with ⟨rfl,rfl⟩ | ⟨i,rfl,rfl⟩ | ⟨i,rfl,rfl⟩ | ⟨i,rfl,rfl⟩ | ⟨h1,h2⟩<;>rcases key hb with ⟨rfl,rfl⟩ | ⟨j,rfl,rfl⟩ | ⟨j,rfl,rfl⟩ | ⟨j,rfl,rfl⟩ | ⟨h3,h4⟩<;>first
  | rfl
  | (rcases h1 with ⟨_,rfl⟩ | ⟨_,rfl⟩ | ⟨_,rfl⟩ | ⟨_,_,rfl⟩ | ⟨_,rfl⟩<;>rcases h2 with ⟨_,rfl⟩ | ⟨_,_,rfl⟩ | ⟨_,rfl⟩ | ⟨_,rfl⟩ | ⟨_,rfl⟩ | ⟨_,_,rfl⟩ | ⟨_,_,rfl⟩ | ⟨_,rfl⟩<;>rfl)
  | (rcases h3 with ⟨_,rfl⟩ | ⟨_,rfl⟩ | ⟨_,rfl⟩ | ⟨_,_,rfl⟩ | ⟨_,rfl⟩<;>rcases h4 with ⟨_,rfl⟩ | ⟨_,_,rfl⟩ | ⟨_,rfl⟩ | ⟨_,rfl⟩ | ⟨_,rfl⟩ | ⟨_,_,rfl⟩ | ⟨_,_,rfl⟩ | ⟨_,rfl⟩<;>rfl)
  | (rcases h1 with ⟨_,rfl⟩ | ⟨_,rfl⟩ | ⟨_,rfl⟩ | ⟨_,_,rfl⟩ | ⟨_,rfl⟩<;>rcases h2 with ⟨_,rfl⟩ | ⟨_,_,rfl⟩ | ⟨_,rfl⟩ | ⟨_,rfl⟩ | ⟨_,rfl⟩ | ⟨_,_,rfl⟩ | ⟨_,_,rfl⟩ | ⟨_,rfl⟩<;>rcases h3 with ⟨_,rfl⟩ | ⟨_,rfl⟩ | ⟨_,rfl⟩ | ⟨_,_,rfl⟩ | ⟨_,rfl⟩<;>rcases h4 with ⟨_,rfl⟩ | ⟨_,_,rfl⟩ | ⟨_,rfl⟩ | ⟨_,rfl⟩ | ⟨_,rfl⟩ | ⟨_,_,rfl⟩ | ⟨_,_,rfl⟩ | ⟨_,rfl⟩<;>rfl)
theorem deq_ok {a b:PV} {x y:D} {k:Bool} (ha:RT B M a x) (hb:RT B M b y) (e:deq x y=some k):eqP M a b=some k:=by
 unfold deq at e
 unfold eqP
 rw [eqS_rt ha hb]
 split at e
 ·rename_i q;first | exact e | (rw [q];exact e)
 ·rename_i q
  try rw [q]
  split at e
  ·rename_i d f h1 h2
   split at e
   ·rename_i h
    simp only [ha.toD h1 h.1,hb.toD h2 h.2.1,h.2.2.1,h.2.2.2]
    exact e
   ·cases e
  ·cases e
theorem zep:∀ {kvs:List (Key × PV)} {ds:List (Key × D)} (k:Key),kvs.map (·.1)=ds.map (·.1)->Rps B M (kvs.map (·.2)) (ds.map (·.2))->(∀ d,zkd ds k=some d->∃ v,getD kvs k=some v/\Rp B M v d)/\(zkd ds k=none->getD kvs k=none)
 | [],[],k,_,_=>⟨fun d h=>by simp [zkd] at h,fun _=>rfl⟩
 | [],_::_,_,h,_=>by simp at h
 | _::_,[],_,h,_=>by simp at h
 | (k1,v)::kvs,(k2,d)::ds,k,h,r=>by
  simp only [List.map_cons,List.cons.injEq] at h r
  obtain ⟨rfl,h⟩:=h
  cases r with
  | cons a b =>
   have ih:=zep k h b
   by_cases q:k1=k
   ·simp [zkd,getD,q]
    exact a
   ·have e1:zkd ((k1,d)::ds) k=zkd ds k:=by simp [zkd,q]
    have e2:getD ((k1,v)::kvs) k=getD kvs k:=by simp [getD,q]
    rw [e1,e2];exact ih
theorem ziQ {a:PV} {x:D} (h:RT B M a x):zad a=keyD x:=by
 cases x with
 | lst ds=>obtain ⟨n,xs,rfl,_⟩:=h;rfl
 | dic ds=>obtain ⟨n,xs,rfl,_⟩:=h;rfl
 | _=>cases h<;>rfl
theorem zge {a:PV} {x:D} (h:RT B M a x):zaS a=x.flat:=by
 cases x with
 | lst ds=>obtain ⟨n,xs,rfl,_⟩:=h;rfl
 | dic ds=>obtain ⟨n,xs,rfl,_⟩:=h;rfl
 | _=>cases h<;>rfl
theorem eqF_rt {a b:PV} {x y:D} (ha:Rp B M a x) (hb:RT B M b y) (h1:x.flat=true) (h2:y.flat=true):eqF a b=deqF x y:=by
 cases x<;>simp [D.flat] at h1<;>cases ha<;>cases y<;>simp [D.flat] at h2<;>cases hb<;>rfl
theorem inP_rt {a:PV} {x:D} {k:Bool} (ha:RT B M a x):∀ {xs:List PV} {ds:List D},Rps B M xs ds->zi4 x ds=some k->inP a xs=some k:=by
 intro xs ds r e
 unfold zi4 at e
 unfold inP
 rw [zge ha]
 split at e
 ·rename_i h
  rw [Bool.and_eq_true] at h
  obtain ⟨h1,h2⟩:=h
  have key:∀ {xs:List PV} {ds:List D},Rps B M xs ds->ds.all D.flat=true->xs.all zaS=true/\(xs.any fun y=>eqF y a)=ds.any fun y=>deqF y x:=by
   intro xs ds r
   induction ds generalizing xs with
   | nil=>intro _;cases r;exact ⟨rfl,rfl⟩
   | cons d ds ih =>
    intro h
    cases r with
    | cons c b =>
     simp only [List.all_cons,Bool.and_eq_true] at h
     obtain ⟨i1,i2⟩:=ih b h.2
     exact ⟨by simp [zge c.rt,h.1,i1],by simp [eqF_rt c ha h.1 h1,i2]⟩
  obtain ⟨k1,k2⟩:=key r h2
  rw [h1,k1,k2]
  simpa using e
 ·cases e
theorem inP_no {a:PV} {x:D} (ha:RT B M a x) {xs:List PV} {ds:List D} (r:Rps B M xs ds) (e:zi4 x ds=none):inP a xs=none:=by
 have key:∀ {xs:List PV} {ds:List D},Rps B M xs ds->xs.all zaS=ds.all D.flat:=by
  intro xs ds r
  induction ds generalizing xs with
  | nil=>cases r;rfl
  | cons d ds ih =>
   cases r with
   | cons c b=>simp [zge c.rt,ih b]
 unfold zi4 at e
 unfold inP
 rw [zge ha,key r]
 split at e
 ·cases e
 ·rename_i h;rw [if_neg h]
theorem zk6 {ds:List D} {ps:List PyData} (h:D.pys ds=some ps):(D.lst ds).py=some (.list ps):=by rw [D.py,h];rfl
theorem py_tup {ds:List D} {ps:List PyData} (h:D.pys ds=some ps):(D.tup ds).py=some (.tuple ps):=by rw [D.py,h];rfl
theorem din_ok {a b:PV} {x y:D} {k:Bool} (ha:RT B M a x) (hb:RT B M b y) (e:din x y=some k):zcx M a b=some k:=by
 cases y with
 | tup ds =>
  cases hb with
  | tup r =>
  simp only [din] at e
  simp only [zcx]
  split at e
  ·rename_i q;cases e;rw [inP_rt ha r q]
  ·rename_i q
   rw [inP_no ha r q]
   simp only [dinDT] at e
   split at e
   ·rename_i d ps p1 p2
    split at e
    ·rename_i h
     have t1:=ha.toD p1 h.1
     have t2:Mp.toD 20 M (.tup _)=some (.tuple ps):=RT.toD (B:=B) (d:=.tup ds) (.tup r) (py_tup p2) (by rw [PyData.depth];omega)
     simp only [inDT,t1,t2,h.2.2.1,h.2.2.2]
     rw [if_pos (by simp;omega)]
     exact e
    ·cases e
   ·cases e
 | lst ds =>
  obtain ⟨n,xs,rfl,h1,h2⟩:=hb
  simp only [din] at e
  simp only [zcx,h1]
  split at e
  ·rename_i q;cases e;rw [inP_rt ha h2 q]
  ·rename_i q
   rw [inP_no ha h2 q]
   simp only [dinD] at e
   split at e
   ·rename_i d ps p1 p2
    split at e
    ·rename_i h
     have t1:=ha.toD p1 h.1
     have t2:Mp.toD 20 M (.ref n)=some (.list ps):=RT.toD (B:=B) (d:=.lst ds) ⟨n,xs,rfl,h1,h2⟩ (zk6 p2) (by rw [PyData.depth];omega)
     simp only [inD,t1,t2,h.2.2.1,h.2.2.2]
     rw [if_pos (by simp;omega)]
     exact e
    ·cases e
   ·cases e
 | dic ds =>
  obtain ⟨n,kvs,rfl,h1,h2,h3⟩:=hb
  simp only [din] at e
  simp only [zcx,h1,ziQ ha]
  obtain ⟨kk,q1,rfl⟩:=Option.map_eq_some_iff.mp e
  rw [q1]
  obtain ⟨g1,g2⟩:=zep (B:=B) (M:=M) kk h2 h3
  simp only [Option.map_some]
  cases q:zkd ds kk with
  | none=>rw [g2 q];rfl
  | some d=>obtain ⟨v,z,_⟩:=g1 d q;rw [z];rfl
 | str z =>
  cases hb
  simp only [din] at e
  cases x with
  | str s =>
   cases ha
   simp only [zcx,sgn]
   cases q:s.cps.toList with
   | nil=>simp [q] at e
   | cons c l =>
    cases l with
    | nil=>simp [q] at e ⊢;exact e
    | cons _ _=>simp [q] at e
  | _=>simp at e
 | _=>simp [din] at e
theorem ze0 {o:Co} {a b:PV} {x y:D} {k:Bool} (ha:RT B M a x) (hb:RT B M b y) (e:zcG o x y=some k):zK M o a b=some k:=by
 cases o with
 | eq=>exact deq_ok ha hb e
 | ne=>obtain ⟨q,h1,rfl⟩:=Option.map_eq_some_iff.mp (show (deq x y).map (!·)=some k from e);show (eqP M a b).map (!·)=_;rw [deq_ok ha hb h1];rfl
 | isin=>exact din_ok ha hb e
 | notin=>obtain ⟨q,h1,rfl⟩:=Option.map_eq_some_iff.mp (show (din x y).map (!·)=some k from e);show (zcx M a b).map (!·)=_;rw [din_ok ha hb h1];rfl
 | isN =>
  cases y with
  | non =>
   simp [zcG] at e
   cases hb
   subst e
   cases x with
   | lst ds=>obtain ⟨n,xs,rfl,_⟩:=ha;rfl
   | dic ds=>obtain ⟨n,xs,rfl,_⟩:=ha;rfl
   | _=>cases ha<;>rfl
  | bl b =>
   cases x<;>simp [zcG] at e
   cases ha;cases hb;subst e;rfl
  | _=>cases x<;>simp [zcG] at e
 | isNN =>
  cases y with
  | non =>
   simp [zcG] at e
   cases hb
   subst e
   cases x with
   | lst ds=>obtain ⟨n,xs,rfl,_⟩:=ha;rfl
   | dic ds=>obtain ⟨n,xs,rfl,_⟩:=ha;rfl
   | _=>cases ha<;>rfl
  | bl b =>
   cases x<;>simp [zcG] at e
   cases ha;cases hb;simp [zK,e]
  | _=>cases x<;>simp [zcG] at e
 | lt=>cases x<;>cases y<;>simp [zcG] at e;cases ha;cases hb;simp [zK,e]
 | le=>cases x<;>cases y<;>simp [zcG] at e;cases ha;cases hb;simp [zK,e]
 | gt=>cases x<;>cases y<;>simp [zcG] at e;cases ha;cases hb;simp [zK,e]
 | ge=>cases x<;>cases y<;>simp [zcG] at e;cases ha;cases hb;simp [zK,e]
 | eqw=>simp [zcG] at e
 | ltw=>simp [zcG] at e
end
end Mp.V
namespace Mp.V
open PySem L2
def zdh:D->D->Option D
 | .tup xs,.int i=>atI xs i
 | .lst xs,.int i=>atI xs i
 | .cl ns,.int i=>(atI ns i).map .int
 | .str z,.int i=>if z.length<=sizeLine then (atI z.cps.toList i).map fun c=>.str ⟨#[c]⟩ else none
 | .dic kvs,y=>(keyD y).bind (zkd kvs)
 | _,_=>none
def zbj {α:Type} (xs:List α) (lo hi:Option Int):List α:=(xs.drop (HT.sIx xs.length 0 lo)).take (HT.sIx xs.length xs.length hi-HT.sIx xs.length 0 lo)
def dopt:Bool->D->Option (Option Int)
 | false,.non=>some none
 | true,.int i=>some (some i)
 | _,_=>none
def zlP (fl fh:Bool) (x lo hi:D):Option D :=
 match dopt fl lo,dopt fh hi with
 | some a,some b=>(match x with | .tup xs=>some (.tup (zbj xs a b)) | .ptup xs=>some (.tup (zbj xs a b)) | .lst xs=>some (.lst (zbj xs a b)) | _=>none)
 | _,_=>none
def dty:D->Option Ty
 | .bl _=>some .bool | .int _=>some .int | .str _=>some .str | .tup _=>some .tuple | .ptup _=>some .tuple | .cl _=>some .list | .lst _=>some .list | .dic _=>some .dict
 | _=>none
def disT (d:D) (t:Ty):Bool :=
 match dty d with
 | some u=>u == t || (u == .bool && t == .int)
 | none=>false
def disi (d:D) (ts:List Ty):Option Bool :=
 match d with
 | .ins _ _=>none
 | .slt _ _=>none
 | .fn _ _=>none
 | d=>some (ts.any (disT d))
def zhf:List D->Option (List Int)
 | []=>some []
 | .int i::r=>(zhf r).map (i :: ·)
 | _=>none
def dbls:List D->Option (List Bool)
 | []=>some []
 | .bl i::r=>(dbls r).map (i :: ·)
 | _=>none
def zgz:Mp.B->List D->Option D
 | .len,[.str z]=>if z.length<=sizeLine then some (.int z.length) else none
 | .len,[.lst xs]=>some (.int xs.length)
 | .len,[.dic xs]=>some (.int xs.length)
 | .len,[.tup xs]=>some (.int xs.length)
 | .len,[.ptup xs]=>some (.int xs.length)
 | .len,[.cl xs]=>some (.int xs.length)
 | .int,[.int i]=>some (.int i)
 | .int,[.bl b]=>some (.int (if b then 1 else 0))
 | .abs,[.int i]=>some (.int (if i<0 then -i else i))
 | .min2,[.int i,.int j]=>some (.int (if j<i then j else i))
 | .max2,[.int i,.int j]=>some (.int (if i<j then j else i))
 | .all,[.lst xs]=>(dbls xs).map fun bs=>.bl (bs.all id)
 | .any,[.lst xs]=>(dbls xs).map fun bs=>.bl (bs.any id)
 | .sum,[.lst xs]=>(zhf xs).map fun ns=>.int ns.sum
 | .min1,[.lst xs]=>((zhf xs).bind minI).map .int
 | .max1,[.lst xs]=>((zhf xs).bind maxI).map .int
 | .tuple,[.lst xs]=>some (.tup xs)
 | .tuple,[.tup xs]=>some (.tup xs)
 | .str,[.int i]=>if i.natAbs.log2<1920 then some (.str (Str.ofString (toString i))) else none
 | _,_=>none
inductive RTs (B:Nat->Prop) (M:Mm):List PV->List D->Prop
 | nil:RTs B M [] []
 | cons {x:PV} {d:D} {xs:List PV} {ds:List D}:RT B M x d->RTs B M xs ds->RTs B M (x::xs) (d::ds)
section
variable {B:Nat->Prop} {M:Mm}
theorem zmc {xs:List PV} {ds:List D} {i:Int} {d:D} (h:Rps B M xs ds) (e:atI ds i=some d):∃ v,atI xs i=some v/\Rp B M v d:=by
 unfold atI at e ⊢
 rw [h.length]
 obtain ⟨j,h1,h2⟩:=Option.bind_eq_some_iff.mp e
 obtain ⟨v,h3,h4⟩:=h.get h2
 exact ⟨v,by rw [h1];exact h3,h4⟩
theorem zlR {a b:PV} {x y d:D} (ha:RT B M a x) (hb:RT B M b y) (e:zdh x y=some d):∃ v,zas M a b=some v/\Rp B M v d:=by
 cases x with
 | tup ds =>
  cases y<;>simp [zdh] at e
  cases ha with | tup r=>cases hb;exact zmc r e
 | lst ds =>
  obtain ⟨n,xs,rfl,h1,h2⟩:=ha
  cases y<;>simp [zdh] at e
  cases hb
  simp only [zas,h1]
  exact zmc h2 e
 | cl ns =>
  cases ha
  cases y<;>simp [zdh] at e
  cases hb
  obtain ⟨j,h1,rfl⟩:=e
  exact ⟨.int j,by simp only [zas,h1];rfl,.int j⟩
 | str z =>
  cases ha
  cases y<;>simp only [zdh] at e<;>try (cases e;done)
  cases hb
  split at e
  ·rename_i h
   obtain ⟨j,h1,rfl⟩:=Option.map_eq_some_iff.mp e
   exact ⟨_,by simp only [zas];rw [if_pos h,h1];rfl,.str _⟩
  ·cases e
 | dic ds =>
  obtain ⟨n,kvs,rfl,h1,h2,h3⟩:=ha
  simp only [zdh] at e
  obtain ⟨k,e1,e2⟩:=Option.bind_eq_some_iff.mp e
  obtain ⟨v,e3,e4⟩:=(zep k h2 h3).1 d e2
  refine ⟨v,?_,e4⟩
  simp only [zas,h1,ziQ hb,e1,Option.bind_some];exact e3
 | _=>cases y<;>simp [zdh] at e
theorem zic {xs:List PV} {ds:List D} (h:Rps B M xs ds) (a b:Option Int):Rps B M (zid xs a b) (zbj ds a b):=by
 unfold zid zbj
 rw [h.length]
 exact (h.drop _).take _
theorem zdR {f:Bool} {a:PV} {x:D} {o:Option Int} (ha:RT B M a x) (e:dopt f x=some o):zgV f a=some o:=by
 cases f<;>cases x<;>simp [dopt] at e<;>cases ha<;>simp [zgV,e]
theorem ty_rt {a:PV} {d:D} {k:Bool} {ts:List Ty} (ha:RT B M a d) (e:disi d ts=some k):insP M a=false/\ts.any (zgw M a)=k:=by
 have key:∀ t,(∀ c fs,d≠.ins c fs)->(∀ c fs,d≠.slt c fs)->(∀ n s,d≠.fn n s)->zgw M a t=disT d t/\insP M a=false:=by
  intro t h1 h2 h3
  cases d with
  | lst ds=>obtain ⟨n,xs,rfl,h,_⟩:=ha;simp [zgw,zkb,disT,dty,h]
  | dic ds=>obtain ⟨n,xs,rfl,h,_⟩:=ha;simp [zgw,zkb,disT,dty,h]
  | ins c fs=>exact absurd rfl (h1 c fs)
  | slt c fs=>exact absurd rfl (h2 c fs)
  | fn n s=>exact absurd rfl (h3 n s)
  | _=>cases ha<;>simp [zgw,zkb,disT,dty]
 unfold disi at e
 split at e
 ·cases e
 ·cases e
 ·cases e
 ·rename_i h1 h2 h3
  cases e
  refine ⟨(key .int (fun c fs z=>h1 c fs z) (fun c fs z=>h2 c fs z) (fun c fs z=>h3 c fs z)).2,?_⟩
  congr 1
  funext t
  exact (key t (fun c fs z=>h1 c fs z) (fun c fs z=>h2 c fs z) (fun c fs z=>h3 c fs z)).1
theorem zcP:∀ {xs:List PV} {ds:List D} {ns:List Int},Rps B M xs ds->zhf ds=some ns->zaV xs=some ns
 | _,_,_,.nil,e=>by cases e;rfl
 | _,_,_,.cons (d:=d) a b,e=>by
  cases d<;>simp [zhf] at e
  cases a
  obtain ⟨l,h1,rfl⟩:=e
  simp only [zaV];rw [zcP b h1];rfl
theorem zig:∀ {xs:List PV} {ds:List D} {ns:List Bool},Rps B M xs ds->dbls ds=some ns->ze7 xs=some ns
 | _,_,_,.nil,e=>by cases e;rfl
 | _,_,_,.cons (d:=d) a b,e=>by
  cases d<;>simp [dbls] at e
  cases a
  obtain ⟨l,h1,rfl⟩:=e
  simp only [ze7];rw [zig b h1];rfl
theorem zlU {b:Mp.B} {xs:List PV} {ds:List D} {d:D} (h:RTs B M xs ds) (e:zgz b ds=some d):∃ v,zJ M b xs=some (v,M)/\Rp B M v d:=by
 unfold zgz at e
 split at e
 ·cases h with | cons a r=>cases r;cases a;exact (by
  split at e
  ·rename_i q;cases e;exact ⟨_,by simp only [zJ];rw [if_pos q],.int _⟩
  ·cases e)
 ·cases h with | cons a r=>cases r;obtain ⟨n,zs,rfl,h1,h2⟩:=a;cases e;exact ⟨_,by simp only [zJ,h1];rw [h2.length],.int _⟩
 ·cases h with | cons a r =>
  cases r;obtain ⟨n,zs,rfl,h1,h2,h3⟩:=a;cases e
  exact ⟨_,by simp only [zJ,h1];rw [show zs.length=_ from by have:=congrArg List.length h2;simpa using this],.int _⟩
 ·cases h with | cons a r=>cases r;cases a with | tup r=>cases e;exact ⟨_,by simp only [zJ];rw [r.length],.int _⟩
 ·cases h with | cons a r=>cases r;cases a with | ptup r=>cases e;exact ⟨_,by simp only [zJ];rw [r.length],.int _⟩
 ·cases h with | cons a r=>cases r;cases a;cases e;exact ⟨_,by simp only [zJ],.int _⟩
 ·cases h with | cons a r=>cases r;cases a;cases e;exact ⟨_,by simp only [zJ],.int _⟩
 ·cases h with | cons a r=>cases r;cases a;cases e;exact ⟨_,by simp only [zJ],.int _⟩
 ·cases h with | cons a r=>cases r;cases a;cases e;exact ⟨_,by simp only [zJ],.int _⟩
 ·cases h with | cons a r=>cases r with | cons a2 r2=>cases r2;cases a;cases a2;cases e;exact ⟨_,by simp only [zJ],.int _⟩
 ·cases h with | cons a r=>cases r with | cons a2 r2=>cases r2;cases a;cases a2;cases e;exact ⟨_,by simp only [zJ],.int _⟩
 ·cases h with | cons a r=>cases r;obtain ⟨n,zs,rfl,h1,h2⟩:=a;obtain ⟨bs,q,rfl⟩:=Option.map_eq_some_iff.mp e;exact ⟨_,by simp only [zJ,zl,h1,Option.bind_some,zig h2 q];rfl,.bl _⟩
 ·cases h with | cons a r=>cases r;obtain ⟨n,zs,rfl,h1,h2⟩:=a;obtain ⟨bs,q,rfl⟩:=Option.map_eq_some_iff.mp e;exact ⟨_,by simp only [zJ,zl,h1,Option.bind_some,zig h2 q];rfl,.bl _⟩
 ·cases h with | cons a r=>cases r;obtain ⟨n,zs,rfl,h1,h2⟩:=a;obtain ⟨bs,q,rfl⟩:=Option.map_eq_some_iff.mp e;exact ⟨_,by simp only [zJ,zl,h1,Option.bind_some,zcP h2 q];rfl,.int _⟩
 ·cases h with | cons a r =>
  cases r;obtain ⟨n,zs,rfl,h1,h2⟩:=a;obtain ⟨m,q,rfl⟩:=Option.map_eq_some_iff.mp e
  obtain ⟨bs,q1,q2⟩:=Option.bind_eq_some_iff.mp q
  exact ⟨_,by simp only [zJ,zl,h1,Option.bind_some,zcP h2 q1,q2];rfl,.int _⟩
 ·cases h with | cons a r =>
  cases r;obtain ⟨n,zs,rfl,h1,h2⟩:=a;obtain ⟨m,q,rfl⟩:=Option.map_eq_some_iff.mp e
  obtain ⟨bs,q1,q2⟩:=Option.bind_eq_some_iff.mp q
  exact ⟨_,by simp only [zJ,zl,h1,Option.bind_some,zcP h2 q1,q2];rfl,.int _⟩
 ·cases h with | cons a r=>cases r;obtain ⟨n,zs,rfl,h1,h2⟩:=a;cases e;exact ⟨_,by simp only [zJ,zl,h1];rfl,.tup h2⟩
 ·cases h with | cons a r=>cases r;cases a with | tup r=>cases e;exact ⟨_,by simp only [zJ],.tup r⟩
 ·cases h with | cons a r=>cases r;cases a;exact (by
  split at e
  ·rename_i q;cases e;exact ⟨_,by simp only [zJ];rw [if_pos q],.str _⟩
  ·cases e)
 ·cases e
end
abbrev Env:=List (Option OT)
def Bd (nss:List (List Nat)) (X:Nat->Prop):Nat->Prop:=fun n=>n∈nss.flatten\/X n
structure SR (sg:Sg) (M:Mm) (env:Env) (nss:List (List Nat)) (X:Nat->Prop):Prop where
 len:sg.length=env.length
 nl:nss.length=env.length
 at_:∀ (i:Nat) (t:OT),env[i]? = some (some t)->∃ x ns,sg[i]? = some (some x)/\nss[i]? = some ns/\OR (Bd nss X) M t x ns
 no:∀ (i:Nat),env[i]? = some none->nss[i]? = some []
 nd:nss.flatten.Nodup
 dj:∀ n∈nss.flatten,¬ X n
 xl:∀ n,X n->n<M.length
theorem zdY {nss:List (List Nat)} {i:Nat} {ns:List Nat} (h:nss[i]? = some ns):∀ n∈ns,n∈nss.flatten:=fun n hn=>List.mem_flatten.mpr ⟨ns,List.mem_of_getElem? h,hn⟩
def zb3:PV->Option D
 | .non=>some .non | .bl b=>some (.bl b) | .int i=>some (.int i) | .str s=>some (.str s)
 | _=>none
def OF.get:OF->Str->Option OT
 | .nil,_=>none
 | .no r,f=>r.get f
 | .cons g t r,f=>match f == g with | true=>some t | false=>r.get f
def OF.at:OF->Nat->Option OT
 | .nil,_=>none
 | .no _,0=>none
 | .no r,i+1=>r.at i
 | .cons _ t _,0=>some t
 | .cons _ _ r,i+1=>r.at i
mutual
def pk (env:Env):E->Option OT
 | .var i=>match env[i]? with | some (some t)=>some t | _=>none
 | .con v=>(zb3 v).map .v
 | .bop o a b=>match pk env a,pk env b with | some (.v x),some (.v y)=>(zfj o x y).map .v | _,_=>none
 | .neg a=>match pk env a with | some (.v (.int i))=>some (.v (.int (-i))) | _=>none
 | .cmp o a b=>match (pk env a).bind OT.top,(pk env b).bind OT.top with | some x,some y=>(zcG o x y).map fun k=>.v (.bl k) | _,_=>none
 | .chn o1 o2 a b c =>
  match (pk env a).bind OT.top,(pk env b).bind OT.top with
  | some x,some y =>
   match zcG o1 x y with
   | some true=>(match (pk env c).bind OT.top with | some z=>(zcG o2 y z).map fun k=>.v (.bl k) | none=>none)
   | some false=>some (.v (.bl false))
   | none=>none
  | _,_=>none
 | .and a b=>match pk env a with | some (.v (.bl true))=>pk env b | some (.v (.bl false))=>some (.v (.bl false)) | _=>none
 | .or a b=>match pk env a with | some (.v (.bl true))=>some (.v (.bl true)) | some (.v (.bl false))=>pk env b | _=>none
 | .not a=>match pk env a with | some (.v (.bl k))=>some (.v (.bl (!k))) | _=>none
 | .ite c a b=>match pk env c with | some (.v (.bl true))=>pk env a | some (.v (.bl false))=>pk env b | _=>none
 | .tup es=>match pks env es with | some ds=>if ds.length<=sizeLine then some (.v (.tup ds)) else none | none=>none
 | .idx a i=>match (pk env a).bind OT.top,(pk env i).bind OT.top with | some x,some y=>(zdh x y).map .v | _,_=>none
 | .slc fl fh a lo hi =>
  match (pk env a).bind OT.top,(pk env lo).bind OT.top,(pk env hi).bind OT.top with
  | some (.tup xs),some y,some z=>(zlP fl fh (.tup xs) y z).map .v
  | some (.ptup xs),some y,some z=>(zlP fl fh (.ptup xs) y z).map .v
  | _,_,_=>none
 | .blt b es=>match pts env es with | some ds=>(zgz b ds).map .v | none=>none
 | .mth .get1 o es =>
  match (pk env o).bind OT.top,pts env es with
  | some (.dic kvs),some [y]=>(keyD y).map fun k=>.v ((zkd kvs k).getD .non)
  | _,_=>none
 | .isi a ts=>match (pk env a).bind OT.top with | some d=>(disi d ts).map fun k=>.v (.bl k) | none=>none
 | .fld c f o =>
  match pk env o with
  | some (.oi c' fs)=>if c'=c then fs.get f else none
  | some (.v (.ins c' fs))=>if c'=c then (fs.lookup f).map .v else none
  | _=>none
 | .sld c _ i o =>
  match pk env o with
  | some (.os c' fs)=>if c'=c then fs.at i else none
  | some (.v (.slt c' fs))=>if c'=c then (match fs[i]? with | some (some d)=>some (.v d) | _=>none) else none
  | _=>none
 | .rev a=>match pk env a with | some (.v (.tup xs))=>some (.v (.tup xs.reverse)) | some (.v (.ptup xs))=>some (.v (.ptup xs.reverse)) | _=>none
 | _=>none
def pks (env:Env):Es->Option (List D)
 | .nil=>some []
 | .cons e r=>match pk env e,pks env r with | some (.v d),some ds=>some (d::ds) | _,_=>none
def pts (env:Env):Es->Option (List D)
 | .nil=>some []
 | .cons e r=>match (pk env e).bind OT.top,pts env r with | some d,some ds=>some (d::ds) | _,_=>none
end
section
variable {B:Nat->Prop} {M:Mm}
theorem OFR.get:∀ {t:OF} {vs:List (Str × PV)} {ns:List Nat} {f:Str} {u:OT},OFR B M t vs ns->t.get f=some u->∃ x ms,vs.lookup f=some x/\OR B M u x ms/\∀ n∈ms,n∈ns
 | .nil,_,_,_,_,_,e=>by cases e
 | .no _,_,_,_,_,h,_=>h.elim
 | .cons g t r,_,_,f,u,⟨x,vs,m1,m2,a,b,h1,h2⟩,e=>by
  subst a;subst b
  rw [OF.get] at e
  rw [List.lookup]
  split at e
  ·rename_i q;rw [q];cases e;exact ⟨x,m1,rfl,h1,fun n hn=>by simp [hn]⟩
  ·rename_i q;rw [q]
   obtain ⟨y,ms,k1,k2,k3⟩:=OFR.get h2 e
   exact ⟨y,ms,k1,k2,fun n hn=>by simp [k3 n hn]⟩
theorem OSR.at:∀ {t:OF} {vs:List (Option PV)} {ns:List Nat} {i:Nat} {u:OT},OSR B M t vs ns->t.at i=some u->∃ x ms,vs[i]? = some (some x)/\OR B M u x ms/\∀ n∈ms,n∈ns
 | .nil,_,_,_,_,_,e=>by cases e
 | .no _,_,_,0,_,_,e=>by cases e
 | .no r,_,_,i+1,_,⟨o,vs,a,h⟩,e=>by
  subst a
  obtain ⟨y,ms,k1,k2,k3⟩:=OSR.at h (show r.at i=_ from e)
  exact ⟨y,ms,by simpa using k1,k2,k3⟩
 | .cons _ t r,_,_,0,_,⟨x,vs,m1,m2,a,b,h1,h2⟩,e=>by
  subst a;subst b
  cases e
  exact ⟨x,m1,rfl,h1,fun n hn=>by simp [hn]⟩
 | .cons _ t r,_,_,i+1,_,⟨x,vs,m1,m2,a,b,h1,h2⟩,e=>by
  subst a;subst b
  obtain ⟨y,ms,k1,k2,k3⟩:=OSR.at h2 (show r.at i=_ from e)
  exact ⟨y,ms,by simpa using k1,k2,fun n hn=>by simp [k3 n hn]⟩
theorem ziK:∀ {kvs:List (Str × PV)} {ds:List (Str × D)} {f:Str} {d:D},kvs.map (·.1)=ds.map (·.1)->Rps B M (kvs.map (·.2)) (ds.map (·.2))->ds.lookup f=some d->∃ x,kvs.lookup f=some x/\Rp B M x d
 | _,[],_,_,_,_,e=>by cases e
 | [],_::_,_,_,h,_,_=>by simp at h
 | (g,x)::kvs,(g',d')::ds,f,d,h,r,e=>by
  simp only [List.map_cons,List.cons.injEq] at h r
  obtain ⟨rfl,h⟩:=h
  cases r with
  | cons a b =>
   rw [List.lookup] at e ⊢
   split at e
   ·cases e;exact ⟨x,rfl,a⟩
   ·exact ziK h b e
theorem Rpo.at:∀ {vs:List (Option PV)} {ds:List (Option D)} {i:Nat} {d:D},Rpo B M vs ds->ds[i]? = some (some d)->∃ x,vs[i]? = some (some x)/\Rp B M x d
 | _,_,_,_,.nil,e=>by simp at e
 | _,_,0,_,.no _,e=>by simp at e
 | _,_,i+1,d,.no b,e=>by
  obtain ⟨x,h1,h2⟩:=Rpo.at (i:=i) b (by simpa using e)
  exact ⟨x,by simpa using h1,h2⟩
 | _,_,0,_,.cons a _,e=>by simp at e;subst e;exact ⟨_,rfl,a⟩
 | _,_,i+1,d,.cons _ b,e=>by
  obtain ⟨x,h1,h2⟩:=Rpo.at (i:=i) b (by simpa using e)
  exact ⟨x,by simpa using h1,h2⟩
end
theorem zct {o:Option OT} {d:D} (h:o.bind OT.top=some d):∃ t,o=some t/\t.top=some d:=Option.bind_eq_some_iff.mp h
end Mp.V
namespace Mp.V
open PySem L2
section
variable {cf:CF} {sg:Sg} {M:Mm} {env:Env} {nss:List (List Nat)} {X:Nat->Prop} (S:SR sg M env nss X)
include S
mutual
theorem zab:∀ (e:E) {t:OT},pk env e=some t->∃ v ns,evE cf e sg M=some (v,M)/\OR (Bd nss X) M t v ns/\∀ n∈ns,n∈nss.flatten
 | .var i,t,h=>by
  rw [pk] at h
  split at h
  ·rename_i u q
   cases h
   obtain ⟨x,ns,h1,h2,h3⟩:=S.at_ i t q
   exact ⟨x,ns,zU h1,h3,zdY h2⟩
  ·cases h
 | .con v,t,h=>by
  rw [pk] at h
  obtain ⟨d,h1,rfl⟩:=Option.map_eq_some_iff.mp h
  refine ⟨v,[],zaB,⟨?_,rfl⟩,by simp⟩
  cases v<;>simp [zb3] at h1<;>subst h1<;>constructor
 | .bop o a b,t,h=>by
  rw [pk] at h
  split at h
  ·rename_i x y h1 h2
   obtain ⟨z,h3,rfl⟩:=Option.map_eq_some_iff.mp h
   obtain ⟨v1,_,e1,r1,_⟩:=zab a h1
   obtain ⟨v2,_,e2,r2,_⟩:=zab b h2
   obtain ⟨v,e3,r3⟩:=zlT r1.1 r2.1 h3
   exact ⟨v,[],zhb e1 e2 e3,⟨r3,rfl⟩,by simp⟩
  ·cases h
 | .neg a,t,h=>by
  rw [pk] at h
  split at h
  ·rename_i i h1
   cases h
   obtain ⟨v1,_,e1,r1,_⟩:=zab a h1
   cases r1.1
   exact ⟨.int (-i),[],by rw [evE,e1],⟨.int _,rfl⟩,by simp⟩
  ·cases h
 | .cmp o a b,t,h=>by
  rw [pk] at h
  split at h
  ·rename_i x y h1 h2
   obtain ⟨k,h3,rfl⟩:=Option.map_eq_some_iff.mp h
   obtain ⟨t1,q1,q2⟩:=zct h1
   obtain ⟨t2,q3,q4⟩:=zct h2
   obtain ⟨v1,_,e1,r1,_⟩:=zab a q1
   obtain ⟨v2,_,e2,r2,_⟩:=zab b q3
   exact ⟨.bl k,[],zha e1 e2 (ze0 (r1.rt q2) (r2.rt q4) h3),⟨.bl _,rfl⟩,by simp⟩
  ·cases h
 | .chn o1 o2 a b c,t,h=>by
  rw [pk] at h
  split at h
  ·rename_i x y h1 h2
   obtain ⟨t1,q1,q2⟩:=zct h1
   obtain ⟨t2,q3,q4⟩:=zct h2
   obtain ⟨v1,_,e1,r1,_⟩:=zab a q1
   obtain ⟨v2,_,e2,r2,_⟩:=zab b q3
   split at h
   ·rename_i c1
    have k1:=ze0 (r1.rt q2) (r2.rt q4) c1
    split at h
    ·rename_i z h3
     obtain ⟨k,h4,rfl⟩:=Option.map_eq_some_iff.mp h
     obtain ⟨t3,q5,q6⟩:=zct h3
     obtain ⟨v3,_,e3,r3,_⟩:=zab c q5
     have k2:=ze0 (r2.rt q4) (r3.rt q6) h4
     exact ⟨.bl k,[],by rw [evE,e1];simp only [e2,k1,e3,k2];rfl,⟨.bl _,rfl⟩,by simp⟩
    ·cases h
   ·rename_i c1
    have k1:=ze0 (r1.rt q2) (r2.rt q4) c1
    cases h
    exact ⟨.bl false,[],by rw [evE,e1];simp only [e2,k1],⟨.bl _,rfl⟩,by simp⟩
   ·cases h
  ·cases h
 | .and a b,t,h=>by
  rw [pk] at h
  split at h
  ·rename_i h1
   obtain ⟨v1,_,e1,r1,_⟩:=zab a h1
   cases r1.1
   obtain ⟨v2,ns,e2,r2,k⟩:=zab b h
   exact ⟨v2,ns,e_andT e1 e2,r2,k⟩
  ·rename_i h1
   obtain ⟨v1,_,e1,r1,_⟩:=zab a h1
   cases r1.1
   cases h
   exact ⟨.bl false,[],e_andF e1,⟨.bl _,rfl⟩,by simp⟩
  ·cases h
 | .or a b,t,h=>by
  rw [pk] at h
  split at h
  ·rename_i h1
   obtain ⟨v1,_,e1,r1,_⟩:=zab a h1
   cases r1.1
   cases h
   exact ⟨.bl true,[],e_orT e1,⟨.bl _,rfl⟩,by simp⟩
  ·rename_i h1
   obtain ⟨v1,_,e1,r1,_⟩:=zab a h1
   cases r1.1
   obtain ⟨v2,ns,e2,r2,k⟩:=zab b h
   exact ⟨v2,ns,e_orF e1 e2,r2,k⟩
  ·cases h
 | .not a,t,h=>by
  rw [pk] at h
  split at h
  ·rename_i k h1
   obtain ⟨v1,_,e1,r1,_⟩:=zab a h1
   cases r1.1
   cases h
   exact ⟨_,[],e_not e1,⟨.bl _,rfl⟩,by simp⟩
  ·cases h
 | .ite c a b,t,h=>by
  rw [pk] at h
  split at h
  ·rename_i h1
   obtain ⟨v1,_,e1,r1,_⟩:=zab c h1
   cases r1.1
   obtain ⟨v2,ns,e2,r2,k⟩:=zab a h
   exact ⟨v2,ns,e_iteT e1 e2,r2,k⟩
  ·rename_i h1
   obtain ⟨v1,_,e1,r1,_⟩:=zab c h1
   cases r1.1
   obtain ⟨v2,ns,e2,r2,k⟩:=zab b h
   exact ⟨v2,ns,e_iteF e1 e2,r2,k⟩
  ·cases h
 | .tup es,t,h=>by
  rw [pk] at h
  split at h
  ·rename_i ds h1
   split at h
   ·rename_i hl
    cases h
    obtain ⟨vs,e1,r1⟩:=zlh es h1
    exact ⟨.tup vs,[],by rw [evE,e1];simp only [];rw [if_pos (by rw [r1.length];exact hl)],⟨.tup r1,rfl⟩,by simp⟩
   ·cases h
  ·cases h
 | .idx a i,t,h=>by
  rw [pk] at h
  split at h
  ·rename_i x y h1 h2
   obtain ⟨k,h3,rfl⟩:=Option.map_eq_some_iff.mp h
   obtain ⟨t1,q1,q2⟩:=zct h1
   obtain ⟨t2,q3,q4⟩:=zct h2
   obtain ⟨v1,_,e1,r1,_⟩:=zab a q1
   obtain ⟨v2,_,e2,r2,_⟩:=zab i q3
   obtain ⟨v,h4,r3⟩:=zlR (r1.rt q2) (r2.rt q4) h3
   exact ⟨v,[],zia e1 e2 h4,⟨r3,rfl⟩,by simp⟩
  ·cases h
 | .slc fl fh a lo hi,t,h=>by
  rw [pk] at h
  split at h
  ·rename_i xs y z h1 h2 h3
   obtain ⟨k,h4,rfl⟩:=Option.map_eq_some_iff.mp h
   obtain ⟨t1,q1,q2⟩:=zct h1
   obtain ⟨t2,q3,q4⟩:=zct h2
   obtain ⟨t3,q5,q6⟩:=zct h3
   obtain ⟨v1,_,e1,r1,_⟩:=zab a q1
   obtain ⟨v2,_,e2,r2,_⟩:=zab lo q3
   obtain ⟨v3,_,e3,r3,_⟩:=zab hi q5
   unfold zlP at h4
   split at h4
   ·rename_i p q k1 k2
    cases h4
    have w:=r1.rt q2
    cases w with
    | tup w =>
     refine ⟨_,[],?_,⟨.tup (zic w p q),rfl⟩,by simp⟩
     rw [evE,e1];simp only [e2,e3,zhD,zdR (r2.rt q4) k1,zdR (r3.rt q6) k2]
   ·cases h4
  ·rename_i xs y z h1 h2 h3
   obtain ⟨k,h4,rfl⟩:=Option.map_eq_some_iff.mp h
   obtain ⟨t1,q1,q2⟩:=zct h1
   obtain ⟨t2,q3,q4⟩:=zct h2
   obtain ⟨t3,q5,q6⟩:=zct h3
   obtain ⟨v1,_,e1,r1,_⟩:=zab a q1
   obtain ⟨v2,_,e2,r2,_⟩:=zab lo q3
   obtain ⟨v3,_,e3,r3,_⟩:=zab hi q5
   unfold zlP at h4
   split at h4
   ·rename_i p q k1 k2
    cases h4
    have w:=r1.rt q2
    cases w with
    | ptup w =>
     refine ⟨_,[],?_,⟨.tup (zic w p q),rfl⟩,by simp⟩
     rw [evE,e1];simp only [e2,e3,zhD,zdR (r2.rt q4) k1,zdR (r3.rt q6) k2]
   ·cases h4
  ·cases h
 | .blt b es,t,h=>by
  rw [pk] at h
  split at h
  ·rename_i ds h1
   obtain ⟨k,h3,rfl⟩:=Option.map_eq_some_iff.mp h
   obtain ⟨vs,e1,r1⟩:=zlf es h1
   obtain ⟨v,e2,r2⟩:=zlU r1 h3
   exact ⟨v,[],zdg e1 e2,⟨r2,rfl⟩,by simp⟩
  ·cases h
 | .mth m o es,t,h=>by
  cases m<;>first | (rw [pk] at h;cases h;done) | skip
  all_goals try (simp [pk] at h;done)
  rw [pk] at h
  split at h
  ·rename_i kvs y h1 h2
   obtain ⟨k,h3,rfl⟩:=Option.map_eq_some_iff.mp h
   obtain ⟨t1,q1,q2⟩:=zct h1
   obtain ⟨v1,_,e1,r1,_⟩:=zab o q1
   obtain ⟨vs,e2,r2⟩:=zlf es h2
   obtain ⟨n,zs,rfl,g1,g2,g3⟩:=r1.rt q2
   cases r2 with
   | cons r2 r4 =>
    cases r4
    obtain ⟨k1,k2⟩:=zep (B:=Bd nss X) (M:=M) k g2 g3
    cases q:zkd kvs k with
    | none =>
     refine ⟨.non,[],?_,⟨.non,rfl⟩,by simp⟩
     rw [evE,e1]
     simp only [zds,zbu,g1,Option.isSome_some,if_true,e2,zef,Option.bind_some,ziQ r2,h3,Option.map_some,k2 q]
     rfl
    | some d =>
     obtain ⟨v,k3,k4⟩:=k1 d q
     refine ⟨v,[],?_,⟨k4,rfl⟩,by simp⟩
     rw [evE,e1]
     simp only [zds,zbu,g1,Option.isSome_some,if_true,e2,zef,Option.bind_some,ziQ r2,h3,Option.map_some,k3]
     rfl
  ·cases h
 | .isi a ts,t,h=>by
  rw [pk] at h
  split at h
  ·rename_i d h1
   obtain ⟨k,h3,rfl⟩:=Option.map_eq_some_iff.mp h
   obtain ⟨t1,q1,q2⟩:=zct h1
   obtain ⟨v1,_,e1,r1,_⟩:=zab a q1
   obtain ⟨k1,k2⟩:=ty_rt (r1.rt q2) h3
   exact ⟨.bl k,[],e_isi e1 k2 k1,⟨.bl _,rfl⟩,by simp⟩
  ·cases h
 | .fld c f o,t,h=>by
  rw [pk] at h
  split at h
  ·rename_i c' fs h1
   split at h
   ·rename_i hc
    subst hc
    obtain ⟨v1,ns,e1,⟨n,vs,ms,rfl,rfl,g1,g2⟩,k⟩:=zab o h1
    obtain ⟨x,us,q1,q2,q3⟩:=OFR.get g2 h
    exact ⟨x,us,e_fld e1 (by simp [zcA,g1]) q1,q2,fun n hn=>k n (by simp [q3 n hn])⟩
   ·cases h
  ·rename_i c' fs h1
   split at h
   ·rename_i hc
    subst hc
    obtain ⟨d,h3,rfl⟩:=Option.map_eq_some_iff.mp h
    obtain ⟨v1,ns,e1,r1,k⟩:=zab o h1
    cases r1.1 with
    | ins a b c2 r =>
     obtain ⟨x,q1,q2⟩:=ziK c2 r h3
     exact ⟨x,[],e_fld e1 (by simp [zcA,b]) q1,⟨q2,rfl⟩,by simp⟩
   ·cases h
  ·cases h
 | .sld c f i o,t,h=>by
  rw [pk] at h
  split at h
  ·rename_i c' fs h1
   split at h
   ·rename_i hc
    subst hc
    obtain ⟨v1,ns,e1,⟨n,vs,ms,rfl,rfl,g1,g2⟩,k⟩:=zab o h1
    obtain ⟨x,us,q1,q2,q3⟩:=OSR.at g2 h
    refine ⟨x,us,?_,q2,fun n hn=>k n (by simp [q3 n hn])⟩
    rw [evE,e1];simp [zgN,g1,q1]
   ·cases h
  ·rename_i c' fs h1
   split at h
   ·rename_i hc
    subst hc
    split at h
    ·rename_i d h3
     cases h
     obtain ⟨v1,ns,e1,r1,k⟩:=zab o h1
     cases r1.1 with
     | slt a b r =>
      obtain ⟨x,q1,q2⟩:=r.at h3
      refine ⟨x,[],?_,⟨q2,rfl⟩,by simp⟩
      rw [evE,e1];simp [zgN,b,q1]
    ·cases h
   ·cases h
  ·cases h
 | .rev a,t,h=>by
  rw [pk] at h
  split at h
  ·rename_i xs h1
   cases h
   obtain ⟨v1,_,e1,r1,_⟩:=zab a h1
   cases r1.1 with
   | tup w=>exact ⟨_,[],by rw [evE,e1],⟨.tup w.reverse,rfl⟩,by simp⟩
  ·rename_i xs h1
   cases h
   obtain ⟨v1,_,e1,r1,_⟩:=zab a h1
   cases r1.1 with
   | ptup w=>exact ⟨_,[],by rw [evE,e1],⟨.ptup w.reverse,rfl⟩,by simp⟩
  ·cases h
 | .lst _,t,h=>by simp [pk] at h
 | .dnew,t,h=>by simp [pk] at h
 | .dct _ _,t,h=>by simp [pk] at h
 | .call _ _,t,h=>by simp [pk] at h
 | .mc _ _ _ _ _,t,h=>by simp [pk] at h
 | .knot _ _,t,h=>by simp [pk] at h
 | .kidx _ _,t,h=>by simp [pk] at h
 | .callv _ _ _,t,h=>by simp [pk] at h
 | .lc _ _ _ _ _,t,h=>by simp [pk] at h
 | .ssc _ _ _ _ _,t,h=>by simp [pk] at h
 | .lc2 _ _ _ _ _ _ _ _ _,t,h=>by simp [pk] at h
 | .callp _ _ _,t,h=>by simp [pk] at h
 | .mcp _ _ _ _ _ _,t,h=>by simp [pk] at h
 | .sit _,t,h=>by simp [pk] at h
 | .lmc _ _ _,t,h=>by simp [pk] at h
 | .calld _ _ _,t,h=>by simp [pk] at h
 | .lcd _ _ _ _ _ _,t,h=>by simp [pk] at h
 | .dcd _ _ _ _ _ _ _,t,h=>by simp [pk] at h
 | .isc _ _,t,h=>by simp [pk] at h
 | .oeq _ _ _ _,t,h=>by simp [pk] at h
 | .dzip _ _,t,h=>by simp [pk] at h
 | .ten _,t,h=>by simp [pk] at h
theorem zlh:∀ (es:Es) {ds:List D},pks env es=some ds->∃ vs,zv cf es sg M=some (vs,M)/\Rps (Bd nss X) M vs ds
 | .nil,ds,h=>by rw [pks] at h;cases h;exact ⟨[],zfB,.nil⟩
 | .cons e r,ds,h=>by
  rw [pks] at h
  split at h
  ·rename_i d ds' h1 h2
   cases h
   obtain ⟨v1,_,e1,r1,_⟩:=zab e h1
   obtain ⟨vs,e2,r2⟩:=zlh r h2
   exact ⟨v1::vs,zP e1 e2,.cons r1.1 r2⟩
  ·cases h
theorem zlf:∀ (es:Es) {ds:List D},pts env es=some ds->∃ vs,zv cf es sg M=some (vs,M)/\RTs (Bd nss X) M vs ds
 | .nil,ds,h=>by rw [pts] at h;cases h;exact ⟨[],zfB,.nil⟩
 | .cons e r,ds,h=>by
  rw [pts] at h
  split at h
  ·rename_i d ds' h1 h2
   cases h
   obtain ⟨t1,q1,q2⟩:=zct h1
   obtain ⟨v1,_,e1,r1,_⟩:=zab e q1
   obtain ⟨vs,e2,r2⟩:=zlf r h2
   exact ⟨v1::vs,zP e1 e2,.cons (r1.rt q2) r2⟩
  ·cases h
end
theorem pt_ok (e:E) {d:D} (h:(pk env e).bind OT.top=some d):∃ v,evE cf e sg M=some (v,M)/\RT (Bd nss X) M v d:=by
 obtain ⟨t,h1,h2⟩:=zct h
 obtain ⟨v,ns,e1,r,_⟩:=zab S e h1
 exact ⟨v,e1,r.rt h2⟩
end
end Mp.V
namespace Mp.V
open PySem L2
theorem zcv {nss:List (List Nat)} {i:Nat} {us:List Nat} (h:nss[i]? = some us):∃ l1 l2,nss=l1++us::l2/\∀ ns,nss.set i ns=l1++ns::l2:=by
 obtain ⟨hi,e⟩:=List.getElem?_eq_some_iff.mp h
 refine ⟨nss.take i,nss.drop (i+1),?_,fun ns=>?_⟩
 ·rw [<- e];simp
 ·rw [List.set_eq_take_append_cons_drop,if_pos hi]
theorem zfT {nss:List (List Nat)} {i:Nat} {us ns:List Nat} (h:nss[i]? = some us) {n:Nat} (hn:n∈(nss.set i ns).flatten):n∈nss.flatten\/n∈ns:=by
 obtain ⟨l1,l2,e1,e2⟩:=zcv h
 rw [e2] at hn
 rw [e1]
 simp only [List.flatten_append,List.flatten_cons,List.mem_append] at hn ⊢
 grind
theorem zkS {nss:List (List Nat)} {i:Nat} {us ns:List Nat} (h:nss[i]? = some us) (nd:nss.flatten.Nodup) (nd2:ns.Nodup) (hs:∀ n∈ns,n∈us\/n∉nss.flatten):(nss.set i ns).flatten.Nodup:=by
 obtain ⟨l1,l2,e1,e2⟩:=zcv h
 rw [e2]
 rw [e1] at nd hs
 simp only [List.flatten_append,List.flatten_cons,List.nodup_append,List.mem_append] at nd hs ⊢
 obtain ⟨a,⟨b,c,d⟩,e⟩:=nd
 refine ⟨a,⟨nd2,c,fun x hx y hy=>?_⟩,fun x hx y hy=>?_⟩
 ·rcases hs x hx with q | q
  ·exact d x q y hy
  ·intro z;subst z;exact q (.inr (.inr hy))
 ·rcases hy with hy | hy
  ·rcases hs y hy with q | q
   ·exact e x hx y (.inl q)
   ·intro z;subst z;exact q (.inl hx)
  ·exact e x hx y (.inr hy)
theorem zbl {nss:List (List Nat)} {i:Nat} {us:List Nat} (h:nss[i]? = some us) (nd:nss.flatten.Nodup) {n:Nat} (hn:n∈(nss.set i []).flatten):n∈nss.flatten/\n∉us:=by
 obtain ⟨l1,l2,e1,e2⟩:=zcv h
 rw [e2] at hn
 rw [e1] at nd ⊢
 simp only [List.flatten_append,List.flatten_cons,List.nodup_append,List.mem_append,List.flatten_nil,List.nil_append] at nd hn ⊢
 obtain ⟨a,⟨b,c,d⟩,e⟩:=nd
 rcases hn with q | q
 ·exact ⟨.inl q,fun z=>e n q n (.inl z) rfl⟩
 ·exact ⟨.inr (.inr q),fun z=>d n z n q rfl⟩
theorem SR.lt {sg:Sg} {M:Mm} {env:Env} {nss:List (List Nat)} {X:Nat->Prop} (S:SR sg M env nss X):∀ n∈nss.flatten,n<M.length:=fun n hn=>by
 obtain ⟨ns,h1,h2⟩:=List.mem_flatten.mp hn
 obtain ⟨i,hi⟩:=List.mem_iff_getElem?.mp h1
 have hl:i<env.length:=by rw [<- S.nl];exact (List.getElem?_eq_some_iff.mp hi).1
 cases e:env[i]? with
 | none=>rw [List.getElem?_eq_none_iff] at e;omega
 | some o =>
  cases o with
  | none=>rw [S.no i e] at hi;cases hi;cases h2
  | some t =>
   obtain ⟨x,ns',_,q1,q2⟩:=S.at_ i t e
   rw [hi] at q1;cases q1
   exact q2.lt n h2
theorem SR.set {sg:Sg} {M:Mm} {env:Env} {nss:List (List Nat)} {X X':Nat->Prop} (S:SR sg M env nss X') {i:Nat} {t:OT} {v:PV} {ns us:List Nat} (hu:nss[i]? = some us) (hv:OR (Bd nss X') M t v ns) (nd:ns.Nodup) (h1:∀ n∈ns,X' n\/n∈us) (h2:∀ n∈ns,¬ X n) (hX:∀ n,X n->X' n):SR (sg.set i (some v)) M (env.set i (some t)) (nss.set i ns) X:=by
 have hi:i<nss.length:=(List.getElem?_eq_some_iff.mp hu).1
 have st:Stp (Bd nss X') (Bd (nss.set i ns) X) M M:=fun n o a b=>⟨fun z=>a (by
  rcases z with z | z
  ·rcases zfT hu z with q | q
   ·exact .inl q
   ·rcases h1 n q with w | w
    ·exact .inr w
    ·exact .inl (zdY hu n w)
  ·exact .inr (hX n z)),b⟩
 refine ⟨by simp [S.len],by simp [S.nl],fun j u e=>?_,fun j e=>?_,?_,fun n hn=>?_,fun n hn=>S.xl n (hX n hn)⟩
 ·by_cases hj:i=j
  ·subst hj
   rw [List.getElem?_set_self (by rw [<- S.nl];exact hi)] at e
   cases e
   exact ⟨v,ns,List.getElem?_set_self (by rw [S.len,<- S.nl];exact hi),List.getElem?_set_self hi,hv.step ⟨st,fun n _ o h=>h⟩⟩
  ·rw [List.getElem?_set_ne hj] at e
   obtain ⟨x,ms,a,b,c⟩:=S.at_ j u e
   exact ⟨x,ms,by rw [List.getElem?_set_ne hj];exact a,by rw [List.getElem?_set_ne hj];exact b,c.step ⟨st,fun n _ o h=>h⟩⟩
 ·by_cases hj:i=j
  ·subst hj
   rw [List.getElem?_set_self (by rw [<- S.nl];exact hi)] at e
   cases e
  ·rw [List.getElem?_set_ne hj] at e ⊢
   exact S.no j e
 ·refine zkS hu S.nd nd fun n hn=>?_
  rcases h1 n hn with q | q
  ·exact .inr fun z=>S.dj n z q
  ·exact .inl q
 ·rcases zfT hu hn with q | q
  ·exact fun z=>S.dj n q (hX n z)
  ·exact h2 n q
theorem SR.wipe {sg:Sg} {M:Mm} {env:Env} {nss:List (List Nat)} {X:Nat->Prop} (S:SR sg M env nss X) {i:Nat} {us:List Nat} (hu:nss[i]? = some us) (o:Option PV):SR (sg.set i o) M (env.set i none) (nss.set i []) X:=by
 have hi:i<nss.length:=(List.getElem?_eq_some_iff.mp hu).1
 have st:Stp (Bd nss X) (Bd (nss.set i []) X) M M:=fun n o a b=>⟨fun z=>a (by
  rcases z with z | z
  ·exact .inl (zbl hu S.nd z).1
  ·exact .inr z),b⟩
 refine ⟨by simp [S.len],by simp [S.nl],fun j u e=>?_,fun j e=>?_,?_,fun n hn=>?_,S.xl⟩
 ·by_cases hj:i=j
  ·subst hj
   rw [List.getElem?_set_self (by rw [<- S.nl];exact hi)] at e
   cases e
  ·rw [List.getElem?_set_ne hj] at e
   obtain ⟨x,ms,a,b,c⟩:=S.at_ j u e
   exact ⟨x,ms,by rw [List.getElem?_set_ne hj];exact a,by rw [List.getElem?_set_ne hj];exact b,c.step ⟨st,fun n _ o h=>h⟩⟩
 ·by_cases hj:i=j
  ·subst hj
   rw [List.getElem?_set_self hi]
  ·rw [List.getElem?_set_ne hj] at e ⊢
   exact S.no j e
 ·exact zkS hu S.nd (by simp) (by simp)
 ·exact S.dj n (zbl hu S.nd hn).1
theorem SR.mono {sg:Sg} {M:Mm} {env:Env} {nss:List (List Nat)} {X X':Nat->Prop} (S:SR sg M env nss X') (hX:∀ n,X n->X' n):SR sg M env nss X:=by
 have st:Stp (Bd nss X') (Bd nss X) M M:=fun n o a b=>⟨fun z=>a (z.imp id (hX n)),b⟩
 exact ⟨S.len,S.nl,fun j u e=>by
  obtain ⟨x,ms,a,b,c⟩:=S.at_ j u e
  exact ⟨x,ms,a,b,c.step ⟨st,fun n _ o h=>h⟩⟩,S.no,S.nd,fun n hn z=>S.dj n hn (hX n z),fun n hn=>S.xl n (hX n hn)⟩
theorem SR.mem {sg:Sg} {M M':Mm} {env:Env} {nss:List (List Nat)} {X X':Nat->Prop} (S:SR sg M env nss X) (hM:∀ (n:Nat) (o:Ob),¬ X n->M[n]? = some o->M'[n]? = some o) (hl:M.length<=M'.length) (hX:∀ n,X' n->X n\/M.length<=n) (hx:∀ n,X' n->n<M'.length):SR sg M' env nss X':=by
 have st:Stp (Bd nss X) (Bd nss X') M M':=fun n o a b=>⟨fun z=>a (z.imp id fun w=>(hX n w).elim id fun q=>by have:=(List.getElem?_eq_some_iff.mp b).1;omega),hM n o (fun z=>a (.inr z)) b⟩
 refine ⟨S.len,S.nl,fun j u e=>?_,S.no,S.nd,fun n hn z=>?_,hx⟩
 ·obtain ⟨x,ms,a,b,c⟩:=S.at_ j u e
  exact ⟨x,ms,a,b,c.step ⟨st,fun n hn o h=>hM n o (S.dj n (zdY b n hn)) h⟩⟩
 ·rcases hX n z with q | q
  ·exact S.dj n hn q
  ·have:=S.lt n hn;omega
theorem SR.free {sg:Sg} {M:Mm} {env:Env} {nss:List (List Nat)} {X:Nat->Prop} (S:SR sg M env nss X) {i:Nat} {t:OT} {d:D} (e:env[i]? = some (some t)) (hd:t.toD=some d):∃ x nss',sg[i]? = some (some x)/\SR sg M (env.set i (some (.v d))) nss' X/\Rp (Bd nss' X) M x d/\(∀ n∈nss'.flatten,n∈nss.flatten):=by
 obtain ⟨x,ns,h1,h2,h3⟩:=S.at_ i t e
 have hr:Rp (Bd (nss.set i []) X) M x d:=h3.free hd fun n z=>by
  rcases z with z | z
  ·exact ⟨.inl (zbl h2 S.nd z).1,(zbl h2 S.nd z).2⟩
  ·exact ⟨.inr z,fun w=>S.dj n (zdY h2 n w) z⟩
 have hs:sg.set i (some x)=sg:=by
  refine List.ext_getElem? fun j=>?_
  by_cases hj:i=j
  ·subst hj;rw [List.getElem?_set_self (List.getElem?_eq_some_iff.mp h1).1,h1]
  ·rw [List.getElem?_set_ne hj]
 have W:=S.wipe h2 (some x)
 have hi:i<nss.length:=(List.getElem?_eq_some_iff.mp h2).1
 have P:=W.set (X:=X) (i:=i) (t:=.v d) (v:=x) (ns:=[]) (us:=[]) (by rw [List.getElem?_set_self hi]) ⟨hr,rfl⟩ (by simp) (by simp) (by simp) (fun _ h=>h)
 rw [List.set_set,List.set_set,List.set_set,hs] at P
 exact ⟨x,nss.set i [],h1,P,hr,fun n hn=>(zbl h2 S.nd hn).1⟩
def ORs (B:Nat->Prop) (M:Mm):List OT->List PV->List (List Nat)->Prop
 | [],[],[]=>True
 | t::ts,v::vs,m::ms=>OR B M t v m/\ORs B M ts vs ms
 | _,_,_=>False
theorem ORs.step {B B':Nat->Prop} {M M':Mm}:∀ {ts:List OT} {vs:List PV} {ms:List (List Nat)},Stt B B' M M' ms.flatten->ORs B M ts vs ms->ORs B' M' ts vs ms
 | [],[],[],_,_=>trivial
 | _::_,_::_,_::_,s,⟨a,b⟩=>⟨a.step (s.sub fun n hn=>by simp [hn]),ORs.step (s.sub fun n hn=>by simp at hn ⊢;exact .inr hn) b⟩
 | [],[],_::_,_,h=>h.elim
 | [],_::_,_,_,h=>h.elim
 | _::_,[],_,_,h=>h.elim
 | _::_,_::_,[],_,h=>h.elim
structure ERs (A:Bool) (sg:Sg) (M:Mm) (env:Env) (nss:List (List Nat)) (X:Nat->Prop) (vs:List PV) (M':Mm) (ts:List OT) (mss:List (List Nat)) (env':Env) (nss':List (List Nat)):Prop where
 sr:SR sg M' env' nss' (fun n=>X n\/n∈mss.flatten)
 or:ORs (Bd nss' (fun n=>X n\/n∈mss.flatten)) M' ts vs mss
 nd:mss.flatten.Nodup
 mx:∀ n∈mss.flatten,¬ X n
 nw:∀ n,n∈mss.flatten\/n∈nss'.flatten->n∈nss.flatten\/M.length<=n
 fr:∀ i,i<M.length->i∉nss.flatten->M'[i]? = M[i]?
 le:M.length<=M'.length
 al:A=true->env'=env/\nss'=nss/\∀ i,i<M.length->M'[i]? = M[i]?
def HEs (A:Bool) (cf:CF) (es:Es) (env:Env) (Q:List OT->Env->Prop):Prop:=∀ (sg:Sg) (M:Mm) (nss:List (List Nat)) (X:Nat->Prop),SR sg M env nss X->∃ vs M' ts mss env' nss',zv cf es sg M=some (vs,M')/\ERs A sg M env nss X vs M' ts mss env' nss'/\Q ts env'
def HE (A:Bool) (cf:CF) (e:E) (env:Env) (Q:OT->Env->Prop):Prop:=∀ (sg:Sg) (M:Mm) (nss:List (List Nat)) (X:Nat->Prop),SR sg M env nss X->∃ v M' t ns env' nss',evE cf e sg M=some (v,M')/\ERs A sg M env nss X [v] M' [t] [ns] env' nss'/\Q t env'
section
variable {A:Bool} {cf:CF} {env:Env} {e a b c:E} {es:Es}
theorem HE.mono {Q Q':OT->Env->Prop} (h:HE A cf e env Q) (hq:∀ t env',Q t env'->Q' t env'):HE A cf e env Q':=fun sg M nss X S=>by
 obtain ⟨v,M',t,ns,env',nss',h1,h2,h3⟩:=h sg M nss X S
 exact ⟨v,M',t,ns,env',nss',h1,h2,hq _ _ h3⟩
theorem HEs.mono {Q Q':List OT->Env->Prop} (h:HEs A cf es env Q) (hq:∀ t env',Q t env'->Q' t env'):HEs A cf es env Q':=fun sg M nss X S=>by
 obtain ⟨v,M',t,ns,env',nss',h1,h2,h3⟩:=h sg M nss X S
 exact ⟨v,M',t,ns,env',nss',h1,h2,hq _ _ h3⟩
theorem SR.nil {sg:Sg} {M:Mm} {nss:List (List Nat)} {X:Nat->Prop} (S:SR sg M env nss X):SR sg M env nss (fun n=>X n\/n∈([[]]:List (List Nat)).flatten):=S.mono fun n h=>by simpa using h
theorem zlN {sg:Sg} {M:Mm} {nss:List (List Nat)} {X:Nat->Prop} (S:SR sg M env nss X) {v:PV} {d:D} (h:Rp (Bd nss X) M v d):ERs A sg M env nss X [v] M [.v d] [[]] env nss :=
 ⟨S.nil,⟨⟨h.step fun n o p q=>⟨fun z=>p (z.imp id fun w=>by simpa using w),q⟩,rfl⟩,trivial⟩,by simp,by simp,fun n hn=>.inl (by simpa using hn),fun _ _ _=>rfl,Nat.le_refl _,fun _=>⟨rfl,rfl,fun _ _=>rfl⟩⟩
theorem zo {d:D} {Q:OT->Env->Prop} (h:pk env e=some (.v d)) (q:Q (.v d) env):HE A cf e env Q:=fun sg M nss X S=>by
 obtain ⟨v,ns,h1,h2,_⟩:=zab (cf:=cf) S e h
 exact ⟨v,M,.v d,[],env,nss,h1,zlN S h2.1,q⟩
theorem zlD {i:Nat} {t:OT} {d:D} {Q:OT->Env->Prop} (h:env[i]? = some (some t)) (hd:t.toD=some d) (q:Q (.v d) (env.set i (some (.v d)))):HE false cf (.var i) env Q:=fun sg M nss X S=>by
 obtain ⟨x,nss',h1,h2,h3,h4⟩:=S.free h hd
 have r:=zlN (A:=false) h2 h3
 exact ⟨x,M,.v d,[],_,nss',zU h1,⟨r.sr,r.or,r.nd,r.mx,fun n hn=>.inl (h4 n (by simpa using hn)),fun _ _ _=>rfl,r.le,fun z=>by cases z⟩,q⟩
theorem zI {Q:List OT->Env->Prop} (q:Q [] env):HEs A cf .nil env Q:=fun sg M nss X S =>
 ⟨[],M,[],[],env,nss,zfB,⟨S.mono fun n h=>by simpa using h,trivial,by simp,by simp,fun n hn=>.inl (by simpa using hn),fun _ _ _=>rfl,Nat.le_refl _,fun _=>⟨rfl,rfl,fun _ _=>rfl⟩⟩,q⟩
theorem zk {r:Es} {Q:List OT->Env->Prop} (h:HE A cf e env fun t env1=>HEs A cf r env1 fun ts env2=>Q (t::ts) env2):HEs A cf (.cons e r) env Q:=fun sg M nss X S=>by
 obtain ⟨v,M1,t,ns,env1,nss1,e1,R1,q1⟩:=h sg M nss X S
 obtain ⟨vs,M2,ts,mss,env2,nss2,e2,R2,q2⟩:=q1 sg M1 nss1 _ R1.sr
 have hns:∀ n∈ns,n<M1.length:=fun n hn=>R1.sr.xl n (.inr (by simpa using hn))
 have hk:∀ n∈ns,M2[n]? = M1[n]?:=fun n hn=>R2.fr n (hns n hn) fun z=>R1.sr.dj n z (.inr (by simpa using hn))
 have eqX:∀ n,((X n\/n∈([ns]:List (List Nat)).flatten)\/n∈mss.flatten)↔(X n\/n∈(ns::mss).flatten):=fun n=>by
  simp only [List.flatten_cons,List.flatten_nil,List.append_nil,List.mem_append]
  grind
 refine ⟨v::vs,M2,t::ts,ns::mss,env2,nss2,zP e1 e2,⟨R2.sr.mono fun n hn=>(eqX n).mpr hn,⟨?_,?_⟩,?_,fun n hn=>?_,fun n hn=>?_,fun i h1 h2=>?_,Nat.le_trans R1.le R2.le,fun hA=>?_⟩,q2⟩
 ·refine R1.or.1.step ⟨fun n o a b=>⟨fun z=>?_,?_⟩,fun n hn o h=>by rw [hk n hn];exact h⟩
  ·rcases z with z | z
   ·rcases R2.nw n (.inr z) with q | q
    ·exact a (.inl q)
    ·have:=(List.getElem?_eq_some_iff.mp b).1;omega
   ·rcases (eqX n).mpr z with z | z
    ·exact a (.inr z)
    ·rcases R2.nw n (.inl z) with q | q
     ·exact a (.inl q)
     ·have:=(List.getElem?_eq_some_iff.mp b).1;omega
  ·rw [R2.fr n (List.getElem?_eq_some_iff.mp b).1 fun z=>a (.inl z)];exact b
 ·refine R2.or.step ⟨fun n o a b=>⟨fun z=>a ?_,b⟩,fun n _ o h=>h⟩
  rcases z with z | z
  ·exact .inl z
  ·exact .inr ((eqX n).mpr z)
 ·rw [List.flatten_cons,List.nodup_append]
  refine ⟨by simpa using R1.nd,R2.nd,fun x hx y hy z=>?_⟩
  subst z
  exact R2.mx x hy (.inr (by simpa using hx))
 ·rw [List.flatten_cons,List.mem_append] at hn
  rcases hn with q | q
  ·exact R1.mx n (by simpa using q)
  ·exact fun z=>R2.mx n q (.inl z)
 ·have:(n∈ns\/n∈mss.flatten)\/n∈nss2.flatten:=by simpa using hn
  have key:n∈nss1.flatten->n∈nss.flatten\/M.length<=n:=fun z=>R1.nw n (.inr z)
  have hl:=R1.le
  rcases this with (q | q) | q
  ·exact R1.nw n (.inl (by simpa using q))
  ·rcases R2.nw n (.inl q) with w | w
   ·exact key w
   ·exact .inr (by omega)
  ·rcases R2.nw n (.inr q) with w | w
   ·exact key w
   ·exact .inr (by omega)
 ·have hl:=R1.le
  rw [R2.fr i (by omega) fun z=>by
   rcases R1.nw i (.inr z) with q | q
   ·exact h2 q
   ·omega]
  exact R1.fr i h1 h2
 ·obtain ⟨a1,a2,a3⟩:=R1.al hA
  obtain ⟨b1,b2,b3⟩:=R2.al hA
  exact ⟨b1.trans a1,b2.trans a2,fun i hi=>(b3 i (Nat.lt_of_lt_of_le hi R1.le)).trans (a3 i hi)⟩
theorem he_one {Q:OT->Env->Prop} (h:HE A cf e env Q):HEs A cf (.cons e .nil) env fun ts env'=>∃ t,ts=[t]/\Q t env' :=
 zk (h.mono fun t env1 q=>zI ⟨t,rfl,q⟩)
theorem zg6 {Q:OT->OT->Env->Prop} (h:HE A cf a env fun t env1=>HE A cf b env1 fun u env2=>Q t u env2):HEs A cf (.cons a (.cons b .nil)) env fun ts env'=>∃ t u,ts=[t,u]/\Q t u env' :=
 zk (h.mono fun t env1 q=>zk (q.mono fun u env2 q2=>zI ⟨t,u,rfl,q2⟩))
theorem ERs.val {sg:Sg} {M M':Mm} {nss nss':List (List Nat)} {X:Nat->Prop} {vs:List PV} {ts:List OT} {mss:List (List Nat)} {env':Env} (R:ERs A sg M env nss X vs M' ts mss env' nss') {v:PV} {d:D} (h:Rp (Bd nss' fun n=>X n\/n∈mss.flatten) M' v d):ERs A sg M env nss X [v] M' [.v d] [[]] env' nss':=by
 have r:=zlN (A:=true) (R.sr.mono fun n hn=>.inl hn) (v:=v) (d:=d) (X:=X) (h.step fun n o a b=>⟨fun z=>a (z.imp id .inl),b⟩)
 exact ⟨r.sr,r.or,r.nd,r.mx,fun n hn=>R.nw n (hn.imp (by simp) id),R.fr,R.le,R.al⟩
theorem ORs.tops {B:Nat->Prop} {M:Mm}:∀ {ts:List OT} {vs:List PV} {ms:List (List Nat)} {ds:List D},ORs B M ts vs ms->ts.mapM OT.top=some ds->RTs B M vs ds
 | [],[],[],ds,_,e=>by cases e;exact .nil
 | t::ts,v::vs,m::ms,ds,⟨a,b⟩,e=>by
  rw [List.mapM_cons] at e
  obtain ⟨d,h1,h2⟩:=Option.bind_eq_some_iff.mp e
  obtain ⟨ds',h3,h4⟩:=Option.bind_eq_some_iff.mp h2
  cases h4
  exact .cons (a.rt h1) (ORs.tops b h3)
 | [],[],_::_,_,h,_=>h.elim
 | [],_::_,_,_,h,_=>h.elim
 | _::_,[],_,_,h,_=>h.elim
 | _::_,_::_,[],_,h,_=>h.elim
theorem ORs.frees {B B':Nat->Prop} {M:Mm}:∀ {ts:List OT} {vs:List PV} {ms:List (List Nat)} {ds:List D},ORs B M ts vs ms->ts.mapM OT.toD=some ds->(∀ n,B' n->B n/\n∉ms.flatten)->Rps B' M vs ds
 | [],[],[],ds,_,e,_=>by cases e;exact .nil
 | t::ts,v::vs,m::ms,ds,⟨a,b⟩,e,h=>by
  rw [List.mapM_cons] at e
  obtain ⟨d,h1,h2⟩:=Option.bind_eq_some_iff.mp e
  obtain ⟨ds',h3,h4⟩:=Option.bind_eq_some_iff.mp h2
  cases h4
  exact .cons (a.free h1 fun n hn=>⟨(h n hn).1,fun z=>(h n hn).2 (by simp [z])⟩) (ORs.frees b h3 fun n hn=>⟨(h n hn).1,fun z=>(h n hn).2 (by simp at z ⊢;exact .inr z)⟩)
 | [],[],_::_,_,h,_,_=>h.elim
 | [],_::_,_,_,h,_,_=>h.elim
 | _::_,[],_,_,h,_,_=>h.elim
 | _::_,_::_,[],_,h,_,_=>h.elim
end
end Mp.V
namespace Mp.V
open PySem L2
section
variable {cf:CF} {sg:Sg} {M M':Mm} {e r a b c:E} {es:Es} {vs:List PV}
theorem RTs.one {B:Nat->Prop} {v:PV} {ds:List D} (h:RTs B M [v] ds):∃ x,ds=[x]/\RT B M v x:=by
 cases h with
 | cons a r=>cases r;exact ⟨_,rfl,a⟩
theorem RTs.two {B:Nat->Prop} {v w:PV} {ds:List D} (h:RTs B M [v,w] ds):∃ x y,ds=[x,y]/\RT B M v x/\RT B M w y:=by
 cases h with
 | cons a r=>cases r with
  | cons b r=>cases r;exact ⟨_,_,rfl,a,b⟩
theorem es_inv {r:Es} (h:zv cf (.cons e r) sg M=some (vs,M')):∃ v M1 vs',evE cf e sg M=some (v,M1)/\zv cf r sg M1=some (vs',M')/\vs=v::vs':=by
 rw [zv] at h
 split at h
 ·rename_i v M1 h1
  split at h
  ·rename_i vs' M2 h2
   cases h
   exact ⟨v,M1,vs',h1,h2,rfl⟩
  ·cases h
 ·cases h
theorem nil_inv (h:zv cf .nil sg M=some (vs,M')):vs=[]/\M'=M:=by rw [zv] at h;cases h;exact ⟨rfl,rfl⟩
theorem zb1 (h:zv cf (.cons a .nil) sg M=some (vs,M')):∃ v,evE cf a sg M=some (v,M')/\vs=[v]:=by
 obtain ⟨v,M1,vs',h1,h2,rfl⟩:=es_inv h
 obtain ⟨rfl,rfl⟩:=nil_inv h2
 exact ⟨v,h1,rfl⟩
theorem zeA (h:zv cf (.cons a (.cons b .nil)) sg M=some (vs,M')):∃ v M1 w,evE cf a sg M=some (v,M1)/\evE cf b sg M1=some (w,M')/\vs=[v,w]:=by
 obtain ⟨v,M1,vs',h1,h2,rfl⟩:=es_inv h
 obtain ⟨w,h3,rfl⟩:=zb1 h2
 exact ⟨v,M1,w,h1,h3,rfl⟩
end
section
variable {A:Bool} {cf:CF} {env:Env} {e a b c:E} {es:Es} {Q:OT->Env->Prop}
theorem ERs.frees {sg:Sg} {M M':Mm} {nss nss':List (List Nat)} {X:Nat->Prop} {vs:List PV} {ts:List OT} {mss:List (List Nat)} {env':Env} (R:ERs A sg M env nss X vs M' ts mss env' nss') {ds:List D} (h:ts.mapM OT.toD=some ds):Rps (Bd nss' X) M' vs ds :=
 R.or.frees h fun n hn=>by
  rcases hn with q | q
  ·exact ⟨.inl q,fun z=>R.sr.dj n q (.inr z)⟩
  ·exact ⟨.inr (.inl q),fun z=>R.mx n z q⟩
theorem ERs.tops {sg:Sg} {M M':Mm} {nss nss':List (List Nat)} {X:Nat->Prop} {vs:List PV} {ts:List OT} {mss:List (List Nat)} {env':Env} (R:ERs A sg M env nss X vs M' ts mss env' nss') {ds:List D} (h:ts.mapM OT.top=some ds):RTs (Bd nss' fun n=>X n\/n∈mss.flatten) M' vs ds:=R.or.tops h
theorem ERs.newO {sg:Sg} {M M':Mm} {nss nss':List (List Nat)} {X:Nat->Prop} {vs:List PV} {ts:List OT} {mss:List (List Nat)} {env':Env} (R:ERs A sg M env nss X vs M' ts mss env' nss') {o:Ob} {t:OT} (h:∀ B:Nat->Prop,Stp (Bd nss' X) B M' (M'++[o])->OR B (M'++[o]) t (.ref M'.length) [M'.length]):ERs A sg M env nss X [.ref M'.length] (M'++[o]) [t] [[M'.length]] env' nss':=by
 have S1:SR sg M' env' nss' X:=R.sr.mono fun n hn=>.inl hn
 have ap:∀ (n:Nat) (x:Ob),M'[n]? = some x->(M'++[o])[n]? = some x:=fun n x h=>by rw [List.getElem?_append_left (List.getElem?_eq_some_iff.mp h).1];exact h
 have hfl:∀ n,n∈([[M'.length]]:List (List Nat)).flatten↔n=M'.length:=fun n=>by simp
 refine ⟨S1.mem (fun n x _ h=>ap n x h) (by simp) (fun n hn=>hn.imp id fun z=>by rw [(hfl n).mp z];exact Nat.le_refl _) fun n hn=>?_,⟨h _ fun n x h1 h2=>⟨fun z=>h1 ?_,ap n x h2⟩,trivial⟩,by simp,fun n hn z=>?_,fun n hn=>?_,fun i h1 h2=>?_,by have:=R.le;simp;omega,fun hA=>?_⟩
 ·rcases hn with q | q
  ·have:=S1.xl n q;simp;omega
  ·rw [(hfl n).mp q];simp
 ·rcases z with z | z | z
  ·exact .inl z
  ·exact .inr z
  ·rw [(hfl n).mp z] at h2
   have:=(List.getElem?_eq_some_iff.mp h2).1
   omega
 ·rw [(hfl n).mp hn] at z
  have:=S1.xl _ z
  omega
 ·rcases hn with q | q
  ·rw [(hfl n).mp q];exact .inr R.le
  ·exact R.nw n (.inr q)
 ·rw [List.getElem?_append_left (Nat.lt_of_lt_of_le h1 R.le)];exact R.fr i h1 h2
 ·obtain ⟨a1,a2,a3⟩:=R.al hA
  exact ⟨a1,a2,fun i hi=>by rw [List.getElem?_append_left (Nat.lt_of_lt_of_le hi R.le)];exact a3 i hi⟩
theorem ERs.newL {sg:Sg} {M M':Mm} {nss nss':List (List Nat)} {X:Nat->Prop} {vs:List PV} {ts:List OT} {mss:List (List Nat)} {env':Env} (R:ERs A sg M env nss X vs M' ts mss env' nss') {xs:List PV} {ds:List D} (h:Rps (Bd nss' X) M' xs ds):ERs A sg M env nss X [.ref M'.length] (M'++[.lst xs]) [.ol ds] [[M'.length]] env' nss' :=
 R.newO fun B s=>⟨M'.length,xs,rfl,rfl,by simp,h.step s⟩
theorem zgg {sg:Sg} {M:Mm} {nss:List (List Nat)} {X:Nat->Prop} (S:SR sg M env nss X):ERs A sg M env nss X [] M [] [] env nss :=
 ⟨S.mono fun n h=>by simpa using h,trivial,by simp,by simp,fun n hn=>.inl (by simpa using hn),fun _ _ _=>rfl,Nat.le_refl _,fun _=>⟨rfl,rfl,fun _ _=>rfl⟩⟩
theorem zfz {F:List D->Option D} (h:HEs A cf es env fun ts env1=>∃ ds d,ts.mapM OT.top=some ds/\F ds=some d/\Q (.v d) env1)
  (k:∀ (sg:Sg) (M:Mm) (vs:List PV) (M':Mm) (B:Nat->Prop) (ds:List D) (d:D),zv cf es sg M=some (vs,M')->RTs B M' vs ds->F ds=some d->∃ v,evE cf e sg M=some (v,M')/\Rp B M' v d):HE A cf e env Q:=fun sg M nss X S=>by
 obtain ⟨vs,M',ts,mss,env',nss',e1,R,ds,d,h1,h2,h3⟩:=h sg M nss X S
 obtain ⟨v,e2,r⟩:=k sg M vs M' _ ds d e1 (R.tops h1) h2
 exact ⟨v,M',.v d,[],env',nss',e2,R.val r,h3⟩
theorem rt_bop {B:Nat->Prop} {M:Mm} {o:Bo} {v w:PV} {x y z:D} (ha:RT B M v x) (hb:RT B M w y) (e:zfj o x y=some z):∃ u,zat M o v w=some (u,M)/\Rp B M u z:=by
 refine zlT (Rp.rtE ha ?_ ?_) (Rp.rtE hb ?_ ?_) e<;>(intro ds q;subst q;cases o<;>first | (simp [zfj] at e;done) | (cases x<;>simp [zfj] at e))
theorem h_bop {o:Bo} (h:HE A cf a env fun t env1=>HE A cf b env1 fun u env2=>∃ x y z,t.top=some x/\u.top=some y/\zfj o x y=some z/\Q (.v z) env2):HE A cf (.bop o a b) env Q:=by
 refine zfz (F:=fun ds=>match ds with | [x,y]=>zfj o x y | _=>none) ((zg6 h).mono fun ts env'=>?_) fun sg M vs M' B ds d e1 r e2=>?_
 ·rintro ⟨t,u,rfl,x,y,z,h1,h2,h3,h4⟩
  exact ⟨[x,y],z,by simp [h1,h2],h3,h4⟩
 ·obtain ⟨v,M1,w,q1,q2,rfl⟩:=zeA e1
  obtain ⟨x,y,rfl,r1,r2⟩:=r.two
  obtain ⟨u,q3,q4⟩:=rt_bop r1 r2 e2
  exact ⟨u,zhb q1 q2 q3,q4⟩
theorem zjH {o:Co} (h:HE A cf a env fun t env1=>HE A cf b env1 fun u env2=>∃ x y k,t.top=some x/\u.top=some y/\zcG o x y=some k/\Q (.v (.bl k)) env2):HE A cf (.cmp o a b) env Q:=by
 refine zfz (F:=fun ds=>match ds with | [x,y]=>(zcG o x y).map .bl | _=>none) ((zg6 h).mono fun ts env'=>?_) fun sg M vs M' B ds d e1 r e2=>?_
 ·rintro ⟨t,u,rfl,x,y,z,h1,h2,h3,h4⟩
  exact ⟨[x,y],.bl z,by simp [h1,h2],by simp [h3],h4⟩
 ·obtain ⟨v,M1,w,q1,q2,rfl⟩:=zeA e1
  obtain ⟨x,y,rfl,r1,r2⟩:=r.two
  obtain ⟨k,q3,rfl⟩:=Option.map_eq_some_iff.mp e2
  exact ⟨.bl k,zha q1 q2 (ze0 r1 r2 q3),.bl k⟩
theorem h_idx (h:HE A cf a env fun t env1=>HE A cf b env1 fun u env2=>∃ x y d,t.top=some x/\u.top=some y/\zdh x y=some d/\Q (.v d) env2):HE A cf (.idx a b) env Q:=by
 refine zfz (F:=fun ds=>match ds with | [x,y]=>zdh x y | _=>none) ((zg6 h).mono fun ts env'=>?_) fun sg M vs M' B ds d e1 r e2=>?_
 ·rintro ⟨t,u,rfl,x,y,z,h1,h2,h3,h4⟩
  exact ⟨[x,y],z,by simp [h1,h2],h3,h4⟩
 ·obtain ⟨v,M1,w,q1,q2,rfl⟩:=zeA e1
  obtain ⟨x,y,rfl,r1,r2⟩:=r.two
  obtain ⟨u,q3,q4⟩:=zlR r1 r2 e2
  exact ⟨u,zia q1 q2 q3,q4⟩
theorem zjI {o:Mp.B} (h:HEs A cf es env fun ts env1=>∃ ds d,ts.mapM OT.top=some ds/\zgz o ds=some d/\Q (.v d) env1):HE A cf (.blt o es) env Q :=
 zfz (F:=zgz o) h fun sg M vs M' B ds d e1 r e2=>by
  obtain ⟨v,q1,q2⟩:=zlU r e2
  exact ⟨v,zdg e1 q1,q2⟩
theorem zc0 {ts:List Ty} (h:HE A cf a env fun t env1=>∃ x k,t.top=some x/\disi x ts=some k/\Q (.v (.bl k)) env1):HE A cf (.isi a ts) env Q:=by
 refine zfz (F:=fun ds=>match ds with | [x]=>(disi x ts).map .bl | _=>none) ((he_one h).mono fun us env'=>?_) fun sg M vs M' B ds d e1 r e2=>?_
 ·rintro ⟨t,rfl,x,k,h1,h2,h3⟩
  exact ⟨[x],.bl k,by simp [h1],by simp [h2],h3⟩
 ·obtain ⟨v,q1,rfl⟩:=zb1 e1
  obtain ⟨x,rfl,r1⟩:=r.one
  obtain ⟨k,q3,rfl⟩:=Option.map_eq_some_iff.mp e2
  obtain ⟨k1,k2⟩:=ty_rt r1 q3
  exact ⟨.bl k,e_isi q1 k2 k1,.bl k⟩
theorem zcj (h:HE A cf a env fun t env1=>∃ k,t=.v (.bl k)/\Q (.v (.bl (!k))) env1):HE A cf (.not a) env Q:=by
 refine zfz (F:=fun ds=>match ds with | [.bl k]=>some (.bl (!k)) | _=>none) ((he_one h).mono fun us env'=>?_) fun sg M vs M' B ds d e1 r e2=>?_
 ·rintro ⟨t,rfl,k,rfl,h3⟩
  exact ⟨[.bl k],.bl (!k),rfl,rfl,h3⟩
 ·obtain ⟨v,q1,rfl⟩:=zb1 e1
  obtain ⟨x,rfl,r1⟩:=r.one
  split at e2
  ·rename_i k q;cases q;cases e2;cases r1;exact ⟨_,e_not q1,.bl _⟩
  ·cases e2
theorem ERs.seq {sg:Sg} {M M1 M2:Mm} {nss nss1 nss2:List (List Nat)} {X:Nat->Prop} {vs ws:List PV} {ts us:List OT} {mss kss:List (List Nat)} {env1 env2:Env} (R1:ERs A sg M env nss X vs M1 ts mss env1 nss1) (R2:ERs A sg M1 env1 nss1 X ws M2 us kss env2 nss2):ERs A sg M env nss X ws M2 us kss env2 nss2:=by
 have key:∀ n,n∈nss1.flatten->n∈nss.flatten\/M.length<=n:=fun n z=>R1.nw n (.inr z)
 have hl:=R1.le
 refine ⟨R2.sr,R2.or,R2.nd,R2.mx,fun n hn=>?_,fun i h1 h2=>?_,Nat.le_trans R1.le R2.le,fun hA=>?_⟩
 ·rcases R2.nw n hn with q | q
  ·exact key n q
  ·exact .inr (by omega)
 ·rw [R2.fr i (by omega) fun z=>by
   rcases key i z with q | q
   ·exact h2 q
   ·omega]
  exact R1.fr i h1 h2
 ·obtain ⟨a1,a2,a3⟩:=R1.al hA
  obtain ⟨b1,b2,b3⟩:=R2.al hA
  exact ⟨b1.trans a1,b2.trans a2,fun i hi=>(b3 i (by omega)).trans (a3 i hi)⟩
theorem ERs.dropped {sg:Sg} {M M1:Mm} {nss nss1:List (List Nat)} {X:Nat->Prop} {vs:List PV} {ts:List OT} {mss:List (List Nat)} {env1:Env} (R1:ERs A sg M env nss X vs M1 ts mss env1 nss1):SR sg M1 env1 nss1 X:=R1.sr.mono fun n hn=>.inl hn
theorem zeX (h:HE A cf a env fun t env1=>(t=.v (.bl true)/\HE A cf b env1 Q)\/(t=.v (.bl false)/\Q (.v (.bl false)) env1)):HE A cf (.and a b) env Q:=fun sg M nss X S=>by
 obtain ⟨v,M1,t,ns,env1,nss1,e1,R1,q⟩:=h sg M nss X S
 rcases q with ⟨rfl,q⟩ | ⟨rfl,q⟩
 ·cases R1.or.1.1
  obtain ⟨w,M2,u,ms,env2,nss2,e2,R2,q2⟩:=q sg M1 nss1 X R1.dropped
  exact ⟨w,M2,u,ms,env2,nss2,e_andT e1 e2,R1.seq R2,q2⟩
 ·cases R1.or.1.1
  exact ⟨_,M1,_,[],env1,nss1,e_andF e1,R1.val (.bl false),q⟩
theorem h_or (h:HE A cf a env fun t env1=>(t=.v (.bl false)/\HE A cf b env1 Q)\/(t=.v (.bl true)/\Q (.v (.bl true)) env1)):HE A cf (.or a b) env Q:=fun sg M nss X S=>by
 obtain ⟨v,M1,t,ns,env1,nss1,e1,R1,q⟩:=h sg M nss X S
 rcases q with ⟨rfl,q⟩ | ⟨rfl,q⟩
 ·cases R1.or.1.1
  obtain ⟨w,M2,u,ms,env2,nss2,e2,R2,q2⟩:=q sg M1 nss1 X R1.dropped
  exact ⟨w,M2,u,ms,env2,nss2,e_orF e1 e2,R1.seq R2,q2⟩
 ·cases R1.or.1.1
  exact ⟨_,M1,_,[],env1,nss1,e_orT e1,R1.val (.bl true),q⟩
theorem zlC (h:HE A cf c env fun t env1=>(t=.v (.bl true)/\HE A cf a env1 Q)\/(t=.v (.bl false)/\HE A cf b env1 Q)):HE A cf (.ite c a b) env Q:=fun sg M nss X S=>by
 obtain ⟨v,M1,t,ns,env1,nss1,e1,R1,q⟩:=h sg M nss X S
 rcases q with ⟨rfl,q⟩ | ⟨rfl,q⟩
 ·cases R1.or.1.1
  obtain ⟨w,M2,u,ms,env2,nss2,e2,R2,q2⟩:=q sg M1 nss1 X R1.dropped
  exact ⟨w,M2,u,ms,env2,nss2,e_iteT e1 e2,R1.seq R2,q2⟩
 ·cases R1.or.1.1
  obtain ⟨w,M2,u,ms,env2,nss2,e2,R2,q2⟩:=q sg M1 nss1 X R1.dropped
  exact ⟨w,M2,u,ms,env2,nss2,e_iteF e1 e2,R1.seq R2,q2⟩
theorem h_tup (h:HEs A cf es env fun ts env1=>∃ ds,ts.mapM OT.toD=some ds/\ds.length<=1000000/\Q (.v (.tup ds)) env1):HE A cf (.tup es) env Q:=fun sg M nss X S=>by
 obtain ⟨vs,M',ts,mss,env',nss',e1,R,ds,h1,h2,h3⟩:=h sg M nss X S
 have r:=R.frees h1
 refine ⟨.tup vs,M',.v (.tup ds),[],env',nss',?_,?_,h3⟩
 ·rw [evE,e1];simp only [];rw [if_pos (by rw [r.length];have:sizeLine=16777216:=rfl;omega)]
 ·exact (zgg (A:=A) S).seq (show ERs A sg M env nss X [.tup vs] M' [.v (.tup ds)] [[]] env' nss' from by
   have w:=zlN (A:=true) (sg:=sg) R.dropped (Rp.tup r)
   exact ⟨w.sr,w.or,w.nd,w.mx,fun n hn=>R.nw n (hn.imp (by simp) id),R.fr,R.le,R.al⟩)
theorem zg7 (h:HEs A cf es env fun ts env1=>∃ ds,ts.mapM OT.toD=some ds/\ds.length<=1000000/\Q (.ol ds) env1):HE A cf (.lst es) env Q:=fun sg M nss X S=>by
 obtain ⟨vs,M',ts,mss,env',nss',e1,R,ds,h1,h2,h3⟩:=h sg M nss X S
 have r:=R.frees h1
 refine ⟨.ref M'.length,M'++[.lst vs],.ol ds,_,env',nss',?_,R.newL r,h3⟩
 rw [evE,e1];simp only [];rw [if_pos (by rw [r.length];have:sizeLine=16777216:=rfl;omega)]
theorem h_cat (h:HE A cf a env fun t env1=>HE A cf b env1 fun u env2=>∃ xs ys,t.top=some (.lst xs)/\u.top=some (.lst ys)/\xs.length+ys.length<=1000000/\Q (.ol (xs++ys)) env2):HE A cf (.bop .add a b) env Q:=fun sg M nss X S=>by
 obtain ⟨vs,M',ts,mss,env',nss',e1,R,t,u,rfl,xs,ys,h1,h2,h3,h4⟩:=zg6 h sg M nss X S
 obtain ⟨v,M1,w,q1,q2,rfl⟩:=zeA e1
 have r:=R.tops (ds:=[.lst xs,.lst ys]) (by simp [h1,h2])
 cases r with
 | cons r1 r2 =>
  cases r2 with
  | cons r2 r3 =>
   obtain ⟨n,zs,rfl,g1,g2⟩:=r1
   obtain ⟨m,us,rfl,g3,g4⟩:=r2
   refine ⟨.ref M'.length,M'++[.lst (zs++us)],.ol (xs++ys),_,env',nss',zhb q1 q2 ?_,R.newL ((g2.append g4).step fun n o a b=>⟨fun z=>a (z.imp id .inl),b⟩),h4⟩
   simp only [zat,zl,g1,g3]
   rw [if_pos (by rw [g2.length,g4.length];have:sizeLine=16777216:=rfl;omega)]
theorem h_catv {i:Nat} (h:HE A cf b env fun u env1=>∃ xs ys,(pk env1 (.var i)).bind OT.top=some (.lst xs)/\u.top=some (.lst ys)/\xs.length+ys.length<=1000000/\Q (.ol (xs++ys)) env1):HE A cf (.bop .add (.var i) b) env Q:=fun sg M nss X S=>by
 obtain ⟨v,M',t,ns,env',nss',e1,R,xs,ys,h1,h2,h3,h4⟩:=h sg M nss X S
 obtain ⟨w,e2,r2⟩:=pt_ok (cf:=cf) R.sr (.var i) h1
 have hw:sg[i]? = some (some w):=by
  rw [evE] at e2
  split at e2
  ·rename_i u q;cases e2;exact q
  ·cases e2
 obtain ⟨n,zs,rfl,g1,g2⟩:=r2
 obtain ⟨m,us,rfl,g3,g4⟩:=R.or.1.rt h2
 refine ⟨.ref M'.length,M'++[.lst (zs++us)],.ol (xs++ys),_,env',nss',zhb (zU hw) e1 ?_,R.newL ((g2.append g4).step fun n o a b=>⟨fun z=>a (z.imp id .inl),b⟩),h4⟩
 simp only [zat,zl,g1,g3]
 rw [if_pos (by rw [g2.length,g4.length];have:sizeLine=16777216:=rfl;omega)]
theorem h_slcl {fl fh:Bool} {lo hi:E} {xs:List D} {y z:D} {ys:List D} (h1:(pk env a).bind OT.top=some (.lst xs)) (h2:(pk env lo).bind OT.top=some y) (h3:(pk env hi).bind OT.top=some z) (h4:zlP fl fh (.lst xs) y z=some (.lst ys)) (q:Q (.ol ys) env):HE A cf (.slc fl fh a lo hi) env Q:=fun sg M nss X S=>by
 obtain ⟨v1,e1,r1⟩:=pt_ok (cf:=cf) S a h1
 obtain ⟨v2,e2,r2⟩:=pt_ok (cf:=cf) S lo h2
 obtain ⟨v3,e3,r3⟩:=pt_ok (cf:=cf) S hi h3
 obtain ⟨n,zs,rfl,g1,g2⟩:=r1
 unfold zlP at h4
 split at h4
 ·rename_i p q' k1 k2
  cases h4
  refine ⟨.ref M.length,M++[.lst (zid zs p q')],.ol _,_,env,nss,?_,(zgg S).newL (zic g2 p q'),q⟩
  rw [evE,e1];simp only [e2,e3,zhD,zdR r2 k1,zdR r3 k2,zl,g1]
 ·cases h4
def keyIn (kv:Key × D):Option Int:=match kv.1 with | .inl i=>some i | .inr _=>none
def dbltL:Mp.B->List D->Option (List D)
 | .list,[.lst xs]=>some xs
 | .list,[.tup xs]=>some xs
 | .list,[.cl ns]=>some (ns.map .int)
 | .list,[.ptup xs]=>some xs
 | .sorted,[.lst xs]=>(zhf xs).bind fun ns=>if ns.length<64 then some ((zau ns).map .int) else none
 | .ssort,[.lst xs]=>(zhf xs).bind fun ns=>if ns.length<64 then some ((usortI ns).map .int) else none
 | .sorted,[.dic kvs]=>(kvs.mapM keyIn).bind fun ns=>if ns.length<64 then some ((zau ns).map .int) else none
 | _,_=>none
theorem ziO:∀ {kvs:List (Key × PV)} {ds:List (Key × D)} {ns:List Int},kvs.map (·.1)=ds.map (·.1)->ds.mapM keyIn=some ns->zbH kvs=some ns
 | [],[],_,_,e=>by cases e;rfl
 | [],_::_,_,h,_=>by simp at h
 | _::_,[],_,h,_=>by simp at h
 | (k,v)::kvs,(k',d)::ds,ns,h,e=>by
  simp only [List.map_cons,List.cons.injEq] at h
  obtain ⟨rfl,h⟩:=h
  rw [List.mapM_cons] at e
  obtain ⟨i,h1,h2⟩:=Option.bind_eq_some_iff.mp e
  obtain ⟨is,h3,h4⟩:=Option.bind_eq_some_iff.mp h2
  cases h4
  cases k with
  | inl j=>cases h1;simp only [zbH];rw [ziO h h3];rfl
  | inr j=>cases h1
theorem dbltL_ok {B:Nat->Prop} {M:Mm} {o:Mp.B} {xs:List PV} {ds ys:List D} (h:RTs B M xs ds) (e:dbltL o ds=some ys):∃ zs,zJ M o xs=some (.ref M.length,M++[.lst zs])/\Rps B M zs ys:=by
 unfold dbltL at e
 split at e
 ·cases h with | cons a r=>cases r;obtain ⟨n,zs,rfl,h1,h2⟩:=a;cases e;exact ⟨zs,by simp only [zJ,zff,zl,h1];rfl,h2⟩
 ·cases h with | cons a r=>cases r;cases a with | tup r=>cases e;exact ⟨_,by simp only [zJ,zff];rfl,r⟩
 ·cases h with | cons a r=>cases r;cases a;cases e;exact ⟨_,by simp only [zJ,zff];rfl,Rps.ints _⟩
 ·cases h with | cons a r=>cases r;cases a with | ptup r=>cases e;exact ⟨_,by simp only [zJ,zff];rfl,r⟩
 ·cases h with | cons a r =>
  cases r;obtain ⟨n,zs,rfl,h1,h2⟩:=a
  obtain ⟨ns,q1,q2⟩:=Option.bind_eq_some_iff.mp e
  split at q2
  ·rename_i hl;cases q2;exact ⟨_,by simp only [zJ,h1,zcP h2 q1,Option.bind_some];rw [if_pos hl],Rps.ints _⟩
  ·cases q2
 ·cases h with | cons a r =>
  cases r;obtain ⟨n,zs,rfl,h1,h2⟩:=a
  obtain ⟨ns,q1,q2⟩:=Option.bind_eq_some_iff.mp e
  split at q2
  ·rename_i hl;cases q2;exact ⟨_,by simp only [zJ,zl,h1,zcP h2 q1,Option.bind_some];rw [if_pos hl],Rps.ints _⟩
  ·cases q2
 ·cases h with | cons a r =>
  cases r;obtain ⟨n,zs,rfl,h1,h2,h3⟩:=a
  obtain ⟨ns,q1,q2⟩:=Option.bind_eq_some_iff.mp e
  split at q2
  ·rename_i hl;cases q2;exact ⟨_,by simp only [zJ,h1,ziO h2 q1,Option.bind_some];rw [if_pos hl],Rps.ints _⟩
  ·cases q2
 ·cases e
theorem ziU {o:Mp.B} (h:HEs A cf es env fun ts env1=>∃ ds ys,ts.mapM OT.top=some ds/\dbltL o ds=some ys/\Q (.ol ys) env1):HE A cf (.blt o es) env Q:=fun sg M nss X S=>by
 obtain ⟨vs,M',ts,mss,env',nss',e1,R,ds,ys,h1,h2,h3⟩:=h sg M nss X S
 obtain ⟨zs,q1,q2⟩:=dbltL_ok (R.tops h1) h2
 exact ⟨.ref M'.length,M'++[.lst zs],.ol ys,_,env',nss',zdg e1 q1,R.newL (q2.step fun n o a b=>⟨fun z=>a (z.imp id .inl),b⟩),h3⟩
end
end Mp.V
namespace Mp.V
open PySem L2
theorem zfS {sg:Sg} {i:Nat} {x:PV} (h:sg[i]? = some (some x)):sg.set i (some x)=sg:=by
 refine List.ext_getElem? fun j=>?_
 by_cases hj:i=j
 ·subst hj;rw [List.getElem?_set_self (List.getElem?_eq_some_iff.mp h).1,h]
 ·rw [List.getElem?_set_ne hj]
def Lens (cf:CF) (e:E) (env:Env) (t:OT) (upd:OT->Env):Prop :=
 ∀ (sg:Sg) (M:Mm) (nss:List (List Nat)) (X:Nat->Prop),SR sg M env nss X->∃ x ns,evE cf e sg M=some (x,M)/\OR (Bd nss X) M t x ns/\(∀ n∈ns,n∈nss.flatten)/\ns.Nodup /\
  ∀ (X2:Nat->Prop) (M':Mm) (t':OT) (ns':List Nat),(∀ n,X2 n->X n)->(∀ (n:Nat) (o:Ob),n∉ns->M[n]? = some o->M'[n]? = some o)->M.length<=M'.length->OR (fun n=>Bd nss X n\/n∈ns') M' t' x ns'->ns'.Nodup->(∀ n∈ns',n∈ns\/X n\/M.length<=n)->(∀ n∈ns',¬ X2 n) ->
   ∃ nss',SR sg M' (upd t') nss' X2/\∀ n∈nss'.flatten,n∈nss.flatten\/n∈ns'
theorem zkQ {nss:List (List Nat)} {i:Nat} {us:List Nat} (h:nss[i]? = some us) (nd:nss.flatten.Nodup):us.Nodup:=by
 obtain ⟨l1,l2,e1,e2⟩:=zcv h
 rw [e1] at nd
 simp only [List.flatten_append,List.flatten_cons,List.nodup_append] at nd
 exact nd.2.1.1
theorem SR.wipeX {sg:Sg} {M:Mm} {env:Env} {nss:List (List Nat)} {X:Nat->Prop} (S:SR sg M env nss X) {i:Nat} {us:List Nat} (hu:nss[i]? = some us) (o:Option PV):SR (sg.set i o) M (env.set i none) (nss.set i []) (fun n=>X n\/n∈us):=by
 have hi:i<nss.length:=(List.getElem?_eq_some_iff.mp hu).1
 have st:Stp (Bd nss X) (Bd (nss.set i []) fun n=>X n\/n∈us) M M:=fun n o a b=>⟨fun z=>a (by
  rcases z with z | z | z
  ·exact .inl (zbl hu S.nd z).1
  ·exact .inr z
  ·exact .inl (zdY hu n z)),b⟩
 refine ⟨by simp [S.len],by simp [S.nl],fun j u e=>?_,fun j e=>?_,?_,fun n hn=>?_,fun n hn=>?_⟩
 ·by_cases hj:i=j
  ·subst hj
   rw [List.getElem?_set_self (by rw [<- S.nl];exact hi)] at e
   cases e
  ·rw [List.getElem?_set_ne hj] at e
   obtain ⟨x,ms,a,b,c⟩:=S.at_ j u e
   exact ⟨x,ms,by rw [List.getElem?_set_ne hj];exact a,by rw [List.getElem?_set_ne hj];exact b,c.step ⟨st,fun n _ o h=>h⟩⟩
 ·by_cases hj:i=j
  ·subst hj
   rw [List.getElem?_set_self hi]
  ·rw [List.getElem?_set_ne hj] at e ⊢
   exact S.no j e
 ·exact zkS hu S.nd (by simp) (by simp)
 ·obtain ⟨a,b⟩:=zbl hu S.nd hn
  exact fun z=>z.elim (S.dj n a) b
 ·rcases hn with q | q
  ·exact S.xl n q
  ·exact S.lt n (zdY hu n q)
theorem lens_var {cf:CF} {env:Env} {i:Nat} {t:OT} (h:env[i]? = some (some t)):Lens cf (.var i) env t (fun t'=>env.set i (some t')):=fun sg M nss X S=>by
 obtain ⟨x,ns,h1,h2,h3⟩:=S.at_ i t h
 refine ⟨x,ns,zU h1,h3,zdY h2,zkQ h2 S.nd,fun X2 M' t' ns' hX2 hM hl hO nd hn hnx=>?_⟩
 have hi:i<nss.length:=(List.getElem?_eq_some_iff.mp h2).1
 have W:=S.wipeX h2 (some x)
 have W2:=W.mem (M':=M') (X':=fun n=>X2 n\/n∈ns') (fun n o a b=>hM n o (fun z=>a (.inr z)) b) hl (fun n hn2=>by
  rcases hn2 with q | q
  ·exact .inl (.inl (hX2 n q))
  ·rcases hn n q with w | w | w
   ·exact .inl (.inr w)
   ·exact .inl (.inl w)
   ·exact .inr w) (fun n hn2=>by
  rcases hn2 with q | q
  ·have:=S.xl n (hX2 n q);omega
  ·exact hO.lt n q)
 have P:=W2.set (X:=X2) (i:=i) (t:=t') (v:=x) (ns:=ns') (us:=[]) (by rw [List.getElem?_set_self hi]) (hO.step ⟨fun n o a b=>⟨fun z=>a (by
  rcases z with z | z | z
  ·exact .inl (.inl (zbl h2 S.nd z).1)
  ·exact .inl (.inr (hX2 n z))
  ·exact .inr z),b⟩,fun n _ o q=>q⟩) nd (fun n q=>.inl (.inr q)) hnx (fun n q=>.inl q)
 rw [List.set_set,List.set_set,List.set_set,zfS h1] at P
 exact ⟨_,P,fun n q=>zfT h2 q⟩
def OF.put:OF->Str->OT->OF
 | .nil,f,t=>.cons f t .nil
 | .no r,f,t=>.no (r.put f t)
 | .cons g u r,f,t=>match f == g with | true=>.cons g t r | false=>.cons g u (r.put f t)
def OF.setAt:OF->Nat->OT->OF
 | .nil,_,_=>.nil
 | .no r,0,t=>.cons ("" : Str) t r
 | .no r,i+1,t=>.no (r.setAt i t)
 | .cons g _ r,0,t=>.cons g t r
 | .cons g u r,i+1,t=>.cons g u (r.setAt i t)
section
variable {B:Nat->Prop} {M:Mm}
theorem OFR.put:∀ {fs:OF} {vs:List (Str × PV)} {ms:List Nat} {f:Str} {t:OT},OFR B M fs vs ms->fs.get f=some t->∃ x us m1 m2,ms=m1++us++m2/\vs.lookup f=some x/\OR B M t x us /\
  ∀ (B':Nat->Prop) (M':Mm) (t':OT) (ns':List Nat),Stt B B' M M' (m1++m2)->OR B' M' t' x ns'->OFR B' M' (fs.put f t') vs (m1++ns'++m2)
 | .nil,_,_,_,_,_,e=>by cases e
 | .no _,_,_,_,_,h,_=>h.elim
 | .cons g u r,_,_,f,t,⟨x,vs,m1,m2,a,b,h1,h2⟩,e=>by
  subst a;subst b
  rw [OF.get] at e
  cases q:f == g with
  | true =>
   rw [q] at e
   cases e
   refine ⟨x,m1,[],m2,by simp,by rw [List.lookup,q],h1,fun B' M' t' ns' st hO=>?_⟩
   rw [OF.put,q]
   exact ⟨x,vs,ns',m2,rfl,by simp,hO,h2.step (st.sub fun n hn=>by simpa using hn)⟩
  | false =>
   rw [q] at e
   obtain ⟨y,us,k1,k2,e1,e2,e3,e4⟩:=OFR.put h2 e
   subst e1
   refine ⟨y,us,m1++k1,k2,by simp,by rw [List.lookup,q];exact e2,e3,fun B' M' t' ns' st hO=>?_⟩
   rw [OF.put,q]
   exact ⟨x,vs,m1,k1++ns'++k2,rfl,by simp,h1.step (st.sub fun n hn=>by simp [hn]),e4 B' M' t' ns' (st.sub fun n hn=>by simp at hn ⊢;grind) hO⟩
theorem OSR.put:∀ {fs:OF} {vs:List (Option PV)} {ms:List Nat} {i:Nat} {t:OT},OSR B M fs vs ms->fs.at i=some t->∃ x us m1 m2,ms=m1++us++m2/\vs[i]? = some (some x)/\OR B M t x us /\
  ∀ (B':Nat->Prop) (M':Mm) (t':OT) (ns':List Nat),Stt B B' M M' (m1++m2)->OR B' M' t' x ns'->OSR B' M' (fs.setAt i t') vs (m1++ns'++m2)
 | .nil,_,_,_,_,_,e=>by cases e
 | .no _,_,_,0,_,_,e=>by cases e
 | .no r,_,_,i+1,t,⟨o,vs,a,h⟩,e=>by
  subst a
  obtain ⟨y,us,k1,k2,e1,e2,e3,e4⟩:=OSR.put h (show r.at i=_ from e)
  subst e1
  exact ⟨y,us,k1,k2,rfl,by simpa using e2,e3,fun B' M' t' ns' st hO=>⟨o,vs,rfl,e4 B' M' t' ns' st hO⟩⟩
 | .cons g u r,_,_,0,t,⟨x,vs,m1,m2,a,b,h1,h2⟩,e=>by
  subst a;subst b
  cases e
  exact ⟨x,m1,[],m2,by simp,rfl,h1,fun B' M' t' ns' st hO=>⟨x,vs,ns',m2,rfl,by simp,hO,h2.step (st.sub fun n hn=>by simpa using hn)⟩⟩
 | .cons g u r,_,_,i+1,t,⟨x,vs,m1,m2,a,b,h1,h2⟩,e=>by
  subst a;subst b
  obtain ⟨y,us,k1,k2,e1,e2,e3,e4⟩:=OSR.put h2 (show r.at i=_ from e)
  subst e1
  exact ⟨y,us,m1++k1,k2,by simp,by simpa using e2,e3,fun B' M' t' ns' st hO=>⟨x,vs,m1,k1++ns'++k2,rfl,by simp,h1.step (st.sub fun n hn=>by simp [hn]),e4 B' M' t' ns' (st.sub fun n hn=>by simp at hn ⊢;grind) hO⟩⟩
end
end Mp.V
namespace Mp.V
open PySem L2
inductive Flo where
 | nx | brk | ct | ret (t:OT)
structure SRs (K:List Nat) (sg:Sg) (M:Mm) (nss:List (List Nat)) (X:Nat->Prop) (sg':Sg) (M':Mm) (env':Env) (nss':List (List Nat)) (ns:List Nat):Prop where
 sr:SR sg' M' env' nss' (fun n=>X n\/n∈ns)
 nd:ns.Nodup
 mx:∀ n∈ns,¬ X n
 nw:∀ n,n∈ns\/n∈nss'.flatten->n∈nss.flatten\/M.length<=n
 fr:∀ i,i<M.length->i∉nss.flatten->M'[i]? = M[i]?
 le:M.length<=M'.length
 kp:∀ j∈K,sg'[j]? = sg[j]?
def FlR (B:Nat->Prop) (M:Mm):Flo->Fl->Sg->List Nat->Prop
 | .nx,.nx s,sg,ns=>s=sg/\ns=[]
 | .brk,.brk s,sg,ns=>s=sg/\ns=[]
 | .ct,.ct s,sg,ns=>s=sg/\ns=[]
 | .ret t,.ret v,_,ns=>OR B M t v ns
 | _,_,_,_=>False
def HSt (cf:CF) (K:List Nat) (s:S) (env:Env) (Q:Flo->Env->Prop):Prop:=∀ (sg:Sg) (M:Mm) (nss:List (List Nat)) (X:Nat->Prop),SR sg M env nss X->∃ fl M' o sg' env' nss' ns,evS cf s sg M=some (fl,M')/\SRs K sg M nss X sg' M' env' nss' ns/\FlR (Bd nss' fun n=>X n\/n∈ns) M' o fl sg' ns/\Q o env'
def HSs (cf:CF) (K:List Nat) (s:Ss) (env:Env) (Q:Flo->Env->Prop):Prop:=∀ (sg:Sg) (M:Mm) (nss:List (List Nat)) (X:Nat->Prop),SR sg M env nss X->∃ fl M' o sg' env' nss' ns,zM cf s sg M=some (fl,M')/\SRs K sg M nss X sg' M' env' nss' ns/\FlR (Bd nss' fun n=>X n\/n∈ns) M' o fl sg' ns/\Q o env'
section
variable {A:Bool} {cf:CF} {K:List Nat} {env:Env} {e a b c:E} {es:Es} {s:S} {ss ss2:Ss} {Q:Flo->Env->Prop}
theorem srs_id {sg:Sg} {M:Mm} {nss:List (List Nat)} {X:Nat->Prop} (S:SR sg M env nss X):SRs K sg M nss X sg M env nss [] :=
 ⟨S.mono fun n h=>by simpa using h,by simp,by simp,fun n hn=>.inl (by simpa using hn),fun _ _ _=>rfl,Nat.le_refl _,fun _ _=>rfl⟩
theorem zgM {sg:Sg} {M M':Mm} {nss nss':List (List Nat)} {X:Nat->Prop} {vs:List PV} {ts:List OT} {mss:List (List Nat)} {env':Env} (R:ERs A sg M env nss X vs M' ts mss env' nss'):SRs K sg M nss X sg M' env' nss' [] :=
 ⟨R.sr.mono fun n h=>.inl (by simpa using h),by simp,by simp,fun n hn=>R.nw n (.inr (by simpa using hn)),R.fr,R.le,fun _ _=>rfl⟩
theorem SRs.seq {sg sg1 sg2:Sg} {M M1 M2:Mm} {nss nss1 nss2:List (List Nat)} {X:Nat->Prop} {env1 env2:Env} {ns:List Nat} (R1:SRs K sg M nss X sg1 M1 env1 nss1 []) (R2:SRs K sg1 M1 nss1 X sg2 M2 env2 nss2 ns):SRs K sg M nss X sg2 M2 env2 nss2 ns:=by
 have key:∀ n,n∈nss1.flatten->n∈nss.flatten\/M.length<=n:=fun n z=>R1.nw n (.inr z)
 have hl:=R1.le
 refine ⟨R2.sr,R2.nd,R2.mx,fun n hn=>?_,fun i h1 h2=>?_,Nat.le_trans R1.le R2.le,fun j hj=>(R2.kp j hj).trans (R1.kp j hj)⟩
 ·rcases R2.nw n hn with q | q
  ·exact key n q
  ·exact .inr (by omega)
 ·rw [R2.fr i (by omega) fun z=>by
   rcases key i z with q | q
   ·exact h2 q
   ·omega]
  exact R1.fr i h1 h2
theorem SRs.nil {sg sg1:Sg} {M M1:Mm} {nss nss1:List (List Nat)} {X:Nat->Prop} {env1:Env} (R1:SRs K sg M nss X sg1 M1 env1 nss1 []):SR sg1 M1 env1 nss1 X:=R1.sr.mono fun n h=>.inl h
theorem SRs.stp {sg sg1:Sg} {M M1:Mm} {nss nss1:List (List Nat)} {X:Nat->Prop} {env1:Env} {ns:List Nat} (R1:SRs K sg M nss X sg1 M1 env1 nss1 ns):Stp (Bd nss X) (Bd nss1 X) M M1:=fun n o a b=>by
 have hl:=(List.getElem?_eq_some_iff.mp b).1
 refine ⟨fun z=>?_,by rw [R1.fr n hl fun z=>a (.inl z)];exact b⟩
 rcases z with z | z
 ·rcases R1.nw n (.inr z) with q | q
  ·exact a (.inl q)
  ·omega
 ·exact a (.inr z)
theorem za9 (q:Q .nx env):HSs cf K .nil env Q:=fun sg M nss X S=>⟨.nx sg,M,.nx,sg,env,nss,[],zkL,srs_id S,⟨rfl,rfl⟩,q⟩
theorem HSs.mono {Q':Flo->Env->Prop} (h:HSs cf K ss env Q) (hq:∀ o env',Q o env'->Q' o env'):HSs cf K ss env Q':=fun sg M nss X S=>by
 obtain ⟨fl,M',o,sg',env',nss',ns,h1,h2,h3,h4⟩:=h sg M nss X S
 exact ⟨fl,M',o,sg',env',nss',ns,h1,h2,h3,hq _ _ h4⟩
theorem HSt.mono {Q':Flo->Env->Prop} (h:HSt cf K s env Q) (hq:∀ o env',Q o env'->Q' o env'):HSt cf K s env Q':=fun sg M nss X S=>by
 obtain ⟨fl,M',o,sg',env',nss',ns,h1,h2,h3,h4⟩:=h sg M nss X S
 exact ⟨fl,M',o,sg',env',nss',ns,h1,h2,h3,hq _ _ h4⟩
def thn (Q:Flo->Env->Prop) (k:Env->Prop):Flo->Env->Prop
 | .nx,env=>k env
 | o,env=>Q o env
theorem zh (h:HSt cf K s env (thn Q fun env1=>HSs cf K ss env1 Q)):HSs cf K (.cons s ss) env Q:=fun sg M nss X S=>by
 obtain ⟨fl,M1,o,sg1,env1,nss1,ns,e1,R1,F1,q⟩:=h sg M nss X S
 cases o with
 | nx =>
  cases fl with
  | nx s' =>
   obtain ⟨rfl,rfl⟩:=F1
   obtain ⟨fl,M2,o,sg2,env2,nss2,ns,e2,R2,F2,q2⟩:=q s' M1 nss1 X R1.nil
   exact ⟨fl,M2,o,sg2,env2,nss2,ns,zcu e1 e2,R1.seq R2,F2,q2⟩
  | _=>exact F1.elim
 | _ =>
  cases fl<;>first
   | exact F1.elim
   | exact ⟨_,M1,_,sg1,env1,nss1,ns,by rw [zM,e1],R1,F1,q⟩
theorem w_exp (h:HE A cf e env fun _ env1=>Q .nx env1):HSt cf K (.exp e) env Q:=fun sg M nss X S=>by
 obtain ⟨v,M',t,ns,env',nss',e1,R,q⟩:=h sg M nss X S
 exact ⟨_,M',.nx,sg,env',nss',[],s_exp e1,zgM R,⟨rfl,rfl⟩,q⟩
theorem zC (h:HE A cf e env fun t env1=>Q (.ret t) env1):HSt cf K (.ret e) env Q:=fun sg M nss X S=>by
 obtain ⟨v,M',t,ns,env',nss',e1,R,q⟩:=h sg M nss X S
 have hf:∀ n,n∈([ns]:List (List Nat)).flatten↔n∈ns:=fun n=>by simp
 exact ⟨_,M',.ret t,sg,env',nss',ns,s_ret e1,⟨R.sr.mono fun n h=>h.imp id (hf n).mpr,by simpa using R.nd,fun n hn=>R.mx n ((hf n).mpr hn),fun n hn=>R.nw n (hn.imp (hf n).mpr id),R.fr,R.le,fun _ _=>rfl⟩,
  R.or.1.step ⟨fun n o a b=>⟨fun z=>a (z.imp id fun w=>w.imp id (hf n).mpr),b⟩,fun n _ o h=>h⟩,q⟩
theorem SR.put {sg:Sg} {M:Mm} {nss:List (List Nat)} {X:Nat->Prop} {ns:List Nat} {t:OT} {v:PV} (S:SR sg M env nss (fun n=>X n\/n∈ns)) (h:OR (Bd nss fun n=>X n\/n∈ns) M t v ns) (nd:ns.Nodup) (hx:∀ n∈ns,¬ X n) (i:Nat):∃ nss',SR (sg.set i (some v)) M (env.set i (some t)) nss' X/\∀ n∈nss'.flatten,n∈nss.flatten\/n∈ns:=by
 by_cases hi:i<nss.length
 ·have hu:=List.getElem?_eq_getElem hi
  exact ⟨nss.set i ns,S.set hu h nd (fun n hn=>.inl (.inr hn)) hx (fun n hn=>.inl hn),fun n hn=>zfT hu hn⟩
 ·have l1:=S.nl
  have l2:=S.len
  rw [List.set_eq_of_length_le (by omega),List.set_eq_of_length_le (by omega)]
  exact ⟨nss,S.mono fun n hn=>.inl hn,fun n hn=>.inl hn⟩
theorem SR.putV {sg:Sg} {M:Mm} {nss:List (List Nat)} {X:Nat->Prop} {d:D} {v:PV} (S:SR sg M env nss X) (h:Rp (Bd nss X) M v d) (i:Nat):∃ nss',SR (sg.set i (some v)) M (env.set i (some (.v d))) nss' X/\∀ n∈nss'.flatten,n∈nss.flatten:=by
 obtain ⟨nss',h1,h2⟩:=SR.put (X:=X) (ns:=[]) (t:=.v d) (S.mono fun n hn=>by simpa using hn) ⟨h.step fun n o a b=>⟨fun z=>a (by rcases z with z | z;exact .inl z;exact .inr (by simpa using z)),b⟩,rfl⟩ (by simp) (by simp) i
 exact ⟨nss',h1,fun n hn=>by simpa using h2 n hn⟩
theorem zdI {i:Nat} (hK:i∉K) (h:HE A cf e env fun t env1=>Q .nx (env1.set i (some t))):HSt cf K (.asg (.name i) e) env Q:=fun sg M nss X S=>by
 obtain ⟨v,M',t,ns,env',nss',e1,R,q⟩:=h sg M nss X S
 have hf:∀ n,n∈([ns]:List (List Nat)).flatten↔n∈ns:=fun n=>by simp
 obtain ⟨nss2,P,hP⟩:=SR.put (ns:=ns) (R.sr.mono fun n h=>h.imp id (hf n).mpr) (R.or.1.step ⟨fun n o a b=>⟨fun z=>a (z.imp id fun w=>w.imp id (hf n).mpr),b⟩,fun n _ o h=>h⟩) (by simpa using R.nd) (fun n hn=>R.mx n ((hf n).mpr hn)) i
 refine ⟨_,M',.nx,sg.set i (some v),_,nss2,[],zjp e1 rfl,⟨P.mono fun n h=>by simpa using h,by simp,by simp,fun n hn=>?_,R.fr,R.le,fun j hj=>List.getElem?_set_ne fun z=>hK (by rw [z];exact hj)⟩,⟨rfl,rfl⟩,q⟩
 rcases hn with hn | hn
 ·cases hn
 ·rcases hP n hn with w | w
  ·exact R.nw n (.inr w)
  ·exact R.nw n (.inl ((hf n).mpr w))
def setE:List Nat->List OT->Env->Option Env
 | [],[],env=>some env
 | i::is,t::ts,env=>setE is ts (env.set i (some t))
 | _,_,_=>none
theorem zhR:∀ {is:List Nat} {ts:List OT} {vs:List PV} {ms:List (List Nat)} {sg:Sg} {M:Mm} {env env':Env} {nss:List (List Nat)} {X:Nat->Prop},SR sg M env nss (fun n=>X n\/n∈ms.flatten)->ORs (Bd nss fun n=>X n\/n∈ms.flatten) M ts vs ms->ms.flatten.Nodup->(∀ n∈ms.flatten,¬ X n)->setE is ts env=some env' ->
  ∃ nss' sg',zx is vs sg=some sg'/\SR sg' M env' nss' X/\(∀ n∈nss'.flatten,n∈nss.flatten\/n∈ms.flatten)/\∀ j,j∉is->sg'[j]? = sg[j]?
 | [],[],[],[],sg,M,env,env',nss,X,S,_,_,_,e=>by
  cases e
  exact ⟨nss,sg,rfl,S.mono fun n hn=>.inl hn,fun n hn=>.inl hn,fun _ _=>rfl⟩
 | i::is,t::ts,v::vs,m::ms,sg,M,env,env',nss,X,S,⟨h1,h2⟩,nd,hx,e=>by
  have hm:∀ n,n∈(m::ms).flatten↔n∈m\/n∈ms.flatten:=fun n=>by simp
  rw [List.flatten_cons,List.nodup_append] at nd
  obtain ⟨nss1,S1,hS1⟩:=SR.put (X:=fun n=>X n\/n∈ms.flatten) (ns:=m) (S.mono fun n hn=>by
    rcases hn with (q | q) | q
    ·exact .inl q
    ·exact .inr ((hm n).mpr (.inr q))
    ·exact .inr ((hm n).mpr (.inl q))) (h1.step ⟨fun n o a b=>⟨fun z=>a (by
    rcases z with z | (z | z) | z
    ·exact .inl z
    ·exact .inr (.inl z)
    ·exact .inr (.inr ((hm n).mpr (.inr z)))
    ·exact .inr (.inr ((hm n).mpr (.inl z)))),b⟩,fun n _ o q=>q⟩) nd.1 (fun n hn z=>by
    rcases z with z | z
    ·exact hx n ((hm n).mpr (.inl hn)) z
    ·exact nd.2.2 n hn n z rfl) i
  obtain ⟨nss2,sg2,e2,S2,hS2,k2⟩:=zhR (is:=is) S1 (h2.step ⟨fun n o a b=>⟨fun z=>a (by
    rcases z with z | z | z
    ·rcases hS1 n z with w | w
     ·exact .inl w
     ·exact .inr (.inr ((hm n).mpr (.inl w)))
    ·exact .inr (.inl z)
    ·exact .inr (.inr ((hm n).mpr (.inr z)))),b⟩,fun n _ o q=>q⟩) nd.2.1 (fun n hn=>hx n ((hm n).mpr (.inr hn))) e
  refine ⟨nss2,sg2,e2,S2,fun n hn=>?_,fun j hj=>?_⟩
  ·rcases hS2 n hn with q | q
   ·rcases hS1 n q with w | w
    ·exact .inl w
    ·exact .inr ((hm n).mpr (.inl w))
   ·exact .inr ((hm n).mpr (.inr q))
  ·rw [k2 j (fun z=>hj (by simp [z])),List.getElem?_set_ne (fun z=>hj (by simp [z]))]
 | [],_::_,_,_,_,_,_,_,_,_,_,_,_,_,e=>by cases e
 | _::_,[],_,_,_,_,_,_,_,_,_,_,_,_,e=>by cases e
 | [],[],[],_::_,_,_,_,_,_,_,_,h,_,_,_=>h.elim
 | [],[],_::_,_,_,_,_,_,_,_,_,h,_,_,_=>h.elim
 | _::_,_::_,[],_,_,_,_,_,_,_,_,h,_,_,_=>h.elim
 | _::_,_::_,_::_,[],_,_,_,_,_,_,_,h,_,_,_=>h.elim
theorem zgE {is:List Nat} (hK:∀ j∈K,j∉is) (h:HEs A cf es env fun ts env1=>ts.length<=1000000/\∃ env2,setE is ts env1=some env2/\Q .nx env2):HSt cf K (.asg (.tup is) (.tup es)) env Q:=fun sg M nss X S=>by
 obtain ⟨vs,M',ts,mss,env',nss',e1,R,hl,env2,q1,q2⟩:=h sg M nss X S
 obtain ⟨nss2,sg2,e2,P,hP,k2⟩:=zhR R.sr R.or R.nd R.mx q1
 have hlen:vs.length<=sizeLine:=by
  have key:∀ {ts:List OT} {vs:List PV} {ms:List (List Nat)} {B:Nat->Prop},ORs B M' ts vs ms->ts.length=vs.length:=by
   intro ts
   induction ts with
   | nil=>intro vs ms B h;cases vs<;>cases ms<;>first | rfl | exact h.elim
   | cons t ts ih=>intro vs ms B h;cases vs<;>cases ms<;>first | exact h.elim | simp [ih h.2]
  rw [<- key R.or]
  have:sizeLine=16777216:=rfl
  omega
 refine ⟨.nx sg2,M',.nx,sg2,env2,nss2,[],zjp (x:=.tup vs) (by rw [evE,e1];simp only [];rw [if_pos hlen]) e2,⟨P.mono fun n h=>by simpa using h,by simp,by simp,fun n hn=>?_,R.fr,R.le,fun j hj=>k2 j (hK j hj)⟩,⟨rfl,rfl⟩,q2⟩
 rcases hn with hn | hn
 ·cases hn
 ·rcases hP n hn with w | w
  ·exact R.nw n (.inr w)
  ·exact R.nw n (.inl w)
def zjn:List Nat->List D->Env->Option Env
 | [],[],env=>some env
 | i::is,t::ts,env=>zjn is ts (env.set i (some (.v t)))
 | _,_,_=>none
def zfl:Tg->D->Env->Option Env
 | .name i,d,env=>some (env.set i (some (.v d)))
 | .tup is,.tup ds,env=>zjn is ds env
 | .tup is,.lst ds,env=>zjn is ds env
 | .nst i is,.tup [d,.tup ds],env=>zjn is ds (env.set i (some (.v d)))
 | .nst i is,.tup [d,.lst ds],env=>zjn is ds (env.set i (some (.v d)))
 | _,_,_=>none
def tgI:Tg->List Nat
 | .name i=>[i]
 | .tup is=>is
 | .nst i is=>i::is
theorem zdr:∀ {is:List Nat} {ds:List D} {vs:List PV} {sg:Sg} {M:Mm} {env env':Env} {nss:List (List Nat)} {X:Nat->Prop},SR sg M env nss X->Rps (Bd nss X) M vs ds->zjn is ds env=some env' ->
  ∃ nss' sg',zx is vs sg=some sg'/\SR sg' M env' nss' X/\(∀ n∈nss'.flatten,n∈nss.flatten)/\∀ j,j∉is->sg'[j]? = sg[j]?
 | [],[],_,sg,M,env,env',nss,X,S,.nil,e=>by
  cases e
  exact ⟨nss,sg,rfl,S,fun n hn=>hn,fun _ _=>rfl⟩
 | i::is,t::ts,_,sg,M,env,env',nss,X,S,.cons h1 h2,e=>by
  obtain ⟨nss1,S1,hS1⟩:=S.putV h1 i
  obtain ⟨nss2,sg2,e2,S2,hS2,k2⟩:=zdr (is:=is) S1 (h2.step fun n o a b=>⟨fun z=>a (z.imp (hS1 n) id),b⟩) e
  refine ⟨nss2,sg2,e2,S2,fun n hn=>hS1 n (hS2 n hn),fun j hj=>?_⟩
  rw [k2 j (fun z=>hj (by simp [z])),List.getElem?_set_ne (fun z=>hj (by simp [z]))]
 | [],_::_,_,_,_,_,_,_,_,_,_,e=>by cases e
 | _::_,[],_,_,_,_,_,_,_,_,_,e=>by cases e
theorem zih {t:Tg} {d:D} {v:PV} {sg:Sg} {M:Mm} {env env':Env} {nss:List (List Nat)} {X:Nat->Prop} (S:SR sg M env nss X) (h:Rp (Bd nss X) M v d) (e:zfl t d env=some env') :
  ∃ nss' sg',tgP t M v sg=some sg'/\SR sg' M env' nss' X/\(∀ n∈nss'.flatten,n∈nss.flatten)/\∀ j,j∉tgI t->sg'[j]? = sg[j]?:=by
 cases t with
 | name i =>
  cases e
  obtain ⟨nss1,S1,hS1⟩:=S.putV h i
  exact ⟨nss1,_,rfl,S1,hS1,fun j hj=>List.getElem?_set_ne fun z=>hj (by simp [tgI,z])⟩
 | tup is =>
  cases d with
  | tup ds=>cases h with | tup r=>exact zdr S r e
  | lst ds =>
   cases h with
   | lst a1 a2 r =>
    obtain ⟨nss',sg',e1,e2⟩:=zdr S r (show zjn is ds env=some env' from e)
    exact ⟨nss',sg',by simp only [tgP,zl,a2,Option.bind_some];exact e1,e2⟩
  | _=>cases e
 | nst i is =>
  have key:∀ (ds:List D),d=.tup ds->(∃ d1 d2,ds=[d1,d2]/\((∃ es,d2=.tup es/\zjn is es (env.set i (some (.v d1)))=some env')\/∃ es,d2=.lst es/\zjn is es (env.set i (some (.v d1)))=some env')):=by
   intro ds q
   subst q
   match ds,e with
   | [d1,.tup d2],e=>exact ⟨d1,_,rfl,.inl ⟨d2,rfl,e⟩⟩
   | [d1,.lst d2],e=>exact ⟨d1,_,rfl,.inr ⟨d2,rfl,e⟩⟩
  cases d with
  | tup ds =>
   obtain ⟨d1,d2,rfl,e2⟩:=key ds rfl
   cases h with
   | tup r =>
    cases r with
    | cons a r =>
     cases r with
     | cons b r =>
      cases r
      rcases e2 with ⟨es,rfl,e2⟩ | ⟨es,rfl,e2⟩
      ·cases b with
       | tup rr =>
        obtain ⟨nss1,S1,hS1⟩:=S.putV a i
        obtain ⟨nss2,sg2,e3,S2,hS2,k2⟩:=zdr (is:=is) S1 (rr.step fun n o a b=>⟨fun z=>a (z.imp (hS1 n) id),b⟩) e2
        refine ⟨nss2,sg2,e3,S2,fun n hn=>hS1 n (hS2 n hn),fun j hj=>?_⟩
        rw [k2 j (fun z=>hj (by simp [tgI,z])),List.getElem?_set_ne (fun z=>hj (by simp [tgI,z]))]
      ·cases b with
       | lst a1 a2 rr =>
        obtain ⟨nss1,S1,hS1⟩:=S.putV a i
        obtain ⟨nss2,sg2,e3,S2,hS2,k2⟩:=zdr (is:=is) S1 (rr.step fun n o a b=>⟨fun z=>a (z.imp (hS1 n) id),b⟩) e2
        refine ⟨nss2,sg2,by simp only [tgP,zl,a2,Option.bind_some];exact e3,S2,fun n hn=>hS1 n (hS2 n hn),fun j hj=>?_⟩
        rw [k2 j (fun z=>hj (by simp [tgI,z])),List.getElem?_set_ne (fun z=>hj (by simp [tgI,z]))]
  | _=>cases e
theorem zhC (h:HE A cf c env fun t env1=>(t=.v (.bl true)/\HSs cf K ss env1 Q)\/(t=.v (.bl false)/\HSs cf K ss2 env1 Q)):HSt cf K (.iff c ss ss2) env Q:=fun sg M nss X S=>by
 obtain ⟨v,M1,t,ns,env1,nss1,e1,R,q⟩:=h sg M nss X S
 rcases q with ⟨rfl,q⟩ | ⟨rfl,q⟩
 ·cases R.or.1.1
  obtain ⟨fl,M2,o,sg2,env2,nss2,ms,e2,R2,F2,q2⟩:=q sg M1 nss1 X R.dropped
  exact ⟨fl,M2,o,sg2,env2,nss2,ms,s_ifT e1 e2,(zgM R).seq R2,F2,q2⟩
 ·cases R.or.1.1
  obtain ⟨fl,M2,o,sg2,env2,nss2,ms,e2,R2,F2,q2⟩:=q sg M1 nss1 X R.dropped
  exact ⟨fl,M2,o,sg2,env2,nss2,ms,s_ifF e1 e2,(zgM R).seq R2,F2,q2⟩
end
end Mp.V
namespace Mp.V
open PySem L2
def zgq (B:Nat->Prop) (M:Mm):Src->List D->Prop
 | .tup xs,ds=>Rps B M xs ds
 | .lst n,ds=>∃ xs,¬ B n/\M[n]? = some (.lst xs)/\Rps B M xs ds
 | .cl ns,ds=>ds=ns.map .int
 | .str z,ds=>ds=z.cps.toList.map fun c=>.str ⟨#[c]⟩
 | .rng lo n,ds=>ds=(List.range n).map fun (i:Nat)=>.int (lo+i)
 | .rngc lo c n,ds=>ds=(List.range n).map fun (i:Nat)=>.int (lo+i*c)
 | .en s,ds=>∃ es,zgq B M s es/\ds=es.zipIdx.map fun q=>.tup [.int (q.2:Nat),q.1]
 | .zip s t,ds=>∃ es fs,zgq B M s es/\zgq B M t fs/\ds=List.zipWith (fun a b=>.tup [a,b]) es fs
theorem zgq.step {B B':Nat->Prop} {M M':Mm} (h:Stp B B' M M'):∀ {s:Src} {ds:List D},zgq B M s ds->zgq B' M' s ds
 | .tup _,_,r=>Rps.step h r
 | .lst _,_,⟨xs,a,b,c⟩=>⟨xs,(h _ _ a b).1,(h _ _ a b).2,c.step h⟩
 | .cl _,_,r=>r
 | .str _,_,r=>r
 | .rng _ _,_,r=>r
 | .rngc _ _ _,_,r=>r
 | .en _,_,⟨es,a,b⟩=>⟨es,zgq.step h a,b⟩
 | .zip _ _,_,⟨es,fs,a,b,c⟩=>⟨es,fs,zgq.step h a,zgq.step h b,c⟩
def OpR (B:Nat->Prop) (M:Mm):Option PV->Option D->Prop
 | none,none=>True
 | some x,some d=>Rp B M x d
 | _,_=>False
theorem zgq.get {B:Nat->Prop} {M:Mm}:∀ {s:Src} {ds:List D},zgq B M s ds->∀ i:Nat,∃ o,s.get M i=some o/\OpR B M o ds[i]?
 | .tup xs,ds,r,i=>by
  refine ⟨xs[i]?,rfl,?_⟩
  cases e:ds[i]? with
  | none=>rw [Rps.none r e];trivial
  | some d=>obtain ⟨x,h1,h2⟩:=Rps.get r e;rw [h1];exact h2
 | .lst n,ds,⟨xs,a,b,r⟩,i=>by
  refine ⟨xs[i]?,by simp only [Src.get,zl,b];rfl,?_⟩
  cases e:ds[i]? with
  | none=>rw [Rps.none r e];trivial
  | some d=>obtain ⟨x,h1,h2⟩:=Rps.get r e;rw [h1];exact h2
 | .cl ns,ds,r,i=>by
  subst r
  refine ⟨_,rfl,?_⟩
  rw [List.getElem?_map]
  cases ns[i]? with
  | none=>trivial
  | some j=>exact .int j
 | .str z,ds,r,i=>by
  subst r
  refine ⟨_,rfl,?_⟩
  rw [List.getElem?_map,Array.getElem?_toList]
  cases z.cps[i]? with
  | none=>trivial
  | some j=>exact .str _
 | .rng lo n,ds,r,i=>by
  subst r
  refine ⟨_,rfl,?_⟩
  rw [List.getElem?_map]
  by_cases h:i<n
  ·rw [if_pos h,List.getElem?_range h];exact .int _
  ·rw [if_neg h,List.getElem?_eq_none (by simp;omega)];trivial
 | .rngc lo c n,ds,r,i=>by
  subst r
  refine ⟨_,rfl,?_⟩
  rw [List.getElem?_map]
  by_cases h:i<n
  ·rw [if_pos h,List.getElem?_range h];exact .int _
  ·rw [if_neg h,List.getElem?_eq_none (by simp;omega)];trivial
 | .en s,ds,⟨es,a,b⟩,i=>by
  subst b
  obtain ⟨o,h1,h2⟩:=zgq.get a i
  refine ⟨_,by simp only [Src.get,h1];rfl,?_⟩
  rw [List.getElem?_map,List.getElem?_zipIdx]
  cases e:es[i]? with
  | none=>rw [e] at h2;cases o with
   | none=>trivial
   | some x=>exact h2.elim
  | some d=>rw [e] at h2;cases o with
   | none=>exact h2.elim
   | some x =>
    show Rp B M (.tup [.int i,x]) (.tup [.int ((0+i:Nat):Int),d])
    rw [Nat.zero_add]
    exact .tup (.cons (.int _) (.cons h2 .nil))
 | .zip s t,ds,⟨es,fs,a,b,c⟩,i=>by
  subst c
  obtain ⟨o,h1,h2⟩:=zgq.get a i
  obtain ⟨p,h3,h4⟩:=zgq.get b i
  rw [List.getElem?_zipWith]
  cases e:es[i]? with
  | none=>rw [e] at h2;cases o with
   | none=>exact ⟨none,by simp only [Src.get,h1,h3],by simp;trivial⟩
   | some x=>exact h2.elim
  | some d=>rw [e] at h2;cases o with
   | none=>exact h2.elim
   | some x =>
    cases e2:fs[i]? with
    | none=>rw [e2] at h4;cases p with
     | none=>exact ⟨none,by simp only [Src.get,h1,h3],trivial⟩
     | some y=>exact h4.elim
    | some f=>rw [e2] at h4;cases p with
     | none=>exact h4.elim
     | some y=>exact ⟨some (.tup [x,y]),by simp only [Src.get,h1,h3],show Rp B M (.tup [x,y]) (.tup [d,f]) from .tup (.cons h2 (.cons h4 .nil))⟩
def HI (A:Bool) (cf:CF) (it:It) (env:Env) (Q:List D->Env->Prop):Prop:=∀ (sg:Sg) (M:Mm) (nss:List (List Nat)) (X:Nat->Prop),SR sg M env nss X->∃ s M' xs env' nss',evI cf it sg M=some (s,M')/\ERs A sg M env nss X [] M' [] [] env' nss'/\zgq (Bd nss' X) M' s xs/\Q xs env'
def zjF:D->Option (List D)
 | .tup xs=>some xs
 | .lst xs=>some xs
 | .cl ns=>some (ns.map .int)
 | .str z=>some (z.cps.toList.map fun c=>.str ⟨#[c]⟩)
 | .ptup xs=>some xs
 | _=>none
section
variable {A:Bool} {cf:CF} {K:List Nat} {env:Env} {e a b c:E} {es:Es} {ss:Ss}
theorem zh5 {B:Nat->Prop} {M:Mm} {x:PV} {d:D} {xs:List D} (h:Rp B M x d) (e:zjF d=some xs):∃ s,zam M x=some s/\zgq B M s xs/\(s.isL=(match d with | .lst _=>true | .cl _=>true | _=>false))/\(s.isT=(match d with | .tup _=>true | .ptup _=>true | _=>false)):=by
 cases h with
 | cl ns=>cases e;exact ⟨.cl ns,rfl,rfl,rfl,rfl⟩
 | str z=>cases e;exact ⟨.str z,rfl,rfl,rfl,rfl⟩
 | tup r=>cases e;exact ⟨.tup _,rfl,r,rfl,rfl⟩
 | ptup r=>cases e;exact ⟨.tup _,rfl,r,rfl,rfl⟩
 | @lst n ys ds a b r=>cases e;exact ⟨.lst n,by simp only [zam,zl,b];rfl,⟨_,a,b,r⟩,rfl,rfl⟩
 | _=>cases e
theorem zh9 {sg:Sg} {M M':Mm} {nss nss':List (List Nat)} {X:Nat->Prop} {vs:List PV} {ts:List OT} {mss:List (List Nat)} {env':Env} (R:ERs A sg M env nss X vs M' ts mss env' nss'):ERs A sg M env nss X [] M' [] [] env' nss' :=
 ⟨R.sr.mono fun n hn=>.inl (by simpa using hn),trivial,by simp,by simp,fun n hn=>R.nw n (.inr (by simpa using hn)),R.fr,R.le,R.al⟩
theorem zdO {Q:List D->Env->Prop} (h:HE A cf e env fun t env1=>∃ d xs,t.toD=some d/\zjF d=some xs/\Q xs env1):HI A cf (.seq e) env Q:=fun sg M nss X S=>by
 obtain ⟨v,M',t,ns,env',nss',e1,R,d,xs,h1,h2,h3⟩:=h sg M nss X S
 have r:=R.frees (ds:=[d]) (by simp [h1])
 cases r with
 | cons r _ =>
  obtain ⟨s,q1,q2,_⟩:=zh5 r h2
  exact ⟨s,M',xs,env',nss',by rw [evI,e1];simp [q1],zh9 R,q2,h3⟩
theorem i_zip {Q:List D->Env->Prop} (h:HE A cf a env fun t env1=>HE A cf b env1 fun u env2=>∃ d f xs ys,t.toD=some d/\u.toD=some f/\zjF d=some xs/\zjF f=some ys/\(match d,f with | .tup _,.tup _=>true | .tup _,.lst _=>true | .lst _,.lst _=>true | .lst _,.cl _=>true | .cl _,.lst _=>true | .ptup _,.tup _=>true | .ptup _,.ptup _=>true | _,_=>false)=true/\Q (List.zipWith (fun a b=>.tup [a,b]) xs ys) env2):HI A cf (.zip a b) env Q:=fun sg M nss X S=>by
 obtain ⟨vs,M',ts,mss,env',nss',e1,R,t,u,rfl,d,f,xs,ys,h1,h2,h3,h4,h5,h6⟩:=zg6 h sg M nss X S
 obtain ⟨v,M1,w,q1,q2,rfl⟩:=zeA e1
 have r:=R.frees (ds:=[d,f]) (by simp [h1,h2])
 cases r with
 | cons r r2 =>
  cases r2 with
  | cons r2 _ =>
   obtain ⟨s,k1,k2,k4,k5⟩:=zh5 r h3
   obtain ⟨s',l1,l2,l4,l5⟩:=zh5 r2 h4
   refine ⟨.zip s s',M',_,env',nss',?_,zh9 R,⟨xs,ys,k2,l2,rfl⟩,h6⟩
   have:((s.isL && s'.isL) || (s.isT && s'.isT) || (s.isT && s'.isL))=true:=by
    rw [k4,k5,l4,l5]
    cases d<;>cases f<;>first | rfl | (simp at h5)
   rw [evI,q1];simp only [q2,k1,l1];rw [if_pos this]
theorem ziS {Q:List D->Env->Prop} (h:HE A cf e env fun t env1=>∃ j,t=.v (.int j)/\zbQ j=true/\Q ((List.range j.toNat).map fun (i:Nat)=>.int (0+(i:Int))) env1):HI A cf (.rng1 e) env Q:=fun sg M nss X S=>by
 obtain ⟨v,M',t,ns,env',nss',e1,R,j,rfl,h2,h3⟩:=h sg M nss X S
 cases R.or.1.1
 exact ⟨.rng 0 j.toNat,M',_,env',nss',by rw [evI,e1];simp [h2],zh9 R,rfl,h3⟩
def HF (cf:CF) (K:List Nat) (t:Tg) (b:Ss) (xs:List D) (env:Env) (Q:Flo->Env->Prop):Prop:=∀ (sg:Sg) (M:Mm) (nss:List (List Nat)) (X:Nat->Prop) (s:Src) (all:List D) (i m:Nat),SR sg M env nss X->zgq (Bd nss X) M s all->all.drop i=xs->xs.length<m->∃ fl M' o sg' env' nss' ns,zgy s (tgP t) (fun sg M=>zM cf b sg M) m i sg M=some (fl,M')/\SRs K sg M nss X sg' M' env' nss' ns/\FlR (Bd nss' fun n=>X n\/n∈ns) M' o fl sg' ns/\Q o env'
theorem f_nil {t:Tg} {Q:Flo->Env->Prop} (q:Q .nx env):HF cf K t ss [] env Q:=fun sg M nss X s all i m S D e hm=>by
 obtain ⟨o,h1,h2⟩:=D.get i
 have:all[i]? = none:=by rw [List.getElem?_eq_none_iff];simpa using e
 rw [this] at h2
 cases o with
 | some x=>exact h2.elim
 | none =>
  cases m with
  | zero=>simp at hm
  | succ m=>exact ⟨.nx sg,M,.nx,sg,env,nss,[],by simp only [zgy,h1],srs_id S,⟨rfl,rfl⟩,q⟩
def fthn (Q:Flo->Env->Prop) (k:Env->Prop):Flo->Env->Prop
 | .nx,env=>k env
 | .ct,env=>k env
 | .brk,env=>Q .nx env
 | .ret t,env=>Q (.ret t) env
theorem zi1 {t:Tg} {d:D} {ds:List D} {env1:Env} {Q:Flo->Env->Prop} (hK:∀ j∈K,j∉tgI t) (hb:zfl t d env=some env1) (h:HSs cf K ss env1 (fthn Q fun env2=>HF cf K t ss ds env2 Q)):HF cf K t ss (d::ds) env Q:=fun sg M nss X s all i m S D e hm=>by
 obtain ⟨o,h1,h2⟩:=D.get i
 have hd:all[i]? = some d:=by
  have:=congrArg List.head? e
  rwa [List.head?_drop] at this
 have ht:all.drop (i+1)=ds:=by rw [<- List.tail_drop,e];rfl
 rw [hd] at h2
 cases o with
 | none=>exact h2.elim
 | some x =>
  cases m with
  | zero=>simp at hm
  | succ m =>
   obtain ⟨nss1,sg1,e1,S1,hS1,k1⟩:=zih S h2 hb
   have st0:Stp (Bd nss X) (Bd nss1 X) M M:=fun n o a b=>⟨fun z=>a (z.imp (hS1 n) id),b⟩
   obtain ⟨fl,M2,o,sg2,env2,nss2,ns,e2,R2,F2,q⟩:=h sg1 M nss1 X S1
   have R2':SRs K sg M nss X sg2 M2 env2 nss2 ns:=⟨R2.sr,R2.nd,R2.mx,fun n hn=>(R2.nw n hn).imp (hS1 n) id,fun i hi hn=>R2.fr i hi fun z=>hn (hS1 i z),R2.le,fun j hj=>(R2.kp j hj).trans (k1 j (hK j hj))⟩
   have go:∀ sg2',fl=.nx sg2'\/fl=.ct sg2'->sg2'=sg2->ns=[]->HF cf K t ss ds env2 Q->∃ fl M' o sg' env' nss' ns,zgy s (tgP t) (fun sg M=>zM cf ss sg M) (m+1) i sg M=some (fl,M')/\SRs K sg M nss X sg' M' env' nss' ns/\FlR (Bd nss' fun n=>X n\/n∈ns) M' o fl sg' ns/\Q o env':=by
    rintro sg2' hf rfl rfl hF
    obtain ⟨fl3,M3,o3,sg3,env3,nss3,ns3,e3,R3,F3,q3⟩:=hF sg2' M2 nss2 X s all (i+1) m R2.nil (D.step fun n o a b=>⟨(R2'.stp n o a b).1,(R2'.stp n o a b).2⟩) ht (by simp at hm;omega)
    refine ⟨fl3,M3,o3,sg3,env3,nss3,ns3,?_,R2'.seq R3,F3,q3⟩
    rcases hf with rfl | rfl<;>simp only [zgy,h1,e1,e2,e3]
   cases o with
   | nx=>cases fl<;>first | exact F2.elim | (obtain ⟨a,b⟩:=F2;exact go _ (.inl rfl) a b q)
   | ct=>cases fl<;>first | exact F2.elim | (obtain ⟨a,b⟩:=F2;exact go _ (.inr rfl) a b q)
   | brk =>
    cases fl<;>first | exact F2.elim | skip
    rename_i s'
    obtain ⟨rfl,rfl⟩:=F2
    exact ⟨.nx s',M2,.nx,s',env2,nss2,[],by simp only [zgy,h1,e1,e2],R2',⟨rfl,rfl⟩,q⟩
   | ret u =>
    cases fl<;>first | exact F2.elim | skip
    exact ⟨_,M2,.ret u,sg2,env2,nss2,ns,by simp only [zgy,h1,e1,e2],R2',F2,q⟩
theorem f_inv {t:Tg} {all:List D} {Q:Flo->Env->Prop} (hK:∀ j∈K,j∉tgI t) (I:Nat->Env->Prop)
  (turn:∀ (i:Nat) (d:D) (env:Env),all[i]? = some d->I i env->∃ env1,zfl t d env=some env1/\HSs cf K ss env1 (fthn Q (I (i+1))))
  (stop:∀ env,I all.length env->Q .nx env):∀ env,I 0 env->HF cf K t ss all env Q:=by
 have key:∀ (xs:List D) (i:Nat) (env:Env),all.drop i=xs->i<=all.length->I i env->HF cf K t ss xs env Q:=by
  intro xs
  induction xs with
  | nil =>
   intro i env e hi h
   have:i=all.length:=by
    have:=congrArg List.length e
    simp at this;omega
   subst this
   exact f_nil (stop env h)
  | cons d ds ih =>
   intro i env e hi h
   have hd:all[i]? = some d:=by
    have:=congrArg List.head? e
    rwa [List.head?_drop] at this
   have ht:all.drop (i+1)=ds:=by rw [<- List.tail_drop,e];rfl
   obtain ⟨env1,h1,h2⟩:=turn i d env hd h
   refine zi1 hK h1 (h2.mono fun o env2 q=>?_)
   cases o with
   | nx=>exact ih (i+1) env2 ht (by have:=(List.getElem?_eq_some_iff.mp hd).1;omega) q
   | ct=>exact ih (i+1) env2 ht (by have:=(List.getElem?_eq_some_iff.mp hd).1;omega) q
   | brk=>exact q
   | ret u=>exact q
 exact fun env h=>key all 0 env rfl (Nat.zero_le _) h
theorem zks {t:Tg} {it:It} {Q:Flo->Env->Prop} (h:HI A cf it env fun xs env1=>xs.length<900000/\HF cf K t ss xs env1 Q):HSt cf K (.for_ t it ss) env Q:=fun sg M nss X S=>by
 obtain ⟨s,M1,xs,env1,nss1,e1,R1,D,hl,q⟩:=h sg M nss X S
 obtain ⟨fl,M2,o,sg2,env2,nss2,ns,e2,R2,F2,q2⟩:=q sg M1 nss1 X s xs 0 zdC (R1.sr.mono fun n hn=>.inl hn) D rfl (by unfold zdC;omega)
 exact ⟨fl,M2,o,sg2,env2,nss2,ns,by rw [evS,e1];exact e2,(zgM R1).seq R2,F2,q2⟩
end
end Mp.V
namespace Mp.V
open PySem L2
def zcd (env:Env):List Nat->Env
 | []=>env
 | i::is=>zcd (env.set i none) is
def zke:List Nat->Env->Option (List OT)
 | [],_=>some []
 | i::is,env=>match env[i]?,zke is env with | some (some t),some ts=>some (t::ts) | _,_=>none
theorem set_in {nss:List (List Nat)} {i:Nat} {us:List Nat} (h:nss[i]? = some us) {n:Nat} (hn:n∈nss.flatten):n∈us\/n∈(nss.set i []).flatten:=by
 obtain ⟨l1,l2,e1,e2⟩:=zcv h
 rw [e2]
 rw [e1] at hn
 simp only [List.flatten_append,List.flatten_cons,List.mem_append] at hn ⊢
 grind
theorem getE_set {is:List Nat} {env:Env} {i:Nat} {o:Option OT} (h:i∉is):zke is (env.set i o)=zke is env:=by
 induction is with
 | nil=>rfl
 | cons j js ih =>
  have hj:i≠j:=fun z=>h (by simp [z])
  simp only [zke,List.getElem?_set_ne hj,ih fun z=>h (by simp [z])]
theorem zfL:∀ {is:List Nat} {ts:List OT} {sg:Sg} {M:Mm} {env:Env} {nss:List (List Nat)} {X:Nat->Prop},SR sg M env nss X->is.Nodup->zke is env=some ts ->
  ∃ vs ms nss',zx is vs sg=some sg/\is.map (fun i=>sg[i]?)=vs.map (fun v=>some (some v))/\ORs (Bd nss X) M ts vs ms/\ms.flatten.Nodup/\(∀ n∈ms.flatten,n∈nss.flatten)/\SR sg M (zcd env is) nss' (fun n=>X n\/n∈ms.flatten)/\(∀ n∈nss'.flatten,n∈nss.flatten/\n∉ms.flatten)/\∀ n∈nss.flatten,n∈ms.flatten\/n∈nss'.flatten
 | [],ts,sg,M,env,nss,X,S,_,e=>by
  cases e
  exact ⟨[],[],nss,rfl,rfl,trivial,by simp,by simp,S.mono fun n hn=>by simpa using hn,fun n hn=>⟨hn,by simp⟩,fun n hn=>.inr hn⟩
 | i::is,ts,sg,M,env,nss,X,S,nd,e=>by
  rw [zke] at e
  split at e
  ·rename_i t ts' h1 h2
   cases e
   rw [List.nodup_cons] at nd
   obtain ⟨x,us,k1,k2,k3⟩:=S.at_ i t h1
   have W:=S.wipeX k2 (some x)
   rw [zfS k1] at W
   obtain ⟨vs,ms,nss',a1,a2,a3,a4,a5,a6,a7,a8⟩:=zfL W nd.2 (by rw [getE_set nd.1];exact h2)
   have hf:∀ n,n∈(us::ms).flatten↔n∈us\/n∈ms.flatten:=fun n=>by simp
   refine ⟨x::vs,us::ms,nss',?_,by simp [k1,a2],⟨k3,a3.step ⟨fun n o p q=>⟨fun z=>p ?_,q⟩,fun n _ o h=>h⟩⟩,?_,fun n hn=>?_,a6.mono fun n hn=>?_,fun n hn=>?_,fun n hn=>?_⟩
   ·rw [zx,zfS k1];exact a1
   ·rcases z with z | z
    ·rcases set_in k2 z with w | w
     ·exact .inr (.inr w)
     ·exact .inl w
    ·exact .inr (.inl z)
   ·rw [List.flatten_cons,List.nodup_append]
    exact ⟨zkQ k2 S.nd,a4,fun p hp q hq z=>by subst z;exact (zbl k2 S.nd (a5 p hq)).2 hp⟩
   ·rcases (hf n).mp hn with q | q
    ·exact zdY k2 n q
    ·exact (zbl k2 S.nd (a5 n q)).1
   ·rcases hn with q | q
    ·exact .inl (.inl q)
    ·rcases (hf n).mp q with w | w
     ·exact .inl (.inr w)
     ·exact .inr w
   ·obtain ⟨b1,b2⟩:=a7 n hn
    obtain ⟨b3,b4⟩:=zbl k2 S.nd b1
    exact ⟨b3,fun z=>((hf n).mp z).elim b4 b2⟩
   ·rcases set_in k2 hn with q | q
    ·exact .inl ((hf n).mpr (.inl q))
    ·rcases a8 n q with w | w
     ·exact .inl ((hf n).mpr (.inr w))
     ·exact .inr w
  ·cases e
def ioOf (io:List Nat) (ws:List PV) (vs:List PV):Prop:=io.map (fun i=>ws[i]?)=vs.map some
def Call (cf:CF) (f:Nat) (io:List Nat) (args:List OT) (Q:OT->List OT->Prop):Prop :=
 ∀ (M:Mm) (ws:List PV) (mss:List (List Nat)) (X:Nat->Prop),ORs (fun n=>n∈mss.flatten\/X n) M args ws mss->mss.flatten.Nodup->(∀ n∈mss.flatten,¬ X n)->(∀ n,X n->n<M.length) ->
  ∃ v M' t ns fin vs ms',cf f ws M=some (v,M')/\ioOf io ws vs/\ORs (fun n=>(n∈ms'.flatten\/n∈ns)\/X n) M' fin vs ms'/\OR (fun n=>(n∈ms'.flatten\/n∈ns)\/X n) M' t v ns/\(ms'.flatten++ns).Nodup/\(∀ n,n∈ms'.flatten\/n∈ns->¬ X n) /\
   (∀ n,n∈ms'.flatten\/n∈ns->n∈mss.flatten\/M.length<=n)/\(∀ i,i<M.length->i∉mss.flatten->M'[i]? = M[i]?)/\M.length<=M'.length/\Q t fin
theorem Call.mono {cf:CF} {f:Nat} {io:List Nat} {args:List OT} {Q Q':OT->List OT->Prop} (h:Call cf f io args Q) (hq:∀ t fin,Q t fin->Q' t fin):Call cf f io args Q':=fun M ws mss X h1 h2 h3 h4=>by
 obtain ⟨v,M',t,ns,fin,vs,ms',a1,a2,a3,a4,a5,a6,a7,a8,a9,a10⟩:=h M ws mss X h1 h2 h3 h4
 exact ⟨v,M',t,ns,fin,vs,ms',a1,a2,a3,a4,a5,a6,a7,a8,a9,hq _ _ a10⟩
theorem ziw {B:Nat->Prop} {M:Mm} (z:Nat):∀ {args:List OT} {ws:List PV} {mss:List (List Nat)},ORs B M args ws mss->(ws.map some++List.replicate z none).length=(args.map some++List.replicate z none).length/\(mss++List.replicate z []).length=(args.map some++List.replicate z none).length/\mss.length=args.length /\
  (∀ (i:Nat) (t:OT),(args.map some++List.replicate z none)[i]? = some (some t)->∃ x ns,(ws.map some++List.replicate z none)[i]? = some (some x)/\(mss++List.replicate z [])[i]? = some ns/\OR B M t x ns) /\
  (∀ (i:Nat),(args.map some++List.replicate z none)[i]? = some none->(mss++List.replicate z ([]:List Nat))[i]? = some [])
 | [],[],[],_=>by
  refine ⟨by simp,by simp,rfl,fun i t h=>?_,fun i h=>?_⟩
  ·simp [List.getElem?_replicate] at h
  ·simp [List.getElem?_replicate] at h ⊢;exact h
 | t::ts,v::vs,m::ms,⟨a,b⟩=>by
  obtain ⟨h1,h2,h3,h4,h5⟩:=ziw z b
  refine ⟨by simpa using h1,by simpa using h2,by simp [h3],fun i t h=>?_,fun i h=>?_⟩
  ·cases i with
   | zero=>simp at h;subst h;exact ⟨v,m,rfl,rfl,a⟩
   | succ i=>exact h4 i t (by simpa using h)
  ·cases i with
   | zero=>simp at h
   | succ i=>exact h5 i (by simpa using h)
 | [],[],_::_,h=>h.elim
 | [],_::_,_,h=>h.elim
 | _::_,[],_,h=>h.elim
 | _::_,_::_,[],h=>h.elim
def retQ (io:List Nat) (Q:OT->List OT->Prop):Flo->Env->Prop
 | .ret t,env=>∃ fin,zke io env=some fin/\Q t fin
 | .nx,env=>∃ fin,zke io env=some fin/\Q (.v .non) fin
 | _,_=>False
theorem map_io {ws:List PV} {sg:Sg} {z:Nat}:∀ {io:List Nat} {vs:List PV},io.map (fun i=>sg[i]?)=vs.map (fun v=>some (some v))->(∀ j∈io,sg[j]? = (ws.map some++List.replicate z none)[j]?)->(∀ j∈io,j<ws.length)->io.map (fun i=>ws[i]?)=vs.map some
 | [],[],_,_,_=>rfl
 | [],_::_,h,_,_=>by simp at h
 | _::_,[],h,_,_=>by simp at h
 | i::is,v::vs,h,hk,hlt=>by
  simp only [List.map_cons,List.cons.injEq] at h ⊢
  refine ⟨?_,map_io h.2 (fun j hj=>hk j (by simp [hj])) (fun j hj=>hlt j (by simp [hj]))⟩
  have e:=hk i (by simp)
  have hi:=hlt i (by simp)
  rw [h.1,List.getElem?_append_left (by simpa using hi),List.getElem?_map] at e
  rw [List.getElem?_eq_getElem hi] at e ⊢
  simp at e
  rw [e]
theorem zaC {tab:Nat->Option Dx} {k f:Nat} {d:Df} {io:List Nat} {args:List OT} {Q:OT->List OT->Prop} (hf:tab f=some (.fn d)) (hl:args.length=d.np) (hio:io.Nodup) (hlt:∀ j∈io,j<d.np)
  (h:HSs (cfN tab k) io d.body (args.map some++List.replicate (d.ns-d.np) none) (retQ io Q)):Call (cfN tab (k+1)) f io args Q:=fun M ws mss X hO nd hx hX=>by
 obtain ⟨b1,b2,b3,b4,b5⟩:=ziw (d.ns-d.np) hO
 have hfl:∀ n,n∈(mss++List.replicate (d.ns-d.np) ([]:List Nat)).flatten↔n∈mss.flatten:=fun n=>by simp
 have hnd:(mss++List.replicate (d.ns-d.np) ([]:List Nat)).flatten.Nodup:=by
  rw [List.flatten_append];simpa using nd
 have S:SR (ws.map some++List.replicate (d.ns-d.np) none) M (args.map some++List.replicate (d.ns-d.np) none) (mss++List.replicate (d.ns-d.np) []) X :=
  ⟨b1,b2,fun i t e=>by
   obtain ⟨x,ns,c1,c2,c3⟩:=b4 i t e
   exact ⟨x,ns,c1,c2,c3.step ⟨fun n o p q=>⟨fun z=>p (z.imp (hfl n).mp id),q⟩,fun n _ o h=>h⟩⟩,b5,hnd,fun n hn=>hx n ((hfl n).mp hn),hX⟩
 have hwl:ws.length=d.np:=by
  have:∀ {args:List OT} {ws:List PV} {mss:List (List Nat)} {B:Nat->Prop},ORs B M args ws mss->ws.length=args.length:=by
   intro args
   induction args with
   | nil=>intro ws mss B h;cases ws<;>cases mss<;>first | rfl | exact h.elim
   | cons t ts ih=>intro ws mss B h;cases ws<;>cases mss<;>first | exact h.elim | simp [ih h.2]
  rw [this hO,hl]
 obtain ⟨fl,M',o,sg',env',nss',ns,e1,R,F,q⟩:=h _ M _ X S
 have fin:∀ t fin,zke io env'=some fin->Q t fin->(∀ v,OR (Bd nss' fun n=>X n\/n∈ns) M' t v ns->(match (some (fl,M'):Option (Fl × Mm)) with | some (.ret v,M1)=>some (v,M1) | some (.nx _,M1)=>some (.non,M1) | _=>none)=some (v,M') ->
   ∃ v M' t ns fin vs ms',cfN tab (k+1) f ws M=some (v,M')/\ioOf io ws vs/\ORs (fun n=>(n∈ms'.flatten\/n∈ns)\/X n) M' fin vs ms'/\OR (fun n=>(n∈ms'.flatten\/n∈ns)\/X n) M' t v ns/\(ms'.flatten++ns).Nodup/\(∀ n,n∈ms'.flatten\/n∈ns->¬ X n) /\
   (∀ n,n∈ms'.flatten\/n∈ns->n∈mss.flatten\/M.length<=n)/\(∀ i,i<M.length->i∉mss.flatten->M'[i]? = M[i]?)/\M.length<=M'.length/\Q t fin):=by
  intro t fin g1 g2 v hv he
  obtain ⟨vs,ms,nss2,a1,a2,a3,a4,a5,a6,a7,a8⟩:=zfL R.sr hio g1
  refine ⟨v,M',t,ns,fin,vs,ms,?_,map_io a2 (fun j hj=>R.kp j hj) (fun j hj=>by rw [hwl];exact hlt j hj),?_,?_,?_,fun n hn=>?_,fun n hn=>?_,fun i h1 h2=>R.fr i h1 fun z=>h2 ((hfl i).mp z),R.le,g2⟩
  ·simp only [cfN,hf,zL]
   rw [if_pos hwl,e1]
   exact he
  ·refine a3.step ⟨fun n o p q=>⟨fun z=>p ?_,q⟩,fun n _ o h=>h⟩
   rcases z with (z | z) | z
   ·exact .inl (a5 n z)
   ·exact .inr (.inr z)
   ·exact .inr (.inl z)
  ·refine hv.step ⟨fun n o p q=>⟨fun z=>p ?_,q⟩,fun n _ o h=>h⟩
   rcases z with (z | z) | z
   ·exact .inl (a5 n z)
   ·exact .inr (.inr z)
   ·exact .inr (.inl z)
  ·rw [List.nodup_append]
   exact ⟨a4,R.nd,fun p hp r hr z=>by subst z;exact R.sr.dj p (a5 p hp) (.inr hr)⟩
  ·rcases hn with w | w
   ·exact fun z=>R.sr.dj n (a5 n w) (.inl z)
   ·exact R.mx n w
  ·rcases R.nw n (hn.elim (fun w=>.inr (a5 n w)) .inl) with w | w
   ·exact .inl ((hfl n).mp w)
   ·exact .inr w
 cases o with
 | nx =>
  cases fl<;>first | exact F.elim | skip
  obtain ⟨rfl,rfl⟩:=F
  obtain ⟨g,g1,g2⟩:=q
  exact fin (.v .non) g g1 g2 .non ⟨.non,rfl⟩ rfl
 | ret t =>
  cases fl<;>first | exact F.elim | skip
  obtain ⟨g,g1,g2⟩:=q
  exact fin t g g1 g2 _ F rfl
 | brk=>exact q.elim
 | ct=>exact q.elim
inductive Ag where
 | val (d:D) | io (i:Nat)
def Ag.ix:List Ag->List Nat
 | []=>[]
 | .val _::r=>Ag.ix r
 | .io i::r=>i::Ag.ix r
def Ag.pos:List Ag->Nat->List Nat
 | [],_=>[]
 | .val _::r,k=>Ag.pos r (k+1)
 | .io _::r,k=>k::Ag.pos r (k+1)
def Ag.mk:List Ag->List OT->Option (List OT)
 | [],[]=>some []
 | .val d::r,ts=>(Ag.mk r ts).map (.v d :: ·)
 | .io _::r,t::ts=>(Ag.mk r ts).map (t :: ·)
 | _,_=>none
def AgR (B:Nat->Prop) (M:Mm) (sg:Sg):List Ag->List PV->Prop
 | [],[]=>True
 | .val d::r,v::vs=>Rp B M v d/\AgR B M sg r vs
 | .io i::r,v::vs=>sg[i]? = some (some v)/\AgR B M sg r vs
 | _,_=>False
def HAr (cf:CF) (es:Es) (env:Env) (Q:List Ag->Env->Prop):Prop:=∀ (sg:Sg) (M:Mm) (nss:List (List Nat)) (X:Nat->Prop),SR sg M env nss X->∃ vs M' as env' nss',zv cf es sg M=some (vs,M')/\ERs false sg M env nss X [] M' [] [] env' nss'/\AgR (Bd nss' X) M' sg as vs/\Q as env'
theorem AgR.step {B B':Nat->Prop} {M M':Mm} {sg:Sg} (h:Stp B B' M M'):∀ {as:List Ag} {vs:List PV},AgR B M sg as vs->AgR B' M' sg as vs
 | [],[],_=>trivial
 | .val _::_,_::_,⟨a,b⟩=>⟨a.step h,AgR.step h b⟩
 | .io _::_,_::_,⟨a,b⟩=>⟨a,AgR.step h b⟩
 | [],_::_,z=>z.elim
 | .val _::_,[],z=>z.elim
 | .io _::_,[],z=>z.elim
section
variable {A:Bool} {cf:CF} {env:Env} {e:E} {es:Es}
theorem zaI {Q:List Ag->Env->Prop} (q:Q [] env):HAr cf .nil env Q:=fun sg M nss X S=>⟨[],M,[],env,nss,zfB,zgg S,trivial,q⟩
theorem ERs.off {sg:Sg} {M M':Mm} {nss nss':List (List Nat)} {X:Nat->Prop} {vs:List PV} {ts:List OT} {mss:List (List Nat)} {env':Env} (R:ERs A sg M env nss X vs M' ts mss env' nss'):ERs false sg M env nss X vs M' ts mss env' nss':=⟨R.sr,R.or,R.nd,R.mx,R.nw,R.fr,R.le,fun z=>by cases z⟩
theorem HE.off {Q:OT->Env->Prop} (h:HE A cf e env Q):HE false cf e env Q:=fun sg M nss X S=>by
 obtain ⟨v,M',t,ns,env',nss',h1,h2,h3⟩:=h sg M nss X S
 exact ⟨v,M',t,ns,env',nss',h1,h2.off,h3⟩
theorem ERs.stp {sg:Sg} {M M':Mm} {nss nss':List (List Nat)} {X:Nat->Prop} {vs:List PV} {ts:List OT} {mss:List (List Nat)} {env':Env} (R:ERs A sg M env nss X vs M' ts mss env' nss'):Stp (Bd nss X) (Bd nss' X) M M':=fun n o a b=>by
 have hl:=(List.getElem?_eq_some_iff.mp b).1
 refine ⟨fun z=>?_,by rw [R.fr n hl fun z=>a (.inl z)];exact b⟩
 rcases z with z | z
 ·rcases R.nw n (.inr z) with q | q
  ·exact a (.inl q)
  ·omega
 ·exact a (.inr z)
theorem zag {Q:List Ag->Env->Prop} (h:HE A cf e env fun t env1=>∃ d,t.toD=some d/\HAr cf es env1 fun as env2=>Q (.val d::as) env2):HAr cf (.cons e es) env Q:=fun sg M nss X S=>by
 obtain ⟨v,M1,t,ns,env1,nss1,e1,R1,d,h1,q⟩:=h sg M nss X S
 have r:=R1.frees (ds:=[d]) (by simp [h1])
 cases r with
 | cons r _ =>
  obtain ⟨vs,M2,as,env2,nss2,e2,R2,a2,q2⟩:=q sg M1 nss1 X R1.dropped
  exact ⟨v::vs,M2,.val d::as,env2,nss2,zP e1 e2,R1.off.seq R2,⟨r.step R2.stp,a2⟩,q2⟩
theorem zkh {i:Nat} {t:OT} {Q:List Ag->Env->Prop} (h:env[i]? = some (some t)) (hr:HAr cf es env fun as env2=>Q (.io i::as) env2):HAr cf (.cons (.var i) es) env Q:=fun sg M nss X S=>by
 obtain ⟨x,ns,h1,h2,h3⟩:=S.at_ i t h
 obtain ⟨vs,M2,as,env2,nss2,e2,R2,a2,q2⟩:=hr sg M nss X S
 exact ⟨x::vs,M2,.io i::as,env2,nss2,zP (zU h1) e2,R2,⟨h1,a2⟩,q2⟩
theorem ag_or {B:Nat->Prop} {M:Mm} {sg:Sg}:∀ {as:List Ag} {vs:List PV} {ts args:List OT} {us:List PV} {ms:List (List Nat)} (z:List PV),AgR B M sg as vs->Ag.mk as ts=some args->ORs B M ts us ms->(Ag.ix as).map (fun i=>sg[i]?)=us.map (fun v=>some (some v))->∃ mss,ORs B M args vs mss/\mss.flatten=ms.flatten/\(Ag.pos as z.length).map (fun i=>(z++vs)[i]?)=us.map some
 | [],[],ts,args,us,ms,z,_,e,h,g=>by
  cases ts<;>simp [Ag.mk] at e
  subst e
  cases us<;>cases ms<;>first | exact h.elim | exact ⟨[],trivial,rfl,rfl⟩
 | .val d::as,v::vs,ts,args,us,ms,z,⟨a,b⟩,e,h,g=>by
  obtain ⟨args',e',rfl⟩:=Option.map_eq_some_iff.mp (show (Ag.mk as ts).map (OT.v d :: ·)=some args from by cases ts<;>exact e)
  obtain ⟨mss,k1,k2,k3⟩:=ag_or (z++[v]) b e' h g
  exact ⟨[]::mss,⟨⟨a,rfl⟩,k1⟩,by simp [k2],by simpa [Ag.pos] using k3⟩
 | .io i::as,v::vs,[],args,us,ms,z,⟨a,b⟩,e,h,g=>by simp [Ag.mk] at e
 | .io i::as,v::vs,t::ts,args,[],ms,z,⟨a,b⟩,e,h,g=>by cases ms<;>exact h.elim
 | .io i::as,v::vs,t::ts,args,u::us,[],z,⟨a,b⟩,e,h,g=>h.elim
 | .io i::as,v::vs,t::ts,args,u::us,m::ms,z,⟨a,b⟩,e,h,g=>by
  obtain ⟨args',e',rfl⟩:=Option.map_eq_some_iff.mp (show (Ag.mk as ts).map (t :: ·)=some args from e)
  simp only [Ag.ix,List.map_cons,List.cons.injEq] at g
  obtain ⟨mss,k1,k2,k3⟩:=ag_or (z++[v]) b e' h.2 g.2
  rw [a] at g
  have:v=u:=by simpa using g.1
  subst this
  exact ⟨m::mss,⟨h.1,k1⟩,by simp [k2],by simpa [Ag.pos] using k3⟩
 | [],_::_,_,_,_,_,_,h,_,_,_=>h.elim
 | .val _::_,[],_,_,_,_,_,h,_,_,_=>h.elim
 | .io _::_,[],_,_,_,_,_,h,_,_,_=>h.elim
theorem call_sr {f:Nat} {as:List Ag} {sg:Sg} {M:Mm} {nss:List (List Nat)} {X:Nat->Prop} {vs:List PV} {ts args:List OT} {Q:OT->List OT->Prop} (S:SR sg M env nss X) (ha:AgR (Bd nss X) M sg as vs) (nd:(Ag.ix as).Nodup) (hg:zke (Ag.ix as) env=some ts) (hm:Ag.mk as ts=some args) (hc:Call cf f (Ag.pos as 0) args Q) :
  ∃ v M' t ns fin,cf f vs M=some (v,M')/\Q t fin/\∀ env2,setE (Ag.ix as) fin (zcd env (Ag.ix as))=some env2->∃ nss2,ERs false sg M env nss X [v] M' [t] [ns] env2 nss2:=by
 obtain ⟨us,ms,nss1,a1,a2,a3,a4,a5,a6,a7,a8⟩:=zfL S nd hg
 obtain ⟨mss,b1,b2,b3⟩:=ag_or [] ha hm a3 a2
 let Y:Nat->Prop:=fun n=>X n\/n∈nss1.flatten
 obtain ⟨v,M',t,ns,fin,vs2,ms',c1,c2,c3,c4,c5,c6,c7,c8,c9,c10⟩:=hc M vs mss Y (b1.step ⟨fun n o p q=>⟨fun z=>p (by
   rcases z with z | z | z
   ·rw [b2] at z;exact .inl (a5 n z)
   ·exact .inr z
   ·exact .inl (a7 n z).1),q⟩,fun n _ o h=>h⟩) (by rw [b2];exact a4) (fun n hn z=>by
   rw [b2] at hn
   rcases z with z | z
   ·exact S.dj n (a5 n hn) z
   ·exact (a7 n z).2 hn) (fun n hn=>by
   rcases hn with q | q
   ·exact S.xl n q
   ·exact S.lt n (a7 n q).1)
 have hvu:vs2=us:=by
  have:vs2.map some=us.map some:=by
   rw [<- b3];exact c2.symm
  exact (List.map_inj_right (fun a b h=>by simpa using h)).mp this
 subst hvu
 rw [b2] at c7 c8
 refine ⟨v,M',t,ns,fin,c1,c10,fun env2 hs=>?_⟩
 rw [List.nodup_append] at c5
 have S2:SR sg M' (zcd env (Ag.ix as)) nss1 (fun n=>(X n\/n∈ns)\/n∈ms'.flatten):=a6.mem (M':=M') (fun n o p q=>by
   have hl:=(List.getElem?_eq_some_iff.mp q).1
   rw [c8 n hl fun z=>p (.inr z)];exact q) c9 (fun n hn=>by
   rcases hn with (z | z) | z
   ·exact .inl (.inl z)
   ·rcases c7 n (.inr z) with w | w
    ·exact .inl (.inr w)
    ·exact .inr w
   ·rcases c7 n (.inl z) with w | w
    ·exact .inl (.inr w)
    ·exact .inr w) (fun n hn=>by
   have lts:∀ {ts:List OT} {vs:List PV} {ms:List (List Nat)} {B:Nat->Prop},ORs B M' ts vs ms->∀ n∈ms.flatten,n<M'.length:=by
    intro ts
    induction ts with
    | nil=>intro vs ms B h n hn;cases vs<;>cases ms<;>first | exact h.elim | (simp at hn)
    | cons t ts ih =>
     intro vs ms B h n hn
     cases vs<;>cases ms<;>first | exact h.elim | skip
     rename_i m ms
     rw [List.flatten_cons,List.mem_append] at hn
     exact hn.elim (h.1.lt n) (ih h.2 n)
   rcases hn with (z | z) | z
   ·have:=S.xl n z;omega
   ·exact c4.lt n z
   ·exact lts c3 n z)
 obtain ⟨nss2,sg2,d1,d2,d3,d4⟩:=zhR (ms:=ms') (ts:=fin) (vs:=vs2) S2 (c3.step ⟨fun n o p q=>⟨fun z=>p (by
   rcases z with z | (z | z) | z
   ·exact .inr (.inr z)
   ·exact .inr (.inl z)
   ·exact .inl (.inr z)
   ·exact .inl (.inl z)),q⟩,fun n _ o h=>h⟩) c5.1 (fun n hn z=>by
   rcases z with z | z
   ·exact c6 n (.inl hn) (.inl z)
   ·exact c5.2.2 n hn n z rfl) hs
 rw [a1] at d1
 cases d1
 have hf:∀ n,n∈([ns]:List (List Nat)).flatten↔n∈ns:=fun n=>by simp
 refine ⟨nss2,d2.mono fun n hn=>hn.imp id (hf n).mp,⟨c4.step ⟨fun n o p q=>⟨fun z=>p ?_,q⟩,fun n _ o h=>h⟩,trivial⟩,by simpa using c5.2.1,fun n hn z=>c6 n (.inr ((hf n).mp hn)) (.inl z),fun n hn=>?_,fun i h1 h2=>c8 i h1 fun z=>h2 (a5 i z),c9,fun z=>by cases z⟩
 ·rcases z with z | z | z
  ·rcases d3 n z with w | w
   ·exact .inr (.inr w)
   ·exact .inl (.inl w)
  ·exact .inr (.inl z)
  ·exact .inl (.inr ((hf n).mp z))
 ·have key:n∈ms'.flatten\/n∈ns->n∈nss.flatten\/M.length<=n:=fun z=>(c7 n z).imp (a5 n) id
  rcases hn with z | z
  ·exact key (.inr ((hf n).mp z))
  ·rcases d3 n z with w | w
   ·exact .inl (a7 n w).1
   ·exact key (.inl w)
def zl9 (cf:CF) (f:Nat) (as:List Ag) (env:Env) (Q:OT->Env->Prop):Prop:=(Ag.ix as).Nodup/\∃ ts args,zke (Ag.ix as) env=some ts/\Ag.mk as ts=some args/\Call cf f (Ag.pos as 0) args fun t fin=>∃ env2,setE (Ag.ix as) fin (zcd env (Ag.ix as))=some env2/\Q t env2
theorem zje {f:Nat} {as:List Ag} {Q:OT->Env->Prop} {env0:Env} {sg:Sg} {M M1:Mm} {nss nss1:List (List Nat)} {X:Nat->Prop} {vs:List PV} (R:ERs false sg M env0 nss X [] M1 [] [] env nss1) (ha:AgR (Bd nss1 X) M1 sg as vs) (q:zl9 cf f as env Q):∃ v M' t ns env' nss',cf f vs M1=some (v,M')/\ERs false sg M env0 nss X [v] M' [t] [ns] env' nss'/\Q t env':=by
 obtain ⟨nd,ts,args,h1,h2,h3⟩:=q
 obtain ⟨v,M',t,ns,fin,e,⟨env2,q1,q2⟩,r⟩:=call_sr R.dropped ha nd h1 h2 h3
 obtain ⟨nss2,R2⟩:=r env2 q1
 exact ⟨v,M',t,ns,env2,nss2,e,R.seq R2,q2⟩
theorem zY {f:Nat} {Q:OT->Env->Prop} (h:HAr cf es env fun as env1=>zl9 cf f as env1 Q):HE false cf (.call f es) env Q:=fun sg M nss X S=>by
 obtain ⟨vs,M1,as,env1,nss1,e1,R,a,q⟩:=h sg M nss X S
 obtain ⟨v,M',t,ns,env',nss',e2,R2,q2⟩:=zje R a q
 exact ⟨v,M',t,ns,env',nss',zd3 e1 e2,R2,q2⟩
end
end Mp.V
namespace Mp.V
open PySem L2
def zlQ:Mt->List D->List D->Option (D × List D)
 | .append,xs,[d]=>if xs.length<1000000 then some (.non,xs++[d]) else none
 | .extend,xs,[.lst ys]=>if xs.length+ys.length<1000000 then some (.non,xs++ys) else none
 | .pop1,xs,[.int i]=>(ixN xs.length i).bind fun j=>(xs[j]?).map fun y=>(y,xs.eraseIdx j)
 | _,_,_=>none
section
variable {B:Nat->Prop} {M:Mm}
theorem zfU {vs:List PV} {d:D} (h:Rps B M vs [d]):∃ v,vs=[v]/\Rp B M v d:=by
 cases h with
 | cons a r=>cases r;exact ⟨_,rfl,a⟩
theorem mutL_ok {m:Mt} {n:Nat} {zs vs:List PV} {xs ds xs':List D} {r:D} (g:M[n]? = some (.lst zs)) (hz:Rps B M zs xs) (hv:Rps B M vs ds) (e:zlQ m xs ds=some (r,xs')) :
  ∃ v zs',zds M m (.ref n)=true/\zef M m (.ref n) vs=some (v,M.set n (.lst zs'))/\Rps B M zs' xs'/\Rp B M v r:=by
 have h24:sizeLine=16777216:=rfl
 unfold zlQ at e
 split at e
 ·split at e
  ·rename_i hl
   cases e
   obtain ⟨v,rfl,a⟩:=zfU hv
   refine ⟨.non,zs++[v],by simp [zds,zl,g],?_,hz.append (.cons a .nil),.non⟩
   simp only [zef,zl,g,Option.bind_some]
   rw [if_pos (by rw [hz.length];omega)]
  ·cases e
 ·split at e
  ·rename_i hl
   cases e
   obtain ⟨v,rfl,a⟩:=zfU hv
   cases a with
   | lst a1 a2 a3 =>
    refine ⟨.non,zs++_,by simp [zds,zl,g],?_,hz.append a3,.non⟩
    simp only [zef,zl,g,a2,Option.bind_some]
    rw [if_pos (by rw [hz.length,a3.length];omega)]
  ·cases e
 ·obtain ⟨v,rfl,a⟩:=zfU hv
  cases a
  obtain ⟨j,h1,h2⟩:=Option.bind_eq_some_iff.mp e
  obtain ⟨y,h3,h4⟩:=Option.map_eq_some_iff.mp h2
  cases h4
  obtain ⟨x,k1,k2⟩:=hz.get h3
  refine ⟨x,zs.eraseIdx j,by simp [zds,zl,g],?_,hz.erase j,k2⟩
  simp only [zef,zl,g,Option.bind_some]
  rw [hz.length,h1]
  simp only [Option.bind_some,k1,Option.map_some]
 ·cases e
end
section
variable {A:Bool} {cf:CF} {K:List Nat} {env:Env} {e a b c o:E} {es:Es} {ss:Ss}
theorem lens_l {sg:Sg} {M:Mm} {nss:List (List Nat)} {X:Nat->Prop} {xs:List D} {upd:OT->Env} (L:Lens cf o env (.ol xs) upd) (S:SR sg M env nss X):∃ n zs,evE cf o sg M=some (.ref n,M)/\n∈nss.flatten/\M[n]? = some (.lst zs)/\Rps (Bd nss X) M zs xs /\
  ∀ (M1:Mm) (zs':List PV) (xs':List D),(∀ i,i<M.length->M1[i]? = M[i]?)->M.length<=M1.length->Rps (Bd nss X) M1 zs' xs'->∃ nss',SR sg (M1.set n (.lst zs')) (upd (.ol xs')) nss' X/\∀ k∈nss'.flatten,k∈nss.flatten:=by
 obtain ⟨x,ns,e1,⟨n,zs,rfl,rfl,g1,g2⟩,hs,nd,K⟩:=L sg M nss X S
 have hn:n∈nss.flatten:=hs n (by simp)
 refine ⟨n,zs,e1,hn,g1,g2,fun M1 zs' xs' hM hl r=>?_⟩
 have hlt:=S.lt n hn
 obtain ⟨nss',W1,W2⟩:=K X (M1.set n (.lst zs')) (.ol xs') [n] (fun _ h=>h) (fun k o' hk h=>by
  have hk':k≠n:=by simpa using hk
  rw [List.getElem?_set_ne (fun z=>hk' z.symm),hM k (List.getElem?_eq_some_iff.mp h).1];exact h) (by simpa using hl)
  ⟨n,zs',rfl,rfl,List.getElem?_set_self (by omega),r.step fun k o' p q=>⟨fun z=>p (z.elim id fun w=>by simp at w;rw [w];exact .inl hn),by rw [List.getElem?_set_ne (fun z=>p (.inl (by rw [<- z];exact hn)))];exact q⟩⟩ (by simp) (fun k hk=>.inl hk) (fun k hk=>S.dj k (hs k hk))
 exact ⟨nss',W1,fun k hk=>(W2 k hk).elim id fun z=>hs k z⟩
theorem ERs.chg {sg:Sg} {M M1:Mm} {nss nss1 nss2:List (List Nat)} {X:Nat->Prop} {vs:List PV} {ts:List OT} {mss:List (List Nat)} {env1 env2:Env} (R:ERs A sg M env nss X vs M1 ts mss env1 nss1) {n:Nat} {ob:Ob} (hn:n∈nss1.flatten) (S:SR sg (M1.set n ob) env2 nss2 X) (hs:∀ k∈nss2.flatten,k∈nss1.flatten) {v:PV} {d:D} (h:Rp (Bd nss1 X) M1 v d):ERs false sg M env nss X [v] (M1.set n ob) [.v d] [[]] env2 nss2:=by
 have h2:Rp (Bd nss2 X) (M1.set n ob) v d:=h.step fun k o p q=>⟨fun z=>p (z.imp (hs k) id),by rw [List.getElem?_set_ne (fun z=>p (.inl (by rw [<- z];exact hn)))];exact q⟩
 have r:=zlN (A:=true) S h2
 refine ⟨r.sr,r.or,r.nd,r.mx,fun k hk=>R.nw k (hk.imp (by simp) (hs k)),fun i h1 h3=>?_,by have:=R.le;simpa using this,fun z=>by cases z⟩
 have:n≠i:=fun z=>by
  subst z
  rcases R.nw n (.inr hn) with q | q
  ·exact h3 q
  ·omega
 rw [List.getElem?_set_ne this];exact R.fr i h1 h3
theorem h_mutl {m:Mt} {i:Nat} {xs0:List D} {Q:OT->Env->Prop} (h0:env[i]? = some (some (.ol xs0))) (h:HEs A cf es env fun ts env1=>∃ ds xs xs' r,ts.mapM OT.toD=some ds/\env1[i]? = some (some (.ol xs))/\zlQ m xs ds=some (r,xs')/\Q (.v r) (env1.set i (some (.ol xs')))):HE false cf (.mth m (.var i) es) env Q:=fun sg M nss X S=>by
 obtain ⟨vs,M1,ts,mss,env1,nss1,e1,R,ds,xs,xs',r,h1,h2,h3,h4⟩:=h sg M nss X S
 obtain ⟨x,ns,k1,k2,n0,zs0,rfl,_,g0,_⟩:=S.at_ i _ h0
 obtain ⟨n,zs,e2,hn,g,rz,K⟩:=lens_l (cf:=cf) (lens_var h2) R.dropped
 rw [zU k1] at e2
 cases e2
 obtain ⟨v,zs',q1,q2,q3,q4⟩:=mutL_ok g rz (R.frees h1) h3
 obtain ⟨nss2,S2,hS2⟩:=K M1 zs' xs' (fun _ _=>rfl) (Nat.le_refl _) q3
 refine ⟨v,_,.v r,[],_,nss2,?_,R.chg hn S2 hS2 q4,h4⟩
 have hmt:zds M m (.ref n0)=true:=by
  cases m<;>simp [zds,zl,zbu,g0,g] at q1 ⊢
 rw [evE,zU k1]
 simp only [hmt,if_true,e1,q2]
end
def zdb (env:Env) (own:List Nat):Bool:=own.all fun j=>match env[j]? with | some none=>true | _=>false
theorem okOwn_at {env:Env} {own:List Nat} (h:zdb env own=true) {j:Nat} (hj:j∈own):env[j]? = some none:=by
 unfold zdb at h
 have:=List.all_eq_true.mp h j hj
 split at this
 ·rename_i q;exact q
 ·cases this
theorem zfM {sg:Sg}:∀ {own:List Nat},(z6 sg own).length=sg.length/\∀ j,j∉own->(z6 sg own)[j]? = sg[j]?
 | []=>⟨rfl,fun _ _=>rfl⟩
 | v::vs=>by
  obtain ⟨h1,h2⟩:=zfM (sg:=sg) (own:=vs)
  refine ⟨by simp [z6,h1],fun j hj=>?_⟩
  simp only [z6]
  rw [List.getElem?_set_ne (fun z=>hj (by simp [z])),h2 j fun z=>hj (by simp [z])]
theorem SR.other {sg sg':Sg} {M:Mm} {env:Env} {nss:List (List Nat)} {X:Nat->Prop} {own:List Nat} (S:SR sg M env nss X) (ho:zdb env own=true) (hl:sg'.length=sg.length) (hs:∀ j,j∉own->sg'[j]? = sg[j]?):SR sg' M env nss X :=
 ⟨hl.trans S.len,S.nl,fun i t e=>by
  obtain ⟨x,ns,a,b,c⟩:=S.at_ i t e
  refine ⟨x,ns,?_,b,c⟩
  rw [hs i fun z=>by rw [okOwn_at ho z] at e;cases e];exact a,S.no,S.nd,S.dj,S.xl⟩
theorem zfN:∀ {own:List Nat} {env:Env},(∀ j∈own,j<env.length)->zdb (zcd env own) own=true/\(zcd env own).length=env.length/\(∀ j:Nat,env[j]? = some none->(zcd env own)[j]? = some none)
 | [],env,_=>⟨rfl,rfl,fun _ h=>h⟩
 | v::vs,env,h=>by
  have hv:v<env.length:=h v (by simp)
  obtain ⟨h1,h2,h3⟩:=zfN (own:=vs) (env:=env.set v none) fun j hj=>by simpa using h j (by simp [hj])
  refine ⟨?_,by simpa [zcd] using h2,fun j hj=>h3 j ?_⟩
  ·unfold zdb at h1 ⊢
   rw [List.all_cons,Bool.and_eq_true]
   refine ⟨?_,by simpa [zcd] using h1⟩
   have:(zcd env (v::vs))[v]? = some none:=h3 v (List.getElem?_set_self hv)
   rw [this]
  ·by_cases q:v=j
   ·subst q;exact List.getElem?_set_self hv
   ·rw [List.getElem?_set_ne q];exact hj
theorem SR.wipes {sg:Sg} {M:Mm} {X:Nat->Prop}:∀ {own:List Nat} {env:Env} {nss:List (List Nat)},SR sg M env nss X->(∀ j∈own,j<env.length)->∃ nss',SR sg M (zcd env own) nss' X/\∀ n∈nss'.flatten,n∈nss.flatten
 | [],env,nss,S,_=>⟨nss,S,fun _ h=>h⟩
 | v::vs,env,nss,S,h=>by
  have hv:v<nss.length:=by rw [S.nl];exact h v (by simp)
  have hu:=List.getElem?_eq_getElem hv
  have W:=S.wipe hu (sg[v]?.getD none)
  have hs:sg.set v (sg[v]?.getD none)=sg:=by
   have hvs:v<sg.length:=by rw [S.len];exact h v (by simp)
   refine List.ext_getElem? fun j=>?_
   by_cases q:v=j
   ·subst q;rw [List.getElem?_set_self hvs,List.getElem?_eq_getElem hvs];rfl
   ·rw [List.getElem?_set_ne q]
  rw [hs] at W
  obtain ⟨nss',S',hS'⟩:=SR.wipes (own:=vs) W fun j hj=>by simpa using h j (by simp [hj])
  exact ⟨nss',S',fun n hn=>(zbl hu S.nd (hS' n hn)).1⟩
def HL (cf:CF) (t:Tg) (c e:E) (own:List Nat) (xs acc:List D) (env:Env) (Q:List D->Env->Prop):Prop:=∀ (sg:Sg) (M:Mm) (nss:List (List Nat)) (X:Nat->Prop) (s:Src) (all:List D) (i m dn:Nat) (av:List PV),SR sg M env nss (fun n=>X n\/n=dn)->¬ X dn->M[dn]? = some (.lst av)->Rps (Bd nss fun n=>X n\/n=dn) M av acc->zgq (Bd nss fun n=>X n\/n=dn) M s all->all.drop i=xs->xs.length<m->acc.length+xs.length<1000000 ->
 ∃ M' yv ys env' nss',lcL s (tgP t) (fun sg M=>evE cf c sg M) (fun sg M=>evE cf e sg M) dn sg m i M=some M'/\M'[dn]? = some (.lst yv)/\Rps (Bd nss' fun n=>X n\/n=dn) M' yv ys/\SR sg M' env' nss' (fun n=>X n\/n=dn)/\zdb env' own=true/\(∀ n∈nss'.flatten,n∈nss.flatten\/M.length<=n)/\(∀ i,i<M.length->i≠dn->i∉nss.flatten->M'[i]? = M[i]?)/\M.length<=M'.length/\Q ys env'
section
variable {A:Bool} {cf:CF} {K:List Nat} {env:Env} {e a b c o:E} {es:Es} {t:Tg} {own:List Nat}
theorem l_nil {acc:List D} {Q:List D->Env->Prop} (ho:zdb env own=true) (q:Q acc env):HL cf t c e own [] acc env Q:=fun sg M nss X s all i m dn av S hx g r D e' hm ha=>by
 obtain ⟨o,h1,h2⟩:=D.get i
 have:all[i]? = none:=by rw [List.getElem?_eq_none_iff];simpa using e'
 rw [this] at h2
 cases o with
 | some x=>exact h2.elim
 | none =>
  cases m with
  | zero=>simp at hm
  | succ m=>exact ⟨M,av,acc,env,nss,by simp only [lcL,h1],g,r,S,ho,fun n hn=>.inl hn,fun _ _ _ _=>rfl,Nat.le_refl _,q⟩
theorem ziM {d:D} {ds acc:List D} {env1:Env} {Q:List D->Env->Prop} (ht:∀ j∈tgI t,j∈own) (hlt:∀ j∈own,j<env.length) (hb:zfl t d env=some env1)
  (h:HE A cf c env1 fun u env2=>(u=.v (.bl true)/\HE A cf e env2 fun y env3=>∃ f,y.toD=some f/\env3.length=env.length/\HL cf t c e own ds (acc++[f]) (zcd env3 own) Q)\/(u=.v (.bl false)/\env2.length=env.length/\HL cf t c e own ds acc (zcd env2 own) Q)):HL cf t c e own (d::ds) acc env Q:=fun sg M nss X s all i m dn av S hx g r D e' hm ha=>by
 obtain ⟨o,h1,h2⟩:=D.get i
 have hd:all[i]? = some d:=by
  have:=congrArg List.head? e'
  rwa [List.head?_drop] at this
 have htl:all.drop (i+1)=ds:=by rw [<- List.tail_drop,e'];rfl
 rw [hd] at h2
 cases o with
 | none=>exact h2.elim
 | some x =>
  cases m with
  | zero=>simp at hm
  | succ m =>
   obtain ⟨nss1,sg1,e1,S1,hS1,k1⟩:=zih S h2 hb
   have st0:Stp (Bd nss fun n=>X n\/n=dn) (Bd nss1 fun n=>X n\/n=dn) M M:=fun n o a b=>⟨fun z=>a (z.imp (hS1 n) id),b⟩
   obtain ⟨v2,M2,u,ns2,env2,nss2,e2,R2,q⟩:=h sg1 M nss1 _ S1
   have hsl:sg.length=sg1.length:=by rw [S1.len,S.len];have:=hb;exact (bind_len hb).symm
   have hdn1:dn∉nss1.flatten:=fun z=>S1.dj dn z (.inr rfl)
   have hdl:dn<M.length:=(List.getElem?_eq_some_iff.mp g).1
   have g2:M2[dn]? = some (.lst av):=by rw [R2.fr dn hdl hdn1];exact g
   have nw2:∀ n∈nss2.flatten,n∈nss.flatten\/M.length<=n:=fun n hn=>(R2.nw n (.inr hn)).imp (hS1 n) id
   have fr2:∀ i,i<M.length->i∉nss.flatten->M2[i]? = M[i]?:=fun i h1 h2=>R2.fr i h1 fun z=>h2 (hS1 i z)
   rcases q with ⟨rfl,q⟩ | ⟨rfl,hle,q⟩
   ·cases R2.or.1.1
    obtain ⟨v3,M3,y,ns3,env3,nss3,e3,R3,f,q1,hle,q2⟩:=q sg1 M2 nss2 _ R2.dropped
    obtain ⟨v3',hv3,r3⟩:=zfU (R3.frees (ds:=[f]) (by simp [q1]))
    cases hv3
    have hl2:=R2.le
    have hl3:=R3.le
    have hdn2:dn∉nss2.flatten:=fun z=>R2.dropped.dj dn z (.inr rfl)
    have hdn3:dn∉nss3.flatten:=fun z=>R3.dropped.dj dn z (.inr rfl)
    have g3:M3[dn]? = some (.lst av):=by rw [R3.fr dn (by omega) hdn2];exact g2
    have st3:Stp (Bd nss fun n=>X n\/n=dn) (Bd nss3 fun n=>X n\/n=dn) M M3:=fun n o a b=>by
     obtain ⟨p1,p2⟩:=st0 n o a b
     obtain ⟨p3,p4⟩:=R2.stp n o p1 p2
     exact R3.stp n o p3 p4
    have nw3:∀ n∈nss3.flatten,n∈nss.flatten\/M.length<=n:=fun n hn=>by
     rcases R3.nw n (.inr hn) with w | w
     ·exact nw2 n w
     ·exact .inr (by omega)
    let M4:Mm:=M3.set dn (.lst (av++[v3]))
    have stX:Stp (Bd nss3 fun n=>X n\/n=dn) (Bd nss3 fun n=>X n\/n=dn) M3 M4:=fun n o a b=>⟨a,by
     show (M3.set dn _)[n]? = _
     rw [List.getElem?_set_ne (fun z=>a (.inr (.inr z.symm)))];exact b⟩
    have S4:SR sg1 M4 env3 nss3 (fun n=>X n\/n=dn):=R3.dropped.mem (fun n o p q=>by
     show (M3.set dn _)[n]? = _
     rw [List.getElem?_set_ne (fun z=>p (.inr z.symm))];exact q) (by simp [M4]) (fun n hn=>.inl hn) (fun n hn=>by have:=R3.dropped.xl n hn;simpa [M4] using this)
    obtain ⟨nss4,S5,hS5⟩:=SR.wipes (own:=own) S4 (fun j hj=>by rw [hle];exact hlt j hj)
    have ok5:=(zfN (own:=own) (env:=env3) fun j hj=>by rw [hle];exact hlt j hj).1
    have S6:=S5.other ok5 hsl (fun j hj=>(k1 j fun z=>hj (ht j z)).symm)
    have st4:Stp (Bd nss3 fun n=>X n\/n=dn) (Bd nss4 fun n=>X n\/n=dn) M3 M4:=fun n o a b=>⟨fun z=>a (z.imp (hS5 n) id),(stX n o a b).2⟩
    obtain ⟨M',yv,ys,env',nss',w1,w2,w3,w4,w5,w6,w7,w8,w9⟩:=q2 sg M4 nss4 X s all (i+1) m dn (av++[v3]) S6 hx (List.getElem?_set_self (by omega)) (((r.step st3).append (.cons r3 .nil)).step st4) ((D.step st3).step st4) htl (by simp at hm;omega) (by simp at ha ⊢;omega)
    have hl4:M4.length=M3.length:=by simp [M4]
    refine ⟨M',yv,ys,env',nss',?_,w2,w3,w4,w5,fun n hn=>?_,fun i h1 h2 h3=>?_,by omega,w9⟩
    ·simp only [lcL,h1,e1,e2,e3,zl,g3]
     rw [if_pos (by rw [r.length];have:sizeLine=16777216:=rfl;simp at ha;omega)]
     exact w1
    ·rcases w6 n hn with w | w
     ·exact nw3 n (hS5 n w)
     ·exact .inr (by omega)
    ·rw [w7 i (by omega) h2 fun z=>(nw3 i (hS5 i z)).elim h3 (fun w=>by omega)]
     show (M3.set dn _)[i]? = _
     rw [List.getElem?_set_ne (fun z=>h2 z.symm),R3.fr i (by omega) fun z=>(nw2 i z).elim h3 (fun w=>by omega)]
     exact fr2 i h1 h3
   ·cases R2.or.1.1
    have hl2:=R2.le
    obtain ⟨nss4,S5,hS5⟩:=SR.wipes (own:=own) R2.dropped (fun j hj=>by rw [hle];exact hlt j hj)
    have ok5:=(zfN (own:=own) (env:=env2) fun j hj=>by rw [hle];exact hlt j hj).1
    have S6:=S5.other ok5 hsl (fun j hj=>(k1 j fun z=>hj (ht j z)).symm)
    have st2:Stp (Bd nss fun n=>X n\/n=dn) (Bd nss4 fun n=>X n\/n=dn) M M2:=fun n o a b=>by
     obtain ⟨p1,p2⟩:=st0 n o a b
     obtain ⟨p3,p4⟩:=R2.stp n o p1 p2
     exact ⟨fun z=>p3 (z.imp (hS5 n) id),p4⟩
    obtain ⟨M',yv,ys,env',nss',w1,w2,w3,w4,w5,w6,w7,w8,w9⟩:=q sg M2 nss4 X s all (i+1) m dn av S6 hx g2 (r.step st2) (D.step st2) htl (by simp at hm;omega) (by simp at ha ⊢;omega)
    refine ⟨M',yv,ys,env',nss',?_,w2,w3,w4,w5,fun n hn=>?_,fun i h1 h2 h3=>?_,by omega,w9⟩
    ·simp only [lcL,h1,e1,e2];exact w1
    ·rcases w6 n hn with w | w
     ·exact nw2 n (hS5 n w)
     ·exact .inr (by omega)
    ·rw [w7 i (by omega) h2 fun z=>(nw2 i (hS5 i z)).elim h3 (fun w=>by omega)]
     exact fr2 i h1 h3
where
 bind_len {t:Tg} {d:D} {env env1:Env} (h:zfl t d env=some env1):env1.length=env.length:=by
  have key:∀ {is:List Nat} {ds:List D} {env env1:Env},zjn is ds env=some env1->env1.length=env.length:=by
   intro is
   induction is with
   | nil=>intro ds env env1 h;cases ds<;>simp [zjn] at h;rw [h]
   | cons i is ih =>
    intro ds env env1 h
    cases ds with
    | nil=>simp [zjn] at h
    | cons d ds=>have:=ih (show zjn is ds (env.set i (some (.v d)))=some env1 from h);simpa using this
  unfold zfl at h
  split at h
  ·cases h;simp
  ·exact key h
  ·exact key h
  ·have:=key h;simpa using this
  ·have:=key h;simpa using this
  ·cases h
theorem zlB {it:It} {Q:OT->Env->Prop} (h:HI A cf it env fun xs env1=>zdb env1 own=true/\xs.length<900000/\HL cf t c e own xs [] env1 fun ys env2=>Q (.ol ys) env2):HE false cf (.lc own t it c e) env Q:=fun sg M nss X S=>by
 obtain ⟨s,M1,xs,env1,nss1,e1,R,D,ho,hl,q⟩:=h sg M nss X S
 have S1:=R.dropped
 obtain ⟨wl,wa⟩:=zfM (sg:=sg) (own:=own)
 let M2:Mm:=M1++[.lst []]
 have hap:∀ (n:Nat) (x:Ob),M1[n]? = some x->M2[n]? = some x:=fun n x h=>by
  show (M1++[_])[n]? = _
  rw [List.getElem?_append_left (List.getElem?_eq_some_iff.mp h).1];exact h
 have S2:SR (z6 sg own) M2 env1 nss1 (fun n=>X n\/n=M1.length):=(S1.other ho wl wa).mem (fun n x _ h=>hap n x h) (by simp [M2]) (fun n hn=>hn.imp id fun z=>by omega) (fun n hn=>by
  rcases hn with z | z
  ·have:=S1.xl n z;simp [M2];omega
  ·simp [M2,z])
 have st:Stp (Bd nss1 X) (Bd nss1 fun n=>X n\/n=M1.length) M1 M2:=fun n o a b=>⟨fun z=>by
  rcases z with z | z | z
  ·exact a (.inl z)
  ·exact a (.inr z)
  ·have:=(List.getElem?_eq_some_iff.mp b).1;omega,hap n o b⟩
 obtain ⟨M',yv,ys,env',nss',w1,w2,w3,w4,w5,w6,w7,w8,w9⟩:=q (z6 sg own) M2 nss1 X s xs 0 zdC M1.length [] S2 (fun z=>by have:=S1.xl _ z;omega) (by simp [M2]) .nil (D.step st) rfl (by unfold zdC;omega) (by simp;omega)
 have S3:=w4.other w5 wl.symm (fun j hj=>(wa j hj).symm)
 have hf:∀ n,n∈([[M1.length]]:List (List Nat)).flatten↔n=M1.length:=fun n=>by simp
 have hml:=R.le
 have hm2:M2.length=M1.length+1:=by simp [M2]
 refine ⟨.ref M1.length,M',.ol ys,[M1.length],env',nss',?_,⟨S3.mono fun n hn=>hn.imp id (hf n).mp,⟨⟨M1.length,yv,rfl,rfl,w2,w3.step fun n o a b=>⟨fun z=>a (z.imp id fun w=>w.imp id (hf n).mp),b⟩⟩,trivial⟩,by simp,fun n hn z=>?_,fun n hn=>?_,fun i h1 h2=>?_,by omega,fun z=>by cases z⟩,w9⟩
 ·rw [evE,e1];exact congrArg (Option.map fun M2=>(PV.ref M1.length,M2)) w1
 ·rw [(hf n).mp hn] at z;have:=S1.xl _ z;omega
 ·rcases hn with z | z
  ·rw [(hf n).mp z];exact .inr hml
  ·rcases w6 n z with w | w
   ·exact R.nw n (.inr w)
   ·exact .inr (by omega)
 ·rw [w7 i (by omega) (by omega) fun z=>by
   rcases R.nw i (.inr z) with q | q
   ·exact h2 q
   ·omega]
  rw [show M2[i]? = M1[i]? from by show (M1++[_])[i]? = _;rw [List.getElem?_append_left (by omega)]]
  exact R.fr i h1 h2
end
end Mp.V
namespace Mp.V
open PySem L2
def dfD:PV->Option D
 | .tup []=>some (.tup [])
 | v=>zb3 v
theorem dfD_ok {B:Nat->Prop} {M:Mm} {v:PV} {d:D} (h:dfD v=some d):Rp B M v d:=by
 unfold dfD at h
 split at h
 ·cases h;exact .tup .nil
 ·cases v<;>simp [zb3] at h<;>subst h<;>constructor
theorem AgR.get {B:Nat->Prop} {M:Mm} {sg:Sg}:∀ {as:List Ag} {vs:List PV} {i:Nat} {a:Ag},AgR B M sg as vs->as[i]? = some a->∃ v,vs[i]? = some v/\AgR B M sg [a] [v]
 | [],_,i,a,_,e=>by simp at e
 | .val d::as,[],_,_,h,_=>h.elim
 | .io d::as,[],_,_,h,_=>h.elim
 | .val d::as,v::vs,0,a,h,e=>by simp at e;subst e;exact ⟨v,rfl,h.1,trivial⟩
 | .io d::as,v::vs,0,a,h,e=>by simp at e;subst e;exact ⟨v,rfl,h.1,trivial⟩
 | .val d::as,v::vs,i+1,a,h,e=>AgR.get (i:=i) h.2 (by simpa using e)
 | .io d::as,v::vs,i+1,a,h,e=>AgR.get (i:=i) h.2 (by simpa using e)
theorem AgR.cons {B:Nat->Prop} {M:Mm} {sg:Sg} {a:Ag} {v:PV} {as:List Ag} {vs:List PV} (h:AgR B M sg [a] [v]) (h2:AgR B M sg as vs):AgR B M sg (a::as) (v::vs):=by
 cases a with
 | val d=>exact ⟨h.1,h2⟩
 | io i=>exact ⟨h.1,h2⟩
def permA (as:List Ag) (p:List Nat):Option (List Ag):=p.mapM fun i=>as[i]?
theorem ziE {B:Nat->Prop} {M:Mm} {sg:Sg} {as:List Ag} {vs:List PV} (h:AgR B M sg as vs):∀ {p:List Nat} {bs:List Ag},permA as p=some bs->∃ ys,zgS vs p=some ys/\AgR B M sg bs ys
 | [],bs,e=>by simp [permA] at e;subst e;exact ⟨[],rfl,trivial⟩
 | i::p,bs,e=>by
  unfold permA at e
  rw [List.mapM_cons] at e
  obtain ⟨y,h1,h2⟩:=Option.bind_eq_some_iff.mp e
  obtain ⟨ys',h3,h4⟩:=Option.bind_eq_some_iff.mp h2
  cases h4
  obtain ⟨v,k1,k2⟩:=h.get h1
  obtain ⟨ys,k3,k4⟩:=ziE h (p:=p) h3
  refine ⟨v::ys,?_,k2.cons k4⟩
  unfold zgS at k3 ⊢
  rw [List.mapM_cons,k1,k3];rfl
theorem AgR.vals0 {B:Nat->Prop} {M:Mm} {sg:Sg}:∀ {ds:List PV} {es:List D},ds.mapM dfD=some es->AgR B M sg (es.map .val) ds
 | [],es,e=>by cases e;trivial
 | d::ds,es,e=>by
  rw [List.mapM_cons] at e
  obtain ⟨y,h1,h2⟩:=Option.bind_eq_some_iff.mp e
  obtain ⟨ys',h3,h4⟩:=Option.bind_eq_some_iff.mp h2
  cases h4
  exact ⟨dfD_ok h1,AgR.vals0 h3⟩
theorem AgR.vals {B:Nat->Prop} {M:Mm} {sg:Sg}:∀ {as:List Ag} {vs ds:List PV} {es:List D},AgR B M sg as vs->ds.mapM dfD=some es->AgR B M sg (as++es.map .val) (vs++ds)
 | [],[],ds,es,_,e=>AgR.vals0 e
 | .val d::as,v::vs,ds,es,h,e=>⟨h.1,AgR.vals h.2 e⟩
 | .io d::as,v::vs,ds,es,h,e=>⟨h.1,AgR.vals h.2 e⟩
 | [],_::_,_,_,h,_=>h.elim
 | .val _::_,[],_,_,h,_=>h.elim
 | .io _::_,[],_,_,h,_=>h.elim
section
variable {A:Bool} {cf:CF} {env:Env} {e a b c o:E} {es:Es}
theorem zlE {f:Nat} {p:List Nat} {Q:OT->Env->Prop} (h:HAr cf es env fun as env1=>∃ bs,permA as p=some bs/\zl9 cf f bs env1 Q):HE false cf (.callp f es p) env Q:=fun sg M nss X S=>by
 obtain ⟨vs,M1,as,env1,nss1,e1,R,ag,bs,hb,q⟩:=h sg M nss X S
 obtain ⟨ys,k1,k2⟩:=ziE ag hb
 obtain ⟨v,M',t,ns,env',nss',e2,R2,q2⟩:=zje R k2 q
 exact ⟨v,M',t,ns,env',nss',by rw [evE,e1];simp only [k1,Option.bind_some];exact e2,R2,q2⟩
end
end Mp.V
namespace Mp.V
open PySem
def tiD (p:Str × Int):D:=.tup [.str p.1,.int p.2]
theorem tiD_inv {B:Nat->Prop} {M:Mm} {p:Str × Int} {x:PV} (h:Rp B M x (tiD p)):x=tiPV p:=by
 cases h with
 | tup h=>cases h with
  | cons h1 h2=>cases h2 with
   | cons h2 h3=>cases h3;cases h1;cases h2;rfl
theorem zhK {B:Nat->Prop} {M:Mm}:∀ {ps:List (Str × Int)} {xs:List PV},Rps B M xs (ps.map tiD)->xs.mapM tiOf=some ps
 | [],_,h=>by cases h;rfl
 | p::ps,_,h=>by
  cases h with
  | cons h1 h2 =>
   obtain rfl:=tiD_inv h1
   rw [List.mapM_cons,zhK h2];rfl
theorem tiD_rp {B:Nat->Prop} {M:Mm} (p:Str × Int):Rp B M (tiPV p) (tiD p):=.tup (.cons (.str _) (.cons (.int _) .nil))
theorem zkC {B:Nat->Prop} {M:Mm}:∀ ps:List (Str × Int),Rps B M (ps.map tiPV) (ps.map tiD)
 | []=>.nil
 | p::ps=>.cons (tiD_rp p) (zkC ps)
theorem ziT {A:Bool} {cf:CF} {a:E} {env:Env} {ps:List (Str × Int)} {Q:OT->Env->Prop} (h:HE A cf a env fun t env1=>(t.top=some (.tup (ps.map tiD))\/t.top=some (.ptup (ps.map tiD)))/\ps.length<64/\Q (.ol ((zaU ps).map tiD)) env1):HE A cf (.blt .ssortp (.cons a .nil)) env Q:=fun sg M nss X S=>by
 obtain ⟨v,M1,t,ns,env1,nss1,e1,R,h1,h2,q⟩:=h sg M nss X S
 have key:tisOf v=some ps:=by
  rcases h1 with h1 | h1
  ·obtain ⟨x,hx,r⟩:=(R.tops (ds:=[.tup (ps.map tiD)]) (by simp [h1])).one
   cases hx
   cases r with
   | tup r=>exact zhK r
  ·obtain ⟨x,hx,r⟩:=(R.tops (ds:=[.ptup (ps.map tiD)]) (by simp [h1])).one
   cases hx
   cases r with
   | ptup r=>exact zhK r
 refine ⟨.ref M1.length,M1++[.lst ((zaU ps).map tiPV)],_,_,env1,nss1,?_,R.newL (zkC _),q⟩
 refine zdg (zae e1) ?_
 simp only [zJ,key,Option.bind_some]
 rw [if_pos h2]
end Mp.V
namespace Mp
open PySem L2
theorem zaa {a b:String}:(Str.ofString a=Str.ofString b)↔a=b:=by
 rw [Str.ofString_eq_toList,Str.ofString_eq_toList]
 constructor
 ·intro h
  have h1:(a.toList.map Char.toNat)=(b.toList.map Char.toNat):=by
   have:=congrArg (fun s:Str=>s.cps.toList) h
   simpa using this
  have h2:a.toList=b.toList:=by
   have inj:∀ {x y:List Char},x.map Char.toNat=y.map Char.toNat->x=y:=by
    intro x
    induction x with
    | nil=>intro y h;cases y with | nil=>rfl | cons _ _=>simp at h
    | cons c cs ih =>
     intro y h
     cases y with
     | nil=>simp at h
     | cons d ds =>
      simp only [List.map_cons,List.cons.injEq] at h
      rw [ih h.2,Char.toNat_inj.mp h.1]
   exact inj h1
  exact String.toList_inj.mp h2
 ·intro h;rw [h]
@[simp] theorem str_eq {a b:String}:(Str.ofString a=Str.ofString b)=(a=b):=propext zaa
@[simp] theorem str_beq {a b:String}:(Str.ofString a == Str.ofString b)=(a == b):=by
 by_cases h:a=b
 ·subst h;rw [beq_self_eq_true,beq_self_eq_true]
 ·have:¬ Str.ofString a=Str.ofString b:=fun e=>h (zaa.mp e)
  rw [beq_eq_false_iff_ne.mpr this,beq_eq_false_iff_ne.mpr h]
def Bx (M:Mm) (b:Nat) (k:Int):Prop:=∃ d s c:Int,M[b]? = some (.lst [.int d,.int s,.int c])/\0<=d/\0<=s/\s<2147483563/\0<=c/\c<=k
theorem take_ok (cf:CF) {M:Mm} {b:Nat} {k n:Int} (h:Bx M b k) (hk:k<1000000000000) (hn:0<n) (hn2:n<1000000000) :
  ∃ (r:Int) (l:List PV),0<=r/\r<n/\zL cf zbI [.ref b,.int n] M=some (.int r,M.set b (.lst l))/\Bx (M.set b (.lst l)) b (k+1):=by
 obtain ⟨d,s,c,hb,h1,h2,h3,h4,h5⟩:=h
 have hlt:b<M.length:=(List.getElem?_eq_some_iff.mp hb).1
 have hn3:n<1073741824:=by omega
 by_cases hd:0<d
 ·refine ⟨d % n,[.int (d / n),.int s,.int c],Int.emod_nonneg _ (by omega),Int.emod_lt_of_pos _ hn,?_,d / n,s,c,by simp [hlt],Int.ediv_nonneg h1 (by omega),h2,h3,h4,by omega⟩
  simp [zL,zbI,zM,evS,evE,zv,hb,zas,atI,ixN,zK,hd,zJ,zat,tgP,zjm,hn,hn3,zl]
 ·have hset:∀ x,(M.set b x)[b]? = some x:=fun x=>by simp [hlt]
  have hc:(s+51749*(c+1)).natAbs<2 ^ 64:=by omega
  have m1:zcY 51749 (c+1)=true:=by simp [zcY]
  have m2:∀ x:Int,zcY (x % 2147483549) (x % 2147483549 % 30011+17)=true:=fun x=>by
   have q1:=Int.emod_nonneg x (show (2147483549:Int)≠0 by decide)
   have q2:=Int.emod_lt_of_pos x (show (0:Int)<2147483549 by decide)
   simp only [zcY,Bool.or_eq_true,Bool.and_eq_true,decide_eq_true_eq]
   omega
  have m3:zcY (c+1) 7039=true:=by simp [zcY]
  refine ⟨(((s+51749*(c+1)) ^ 3 % 2147483549*((s+51749*(c+1)) ^ 3 % 2147483549 % 30011+17)+(c+1)*7039) % 2147483629 / 32) % n,[.int d,.int s,.int (c+1)],Int.emod_nonneg _ (by omega),Int.emod_lt_of_pos _ hn,?_,d,s,c+1,by simp [hlt],h1,h2,h3,by omega,by omega⟩
  simp [zL,zbI,zM,evS,evE,zv,hb,zas,atI,ixN,zK,hd,zJ,zat,tgP,zjm,hn,zl,hset,hn3,hc,m1,m2,m3]
structure Frm (S:List Nat) (M M':Mm):Prop where
 len:M.length<=M'.length
 at_:∀ i,i∉S->i<M.length->M'[i]? = M[i]?
theorem Frm.refl {S:List Nat} {M:Mm}:Frm S M M:=⟨Nat.le_refl _,fun _ _ _=>rfl⟩
theorem Frm.trans {S:List Nat} {M M1 M2:Mm} (a:Frm S M M1) (b:Frm S M1 M2):Frm S M M2 :=
 ⟨Nat.le_trans a.len b.len,fun i h1 h2=>(b.at_ i h1 (Nat.lt_of_lt_of_le h2 a.len)).trans (a.at_ i h1 h2)⟩
theorem Frm.mono {S S':List Nat} {M M1:Mm} (a:Frm S M M1) (h:∀ i∈S,i∈S'):Frm S' M M1:=⟨a.len,fun i h1 h2=>a.at_ i (fun z=>h1 (h i z)) h2⟩
theorem Frm.get {S:List Nat} {M M1:Mm} (a:Frm S M M1) {i:Nat} {o:Ob} (h:M[i]? = some o) (hs:i∉S):M1[i]? = some o:=by
 rw [a.at_ i hs (List.getElem?_eq_some_iff.mp h).1,h]
theorem Frm.set {M:Mm} {i:Nat} {o:Ob} {S:List Nat} (h:i∈S):Frm S M (M.set i o) :=
 ⟨by simp,fun j hj _=>List.getElem?_set_ne (fun z=>hj (by rw [<- z];exact h))⟩
theorem Frm.app {M:Mm} {L:List Ob} {S:List Nat}:Frm S M (M++L):=⟨by simp,fun j _ h=>List.getElem?_append_left h⟩
theorem Frm.lt {S:List Nat} {M M1:Mm} (a:Frm S M M1) {i:Nat} (h:i<M.length):i<M1.length:=Nat.lt_of_lt_of_le h a.len
theorem zy {M:Mm} {i:Nat} {o:Ob} (h:M[i]? = some o):i<M.length:=(List.getElem?_eq_some_iff.mp h).1
theorem Bx.frm {S:List Nat} {M M1:Mm} {b:Nat} {k k':Int} (h:Bx M b k) (a:Frm S M M1) (hs:b∉S) (hk:k<=k'):Bx M1 b k':=by
 obtain ⟨d,s,c,hb,h1,h2,h3,h4,h5⟩:=h
 exact ⟨d,s,c,a.get hb hs,h1,h2,h3,h4,by omega⟩
end Mp
namespace Mp
open PySem L2
theorem ziX {src:Src} {bind:Mm->PV->Sg->Option Sg} {body:Sg->Mm->Option (Fl × Mm)} (I:Nat->Sg->Mm->Prop) {n:Nat}
  (turn:∀ i sg M,i<n->I i sg M->∃ x sg1 sg2 M2,src.get M i=some (some x)/\bind M x sg=some sg1/\body sg1 M=some (.nx sg2,M2)/\I (i+1) sg2 M2)
  (stop:∀ sg M,I n sg M->src.get M n=some none):∀ (m i:Nat) (sg:Sg) (M:Mm),n-i<m->i<=n->I i sg M->∃ sg' M',zgy src bind body m i sg M=some (.nx sg',M')/\I n sg' M'
 | 0,_,_,_,h,_,_=>by omega
 | m+1,i,sg,M,h,hi,hI=>by
  by_cases e:i=n
  ·subst e
   exact ⟨sg,M,by simp only [zgy,stop sg M hI],hI⟩
  ·obtain ⟨x,sg1,sg2,M2,h1,h2,h3,h4⟩:=turn i sg M (by omega) hI
   obtain ⟨sg',M',h5,h6⟩:=ziX I turn stop m (i+1) sg2 M2 (by omega) (by omega) h4
   exact ⟨sg',M',by simp only [zgy,h1,h2,h3,h5],h6⟩
theorem zcD {src:Src} {bind:Mm->PV->Sg->Option Sg} {body:Sg->Mm->Option (Fl × Mm)} (I:Nat->Sg->Mm->Prop) {n:Nat} {sg:Sg} {M:Mm} (hn:n<100000) (h0:I 0 sg M)
  (turn:∀ i sg M,i<n->I i sg M->∃ x sg1 sg2 M2,src.get M i=some (some x)/\bind M x sg=some sg1/\body sg1 M=some (.nx sg2,M2)/\I (i+1) sg2 M2)
  (stop:∀ sg M,I n sg M->src.get M n=some none):∃ sg' M',zgy src bind body zdC 0 sg M=some (.nx sg',M')/\I n sg' M' :=
 ziX I turn stop zdC 0 sg M (by unfold zdC;omega) (Nat.zero_le _) h0
theorem zh2 {src:Src} {bind:Mm->PV->Sg->Option Sg} {c e:Sg->Mm->R} {d:Nat} {sg:Sg} (I:Nat->Mm->Prop) {n:Nat}
  (turn:∀ i M,i<n->I i M->∃ x sg1,src.get M i=some (some x)/\bind M x sg=some sg1/\((∃ M1 y M2 acc,c sg1 M=some (.bl true,M1)/\e sg1 M1=some (y,M2)/\zl M2 d=some acc/\acc.length<16777216/\I (i+1) (M2.set d (.lst (acc++[y]))))\/(∃ M1,c sg1 M=some (.bl false,M1)/\I (i+1) M1)))
  (stop:∀ M,I n M->src.get M n=some none):∀ (m i:Nat) (M:Mm),n-i<m->i<=n->I i M->∃ M',lcL src bind c e d sg m i M=some M'/\I n M'
 | 0,_,_,h,_,_=>by omega
 | m+1,i,M,h,hi,hI=>by
  by_cases e1:i=n
  ·subst e1
   exact ⟨M,by simp only [lcL,stop M hI],hI⟩
  ·obtain ⟨x,sg1,h1,h2,h3⟩:=turn i M (by omega) hI
   rcases h3 with ⟨M1,y,M2,acc,k1,k2,k3,k4,k5⟩ | ⟨M1,k1,k2⟩
   ·obtain ⟨M',h5,h6⟩:=zh2 I turn stop m (i+1) _ (by omega) (by omega) k5
    exact ⟨M',by simp only [lcL,h1,h2,k1,k2,k3];rw [if_pos (show acc.length<sizeLine from k4)];exact h5,h6⟩
   ·obtain ⟨M',h5,h6⟩:=zh2 I turn stop m (i+1) M1 (by omega) (by omega) k2
    exact ⟨M',by simp only [lcL,h1,h2,k1,h5],h6⟩
theorem zeN {src:Src} {bind:Mm->PV->Sg->Option Sg} {c e:Sg->Mm->R} {d:Nat} {sg:Sg} (I:Nat->Mm->Prop) {n:Nat} {M:Mm} (hn:n<100000) (h0:I 0 M)
  (turn:∀ i M,i<n->I i M->∃ x sg1,src.get M i=some (some x)/\bind M x sg=some sg1/\((∃ M1 y M2 acc,c sg1 M=some (.bl true,M1)/\e sg1 M1=some (y,M2)/\zl M2 d=some acc/\acc.length<16777216/\I (i+1) (M2.set d (.lst (acc++[y]))))\/(∃ M1,c sg1 M=some (.bl false,M1)/\I (i+1) M1)))
  (stop:∀ M,I n M->src.get M n=some none):∃ M',lcL src bind c e d sg zdC 0 M=some M'/\I n M' :=
 zh2 I turn stop zdC 0 M (by unfold zdC;omega) (Nat.zero_le _) h0
def HT (cf:CF):Prop:=∀ (M:Mm) (b:Nat) (k n:Int),Bx M b k->k<1000000000000->0<n->n<1000000000 ->
 ∃ (r:Int) (l:List PV),0<=r/\r<n/\cf zr [.ref b,.int n] M=some (.int r,M.set b (.lst l))/\Bx (M.set b (.lst l)) b (k+1)
theorem ht (j:Nat):HT (cfN tab (j+1)):=fun M b k n h hk h1 h2=>take_ok (cfN tab j) h hk h1 h2
end Mp
namespace Mp
open PySem L2
theorem Frm.comp {S T:List Nat} {M0 M M':Mm} (a:Frm S M0 M) (b:Frm T M M') (h:∀ i∈T,i∈S\/M0.length<=i):Frm S M0 M' :=
 ⟨Nat.le_trans a.len b.len,fun i h1 h2=>by
  rw [b.at_ i (fun z=>(h i z).elim h1 (fun q=>absurd h2 (by omega))) (Nat.lt_of_lt_of_le h2 a.len)]
  exact a.at_ i h1 h2⟩
theorem Frm.wr {S:List Nat} {M0 M:Mm} {j:Nat} {x:Ob} (a:Frm S M0 M) (h:M0.length<=j):Frm S M0 (M.set j x) :=
 a.comp (Frm.set (S:=[j]) (by simp)) (by simp;exact .inr h)
end Mp
namespace Mp
open PySem L2
theorem mapM_some {α β:Type} {f:α->Option β} {g:α->β}:∀ {xs:List α},(∀ x∈xs,f x=some (g x))->xs.mapM f=some (xs.map g)
 | [],_=>rfl
 | x::xs,h=>by
  rw [List.mapM_cons,h x (by simp),mapM_some (xs:=xs) (fun y hy=>h y (by simp [hy]))]
  rfl
def fd:PV->PyData
 | .bl b=>.bool b | .int i=>.int i | .str s=>.str s | _=>.none
def FlOk:PV->Prop
 | .non=>True | .bl _=>True | .int _=>True | .str s=>PyData.canLay0 (.str s)=true | _=>False
theorem toD_flat {k:Nat} {M:Mm} {x:PV} (h:FlOk x):toD (k+1) M x=some (fd x):=by
 cases x<;>first | rfl | exact h.elim
theorem ziL {x:PV} (h:FlOk x):PyData.canLay0 (fd x)=true/\PyData.depth (fd x)=0:=by
 cases x<;>first | exact h.elim | exact ⟨h,rfl⟩ | exact ⟨rfl,rfl⟩
theorem layAll {xs:List PyData}:(∀ x∈xs,PyData.canLay0 x=true)->PyData.canLayAll0 xs=true:=by
 intro h
 induction xs with
 | nil=>rfl
 | cons x xs ih=>rw [PyData.canLayAll0,h x (by simp),ih (fun y hy=>h y (by simp [hy]))];rfl
theorem depAll {xs:List PyData} {n:Nat}:(∀ x∈xs,PyData.depth x<=n)->PyData.depthAll xs<=n:=by
 intro h
 induction xs with
 | nil=>exact Nat.zero_le _
 | cons x xs ih=>rw [PyData.depthAll];exact Nat.max_le.mpr ⟨h x (by simp),ih (fun y hy=>h y (by simp [hy]))⟩
structure Rd (k:Nat) (M:Mm) (x:PV) (d:PyData):Prop where
 to:toD k M x=some d
 lay:PyData.canLay0 d=true
 dep:PyData.depth d<k
theorem Rd.flat {k:Nat} {M:Mm} {x:PV} (h:FlOk x):Rd (k+1) M x (fd x):=⟨toD_flat h,(ziL h).1,by rw [(ziL h).2];omega⟩
theorem Rd.tup {k : Nat} {M : Mm} {xs : List PV} {g : PV → PyData} (h : ∀ x ∈ xs, Rd k M x (g x)) (hk : 0 < k) : Rd (k + 1) M (.tup xs) (.tuple (xs.map g)) :=
  ⟨by simp only [toD]; rw [mapM_some (fun x hx => (h x hx).to)]; rfl,
   by rw [PyData.canLay0]; exact layAll (by intro y hy; obtain ⟨x, hx, rfl⟩ := List.mem_map.mp hy; exact (h x hx).lay),
   by rw [PyData.depth]; have := depAll (xs := xs.map g) (n := k - 1) (by intro y hy; obtain ⟨x, hx, rfl⟩ := List.mem_map.mp hy; have := (h x hx).dep; omega); omega⟩
theorem Rd.lst {k : Nat} {M : Mm} {n : Nat} {xs : List PV} {g : PV → PyData} (hn : M[n]? = some (.lst xs)) (h : ∀ x ∈ xs, Rd k M x (g x)) (hk : 0 < k) : Rd (k + 1) M (.ref n) (.list (xs.map g)) :=
  ⟨by simp only [toD, hn]; rw [mapM_some (fun x hx => (h x hx).to)]; rfl,
   by rw [PyData.canLay0]; exact layAll (by intro y hy; obtain ⟨x, hx, rfl⟩ := List.mem_map.mp hy; exact (h x hx).lay),
   by rw [PyData.depth]; have := depAll (xs := xs.map g) (n := k - 1) (by intro y hy; obtain ⟨x, hx, rfl⟩ := List.mem_map.mp hy; have := (h x hx).dep; omega); omega⟩
theorem Rd.up {k:Nat} {M:Mm}:∀ {x:PV} {d:PyData},Rd k M x d->Rd (k+1) M x d:=by
 suffices h:∀ (k:Nat) (x:PV) (d:PyData),toD k M x=some d->toD (k+1) M x=some d from
  fun {x d} q=>⟨h _ _ _ q.to,q.lay,Nat.lt_succ_of_lt q.dep⟩
 have mm:∀ (k:Nat),(∀ (x:PV) (d:PyData),toD k M x=some d->toD (k+1) M x=some d)->∀ (xs:List PV) (ds:List PyData),xs.mapM (toD k M)=some ds->xs.mapM (toD (k+1) M)=some ds:=by
  intro k ih xs
  induction xs with
  | nil=>intro ds h;exact h
  | cons x xs ih2 =>
   intro ds h
   rw [List.mapM_cons] at h ⊢
   obtain ⟨d,h1,h2⟩:=Option.bind_eq_some_iff.mp h
   obtain ⟨es,h3,h4⟩:=Option.bind_eq_some_iff.mp h2
   rw [ih _ _ h1,ih2 _ h3]
   exact h4
 intro k
 induction k with
 | zero=>intro x d h;cases x<;>cases h
 | succ k ih =>
  intro x d h
  cases x with
  | tup xs =>
   simp only [toD] at h ⊢
   obtain ⟨ds,h1,h2⟩:=Option.map_eq_some_iff.mp h
   rw [mm k ih _ _ h1];exact congrArg some h2
  | ptup xs =>
   simp only [toD] at h ⊢
   obtain ⟨ds,h1,h2⟩:=Option.map_eq_some_iff.mp h
   rw [mm k ih _ _ h1];exact congrArg some h2
  | ref n =>
   simp only [toD] at h ⊢
   cases e:M[n]? with
   | none=>rw [e] at h;cases h
   | some o =>
    cases o with
    | dic _=>rw [e] at h;cases h
    | ins _ _=>rw [e] at h;cases h
    | slt _ _=>rw [e] at h;cases h
    | frz _=>rw [e] at h;cases h
    | lst xs =>
     rw [e] at h
     obtain ⟨ds,h1,h2⟩:=Option.map_eq_some_iff.mp h
     show Option.map _ _=_
     rw [mm k ih _ _ h1];exact congrArg some h2
  | _=>exact h
theorem Rd.le {k j:Nat} {M:Mm} {x:PV} {d:PyData} (h:Rd k M x d) (hj:k<=j):Rd j M x d:=by
 induction hj with
 | refl=>exact h
 | step _ ih=>exact ih.up
theorem Rd.shaped {k:Nat} {M:Mm} {x:PV} {d:PyData} (h:Rd k M x d) (hk:k<=20):toD 20 M x=some d/\SeqAt.shaped d=true:=by
 have h':=h.le hk
 refine ⟨h'.to,?_⟩
 unfold SeqAt.shaped
 rw [h'.lay]
 have:=h'.dep
 simp;omega
theorem zgh {j:Nat} {M:Mm} {n m:Nat} {xs:List PV} {g:PV->PyData} (hn:M[n]? = some (.lst xs)) (hm:M[m]? = some (.lst [])) (h:∀ x∈xs,Rd j M x (g x)) (h0:0<j) (hj:j<20) :
  eqP M (.ref n) (.ref m)=some xs.isEmpty:=by
 have a:=(Rd.lst hn h h0).shaped (by omega)
 have b:=(Rd.lst (k:=1) (g:=fd) hm (by simp) (by omega)).shaped (by omega)
 simp only [eqP,eqS,a.1,b.1,a.2,b.2]
 cases xs<;>simp [PyData.eqv,PyData.eqvAll]
@[simp] theorem eqP_str {M:Mm} {a b:Str}:eqP M (.str a) (.str b)=some (decide (a=b)):=rfl
@[simp] theorem eqP_int {M:Mm} {a b:Int}:eqP M (.int a) (.int b)=some (decide (a=b)):=rfl
@[simp] theorem eqP_bl {M:Mm} {a b:Bool}:eqP M (.bl a) (.bl b)=some (decide (a=b)):=rfl
end Mp
namespace Mp
open PySem L2
@[simp] theorem ty_beq (a b:Ty):(a == b)=decide (a=b):=rfl
theorem za5 {M:Mm} {a:Ob}:(M++[a])[M.length]? = some a:=by simp
theorem at0 {x:PV} {l:List PV}:atI (x::l) 0=some x:=by
 unfold atI ixN;rw [if_pos (by omega),if_pos (by simp only [List.length_cons];omega)];rfl
theorem at1 {x y:PV} {l:List PV}:atI (x::y::l) 1=some y:=by
 unfold atI ixN;rw [if_pos (by omega),if_pos (by simp only [List.length_cons];omega)];rfl
theorem Frm.comp' {S T:List Nat} {M0 M M':Mm} (a:Frm S M0 M) (b:Frm T M M') (h:∀ i∈T,i∈S\/M0.length<=i):Frm S M0 M' :=
 ⟨Nat.le_trans a.len b.len,fun i h1 h2=>by
  rw [b.at_ i (fun z=>(h i z).elim h1 (fun q=>absurd h2 (by omega))) (Nat.lt_of_lt_of_le h2 a.len)]
  exact a.at_ i h1 h2⟩
def Gd (b:List Nat):Nat->Mm->PV->Prop
 | 0=>fun _ _=>False
 | k+1=>fun M x =>
  match x with
  | .non=>True
  | .bl _=>True
  | .int _=>True
  | .str s=>s.length<1000/\PyData.canLay0 (.str s)=true
  | .tup xs=>xs.length<500/\∀ x∈xs,Gd b k M x
  | .ref n=>n∉b/\∃ xs,M[n]? = some (.lst xs)/\xs.length<500/\∀ x∈xs,Gd b k M x
  | _=>False
theorem Gd.frm {b:List Nat} {M M':Mm} (a:Frm b M M'):∀ {k:Nat} {x:PV},Gd b k M x->Gd b k M' x
 | 0,_,h=>h.elim
 | k+1,x,h=>by
  cases x with
  | tup xs=>exact ⟨h.1,fun x hx=>(h.2 x hx).frm a⟩
  | ref n =>
   obtain ⟨h1,xs,h2,h3,h4⟩:=h
   exact ⟨h1,xs,a.get h2 h1,h3,fun x hx=>(h4 x hx).frm a⟩
  | cl _=>exact h.elim
  | fn _ _=>exact h.elim
  | ptup _=>exact h.elim
  | _=>exact h
theorem Gd.up {b:List Nat} {k:Nat} {M:Mm}:∀ {x:PV},Gd b k M x->Gd b (k+1) M x:=by
 induction k with
 | zero=>intro x h;exact h.elim
 | succ k ih =>
  intro x h
  cases x with
  | tup xs=>exact ⟨h.1,fun x hx=>ih (h.2 x hx)⟩
  | ref n =>
   obtain ⟨h1,xs,h2,h3,h4⟩:=h
   exact ⟨h1,xs,h2,h3,fun x hx=>ih (h4 x hx)⟩
  | cl _=>exact h.elim
  | fn _ _=>exact h.elim
  | ptup _=>exact h.elim
  | _=>exact h
theorem Gd.le {b:List Nat} {k j:Nat} {M:Mm} {x:PV} (h:Gd b k M x) (hj:k<=j):Gd b j M x:=by
 induction hj with
 | refl=>exact h
 | step _ ih=>exact ih.up
theorem Gd.rd {b:List Nat} {M:Mm}:∀ {k:Nat} {x:PV},Gd b k M x->∃ d,Rd (k+1) M x d
 | 0,_,h=>h.elim
 | k+1,x,h=>by
  cases x with
  | non=>exact ⟨_,Rd.flat (x:=.non) trivial⟩
  | bl v=>exact ⟨_,Rd.flat (x:=.bl v) trivial⟩
  | int v=>exact ⟨_,Rd.flat (x:=.int v) trivial⟩
  | str s=>exact ⟨_,Rd.flat (x:=.str s) h.2⟩
  | tup xs =>
   refine ⟨_,Rd.tup (g:=fun x=>(toD (k+1) M x).getD .none) (fun x hx=>?_) (by omega)⟩
   obtain ⟨d,hd⟩:=(h.2 x hx).rd
   rw [hd.to];exact hd
  | ref n =>
   obtain ⟨h1,xs,h2,h3,h4⟩:=h
   refine ⟨_,Rd.lst (g:=fun x=>(toD (k+1) M x).getD .none) h2 (fun x hx=>?_) (by omega)⟩
   obtain ⟨d,hd⟩:=(h4 x hx).rd
   rw [hd.to];exact hd
  | cl _=>exact h.elim
  | fn _ _=>exact h.elim
  | ptup _=>exact h.elim
end Mp
namespace Mp
open PySem L2
def Pt (R:PV->PV->Prop) (xs ys:List PV):Prop:=xs.length<1000/\xs.length=ys.length/\∀ (i:Nat) (x y:PV),xs[i]? = some x->ys[i]? = some y->R x y
def Sm:Nat->Mm->PV->PV->Prop
 | 0=>fun _ _ _=>False
 | k+1=>fun M x y =>
  match x,y with
  | .tup xs,.tup ys=>Pt (Sm k M) xs ys
  | .ref n,.ref m=>∃ xs ys,M[n]? = some (.lst xs)/\M[m]? = some (.lst ys)/\Pt (Sm k M) xs ys
  | .non,.non=>True
  | .bl a,.bl b=>a=b
  | .int a,.int b=>a=b
  | .str a,.str b=>a=b
  | _,_=>False
theorem Sm.frm {M M':Mm} (a:Frm [] M M'):∀ {k:Nat} {x y:PV},Sm k M x y->Sm k M' x y
 | 0,_,_,h=>h.elim
 | k+1,x,y,h=>by
  cases x<;>cases y<;>first | exact h.elim | exact h | skip
  ·exact ⟨h.1,h.2.1,fun i x y h1 h2=>(h.2.2 i x y h1 h2).frm a⟩
  ·obtain ⟨xs,ys,h1,h2,h3,h4,h5⟩:=h
   exact ⟨xs,ys,a.get h1 (by simp),a.get h2 (by simp),h3,h4,fun i x y h1 h2=>(h5 i x y h1 h2).frm a⟩
theorem ze6:∀ n:Nat,ze7 (List.replicate n (.bl true))=some (List.replicate n true)
 | 0=>rfl
 | n+1=>by simp [List.replicate_succ,ze7,ze6 n]
def HS (cf:CF) (k:Nat):Prop:=∀ (M:Mm) (x y:PV),Sm k M x y->∃ M',cf zeo [x,y] M=some (.bl true,M')/\Frm [] M M'
theorem ziy {cf:CF} {k:Nat} (H:HS cf k) {M:Mm} {x y:PV} {s t:Src} {xs ys:List PV} (hx:zam M x=some s) (hy:zam M y=some t) (hz:(s.isL && t.isL || s.isT && t.isT)=true)
  (gx:∀ M',Frm [] M M'->∀ i,s.get M' i=some xs[i]?) (gy:∀ M',Frm [] M M'->∀ i,t.get M' i=some ys[i]?) (hl:xs.length<1000) (he:xs.length=ys.length) (h:∀ (i:Nat) (x y:PV),xs[i]? = some x->ys[i]? = some y->Sm k M x y) :
  ∃ M',evE cf (.blt .all (.cons (.lc [2,3] (.tup [2,3]) (.zip (.var 0) (.var 1)) (.con (.bl true)) zbi) .nil)) [some x,some y,none,none] M=some (.bl true,M')/\Frm [] M M':=by
 have hz3:(s.isL && t.isL || s.isT && t.isT || s.isT && t.isL)=true:=by rw [hz];rfl
 obtain ⟨M1,e1,c1,F1⟩:=zeN (src:=.zip s t) (bind:=tgP (.tup [2,3])) (c:=fun sg M=>evE cf (.con (.bl true)) sg M) (e:=fun sg M=>evE cf zbi sg M) (d:=M.length) (sg:=[some x,some y,none,none]) (fun i N=>N[M.length]? = some (.lst (List.replicate i (.bl true)))/\Frm [] M N) (n:=xs.length) (M:=M++[Ob.lst []]) (by omega)
  ⟨by simp,.app⟩
  (by
   intro i N hi hI
   obtain ⟨c1,F1⟩:=hI
   have hi2:i<ys.length:=by omega
   have a1:=gx N F1 i
   have a2:=gy N F1 i
   rw [List.getElem?_eq_getElem hi] at a1
   rw [List.getElem?_eq_getElem hi2] at a2
   have sm:=h i xs[i] ys[i] (List.getElem?_eq_getElem hi) (List.getElem?_eq_getElem hi2)
   obtain ⟨N1,e2,F2⟩:=H N _ _ (sm.frm F1)
   refine ⟨.tup [xs[i],ys[i]],[some x,some y,some xs[i],some ys[i]],by simp [Src.get,a1,a2],rfl,.inl ⟨N,.bl true,N1,List.replicate i (.bl true),by simp [evE],?_,by simp [zl,F2.get c1 (by simp)],by simp;omega,?_,?_⟩⟩
   ·simp [zbi,evE,zv,e2]
   ·have:=zy (F2.get c1 (by simp))
    simp [this,List.replicate_succ']
   ·exact (F1.trans F2).wr (Nat.le_refl _))
  (by
   intro N hI
   obtain ⟨c1,F1⟩:=hI
   have a1:=gx N F1 xs.length
   have a2:=gy N F1 xs.length
   rw [he] at a2
   simp at a1 a2
   rw [he] at a1 ⊢
   simp [Src.get,a1,a2])
 refine ⟨M1,?_,F1⟩
 have hI:evI cf (.zip (.var 0) (.var 1)) [some x,some y,none,none] M=some (.zip s t,M):=by
  simp only [evI,evE,List.getElem?_cons_zero,List.getElem?_cons_succ,hx,hy]
  rw [if_pos hz3]
 have hE:evE cf (.lc [2,3] (.tup [2,3]) (.zip (.var 0) (.var 1)) (.con (.bl true)) zbi) [some x,some y,none,none] M=some (.ref M.length,M1):=by
  rw [evE,hI]
  have hwp:z6 [some x,some y,none,none] [2,3]=[some x,some y,none,none]:=rfl
  simp only [hwp,e1];rfl
 generalize E.lc [2,3] (.tup [2,3]) (.zip (.var 0) (.var 1)) (.con (.bl true)) zbi=q at hE
 simp [evE,zv,hE,zJ,zl,c1,ze6]
theorem same_ok {cf:CF} {k:Nat} (H:HS cf k) {M:Mm} {x y:PV} (h:Sm (k+1) M x y):∃ M',zL cf zax [x,y] M=some (.bl true,M')/\Frm [] M M':=by
 cases x with
 | tup xs =>
  cases y with
  | tup ys =>
   obtain ⟨h1,h2,h3⟩:=h
   obtain ⟨M',e,F⟩:=ziy H (M:=M) (x:=.tup xs) (y:=.tup ys) (s:=.tup xs) (t:=.tup ys) rfl rfl rfl (fun _ _ _=>rfl) (fun _ _ _=>rfl) h1 h2 h3
   refine ⟨M',?_,F⟩
   generalize hq:E.blt .all (.cons (.lc [2,3] (.tup [2,3]) (.zip (.var 0) (.var 1)) (.con (.bl true)) zbi) .nil)=q at e
   simp [zL,zax,hq,zM,evS,evE,zv,zgw,zkb,zK,zJ,h2,e]
  | _=>exact h.elim
 | ref n =>
  cases y with
  | ref m =>
   obtain ⟨xs,ys,q1,q2,h1,h2,h3⟩:=h
   obtain ⟨M',e,F⟩:=ziy H (M:=M) (x:=.ref n) (y:=.ref m) (s:=.lst n) (t:=.lst m) (by simp [zam,zl,q1]) (by simp [zam,zl,q2]) rfl (fun N a i=>by simp [Src.get,zl,a.get q1 (by simp)]) (fun N a i=>by simp [Src.get,zl,a.get q2 (by simp)]) h1 h2 h3
   refine ⟨M',?_,F⟩
   generalize hq:E.blt .all (.cons (.lc [2,3] (.tup [2,3]) (.zip (.var 0) (.var 1)) (.con (.bl true)) zbi) .nil)=q at e
   simp [zL,zax,hq,zM,evS,evE,zv,zgw,zkb,q1,q2,zK,zJ,h2,e]
  | _=>exact h.elim
 | non=>cases y<;>first | exact h.elim | exact ⟨M,by simp [zL,zax,zM,evS,evE,zv,zgw,zkb,zK,eqP,eqS],.refl⟩
 | bl b=>cases y<;>first | exact h.elim | (cases (show b=_ from h);exact ⟨M,by simp [zL,zax,zM,evS,evE,zv,zgw,zkb,zK,eqP,eqS],.refl⟩)
 | int b=>cases y<;>first | exact h.elim | (cases (show b=_ from h);exact ⟨M,by simp [zL,zax,zM,evS,evE,zv,zgw,zkb,zK,eqP,eqS],.refl⟩)
 | str b=>cases y<;>first | exact h.elim | (cases (show b=_ from h);exact ⟨M,by simp [zL,zax,zM,evS,evE,zv,zgw,zkb,zK,eqP,eqS],.refl⟩)
 | cl _=>cases y<;>exact h.elim
 | fn _ _=>cases y<;>exact h.elim
 | ptup _=>cases y<;>exact h.elim
theorem hs (j:Nat):∀ k,HS (cfN tab (j+k)) k
 | 0=>fun _ _ _ h=>h.elim
 | k+1=>fun _ _ _ h=>same_ok (hs j k) h
theorem Sm.lst {k:Nat} {M:Mm} {n m:Nat} {xs:List PV} (h1:M[n]? = some (.lst xs)) (h2:M[m]? = some (.lst xs)) (hl:xs.length<1000) (h:∀ x∈xs,Sm k M x x):Sm (k+1) M (.ref n) (.ref m) :=
 ⟨xs,xs,h1,h2,hl,rfl,fun i x y a b=>by rw [a] at b;cases b;exact h x (List.mem_of_getElem? a)⟩
theorem Sm.tup {k:Nat} {M:Mm} {xs:List PV} (hl:xs.length<1000) (h:∀ x∈xs,Sm k M x x):Sm (k+1) M (.tup xs) (.tup xs) :=
 ⟨hl,rfl,fun i x y a b=>by rw [a] at b;cases b;exact h x (List.mem_of_getElem? a)⟩
theorem Sm.flat {k:Nat} {M:Mm} {x:PV} (h:zaS x=true):Sm (k+1) M x x:=by
 cases x<;>simp [zaS] at h<;>simp [Sm]
end Mp
namespace Mp
open PySem L2
theorem e_mth {cf:CF} {sg:Sg} {M M1 M2:Mm} {o:E} {es:Es} {m:Mt} {x:PV} {xs:List PV} {q:R} (h:evE cf o sg M=some (x,M1)) (hk:zds M1 m x=true) (h2:zv cf es sg M1=some (xs,M2)) (h3:zef M2 m x xs=q):evE cf (.mth m o es) sg M=q:=by
 rw [evE,h];simp only [hk,h2];exact h3
theorem cut_hi {xs:List PV} {u:Nat}:zid xs none (some (u:Int))=xs.take u:=by
 unfold zid
 rw [HT.sIx_nat,HT.sIx_none]
 rw [List.drop_zero,Nat.sub_zero]
 by_cases h:u<=xs.length
 ·rw [Nat.min_eq_left h]
 ·rw [Nat.min_eq_right (by omega),List.take_of_length_le (Nat.le_refl _),List.take_of_length_le (by omega)]
theorem zh1 {src:Src} {bind:Mm->PV->Sg->Option Sg} {c e:Sg->Mm->R} {sg:Sg} {M1:Mm} {xs:List PV} (p:PV->Bool) (g:PV->PV)
  (hs:∀ acc i,src.get (M1++[.lst acc]) i=some xs[i]?)
  (h:∀ x∈xs,∀ acc,∃ sg1,bind (M1++[.lst acc]) x sg=some sg1/\c sg1 (M1++[.lst acc])=some (.bl (p x),M1++[.lst acc])/\(p x=true->e sg1 (M1++[.lst acc])=some (g x,M1++[.lst acc]))) (hl:xs.length<100000) :
  lcL src bind c e M1.length sg zdC 0 (M1++[.lst []])=some (M1++[.lst ((xs.filter p).map g)]):=by
 obtain ⟨M',h1,h2⟩:=zeN (src:=src) (bind:=bind) (c:=c) (e:=e) (d:=M1.length) (sg:=sg) (fun i N=>N=M1++[.lst (((xs.take i).filter p).map g)]) (n:=xs.length) (M:=M1++[.lst []]) hl (by simp)
  (by
   intro i N hi hN
   subst hN
   obtain ⟨sg1,q1,q2,q3⟩:=h xs[i] (List.getElem_mem hi) (((xs.take i).filter p).map g)
   refine ⟨xs[i],sg1,by rw [hs,List.getElem?_eq_getElem hi],q1,?_⟩
   have hsp:xs.take (i+1)=xs.take i++[xs[i]]:=by rw [List.take_succ_eq_append_getElem hi]
   cases hp:p xs[i] with
   | true =>
    rw [hp] at q2
    refine .inl ⟨_,_,_,((xs.take i).filter p).map g,q2,q3 hp,by simp [zl],?_,?_⟩
    ·have:=List.length_filter_le p (xs.take i)
     have h2:(xs.take i).length<=i:=by simp;omega
     simp;omega
    ·rw [hsp,List.filter_append,List.map_append];simp [hp]
   | false =>
    rw [hp] at q2
    refine .inr ⟨_,q2,?_⟩
    rw [hsp,List.filter_append,List.map_append];simp [hp])
  (by intro N hN;subst hN;rw [hs];simp)
 rw [List.take_length] at h2
 rw [h1,h2]
theorem zcC {kvs:List (Key × PV)} {k:Key} {v:PV}:getD (zaH kvs k v) k=some v:=by
 unfold getD zaH
 split
 ·rename_i h
  induction kvs with
  | nil=>simp at h
  | cons a r ih =>
   by_cases e:a.1=k
   ·simp [e]
   ·simp only [List.any_cons,decide_eq_false e,Bool.false_or] at h
    simpa [e] using ih h
 ·rename_i h
  simp only [List.any_eq_true,decide_eq_true_eq,not_exists,not_and] at h
  have:kvs.find? (fun kv=>decide (kv.1=k))=none:=List.find?_eq_none.mpr fun x hx=>by simpa using h x hx
  simp [List.find?_append,this]
theorem zbh {kvs:List (Key × PV)} {k k':Key} {v:PV} (hk:k'≠k):getD (zaH kvs k v) k'=getD kvs k':=by
 unfold getD zaH
 split
 ·rename_i h
  clear h
  induction kvs with
  | nil=>rfl
  | cons a r ih =>
   by_cases e:a.1=k
   ·have e2:¬ k=k':=fun q=>hk q.symm
    have e3:¬ a.1=k':=fun q=>hk (q.symm.trans e)
    simpa [e,e2,e3,List.find?_cons] using ih
   ·by_cases e3:a.1=k'
    ·simp [e,e3,List.find?_cons,hk]
    ·simpa [e,e3,List.find?_cons] using ih
 ·simp [List.find?_append,Ne.symm hk]
theorem zbt {kvs:List (Key × PV)} {k:Key} {v:PV} (h:getD kvs k=some v):(k,v)∈kvs:=by
 unfold getD at h
 obtain ⟨kv,h1,h2⟩:=Option.map_eq_some_iff.mp h
 have h3:=List.mem_of_find?_eq_some h1
 have h4:=List.find?_some h1
 simp at h4
 rw [<- h2,<- h4];exact h3
theorem zem (kvs:List (Key × PV)) (k:Key) (v:PV):(zaH kvs k v).length<=kvs.length+1:=by
 unfold zaH;split<;>simp
theorem zel {kvs:List (Key × PV)} {k:Key} {v:PV} {x:Key × PV} (h:x∈zaH kvs k v):x∈kvs\/x=(k,v):=by
 unfold zaH at h
 split at h
 ·obtain ⟨y,h1,h2⟩:=List.mem_map.mp h
  split at h2
  ·rename_i e;right;rw [<- h2,e]
  ·left;rw [<- h2];exact h1
 ·rcases List.mem_append.mp h with h | h
  ·exact .inl h
  ·right;simpa using h
theorem zfA {α:Type} (xs:List α):xs.filter (fun _=>true)=xs:=List.filter_eq_self.mpr (by simp)
def nonB:PV->Bool
 | .non=>true | _=>false
theorem zfx:∀ ns:List Int,zaV (ns.map PV.int)=some ns
 | []=>rfl
 | n::ns=>by simp [zaV,zfx ns]
theorem zfs {cf:CF} {own:List Nat} {t:Tg} {it:It} {c e:E} {sg:Sg} {M M1:Mm} {s:Src} {xs:List PV} (p:PV->Bool) (g:PV->PV) (hI:evI cf it sg M=some (s,M1)) (hs:∀ acc i,s.get (M1++[.lst acc]) i=some xs[i]?) (hl:xs.length<10000)
  (turn:∀ x∈xs,∀ acc,∃ sg1,tgP t (M1++[.lst acc]) x (z6 sg own)=some sg1/\evE cf c sg1 (M1++[.lst acc])=some (.bl (p x),M1++[.lst acc])/\(p x=true->evE cf e sg1 (M1++[.lst acc])=some (g x,M1++[.lst acc]))) :
  evE cf (.lc own t it c e) sg M=some (.ref M1.length,M1++[Ob.lst ((xs.filter p).map g)]):=by
 have hlc:=zh1 (src:=s) (bind:=tgP t) (c:=fun sg M=>evE cf c sg M) (e:=fun sg M=>evE cf e sg M) (sg:=z6 sg own) (M1:=M1) (xs:=xs) p g hs (fun x hx acc=>turn x hx acc) (by omega)
 rw [evE,hI];simp only [hlc];rfl
structure En where
 key:Str
 val:PV
 gone:Bool
 pas:Option Int
def En.pv (e:En):PV:=match e.pas with | none=>.non | some i=>.int i
def En.sl (e:En):List (Option PV):=[some (.bl e.gone),some (.str e.key),some e.pv,some e.val]
structure LS where
 hold:Int
 gs:List PV
 es:List En
 pl:List (Key × PV)
 tb:List (Key × List (Key × PV))
 co:List (PV × List (Key × PV))
 tm:Int
structure LA where
 e:Nat
 p:Nat
 t:Nat
 c:Nat
 xs:List Nat
 ts:List Nat
 cs:List Nat
def LA.all (A:LA) (o:Nat):List Nat:=o::A.e::A.p::A.t::A.c::(A.xs++(A.ts++A.cs))
def flds (A:LA) (S:LS):List (Str × PV):=[("own_hold",.int S.hold),("own_guards",.tup S.gs),("own_entries",.ref A.e),("own_places",.ref A.p),("own_tables",.ref A.t),("own_copies",.ref A.c),("own_time",.int S.tm)]
def tbRf (A:LA) (S:LS):List (Key × PV):=(S.tb.zip A.ts).map fun q=>(q.1.1,.ref q.2)
def coL (A:LA) (S:LS):List PV:=(S.co.zip A.cs).map fun q=>.tup [q.1.1,.ref q.2]
structure LgAt (M:Mm) (o:Nat) (A:LA) (S:LS):Prop where
 o_:M[o]? = some (.ins "Log" (flds A S))
 e_:M[A.e]? = some (.lst (A.xs.map .ref))
 p_:M[A.p]? = some (.dic S.pl)
 t_:M[A.t]? = some (.dic (tbRf A S))
 c_:M[A.c]? = some (.lst (coL A S))
 xl:A.xs.length=S.es.length
 tl:A.ts.length=S.tb.length
 cl:A.cs.length=S.co.length
 x_:∀ (i n:Nat) (e:En),A.xs[i]? = some n->S.es[i]? = some e->M[n]? = some (.slt "Entry" e.sl)
 d_:∀ (i n:Nat) (q:Key × List (Key × PV)),A.ts[i]? = some n->S.tb[i]? = some q->M[n]? = some (.dic q.2)
 k_:∀ (i n:Nat) (q:PV × List (Key × PV)),A.cs[i]? = some n->S.co[i]? = some q->M[n]? = some (.dic q.2)
 nd:(A.all o).Nodup
theorem LgAt.frm {M M' : Mm} {o : Nat} {A : LA} {S : LS} {T : List Nat} (h : LgAt M o A S) (F : Frm T M M') (hT : ∀ i ∈ A.all o, i ∉ T) : LgAt M' o A S :=
  ⟨F.get h.o_ (hT _ (by simp [LA.all])), F.get h.e_ (hT _ (by simp [LA.all])), F.get h.p_ (hT _ (by simp [LA.all])), F.get h.t_ (hT _ (by simp [LA.all])), F.get h.c_ (hT _ (by simp [LA.all])), h.xl, h.tl, h.cl,
   fun i n e a b => F.get (h.x_ i n e a b) (hT _ (by simp [LA.all, List.mem_of_getElem? a])), fun i n e a b => F.get (h.d_ i n e a b) (hT _ (by simp [LA.all, List.mem_of_getElem? a])), fun i n e a b => F.get (h.k_ i n e a b) (hT _ (by simp [LA.all, List.mem_of_getElem? a])), h.nd⟩
theorem LgAt.lt {M:Mm} {o:Nat} {A:LA} {S:LS} (h:LgAt M o A S):∀ i∈A.all o,i<M.length:=by
 intro i hi
 simp only [LA.all,List.mem_cons,List.mem_append] at hi
 rcases hi with rfl | rfl | rfl | rfl | rfl | hi | hi | hi
 ·exact zy h.o_
 ·exact zy h.e_
 ·exact zy h.p_
 ·exact zy h.t_
 ·exact zy h.c_
 ·obtain ⟨j,hj⟩:=List.mem_iff_getElem?.mp hi
  have hl:j<S.es.length:=by rw [<- h.xl];exact (List.getElem?_eq_some_iff.mp hj).1
  exact zy (h.x_ j i _ hj (List.getElem?_eq_getElem hl))
 ·obtain ⟨j,hj⟩:=List.mem_iff_getElem?.mp hi
  have hl:j<S.tb.length:=by rw [<- h.tl];exact (List.getElem?_eq_some_iff.mp hj).1
  exact zy (h.d_ j i _ hj (List.getElem?_eq_getElem hl))
 ·obtain ⟨j,hj⟩:=List.mem_iff_getElem?.mp hi
  have hl:j<S.co.length:=by rw [<- h.cl];exact (List.getElem?_eq_some_iff.mp hj).1
  exact zy (h.k_ j i _ hj (List.getElem?_eq_getElem hl))
theorem LgAt.app {M:Mm} {L:List Ob} {o:Nat} {A:LA} {S:LS} (h:LgAt M o A S):LgAt (M++L) o A S:=h.frm (T:=[]) .app (by simp)
section
variable {cf:CF} {sg:Sg} {M M1:Mm} {o:Nat} {A:LA} {S:LS} {a:E}
theorem LgAt.ins (h:LgAt M o A S):zcA M "Log" o=some (flds A S):=by simp [zcA,h.o_]
end
def LS.old (S:LS) (e:En):Bool:=match e.pas with | none=>false | some p=>decide (p+S.hold<=S.tm)
end Mp
namespace Mp
open PySem L2
structure WF (S:LS):Prop where
 gs:∀ g∈S.gs,∃ (s:Str) (m:Int),g=.tup [.str s,.int m]
 pv:∀ kv∈S.pl,∃ i:Int,kv.2=.int i
 cv:∀ q∈S.co,∃ i:Int,q.1=.int i
 ev:∀ e∈S.es,e.val=.non\/∃ i:Int,e.val=.int i
 gl:S.gs.length<1000
 el:S.es.length<1000
 pn:S.pl.length<1000
 tn:S.tb.length<1000
 cn:S.co.length<1000
 tk:S.tb.map (·.1)=S.pl.map (·.1)
 td:∀ q∈S.tb,q.2.length<1000
 kd:∀ q∈S.co,q.2.length<1000
 kn:(S.pl.map (·.1)).Nodup
def toI:PV->Int
 | .int i=>i | _=>0
def LS.g1 (S:LS) (acc:List PV):PV->List PV
 | .tup [.str s,.int m]=>if s = "copy" then acc++zid (S.co.map (·.1)) (some m) (some (m+1)) else (match getD S.pl (.inl m) with | some v=>acc++[v] | none=>acc)
 | _=>acc
def LS.gf (S:LS) (k:Nat):List PV:=(S.gs.take k).foldl S.g1 [.int S.es.length]
def LS.lim (S:LS):Int:=(minI ((S.gf S.gs.length).map toI)).getD 0
end Mp
namespace Mp
open PySem L2
theorem ix_inj {l:List Nat} (h:l.Nodup) {i j n:Nat} (a:l[i]? = some n) (b:l[j]? = some n):i=j:=by
 obtain ⟨h1,e1⟩:=List.getElem?_eq_some_iff.mp a
 obtain ⟨h2,e2⟩:=List.getElem?_eq_some_iff.mp b
 exact (List.getElem_inj h).mp (e1.trans e2.symm)
def LS.goes (S:LS) (l:Int) (i:Nat) (e:En):Bool:=nonB e.val && (!e.gone && (S.old e && decide ((i:Int)<l)))
def LS.up (S:LS) (l:Int):Nat->List En
 | 0=>S.es
 | k+1=>match S.es[k]? with | some e=>if S.goes l k e then (S.up l k).set k { e with gone:=true } else S.up l k | none=>S.up l k
def LS.fo (S:LS) (l:Int):Nat->List PV
 | 0=>[]
 | k+1=>match S.es[k]? with | some e=>if S.goes l k e then S.fo l k++[.int k] else S.fo l k | none=>S.fo l k
def LS.lg (S:LS):LS:={ S with es:=S.up S.lim S.es.length }
theorem zgG (S:LS) (l:Int):∀ k,(S.up l k).length=S.es.length
 | 0=>rfl
 | k+1=>by
  have ih:=zgG S l k
  unfold LS.up
  split
  ·split
   ·simp [ih]
   ·exact ih
  ·exact ih
theorem zir (S:LS) (l:Int):∀ k e,e∈S.up l k->∃ e0∈S.es,e.val=e0.val/\e.key=e0.key
 | 0,e,h=>⟨e,h,rfl,rfl⟩
 | k+1,e,h=>by
  unfold LS.up at h
  split at h
  ·rename_i e1 he1
   split at h
   ·rcases List.mem_or_eq_of_mem_set h with h | h
    ·exact zir S l k e h
    ·subst h;exact ⟨e1,List.mem_of_getElem? he1,rfl,rfl⟩
   ·exact zir S l k e h
  ·exact zir S l k e h
theorem WF.es {S:LS} (w:WF S) {es:List En} (hl:es.length<1000) (h:∀ e∈es,e.val=.non\/∃ i:Int,e.val=.int i):WF { S with es:=es }:=⟨w.gs,w.pv,w.cv,h,w.gl,hl,w.pn,w.tn,w.cn,w.tk,w.td,w.kd,w.kn⟩
theorem WF.lg {S:LS} (w:WF S):WF S.lg:=w.es (by rw [zgG];exact w.el) fun e he=>by
 obtain ⟨e0,h0,h1,_⟩:=zir S _ _ e he
 rw [h1];exact w.ev e0 h0
theorem WF.tm {S:LS} (w:WF S) (t:Int):WF { S with tm:=t }:=⟨w.gs,w.pv,w.cv,w.ev,w.gl,w.el,w.pn,w.tn,w.cn,w.tk,w.td,w.kd,w.kn⟩
def LS.go (S:LS):LS:=LS.lg { S with tm:=S.tm+1 }
theorem WF.go {S:LS} (w:WF S):WF S.go:=(w.tm _).lg
end Mp
namespace Mp
open PySem L2
def LS.add (S:LS) (k:Str) (v:PV):LS:={ S with es:=S.es++[⟨k,v,false,none⟩] }
theorem WF.add {S:LS} (w:WF S) {k:Str} {v:PV} (hv:v=.non\/∃ i:Int,v=.int i) (hl:S.es.length+1<1000):WF (S.add k v):=w.es (by simp;omega) fun e he=>by
 rcases List.mem_append.mp he with he | he
 ·exact w.ev e he
 ·simp at he;subst he;exact hv
def LS.row (i:Nat) (e:En):PV:=.tup [.int i,.str e.key,e.val]
def LS.th (S:LS):List PV:=(S.es.zipIdx.filter fun q=>!q.1.gone).map fun q=>.tup [.int q.2,.str q.1.key,q.1.val]
end Mp
namespace Mp
open PySem L2
structure Sw where
 es:List En
 fo:List PV
 la:List (Key × PV)
def En.hit (e:En) (la:List (Key × PV)):Bool:=!e.gone && (getD la (.inr e.key)).isSome
def LS.s1 (S:LS) (s:Sw) (i:Nat):Sw:=match S.es[i]? with
 | none=>s
 | some e=>⟨s.es.set i { e with gone:=e.gone || e.hit s.la,pas:=some (e.pas.getD S.tm) },if e.hit s.la then s.fo++[.int i] else s.fo,zaH s.la (.inr e.key) (.bl true)⟩
def LS.sw (S:LS) (p:Nat):Nat->Sw
 | 0=>⟨S.es,[],[]⟩
 | t+1=>S.s1 (S.sw p t) (p-1-t)
theorem zgI (S:LS) (p:Nat):∀ t,(S.sw p t).es.length=S.es.length/\(S.sw p t).fo.length<=t/\(S.sw p t).la.length<=t
 | 0=>⟨rfl,by simp [LS.sw],by simp [LS.sw]⟩
 | t+1=>by
  obtain ⟨h1,h2,h3⟩:=zgI S p t
  show (S.s1 (S.sw p t) (p-1-t)).es.length=_/\(S.s1 (S.sw p t) (p-1-t)).fo.length<=_/\(S.s1 (S.sw p t) (p-1-t)).la.length<=_
  unfold LS.s1
  split
  ·exact ⟨h1,by omega,by omega⟩
  ·rename_i e he
   refine ⟨by simp [h1],?_,?_⟩
   ·show (if _ then _ else _:List PV).length<=_
    split
    ·simp;omega
    ·omega
   ·have:=zem (S.sw p t).la (.inr e.key) (.bl true)
    show (zaH _ _ _).length<=_
    omega
theorem zkI (S:LS) (p:Nat):∀ t e,e∈(S.sw p t).es->∃ e0∈S.es,e.val=e0.val/\e.key=e0.key
 | 0,e,h=>⟨e,h,rfl,rfl⟩
 | t+1,e,h=>by
  have h':e∈(S.s1 (S.sw p t) (p-1-t)).es:=h
  unfold LS.s1 at h'
  split at h'
  ·exact zkI S p t e h'
  ·rename_i e1 he1
   rcases List.mem_or_eq_of_mem_set h' with h' | h'
   ·exact zkI S p t e h'
   ·subst h';exact ⟨e1,List.mem_of_getElem? he1,rfl,rfl⟩
def LS.swd (S:LS) (p:Nat):LS:={ S with es:=(S.sw p p).es }
def LS.sws (S:LS) (p:Nat):LS:=(S.swd p).lg
theorem WF.swd {S:LS} (w:WF S) (p:Nat):WF (S.swd p):=w.es (by rw [(zgI S p p).1];exact w.el) fun e he=>by
 obtain ⟨e0,h0,h1,_⟩:=zkI S p p e he
 rw [h1];exact w.ev e0 h0
theorem WF.sws {S:LS} (w:WF S) (p:Nat):WF (S.sws p):=(w.swd p).lg
end Mp
namespace Mp
open PySem L2
abbrev Tab:=List (Key × PV)
def zlc (tb:List (Key × Tab)) (k:Key) (t:Tab):List (Key × Tab):=if (tb.any fun q=>decide (q.1=k))=true then tb.map (fun q=>if q.1=k then (q.1,t) else q) else tb++[(k,t)]
def LS.seat (S:LS) (r:Int) (v:PV) (t:Tab):LS:={ S with pl:=zaH S.pl (.inl r) v,tb:=zlc S.tb (.inl r) t }
theorem zeI (kvs:List (Key × PV)) (k:Key) (v:PV):(zaH kvs k v).map (·.1)=if (kvs.any fun q=>decide (q.1=k))=true then kvs.map (·.1) else kvs.map (·.1)++[k]:=by
 unfold zaH
 split
 ·rw [List.map_map]
  refine List.map_congr_left fun q _=>?_
  by_cases e:q.1=k<;>simp [e]
 ·simp
theorem zlb (kvs:List (Key × Tab)) (k:Key) (v:Tab):(zlc kvs k v).map (·.1)=if (kvs.any fun q=>decide (q.1=k))=true then kvs.map (·.1) else kvs.map (·.1)++[k]:=by
 unfold zlc
 split
 ·rw [List.map_map]
  refine List.map_congr_left fun q _=>?_
  by_cases e:q.1=k<;>simp [e]
 ·simp
theorem zmf {α:Type} (l:List (Key × α)) (k:Key):(l.any fun q=>decide (q.1=k))=(l.map (·.1)).any (fun q=>decide (q=k)):=by rw [List.any_map];rfl
theorem putT_mem {tb:List (Key × Tab)} {k:Key} {t:Tab} {q:Key × Tab} (h:q∈zlc tb k t):q.2=t\/q∈tb:=by
 unfold zlc at h
 split at h
 ·obtain ⟨z,h1,h2⟩:=List.mem_map.mp h
  by_cases e:z.1=k
  ·rw [if_pos e] at h2;left;rw [<- h2]
  ·rw [if_neg e] at h2;subst h2;exact .inr h1
 ·rcases List.mem_append.mp h with q' | q'
  ·exact .inr q'
  ·left;simp at q';rw [q']
theorem WF.seat {S:LS} (w:WF S) {r:Int} {v:PV} {t:Tab} (hv:∃ i:Int,v=.int i) (ht:t.length<1000) (hp:S.pl.length+1<1000):WF (S.seat r v t):=by
 have hk:(zlc S.tb (.inl r) t).map (·.1)=(zaH S.pl (.inl r) v).map (·.1):=by rw [zlb,zeI,zmf,zmf,w.tk]
 have hl:=zem S.pl (.inl r) v
 refine ⟨w.gs,fun kv h=>?_,w.cv,w.ev,w.gl,w.el,by show (zaH _ _ _).length<_;omega,?_,w.cn,hk,fun q h=>?_,w.kd,?_⟩
 ·rcases zel h with h | h
  ·exact w.pv kv h
  ·rw [h];exact hv
 ·have:=congrArg List.length hk
  simp at this
  show (zlc _ _ _).length<_
  omega
 ·rcases putT_mem h with h | h
  ·rw [h];exact ht
  ·exact w.td q h
 ·show ((zaH S.pl (.inl r) v).map (·.1)).Nodup
  rw [zeI]
  split
  ·exact w.kn
  ·rename_i hany
   rw [List.nodup_append]
   refine ⟨w.kn,by simp,fun a ha b hb=>?_⟩
   simp at hb
   subst hb
   intro z
   subst z
   obtain ⟨q,h1,h2⟩:=List.mem_map.mp ha
   exact hany (List.any_eq_true.mpr ⟨q,h1,decide_eq_true h2⟩)
end Mp
namespace Mp
open PySem L2
def LS.tabOf (S:LS) (k:Key):Tab:=((S.tb.find? fun q=>decide (q.1=k)).map (·.2)).getD []
def LS.sv (S:LS) (v:PV) (t:Tab):LS:={ S with co:=S.co++[(v,t)] }
theorem WF.sv {S:LS} (w:WF S) {v:PV} {t:Tab} (hv:∃ i:Int,v=.int i) (ht:t.length<1000) (hc:S.co.length+1<1000):WF (S.sv v t):=by
 refine ⟨w.gs,w.pv,fun q h=>?_,w.ev,w.gl,w.el,w.pn,w.tn,by show (S.co++_).length<_;simp;omega,w.tk,w.td,fun q h=>?_,w.kn⟩
 ·rcases List.mem_append.mp h with h | h
  ·exact w.cv q h
  ·simp at h;subst h;exact hv
 ·rcases List.mem_append.mp h with h | h
  ·exact w.kd q h
  ·simp at h;subst h;exact ht
end Mp
namespace Mp
open PySem L2
def pin (b u:Int):PV->Bool
 | .tup (.int i::_)=>decide (b<=i) && decide (i<u)
 | _=>false
def LS.rows (S:LS) (b u:Int):List PV:=S.th.filter (pin b u)
def upd1 (t:Tab):PV->Tab
 | .tup [_,.str k,v]=>if nonB v then zcm t (.inr k) else zaH (zcm t (.inr k)) (.inr k) v
 | _=>t
def LS.rt (S:LS) (r b u:Int):Tab:=(S.rows b u).foldl upd1 (S.tabOf (.inl r))
theorem th_len (S:LS):S.th.length<=S.es.length:=by
 unfold LS.th
 rw [List.length_map]
 exact Nat.le_trans (List.length_filter_le _ _) (by simp)
theorem rows_len (S:LS) (b u:Int):(S.rows b u).length<=S.es.length:=Nat.le_trans (List.length_filter_le _ _) (th_len S)
theorem upd1_len (t:Tab) (x:PV):(upd1 t x).length<=t.length+1:=by
 unfold upd1
 split
 ·have h1:=List.length_filter_le (fun kv:Key × PV=>decide (kv.1≠.inr ‹Str›)) t
  split
  ·show (zcm _ _).length<=_
   unfold zcm;omega
  ·have h2:=zem (zcm t (.inr ‹Str›)) (.inr ‹Str›) ‹PV›
   unfold zcm at h2 ⊢
   omega
 ·omega
theorem ziZ:∀ (l:List PV) (t:Tab),(l.foldl upd1 t).length<=t.length+l.length
 | [],t=>by simp
 | x::l,t=>by
  have h1:=ziZ l (upd1 t x)
  have h2:=upd1_len t x
  simp only [List.foldl_cons,List.length_cons]
  omega
end Mp
namespace Mp
open PySem L2
def tblOf (t:Tab):List PV:=match zft t with | some l=>(zeC l).map (fun e=>.tup [.str e.1,e.2]) | none=>[]
def LS.ks (S:LS) (k:Str):List Nat:=(S.es.zipIdx.filter fun q=>decide (q.1.key=k)).map (·.2)
end Mp
namespace Mp
open PySem L2
def LS.wrB (S:LS) (b:Int) (k:Str):Bool:=match (S.ks k).getLast? with
 | some i=>(match S.es[i]? with | some e=>nonB e.val && decide ((i:Int)<b) | none=>false)
 | none=>false
def LS.wrg (S:LS) (b:Int) (l:List (Str × PV)):List PV:=(l.filter fun e=>S.wrB b e.1).map fun e=>.str e.1
def LS.cps (S:LS):List PV:=S.co.map fun q=>.tup [q.1,.tup (tblOf q.2)]
end Mp
namespace Mp
open PySem L2
def AT:Nat->Mm->PV->PV->Prop
 | 0=>fun _ _ _=>False
 | k+1=>fun M x y =>
  match x with
  | .tup xs=>∃ ys,y=.tup ys/\Pt (AT k M) xs ys
  | .ref n=>∃ xs ys,M[n]? = some (.lst xs)/\y=.tup ys/\Pt (AT k M) xs ys
  | .non=>y=x
  | .bl _=>y=x
  | .int _=>y=x
  | .str _=>y=x
  | _=>False
theorem AT.frm {M M':Mm} (a:Frm [] M M'):∀ {k:Nat} {x y:PV},AT k M x y->AT k M' x y
 | 0,_,_,h=>h.elim
 | k+1,x,y,h=>by
  cases x with
  | tup xs =>
   obtain ⟨ys,h1,h2,h3,h4⟩:=h
   exact ⟨ys,h1,h2,h3,fun i x y a1 a2=>(h4 i x y a1 a2).frm a⟩
  | ref n =>
   obtain ⟨xs,ys,h0,h1,h2,h3,h4⟩:=h
   exact ⟨xs,ys,a.get h0 (by simp),h1,h2,h3,fun i x y a1 a2=>(h4 i x y a1 a2).frm a⟩
  | cl _=>exact h.elim
  | fn _ _=>exact h.elim
  | ptup _=>exact h.elim
  | _=>exact h
def Pl:Nat->PV->Prop
 | 0=>fun _=>False
 | k+1=>fun x =>
  match x with
  | .tup xs=>xs.length<1000/\∀ x∈xs,Pl k x
  | .non=>True
  | .bl _=>True
  | .int _=>True
  | .str _=>True
  | _=>False
theorem Pl.at_:∀ {k:Nat} {M:Mm} {x:PV},Pl k x->AT k M x x
 | 0,_,_,h=>h.elim
 | k+1,M,x,h=>by
  cases x with
  | tup xs=>exact ⟨xs,rfl,h.1,rfl,fun i x y a b=>by rw [a] at b;cases b;exact (h.2 x (List.mem_of_getElem? a)).at_⟩
  | ref n=>exact h.elim
  | cl _=>exact h.elim
  | fn _ _=>exact h.elim
  | ptup _=>exact h.elim
  | _=>exact rfl
theorem Pl.sm:∀ {k:Nat} {M:Mm} {x:PV},Pl k x->Sm k M x x
 | 0,_,_,h=>h.elim
 | k+1,M,x,h=>by
  cases x with
  | tup xs=>exact Sm.tup h.1 fun x hx=>(h.2 x hx).sm
  | ref n=>exact h.elim
  | cl _=>exact h.elim
  | fn _ _=>exact h.elim
  | ptup _=>exact h.elim
  | non=>exact trivial
  | bl _=>exact rfl
  | int _=>exact rfl
  | str _=>exact rfl
structure LoA (M0 M:Mm) (o:Nat) (A:LA) (S:LS) (rs:List (Nat × Ob)):Prop where
 at_:LgAt M o A S
 wf:WF S
 ge:∀ i∈A.all o,M0.length<=i
 fr:Frm [] M0 M
 rs_:∀ q∈rs,q.1∉A.all o/\M[q.1]? = some q.2
def Lo (M0 M:Mm) (o:Nat) (S:LS) (rs:List (Nat × Ob)):Prop:=∃ A,LoA M0 M o A S rs
theorem LoA.step {M0 M M':Mm} {o:Nat} {A A':LA} {S S':LS} {rs:List (Nat × Ob)} (h:LoA M0 M o A S rs) (L:LgAt M' o A' S') (w:WF S') (hA:∀ i∈A'.all o,i∈A.all o\/M.length<=i) (F:Frm (A.all o) M M'):LoA M0 M' o A' S' rs:=by
 refine ⟨L,w,fun i hi=>?_,h.fr.comp' F fun i hi=>.inr (h.ge i hi),fun q hq=>?_⟩
 ·rcases hA i hi with h1 | h1
  ·exact h.ge i h1
  ·exact Nat.le_trans h.fr.len h1
 ·obtain ⟨h1,h2⟩:=h.rs_ q hq
  refine ⟨fun z=>?_,F.get h2 h1⟩
  rcases hA _ z with h3 | h3
  ·exact h1 h3
  ·have:=zy h2;omega
theorem LoA.more {M0 M M':Mm} {o:Nat} {A:LA} {S:LS} {rs:List (Nat × Ob)} (h:LoA M0 M o A S rs) (F:Frm [] M M'):LoA M0 M' o A S rs:=h.step (h.at_.frm F (by simp)) h.wf (fun i hi=>.inl hi) (F.mono (by simp))
theorem LoA.new {M0 M:Mm} {o:Nat} {A:LA} {S:LS} {rs:List (Nat × Ob)} (h:LoA M0 M o A S rs) {n:Nat} {x:Ob} (hn:n∉A.all o) (hx:M[n]? = some x):LoA M0 M o A S ((n,x)::rs) :=
 ⟨h.at_,h.wf,h.ge,h.fr,fun q hq=>by
  rcases List.mem_cons.mp hq with rfl | hq
  ·exact ⟨hn,hx⟩
  ·exact h.rs_ q hq⟩
theorem LoA.fresh {M0 M:Mm} {o:Nat} {A:LA} {S:LS} {rs:List (Nat × Ob)} (h:LoA M0 M o A S rs) {n:Nat} (hn:M.length<=n):n∉A.all o:=fun z=>by have:=h.at_.lt n z;omega
theorem Lo.more {M0 M M':Mm} {o:Nat} {S:LS} {rs:List (Nat × Ob)} (h:Lo M0 M o S rs) (F:Frm [] M M'):Lo M0 M' o S rs:=h.elim fun A a=>⟨A,a.more F⟩
theorem Lo.get {M0 M:Mm} {o:Nat} {S:LS} {rs:List (Nat × Ob)} (h:Lo M0 M o S rs) {q:Nat × Ob} (hq:q∈rs):M[q.1]? = some q.2:=h.elim fun A a=>(a.rs_ q hq).2
theorem Lo.fr {M0 M:Mm} {o:Nat} {S:LS} {rs:List (Nat × Ob)} (h:Lo M0 M o S rs):Frm [] M0 M:=h.elim fun A a=>a.fr
theorem Lo.add {M0 M:Mm} {o:Nat} {S:LS} {rs:List (Nat × Ob)} (h:Lo M0 M o S rs) (x:Ob):Lo M0 (M++[x]) o S ((M.length,x)::rs):=by
 obtain ⟨A,a⟩:=h
 exact ⟨A,(a.more .app).new (a.fresh (Nat.le_refl _)) za5⟩
theorem Lo.chg {M0 M:Mm} {o n:Nat} {S:LS} {x y:Ob} {rs:List (Nat × Ob)} (h:Lo M0 M o S ((n,x)::rs)) (hm:M0.length<=n) (hr:∀ q∈rs,q.1≠n):Lo M0 (M.set n y) o S ((n,y)::rs):=by
 obtain ⟨A,a⟩:=h
 obtain ⟨h1,h2⟩:=a.rs_ (n,x) (by simp)
 have F:Frm [n] M (M.set n y):=Frm.set (by simp)
 refine ⟨A,a.at_.frm F (fun i hi=>?_),a.wf,a.ge,a.fr.wr hm,fun q hq=>?_⟩
 ·simp;rintro rfl;exact h1 hi
 ·rcases List.mem_cons.mp hq with rfl | hq
  ·exact ⟨h1,by rw [List.getElem?_set_self (zy h2)]⟩
  ·obtain ⟨h3,h4⟩:=a.rs_ q (by simp [hq])
   exact ⟨h3,F.get h4 (by simpa using hr q hq)⟩
end Mp
namespace Mp
open PySem L2
inductive Ev where
 | put (k:Str) (v:Int) | drop (k:Str) | join (r:Int) | read (r u:Int) | save (r:Int) | load (r:Int) (c:Nat) | wait
def Ev.pv:Ev->PV
 | .put k v=>.tup [.str "put",.str k,.int v]
 | .drop k=>.tup [.str "drop",.str k]
 | .join r=>.tup [.str "join",.int r]
 | .read r u=>.tup [.str "read",.int r,.int u]
 | .save r=>.tup [.str "save",.int r]
 | .load r c=>.tup [.str "load",.int r,.int c]
 | .wait=>.tup [.str "wait"]
def LS.can (S:LS):Ev->Bool
 | .put _ _=>decide (S.es.length<29)
 | .drop _=>decide (S.es.length<29)
 | .join _=>decide (S.pl.length<900)
 | .read r u=>(match getD S.pl (.inl r) with | some (.int b)=>decide (b<u) && decide (u<=S.es.length) | _=>false) && decide (S.es.length<30) && decide (S.pl.length<900) && decide ((S.tabOf (.inl r)).length<900)
 | .save r=>(getD S.pl (.inl r)).isSome && decide (S.co.length<900)
 | .load _ c=>decide (c<S.co.length) && decide (S.pl.length<900)
 | .wait=>true
def LS.do_ (S:LS):Ev->LS
 | .put k v=>(S.add k (.int v)).go
 | .drop k=>(S.add k .non).go
 | .join r=>(S.seat r (.int 0) []).go
 | .read r u=>(match getD S.pl (.inl r) with | some (.int b)=>(S.seat r (.int u) (S.rt r b u)).go | _=>S)
 | .save r=>(match getD S.pl (.inl r) with | some v=>(S.sv v (S.tabOf (.inl r))).go | none=>S)
 | .load r c=>(match S.co[c]? with | some q=>(S.seat r q.1 q.2).go | none=>S)
 | .wait=>S.go
end Mp
namespace Mp
open PySem L2
def LS.new (hold:Int) (gs:List PV):LS:=⟨hold,gs,[],[],[],[],0⟩
def GsOk (gs:List PV):Prop:=gs.length<1000/\∀ g∈gs,∃ (s:Str) (m:Int),g=.tup [.str s,.int m]
theorem WF.new {hold:Int} {gs:List PV} (h:GsOk gs):WF (LS.new hold gs):=⟨h.2,by simp [LS.new],by simp [LS.new],by simp [LS.new],h.1,by simp [LS.new],by simp [LS.new],by simp [LS.new],by simp [LS.new],rfl,by simp [LS.new],by simp [LS.new],by simp [LS.new]⟩
def swP (q:Int × Nat):PV:=.tup [.int q.1,.int q.2]
def LS.swl (S:LS) (l:List (Int × Nat)):LS:=l.foldl (fun S q=>S.sws q.2) S
theorem zkG (S:LS) (p:Nat):(S.sws p).es.length=S.es.length:=by
 show ((S.swd p).up (S.swd p).lim (S.swd p).es.length).length=_
 rw [zgG]
 exact (zgI S p p).1
end Mp
namespace Mp
open PySem L2
def Ct (M:Mm) (x y:PV):Prop:=(x=y/\Pl 4 x)\/∃ n m xs,x=.ref n/\y=.ref m/\M[n]? = some (.lst xs)/\M[m]? = some (.lst xs)/\xs.length<1000/\∀ z∈xs,Pl 4 z
def CtL (M:Mm):List PV->List PV->Prop
 | [],[]=>True
 | x::xs,y::ys=>Ct M x y/\CtL M xs ys
 | _,_=>False
theorem Pl.up {k:Nat}:∀ {x:PV},Pl k x->Pl (k+1) x:=by
 induction k with
 | zero=>intro x h;exact h.elim
 | succ k ih =>
  intro x h
  cases x with
  | tup xs=>exact ⟨h.1,fun x hx=>ih (h.2 x hx)⟩
  | ref _=>exact h.elim
  | cl _=>exact h.elim
  | fn _ _=>exact h.elim
  | ptup _=>exact h.elim
  | _=>exact h
theorem Ct.sm {M:Mm} {x y:PV} (h:Ct M x y):Sm 5 M x y:=by
 rcases h with ⟨rfl,h⟩ | ⟨n,m,xs,rfl,rfl,h1,h2,h3,h4⟩
 ·exact h.up.sm
 ·exact Sm.lst h1 h2 h3 fun x hx=>(h4 x hx).sm
theorem CtL.at_ {M:Mm}:∀ {xs ys:List PV},CtL M xs ys->xs.length=ys.length/\∀ (i:Nat) (x y:PV),xs[i]? = some x->ys[i]? = some y->Sm 5 M x y
 | [],[],_=>⟨rfl,by simp⟩
 | x::xs,y::ys,h=>by
  obtain ⟨h1,h2⟩:=h
  obtain ⟨h3,h4⟩:=CtL.at_ h2
  refine ⟨by simp [h3],fun i p q a b=>?_⟩
  cases i with
  | zero=>simp at a b;subst a;subst b;exact h1.sm
  | succ i=>simp at a b;exact h4 i p q a b
 | [],_::_,h=>h.elim
 | _::_,[],h=>h.elim
def srt (l:List (Str × PV)):List PV:=(zeC l).map fun e=>.tup [.str e.1,e.2]
structure Fin (S:LS) (r:Int) (b:Int) (l:List (Str × PV)):Prop where
 g:getD S.pl (.inl r)=some (.int b)
 k:zft (S.tabOf (.inl r))=some l
 n:l.length<64
 s:∀ e∈l,S.ks e.1≠[]
theorem Fin.tb {S:LS} {r b:Int} {l:List (Str × PV)} (h:Fin S r b l):tblOf (S.tabOf (.inl r))=srt l:=by simp [tblOf,h.k,srt]
end Mp
namespace Mp
open PySem L2
def Ev.ent:Ev->Bool
 | .put _ _=>true | .drop _=>true | _=>false
def many (es:List Ev) (t:Nat):Nat:=((es.take t).filter Ev.ent).length
def zk8:PV->Bool
 | .tup (.str w::_)=>decide (w = "put") || decide (w = "drop")
 | _=>false
theorem ent_pv (e:Ev):zk8 e.pv=e.ent:=by
 cases e<;>simp [Ev.pv,zk8,Ev.ent,zaa]
def Ev.word:Ev->String
 | .put _ _ => "put" | .drop _ => "drop" | .join _ => "join" | .read _ _ => "read" | .save _ => "save" | .load _ _ => "load" | .wait => "wait"
theorem word_at (e:Ev):∃ l,e.pv=.tup (.str e.word::l):=by cases e<;>exact ⟨_,rfl⟩
theorem in2 {M:Mm} {w a b:String}:zK M .isin (.str w) (.tup [.str a,.str b])=some (decide (w=a) || decide (w=b)):=by
 simp [zK,zcx,inP,zaS,eqF,zaa]
 by_cases h1:a=w<;>by_cases h2:b=w<;>simp [h1,h2,eq_comm (a:=w)]
theorem e_slc {cf:CF} {sg:Sg} {M M1 M2 M3:Mm} {fl fh:Bool} {a lo hi:E} {x y z:PV} {q:R} (h:evE cf a sg M=some (x,M1)) (h2:evE cf lo sg M1=some (y,M2)) (h3:evE cf hi sg M2=some (z,M3)) (h4:zhD fl fh M3 x y z=q):evE cf (.slc fl fh a lo hi) sg M=q:=by
 rw [evE,h];simp only [h2,h3];exact h4
def HMn (cf:CF):Prop:=∀ (M:Mm) (es:List Ev) (t:Nat),es.length<1000->∃ M',cf zeR [.tup (es.map Ev.pv),.int t] M=some (.int (many es t),M')/\Frm [] M M'
theorem zlo (cf:CF) {M:Mm} {es:List Ev} {t:Nat} (hl:es.length<1000):∃ M',zL cf za0 [.tup (es.map Ev.pv),.int t] M=some (.int (many es t),M')/\Frm [] M M':=by
 let sg0:Sg:=[some (.tup (es.map Ev.pv)),some (.int t),none]
 have hI:evI cf (.seq (.slc false true (.var 0) (.con .non) (.var 1))) sg0 M=some (.tup ((es.map Ev.pv).take t),M):=by
  rw [evI,e_slc (q:=some (.tup ((es.map Ev.pv).take t),M)) (zU (v:=.tup (es.map Ev.pv)) rfl) zaB (zU (v:=.int t) rfl) (by simp [zhD,zgV,cut_hi])]
  rfl
 have e1:=zfs (cf:=cf) (own:=[2]) (t:=.name 2) (c:=zcW) (e:=.var 2) (sg:=sg0) (xs:=(es.map Ev.pv).take t) zk8 id hI
  (by intro acc i;rfl) (by simp;omega)
  (by
   intro x hx acc
   obtain ⟨e,_,rfl⟩:=List.mem_map.mp (List.mem_of_mem_take hx)
   refine ⟨[some (.tup (es.map Ev.pv)),some (.int t),some e.pv],rfl,?_,fun _=>zU rfl⟩
   rw [ent_pv]
   obtain ⟨l,hw⟩:=word_at e
   refine zha (zia (zU (v:=e.pv) rfl) zaB (z:=.str e.word) (by rw [hw];exact at0)) (zjN (zP zaB (zae zaB)) (by simp)) ?_
   refine in2.trans ?_
   cases e<;>rfl)
 have hlen:(((es.map Ev.pv).take t).filter zk8).length=many es t:=by
  unfold many
  rw [<- List.map_take,List.filter_map,List.length_map]
  congr 1
  exact List.filter_congr fun e _=>ent_pv e
 refine ⟨_,zeF rfl (zgL (zdg (zae e1) (q:=some (.int (many es t),M++[Ob.lst ((((es.map Ev.pv).take t).filter zk8).map id)])) ?_)),.app⟩
 simp [zJ,hlen]
theorem hmn (j:Nat):HMn (cfN tab (j+1)):=fun M es t h=>zlo (cfN tab j) h
def bP (q:Int × Int):PV:=.tup [.int q.1,.int q.2]
def pts (bs:List (Int × Int)) (t:Nat):List Int:=(bs.filter fun q=>decide ((t:Int)<=q.1)).map (·.2)
def BdAt (M:Mm) (bd:PV) (bs:List (Int × Int)):Prop:=∀ N,Frm [] M N->∃ s,zam N bd=some s/\∀ L i,s.get (N++L) i=some (bs.map bP)[i]?
theorem BdAt.lst {M:Mm} {n:Nat} {bs:List (Int × Int)} (h:M[n]? = some (.lst (bs.map bP))):BdAt M (.ref n) bs:=fun N F=>by
 have g:=F.get h (by simp)
 refine ⟨.lst n,by simp [zam,zl,g],fun L i=>?_⟩
 have:(N++L)[n]? = some (.lst (bs.map bP)):=by rw [List.getElem?_append_left (zy g)];exact g
 simp [Src.get,zl,this]
theorem BdAt.tup {M:Mm} {bs:List (Int × Int)}:BdAt M (.tup (bs.map bP)) bs:=fun N F=>⟨.tup _,rfl,fun L i=>rfl⟩
theorem BdAt.frm {M M':Mm} {bd:PV} {bs:List (Int × Int)} (h:BdAt M bd bs) (F:Frm [] M M'):BdAt M' bd bs:=fun N F2=>h N (F.trans F2)
end Mp
namespace Mp
open PySem L2
def LS.wp1 (S:LS) (r:Int):Option (List PV) :=
 match getD S.pl (.inl r),zft (S.tabOf (.inl r)) with
 | some (.int b),some l=>if l.length<64/\(l.all fun e=>!(S.ks e.1).isEmpty)=true then some ((S.wrg b (zeC l)).map fun k=>.tup [.int r,k]) else none
 | _,_=>none
def LS.wp (S:LS):Option (List PV):=(zbH S.pl).bind fun ns=>if ns.length<64 then ((zau ns).mapM S.wp1).map List.flatten else none
theorem zkp {S:LS} {r:Int} {out:List PV} (h:S.wp1 r=some out):∃ b l,getD S.pl (.inl r)=some (.int b)/\zft (S.tabOf (.inl r))=some l/\l.length<64/\(∀ e∈l,S.ks e.1≠[])/\out=(S.wrg b (zeC l)).map fun k=>.tup [.int r,k]:=by
 unfold LS.wp1 at h
 split at h
 ·rename_i b l h1 h2
  split at h
  ·rename_i h3
   cases h
   refine ⟨b,l,h1,h2,h3.1,fun e he z=>?_,rfl⟩
   have:=List.all_eq_true.mp h3.2 e he
   simp [z] at this
  ·cases h
 ·cases h
theorem zf4 {α β:Type} {f:α->Option β}:∀ {xs:List α} {ys:List β},xs.mapM f=some ys->xs.length=ys.length/\∀ (i:Nat) (x:α),xs[i]? = some x->∃ y,ys[i]? = some y/\f x=some y
 | [],ys,h=>by simp at h;subst h;exact ⟨rfl,by simp⟩
 | x::xs,ys,h=>by
  rw [List.mapM_cons] at h
  cases e1:f x with
  | none=>rw [e1] at h;cases h
  | some d =>
   rw [e1] at h
   cases e2:xs.mapM f with
   | none=>rw [e2] at h;cases h
   | some ds =>
    rw [e2] at h
    cases h
    obtain ⟨h1,h2⟩:=zf4 e2
    refine ⟨by simp [h1],fun i z hz=>?_⟩
    cases i with
    | zero=>simp at hz;subst hz;exact ⟨d,rfl,e1⟩
    | succ i=>simpa using h2 i z (by simpa using hz)
end Mp
namespace Mp
open PySem L2
theorem up_at (S:LS) (l:Int):∀ k j,(S.up l k)[j]? = (S.es[j]?).map fun e=>if j<k/\S.goes l j e=true then { e with gone:=true } else e
 | 0,j=>by simp [LS.up]
 | k+1,j=>by
  have ih:=up_at S l k j
  unfold LS.up
  cases hk:S.es[k]? with
  | none =>
   simp only []
   rw [ih]
   cases hj:S.es[j]? with
   | none=>rfl
   | some e =>
    have:j<k:=by
     have h1:=List.getElem?_eq_none_iff.mp hk
     have h2:=(List.getElem?_eq_some_iff.mp hj).1
     omega
    simp [this,Nat.lt_succ_of_lt this]
  | some e =>
   simp only []
   by_cases hjk:j=k
   ·subst hjk
    rw [hk]
    by_cases hg:S.goes l j e=true
    ·rw [if_pos hg,List.getElem?_set_self (by rw [zgG];exact (List.getElem?_eq_some_iff.mp hk).1)]
     simp [hg]
    ·rw [if_neg hg,ih,hk]
     simp [hg]
   ·have h3:((if S.goes l k e=true then (S.up l k).set k { e with gone:=true } else S.up l k))[j]? = (S.up l k)[j]?:=by
     split
     ·rw [List.getElem?_set_ne (fun z=>hjk z.symm)]
     ·rfl
    rw [h3,ih]
    cases hj:S.es[j]? with
    | none=>rfl
    | some e' =>
     have:(j<k+1)=(j<k):=propext ⟨fun h=>by omega,fun h=>by omega⟩
     simp [this]
theorem zfi {S:LS} {i:Nat} {e:En} (h:S.es[i]? = some e):∃ e',S.lg.es[i]? = some e'/\e'.key=e.key/\e'.val=e.val/\e'.pas=e.pas/\(e'.gone=true↔e.gone=true\/S.goes S.lim i e=true):=by
 have hi:=(List.getElem?_eq_some_iff.mp h).1
 have:=up_at S S.lim S.es.length i
 rw [h] at this
 refine ⟨_,this,?_⟩
 by_cases hg:S.goes S.lim i e=true
 ·simp [hi,hg]
 ·simp [hg]
theorem zbT (S:LS):S.lg.es.length=S.es.length:=zgG S _ _
def LS.lat (S:LS) (a b:Nat) (k:Str):Prop:=∃ j e,a<=j/\j<b/\S.es[j]? = some e/\e.key=k
theorem sw_la (S:LS) (p:Nat) (hp:p<=S.es.length):∀ t k,t<=p->((getD (S.sw p t).la (.inr k)).isSome=true↔S.lat (p-t) p k)
 | 0,k,_=>by
  constructor
  ·intro h;simp [LS.sw,getD] at h
  ·rintro ⟨j,e,h1,h2,_⟩;omega
 | t+1,k,h=>by
  have ih:=sw_la S p hp t k (by omega)
  have hl:p-1-t<S.es.length:=by omega
  have e0:=List.getElem?_eq_getElem hl
  show (getD (S.s1 (S.sw p t) (p-1-t)).la (.inr k)).isSome=true↔_
  unfold LS.s1
  rw [e0]
  simp only []
  by_cases hk:S.es[p-1-t].key=k
  ·subst hk
   rw [zcC]
   refine ⟨fun _=>⟨p-1-t,_,by omega,by omega,e0,rfl⟩,fun _=>rfl⟩
  ·rw [zbh (fun z=>hk (by injection z with z;exact z.symm)),ih]
   constructor
   ·rintro ⟨j,e,h1,h2,h3,h4⟩;exact ⟨j,e,by omega,h2,h3,h4⟩
   ·rintro ⟨j,e,h1,h2,h3,h4⟩
    refine ⟨j,e,?_,h2,h3,h4⟩
    rcases Nat.lt_or_ge j (p-t) with q | q
    ·have:j=p-1-t:=by omega
     subst this
     rw [e0] at h3
     cases h3
     exact absurd h4 hk
    ·exact q
theorem sw_at (S:LS) (p:Nat) (hp:p<=S.es.length):∀ t i e,t<=p->S.es[i]? = some e->∃ e',(S.sw p t).es[i]? = some e'/\e'.key=e.key/\e'.val=e.val/\(p-t<=i/\i<p->e'.pas=some (e.pas.getD S.tm)/\(e'.gone=true↔e.gone=true\/S.lat (i+1) p e.key))/\(¬ (p-t<=i/\i<p)->e'=e)
 | 0,i,e,_,h=>⟨e,h,rfl,rfl,fun z=>by omega,fun _=>rfl⟩
 | t+1,i,e,ht,h=>by
  have hl:p-1-t<S.es.length:=by omega
  have e0:=List.getElem?_eq_getElem hl
  obtain ⟨e',h1,h2,h3,h4,h5⟩:=sw_at S p hp t i e (by omega) h
  show ∃ e',(S.s1 (S.sw p t) (p-1-t)).es[i]? = some e'/\_
  unfold LS.s1
  rw [e0]
  simp only []
  by_cases hi:p-1-t=i
  ·subst hi
   rw [List.getElem?_set_self (by rw [(zgI S p t).1];exact hl)]
   have he:S.es[p-1-t]=e:=by rw [e0] at h;exact Option.some.inj h
   rw [he]
   refine ⟨_,rfl,rfl,rfl,fun _=>⟨rfl,?_⟩,fun z=>absurd ⟨by omega,by omega⟩ z⟩
   have hla:=sw_la S p hp t e.key (by omega)
   have hpt:p-1-t+1=p-t:=by omega
   rw [hpt,<- hla]
   simp only [En.hit]
   cases hg:e.gone<;>simp [hg]
  ·rw [List.getElem?_set_ne hi]
   refine ⟨e',h1,h2,h3,fun z=>h4 ⟨by omega,z.2⟩,fun z=>h5 (fun q=>z ⟨by omega,q.2⟩)⟩
theorem zc2 {S:LS} {p i:Nat} {e:En} (hp:p<=S.es.length) (h:S.es[i]? = some e):∃ e',(S.swd p).es[i]? = some e'/\e'.key=e.key/\e'.val=e.val/\(i<p->e'.pas=some (e.pas.getD S.tm)/\(e'.gone=true↔e.gone=true\/S.lat (i+1) p e.key))/\(p<=i->e'=e):=by
 obtain ⟨e',h1,h2,h3,h4,h5⟩:=sw_at S p hp p i e (Nat.le_refl _) h
 exact ⟨e',h1,h2,h3,fun z=>h4 ⟨by omega,z⟩,fun z=>h5 (by omega)⟩
theorem zaN (S:LS) (p:Nat):(S.swd p).es.length=S.es.length:=(zgI S p p).1
theorem zap {l l':List En} (hl:l'.length=l.length) {i:Nat} {e':En} (h:l'[i]? = some e'):∃ e,l[i]? = some e:=by
 have:=(List.getElem?_eq_some_iff.mp h).1
 exact ⟨l[i],List.getElem?_eq_getElem (by omega)⟩
theorem zdQ {t:List (Key × PV)} {k:Key}:getD (zcm t k) k=none:=by
 unfold getD zcm
 rw [Option.map_eq_none_iff,List.find?_eq_none]
 intro x hx
 have:=(List.mem_filter.mp hx).2
 simpa using this
theorem zcT {t:List (Key × PV)} {k k':Key} (h:k'≠k):getD (zcm t k) k'=getD t k':=by
 unfold getD zcm
 congr 1
 induction t with
 | nil=>rfl
 | cons q t ih =>
  rw [List.filter_cons]
  by_cases hq:q.1=k
  ·have hne:¬ q.1=k':=fun z=>h (z.symm.trans hq)
   simp only [hq,ne_eq,not_true_eq_false,decide_false,Bool.false_eq_true,if_false]
   rw [ih,List.find?_cons]
   simp [hne]
  ·simp only [ne_eq,hq,not_false_eq_true,decide_true,if_true]
   rw [List.find?_cons,List.find?_cons,ih]
def stp (b u:Int) (i:Nat) (e:En) (t:Tab):Tab:=if e.gone=false/\b<=(i:Int)/\(i:Int)<u then (if nonB e.val=true then zcm t (.inr e.key) else zaH (zcm t (.inr e.key)) (.inr e.key) e.val) else t
def rdL (b u:Int):Nat->List En->Tab->Tab
 | _,[],t=>t
 | i,e::es,t=>rdL b u (i+1) es (stp b u i e t)
theorem rdL_eq (b u:Int):∀ (es:List En) (i:Nat) (t:Tab),((((es.zipIdx i).filter fun q=>!q.1.gone).map fun q=>PV.tup [.int q.2,.str q.1.key,q.1.val]).filter (pin b u)).foldl upd1 t=rdL b u i es t
 | [],i,t=>rfl
 | e::es,i,t=>by
  have ih:=rdL_eq b u es (i+1)
  rw [List.zipIdx_cons,List.filter_cons]
  unfold rdL
  cases hg:e.gone with
  | true =>
   simp only [hg,Bool.not_true,Bool.false_eq_true,if_false]
   rw [ih]
   simp [stp,hg]
  | false =>
   simp only [hg,Bool.not_false,if_true,List.map_cons]
   rw [List.filter_cons]
   by_cases hp:b<=(i:Int)/\(i:Int)<u
   ·have:pin b u (PV.tup [.int i,.str e.key,e.val])=true:=by simp [pin,hp.1,hp.2]
    rw [if_pos this,List.foldl_cons,ih]
    congr 1
    unfold stp
    rw [if_pos ⟨hg,hp⟩]
    rfl
   ·have:¬ pin b u (PV.tup [.int i,.str e.key,e.val])=true:=by simp [pin];intro h;exact Int.not_lt.mp (fun z=>hp ⟨h,z⟩)
    rw [if_neg this,ih]
    congr 1
    unfold stp
    rw [if_neg (fun z=>hp z.2)]
theorem rt_eq (S:LS) (r b u:Int):S.rt r b u=rdL b u 0 S.es (S.tabOf (.inl r)):=rdL_eq b u S.es 0 _
theorem tab_putS {tb:List (Key × Tab)} {k:Key} {t:Tab}:((zlc tb k t).find? fun q=>decide (q.1=k))=some (k,t):=by
 unfold zlc
 split
 ·rename_i h
  induction tb with
  | nil=>simp at h
  | cons q tb ih =>
   rw [List.map_cons,List.find?_cons]
   by_cases hq:q.1=k
   ·simp [hq]
   ·simp only [hq,if_false,decide_false]
    refine ih ?_
    simpa [hq] using h
 ·rename_i h
  rw [List.find?_append]
  have:(tb.find? fun q=>decide (q.1=k))=none:=by
   rw [List.find?_eq_none]
   intro x hx hk
   exact h (List.any_eq_true.mpr ⟨x,hx,hk⟩)
  rw [this]
  simp
theorem zej {tb:List (Key × Tab)} {k k':Key} {t:Tab} (hk:k'≠k):((zlc tb k t).find? fun q=>decide (q.1=k'))=(tb.find? fun q=>decide (q.1=k')):=by
 unfold zlc
 split
 ·rename_i h0
  clear h0
  induction tb with
  | nil=>rfl
  | cons q tb ih =>
   rw [List.map_cons,List.find?_cons,List.find?_cons]
   by_cases hq:q.1=k
   ·have:¬ q.1=k':=fun z=>hk (z.symm.trans hq)
    simp only [hq,if_true]
    have h2:¬ k=k':=fun z=>hk z.symm
    simp [h2,ih]
   ·simp only [hq,if_false]
    by_cases h2:q.1=k'<;>simp [h2,ih]
 ·rw [List.find?_append]
  have:¬ k=k':=fun z=>hk z.symm
  simp [this]
theorem zce {S:LS} {r:Int} {v:PV} {t:Tab}:(S.seat r v t).tabOf (.inl r)=t:=by
 unfold LS.tabOf LS.seat
 simp only [tab_putS];rfl
theorem zcf {S:LS} {r r':Int} {v:PV} {t:Tab} (h:r'≠r):(S.seat r v t).tabOf (.inl r')=S.tabOf (.inl r'):=by
 unfold LS.tabOf LS.seat
 rw [zej (fun z=>h (by injection z))]
end Mp
namespace Mp
open PySem L2
def Sub (t' t:Tab):Prop:=∀ k v,getD t' k=some v->getD t k=some v
structure RelE (e e':En):Prop where
 key:e'.key=e.key
 val:e'.val=e.val
 pas:e'.pas=e.pas
 gone:e'.gone=true->e.gone=true
 same:nonB e.val=false->e.gone=true->e'.gone=true
structure Rel (S S':LS):Prop where
 el:S'.es.length=S.es.length
 es:∀ (i:Nat) e e',S.es[i]? = some e->S'.es[i]? = some e'->RelE e e'
 pl:S'.pl=S.pl
 tb:∀ r,Sub (S'.tabOf r) (S.tabOf r)
 cl:S'.co.map (·.1)=S.co.map (·.1)
 co:∀ (c:Nat) q q',S.co[c]? = some q->S'.co[c]? = some q'->Sub q'.2 q.2
 tm:S'.tm=S.tm
 hold:S.hold<=S'.hold
 gs:∀ g∈S.gs,g∈S'.gs
theorem Sub.refl (t:Tab):Sub t t:=fun _ _ h=>h
theorem sub_drop {t' t:Tab} {k:Key} (h:Sub t' t):Sub (zcm t' k) t:=fun k' v q=>by
 by_cases hk:k'=k
 ·subst hk;rw [zdQ] at q;cases q
 ·rw [zcT hk] at q;exact h k' v q
theorem zgJ {t' t:Tab} {k:Key} (h:Sub t' t):Sub (zcm t' k) (zcm t k):=fun k' v q=>by
 by_cases hk:k'=k
 ·subst hk;rw [zdQ] at q;cases q
 ·rw [zcT hk] at q ⊢;exact h k' v q
theorem sub_put {t' t:Tab} {k:Key} {v:PV} (h:Sub t' t):Sub (zaH t' k v) (zaH t k v):=fun k' w q=>by
 by_cases hk:k'=k
 ·subst hk;rw [zcC] at q ⊢;exact q
 ·rw [zbh hk] at q ⊢;exact h k' w q
theorem ziv {b u:Int} {i:Nat} {e:En} {t:Tab} (h1:e.gone=false) (h2:b<=(i:Int)/\(i:Int)<u):stp b u i e t=if nonB e.val=true then zcm t (.inr e.key) else zaH (zcm t (.inr e.key)) (.inr e.key) e.val:=by
 unfold stp
 exact if_pos ⟨h1,h2⟩
theorem zfR {b u:Int} {i:Nat} {e:En} {t:Tab} (h1:e.gone=true):stp b u i e t=t:=by
 unfold stp
 exact if_neg (fun z=>by rw [h1] at z;cases z.1)
theorem zhM {b u:Int} {i:Nat} {e:En} {t:Tab} (h:¬ (b<=(i:Int)/\(i:Int)<u)):stp b u i e t=t:=by
 unfold stp
 exact if_neg (fun z=>h z.2)
theorem stp_sub {b u:Int} {i:Nat} {e e':En} {t t':Tab} (hr:RelE e e') (h:Sub t' t):Sub (stp b u i e' t') (stp b u i e t):=by
 by_cases hin:b<=(i:Int)/\(i:Int)<u
 ·cases hg:e.gone with
  | false =>
   have hg':e'.gone=false:=by
    cases q:e'.gone with
    | false=>rfl
    | true=>rw [hr.gone q] at hg;cases hg
   rw [ziv hg' hin,ziv hg hin,hr.key,hr.val]
   cases hv:nonB e.val with
   | true=>exact zgJ h
   | false=>exact sub_put (zgJ h)
  | true =>
   rw [zfR hg]
   cases hg':e'.gone with
   | true=>rw [zfR hg'];exact h
   | false =>
    rw [ziv hg' hin,hr.key,hr.val]
    cases hv:nonB e.val with
    | true=>exact sub_drop h
    | false=>have:=hr.same hv hg;rw [hg'] at this;cases this
 ·rw [zhM hin,zhM hin];exact h
theorem zk4 {b u:Int}:∀ {es es':List En} {i:Nat} {t t':Tab},es'.length=es.length->(∀ (j:Nat) e e',es[j]? = some e->es'[j]? = some e'->RelE e e')->Sub t' t->Sub (rdL b u i es' t') (rdL b u i es t)
 | [],[],_,_,_,_,_,h=>h
 | [],_::_,_,_,_,hl,_,_=>by simp at hl
 | _::_,[],_,_,_,hl,_,_=>by simp at hl
 | e::es,e'::es',i,t,t',hl,hr,h=>by
  unfold rdL
  exact zk4 (by simpa using hl) (fun j a a' h1 h2=>hr (j+1) a a' (by simpa using h1) (by simpa using h2)) (stp_sub (hr 0 e e' rfl rfl) h)
def LS.gc (S:LS):PV->List PV
 | .tup [.str s,.int m]=>if s = "copy" then zid (S.co.map (·.1)) (some m) (some (m+1)) else (match getD S.pl (.inl m) with | some v=>[v] | none=>[])
 | _=>[]
theorem g1_eq (S:LS) (acc:List PV) (g:PV):S.g1 acc g=acc++S.gc g:=by
 unfold LS.g1
 split
 ·rename_i s m
  simp only [LS.gc]
  split
  ·rfl
  ·cases getD S.pl (.inl m)<;>simp
 ·rename_i h
  have:S.gc g=[]:=by
   unfold LS.gc
   split
   ·rename_i s m;exact absurd rfl (h s m)
   ·rfl
  rw [this,List.append_nil]
theorem gf_eq (S:LS):S.gf S.gs.length=.int S.es.length::(S.gs.map S.gc).flatten:=by
 unfold LS.gf
 rw [List.take_length]
 have:∀ (l:List PV) (acc:List PV),l.foldl S.g1 acc=acc++(l.map S.gc).flatten:=by
  intro l
  induction l with
  | nil=>intro acc;simp
  | cons g l ih=>intro acc;rw [List.foldl_cons,ih,g1_eq];simp
 rw [this]
 rfl
theorem ziY (r:List Int):∀ i:Int,r.foldl (fun a b=>if b<a then b else a) i∈i::r/\∀ x∈i::r,r.foldl (fun a b=>if b<a then b else a) i<=x:=by
 induction r with
 | nil=>intro i;simp
 | cons j r ih =>
  intro i
  rw [List.foldl_cons]
  obtain ⟨h1,h2⟩:=ih (if j<i then j else i)
  refine ⟨?_,fun x hx=>?_⟩
  ·rcases List.mem_cons.mp h1 with q | q
   ·rw [q];split<;>simp
   ·simp [q]
  ·have h3:=h2 (if j<i then j else i) (by simp)
   rcases List.mem_cons.mp hx with rfl | hx
   ·exact Int.le_trans h3 (by split<;>omega)
   ·rcases List.mem_cons.mp hx with rfl | hx
    ·exact Int.le_trans h3 (by split<;>omega)
    ·exact h2 x (by simp [hx])
theorem lim_eq (S:LS):S.lim=((S.gs.map S.gc).flatten.map toI).foldl (fun a b=>if b<a then b else a) (S.es.length:Int):=by
 unfold LS.lim
 rw [gf_eq]
 rfl
theorem lim_le {S:LS} {x:Int} (h:x=S.es.length\/∃ g∈S.gs,∃ v∈S.gc g,toI v=x):S.lim<=x:=by
 rw [lim_eq]
 refine (ziY _ _).2 x ?_
 rcases h with rfl | ⟨g,hg,v,hv,rfl⟩
 ·simp
 ·exact List.mem_cons_of_mem _ (List.mem_map.mpr ⟨v,List.mem_flatten.mpr ⟨_,List.mem_map.mpr ⟨g,hg,rfl⟩,hv⟩,rfl⟩)
theorem lim_at (S:LS):S.lim=S.es.length\/∃ g∈S.gs,∃ v∈S.gc g,toI v=S.lim:=by
 have h:=(ziY ((S.gs.map S.gc).flatten.map toI) (S.es.length:Int)).1
 rw [<- lim_eq] at h
 rcases List.mem_cons.mp h with q | q
 ·exact .inl q
 ·obtain ⟨v,hv,e⟩:=List.mem_map.mp q
  obtain ⟨l,hl,hv⟩:=List.mem_flatten.mp hv
  obtain ⟨g,hg,rfl⟩:=List.mem_map.mp hl
  exact .inr ⟨g,hg,v,hv,e⟩
theorem gc_congr {S S':LS} (hp:S'.pl=S.pl) (hc:S'.co.map (·.1)=S.co.map (·.1)) (g:PV):S'.gc g=S.gc g:=by
 unfold LS.gc
 rw [hp,hc]
theorem Rel.lim {S S':LS} (h:Rel S S'):S'.lim<=S.lim:=by
 rcases lim_at S with q | ⟨g,hg,v,hv,q⟩
 ·rw [q];exact lim_le (.inl (by rw [h.el]))
 ·rw [<- q];exact lim_le (.inr ⟨g,h.gs g hg,v,by rw [gc_congr h.pl h.cl];exact hv,rfl⟩)
theorem Rel.lg {S S':LS} (h:Rel S S'):Rel S.lg S'.lg:=by
 refine ⟨by rw [zbT,zbT,h.el],fun i f f' hf hf'=>?_,h.pl,h.tb,h.cl,h.co,h.tm,h.hold,h.gs⟩
 obtain ⟨e,he⟩:=zap (zbT S) hf
 obtain ⟨e',he'⟩:=zap (zbT S') hf'
 have R:=h.es i e e' he he'
 obtain ⟨a,a1,a2,a3,a4,a5⟩:=zfi he
 obtain ⟨a',b1,b2,b3,b4,b5⟩:=zfi he'
 rw [hf] at a1;cases a1
 rw [hf'] at b1;cases b1
 refine ⟨by rw [b2,a2,R.key],by rw [b3,a3,R.val],by rw [b4,a4,R.pas],fun q=>a5.mpr ?_,fun q1 q2=>b5.mpr ?_⟩
 ·rcases b5.mp q with q | q
  ·exact .inl (R.gone q)
  ·by_cases hg:e.gone=true
   ·exact .inl hg
   ·refine .inr ?_
    unfold LS.goes at q ⊢
    simp only [Bool.and_eq_true,decide_eq_true_eq,Bool.not_eq_true'] at q ⊢
    obtain ⟨q1,q2,q3,q4⟩:=q
    refine ⟨by rw [<- R.val];exact q1,by simpa using hg,?_,by have:=h.lim;omega⟩
    unfold LS.old at q3 ⊢
    rw [R.pas] at q3
    cases hp:e.pas with
    | none=>rw [hp] at q3;cases q3
    | some p =>
     rw [hp] at q3
     simp only [decide_eq_true_eq] at q3 ⊢
     have:=h.tm;have:=h.hold
     omega
 ·rw [a3] at q1
  rcases a5.mp q2 with q | q
  ·exact .inl (R.same q1 q)
  ·unfold LS.goes at q
   rw [q1] at q
   simp at q
theorem zlq {S S':LS} (h:Rel S S') (a b:Nat) (k:Str):S'.lat a b k↔S.lat a b k:=by
 constructor
 ·rintro ⟨j,e',h1,h2,h3,h4⟩
  obtain ⟨e,he⟩:=zap h.el h3
  exact ⟨j,e,h1,h2,he,by rw [<- (h.es j e e' he h3).key];exact h4⟩
 ·rintro ⟨j,e,h1,h2,h3,h4⟩
  obtain ⟨e',he'⟩:=zap h.el.symm h3
  exact ⟨j,e',h1,h2,he',by rw [(h.es j e e' h3 he').key];exact h4⟩
theorem Rel.swd {S S':LS} (h:Rel S S') {p:Nat} (hp:p<=S.es.length):Rel (S.swd p) (S'.swd p):=by
 refine ⟨by rw [zaN,zaN,h.el],fun i f f' hf hf'=>?_,h.pl,h.tb,h.cl,h.co,h.tm,h.hold,h.gs⟩
 obtain ⟨e,he⟩:=zap (zaN S p) hf
 obtain ⟨e',he'⟩:=zap (zaN S' p) hf'
 have R:=h.es i e e' he he'
 obtain ⟨a,a1,a2,a3,a4,a5⟩:=zc2 hp he
 obtain ⟨a',b1,b2,b3,b4,b5⟩:=zc2 (by rw [h.el];exact hp) he'
 rw [hf] at a1;cases a1
 rw [hf'] at b1;cases b1
 by_cases hi:i<p
 ·obtain ⟨c1,c2⟩:=a4 hi
  obtain ⟨d1,d2⟩:=b4 hi
  refine ⟨by rw [b2,a2,R.key],by rw [b3,a3,R.val],by rw [d1,c1,R.pas,h.tm],fun q=>c2.mpr ?_,fun q1 q2=>d2.mpr ?_⟩
  ·rcases d2.mp q with q | q
   ·exact .inl (R.gone q)
   ·exact .inr (by rw [R.key] at q;exact (zlq h _ _ _).mp q)
  ·rw [a3] at q1
   rcases c2.mp q2 with q | q
   ·exact .inl (R.same q1 q)
   ·exact .inr (by rw [R.key];exact (zlq h _ _ _).mpr q)
 ·rw [a5 (by omega),b5 (by omega)];exact R
theorem Rel.sws {S S':LS} (h:Rel S S') {p:Nat} (hp:p<=S.es.length):Rel (S.sws p) (S'.sws p):=(h.swd hp).lg
theorem Rel.tick {S S':LS} (h:Rel S S'):Rel { S with tm:=S.tm+1 } { S' with tm:=S'.tm+1 } :=
 ⟨h.el,h.es,h.pl,h.tb,h.cl,h.co,by show S'.tm+1=S.tm+1;rw [h.tm],h.hold,h.gs⟩
theorem Rel.go {S S':LS} (h:Rel S S'):Rel S.go S'.go:=h.tick.lg
theorem Rel.add {S S':LS} (h:Rel S S') (k:Str) (v:PV):Rel (S.add k v) (S'.add k v):=by
 refine ⟨by simp [LS.add,h.el],fun i e e' he he'=>?_,h.pl,h.tb,h.cl,h.co,h.tm,h.hold,h.gs⟩
 by_cases hi:i<S.es.length
 ·have h1:S.es[i]? = some e:=by rw [<- he];exact (List.getElem?_append_left hi).symm
  have h2:S'.es[i]? = some e':=by rw [<- he'];exact (List.getElem?_append_left (by rw [h.el];exact hi)).symm
  exact h.es i e e' h1 h2
 ·have h1:(S.es++[⟨k,v,false,none⟩])[i]? = some e:=he
  have h2:(S'.es++[⟨k,v,false,none⟩])[i]? = some e':=he'
  rw [List.getElem?_append_right (by omega)] at h1
  rw [List.getElem?_append_right (by rw [h.el];omega),h.el] at h2
  rw [h1] at h2
  cases h2
  exact ⟨rfl,rfl,rfl,fun q=>q,fun _ q=>q⟩
theorem Rel.seat {S S':LS} (h:Rel S S') (r:Int) (v:PV) {t t':Tab} (ht:Sub t' t):Rel (S.seat r v t) (S'.seat r v t'):=by
 refine ⟨h.el,h.es,by show zaH S'.pl _ _=zaH S.pl _ _;rw [h.pl],fun k=>?_,h.cl,h.co,h.tm,h.hold,h.gs⟩
 cases k with
 | inl r' =>
  by_cases hr:r'=r
  ·subst hr;rw [zce,zce];exact ht
  ·rw [zcf hr,zcf hr];exact h.tb _
 | inr s =>
  have e1:(S.seat r v t).tabOf (.inr s)=S.tabOf (.inr s):=by
   unfold LS.tabOf LS.seat;rw [zej (by intro z;cases z)]
  have e2:(S'.seat r v t').tabOf (.inr s)=S'.tabOf (.inr s):=by
   unfold LS.tabOf LS.seat;rw [zej (by intro z;cases z)]
  rw [e1,e2];exact h.tb _
theorem Rel.sv {S S':LS} (h:Rel S S') (v:PV) {t t':Tab} (ht:Sub t' t):Rel (S.sv v t) (S'.sv v t'):=by
 have hl:S'.co.length=S.co.length:=by have:=congrArg List.length h.cl;simpa using this
 refine ⟨h.el,h.es,h.pl,h.tb,by simp [LS.sv,h.cl],fun c q q' h1 h2=>?_,h.tm,h.hold,h.gs⟩
 have h1':(S.co++[(v,t)])[c]? = some q:=h1
 have h2':(S'.co++[(v,t')])[c]? = some q':=h2
 by_cases hc:c<S.co.length
 ·rw [List.getElem?_append_left hc] at h1'
  rw [List.getElem?_append_left (by omega)] at h2'
  exact h.co c q q' h1' h2'
 ·rw [List.getElem?_append_right (by omega)] at h1'
  rw [List.getElem?_append_right (by omega),hl] at h2'
  by_cases h0:c-S.co.length=0
  ·rw [h0] at h1' h2'
   cases h1';cases h2'
   exact ht
  ·rw [List.getElem?_eq_none (by simp;omega)] at h1';cases h1'
theorem Rel.do_ {S S':LS} (h:Rel S S') (e:Ev):Rel (S.do_ e) (S'.do_ e):=by
 have hl:S'.co.length=S.co.length:=by have:=congrArg List.length h.cl;simpa using this
 cases e with
 | put k v=>exact (h.add k _).go
 | drop k=>exact (h.add k _).go
 | join r=>exact (h.seat r _ (Sub.refl _)).go
 | wait=>exact h.go
 | read r u =>
  show Rel (match getD S.pl (.inl r) with | some (.int b)=>(S.seat r (.int u) (S.rt r b u)).go | _=>S) (match getD S'.pl (.inl r) with | some (.int b)=>(S'.seat r (.int u) (S'.rt r b u)).go | _=>S')
  rw [h.pl]
  split
  ·rename_i b hb
   refine (h.seat r _ ?_).go
   rw [rt_eq,rt_eq]
   exact zk4 h.el h.es (h.tb _)
  ·exact h
 | save r =>
  show Rel (match getD S.pl (.inl r) with | some v=>(S.sv v (S.tabOf (.inl r))).go | none=>S) (match getD S'.pl (.inl r) with | some v=>(S'.sv v (S'.tabOf (.inl r))).go | none=>S')
  rw [h.pl]
  split
  ·exact (h.sv _ (h.tb _)).go
  ·exact h
 | load r c =>
  show Rel (match S.co[c]? with | some q=>(S.seat r q.1 q.2).go | none=>S) (match S'.co[c]? with | some q=>(S'.seat r q.1 q.2).go | none=>S')
  cases hc:S.co[c]? with
  | none =>
   have:S'.co[c]? = none:=by rw [List.getElem?_eq_none_iff] at hc ⊢;omega
   rw [this];exact h
  | some q =>
   have hc2:=(List.getElem?_eq_some_iff.mp hc).1
   have hc':S'.co[c]? = some S'.co[c]:=List.getElem?_eq_getElem (by omega)
   rw [hc']
   simp only []
   have e1:(S'.co.map (·.1))[c]? = (S.co.map (·.1))[c]?:=by rw [h.cl]
   rw [List.getElem?_map,List.getElem?_map,hc,hc'] at e1
   have e2:S'.co[c].1=q.1:=by simpa using e1
   rw [e2]
   exact (h.seat r _ (h.co c q _ hc hc')).go
theorem Rel.swl {S S':LS}:∀ {l:List (Int × Nat)},Rel S S'->(∀ q∈l,q.2<=S.es.length)->Rel (S.swl l) (S'.swl l)
 | [],h,_=>h
 | q::l,h,hl=>by
  show Rel ((S.sws q.2).swl l) ((S'.sws q.2).swl l)
  exact (h.sws (hl q (by simp))).swl fun x hx=>by rw [zkG];exact hl x (by simp [hx])
theorem Rel.new {h h':Int} {gs gs':List PV} (hh:h<=h') (hg:∀ g∈gs,g∈gs'):Rel (LS.new h gs) (LS.new h' gs') :=
 ⟨rfl,by simp [LS.new],rfl,fun r=>Sub.refl _,rfl,by simp [LS.new],rfl,hh,hg⟩
end Mp
namespace Mp
open PySem L2
structure Cov (S:LS):Prop where
 gp:∀ (i:Nat) e,S.es[i]? = some e->e.gone=true->e.pas≠none
 pg:∀ (i:Nat) e,S.es[i]? = some e->e.pas≠none->∀ (j:Nat) f,j<i->S.es[j]? = some f->f.key=e.key->f.gone=true
 pz:∀ (i:Nat) e p,S.es[i]? = some e->e.pas=some p->0<=p
 tz:0<=S.tm
 pi:∀ r v,getD S.pl (.inl r)=some v->∃ b:Int,v=.int b/\b<=S.es.length
 ci:∀ (c:Nat) q,S.co[c]? = some q->∃ b:Int,q.1=.int b/\b<=S.es.length
theorem Cov.lg {S:LS} (h:Cov S):Cov S.lg:=by
 refine ⟨fun i e' h1 h2=>?_,fun i e' h1 h2 j f' hj h3 h4=>?_,fun i e' p h1 h2=>?_,h.tz,fun r v hv=>by rw [zbT];exact h.pi r v hv,fun c q hq=>by rw [zbT];exact h.ci c q hq⟩
 ·obtain ⟨e,he⟩:=zap (zbT S) h1
  obtain ⟨a,a1,a2,a3,a4,a5⟩:=zfi he
  rw [h1] at a1;cases a1
  rw [a4]
  rcases a5.mp h2 with q | q
  ·exact h.gp i e he q
  ·unfold LS.goes LS.old at q
   intro z
   rw [z] at q
   simp at q
 ·obtain ⟨e,he⟩:=zap (zbT S) h1
  obtain ⟨a,a1,a2,a3,a4,a5⟩:=zfi he
  rw [h1] at a1;cases a1
  obtain ⟨f,hf⟩:=zap (zbT S) h3
  obtain ⟨b,b1,b2,b3,b4,b5⟩:=zfi hf
  rw [h3] at b1;cases b1
  exact b5.mpr (.inl (h.pg i e he (by rw [<- a4];exact h2) j f hj hf (by rw [<- b2,<- a2];exact h4)))
 ·obtain ⟨e,he⟩:=zap (zbT S) h1
  obtain ⟨a,a1,a2,a3,a4,a5⟩:=zfi he
  rw [h1] at a1;cases a1
  exact h.pz i e p he (by rw [<- a4];exact h2)
theorem Cov.swd {S:LS} (h:Cov S) {p:Nat} (hp:p<=S.es.length):Cov (S.swd p):=by
 refine ⟨fun i e' h1 h2=>?_,fun i e' h1 h2 j f' hj h3 h4=>?_,fun i e' z h1 h2=>?_,h.tz,fun r v hv=>by rw [zaN];exact h.pi r v hv,fun c q hq=>by rw [zaN];exact h.ci c q hq⟩
 ·obtain ⟨e,he⟩:=zap (zaN S p) h1
  obtain ⟨a,a1,a2,a3,a4,a5⟩:=zc2 hp he
  rw [h1] at a1;cases a1
  by_cases hi:i<p
  ·rw [(a4 hi).1];exact fun z=>by cases z
  ·rw [a5 (by omega)] at h2 ⊢;exact h.gp i e he h2
 ·obtain ⟨e,he⟩:=zap (zaN S p) h1
  obtain ⟨a,a1,a2,a3,a4,a5⟩:=zc2 hp he
  rw [h1] at a1;cases a1
  obtain ⟨f,hf⟩:=zap (zaN S p) h3
  obtain ⟨b,b1,b2,b3,b4,b5⟩:=zc2 hp hf
  rw [h3] at b1;cases b1
  have hk:f.key=e.key:=by rw [<- b2,<- a2];exact h4
  by_cases hi:i<p
  ·exact ((b4 (by omega)).2).mpr (.inr ⟨i,e,by omega,hi,he,hk.symm⟩)
  ·have hz:=a5 (by omega)
   rw [hz] at h2
   have hg:=h.pg i e he h2 j f hj hf hk
   by_cases hj2:j<p
   ·exact ((b4 hj2).2).mpr (.inl hg)
   ·rw [b5 (by omega)];exact hg
 ·obtain ⟨e,he⟩:=zap (zaN S p) h1
  obtain ⟨a,a1,a2,a3,a4,a5⟩:=zc2 hp he
  rw [h1] at a1;cases a1
  by_cases hi:i<p
  ·rw [(a4 hi).1] at h2
   cases hq:e.pas with
   | none=>rw [hq] at h2;simp at h2;have:=h.tz;omega
   | some q=>rw [hq] at h2;simp at h2;have:=h.pz i e q he hq;omega
  ·rw [a5 (by omega)] at h2;exact h.pz i e z he h2
theorem Cov.sws {S:LS} (h:Cov S) {p:Nat} (hp:p<=S.es.length):Cov (S.sws p):=(h.swd hp).lg
theorem Cov.go {S:LS} (h:Cov S):Cov S.go :=
 Cov.lg (S:={ S with tm:=S.tm+1 }) ⟨h.gp,h.pg,h.pz,by have:=h.tz;show 0<=S.tm+1;omega,h.pi,h.ci⟩
theorem add_at {S:LS} {k:Str} {v:PV} {i:Nat} {e:En} (h:(S.add k v).es[i]? = some e):(i<S.es.length/\S.es[i]? = some e)\/(i=S.es.length/\e=⟨k,v,false,none⟩):=by
 have h1:(S.es++[⟨k,v,false,none⟩])[i]? = some e:=h
 by_cases hi:i<S.es.length
 ·rw [List.getElem?_append_left hi] at h1;exact .inl ⟨hi,h1⟩
 ·have hl:=(List.getElem?_eq_some_iff.mp h1).1
  simp at hl
  have:i=S.es.length:=by omega
  subst this
  rw [List.getElem?_append_right (Nat.le_refl _)] at h1
  simp at h1
  exact .inr ⟨rfl,h1.symm⟩
theorem Cov.add {S:LS} (h:Cov S) (k:Str) (v:PV):Cov (S.add k v):=by
 have hl:(S.add k v).es.length=S.es.length+1:=by simp [LS.add]
 refine ⟨fun i e h1 h2=>?_,fun i e h1 h2 j f hj h3 h4=>?_,fun i e p h1 h2=>?_,h.tz,fun r w hw=>?_,fun c q hq=>?_⟩
 ·rcases add_at h1 with ⟨_,q⟩ | ⟨_,rfl⟩
  ·exact h.gp i e q h2
  ·cases h2
 ·rcases add_at h1 with ⟨hi,q⟩ | ⟨_,rfl⟩
  ·rcases add_at h3 with ⟨_,q2⟩ | ⟨hj2,_⟩
   ·exact h.pg i e q h2 j f hj q2 h4
   ·omega
  ·exact absurd rfl h2
 ·rcases add_at h1 with ⟨_,q⟩ | ⟨_,rfl⟩
  ·exact h.pz i e p q h2
  ·cases h2
 ·obtain ⟨b,e1,e2⟩:=h.pi r w hw;exact ⟨b,e1,by rw [hl];omega⟩
 ·obtain ⟨b,e1,e2⟩:=h.ci c q hq;exact ⟨b,e1,by rw [hl];omega⟩
theorem Cov.seat {S:LS} (h:Cov S) {r b:Int} {t:Tab} (hb:b<=S.es.length):Cov (S.seat r (.int b) t):=by
 refine ⟨h.gp,h.pg,h.pz,h.tz,fun r' v hv=>?_,h.ci⟩
 have hv':getD (zaH S.pl (.inl r) (.int b)) (.inl r')=some v:=hv
 by_cases hr:r'=r
 ·subst hr;rw [zcC] at hv';cases hv';exact ⟨b,rfl,hb⟩
 ·rw [zbh (fun z=>hr (by injection z))] at hv';exact h.pi r' v hv'
theorem Cov.sv {S:LS} (h:Cov S) {b:Int} {t:Tab} (hb:b<=S.es.length):Cov (S.sv (.int b) t):=by
 refine ⟨h.gp,h.pg,h.pz,h.tz,h.pi,fun c q hq=>?_⟩
 have hq':(S.co++[(PV.int b,t)])[c]? = some q:=hq
 by_cases hc:c<S.co.length
 ·rw [List.getElem?_append_left hc] at hq';exact h.ci c q hq'
 ·rw [List.getElem?_append_right (by omega)] at hq'
  have:q∈[(PV.int b,t)]:=List.mem_of_getElem? hq'
  simp at this
  subst this
  exact ⟨b,rfl,hb⟩
def Last (S:LS) (m:Nat) (e:En):Prop:=S.es[m]? = some e/\∀ (j:Nat) f,m<j->S.es[j]? = some f->f.key≠e.key
def Hd (S:LS) (s:Int) (t:Tab):Prop:=∀ m e,Last S m e->nonB e.val=true->(getD t (.inr e.key)).isSome=true->s<=(m:Int)/\e.gone=false
theorem last_lg {S:LS} {m:Nat} {e':En} (h:Last S.lg m e'):∃ e,Last S m e/\e'.key=e.key/\e'.val=e.val/\(e'.gone=true↔e.gone=true\/S.goes S.lim m e=true):=by
 obtain ⟨e,he⟩:=zap (zbT S) h.1
 obtain ⟨a,a1,a2,a3,a4,a5⟩:=zfi he
 rw [h.1] at a1;cases a1
 refine ⟨e,⟨he,fun j f hj hf=>?_⟩,a2,a3,a5⟩
 obtain ⟨f',b1,b2,_⟩:=zfi hf
 rw [<- b2,<- a2]
 exact h.2 j f' hj b1
theorem last_swd {S:LS} {p m:Nat} {e':En} (hp:p<=S.es.length) (h:Last (S.swd p) m e'):∃ e,Last S m e/\e'.key=e.key/\e'.val=e.val/\e'.gone=e.gone:=by
 obtain ⟨e,he⟩:=zap (zaN S p) h.1
 obtain ⟨a,a1,a2,a3,a4,a5⟩:=zc2 hp he
 rw [h.1] at a1;cases a1
 have hL:Last S m e:=⟨he,fun j f hj hf=>by
  obtain ⟨f',b1,b2,_⟩:=zc2 hp hf
  rw [<- b2,<- a2]
  exact h.2 j f' hj b1⟩
 refine ⟨e,hL,a2,a3,?_⟩
 by_cases hm:m<p
 ·have:=(a4 hm).2
  have hn:¬ S.lat (m+1) p e.key:=fun ⟨j,f,q1,q2,q3,q4⟩=>hL.2 j f (by omega) q3 q4
  cases hg:e.gone with
  | true=>exact this.mpr (.inl hg)
  | false =>
   cases hg':e'.gone with
   | false=>rfl
   | true =>
    rcases this.mp hg' with q | q
    ·rw [hg] at q;cases q
    ·exact absurd q hn
 ·rw [a5 (by omega)]
theorem Hd.lg {S:LS} {s:Int} {t:Tab} (h:Hd S s t) (hl:∀ (i:Nat) e,S.es[i]? = some e->S.goes S.lim i e=true->(i:Int)<s):Hd S.lg s t:=fun m e' hL hv ht=>by
 obtain ⟨e,L,k1,k2,k3⟩:=last_lg hL
 rw [k2] at hv;rw [k1] at ht
 obtain ⟨h1,h2⟩:=h m e L hv ht
 refine ⟨h1,?_⟩
 cases hg:e'.gone with
 | false=>rfl
 | true =>
  rcases k3.mp hg with q | q
  ·rw [h2] at q;cases q
  ·have:=hl m e L.1 q;omega
theorem Hd.swd {S:LS} {s:Int} {t:Tab} {p:Nat} (h:Hd S s t) (hp:p<=S.es.length):Hd (S.swd p) s t:=fun m e' hL hv ht=>by
 obtain ⟨e,L,k1,k2,k3⟩:=last_swd hp hL
 rw [k2] at hv;rw [k1] at ht;rw [k3]
 exact h m e L hv ht
theorem Hd.add {S:LS} {s:Int} {t:Tab} (h:Hd S s t) (hs:s<=S.es.length) (k:Str) (v:PV):Hd (S.add k v) s t:=fun m e hL hv ht=>by
 rcases add_at hL.1 with ⟨hm,q⟩ | ⟨hm,rfl⟩
 ·refine h m e ⟨q,fun j f hj hf=>hL.2 j f hj ?_⟩ hv ht
  have:(S.es++[⟨k,v,false,none⟩])[j]? = some f:=by rw [List.getElem?_append_left (List.getElem?_eq_some_iff.mp hf).1];exact hf
  exact this
 ·exact ⟨by omega,rfl⟩
theorem Hd.nil {S:LS} {s:Int}:Hd S s []:=fun m e _ _ ht=>by simp [getD] at ht
theorem stp_get {b u:Int} {i:Nat} {e:En} {t:Tab} {k:Str} (hk:e.key≠k):getD (stp b u i e t) (.inr k)=getD t (.inr k):=by
 have hne:(Sum.inr k:Key)≠.inr e.key:=fun z=>hk (by injection z with z;exact z.symm)
 unfold stp
 split
 ·split
  ·rw [zcT hne]
  ·rw [zbh hne,zcT hne]
 ·rfl
theorem zek {b u:Int} {k:Str}:∀ {es:List En} {i:Nat} {t:Tab},(∀ (j:Nat) e,es[j]? = some e->e.key=k->e.gone=true\/¬ (b<=((i+j:Nat):Int)/\((i+j:Nat):Int)<u))->getD (rdL b u i es t) (.inr k)=getD t (.inr k)
 | [],_,_,_=>rfl
 | e::es,i,t,h=>by
  unfold rdL
  rw [zek fun j f hf hk=>by
   have:=h (j+1) f (by simpa using hf) hk
   rw [show i+(j+1)=i+1+j by omega] at this
   exact this]
  by_cases hk:e.key=k
  ·rcases h 0 e rfl hk with q | q
   ·rw [zfR q]
   ·rw [zhM (by simpa using q)]
  ·exact stp_get hk
theorem ziC {b u:Int} {k:Str}:∀ {es:List En} {i m:Nat} {t:Tab} {e:En},es[m]? = some e->e.key=k->nonB e.val=true->e.gone=false->b<=((i+m:Nat):Int)->((i+m:Nat):Int)<u->(∀ (j:Nat) f,m<j->es[j]? = some f->f.key≠k)->getD (rdL b u i es t) (.inr k)=none
 | [],_,_,_,_,h,_,_,_,_,_,_=>by simp at h
 | f::es,i,0,t,e,h,hk,hv,hg,h1,h2,hl=>by
  simp at h
  subst h
  unfold rdL
  rw [zek fun j f' hf' hk'=>absurd hk' (hl (j+1) f' (by omega) (by simpa using hf'))]
  rw [ziv hg ⟨by simpa using h1,by simpa using h2⟩,if_pos hv,hk]
  exact zdQ
 | f::es,i,m+1,t,e,h,hk,hv,hg,h1,h2,hl=>by
  unfold rdL
  refine ziC (m:=m) (by simpa using h) hk hv hg ?_ ?_ fun j f' hj hf'=>hl (j+1) f' (by omega) (by simpa using hf')
  ·rw [show i+1+m=i+(m+1) by omega];exact h1
  ·rw [show i+1+m=i+(m+1) by omega];exact h2
theorem Hd.read {S:LS} {b u:Int} {t:Tab} (C:Cov S) (h:Hd S b t) (hbu:b<=u):Hd S u (rdL b u 0 S.es t):=fun m e hL hv ht=>by
 have hle:∀ (j:Nat) f,S.es[j]? = some f->f.key=e.key->j<=m:=fun j f hf hk=>by
  rcases Nat.lt_or_ge m j with q | q
  ·exact absurd hk (hL.2 j f q hf)
  ·exact q
 have hgone:e.gone=true->∀ (j:Nat) f,S.es[j]? = some f->f.key=e.key->f.gone=true:=fun hg j f hf hk=>by
  rcases Nat.lt_or_ge j m with q | q
  ·exact C.pg m e hL.1 (C.gp m e hL.1 hg) j f q hf hk
  ·have:j=m:=by have:=hle j f hf hk;omega
   subst this
   rw [hL.1] at hf;cases hf
   exact hg
 have hng:e.gone=false:=by
  cases hg:e.gone with
  | false=>rfl
  | true =>
   rw [zek fun j f hf hk=>.inl (hgone hg j f hf hk)] at ht
   have:=(h m e hL hv ht).2
   rw [hg] at this;cases this
 refine ⟨?_,hng⟩
 rcases Int.lt_or_le (m:Int) u with q | q
 ·exfalso
  rcases Int.lt_or_le (m:Int) b with q2 | q2
  ·rw [zek fun j f hf hk=>.inr (by have:=hle j f hf hk;simp;omega)] at ht
   have:=(h m e hL hv ht).1
   omega
  ·rw [ziC (i:=0) hL.1 rfl hv hng (by simpa using q2) (by simpa using q) hL.2] at ht
   cases ht
 ·exact q
end Mp
namespace Mp
open PySem L2
theorem lay_str (s:String):PyData.canLay0 (.str (Str.ofString s))=true:=by
 rw [PyData.canLay0,PyData.strOk,Str.ofString_eq_toList]
 simp only [Array.all_eq_true',List.mem_toArray,List.mem_map,decide_eq_true_eq]
 rintro x ⟨c,_,rfl⟩
 have:=c.valid
 rcases this with h | ⟨_,h⟩
 ·have:c.toNat<0xd800:=h
  omega
 ·exact h
def RdA (x:PV):Prop:=∃ d,∀ N,Rd 3 N x d
open Classical in
noncomputable def rdg (x:PV):PyData:=if h:RdA x then h.choose else .none
theorem RdA.g {x:PV} (h:RdA x) (N:Mm):Rd 3 N x (rdg x):=by
 unfold rdg
 rw [dif_pos h]
 exact h.choose_spec N
end Mp
namespace Mp.Dr
open PySem L2
inductive Ev where
 | put (k:Str) (v:Int) | drop (k:Str) | join (r:Int) | read (r u:Int) | save (r:Int) | load (r c:Int) | wait
def Ev.pv:Ev->PV
 | .put k v=>.tup [.str "put",.str k,.int v]
 | .drop k=>.tup [.str "drop",.str k]
 | .join r=>.tup [.str "join",.int r]
 | .read r u=>.tup [.str "read",.int r,.int u]
 | .save r=>.tup [.str "save",.int r]
 | .load r c=>.tup [.str "load",.int r,.int c]
 | .wait=>.tup [.str "wait"]
structure Ws where
 seats:List (Key × PV)
 copies:List PV
 many:Int
def Ws.step (w:Ws):Ev->Option Ws
 | .put _ _=>some { w with many:=w.many+1 }
 | .drop _=>some { w with many:=w.many+1 }
 | .join r=>some { w with seats:=zaH w.seats (.inl r) (.int 0) }
 | .read r u=>match getD w.seats (.inl r) with | some (.int b)=>if b<u/\u<=w.many then some { w with seats:=zaH w.seats (.inl r) (.int u) } else none | _=>none
 | .save r=>(getD w.seats (.inl r)).map fun v=>{ w with copies:=w.copies++[v] }
 | .load r c=>(atI w.copies c).map fun v=>{ w with seats:=zaH w.seats (.inl r) v }
 | .wait=>some w
theorem step_read {ws ws':Ws} {r u:Int} (h:ws.step (.read r u)=some ws'):(∃ b:Int,getD ws.seats (.inl r)=some (.int b)/\b<u/\u<=ws.many)/\ws'={ ws with seats:=zaH ws.seats (.inl r) (.int u) }:=by
 simp only [Ws.step] at h
 split at h
 ·rename_i b hb
  split at h
  ·rename_i hu
   cases h
   exact ⟨⟨b,hb,hu.1,hu.2⟩,rfl⟩
  ·cases h
 ·cases h
theorem zeG {ws:Ws} {r u b:Int} (h:getD ws.seats (.inl r)=some (.int b)) (h1:b<u) (h2:u<=ws.many):ws.step (.read r u)=some { ws with seats:=zaH ws.seats (.inl r) (.int u) }:=by
 simp only [Ws.step,h]
 rw [if_pos ⟨h1,h2⟩]
def zgv (s c:Nat) (m:Int):Ob:=.dic [(.inr "seats",.ref s),(.inr "copies",.ref c),(.inr "many",.int m)]
structure WAt (M:Mm) (w s c:Nat) (ws:Ws):Prop where
 w_:M[w]? = some (zgv s c ws.many)
 s_:M[s]? = some (.dic ws.seats)
 c_:M[c]? = some (.lst ws.copies)
 ne:w≠s
theorem WAt.ne2 {M:Mm} {w s c:Nat} {ws:Ws} (h:WAt M w s c ws):w≠c/\s≠c:=by
 constructor
 ·intro e;subst e;have:=h.w_;rw [h.c_] at this;cases this
 ·intro e;subst e;have:=h.s_;rw [h.c_] at this;cases this
theorem WAt.frm {S:List Nat} {M M1:Mm} {w s c:Nat} {ws:Ws} (h:WAt M w s c ws) (a:Frm S M M1) (hw:w∉S) (hs:s∉S) (hc:c∉S):WAt M1 w s c ws :=
 ⟨a.get h.w_ hw,a.get h.s_ hs,a.get h.c_ hc,h.ne⟩
theorem moved_ok (cf:CF) {M:Mm} {w s c:Nat} {ws ws':Ws} {e:Ev} (h:WAt M w s c ws) (he:ws.step e=some ws') (h1:ws.seats.length<1000) (h2:ws.copies.length<1000) :
  ∃ M',zL cf zV [.ref w,e.pv] M=some (.non,M')/\WAt M' w s c ws'/\Frm [w,s,c] M M'/\M'.length=M.length:=by
 obtain ⟨nwc,nsc⟩:=h.ne2
 have hw:=h.w_
 have hs:=h.s_
 have hc:=h.c_
 have ne:=h.ne
 have lw:=zy hw
 have ls:=zy hs
 have lc:=zy hc
 have z1:ws.seats.length<16777216:=by omega
 have z2:ws.copies.length<16777216:=by omega
 have s1:∀ x,(M.set w x)[s]? = M[s]?:=fun x=>List.getElem?_set_ne ne
 have s2:∀ x,(M.set w x)[c]? = M[c]?:=fun x=>List.getElem?_set_ne nwc
 unfold zgv at hw
 cases e with
 | put k v =>
  simp only [Ws.step] at he
  cases he
  refine ⟨M.set w (zgv s c (ws.many+1)),?_,⟨by simp [lw],by rw [List.getElem?_set_ne ne];exact hs,by rw [List.getElem?_set_ne nwc];exact hc,ne⟩,Frm.set (by simp),by simp⟩
  simp [zL,zV,Ev.pv,zM,evS,evE,zv,tgP,zas,atI,ixN,zK,zcx,inP,zaS,eqF,zaa,hw,zad,getD,zjm,zaH,zat,zgv,sizeLine]
 | drop k =>
  simp only [Ws.step] at he
  cases he
  refine ⟨M.set w (zgv s c (ws.many+1)),?_,⟨by simp [lw],by rw [List.getElem?_set_ne ne];exact hs,by rw [List.getElem?_set_ne nwc];exact hc,ne⟩,Frm.set (by simp),by simp⟩
  simp [zL,zV,Ev.pv,zM,evS,evE,zv,tgP,zas,atI,ixN,zK,zcx,inP,zaS,eqF,zaa,hw,zad,getD,zjm,zaH,zat,zgv,sizeLine]
 | join r =>
  simp only [Ws.step] at he
  cases he
  refine ⟨M.set s (.dic (zaH ws.seats (.inl r) (.int 0))),?_,⟨by rw [List.getElem?_set_ne (Ne.symm ne)];exact h.w_,by simp [ls],by rw [List.getElem?_set_ne nsc];exact hc,ne⟩,Frm.set (by simp),by simp⟩
  simp [zL,zV,Ev.pv,zM,evS,evE,zv,tgP,zas,atI,ixN,zK,zcx,inP,zaS,eqF,eqP,eqS,zaa,hw,hs,zad,getD,zjm,zat,sizeLine,z1]
 | read r u =>
  obtain ⟨_,he⟩:=step_read he
  subst he
  refine ⟨M.set s (.dic (zaH ws.seats (.inl r) (.int u))),?_,⟨by rw [List.getElem?_set_ne (Ne.symm ne)];exact h.w_,by simp [ls],by rw [List.getElem?_set_ne nsc];exact hc,ne⟩,Frm.set (by simp),by simp⟩
  simp [zL,zV,Ev.pv,zM,evS,evE,zv,tgP,zas,atI,ixN,zK,zcx,inP,zaS,eqF,eqP,eqS,zaa,hw,hs,zad,getD,zjm,zat,sizeLine,z1]
 | save r =>
  simp only [Ws.step] at he
  obtain ⟨v,hv,he⟩:=Option.map_eq_some_iff.mp he
  subst he
  refine ⟨M.set c (.lst (ws.copies++[v])),?_,⟨by rw [List.getElem?_set_ne (Ne.symm nwc)];exact h.w_,by rw [List.getElem?_set_ne (Ne.symm nsc)];exact hs,by simp [lc],ne⟩,Frm.set (by simp),by simp⟩
  have hv':(List.find? (fun kv=>decide (kv.1=Sum.inl r)) ws.seats).map (·.2)=some v:=hv
  obtain ⟨kv,hk1,hk2⟩:=Option.map_eq_some_iff.mp hv'
  simp [zL,zV,Ev.pv,zM,evS,evE,zv,tgP,zas,atI,ixN,zK,zcx,inP,zaS,eqF,eqP,eqS,zaa,hw,hs,hc,zad,getD,zef,zds,zl,zat,sizeLine,z2,hk1,hk2]
 | load r cc =>
  simp only [Ws.step] at he
  obtain ⟨v,hv,he⟩:=Option.map_eq_some_iff.mp he
  subst he
  refine ⟨M.set s (.dic (zaH ws.seats (.inl r) v)),?_,⟨by rw [List.getElem?_set_ne (Ne.symm ne)];exact h.w_,by simp [ls],by rw [List.getElem?_set_ne nsc];exact hc,ne⟩,Frm.set (by simp),by simp⟩
  have hix:zas M (.ref c) (.int cc)=some v:=by simp only [zas,hc];exact hv
  have hi0:zas M (.ref w) (.str "seats")=some (.ref s):=by simp [zas,hw,zad,getD]
  have hi1:zas M (.ref w) (.str "copies")=some (.ref c):=by simp [zas,hw,zad,getD,zaa]
  have hj:∀ (l:List PV) (j:Nat) (x:PV),l[j]? = some x->zas M (.tup l) (.int (j:Nat))=some x:=fun l j x e=>by
   have q:=(List.getElem?_eq_some_iff.mp e).1
   have e':ixN l.length (j:Nat)=some j:=by simp [ixN,q]
   show (ixN l.length (j:Nat)).bind (fun j=>l[j]?)=some x
   rw [e'];exact e
  have j0:∀ l x,zas M (.tup (x::l)) (.int 0)=some x:=fun l x=>hj _ 0 x rfl
  have j1:∀ l x y,zas M (.tup (y::x::l)) (.int 1)=some x:=fun l x y=>hj _ 1 x rfl
  have j2:∀ l x y z,zas M (.tup (z::y::x::l)) (.int 2)=some x:=fun l x y z=>hj _ 2 x rfl
  simp [zL,zV,Ev.pv,zM,evS,evE,zv,tgP,j0,j1,j2,hi0,hi1,hix,zK,zcx,inP,zaS,eqF,eqP,eqS,zaa,hs,zad,zjm,sizeLine,z1]
 | wait =>
  simp only [Ws.step] at he
  cases he
  refine ⟨M,?_,h,.refl,rfl⟩
  simp [zL,zV,Ev.pv,zM,evS,evE,zv,tgP,zas,atI,ixN,zK,zcx,inP,zaS,eqF,eqP,eqS,zaa,sizeLine]
end Mp.Dr
namespace Mp.Dr
open PySem L2
def HO (cf:CF):Prop:=∀ (M:Mm) (b n:Nat) (k:Int) (xs:List PV),Bx M b k->k<1000000000000->M[n]? = some (.lst xs)->n≠b->xs≠[]->xs.length<1000 ->
 ∃ (x:PV) (l:List PV),x∈xs/\cf zcB [.ref b,.ref n] M=some (x,M.set b (.lst l))/\Bx (M.set b (.lst l)) b (k+1)
theorem of_ok {cf:CF} (T:HT cf) {M:Mm} {b n:Nat} {k:Int} {xs:List PV} (h:Bx M b k) (hk:k<1000000000000) (hx:M[n]? = some (.lst xs)) (ne:n≠b) (h0:xs≠[]) (hl:xs.length<1000) :
  ∃ (x:PV) (l:List PV),x∈xs/\zL cf zcy [.ref b,.ref n] M=some (x,M.set b (.lst l))/\Bx (M.set b (.lst l)) b (k+1):=by
 have hp:0<xs.length:=List.length_pos_iff.mpr h0
 obtain ⟨r,l,r0,r1,e,B⟩:=T M b k xs.length h hk (by omega) (by omega)
 have hr:r.toNat<xs.length:=by omega
 refine ⟨xs[r.toNat],l,List.getElem_mem hr,?_,B⟩
 have e2:(M.set b (.lst l))[n]? = some (.lst xs):=by rw [List.getElem?_set_ne (Ne.symm ne)];exact hx
 have e3:zas (M.set b (.lst l)) (.ref n) (.int r)=some xs[r.toNat]:=by
  simp only [zas,e2,atI,ixN,if_pos r0,if_pos r1]
  exact List.getElem?_eq_getElem hr
 simp [zL,zcy,zM,evS,evE,zv,zJ,hx,e,e3]
theorem ho (j:Nat):HO (cfN tab (j+2)):=fun M b n k xs h hk hx ne h0 hl=>of_ok (ht j) h hk hx ne h0 hl
structure WsOk (ws:Ws) (n:Nat):Prop where
 m0:0<=ws.many
 m1:ws.many<=n
 seats:∀ kv∈ws.seats,∃ p v:Int,kv=(.inl p,.int v)/\0<=p/\p<=3/\0<=v
 copies:∀ x∈ws.copies,∃ v:Int,x=.int v/\0<=v
 sl:ws.seats.length<=n
 cl:ws.copies.length<=n
def KeyOk (k:Str):Prop:=∃ s:String,s∈["a", "b", "cc", "abc"]/\k=Str.ofString s
def EvOk:Ev->Prop
 | .put k v=>KeyOk k/\0<=v/\v<=8
 | .drop k=>KeyOk k
 | .join r=>0<=r/\r<=3
 | .read r u=>0<=r/\r<=3/\0<=u
 | .save r=>0<=r/\r<=3
 | .load r c=>0<=r/\r<=3/\0<=c
 | .wait=>True
theorem step_ok {ws ws':Ws} {n:Nat} {e:Ev} (h:WsOk ws n) (he:EvOk e) (hs:ws.step e=some ws'):WsOk ws' (n+1):=by
 obtain ⟨m0,m1,hse,hco,sl,cl⟩:=h
 have put:∀ (p v:Int),0<=p->p<=3->0<=v->WsOk { ws with seats:=zaH ws.seats (.inl p) (.int v) } (n+1):=fun p v h1 h2 h3 =>
  ⟨m0,by show ws.many<=_;omega,fun kv hk=>(zel hk).elim (hse kv) (fun z=>⟨p,v,z,h1,h2,h3⟩),hco,Nat.le_trans (zem _ _ _) (by omega),by show ws.copies.length<=_;omega⟩
 cases e with
 | put k v=>simp only [Ws.step] at hs;cases hs;exact ⟨by show 0<=ws.many+1;omega,by show ws.many+1<=_;omega,hse,hco,by show ws.seats.length<=_;omega,by show ws.copies.length<=_;omega⟩
 | drop k=>simp only [Ws.step] at hs;cases hs;exact ⟨by show 0<=ws.many+1;omega,by show ws.many+1<=_;omega,hse,hco,by show ws.seats.length<=_;omega,by show ws.copies.length<=_;omega⟩
 | join r=>simp only [Ws.step] at hs;cases hs;exact put r 0 he.1 he.2 (by omega)
 | read r u=>obtain ⟨_,hs⟩:=step_read hs;subst hs;exact put r u he.1 he.2.1 he.2.2
 | save r =>
  simp only [Ws.step] at hs
  obtain ⟨v,h1,h2⟩:=Option.map_eq_some_iff.mp hs
  subst h2
  obtain ⟨p,i,e,_,_,hi⟩:=hse _ (zbt h1)
  cases e
  exact ⟨m0,by show ws.many<=_;omega,hse,fun x hx=>(List.mem_append.mp hx).elim (hco x) (fun z=>⟨i,by simpa using z,hi⟩),by show ws.seats.length<=_;omega,by show (ws.copies++_).length<=_;simp;omega⟩
 | load r c =>
  simp only [Ws.step] at hs
  obtain ⟨v,h1,h2⟩:=Option.map_eq_some_iff.mp hs
  subst h2
  have hm:v∈ws.copies:=by
   unfold atI at h1
   obtain ⟨j,_,h3⟩:=Option.bind_eq_some_iff.mp h1
   exact List.mem_of_getElem? h3
  obtain ⟨i,rfl,hi⟩:=hco v hm
  exact put r i he.1 he.2.1 hi
 | wait=>simp only [Ws.step] at hs;cases hs;exact ⟨m0,by omega,hse,hco,by omega,by omega⟩
end Mp.Dr
namespace Mp.Dr
open PySem L2
def Strs (M:Mm) (n:Nat) (P:Str->Prop):Prop:=∃ ks:List Str,M[n]? = some (.lst (ks.map .str))/\ks≠[]/\ks.length<1000/\∀ k∈ks,P k
def HE (cf:CF):Prop:=∀ (M:Mm) (b w s c nn:Nat) (k f:Int) (ws:Ws) (n:Nat) (z:Str),Bx M b k->k<900000000000->WAt M w s c ws->WsOk ws n->n<100000->b≠w->b≠s->b≠c->nn≠b->Strs M nn KeyOk->1<=f->f<=4->0<z.length->z.length<1000 ->
 ∃ (v:PV) (M':Mm),cf zg5 [.ref b,.ref w,.int f,.ref nn,.str z] M=some (v,M')/\Frm [b] M M'/\Bx M' b (k+5)/\(v=.non\/∃ e ws',v=e.pv/\EvOk e/\ws.step e=some ws')
theorem event_ok {cf:CF} (T:HT cf) (O:HO cf) {M:Mm} {b w s c nn:Nat} {k f:Int} {ws:Ws} {n:Nat} {z:Str} (h:Bx M b k) (hk:k<900000000000) (hw:WAt M w s c ws) (ho:WsOk ws n) (hn:n<100000) (n1:b≠w) (n2:b≠s) (n3:b≠c) (n4:nn≠b) (hq:Strs M nn KeyOk) (f1:1<=f) (f2:f<=4) (z1:0<z.length) (z2:z.length<1000) :
  ∃ (v:PV) (M':Mm),zL cf zH [.ref b,.ref w,.int f,.ref nn,.str z] M=some (v,M')/\Frm [b] M M'/\Bx M' b (k+5)/\(v=.non\/∃ e ws',v=e.pv/\EvOk e/\ws.step e=some ws'):=by
 obtain ⟨ks,q1,q2,q3,q4⟩:=hq
 obtain ⟨r1,l1,a1,a2,e1,B1⟩:=T M b k z.length h (by omega) (by omega) (by omega)
 have g1:Frm [b] M (M.set b (.lst l1)):=Frm.set (by simp)
 generalize eM1:M.set b (.lst l1)=M1 at e1 B1 g1
 obtain ⟨r2,l2,b1,b2,e2,B2⟩:=T M1 b (k+1) f B1 (by omega) (by omega) (by omega)
 have g2:Frm [b] M (M1.set b (.lst l2)):=g1.trans (Frm.set (by simp))
 generalize eM2:M1.set b (.lst l2)=M2 at e2 B2 g2
 obtain ⟨x3,l3,c1,e3,B3⟩:=O M2 b nn (k+1+1) (ks.map .str) B2 (by omega) (g2.get q1 (by simpa using n4)) n4 (by simpa using q2) (by simpa using q3)
 have g3:Frm [b] M (M2.set b (.lst l3)):=g2.trans (Frm.set (by simp))
 generalize eM3:M2.set b (.lst l3)=M3 at e3 B3 g3
 obtain ⟨key,ck,rfl⟩:=List.mem_map.mp c1
 have hkey:=q4 key ck
 have W3:WAt M3 w s c ws:=hw.frm g3 (by simpa using n1.symm) (by simpa using n2.symm) (by simpa using n3.symm)
 have hlz:z.cps.toList.length=z.length:=by simp [Str.length]
 have hr:r1.toNat<z.cps.toList.length:=by omega
 generalize ech:z.cps.toList[r1.toNat]=ch
 have hix:zas M1 (.str z) (.int r1)=some (.str ⟨#[ch]⟩):=by
  have:atI z.cps.toList r1=some ch:=by
   simp only [atI,ixN,if_pos a1]
   rw [if_pos (by rw [hlz];exact a2)]
   show z.cps.toList[r1.toNat]? = some ch
   rw [List.getElem?_eq_getElem hr,ech]
  simp only [zas,this]
  rw [if_pos (show z.length<=sizeLine by have:sizeLine=16777216:=rfl;omega)]
  rfl
 generalize (⟨#[ch]⟩:Str)=wy at hix
 have hlen:zJ M .len [.str z]=some (.int z.length,M):=by
  simp only [zJ];rw [if_pos (show z.length<=sizeLine by have:sizeLine=16777216:=rfl;omega)]
 have hwd:=W3.w_
 unfold zgv at hwd
 have hsd:=W3.s_
 have hcd:=W3.c_
 have iS:∀ {N:Mm},Frm [b] M3 N->zas N (.ref w) (.str "seats")=some (.ref s):=fun {N} fr=>by
  have:=fr.get hwd (by simpa using n1.symm)
  simp [zas,this,zad,getD]
 have iC:∀ {N:Mm},Frm [b] M3 N->zas N (.ref w) (.str "copies")=some (.ref c):=fun {N} fr=>by
  have:=fr.get hwd (by simpa using n1.symm)
  simp [zas,this,zad,getD]
 have iM:∀ {N:Mm},Frm [b] M3 N->zas N (.ref w) (.str "many")=some (.int ws.many):=fun {N} fr=>by
  have:=fr.get hwd (by simpa using n1.symm)
  simp [zas,this,zad,getD]
 by_cases hp:wy = "p"
 ·obtain ⟨r4,l4,d1,d2,e4,B4⟩:=T M3 b (k+1+1+1) 9 B3 (by omega) (by omega) (by omega)
  refine ⟨(Ev.put key r4).pv,M3.set b (.lst l4),?_,g3.trans (Frm.set (by simp)),B4.frm (S:=[]) .refl (by simp) (by omega),.inr ⟨.put key r4,_,rfl,⟨hkey,d1,by omega⟩,rfl⟩⟩
  simp [zL,zH,zM,evS,evE,zv,tgP,zx,hlen,e1,hix,e2,e3,hp,zK,eqP,eqS,e4,Ev.pv,sizeLine]
 by_cases hd:wy = "d"
 ·refine ⟨(Ev.drop key).pv,M3,?_,g3,B3.frm (S:=[]) .refl (by simp) (by omega),.inr ⟨.drop key,_,rfl,hkey,rfl⟩⟩
  simp [zL,zH,zM,evS,evE,zv,tgP,zx,hlen,e1,hix,e2,e3,hd,zK,eqP,eqS,zcx,inP,zaS,eqF,Ev.pv,sizeLine]
 by_cases hww:wy = "w"
 ·refine ⟨Ev.wait.pv,M3,?_,g3,B3.frm (S:=[]) .refl (by simp) (by omega),.inr ⟨.wait,_,rfl,trivial,rfl⟩⟩
  simp [zL,zH,zM,evS,evE,zv,tgP,zx,hlen,e1,hix,e2,e3,hww,zK,eqP,eqS,zcx,inP,zaS,eqF,Ev.pv,sizeLine]
 have hin:(Str.ofString "d" == wy || Str.ofString "w" == wy)=false:=by
  rw [beq_eq_false_iff_ne.mpr (Ne.symm hd),beq_eq_false_iff_ne.mpr (Ne.symm hww)];rfl
 have hdd:(Str.ofString "d" == wy)=false:=beq_eq_false_iff_ne.mpr (Ne.symm hd)
 have hdw:(Str.ofString "w" == wy)=false:=beq_eq_false_iff_ne.mpr (Ne.symm hww)
 by_cases hj:wy = "j"
 ·refine ⟨(Ev.join r2).pv,M3,?_,g3,B3.frm (S:=[]) .refl (by simp) (by omega),.inr ⟨.join r2,_,rfl,⟨b1,by omega⟩,rfl⟩⟩
  simp [zL,zH,zM,evS,evE,zv,tgP,zx,hlen,e1,hix,e2,e3,hj,zK,eqP,eqS,zcx,inP,zaS,eqF,Ev.pv,sizeLine]
 by_cases hl:wy = "l"
 ·have fA:Frm [b] M3 (M3++[.lst []]):=Frm.app
  have q1:=iC (.refl:Frm [b] M3 M3)
  have q2:=iC fA
  have q3:(M3++[.lst []])[c]? = some (.lst ws.copies):=fA.get hcd (by simpa using n3.symm)
  have q4:(M3++[.lst []])[M3.length]? = some (.lst []):=by simp
  have q5:=zgh (j:=1) (g:=fd) q3 q4 (by intro x hx;obtain ⟨v,rfl,_⟩:=ho.copies x hx;exact Rd.flat trivial) (by omega) (by omega)
  by_cases hne:ws.copies=[]
  ·refine ⟨.non,M3++[.lst []],?_,g3.trans fA,B3.frm (S:=[]) .app (by simp) (by omega),.inl rfl⟩
   rw [hne] at q5
   simp [zL,zH,zM,evS,evE,zv,tgP,zx,hlen,e1,hix,e2,e3,hl,zK,zcx,inP,zaS,eqF,sizeLine,q1,q2,q5]
  ·have hpos:0<ws.copies.length:=List.length_pos_iff.mpr hne
   have hcl:=ho.cl
   obtain ⟨r4,l4,d1,d2,e4,B4⟩:=T (M3++[.lst []]) b (k+1+1+1) ws.copies.length (B3.frm (S:=[]) .app (by simp) (by omega)) (by omega) (by omega) (by omega)
   have hst:(atI ws.copies r4)=some (ws.copies[r4.toNat]'(by omega)):=by
    simp only [atI,ixN,if_pos d1,if_pos d2]
    exact List.getElem?_eq_getElem (by omega)
   refine ⟨(Ev.load r2 r4).pv,_,?_,(g3.trans fA).trans (Frm.set (by simp)),B4.frm (S:=[]) .refl (by simp) (by omega),.inr ⟨.load r2 r4,_,rfl,⟨b1,by omega,d1⟩,by simp only [Ws.step,hst];rfl⟩⟩
   have q5':eqP (M3++[.lst []]) (.ref c) (.ref M3.length)=some false:=by rw [q5];cases hh:ws.copies with | nil=>exact absurd hh hne | cons _ _=>rfl
   have hlc:zJ (M3++[.lst []]) .len [.ref c]=some (.int ws.copies.length,M3++[.lst []]):=by simp only [zJ,q3]
   simp [zL,zH,zM,evS,evE,zv,tgP,zx,hlen,e1,hix,e2,e3,hl,zK,zcx,inP,zaS,eqF,sizeLine,q1,q2,q5',hlc,e4,Ev.pv]
 have p1:=iS (.refl:Frm [b] M3 M3)
 have p2:=iM (.refl:Frm [b] M3 M3)
 have hpf:eqP M3 (.str wy) (.str "p")=some false:=by simp [eqP,eqS,hp]
 have hjf:eqP M3 (.str wy) (.str "j")=some false:=by simp [eqP,eqS,hj]
 have hlf:eqP M3 (.str wy) (.str "l")=some false:=by simp [eqP,eqS,hl]
 have hni:zcx M3 (.int r2) (.ref s)=some (getD ws.seats (.inl r2)).isSome:=by simp only [zcx,hsd,zad];rfl
 cases hg:getD ws.seats (.inl r2) with
 | none =>
  rw [hg] at hni
  refine ⟨(Ev.join r2).pv,M3,?_,g3,B3.frm (S:=[]) .refl (by simp) (by omega),.inr ⟨.join r2,_,rfl,⟨b1,by omega⟩,rfl⟩⟩
  simp [zL,zH,zM,evS,evE,zv,tgP,zx,hlen,e1,hix,e2,e3,zK,hpf,hjf,hlf,zcx,inP,zaS,eqF,hdd,hdw,sizeLine,p1,Ev.pv]
  simp [zcx,hsd,zad,hg]
 | some v =>
  rw [hg] at hni
  obtain ⟨p,v',e',_,_,hv0⟩:=ho.seats _ (zbt hg)
  cases e'
  by_cases hs:wy = "s"
  ·refine ⟨(Ev.save r2).pv,M3,?_,g3,B3.frm (S:=[]) .refl (by simp) (by omega),.inr ⟨.save r2,_,rfl,⟨b1,by omega⟩,by simp only [Ws.step,hg];rfl⟩⟩
   simp [zL,zH,zM,evS,evE,zv,tgP,zx,hlen,e1,hix,e2,e3,zK,hs,zcx,inP,zaS,eqF,sizeLine,p1,Ev.pv,eqP,eqS,hsd,zad,hg]
  have hsf:eqP M3 (.str wy) (.str "s")=some false:=by simp [eqP,eqS,hs]
  have p3:zas M3 (.ref s) (.int r2)=some (.int v'):=by simp only [zas,hsd,zad];exact hg
  by_cases hgap:0<ws.many-v'
  ·have hm1:=ho.m1
   obtain ⟨r4,l4,d1,d2,e4,B4⟩:=T M3 b (k+1+1+1) (ws.many-v') B3 (by omega) (by omega) (by omega)
   refine ⟨(Ev.read r2 (v'+1+r4)).pv,_,?_,g3.trans (Frm.set (by simp)),B4.frm (S:=[]) .refl (by simp) (by omega),.inr ⟨.read r2 (v'+1+r4),_,rfl,⟨b1,by omega,by omega⟩,zeG hg (by omega) (by omega)⟩⟩
   have hgap':v'<ws.many:=by omega
   simp [zL,zH,zM,evS,evE,zv,tgP,zx,hlen,e1,hix,e2,e3,zK,hpf,hjf,hlf,hsf,zcx,inP,zaS,eqF,hdd,hdw,sizeLine,p1,p2,p3,Ev.pv,hsd,zad,hg,zat,hgap,hgap',e4]
  ·refine ⟨.non,M3,?_,g3,B3.frm (S:=[]) .refl (by simp) (by omega),.inl rfl⟩
   have hgap':¬ v'<ws.many:=by omega
   simp [zL,zH,zM,evS,evE,zv,tgP,zx,hlen,e1,hix,e2,e3,zK,hpf,hjf,hlf,hsf,zcx,inP,zaS,eqF,hdd,hdw,sizeLine,p1,p2,p3,Ev.pv,hsd,zad,hg,zat,hgap,hgap']
theorem he (j:Nat):HE (cfN tab (j+3)):=fun M b w s c nn k f ws n z h hk hw ho hn n1 n2 n3 n4 hq f1 f2 z1 z2=>event_ok (ht (j+1)) (Mp.Dr.ho j) h hk hw ho hn n1 n2 n3 n4 hq f1 f2 z1 z2
end Mp.Dr
namespace Mp.Dr
open PySem L2
def Ws.run (ws:Ws):List Ev->Option Ws
 | []=>some ws
 | e::es=>(ws.step e).bind fun w=>w.run es
theorem Ws.run_app {ws1 ws2:Ws} {es:List Ev} {e:Ev}:∀ {ws:Ws},ws.run es=some ws1->ws1.step e=some ws2->ws.run (es++[e])=some ws2:=by
 induction es with
 | nil=>intro ws h1 h2;cases h1;simp [Ws.run,h2]
 | cons a es ih =>
  intro ws h1 h2
  obtain ⟨w,h3,h4⟩:=Option.bind_eq_some_iff.mp h1
  show (ws.step a).bind _=_
  rw [h3];exact ih h4 h2
def w0:Ws:=⟨[],[],0⟩
theorem zkt:WsOk w0 0:=⟨by decide,by decide,by simp [w0],by simp [w0],by decide,by decide⟩
theorem WsOk.mono {ws:Ws} {n m:Nat} (h:WsOk ws n) (hm:n<=m):WsOk ws m:=⟨h.m0,by have:=h.m1;omega,h.seats,h.copies,Nat.le_trans h.sl hm,Nat.le_trans h.cl hm⟩
abbrev wE:E:=(.dct [.inr "seats",.inr "copies",.inr "many"] (.cons .dnew (.cons (.lst .nil) (.cons (.con (.int 0)) .nil))))
theorem wE_ok (cf:CF) (sg:Sg) (M:Mm):∃ M',evE cf wE sg M=some (.ref M.length,M')/\WAt M' M.length (M.length+1) (M.length+2) w0/\Frm [] M M'/\M'.length=M.length+3:=by
 refine ⟨M++[zgv (M.length+1) (M.length+2) 0,.dic [],.lst []],?_,⟨?_,?_,?_,by omega⟩,Frm.app,by simp⟩
 ·have h1:zbu (M++[Ob.dic []]++[Ob.dic []]++[Ob.lst []]) M.length=some []:=by simp [zbu]
  have h2:(M++[Ob.dic []]++[Ob.dic []]++[Ob.lst []]).set M.length (zgv (M.length+1) (M.length+2) 0)=M++[zgv (M.length+1) (M.length+2) 0,.dic [],.lst []]:=by simp
  rw [<- h2]
  simp [evE,zv,sizeLine,zbu,zaH,zgv]
 ·simp [w0]
 ·simp [w0]
 ·simp [w0]
def Ev.word:Ev->Str
 | .put _ _ => "put" | .drop _ => "drop" | .join _ => "join" | .read _ _ => "read" | .save _ => "save" | .load _ _ => "load" | .wait => "wait"
def Ev.rest:Ev->List PV
 | .put k v=>[.str k,.int v] | .drop k=>[.str k] | .join r=>[.int r] | .read r u=>[.int r,.int u] | .save r=>[.int r] | .load r c=>[.int r,.int c] | .wait=>[]
theorem Ev.pv_eq (e:Ev):e.pv=.tup (.str e.word::e.rest):=by cases e<;>rfl
structure TbOk (es:List Ev) (n:Nat):Prop where
 run:∃ ws,w0.run es=some ws/\WsOk ws n
 len:es.length<=n
 ok:∀ e∈es,EvOk e
theorem TbOk.nil:TbOk [] 0:=⟨⟨w0,rfl,zkt⟩,Nat.le_refl _,by simp⟩
theorem TbOk.mono {es:List Ev} {n m:Nat} (h:TbOk es n) (hm:n<=m):TbOk es m:=⟨by obtain ⟨ws,a,b⟩:=h.run;exact ⟨ws,a,b.mono hm⟩,Nat.le_trans h.len hm,h.ok⟩
structure Mkg (M:Mm) (nf w s c:Nat) (es:List Ev) (ws:Ws) (n:Nat):Prop where
 f_:M[nf]? = some (.lst (es.map Ev.pv))
 w_:WAt M w s c ws
 run:w0.run es=some ws
 len:es.length<=n
 wok:WsOk ws n
 ok:∀ e∈es,EvOk e
 ne:nf≠w
theorem Mkg.ne2 {M:Mm} {nf w s c:Nat} {es:List Ev} {ws:Ws} {n:Nat} (h:Mkg M nf w s c es ws n):nf≠s:=by
 intro e;subst e;have:=h.w_.s_;rw [h.f_] at this;cases this
theorem Mkg.mono {M:Mm} {nf w s c:Nat} {es:List Ev} {ws:Ws} {n m:Nat} (h:Mkg M nf w s c es ws n) (hm:n<=m):Mkg M nf w s c es ws m:=⟨h.f_,h.w_,h.run,Nat.le_trans h.len hm,h.wok.mono hm,h.ok,h.ne⟩
theorem Mkg.frm {S:List Nat} {M M':Mm} {nf w s c:Nat} {es:List Ev} {ws:Ws} {n:Nat} (h:Mkg M nf w s c es ws n) (a:Frm S M M') (h1:nf∉S) (h2:w∉S) (h3:s∉S) (h4:c∉S):Mkg M' nf w s c es ws n:=⟨a.get h.f_ h1,h.w_.frm a h2 h3 h4,h.run,h.len,h.wok,h.ok,h.ne⟩
def HM (cf:CF):Prop:=∀ (M:Mm) (w s c:Nat) (ws ws':Ws) (e:Ev),WAt M w s c ws->ws.step e=some ws'->ws.seats.length<1000->ws.copies.length<1000 ->
 ∃ M',cf zbg [.ref w,e.pv] M=some (.non,M')/\WAt M' w s c ws'/\Frm [w,s,c] M M'/\M'.length=M.length
theorem hm (j:Nat):HM (cfN tab (j+1)):=fun M w s c ws ws' e h1 h2 h3 h4=>moved_ok (cfN tab j) h1 h2 h3 h4
theorem go_ok {cf:CF} (H:HM cf) {M:Mm} {nf w s c:Nat} {es:List Ev} {ws ws':Ws} {n:Nat} {e:Ev} (h:Mkg M nf w s c es ws n) (hn:n<500) (he:EvOk e) (hs:ws.step e=some ws') (hc:nf≠c) :
  ∃ M1 M2,cf zbg [.ref w,e.pv] M=some (.non,M1)/\zds M1 .append (.ref nf)=true/\zef M1 .append (.ref nf) [e.pv]=some (.non,M2)/\Mkg M2 nf w s c (es++[e]) ws' (n+1)/\Frm [nf,w,s,c] M M2:=by
 obtain ⟨M1,e1,W1,f1,l1⟩:=H M w s c ws ws' e h.w_ hs (by have:=h.wok.sl;omega) (by have:=h.wok.cl;omega)
 have hf:M1[nf]? = some (.lst (es.map Ev.pv)):=f1.get h.f_ (by simp [h.ne,h.ne2,hc])
 have hl:(es.map Ev.pv).length<16777216:=by have:=h.len;simp;omega
 refine ⟨M1,M1.set nf (.lst (es.map Ev.pv++[e.pv])),e1,by simp [zds,zl,hf],?_,⟨?_,?_,Ws.run_app h.run hs,?_,step_ok h.wok he hs,?_,h.ne⟩,?_⟩
 ·simp only [zef,zl,hf]
  show (if _ then _ else _)=_
  rw [if_pos (show _<sizeLine from hl)]
 ·rw [List.map_append];simp [zy hf]
 ·exact W1.frm (S:=[nf]) (Frm.set (by simp)) (by simp [h.ne.symm]) (by simp [h.ne2.symm]) (by simp [hc.symm])
 ·simp;exact h.len
 ·intro x hx
  rcases List.mem_append.mp hx with hx | hx
  ·exact h.ok x hx
  ·simp at hx;subst hx;exact he
 ·exact (f1.mono (by simp +contextual)).trans (Frm.set (by simp))
def HTb (cf:CF):Prop:=∀ (M:Mm) (b nn:Nat) (k f many most:Int) (z:Str),Bx M b k->k<800000000000->nn≠b->Strs M nn KeyOk->1<=f->f<=4->0<z.length->z.length<1000->0<=many->many<=12 ->
 ∃ (es:List Ev) (M':Mm),cf zg4 [.ref b,.int many,.int most,.int f,.ref nn,.str z] M=some (.tup (es.map Ev.pv),M')/\Frm [b] M M'/\Bx M' b (k+60)/\TbOk es 12
theorem table_ok {cf:CF} (HEv:HE cf) (H:HM cf) {M:Mm} {b nn:Nat} {k f many most:Int} {z:Str} (h:Bx M b k) (hk:k<800000000000) (n4:nn≠b) (hq:Strs M nn KeyOk) (f1:1<=f) (f2:f<=4) (z1:0<z.length) (z2:z.length<1000) (m1:0<=many) (m2:many<=12) :
  ∃ (es:List Ev) (M':Mm),zL cf zbv [.ref b,.int many,.int most,.int f,.ref nn,.str z] M=some (.tup (es.map Ev.pv),M')/\Frm [b] M M'/\Bx M' b (k+60)/\TbOk es 12:=by
 have hbl:b<M.length:=by obtain ⟨_,_,_,hb,_⟩:=h;exact zy hb
 have hnl:nn<M.length:=by obtain ⟨_,hb,_⟩:=hq;exact zy hb
 obtain ⟨Mw,e1,W1,f1',l1⟩:=wE_ok cf ([some (.ref b),some (.int many),some (.int most),some (.int f),some (.ref nn),some (.str z),none,none,none,none,none]) (M++[.lst []])
 have f2':Frm [] M Mw:=Frm.trans .app f1'
 have fd1:Mw[M.length]? = some (.lst []):=f1'.get (by simp) (by simp)
 simp only [List.length_append,List.length_singleton] at W1 e1 l1
 generalize hw_:M.length+1=w at W1 e1
 generalize hs_:w+1=s at W1
 generalize hc_:w+2=c at W1
 generalize hf_:M.length=nf at *
 let I:Nat->Sg->Mm->Prop:=fun i sg N=>∃ o8 o9 o10 es ws,sg=[some (.ref b),some (.int many),some (.int most),some (.int f),some (.ref nn),some (.str z),some (.ref nf),some (.ref w),o8,o9,o10]/\Mkg N nf w s c es ws i/\Bx N b (k+5*i)/\Frm [b] M N
 obtain ⟨sg',M',e2,o8,o9,o10,es,ws,hsg,K,B,F⟩:=zcD (src:=.rng 0 many.toNat) (bind:=tgP (.name 8)) (body:=fun sg M=>zM cf zaA sg M) I (n:=many.toNat) (sg:=[some (.ref b),some (.int many),some (.int most),some (.int f),some (.ref nn),some (.str z),some (.ref nf),some (.ref w),none,none,none]) (M:=Mw) (by omega)
  ⟨none,none,none,[],w0,rfl,⟨fd1,W1,rfl,Nat.le_refl _,zkt,by simp,by omega⟩,h.frm f2' (by simp) (by omega),f2'.mono (by simp)⟩
  (by
   intro i sg N hi hI
   obtain ⟨o8,o9,o10,es,ws,rfl,K,B,F⟩:=hI
   refine ⟨.int (0+i),[some (.ref b),some (.int many),some (.int most),some (.int f),some (.ref nn),some (.str z),some (.ref nf),some (.ref w),some (.int (0+i)),o9,o10],?_⟩
   obtain ⟨v,N1,e3,F1,B1,hv⟩:=HEv N b w s c nn (k+5*i) f ws i z B (by omega) K.w_ K.wok (by omega) (by omega) (by omega) (by omega) n4 (by obtain ⟨ks,q,q'⟩:=hq;exact ⟨ks,F.get q (by simpa using n4),q'⟩) f1 f2 z1 z2
   have K1:Mkg N1 nf w s c es ws i:=K.frm F1 (by simp;omega) (by simp;omega) (by simp;omega) (by simp;omega)
   have iM:zas N1 (.ref w) (.str "many")=some (.int ws.many):=by
    have:=K1.w_.w_;simp [zas,this,zad,getD,zgv]
   have iC:zas N1 (.ref w) (.str "copies")=some (.ref c):=by
    have:=K1.w_.w_;simp [zas,this,zad,getD,zgv]
   have hlc:zJ N1 .len [.ref c]=some (.int ws.copies.length,N1):=by simp only [zJ,K1.w_.c_]
   have B2:∀ {N2:Mm},Frm [nf,w,s,c] N1 N2->Bx N2 b (k+5*(i+1:Nat)):=fun fr=>B1.frm fr (by simp;omega) (by omega)
   have F2:∀ {N2:Mm},Frm [nf,w,s,c] N1 N2->Frm [b] M N2:=fun fr=>(F.trans F1).comp fr (by simp;omega)
   have src:(Src.rng 0 many.toNat).get N i=some (some (.int (0+i))):=by simp [Src.get,hi]
   rcases hv with rfl | ⟨e,ws',rfl,heo,hst⟩
   ·refine ⟨[some (.ref b),some (.int many),some (.int most),some (.int f),some (.ref nn),some (.str z),some (.ref nf),some (.ref w),some (.int (0+i)),some .non,some (.bl false)],N1,src,rfl,?_,_,_,_,es,ws,rfl,K1.mono (by omega),B2 .refl,F2 .refl⟩
    simp [zaA,zM,evS,evE,zv,tgP,e3,zK]
   ·obtain ⟨Na,Nb,g1,g2,g3,g4,g5⟩:=go_ok H K1 (by omega) heo hst (by omega)
    have full:∃ x,zcx N1 (.str e.word) (.tup [.str "put",.str "drop"])=some x:=by simp [zcx,inP,zaS]
    obtain ⟨x,hx⟩:=full
    have ix0:zas N1 e.pv (.int 0)=some (.str e.word):=by rw [e.pv_eq];simp [zas,atI,ixN]
    rw [e.pv_eq] at e3 g1 g3 ix0
    generalize e.word=ew at *
    generalize e.rest=er at *
    by_cases go:(x && decide (most<=ws.many))=false/\(ew ≠ "save" \/ (ws.copies.length:Int)<3)
    ·refine ⟨[some (.ref b),some (.int many),some (.int most),some (.int f),some (.ref nn),some (.str z),some (.ref nf),some (.ref w),some (.int (0+i)),some (.tup (.str ew::er)),some (.bl false)],Nb,src,rfl,?_,_,_,_,es++[e],ws',rfl,g4,B2 g5,F2 g5⟩
     obtain ⟨ga,gb⟩:=go
     cases x with
     | false =>
      by_cases hsv:ew = "save"
      ·have h3:(ws.copies.length:Int)<3:=gb.resolve_left (fun q=>q hsv)
       subst hsv
       simp [zaA,zM,evS,evE,zv,tgP,e3,ix0,zK,hx,iC,hlc,h3,g1,g2,g3,sizeLine]
      ·simp [zaA,zM,evS,evE,zv,tgP,e3,ix0,zK,hx,hsv,iC,hlc,g1,g2,g3,sizeLine]
     | true =>
      simp at ga
      have ga':¬ most<=ws.many:=by omega
      by_cases hsv:ew = "save"
      ·have h3:(ws.copies.length:Int)<3:=gb.resolve_left (fun q=>q hsv)
       subst hsv
       simp [zaA,zM,evS,evE,zv,tgP,e3,ix0,zK,hx,iC,iM,hlc,h3,ga',g1,g2,g3,sizeLine]
      ·simp [zaA,zM,evS,evE,zv,tgP,e3,ix0,zK,hx,hsv,iC,iM,hlc,ga',g1,g2,g3,sizeLine]
    ·refine ⟨[some (.ref b),some (.int many),some (.int most),some (.int f),some (.ref nn),some (.str z),some (.ref nf),some (.ref w),some (.int (0+i)),some (.tup (.str ew::er)),some (.bl (x && decide (most<=ws.many)))],N1,src,rfl,?_,_,_,_,es,ws,rfl,K1.mono (by omega),B2 .refl,F2 .refl⟩
     by_cases hsv:ew = "save" /\ ¬ (ws.copies.length:Int)<3
     ·obtain ⟨h1,h2⟩:=hsv
      subst h1
      cases x<;>by_cases hmm:most<=ws.many<;>simp [zaA,zM,evS,evE,zv,tgP,e3,ix0,zK,hx,iC,iM,hlc,h2,hmm,sizeLine]
     ·have hxx:x=true/\most<=ws.many:=by
       cases x with
       | false=>exact absurd ⟨rfl,(Classical.em (ew = "save")).elim (fun q=>.inr (Classical.byContradiction fun z=>hsv ⟨q,z⟩)) .inl⟩ go
       | true =>
        refine ⟨rfl,Classical.byContradiction fun zz=>go ⟨by simp;omega,(Classical.em (ew = "save")).elim (fun q=>.inr (Classical.byContradiction fun z=>hsv ⟨q,z⟩)) .inl⟩⟩
      obtain ⟨rfl,hmm⟩:=hxx
      simp [zaA,zM,evS,evE,zv,tgP,e3,ix0,zK,hx,iC,iM,hlc,hmm,sizeLine])
  (by intro sg N _;simp [Src.get])
 refine ⟨es,M',?_,F,B.frm (S:=[]) .refl (by simp) (by omega),⟨⟨ws,K.run,K.wok.mono (by omega)⟩,by have:=K.len;omega,K.ok⟩⟩
 subst hsg
 have hro:zbQ many=true:=by simp [zbQ];omega
 have hfin:=K.f_
 have hE:∀ (q:E) (sg0:Sg),evE cf q sg0 (M++[.lst []])=some (.ref w,Mw)->evE cf (.tup (.cons (.lst .nil) (.cons q .nil))) sg0 M=some (.tup [.ref nf,.ref w],Mw):=by
  intro q sg0 hq;simp [evE,zv,hq,sizeLine,hf_]
 have hT:evE cf (.blt .tuple (.cons (.var 6) .nil)) [some (.ref b),some (.int many),some (.int most),some (.int f),some (.ref nn),some (.str z),some (.ref nf),some (.ref w),o8,o9,o10] M'=some (.tup (es.map Ev.pv),M'):=by
  simp [evE,zv,zJ,zl,hfin]
 simp [zL,zbv,zM,evS,hE wE _ e1,evI,tgP,zx,evE.eq_1,hro,e2,hT]
theorem htb (j:Nat):HTb (cfN tab (j+4)):=fun M b nn k f many most z h hk n4 hq f1 f2 z1 z2 m1 m2=>table_ok (he j) (hm (j+2)) h hk n4 hq f1 f2 z1 z2 m1 m2
end Mp.Dr
namespace Mp.Dr
open PySem L2
theorem Ws.run_append {es fs:List Ev}:∀ {ws:Ws},ws.run (es++fs)=(ws.run es).bind fun w=>w.run fs:=by
 induction es with
 | nil=>intro ws;rfl
 | cons a es ih =>
  intro ws
  show (ws.step a).bind _=((ws.step a).bind _).bind _
  cases ws.step a with
  | none=>rfl
  | some w=>exact ih
theorem ziz {es:List Ev}:∀ {ws ws':Ws} {n:Nat},WsOk ws n->(∀ e∈es,EvOk e)->ws.run es=some ws'->WsOk ws' (n+es.length):=by
 induction es with
 | nil=>intro ws ws' n h _ e;cases e;exact h
 | cons a es ih =>
  intro ws ws' n h ho e
  obtain ⟨w,h1,h2⟩:=Option.bind_eq_some_iff.mp e
  have:=ih (step_ok h (ho a (by simp)) h1) (fun x hx=>ho x (by simp [hx])) h2
  exact this.mono (by simp;omega)
def DiffR (e e':Ev):Prop:=∀ p u p' u',e=.read p u->e'=.read p' u'->p≠p'
theorem zkX {rs:List Ev}:∀ {ws:Ws},(∀ r∈rs,∃ p b:Int,r=.read p ws.many/\getD ws.seats (.inl p)=some (.int b)/\b<ws.many)->rs.Pairwise DiffR->∃ ws',ws.run rs=some ws'/\ws'.many=ws.many:=by
 induction rs with
 | nil=>intro ws _ _;exact ⟨ws,rfl,rfl⟩
 | cons a rs ih =>
  intro ws h hp
  obtain ⟨p,b,rfl,h1,h2⟩:=h a (by simp)
  rw [List.pairwise_cons] at hp
  have hs:=zeG h1 h2 (Int.le_refl _)
  obtain ⟨ws',hw,hm⟩:=ih (ws:={ ws with seats:=zaH ws.seats (.inl p) (.int ws.many) }) (fun r hr=>by
   obtain ⟨p',b',rfl,k1,k2⟩:=h r (by simp [hr])
   refine ⟨p',b',rfl,?_,k2⟩
   show getD (zaH ws.seats (.inl p) (.int ws.many)) (.inl p')=_
   rw [zbh (fun z=>hp.1 _ hr p _ p' _ rfl rfl (by injection z with z;exact z.symm))]
   exact k1) hp.2
  refine ⟨ws',?_,hm⟩
  show (ws.step (.read p ws.many)).bind (fun w=>w.run rs)=_
  rw [hs];exact hw
theorem putD_nd {kvs:List (Key × PV)} {k:Key} {v:PV} (h:(kvs.map (·.1)).Nodup):((zaH kvs k v).map (·.1)).Nodup:=by
 rw [zeI]
 split
 ·exact h
 ·rename_i hk
  rw [List.nodup_append]
  refine ⟨h,by simp,fun a ha b hb=>?_⟩
  simp at hb
  subst hb
  intro z
  subst z
  obtain ⟨q,hq,rfl⟩:=List.mem_map.mp ha
  exact hk (List.any_eq_true.mpr ⟨q,hq,by simp⟩)
theorem step_nd {ws ws':Ws} {e:Ev} (h:(ws.seats.map (·.1)).Nodup) (hs:ws.step e=some ws'):(ws'.seats.map (·.1)).Nodup:=by
 cases e with
 | put k v=>cases hs;exact h
 | drop k=>cases hs;exact h
 | join r=>cases hs;exact putD_nd h
 | read r u=>obtain ⟨_,rfl⟩:=step_read hs;exact putD_nd h
 | save r=>obtain ⟨v,_,rfl⟩:=Option.map_eq_some_iff.mp hs;exact h
 | load r c=>obtain ⟨v,_,rfl⟩:=Option.map_eq_some_iff.mp hs;exact putD_nd h
 | wait=>cases hs;exact h
theorem run_nd {es:List Ev}:∀ {ws ws':Ws},(ws.seats.map (·.1)).Nodup->ws.run es=some ws'->(ws'.seats.map (·.1)).Nodup:=by
 induction es with
 | nil=>intro ws ws' h hr;cases hr;exact h
 | cons e es ih =>
  intro ws ws' h hr
  obtain ⟨w,h1,h2⟩:=Option.bind_eq_some_iff.mp hr
  exact ih (step_nd h h1) h2
theorem ziP:∀ {kvs:List (Key × PV)} {ns:List Int},zbH kvs=some ns->(kvs.map (·.1)).Nodup->ns.Nodup
 | [],ns,h,_=>by simp [zbH] at h;subst h;exact List.nodup_nil
 | (.inl i,v)::r,ns,h,hn=>by
  simp only [zbH] at h
  obtain ⟨l,h1,rfl⟩:=Option.map_eq_some_iff.mp h
  rw [List.map_cons,List.nodup_cons] at hn
  rw [List.nodup_cons]
  refine ⟨fun hi=>hn.1 ?_,ziP h1 hn.2⟩
  clear hn h
  induction r generalizing l with
  | nil=>simp [zbH] at h1;subst h1;simp at hi
  | cons q r ih =>
   obtain ⟨k,w⟩:=q
   cases k with
   | inr s=>simp [zbH] at h1
   | inl j =>
    simp only [zbH] at h1
    obtain ⟨l',h2,rfl⟩:=Option.map_eq_some_iff.mp h1
    rcases List.mem_cons.mp hi with rfl | hi
    ·simp
    ·exact List.mem_cons_of_mem _ (ih _ h2 hi)
 | (.inr s,v)::r,ns,h,_=>by simp [zbH] at h
theorem insI_mem {i j:Int} {ns:List Int}:j∈zjG i ns->j=i\/j∈ns:=by
 induction ns with
 | nil=>intro h;simpa [zjG] using h
 | cons a ns ih =>
  intro h
  unfold zjG at h
  split at h
  ·simpa using h
  ·rcases List.mem_cons.mp h with h | h
   ·exact .inr (by simp [h])
   ·exact (ih h).imp id (fun q=>by simp [q])
theorem zkN {j:Int} {ns:List Int}:j∈zau ns->j∈ns:=by
 induction ns with
 | nil=>intro h;exact h
 | cons a ns ih=>intro h;exact (insI_mem h).elim (fun q=>by simp [q]) (fun q=>by simp [ih q])
theorem insI_len {i:Int} {ns:List Int}:(zjG i ns).length=ns.length+1:=by
 induction ns with
 | nil=>rfl
 | cons a ns ih=>unfold zjG;split<;>simp [ih]
theorem zkO {ns:List Int}:(zau ns).length=ns.length:=by
 induction ns with
 | nil=>rfl
 | cons a ns ih=>show (zjG a (zau ns)).length=_;rw [insI_len,ih];rfl
theorem keysI_some {kvs:List (Key × PV)} (h:∀ kv∈kvs,∃ p v:Int,kv=(.inl p,.int v)/\0<=p/\p<=3/\0<=v):∃ ns,zbH kvs=some ns/\ns.length=kvs.length/\∀ p∈ns,0<=p/\p<=3/\∃ v:Int,getD kvs (.inl p)=some (.int v):=by
 have key:∀ kvs':List (Key × PV),(∀ kv∈kvs',kv∈kvs)->∃ ns,zbH kvs'=some ns/\ns.length=kvs'.length/\∀ p∈ns,0<=p/\p<=3/\∃ v:Int,getD kvs (.inl p)=some (.int v):=by
  intro kvs'
  induction kvs' with
  | nil=>intro _;exact ⟨[],rfl,rfl,by simp⟩
  | cons kv r ih =>
   intro hs
   obtain ⟨ns,h1,h2,h3⟩:=ih (fun x hx=>hs x (by simp [hx]))
   obtain ⟨p,v,rfl,a,b,c⟩:=h kv (hs kv (by simp))
   refine ⟨p::ns,by simp [zbH,h1],by simp [h2],?_⟩
   intro q hq
   rcases List.mem_cons.mp hq with rfl | hq
   ·refine ⟨a,b,?_⟩
    cases hg:getD kvs (.inl q) with
    | some w=>obtain ⟨_,v',e,_⟩:=h _ (zbt hg);cases e;exact ⟨v',rfl⟩
    | none =>
     exfalso
     unfold getD at hg
     rw [Option.map_eq_none_iff,List.find?_eq_none] at hg
     exact hg (.inl q,.int v) (hs (.inl q,.int v) (by simp)) (by simp)
   ·exact h3 q hq
 exact key kvs (fun _ h=>h)
def TbF (es:List Ev):Prop:=TbOk es 52/\∃ ws,w0.run es=some ws/\ws.many<=26
theorem TbOk.f {es:List Ev} {n:Nat} (h:TbOk es n) (hn:n<=26):TbF es:=⟨h.mono (by omega),by obtain ⟨ws,a,b⟩:=h.run;exact ⟨ws,a,by have:=b.m1;omega⟩⟩
def HEn (cf:CF):Prop:=∀ (M:Mm) (es:List Ev),TbOk es 26->∃ (es':List Ev) (M':Mm),cf zdv [.tup (es.map Ev.pv)] M=some (.tup (es'.map Ev.pv),M')/\Frm [] M M'/\TbF es'
theorem ended_ok {cf:CF} (H:HM cf) {M:Mm} {es:List Ev} (h:TbOk es 26):∃ (es':List Ev) (M':Mm),zL cf zby [.tup (es.map Ev.pv)] M=some (.tup (es'.map Ev.pv),M')/\Frm [] M M'/\TbF es':=by
 obtain ⟨wsE,hrun,hwE⟩:=h.run
 obtain ⟨Mw,e1,W1,f1,l1⟩:=wE_ok cf [some (.tup (es.map Ev.pv)),none,none,none] M
 generalize hw_:M.length=w at *
 generalize hs_:w+1=s at *
 generalize hc_:w+2=c at *
 let I:Nat->Sg->Mm->Prop:=fun i sg N=>∃ o2 ws,sg=[some (.tup (es.map Ev.pv)),some (.ref w),o2,none]/\w0.run (es.take i)=some ws/\WAt N w s c ws/\Frm [] M N
 have hlen:=h.len
 obtain ⟨sg',M1,e2,o2,ws,hsg,R,W,F⟩:=zcD (src:=.tup (es.map Ev.pv)) (bind:=tgP (.name 2)) (body:=fun sg M=>zM cf zcX sg M) I (n:=es.length) (sg:=[some (.tup (es.map Ev.pv)),some (.ref w),none,none]) (M:=Mw) (by omega)
  ⟨none,w0,rfl,rfl,W1,f1⟩
  (by
   intro i sg N hi hI
   obtain ⟨o2,ws,rfl,R,W,F⟩:=hI
   have hsp:es.take (i+1)=es.take i++[es[i]]:=by rw [List.take_succ_eq_append_getElem hi]
   have hall:w0.run (es.take (i+1)++es.drop (i+1))=some wsE:=by rw [List.take_append_drop];exact hrun
   rw [Ws.run_append,hsp,Ws.run_append,R] at hall
   obtain ⟨ws1,q1,q2⟩:=Option.bind_eq_some_iff.mp hall
   obtain ⟨ws2,q3,q4⟩:=Option.bind_eq_some_iff.mp (show (ws.step es[i]).bind (fun w=>w.run [])=some ws1 from q1)
   cases q4
   have hwo:=ziz zkt (fun e he=>h.ok e (List.mem_of_mem_take he)) R
   have hl2:(es.take i).length<=i:=by simp;omega
   obtain ⟨N1,e3,W3,f3,l3⟩:=H N w s c ws ws1 es[i] W q3 (by have:=hwo.sl;omega) (by have:=hwo.cl;omega)
   refine ⟨es[i].pv,[some (.tup (es.map Ev.pv)),some (.ref w),some es[i].pv,none],[some (.tup (es.map Ev.pv)),some (.ref w),some es[i].pv,none],N1,?_,rfl,?_,some es[i].pv,ws1,rfl,?_,W3,F.comp f3 (by simp;omega)⟩
   ·simp [Src.get,hi]
   ·simp [zcX,zM,evS,evE,zv,e3]
   ·rw [hsp,Ws.run_append,R];show (ws.step es[i]).bind _=_;rw [q3];rfl)
  (by intro sg N _;simp [Src.get])
 rw [List.take_length] at R
 have hww:ws=wsE:=Option.some.inj (R.symm.trans hrun)
 subst hww
 subst hsg
 obtain ⟨ns,k1,k2,k3⟩:=keysI_some hwE.seats
 have hnl:ns.length<64:=by have:=hwE.sl;omega
 have iS:∀ {N:Mm},WAt N w s c ws->zas N (.ref w) (.str "seats")=some (.ref s):=fun {N} q=>by
  have:=q.w_;simp [zas,this,zad,getD,zgv]
 have iM:∀ {N:Mm},WAt N w s c ws->zas N (.ref w) (.str "many")=some (.int ws.many):=fun {N} q=>by
  have:=q.w_;simp [zas,this,zad,getD,zgv]
 have hsl:(zau ns).length<=26:=by have:=hwE.sl;rw [zkO];omega
 let J:Nat->Mm->Prop:=fun i N=>∃ rs:List Ev,N[M1.length+1]? = some (.lst (rs.map Ev.pv))/\rs.length<=i/\(∀ r∈rs,EvOk r/\∃ p b:Int,r=.read p ws.many/\getD ws.seats (.inl p)=some (.int b)/\b<ws.many/\p∈(zau ns).take i)/\rs.Pairwise DiffR/\Frm [] (M1++[.lst ((zau ns).map .int)]) N
 have hnd:(zau ns).Nodup:=(zb5 ns).nodup_iff.mpr (ziP k1 (run_nd (by simp [w0]) R))
 obtain ⟨M3,e4,rs,r1,r2,r3,rP,F3⟩:=zeN (src:=.lst M1.length) (bind:=tgP (.name 3)) (c:=fun sg M=>evE cf za1 sg M) (e:=fun sg M=>evE cf zbz sg M) (d:=M1.length+1) (sg:=[some (.tup (es.map Ev.pv)),some (.ref w),o2,none]) J (n:=(zau ns).length) (M:=M1++[.lst ((zau ns).map .int)]++[.lst []]) (by omega)
  ⟨[],by simp,Nat.le_refl _,by simp,.nil,.app⟩
  (by
   intro i N hi hI
   obtain ⟨rs,r1,r2,r3,rP,F3⟩:=hI
   have F4:Frm [] M1 N:=Frm.trans .app F3
   have W4:=W.frm F4 (by simp) (by simp) (by simp)
   have hL:N[M1.length]? = some (.lst ((zau ns).map .int)):=F3.get (by simp) (by simp)
   obtain ⟨p0,p3,v,hv⟩:=k3 _ (zkN (List.getElem_mem hi))
   have hpt:(zau ns)[i]∈(zau ns).take (i+1):=by rw [List.take_succ_eq_append_getElem hi];exact List.mem_append_right _ (List.mem_singleton.mpr rfl)
   have hpn:(zau ns)[i]∉(zau ns).take i:=fun z=>by
    have h9:=hnd
    rw [<- List.take_append_drop i (zau ns),List.nodup_append] at h9
    refine h9.2.2 _ z (zau ns)[i] ?_ rfl
    rw [List.drop_eq_getElem_cons hi];exact List.mem_cons_self
   generalize hp:(zau ns)[i]=p at *
   have iV:zas N (.ref s) (.int p)=some (.int v):=by simp only [zas,W4.s_,zad];exact hv
   refine ⟨.int p,[some (.tup (es.map Ev.pv)),some (.ref w),o2,some (.int p)],by simp [Src.get,zl,hL,hi,hp],rfl,?_⟩
   by_cases hlt:v<ws.many
   ·refine .inl ⟨N,(Ev.read p ws.many).pv,N,rs.map Ev.pv,?_,?_,by simp [zl,r1],by simp;omega,rs++[.read p ws.many],?_,by simp;omega,?_,?_,F3.wr (by simp)⟩
    ·simp [za1,evE,iS W4,iM W4,iV,zK,hlt]
    ·simp [zbz,evE,zv,iM W4,Ev.pv,sizeLine]
    ·simp [zy r1]
    ·intro r hr
     rcases List.mem_append.mp hr with hr | hr
     ·obtain ⟨q1,p',b',q2,q3,q4,q5⟩:=r3 r hr
      exact ⟨q1,p',b',q2,q3,q4,by rw [List.take_succ_eq_append_getElem hi];exact List.mem_append_left _ q5⟩
     ·simp at hr;subst hr;exact ⟨⟨p0,p3,hwE.m0⟩,_,_,rfl,hv,hlt,hpt⟩
    ·rw [List.pairwise_append]
     refine ⟨rP,by simp,fun x hx y hy=>?_⟩
     simp at hy
     subst hy
     intro p1 u1 p2 u2 e1 e2
     obtain ⟨_,p',b',q2,_,_,q5⟩:=r3 x hx
     rw [q2] at e1
     cases e1
     cases e2
     exact fun z=>hpn (by rw [<- z];exact q5)
   ·refine .inr ⟨N,?_,rs,r1,by omega,fun r hr=>by
     obtain ⟨q1,p',b',q2,q3,q4,q5⟩:=r3 r hr
     exact ⟨q1,p',b',q2,q3,q4,by rw [List.take_succ_eq_append_getElem hi];exact List.mem_append_left _ q5⟩,rP,F3⟩
    simp [za1,evE,iS W4,iM W4,iV,zK,hlt])
  (by
   intro N hI
   obtain ⟨rs,r1,r2,r3,rP,F3⟩:=hI
   have hL:N[M1.length]? = some (.lst ((zau ns).map .int)):=F3.get (by simp) (by simp)
   simp [Src.get,zl,hL])
 have hrs:rs.length<=26:=by omega
 obtain ⟨ws',hr',hmn⟩:=zkX (ws:=ws) (fun r hr=>by
  obtain ⟨_,p',b',q2,q3,q4,_⟩:=r3 r hr
  exact ⟨p',b',q2,q3,q4⟩) rP
 refine ⟨es++rs,M3,?_,(F.trans .app).trans F3,⟨⟨ws',by rw [Ws.run_append,R];exact hr',(ziz hwE (fun r hr=>(r3 r hr).1) hr').mono (by omega)⟩,by simp;omega,?_⟩,ws',by rw [Ws.run_append,R];exact hr',by have:=hwE.m1;omega⟩
 ·have hsrt:zJ M1 .sorted [.ref s]=some (.ref M1.length,M1++[.lst ((zau ns).map .int)]):=by
   simp [zJ,W.s_,k1,hnl]
  have hso:zam (M1++[.lst ((zau ns).map .int)]) (.ref M1.length)=some (.lst M1.length):=by simp [zam,zl]
  have hLC:evE cf (.lc [3] (.name 3) (.seq (.blt .sorted (.cons (.idx (.var 1) (.con (.str "seats"))) .nil))) za1 zbz) [some (.tup (es.map Ev.pv)),some (.ref w),o2,none] M1=some (.ref (M1.length+1),M3):=by
   have hI:evI cf (.seq (.blt .sorted (.cons (.idx (.var 1) (.con (.str "seats"))) .nil))) [some (.tup (es.map Ev.pv)),some (.ref w),o2,none] M1=some (.lst M1.length,M1++[.lst ((zau ns).map .int)]):=by
    simp [evI,evE,zv,iS W,hsrt,hso]
   have hwp:z6 [some (PV.tup (es.map Ev.pv)),some (.ref w),o2,none] [3]=[some (.tup (es.map Ev.pv)),some (.ref w),o2,none]:=rfl
   rw [evE,hI]
   simp only [hwp,List.length_append,List.length_singleton,e4]
   rfl
  have hT:evE cf (.bop .add (.var 0) (.blt .tuple (.cons (.lc [3] (.name 3) (.seq (.blt .sorted (.cons (.idx (.var 1) (.con (.str "seats"))) .nil))) za1 zbz) .nil))) [some (.tup (es.map Ev.pv)),some (.ref w),o2,none] M1=some (.tup ((es++rs).map Ev.pv),M3):=by
   generalize E.lc [3] (.name 3) (.seq (.blt .sorted (.cons (.idx (.var 1) (.con (.str "seats"))) .nil))) za1 zbz=q at hLC
   have hsz:es.length+rs.length<=16777216:=by omega
   simp [evE,zv,hLC,zJ,zl,r1,zat,sizeLine,hsz]
  have hS:zam Mw (.tup (es.map Ev.pv))=some (.tup (es.map Ev.pv)):=rfl
  generalize hb:zcX=bd at e2
  simp [zL,zby,hb,zM,evS,e1,evI,tgP,evE.eq_1,hS,e2,hT]
 ·intro e he
  rcases List.mem_append.mp he with he | he
  ·exact h.ok e he
  ·exact (r3 e he).1
theorem hen (j:Nat):HEn (cfN tab (j+2)):=fun M es h=>ended_ok (hm j) h
end Mp.Dr
namespace Mp.Dr
open PySem L2
def lenAt (M:Mm) (r:Nat):Nat:=match M[r]? with | some (.lst xs)=>xs.length | _=>0
def PD:Ev->Prop
 | .put _ _=>True | .drop _=>True | _=>False
structure Lots (M:Mm) (nl:Nat) (rs:List Nat):Prop where
 at_:M[nl]? = some (.lst (rs.map .ref))
 el:∀ r∈rs,∃ es:List Ev,M[r]? = some (.lst (es.map Ev.pv))/\es≠[]/\es.length<1000/\∀ e∈es,EvOk e/\PD e
theorem zfw {α:Type} (f:α->Int):∀ xs:List α,zaV (xs.map fun x=>PV.int (f x))=some (xs.map f)
 | []=>rfl
 | x::xs=>by simp [zaV,zfw f xs]
theorem ziu (f:Nat->Nat):∀ xs:List Nat,(xs.map fun r=>((f r:Nat):Int)).sum=((xs.map f).sum:Nat)
 | []=>rfl
 | x::xs=>by simp [ziu f xs]
theorem sum_ok (cf:CF) {sg:Sg} {M:Mm} {nl i v:Nat} {rs:List Nat} (h:M[nl]? = some (.lst (rs.map .ref))) (hr:∀ r∈rs,∃ xs,M[r]? = some (.lst xs)) (hl:rs.length<1000) (hi:sg[i]? = some (some (.ref nl))) (hv:v<sg.length) :
  evE cf (.blt .sum (.cons (.lc [v] (.name v) (.seq (.var i)) (.con (.bl true)) (.blt .len (.cons (.var v) .nil))) .nil)) sg M=some (.int (rs.map (lenAt M)).sum,M++[.lst (rs.map fun r=>.int (lenAt M r))]):=by
 have hlc:=zh1 (src:=.lst nl) (bind:=tgP (.name v)) (c:=fun sg M=>evE cf (.con (.bl true)) sg M) (e:=fun sg M=>evE cf (.blt .len (.cons (.var v) .nil)) sg M) (sg:=z6 sg [v]) (M1:=M) (xs:=rs.map .ref) (fun _=>true) (fun x=>match x with | .ref r=>.int (lenAt M r) | x=>x)
  (by
   intro acc i
   have:(M++[Ob.lst acc])[nl]? = some (.lst (rs.map .ref)):=(Frm.app (S:=[])).get h (by simp)
   simp [Src.get,zl,this])
  (by
   intro x hx acc
   obtain ⟨r,hr1,rfl⟩:=List.mem_map.mp hx
   obtain ⟨xs,hxs⟩:=hr r hr1
   have:(M++[Ob.lst acc])[r]? = some (.lst xs):=(Frm.app (S:=[])).get hxs (by simp)
   refine ⟨_,rfl,by simp [evE],fun _=>?_⟩
   have hgv:((z6 sg [v]).set v (some (.ref r)))[v]? = some (some (.ref r)):=by simp [z6,hv]
   simp [evE,zv,hgv,zJ,this,lenAt,hxs])
  (by simp;omega)
 have hI:evI cf (.seq (.var i)) sg M=some (.lst nl,M):=by simp [evI,evE,hi,zam,zl,h]
 have hE:evE cf (.lc [v] (.name v) (.seq (.var i)) (.con (.bl true)) (.blt .len (.cons (.var v) .nil))) sg M=some (.ref M.length,M++[.lst (rs.map fun r=>.int (lenAt M r))]):=by
  rw [evE,hI]
  have hfl:(rs.map PV.ref).filter (fun _=>true)=rs.map .ref:=List.filter_eq_self.mpr (by simp)
  simp only [hlc,hfl,List.map_map]
  rfl
 generalize E.lc [v] (.name v) (.seq (.var i)) (.con (.bl true)) (.blt .len (.cons (.var v) .nil))=q at hE
 have h3:zaV (rs.map fun r=>PV.int (lenAt M r))=some (rs.map fun r=>((lenAt M r:Nat):Int)):=zfw _ _
 simp [evE,zv,hE,zJ,zl,h3,ziu]
theorem zb7 {S:List Nat} {M M':Mm} (a:Frm S M M') {r:Nat} {xs:List PV} (h:M[r]? = some (.lst xs)) (hs:r∉S):lenAt M' r=lenAt M r:=by
 unfold lenAt;rw [a.get h hs,h]
def HLo (cf:CF):Prop:=∀ (M:Mm) (b nn:Nat) (k:Int) (ks:List Str),Bx M b k->k<700000000000->nn≠b->M[nn]? = some (.lst (ks.map .str))->ks.length<=4->(∀ x∈ks,KeyOk x) ->
 ∃ (nl:Nat) (rs:List Nat) (M':Mm),cf zgc [.ref b,.int 6,.ref nn] M=some (.ref nl,M')/\Frm [b] M M'/\Bx M' b (k+60)/\Lots M' nl rs/\rs.length<=4/\(∀ r∈rs,M.length<=r/\r<M'.length)/\(rs.map (lenAt M')).sum<=6/\M.length<=nl/\nl<M'.length
theorem lots_ok {cf:CF} (T:HT cf) {M:Mm} {b nn:Nat} {k:Int} {ks:List Str} (h:Bx M b k) (hk:k<700000000000) (n4:nn≠b) (hq:M[nn]? = some (.lst (ks.map .str))) (kl:ks.length<=4) (ho:∀ x∈ks,KeyOk x) :
  ∃ (nl:Nat) (rs:List Nat) (M':Mm),zL cf zb9 [.ref b,.int 6,.ref nn] M=some (.ref nl,M')/\Frm [b] M M'/\Bx M' b (k+60)/\Lots M' nl rs/\rs.length<=4/\(∀ r∈rs,M.length<=r/\r<M'.length)/\(rs.map (lenAt M')).sum<=6/\M.length<=nl/\nl<M'.length:=by
 have hbl:b<M.length:=by obtain ⟨_,_,_,hb,_⟩:=h;exact zy hb
 let I:Nat->Sg->Mm->Prop:=fun i sg N=>∃ o4 o5 o6 rs,sg=[some (.ref b),some (.int 6),some (.ref nn),some (.ref M.length),o4,o5,o6,none,none]/\Frm [b] M N/\Bx N b (k+15*i)/\Lots N M.length rs/\rs.length<=i/\(∀ r∈rs,M.length<r/\r<N.length)/\(rs.map (lenAt N)).sum<=6
 obtain ⟨sg',M',e2,o4,o5,o6,rs,hsg,F,B,L,rl,rb,rsum⟩:=zcD (src:=.lst nn) (bind:=tgP (.name 4)) (body:=fun sg M=>zM cf zcJ sg M) I (n:=ks.length) (sg:=[some (.ref b),some (.int 6),some (.ref nn),some (.ref M.length),none,none,none,none,none]) (M:=M++[.lst []]) (by omega)
  ⟨none,none,none,[],rfl,.app,h.frm (S:=[]) .app (by simp) (by omega),⟨by simp,by simp⟩,by simp,by simp,by simp⟩
  (by
   intro i sg N hi hI
   obtain ⟨o4,o5,o6,rs,rfl,F,B,L,rl,rb,rsum⟩:=hI
   have hnnN:N[nn]? = some (.lst (ks.map .str)):=F.get hq (by simpa using n4)
   have hko:KeyOk ks[i]:=ho _ (List.getElem_mem hi)
   generalize hkw:ks[i]=wd at hko
   have src:(Src.lst nn).get N i=some (some (.str wd)):=by simp [Src.get,zl,hnnN,hi,hkw]
   let six:List PV:=[.str "pd",.str "pd",.str "ppd",.str "pdpd",.str "dpd",.str "pdp"]
   have hbn:=F.lt hbl
   obtain ⟨r1,l1,a1,a2,e1,B1⟩:=T (N++[Ob.lst six]) b (k+15*i) 6 (B.frm (S:=[]) .app (by simp) (by omega)) (by omega) (by omega) (by omega)
   have g1:Frm [b] N ((N++[Ob.lst six]).set b (Ob.lst l1)):=Frm.trans .app (Frm.set (by simp))
   have hsixl:N.length<((N++[Ob.lst six]).set b (Ob.lst l1)).length:=by simp
   have hsix:((N++[Ob.lst six]).set b (Ob.lst l1))[N.length]? = some (.lst six):=by rw [List.getElem?_set_ne (by omega)];simp
   generalize eN1:(N++[Ob.lst six]).set b (Ob.lst l1)=N1 at *
   have hz:∃ z:Str,atI six r1=some (.str z)/\0<z.length/\z.length<=4:=by
    have:r1=0\/r1=1\/r1=2\/r1=3\/r1=4\/r1=5:=by omega
    rcases this with rfl | rfl | rfl | rfl | rfl | rfl
    ·exact ⟨"pd",rfl,by decide,by decide⟩
    ·exact ⟨"pd",rfl,by decide,by decide⟩
    ·exact ⟨"ppd",rfl,by decide,by decide⟩
    ·exact ⟨"pdpd",rfl,by decide,by decide⟩
    ·exact ⟨"dpd",rfl,by decide,by decide⟩
    ·exact ⟨"pdp",rfl,by decide,by decide⟩
   obtain ⟨z,hz1,hz2,hz3⟩:=hz
   have hzi:zas N1 (.ref N.length) (.int r1)=some (.str z):=by simp only [zas,hsix];exact hz1
   have hzs:z.cps.size=z.length:=rfl
   let J:Nat->Mm->Prop:=fun j N2=>∃ es:List Ev,N2[N1.length]? = some (.lst (es.map Ev.pv))/\es.length=j/\(∀ e∈es,EvOk e/\PD e)/\Bx N2 b (k+15*i+1+j)/\Frm [b] N1 N2
   obtain ⟨N2,e4,es,c1,c2,c3,B2,F2⟩:=zeN (src:=.str z) (bind:=tgP (.name 7)) (c:=fun sg M=>evE cf (.con (.bl true)) sg M) (e:=fun sg M=>evE cf zcF sg M) (d:=N1.length) (sg:=[some (.ref b),some (.int 6),some (.ref nn),some (.ref M.length),some (.str wd),some (.str z),o6,none,none]) J (n:=z.length) (M:=N1++[.lst []]) (by omega)
    ⟨[],by simp,rfl,by simp,B1.frm (S:=[]) .app (by simp) (by omega),.app⟩
    (by
     intro j N2 hj hJ
     obtain ⟨es,c1,c2,c3,B2,F2⟩:=hJ
     have hj':j<z.cps.size:=hj
     generalize hch:(⟨#[z.cps[j]]⟩:Str)=ch
     refine ⟨.str ch,[some (.ref b),some (.int 6),some (.ref nn),some (.ref M.length),some (.str wd),some (.str z),o6,some (.str ch),none],by simp [Src.get,hj',hch],rfl,?_⟩
     by_cases hcp:ch = "p"
     ·obtain ⟨r5,l5,d1,d2,e5,B5⟩:=T N2 b _ 9 B2 (by omega) (by omega) (by omega)
      have g5:Frm [b] N2 (N2.set b (.lst l5)):=Frm.set (by simp)
      have hne:N1.length≠b:=by have:=g1.len;omega
      have c1':=g5.get c1 (by simpa using hne)
      refine .inl ⟨N2,(Ev.put wd r5).pv,N2.set b (.lst l5),es.map Ev.pv,by simp [evE],?_,by simp [zl,c1'],by simp;omega,es++[.put wd r5],?_,by simp;omega,?_,?_,?_⟩
      ·subst hcp
       simp [zcF,evE,zv,zK,e5,Ev.pv,sizeLine]
      ·simp [zy c1]
      ·intro e he
       rcases List.mem_append.mp he with he | he
       ·exact c3 e he
       ·simp at he;subst he;exact ⟨⟨hko,d1,by omega⟩,trivial⟩
      ·exact B5.frm (S:=[N1.length]) (Frm.set (by simp)) (by simp;omega) (by omega)
      ·exact (F2.trans g5).wr (Nat.le_refl _)
     ·refine .inl ⟨N2,(Ev.drop wd).pv,N2,es.map Ev.pv,by simp [evE],?_,by simp [zl,c1],by simp;omega,es++[.drop wd],?_,by simp;omega,?_,?_,?_⟩
      ·simp [zcF,evE,zv,zK,hcp,Ev.pv,sizeLine]
      ·simp [zy c1]
      ·intro e he
       rcases List.mem_append.mp he with he | he
       ·exact c3 e he
       ·simp at he;subst he;exact ⟨hko,trivial⟩
      ·have hne:N1.length≠b:=by have:=g1.len;omega
       exact B2.frm (S:=[N1.length]) (Frm.set (by simp)) (by simp;omega) (by omega)
      ·exact F2.wr (Nat.le_refl _))
    (by intro N2 _;simp [Src.get,hzs])
   have F3:Frm [b] N N2:=g1.trans F2
   have F4:Frm [b] N (N2++[.lst (rs.map fun r=>.int (lenAt N2 r))]):=F3.trans .app
   have Lat:=F3.get L.at_ (by simp;omega)
   have hel:∀ r∈rs,∃ es:List Ev,N2[r]? = some (.lst (es.map Ev.pv))/\es≠[]/\es.length<1000/\∀ e∈es,EvOk e/\PD e:=by
    intro r hr
    obtain ⟨es',q1,q2⟩:=L.el r hr
    exact ⟨es',F3.get q1 (by have:=rb r hr;simp;omega),q2⟩
   have hsum:rs.map (lenAt N2)=rs.map (lenAt N):=List.map_congr_left (by
    intro r hr
    obtain ⟨es',q1,_⟩:=L.el r hr
    exact zb7 F3 q1 (by have:=rb r hr;simp;omega))
   have hne1:N1.length≠b:=by have:=g1.len;omega
   have hML:M.length<N.length:=by have:=zy L.at_;exact this
   have e6:=sum_ok cf (sg:=[some (.ref b),some (.int 6),some (.ref nn),some (.ref M.length),some (.str wd),some (.str z),some (.ref N1.length),none,none]) (i:=3) (v:=8) Lat (fun r hr=>by obtain ⟨es',q1,_⟩:=hel r hr;exact ⟨_,q1⟩) (by omega) rfl (by simp)
   have hI6:evE cf (.lc [7] (.name 7) (.seq (.var 5)) (.con (.bl true)) zcF) [some (.ref b),some (.int 6),some (.ref nn),some (.ref M.length),some (.str wd),some (.str z),o6,none,none] N1=some (.ref N1.length,N2):=by
    rw [evE]
    have:evI cf (.seq (.var 5)) [some (.ref b),some (.int 6),some (.ref nn),some (.ref M.length),some (.str wd),some (.str z),o6,none,none] N1=some (.str z,N1):=by simp [evI,evE,zam]
    rw [this]
    have hwp:z6 [some (PV.ref b),some (.int 6),some (.ref nn),some (.ref M.length),some (.str wd),some (.str z),o6,none,none] [7]=[some (.ref b),some (.int 6),some (.ref nn),some (.ref M.length),some (.str wd),some (.str z),o6,none,none]:=rfl
    simp only [hwp,e4];rfl
   have e5:evE cf (.idx (.lst (.cons (.con (.str "pd")) (.cons (.con (.str "pd")) (.cons (.con (.str "ppd")) (.cons (.con (.str "pdpd")) (.cons (.con (.str "dpd")) (.cons (.con (.str "pdp")) .nil))))))) (.call zr (.cons (.var 0) (.cons (.con (.int 6)) .nil)))) [some (.ref b),some (.int 6),some (.ref nn),some (.ref M.length),some (.str wd),o5,o6,none,none] N=some (.str z,N1):=by
    have e1':cf zr [.ref b,.int 6] (N++[.lst [.str "pd",.str "pd",.str "ppd",.str "pdpd",.str "dpd",.str "pdp"]])=some (.int r1,N1):=e1
    simp [evE,zv,sizeLine,e1',hzi]
   generalize hN3:N2++[.lst (rs.map fun r=>.int (lenAt N2 r))]=N3 at *
   have hN23:Frm [] N2 N3:=by rw [<- hN3];exact .app
   have c1'':N3[N1.length]? = some (.lst (es.map Ev.pv)):=hN23.get c1 (by simp)
   have Lat3:N3[M.length]? = some (.lst (rs.map .ref)):=hN23.get Lat (by simp)
   have hN1N3:N1.length<N3.length:=zy c1''
   refine ⟨.str wd,[some (.ref b),some (.int 6),some (.ref nn),some (.ref M.length),some (.str wd),o5,o6,none,none],?_⟩
   have hN3l:N.length<=N3.length:=F4.len
   by_cases hle:(rs.map (lenAt N)).sum+es.length<=6
   ·refine ⟨[some (.ref b),some (.int 6),some (.ref nn),some (.ref M.length),some (.str wd),some (.str z),some (.ref N1.length),none,none],N3.set M.length (.lst (rs.map .ref++[.ref N1.length])),src,rfl,?_,some (.str wd),some (.str z),some (.ref N1.length),rs++[N1.length],rfl,(F.trans F4).wr (Nat.le_refl _),?_,⟨?_,?_⟩,by simp;omega,?_,?_⟩
    ·have hle':((rs.map (lenAt N2)).sum:Int)+(es.length:Int)<=6:=by rw [hsum];omega
     have hc:evE cf (.cmp .le (.bop .add (.blt .sum (.cons (.lc [8] (.name 8) (.seq (.var 3)) (.con (.bl true)) (.blt .len (.cons (.var 8) .nil))) .nil)) (.blt .len (.cons (.var 6) .nil))) (.var 1)) [some (.ref b),some (.int 6),some (.ref nn),some (.ref M.length),some (.str wd),some (.str z),some (.ref N1.length),none,none] N2=some (.bl true,N3):=by
      generalize E.blt .sum (.cons (.lc [8] (.name 8) (.seq (.var 3)) (.con (.bl true)) (.blt .len (.cons (.var 8) .nil))) .nil)=q at e6
      simp [evE,zv,e6,zJ,c1'',zat,zK,hle']
     have hap:evE cf (.mth .append (.var 3) (.cons (.var 6) .nil)) [some (.ref b),some (.int 6),some (.ref nn),some (.ref M.length),some (.str wd),some (.str z),some (.ref N1.length),none,none] N3=some (.non,N3.set M.length (.lst (rs.map .ref++[.ref N1.length]))):=by
      have:rs.length<16777216:=by omega
      simp [evE,zv,zds,zef,zl,Lat3,sizeLine,this]
     simp [zcJ,zM,evS,tgP,e5,hI6,hc,hap]
    ·exact (B2.frm hN23 (by simp) (by show _<=(k+15*i+14);omega)).frm (S:=[M.length]) (Frm.set (by simp)) (by simp;omega) (by omega)
    ·simp [zy Lat3]
    ·intro r hr
     have hr':r≠M.length/\∃ es:List Ev,N3[r]? = some (.lst (es.map Ev.pv))/\es≠[]/\es.length<1000/\∀ e∈es,EvOk e/\PD e:=by
      rcases List.mem_append.mp hr with hr | hr
      ·obtain ⟨es',q1,q2⟩:=hel r hr
       exact ⟨by have:=rb r hr;omega,es',hN23.get q1 (by simp),q2⟩
      ·simp at hr;subst hr
       refine ⟨by have:=g1.len;omega,es,c1'',?_,by omega,c3⟩
       intro e0;rw [e0] at c2;simp at c2;omega
     obtain ⟨h1,es',q1,q2⟩:=hr'
     exact ⟨es',by rw [List.getElem?_set_ne (Ne.symm h1)];exact q1,q2⟩
    ·intro r hr
     rcases List.mem_append.mp hr with hr | hr
     ·have:=rb r hr;simp;omega
     ·simp at hr;subst hr;have:=g1.len;simp;omega
    ·have h1:∀ r∈rs,lenAt (N3.set M.length (.lst (rs.map .ref++[.ref N1.length]))) r=lenAt N r:=by
      intro r hr
      obtain ⟨es',q1,_⟩:=L.el r hr
      have q2:=F4.get q1 (by have:=rb r hr;simp;omega)
      unfold lenAt
      rw [List.getElem?_set_ne (by have:=rb r hr;omega),q1,q2]
     have h2:lenAt (N3.set M.length (.lst (rs.map .ref++[.ref N1.length]))) N1.length=es.length:=by
      unfold lenAt
      rw [List.getElem?_set_ne (by have:=g1.len;omega),c1''];simp
     rw [List.map_append,List.map_congr_left h1]
     simp [h2];omega
   ·refine ⟨[some (.ref b),some (.int 6),some (.ref nn),some (.ref M.length),some (.str wd),some (.str z),some (.ref N1.length),none,none],N3,src,rfl,?_,some (.str wd),some (.str z),some (.ref N1.length),rs,rfl,F.trans F4,B2.frm hN23 (by simp) (by omega),⟨Lat3,?_⟩,by omega,?_,?_⟩
    ·have hle':¬ ((rs.map (lenAt N2)).sum:Int)+(es.length:Int)<=6:=by rw [hsum];omega
     have hc:evE cf (.cmp .le (.bop .add (.blt .sum (.cons (.lc [8] (.name 8) (.seq (.var 3)) (.con (.bl true)) (.blt .len (.cons (.var 8) .nil))) .nil)) (.blt .len (.cons (.var 6) .nil))) (.var 1)) [some (.ref b),some (.int 6),some (.ref nn),some (.ref M.length),some (.str wd),some (.str z),some (.ref N1.length),none,none] N2=some (.bl false,N3):=by
      generalize E.blt .sum (.cons (.lc [8] (.name 8) (.seq (.var 3)) (.con (.bl true)) (.blt .len (.cons (.var 8) .nil))) .nil)=q at e6
      simp [evE,zv,e6,zJ,c1'',zat,zK,hle']
     simp [zcJ,zM,evS,tgP,e5,hI6,hc]
    ·intro r hr
     obtain ⟨es',q1,q2⟩:=hel r hr
     exact ⟨es',hN23.get q1 (by simp),q2⟩
    ·intro r hr;have:=rb r hr;omega
    ·have h1:∀ r∈rs,lenAt N3 r=lenAt N r:=by
      intro r hr
      obtain ⟨es',q1,_⟩:=L.el r hr
      exact zb7 F4 q1 (by have:=rb r hr;simp;omega)
     rw [List.map_congr_left h1];exact rsum)
  (by
   intro sg N hI
   obtain ⟨o4,o5,o6,rs,rfl,F,B,L,rl,rb,rsum⟩:=hI
   have hnnN:N[nn]? = some (.lst (ks.map .str)):=F.get hq (by simpa using n4)
   simp [Src.get,zl,hnnN])
 subst hsg
 refine ⟨M.length,rs,M',?_,F,B.frm (S:=[]) .refl (by simp) (by omega),L,by omega,fun r hr=>by have:=rb r hr;omega,rsum,Nat.le_refl _,zy L.at_⟩
 have hS:zam (M++[.lst []]) (.ref nn)=some (.lst nn):=by
  have:(M++[Ob.lst []])[nn]? = some (.lst (ks.map .str)):=(Frm.app (S:=[])).get hq (by simp)
  simp [zam,zl,this]
 generalize hb:zcJ=bd at e2
 simp [zL,zb9,hb,zM,evS,evI,tgP,evE,zv,sizeLine,hS,e2]
theorem hlo (j:Nat):HLo (cfN tab (j+2)):=fun M b nn k ks h hk n4 hq kl ho=>lots_ok (ht j) h hk n4 hq kl ho
end Mp.Dr
namespace Mp.Dr
open PySem L2
theorem zh7 {kvs:List (Key × PV)} {k:Key}:(getD kvs k).isSome=true↔∃ v,(k,v)∈kvs:=by
 constructor
 ·intro h;obtain ⟨v,hv⟩:=Option.isSome_iff_exists.mp h;exact ⟨v,zbt hv⟩
 ·rintro ⟨v,hv⟩
  cases hg:getD kvs k with
  | some _=>rfl
  | none =>
   unfold getD at hg
   rw [Option.map_eq_none_iff,List.find?_eq_none] at hg
   exact absurd (by simp) (hg (k,v) hv)
theorem zeq {kvs:List (Key × PV)} {k k':Key} {v:PV} (h:k'=k\/(getD kvs k').isSome=true):(getD (zaH kvs k v) k').isSome=true:=by
 rw [zh7] at h ⊢
 unfold zaH
 split
 ·rename_i ha
  rcases h with rfl | ⟨v',hv'⟩
  ·rw [List.any_eq_true] at ha
   obtain ⟨⟨a,u⟩,h1,h2⟩:=ha
   simp at h2;subst h2
   exact ⟨v,List.mem_map.mpr ⟨(a,u),h1,by simp⟩⟩
  ·by_cases e:k'=k
   ·exact ⟨v,List.mem_map.mpr ⟨(k',v'),hv',by simp [e]⟩⟩
   ·exact ⟨v',List.mem_map.mpr ⟨(k',v'),hv',by simp [e]⟩⟩
 ·rcases h with rfl | ⟨v',hv'⟩
  ·exact ⟨v,by simp⟩
  ·exact ⟨v',by simp [hv']⟩
def zfd (ws:Ws):Ev->Prop
 | .save r=>(getD ws.seats (.inl r)).isSome=true
 | .load _ c=>0<=c/\c<ws.copies.length
 | .read r u=>∃ b:Int,getD ws.seats (.inl r)=some (.int b)/\b<u/\u<=ws.many
 | _=>True
def Fst (e e':Ev):Prop:=∀ r u,e'=.read r u->∃ r' u',e=.read r' u'/\r'≠r
theorem fit_step {ws:Ws} {e:Ev} (h:zfd ws e):∃ ws',ws.step e=some ws':=by
 cases e with
 | save r=>obtain ⟨v,hv⟩:=Option.isSome_iff_exists.mp h;exact ⟨_,by simp only [Ws.step,hv];rfl⟩
 | load r c =>
  have hst:(atI ws.copies c)=some (ws.copies[c.toNat]'(by have:=h.2;have:=h.1;omega)):=by
   simp only [atI,ixN,if_pos h.1,if_pos h.2]
   exact List.getElem?_eq_getElem (by have:=h.2;have:=h.1;omega)
  exact ⟨_,by simp only [Ws.step,hst];rfl⟩
 | read r u=>obtain ⟨b,h1,h2,h3⟩:=h;exact ⟨_,zeG h1 h2 h3⟩
 | put k v=>exact ⟨_,rfl⟩
 | drop k=>exact ⟨_,rfl⟩
 | join r=>exact ⟨_,rfl⟩
 | wait=>exact ⟨_,rfl⟩
def zfc (f:Int) (ws:Ws):Prop:=∀ p:Int,0<=p->p<f->(getD ws.seats (.inl p)).isSome=true
theorem zeB {ws ws':Ws} {e:Ev} (h:ws.step e=some ws'):(∀ p,(getD ws.seats (.inl p)).isSome=true->(getD ws'.seats (.inl p)).isSome=true)/\ws.copies.length<=ws'.copies.length:=by
 cases e with
 | put k v=>cases h;exact ⟨fun p q=>q,Nat.le_refl _⟩
 | drop k=>cases h;exact ⟨fun p q=>q,Nat.le_refl _⟩
 | join r=>cases h;exact ⟨fun p q=>zeq (.inr q),Nat.le_refl _⟩
 | read r u=>obtain ⟨_,rfl⟩:=step_read h;exact ⟨fun p q=>zeq (.inr q),Nat.le_refl _⟩
 | save r=>obtain ⟨v,h1,rfl⟩:=Option.map_eq_some_iff.mp h;exact ⟨fun p q=>q,by simp⟩
 | load r c=>obtain ⟨v,h1,rfl⟩:=Option.map_eq_some_iff.mp h;exact ⟨fun p q=>zeq (.inr q),Nat.le_refl _⟩
 | wait=>cases h;exact ⟨fun p q=>q,Nat.le_refl _⟩
theorem fit_keep {ws ws':Ws} {e e':Ev} (h:ws.step e=some ws') (hf:zfd ws e') (hx:Fst e e'):zfd ws' e':=by
 obtain ⟨g1,g2⟩:=zeB h
 cases e' with
 | save r=>exact g1 r hf
 | load r c=>exact ⟨hf.1,by have:=hf.2;omega⟩
 | read r u =>
  obtain ⟨b,h1,h2,h3⟩:=hf
  obtain ⟨r',u',rfl,hne⟩:=hx r u rfl
  obtain ⟨_,rfl⟩:=step_read h
  exact ⟨b,by show getD (zaH ws.seats (.inl r') (.int u')) (.inl r)=_;rw [zbh (fun z=>hne (by injection z with z;exact z.symm))];exact h1,h2,h3⟩
 | put k v=>trivial
 | drop k=>trivial
 | join r=>trivial
 | wait=>trivial
theorem zfc.step {f:Int} {ws ws':Ws} {e:Ev} (h:zfc f ws) (hs:ws.step e=some ws'):zfc f ws':=fun p a b=>(zeB hs).1 p (h p a b)
def HB (cf:CF):Prop:=∀ (M:Mm) (b w s c:Nat) (k f:Int) (ws:Ws) (n:Nat),Bx M b k->k<600000000000->WAt M w s c ws->WsOk ws n->n<100000->b≠w->b≠s->b≠c->1<=f->f<=4->zfc f ws ->
 ∃ (evs:List Ev) (M':Mm),cf zcR [.ref b,.ref w,.int f] M=some (.ref M.length,M')/\M'[M.length]? = some (.lst (evs.map Ev.pv))/\evs.length<=10/\(∀ e∈evs,EvOk e/\zfd ws e)/\evs.Pairwise Fst/\Frm [b] M M'/\Bx M' b (k+20)
theorem zmb {cf:CF} (T:HT cf) {M:Mm} {b w s c:Nat} {k f:Int} {ws:Ws} {n:Nat} (h:Bx M b k) (hk:k<600000000000) (hw:WAt M w s c ws) (ho:WsOk ws n) (hn:n<100000) (n1:b≠w) (n2:b≠s) (n3:b≠c) (f1:1<=f) (f2:f<=4) (jo:zfc f ws) :
  ∃ (evs:List Ev) (M':Mm),zL cf zw [.ref b,.ref w,.int f] M=some (.ref M.length,M')/\M'[M.length]? = some (.lst (evs.map Ev.pv))/\evs.length<=10/\(∀ e∈evs,EvOk e/\zfd ws e)/\evs.Pairwise Fst/\Frm [b] M M'/\Bx M' b (k+20):=by
 have hbl:b<M.length:=by obtain ⟨_,_,_,hb,_⟩:=h;exact zy hb
 have wl:=zy hw.w_
 have sl:=zy hw.s_
 have cl:=zy hw.c_
 generalize hm_:M.length=m at *
 have iS:∀ {N:Mm},WAt N w s c ws->zas N (.ref w) (.str "seats")=some (.ref s):=fun {N} q=>by
  have:=q.w_;simp [zas,this,zad,getD,zgv]
 have iM:∀ {N:Mm},WAt N w s c ws->zas N (.ref w) (.str "many")=some (.int ws.many):=fun {N} q=>by
  have:=q.w_;simp [zas,this,zad,getD,zgv]
 have iC:∀ {N:Mm},WAt N w s c ws->zas N (.ref w) (.str "copies")=some (.ref c):=fun {N} q=>by
  have:=q.w_;simp [zas,this,zad,getD,zgv]
 let I:Nat->Sg->Mm->Prop:=fun i sg N=>∃ (o4 o5:Option PV) (evs:List Ev),sg=[some (.ref b),some (.ref w),some (.int f),some (.ref m),o4,o5,none]/\N[m]? = some (.lst (evs.map Ev.pv))/\evs.length<=i/\(∀ e∈evs,EvOk e/\zfd ws e)/\(evs.Pairwise Fst/\∀ e∈evs,∃ (j:Nat) (u:Int),j<i/\e=.read (0+j) u)/\Frm [b] M N/\Bx N b (k+2*i)
 obtain ⟨sg',N,e2,o4,o5,evs,hsg,A,al,ao,ap,F,B⟩:=zcD (src:=.rng 0 f.toNat) (bind:=tgP (.name 4)) (body:=fun sg M=>zM cf za2 sg M) I (n:=f.toNat) (sg:=[some (.ref b),some (.ref w),some (.int f),some (.ref m),none,none,none]) (M:=M++[.lst []]) (by omega)
  ⟨none,none,[],rfl,by simp [<- hm_],by simp,by simp,⟨.nil,by simp⟩,.app,h.frm (S:=[]) .app (by simp) (by omega)⟩
  (by
   intro i sg N hi hI
   obtain ⟨o4,o5,evs,rfl,A,al,ao,ap,F,B⟩:=hI
   have ap':∀ e∈evs,∃ (j:Nat) (u:Int),j<i+1/\e=.read (0+j) u:=fun e he=>by obtain ⟨j,u,h1,h2⟩:=ap.2 e he;exact ⟨j,u,by omega,h2⟩
   have W:=hw.frm F (by simpa using n1.symm) (by simpa using n2.symm) (by simpa using n3.symm)
   obtain ⟨v0,hv0⟩:=Option.isSome_iff_exists.mp (jo (0+i) (by omega) (by omega))
   obtain ⟨_,v,e',_,_,hvn⟩:=ho.seats _ (zbt hv0)
   cases e'
   have hm1:=ho.m1
   refine ⟨.int (0+i),[some (.ref b),some (.ref w),some (.int f),some (.ref m),some (.int (0+i)),o5,none],?_⟩
   have src:(Src.rng 0 f.toNat).get N i=some (some (.int (0+i))):=by simp [Src.get,hi]
   generalize hp:(0+(i:Int))=p at *
   have iV:∀ {N:Mm},WAt N w s c ws->zas N (.ref s) (.int p)=some (.int v):=fun {N} q=>by simp only [zas,q.s_,zad];exact hv0
   by_cases hg:v<ws.many
   ·obtain ⟨r1,l1,a1,a2,e1,B1⟩:=T N b _ 2 B (by omega) (by omega) (by omega)
    have g1:Frm [b] M (N.set b (.lst l1)):=F.trans (Frm.set (by simp))
    have A1:(N.set b (.lst l1))[m]? = some (.lst (evs.map Ev.pv)):=by rw [List.getElem?_set_ne (by omega)];exact A
    generalize N.set b (Ob.lst l1)=N1 at *
    have W1:=hw.frm g1 (by simpa using n1.symm) (by simpa using n2.symm) (by simpa using n3.symm)
    by_cases hr:r1=0
    ·obtain ⟨r3,l3,c1,c2,e3,B3⟩:=T N1 b _ (ws.many-v) B1 (by omega) (by omega) (by omega)
     have g3:Frm [b] M (N1.set b (.lst l3)):=g1.trans (Frm.set (by simp))
     have A3:(N1.set b (.lst l3))[m]? = some (.lst (evs.map Ev.pv)):=by rw [List.getElem?_set_ne (by omega)];exact A1
     generalize N1.set b (Ob.lst l3)=N3 at *
     refine ⟨[some (.ref b),some (.ref w),some (.int f),some (.ref m),some (.int p),some (.int (ws.many-v)),none],N3.set m (.lst (evs.map Ev.pv++[(Ev.read p (v+1+r3)).pv])),src,rfl,?_,some (.int p),some (.int (ws.many-v)),evs++[.read p (v+1+r3)],rfl,?_,by simp;omega,?_,?_,g3.wr (by omega),?_⟩
     ·have hll:evs.length<16777216:=by omega
      have hmt:zds N1 .append (.ref m)=true:=by simp [zds,zl,A1]
      have hmp:zef N3 .append (.ref m) [(Ev.read p (v+1+r3)).pv]=some (.non,N3.set m (.lst (evs.map Ev.pv++[(Ev.read p (v+1+r3)).pv]))):=by simp [zef,zl,A3,sizeLine,hll]
      simp only [Ev.pv] at hmp ⊢
      simp [za2,zM,evS,evE,zv,tgP,iS W,iM W,iV W,iS W1,iV W1,zat,zK,hg,e1,hr,hmt,e3,sizeLine,hmp]
     ·simp [zy A3]
     ·intro e he
      rcases List.mem_append.mp he with he | he
      ·exact ao e he
      ·simp at he;subst he;exact ⟨⟨by omega,by omega,by omega⟩,v,hv0,by omega,by omega⟩
     ·refine ⟨?_,fun e he=>?_⟩
      ·rw [List.pairwise_append]
       refine ⟨ap.1,by simp,fun x hx y hy=>?_⟩
       simp at hy
       subst hy
       intro r u hru
       cases hru
       obtain ⟨j,u',h1,h2⟩:=ap.2 x hx
       exact ⟨_,_,h2,by omega⟩
      ·rcases List.mem_append.mp he with he | he
       ·exact ap' e he
       ·simp at he;subst he;exact ⟨i,_,by omega,by rw [<- hp]⟩
     ·exact B3.frm (S:=[m]) (Frm.set (by simp)) (by simp;omega) (by omega)
    ·refine ⟨[some (.ref b),some (.ref w),some (.int f),some (.ref m),some (.int p),some (.int (ws.many-v)),none],N1,src,rfl,?_,some (.int p),some (.int (ws.many-v)),evs,rfl,A1,by omega,ao,⟨ap.1,ap'⟩,g1,B1.frm (S:=[]) .refl (by simp) (by omega)⟩
     simp [za2,zM,evS,evE,zv,tgP,iS W,iM W,iV W,iS W1,iV W1,zat,zK,hg,e1,hr]
   ·refine ⟨[some (.ref b),some (.ref w),some (.int f),some (.ref m),some (.int p),some (.int (ws.many-v)),none],N,src,rfl,?_,some (.int p),some (.int (ws.many-v)),evs,rfl,A,by omega,ao,⟨ap.1,ap'⟩,F,B.frm (S:=[]) .refl (by simp) (by omega)⟩
    simp [za2,zM,evS,evE,zv,tgP,iS W,iM W,iV W,zat,zK,hg])
  (by intro sg N _;simp [Src.get])
 subst hsg
 obtain ⟨way,l1,a1,a2,e3,B1⟩:=T N b _ 11 B (by omega) (by omega) (by omega)
 have g1:Frm [b] M (N.set b (.lst l1)):=F.trans (Frm.set (by simp))
 have A1:(N.set b (.lst l1))[m]? = some (.lst (evs.map Ev.pv)):=by rw [List.getElem?_set_ne (by omega)];exact A
 generalize N.set b (Ob.lst l1)=N1 at *
 obtain ⟨p,l2,b1,b2,e4,B2⟩:=T N1 b _ f B1 (by omega) (by omega) (by omega)
 have g2:Frm [b] M (N1.set b (.lst l2)):=g1.trans (Frm.set (by simp))
 have A2:(N1.set b (.lst l2))[m]? = some (.lst (evs.map Ev.pv)):=by rw [List.getElem?_set_ne (by omega)];exact A1
 generalize N1.set b (Ob.lst l2)=N2 at *
 have W2:=hw.frm g2 (by simpa using n1.symm) (by simpa using n2.symm) (by simpa using n3.symm)
 have hro:zbQ f=true:=by simp [zbQ];omega
 have hll:evs.length<16777216:=by omega
 have hmt:∀ {N3:Mm},N3[m]? = some (.lst (evs.map Ev.pv))->zds N3 .append (.ref m)=true:=fun q=>by simp [zds,zl,q]
 have hmp:∀ {N3:Mm} (e:Ev),N3[m]? = some (.lst (evs.map Ev.pv))->zef N3 .append (.ref m) [e.pv]=some (.non,N3.set m (.lst (evs.map Ev.pv++[e.pv]))):=fun e q=>by simp [zef,zl,q,sizeLine,hll]
 have fin:∀ {N3:Mm} (e:Ev),N3[m]? = some (.lst (evs.map Ev.pv))->Frm [b] M N3->Bx N3 b (k+20)->EvOk e->zfd ws e->(∀ r u,e≠.read r u)->zL cf zw [.ref b,.ref w,.int f] M=some (.ref m,N3.set m (.lst (evs.map Ev.pv++[e.pv]))) ->
   ∃ (evs:List Ev) (M':Mm),zL cf zw [.ref b,.ref w,.int f] M=some (.ref m,M')/\M'[m]? = some (.lst (evs.map Ev.pv))/\evs.length<=10/\(∀ e∈evs,EvOk e/\zfd ws e)/\evs.Pairwise Fst/\Frm [b] M M'/\Bx M' b (k+20):=by
  intro N3 e q1 q2 q3 q4 q5 q7 q6
  refine ⟨evs++[e],_,q6,by simp [zy q1],by simp;omega,?_,by rw [List.pairwise_append];exact ⟨ap.1,by simp,fun x hx y hy=>by simp at hy;subst hy;intro r u hru;exact absurd hru (q7 r u)⟩,q2.wr (by omega),q3.frm (S:=[m]) (Frm.set (by simp)) (by simp;omega) (by omega)⟩
  intro x hx
  rcases List.mem_append.mp hx with hx | hx
  ·exact ao x hx
  ·simp at hx;subst hx;exact ⟨q4,q5⟩
 have B20:Bx N2 b (k+20):=B2.frm (S:=[]) .refl (by simp) (by omega)
 have plain:zL cf zw [.ref b,.ref w,.int f] M=some (.ref m,N2)->∃ (evs:List Ev) (M':Mm),zL cf zw [.ref b,.ref w,.int f] M=some (.ref m,M')/\M'[m]? = some (.lst (evs.map Ev.pv))/\evs.length<=10/\(∀ e∈evs,EvOk e/\zfd ws e)/\evs.Pairwise Fst/\Frm [b] M M'/\Bx M' b (k+20):=fun q =>
  ⟨evs,N2,q,A2,by omega,ao,ap.1,g2,B20⟩
 generalize hbd:za2=bd at e2
 by_cases w0_:way=0
 ·refine fin .wait A2 g2 B20 trivial trivial (by intro r u z;cases z) ?_
  have:=hmp .wait A2
  simp only [Ev.pv] at this ⊢
  simp [zL,zw,hbd,zM,evS,evI,evE,zv,tgP,zx,sizeLine,hm_,hro,e2,e3,e4,zK,w0_,hmt A2,this]
 by_cases w1_:way=1
 ·by_cases hc3:(ws.copies.length:Int)<3
  ·refine fin (.save p) A2 g2 B20 ⟨b1,by omega⟩ (jo p b1 b2) (by intro r u z;cases z) ?_
   have:=hmp (.save p) A2
   simp only [Ev.pv] at this ⊢
   simp [zL,zw,hbd,zM,evS,evI,evE,zv,tgP,zx,sizeLine,hm_,hro,e2,e3,e4,zK,w1_,hmt A2,this,iC W2,zJ,W2.c_,hc3]
  ·refine plain ?_
   simp [zL,zw,hbd,zM,evS,evI,evE,zv,tgP,zx,sizeLine,hm_,hro,e2,e3,e4,zK,w1_,iC W2,zJ,W2.c_,hc3]
 by_cases w2_:way=2
 ·have fA:Frm [] N2 (N2++[.lst []]):=Frm.app
  have W3:=W2.frm fA (by simp) (by simp) (by simp)
  have q4:(N2++[.lst []])[N2.length]? = some (.lst []):=by simp
  have q5:=zgh (j:=1) (g:=fd) W3.c_ q4 (by intro x hx;obtain ⟨v,rfl,_⟩:=ho.copies x hx;exact Rd.flat trivial) (by omega) (by omega)
  have A3:=fA.get A2 (by simp)
  have g3:Frm [b] M (N2++[.lst []]):=g2.trans .app
  have B3:=B2.frm fA (by simp) (Int.le_refl _)
  by_cases hne:ws.copies=[]
  ·refine ⟨evs,N2++[.lst []],?_,A3,by omega,ao,ap.1,g3,B3.frm (S:=[]) .refl (by simp) (by omega)⟩
   rw [hne] at q5
   simp [zL,zw,hbd,zM,evS,evI,evE,zv,tgP,zx,sizeLine,hm_,hro,e2,e3,e4,zK,w2_,iC W2,q5]
  ·have hpos:0<ws.copies.length:=List.length_pos_iff.mpr hne
   have hcl:=ho.cl
   have q5':eqP (N2++[.lst []]) (.ref c) (.ref N2.length)=some false:=by rw [q5];cases hh:ws.copies with | nil=>exact absurd hh hne | cons _ _=>rfl
   have hlc:zJ (N2++[.lst []]) .len [.ref c]=some (.int ws.copies.length,N2++[.lst []]):=by simp only [zJ,W3.c_]
   have iC3:=iC W3
   generalize hN3:N2++[Ob.lst []]=N3 at *
   obtain ⟨r4,l4,d1,d2,e5,B4⟩:=T N3 b _ ws.copies.length B3 (by omega) (by omega) (by omega)
   have g4:Frm [b] M (N3.set b (.lst l4)):=g3.trans (Frm.set (by simp))
   have A4:(N3.set b (.lst l4))[m]? = some (.lst (evs.map Ev.pv)):=by rw [List.getElem?_set_ne (by omega)];exact A3
   refine fin (.load p r4) A4 g4 (B4.frm (S:=[]) .refl (by simp) (by omega)) ⟨b1,by omega,d1⟩ ⟨d1,d2⟩ (by intro r u z;cases z) ?_
   have:=hmp (.load p r4) A4
   simp only [Ev.pv] at this ⊢
   simp [zL,zw,hbd,zM,evS,evI,evE,zv,tgP,zx,sizeLine,hm_,hro,e2,e3,e4,zK,w2_,iC W2,hN3,q5',iC3,hlc,e5,hmt A3,this]
 by_cases w3_:way=3
 ·refine fin (.join p) A2 g2 B20 ⟨b1,by omega⟩ trivial (by intro r u z;cases z) ?_
  have:=hmp (.join p) A2
  simp only [Ev.pv] at this ⊢
  simp [zL,zw,hbd,zM,evS,evI,evE,zv,tgP,zx,sizeLine,hm_,hro,e2,e3,e4,zK,w3_,hmt A2,this]
 refine plain ?_
 simp [zL,zw,hbd,zM,evS,evI,evE,zv,tgP,zx,sizeLine,hm_,hro,e2,e3,e4,zK,w0_,w1_,w2_,w3_]
theorem hb (j:Nat):HB (cfN tab (j+2)):=fun M b w s c k f ws n h hk hw ho hn n1 n2 n3 f1 f2 jo=>zmb (ht j) h hk hw ho hn n1 n2 n3 f1 f2 jo
end Mp.Dr
namespace Mp.Dr
open PySem L2
theorem zlt {k:Str} (h:KeyOk k):FlOk (.str k):=by
 obtain ⟨s,hs,rfl⟩:=h
 simp at hs
 rcases hs with rfl | rfl | rfl | rfl<;>exact lay_str _
theorem ev_fl {e:Ev} (h:EvOk e):∀ x∈PV.str e.word::e.rest,FlOk x:=by
 cases e<;>simp [Ev.word,Ev.rest,FlOk]
 all_goals first | exact lay_str _ | exact ⟨lay_str _,zlt h.1⟩ | exact ⟨lay_str _,zlt h⟩
theorem ev_rd {M:Mm} {e:Ev} (h:EvOk e):Rd 2 M e.pv (.tuple ((.str e.word::e.rest).map fd)):=by
 rw [e.pv_eq];exact Rd.tup (fun x hx=>Rd.flat (ev_fl h x hx)) (by omega)
def dOf (j:Nat) (M:Mm) (x:PV):PyData:=(toD j M x).getD .none
theorem Rd.g {j:Nat} {M:Mm} {x:PV} {d:PyData} (h:Rd j M x d):Rd j M x (dOf j M x):=by
 have:dOf j M x=d:=by unfold dOf;rw [h.to];rfl
 rw [this];exact h
theorem zkr {c:Sg->Mm->R} {body:Sg->Mm->Option (Fl × Mm)} (I:Nat->Sg->Mm->Prop) (P:Sg->Mm->Prop)
  (turn:∀ m sg M,I m sg M->(∃ M1,c sg M=some (.bl false,M1)/\P sg M1)\/(∃ M1 sg2 M2 m',c sg M=some (.bl true,M1)/\body sg M1=some (.nx sg2,M2)/\m'<m/\I m' sg2 M2)):∀ (fuel m:Nat) (sg:Sg) (M:Mm),m<fuel->I m sg M->∃ sg' M',whlL c body fuel sg M=some (.nx sg',M')/\P sg' M'
 | 0,_,_,_,h,_=>by omega
 | fuel+1,m,sg,M,h,hI=>by
  rcases turn m sg M hI with ⟨M1,h1,h2⟩ | ⟨M1,sg2,M2,m',h1,h2,h3,h4⟩
  ·exact ⟨sg,M1,by simp only [whlL,h1],h2⟩
  ·obtain ⟨sg',M',h5,h6⟩:=zkr I P turn fuel m' sg2 M2 (by omega) h4
   exact ⟨sg',M',by simp only [whlL,h1,h2,h5],h6⟩
theorem sum_lt {f g:Nat->Nat} {rs:List Nat} (h:∀ r∈rs,g r<=f r) {r0:Nat} (hr:r0∈rs) (h0:g r0+1<=f r0):(rs.map g).sum+1<=(rs.map f).sum:=by
 induction rs with
 | nil=>cases hr
 | cons a rs ih =>
  have ha:=h a (by simp)
  have hle:(rs.map g).sum<=(rs.map f).sum:=by
   have:∀ rs:List Nat,(∀ r∈rs,g r<=f r)->(rs.map g).sum<=(rs.map f).sum:=by
    intro rs;induction rs with
    | nil=>intro _;simp
    | cons b rs ih=>intro h;simp;have:=h b (by simp);have:=ih (fun r hr=>h r (by simp [hr]));omega
   exact this rs (fun r hr=>h r (by simp [hr]))
  simp only [List.map_cons,List.sum_cons]
  rcases List.mem_cons.mp hr with rfl | hr
  ·omega
  ·have:=ih (fun r hr=>h r (by simp [hr])) hr
   omega
theorem zjl {f:Nat->Nat} {rs:List Nat}:((rs.filter fun r=>decide (f r≠0)).map f).sum=(rs.map f).sum:=by
 induction rs with
 | nil=>rfl
 | cons a rs ih =>
  by_cases h:f a=0
  ·rw [List.filter_cons_of_neg (by simp [h]),ih];simp [h]
  ·rw [List.filter_cons_of_pos (by simp [h])];simp only [List.map_cons,List.sum_cons,ih]
structure Ft (M0 N:Mm) (b:Nat) (f:Int) (nl:Nat) (rs:List Nat) (nf w s c:Nat) (es:List Ev) (ws:Ws):Prop where
 k:Mkg N nf w s c es ws es.length
 jo:zfc f ws
 la:N[nl]? = some (.lst (rs.map .ref))
 el:∀ r∈rs,∃ es:List Ev,N[r]? = some (.lst (es.map Ev.pv))/\es.length<1000/\∀ e∈es,EvOk e/\PD e
 fr:Frm [b] M0 N
 bl:b<M0.length
 lo:M0.length<=nf/\M0.length<=w/\M0.length<=s/\M0.length<=c/\M0.length<=nl
 nb:nl≠nf/\nl≠w/\nl≠s/\nl≠c
 rb:∀ r∈rs,M0.length<=r/\r≠nf/\r≠w/\r≠s/\r≠c
 cn:nf≠c
 rl:rs.length<=4
theorem Ft.frm {M0 N N':Mm} {b:Nat} {f:Int} {nl:Nat} {rs:List Nat} {nf w s c:Nat} {es:List Ev} {ws:Ws} (h:Ft M0 N b f nl rs nf w s c es ws) (a:Frm [b] N N'):Ft M0 N' b f nl rs nf w s c es ws:=by
 have hb:=h.bl
 have hl:=h.lo
 refine ⟨h.k.frm a (by simp;omega) (by simp;omega) (by simp;omega) (by simp;omega),h.jo,a.get h.la (by simp;omega),?_,h.fr.trans a,h.bl,h.lo,h.nb,h.rb,h.cn,h.rl⟩
 intro r hr
 obtain ⟨es',q1,q2⟩:=h.el r hr
 have:=h.rb r hr
 exact ⟨es',a.get q1 (by simp;omega),q2⟩
theorem Ft.lenAt {M0 N N':Mm} {b:Nat} {f:Int} {nl:Nat} {rs:List Nat} {nf w s c:Nat} {es:List Ev} {ws:Ws} (h:Ft M0 N b f nl rs nf w s c es ws) (a:Frm [b] N N'):∀ r∈rs,Mp.Dr.lenAt N' r=Mp.Dr.lenAt N r:=by
 intro r hr
 obtain ⟨es',q1,q2⟩:=h.el r hr
 have:=h.rb r hr
 have:=h.bl
 exact zb7 a q1 (by simp;omega)
theorem Ft.step {M0 N N':Mm} {b:Nat} {f:Int} {nl:Nat} {rs:List Nat} {nf w s c:Nat} {es:List Ev} {ws ws':Ws} {e:Ev} (h:Ft M0 N b f nl rs nf w s c es ws) (a:Frm [nf,w,s,c] N N') (hs:ws.step e=some ws') (k':Mkg N' nf w s c (es++[e]) ws' (es.length+1)):Ft M0 N' b f nl rs nf w s c (es++[e]) ws':=by
 have hb:=h.bl
 have hl:=h.lo
 refine ⟨by simpa using k',h.jo.step hs,a.get h.la (by have:=h.nb;simp;omega),?_,h.fr.comp a (by simp;omega),h.bl,h.lo,h.nb,h.rb,h.cn,h.rl⟩
 intro r hr
 obtain ⟨es',q1,q2⟩:=h.el r hr
 have:=h.rb r hr
 exact ⟨es',a.get q1 (by simp;omega),q2⟩
theorem pd_step {ws:Ws} {e:Ev} (h:PD e):∃ ws',ws.step e=some ws':=by cases e<;>first | exact h.elim | exact ⟨_,rfl⟩
theorem fit_pop {cf:CF} (T:HT cf) (H:HM cf) {M0 N:Mm} {b:Nat} {f:Int} {nl:Nat} {rs:List Nat} {nf w s c:Nat} {es:List Ev} {ws:Ws} {k:Int} {o7 o8 o9:Option PV}
  (h:Ft M0 N b f nl rs nf w s c es ws) (hne:rs≠[]) (hz:∀ r∈rs,lenAt N r≠0) (B:Bx N b k) (hk:k<600000000000) (hes:es.length<100) :
  ∃ (r0:Nat) (N1 N3 N4:Mm) (e:Ev) (ws':Ws),
   evE cf (.idx (.var 4) (.call zr (.cons (.var 0) (.cons (.blt .len (.cons (.var 4) .nil)) .nil)))) [some (.ref b),some (.int 6),some (.int f),some (.int 15),some (.ref nl),some (.ref w),some (.ref nf),o7,o8,o9,none,none] N=some (.ref r0,N1) /\
   evE cf (.mth .append (.var 6) (.cons (.mth .pop1 (.var 8) (.cons (.con (.int 0)) .nil)) .nil)) [some (.ref b),some (.int 6),some (.int f),some (.int 15),some (.ref nl),some (.ref w),some (.ref nf),o7,some (.ref r0),o9,none,none] N1=some (.non,N3) /\
   evE cf (.call zbg (.cons (.var 5) (.cons (.idx (.var 6) (.neg (.con (.int 1)))) .nil))) [some (.ref b),some (.int 6),some (.int f),some (.int 15),some (.ref nl),some (.ref w),some (.ref nf),o7,some (.ref r0),o9,none,none] N3=some (.non,N4) /\
   Ft M0 N4 b f nl rs nf w s c (es++[e]) ws'/\(rs.map (lenAt N4)).sum+1<=(rs.map (lenAt N)).sum/\Bx N4 b (k+1):=by
 have hb:=h.bl
 have hl:=h.lo
 have hrl:=h.rl
 have hpos:0<rs.length:=List.length_pos_iff.mpr hne
 obtain ⟨x,l1,a1,a2,e1,B1⟩:=T N b k rs.length B (by omega) (by omega) (by omega)
 have g1:Frm [b] N (N.set b (.lst l1)):=Frm.set (by simp)
 have F1:=h.frm g1
 have L1:=h.lenAt g1
 generalize N.set b (Ob.lst l1)=N1 at *
 have hxl:x.toNat<rs.length:=by omega
 generalize hr0:rs[x.toNat]=r0
 have hr:r0∈rs:=by rw [<- hr0];exact List.getElem_mem hxl
 have hix:zas N1 (.ref nl) (.int x)=some (.ref r0):=by
  simp only [zas,F1.la,atI,ixN]
  simp [a1,a2,hxl,hr0]
 obtain ⟨es0,q1,q2,q3⟩:=F1.el r0 hr
 have hrb:=h.rb r0 hr
 cases es0 with
 | nil=>exfalso;apply hz r0 hr;rw [<- L1 r0 hr];unfold lenAt;rw [q1];rfl
 | cons e es0 =>
  obtain ⟨ws',hst⟩:=pd_step (ws:=ws) (q3 e (by simp)).2
  have heo:=(q3 e (by simp)).1
  have F1k:=F1.k
  have hnr0:nl≠r0:=by
   intro ee;have:=F1.la;rw [ee,q1] at this
   cases hh:rs with
   | nil=>exact hne hh
   | cons a b =>
    rw [hh] at this;simp at this;rw [e.pv_eq] at this;cases this.1
  have g2:Frm [r0] N1 (N1.set r0 (.lst (es0.map Ev.pv))):=Frm.set (by simp)
  have Mk2:Mkg (N1.set r0 (.lst (es0.map Ev.pv))) nf w s c es ws es.length:=F1k.frm g2 (by simp;omega) (by simp;omega) (by simp;omega) (by simp;omega)
  have q1':(N1.set r0 (.lst (es0.map Ev.pv)))[r0]? = some (.lst (es0.map Ev.pv)):=by simp [zy q1]
  have hpop:zef N1 .pop1 (.ref r0) [.int 0]=some (e.pv,N1.set r0 (.lst (es0.map Ev.pv))):=by
   simp [zef,zl,q1,ixN]
  have hpo:zds N1 .pop1 (.ref r0)=true:=by simp [zds,zl,q1]
  have hao:zds N1 .append (.ref nf)=true:=by simp [zds,zl,F1k.f_]
  have f02:Frm [b] M0 (N1.set r0 (.lst (es0.map Ev.pv))):=F1.fr.wr (by omega)
  have B2:Bx (N1.set r0 (.lst (es0.map Ev.pv))) b (k+1):=B1.frm g2 (by simp;omega) (by omega)
  generalize hN2:N1.set r0 (.lst (es0.map Ev.pv))=N2 at *
  have hesl:es.length<16777216:=by omega
  have hap:zef N2 .append (.ref nf) [e.pv]=some (.non,N2.set nf (.lst (es.map Ev.pv++[e.pv]))):=by
   simp [zef,zl,Mk2.f_,sizeLine,hesl]
  have g3:Frm [nf] N2 (N2.set nf (.lst (es.map Ev.pv++[e.pv]))):=Frm.set (by simp)
  have hf3:(N2.set nf (.lst (es.map Ev.pv++[e.pv])))[nf]? = some (.lst (es.map Ev.pv++[e.pv])):=by simp [zy Mk2.f_]
  have W3:WAt (N2.set nf (.lst (es.map Ev.pv++[e.pv]))) w s c ws:=Mk2.w_.frm g3 (by simp [Mk2.ne.symm]) (by simp [Mk2.ne2.symm]) (by simp [h.cn.symm])
  generalize hN3:N2.set nf (.lst (es.map Ev.pv++[e.pv]))=N3 at *
  have hlast:zas N3 (.ref nf) (.int (-1))=some e.pv:=by
   have e1:ixN (es.map Ev.pv++[e.pv]).length (-1)=some es.length:=by
    simp [ixN];omega
   simp only [zas,hf3,atI,e1]
   simp
  obtain ⟨N4,e4,W4,f4,l4⟩:=H N3 w s c ws ws' e W3 hst (by have:=F1k.wok.sl;omega) (by have:=F1k.wok.cl;omega)
  have hf4:N4[nf]? = some (.lst ((es++[e]).map Ev.pv)):=by
   rw [List.map_append];exact f4.get hf3 (by simp [F1k.ne,F1k.ne2,h.cn])
  have g24:Frm [nf,w,s,c] N2 N4:=(g3.mono (by simp)).trans (f4.mono (by simp +contextual))
  refine ⟨r0,N1,N3,N4,e,ws',?_,?_,?_,⟨⟨hf4,W4,Ws.run_app F1k.run hst,by simp,by simpa using step_ok F1k.wok heo hst,?_,F1k.ne⟩,h.jo.step hst,?_,?_,f02.comp g24 (by simp;omega),h.bl,h.lo,h.nb,h.rb,h.cn,h.rl⟩,?_,?_⟩
  ·have hlen:zJ N .len [.ref nl]=some (.int rs.length,N):=by simp [zJ,h.la]
   simp [evE,zv,hlen,e1,hix]
  ·simp [evE,zv,hao,hpo,hpop,hap]
  ·simp [evE,zv,hlast,e4]
  ·intro z hz'
   rcases List.mem_append.mp hz' with hz' | hz'
   ·exact F1k.ok z hz'
   ·simp at hz';subst hz';exact heo
  ·have:=g2.get F1.la (by simpa using hnr0)
   exact g24.get this (by have:=h.nb;simp;omega)
  ·intro r hr'
   have hrb':=h.rb r hr'
   by_cases er:r=r0
   ·subst er
    exact ⟨es0,g24.get q1' (by simp;omega),by simp at q2;omega,fun e he=>q3 e (by simp [he])⟩
   ·obtain ⟨es',u1,u2⟩:=F1.el r hr'
    exact ⟨es',g24.get (g2.get u1 (by simpa using er)) (by simp;omega),u2⟩
  ·refine sum_lt ?_ hr ?_
   ·intro r hr'
    have hrb':=h.rb r hr'
    rw [<- L1 r hr']
    by_cases er:r=r0
    ·subst er
     unfold lenAt
     rw [g24.get q1' (by simp;omega),q1];simp
    ·obtain ⟨es',u1,u2⟩:=F1.el r hr'
     unfold lenAt
     rw [g24.get (g2.get u1 (by simpa using er)) (by simp;omega),u1];exact Nat.le_refl _
   ·rw [<- L1 r0 hr]
    unfold lenAt
    rw [g24.get q1' (by simp;omega),q1];simp
  ·exact B2.frm g24 (by simp;omega) (by omega)
theorem zjL (cf:CF) {M0 N:Mm} {b:Nat} {f:Int} {nl:Nat} {rs:List Nat} {nf w s c:Nat} {es:List Ev} {ws:Ws} {o7 o8 o9:Option PV}
  (h:Ft M0 N b f nl rs nf w s c es ws) :
  ∃ (rs':List Nat) (N':Mm),
   evE cf (.lc [11] (.name 11) (.seq (.var 4)) (.cmp .ne (.var 11) (.lst .nil)) (.var 11)) [some (.ref b),some (.int 6),some (.int f),some (.int 15),some (.ref nl),some (.ref w),some (.ref nf),o7,o8,o9,none,none] N=some (.ref N.length,N') /\
   Ft M0 N' b f N.length rs' nf w s c es ws/\(rs'.map (lenAt N')).sum=(rs.map (lenAt N)).sum/\(∀ r∈rs',lenAt N' r≠0)/\Frm [] N N':=by
 have hb:=h.bl
 have hl:=h.lo
 have hrl:=h.rl
 let nz:Nat->Bool:=fun r=>decide (lenAt N r≠0)
 let sg0:Sg:=[some (.ref b),some (.int 6),some (.int f),some (.int 15),some (.ref nl),some (.ref w),some (.ref nf),o7,o8,o9,none,none]
 let J:Nat->Mm->Prop:=fun j N'=>N'[N.length]? = some (.lst (((rs.take j).filter nz).map .ref))/\Frm [] N N'
 obtain ⟨N',e4,r1,F3⟩:=zeN (src:=.lst nl) (bind:=tgP (.name 11)) (c:=fun sg M=>evE cf (.cmp .ne (.var 11) (.lst .nil)) sg M) (e:=fun sg M=>evE cf (.var 11) sg M) (d:=N.length) (sg:=sg0) J (n:=rs.length) (M:=N++[.lst []]) (by omega)
  ⟨by simp,.app⟩
  (by
   intro j N2 hj hJ
   obtain ⟨r1,F3⟩:=hJ
   have hla:=F3.get h.la (by simp)
   have hr:rs[j]∈rs:=List.getElem_mem hj
   have hsp:rs.take (j+1)=rs.take j++[rs[j]]:=by rw [List.take_succ_eq_append_getElem hj]
   generalize hrr:rs[j]=r at *
   obtain ⟨es',q1,q2,q3⟩:=h.el r hr
   have q1':=F3.get q1 (by simp)
   have q1'':(N2++[Ob.lst []])[r]? = some (.lst (es'.map Ev.pv)):=(Frm.app (S:=[])).get q1' (by simp)
   have q5:=zgh (j:=2) (g:=dOf 2 (N2++[Ob.lst []])) q1'' (show (N2++[Ob.lst []])[N2.length]? = some (.lst []) by simp) (by
    intro x hx
    obtain ⟨e,he,rfl⟩:=List.mem_map.mp hx
    exact Rd.g (ev_rd (q3 e he).1)) (by omega) (by omega)
   refine ⟨.ref r,[some (.ref b),some (.int 6),some (.int f),some (.int 15),some (.ref nl),some (.ref w),some (.ref nf),o7,o8,o9,none,some (.ref r)],by simp [Src.get,zl,hla,hj,hrr],rfl,?_⟩
   have r1':(N2++[Ob.lst []])[N.length]? = some (.lst (((rs.take j).filter nz).map .ref)):=(Frm.app (S:=[])).get r1 (by simp)
   have F4:Frm [] N (N2++[Ob.lst []]):=F3.trans .app
   cases es' with
   | nil =>
    have hnz:nz r=false:=by simp [nz,lenAt,q1]
    refine .inr ⟨N2++[Ob.lst []],?_,?_,F4⟩
    ·simp [evE,zv,sizeLine,zK,q5]
    ·rw [hsp,List.filter_append];simp [hnz];exact r1'
   | cons e es' =>
    have hnz:nz r=true:=by simp [nz,lenAt,q1]
    refine .inl ⟨N2++[Ob.lst []],.ref r,N2++[Ob.lst []],((rs.take j).filter nz).map .ref,?_,?_,by simp [zl,r1'],?_,?_,F4.wr (Nat.le_refl _)⟩
    ·simp [evE,zv,sizeLine,zK,q5]
    ·simp [evE]
    ·have:=List.length_filter_le nz (rs.take j)
     have h2:(rs.take j).length<=j:=by simp;omega
     rw [List.length_map];omega
    ·rw [hsp,List.filter_append,List.map_append,List.getElem?_set_self (zy r1')];simp [hnz])
  (by
   intro N2 hJ
   obtain ⟨r1,F3⟩:=hJ
   have hla:=F3.get h.la (by simp)
   simp [Src.get,zl,hla])
 rw [List.take_length] at r1
 have F3b:Frm [b] N N':=F3.mono (by simp)
 have F':=h.frm F3b
 have L':=h.lenAt F3b
 have hsub:∀ r∈rs.filter nz,r∈rs:=fun r hr=>(List.mem_filter.mp hr).1
 have hNl:=zy h.k.f_
 have hNw:=zy h.k.w_.w_
 have hNs:=zy h.k.w_.s_
 have hNc:=zy h.k.w_.c_
 have hM:=h.fr.len
 refine ⟨rs.filter nz,N',?_,⟨F'.k,F'.jo,r1,fun r hr=>F'.el r (hsub r hr),F'.fr,h.bl,by omega,by omega,fun r hr=>h.rb r (hsub r hr),h.cn,Nat.le_trans (List.length_filter_le _ _) hrl⟩,?_,?_,F3⟩
 ·rw [evE]
  have hI:evI cf (.seq (.var 4)) sg0 N=some (.lst nl,N):=by simp [evI,evE,sg0,zam,zl,h.la]
  have hwp:z6 sg0 [11]=sg0:=rfl
  show (match evI cf (.seq (.var 4)) sg0 N with | some (s,M1)=>_ | none=>none)=_
  rw [hI]
  exact congrArg (Option.map fun M2=>(PV.ref N.length,M2)) e4
 ·rw [List.map_congr_left (fun r hr=>L' r (hsub r hr))]
  exact zjl
 ·intro r hr
  rw [L' r (hsub r hr)]
  have:=(List.mem_filter.mp hr).2
  simpa [nz] using this
end Mp.Dr
namespace Mp.Dr
open PySem L2
abbrev zeZ (b:Nat) (f:Int) (nl w nf:Nat) (o7 o8 o9:Option PV):Sg:=[some (.ref b),some (.int 6),some (.int f),some (.int 15),some (.ref nl),some (.ref w),some (.ref nf),o7,o8,o9,none,none]
theorem zjM {cf:CF} (HBs:HB cf) (H:HM cf) {M0 N:Mm} {b:Nat} {f:Int} {nl:Nat} {rs:List Nat} {nf w s c:Nat} {es:List Ev} {ws:Ws} {k rest:Int} {o7 o8:Option PV}
  (h:Ft M0 N b f nl rs nf w s c es ws) (B:Bx N b k) (hk:k<600000000000) (f1:1<=f) (f2:f<=4) (hr:0<=rest) (hes:es.length+rest<=15) :
  ∃ (es':List Ev) (ws':Ws) (N':Mm) (o7':Option PV),
   evS cf (.for_ (.name 7) (.seq (.call zcR (.cons (.var 0) (.cons (.var 5) (.cons (.var 2) .nil))))) zcp) (zeZ b f nl w nf o7 o8 (some (.int rest))) N=some (.nx (zeZ b f nl w nf o7' o8 (some (.int rest))),N') /\
   Ft M0 N' b f nl rs nf w s c es' ws'/\es'.length+rest<=15/\Bx N' b (k+20)/\(∀ r∈rs,lenAt N' r=lenAt N r):=by
 have hb:=h.bl
 have hl:=h.lo
 obtain ⟨evs,N1,e1,A1,al,ao,aP,F1,B1⟩:=HBs N b w s c k f ws es.length B hk h.k.w_ h.k.wok (by omega) (by omega) (by omega) (by omega) f1 f2 h.jo
 have h1:=h.frm F1
 have L1:=h.lenAt F1
 have hNl:=zy h.k.f_
 have hNw:=zy h.k.w_.w_
 have hNs:=zy h.k.w_.s_
 have hNc:=zy h.k.w_.c_
 generalize hm_:N.length=m at *
 let I:Nat->Sg->Mm->Prop:=fun i sg N'=>∃ (o7':Option PV) (es':List Ev) (ws':Ws),sg=zeZ b f nl w nf o7' o8 (some (.int rest))/\Ft M0 N' b f nl rs nf w s c es' ws'/\es'.length+rest<=15/\N'[m]? = some (.lst (evs.map Ev.pv))/\(∀ e∈evs,EvOk e)/\(∀ e∈evs.drop i,zfd ws' e)/\Bx N' b (k+20)/\(∀ r∈rs,lenAt N' r=lenAt N r)
 obtain ⟨sg',N',e2,o7',es',ws',hsg,F,hle,A,ao',af',B',L'⟩:=zcD (src:=.lst m) (bind:=tgP (.name 7)) (body:=fun sg M=>zM cf zcp sg M) I (n:=evs.length) (sg:=zeZ b f nl w nf o7 o8 (some (.int rest))) (M:=N1) (by omega)
  ⟨o7,es,ws,rfl,h1,hes,A1,fun e he=>(ao e he).1,fun e he=>(ao e (List.mem_of_mem_drop he)).2,B1,L1⟩
  (by
   intro i sg N2 hi hI
   obtain ⟨o7',es',ws',rfl,F,hle,A,ao',af',B',L'⟩:=hI
   have he1:=ao' evs[i] (List.getElem_mem hi)
   have hdr:evs.drop i=evs[i]::evs.drop (i+1):=List.drop_eq_getElem_cons hi
   have he2:=af' evs[i] (by rw [hdr];exact List.mem_cons_self)
   have hfst:∀ x∈evs.drop (i+1),Fst evs[i] x:=by
    have h9:=aP.sublist (List.drop_sublist i evs)
    rw [hdr,List.pairwise_cons] at h9
    exact h9.1
   have hsub:∀ x∈evs.drop (i+1),zfd ws' x:=fun x hx=>af' x (by rw [hdr];exact List.mem_cons_of_mem _ hx)
   have src:(Src.lst m).get N2 i=some (some evs[i].pv):=by simp [Src.get,zl,A,hi]
   generalize evs[i]=e at *
   obtain ⟨ws2,hst⟩:=fit_step he2
   obtain ⟨Na,Nb,g1,g2,g3,g4,g5⟩:=go_ok H F.k (by omega) he1 hst F.cn
   have hlen:zJ N2 .len [.ref nf]=some (.int es'.length,N2):=by simp [zJ,F.k.f_]
   refine ⟨e.pv,zeZ b f nl w nf (some e.pv) o8 (some (.int rest)),?_⟩
   by_cases hc:(es'.length:Int)+rest+f<15
   ·refine ⟨zeZ b f nl w nf (some e.pv) o8 (some (.int rest)),Nb,src,rfl,?_,some e.pv,es'++[e],ws2,rfl,F.step g5 hst g4,by simp;omega,g5.get A (by simp;omega),ao',fun x hx=>fit_keep hst (hsub x hx) (hfst x hx),B'.frm g5 (by simp;omega) (by omega),?_⟩
    ·simp [zcp,zM,evS,evE,zv,hlen,zat,zK,hc,g1,g2,g3]
    ·intro r hr'
     obtain ⟨es0,q1,_⟩:=F.el r hr'
     have:=F.rb r hr'
     rw [<- L' r hr']
     exact zb7 g5 q1 (by simp;omega)
   ·refine ⟨zeZ b f nl w nf (some e.pv) o8 (some (.int rest)),N2,src,rfl,?_,some e.pv,es',ws',rfl,F,hle,A,ao',hsub,B',L'⟩
    simp [zcp,zM,evS,evE,zv,hlen,zat,zK,hc])
  (by
   intro sg N2 hI
   obtain ⟨o7',es',ws',rfl,F,hle,A,ao',af',B',L'⟩:=hI
   simp [Src.get,zl,A])
 subst hsg
 refine ⟨es',ws',N',o7',?_,F,hle,B',L'⟩
 have hS:zam N1 (.ref m)=some (.lst m):=by simp [zam,zl,A1]
 generalize hbd:zcp=bd at e2
 simp [evS,evI,evE,zv,e1,hS,e2]
theorem fit_turn {cf:CF} (T:HT cf) (HBs:HB cf) (H:HM cf) {M0 N:Mm} {b:Nat} {f:Int} {nl:Nat} {rs:List Nat} {nf w s c:Nat} {es:List Ev} {ws:Ws} {k:Int} {o7 o8 o9:Option PV}
  (h:Ft M0 N b f nl rs nf w s c es ws) (hne:rs≠[]) (hz:∀ r∈rs,lenAt N r≠0) (B:Bx N b k) (hk:k<500000000000) (f1:1<=f) (f2:f<=4) (hes:es.length+(rs.map (lenAt N)).sum<=15) :
  ∃ (nl':Nat) (rs':List Nat) (es':List Ev) (ws':Ws) (N':Mm) (o7' o8' o9':Option PV),
   zM cf zdE (zeZ b f nl w nf o7 o8 o9) N=some (.nx (zeZ b f nl' w nf o7' o8' o9'),N') /\
   Ft M0 N' b f nl' rs' nf w s c es' ws'/\(∀ r∈rs',lenAt N' r≠0)/\es'.length+(rs'.map (lenAt N')).sum<=15/\(rs'.map (lenAt N')).sum<(rs.map (lenAt N)).sum/\Bx N' b (k+30):=by
 obtain ⟨r0,N1,N3,N4,e,ws1,p1,p2,p3,F4,s4,B4⟩:=fit_pop T H (o7:=o7) (o8:=o8) (o9:=o9) h hne hz B (by omega) (by omega)
 obtain ⟨rs',N5,p4,F5,s5,z5,g5⟩:=zjL cf (o7:=o7) (o8:=some (.ref r0)) (o9:=o9) F4
 have B5:=B4.frm g5 (by simp) (Int.le_refl _)
 have p5:=sum_ok cf (sg:=zeZ b f N4.length w nf o7 (some (.ref r0)) o9) (i:=4) (v:=11) F5.la (fun r hr=>by obtain ⟨es',q1,_⟩:=F5.el r hr;exact ⟨_,q1⟩) (by have:=F5.rl;omega) rfl (by simp)
 have g6:Frm [b] N5 (N5++[.lst (rs'.map fun r=>.int (lenAt N5 r))]):=.app
 have F6:=F5.frm g6
 have L6:=F5.lenAt g6
 have B6:Bx (N5++[.lst (rs'.map fun r=>.int (lenAt N5 r))]) b (k+1):=B5.frm (S:=[]) .app (by simp) (Int.le_refl _)
 generalize hN6:N5++[.lst (rs'.map fun r=>.int (lenAt N5 r))]=N6 at *
 obtain ⟨es',ws',N',o7',p6,F7,hle,B7,L7⟩:=zjM HBs H (rest:=(rs'.map (lenAt N5)).sum) (o7:=o7) (o8:=some (.ref r0)) F6 B6 (by omega) f1 f2 (by omega) (by simp;omega)
 have hlen:(rs'.map (lenAt N')).sum=(rs'.map (lenAt N5)).sum:=by
  rw [List.map_congr_left (fun r hr=>(L7 r hr).trans (L6 r hr))]
 refine ⟨N4.length,rs',es',ws',N',o7',some (.ref r0),some (.int (rs'.map (lenAt N5)).sum),?_,F7,?_,by rw [hlen];omega,by rw [hlen];omega,B7.frm (S:=[]) .refl (by simp) (by omega)⟩
 ·generalize hf_:S.for_ (.name 7) (.seq (.call zcR (.cons (.var 0) (.cons (.var 5) (.cons (.var 2) .nil))))) zcp=fo at p6
  simp only [zdE,hf_,zM]
  rw [evS,p1]
  simp only [tgP,Option.map_some,List.set]
  rw [evS,p2]
  simp only
  rw [evS,p3]
  simp only
  rw [evS,p4]
  simp only [tgP,Option.map_some,List.set]
  rw [evS,p5]
  simp only [tgP,Option.map_some,List.set,p6]
 ·intro r hr
  rw [L7 r hr,L6 r hr];exact z5 r hr
theorem zkY {es:List Ev}:∀ {ws ws':Ws},ws.run es=some ws'->(∀ p,(getD ws.seats (.inl p)).isSome=true->(getD ws'.seats (.inl p)).isSome=true)/\∀ r,Ev.join r∈es->(getD ws'.seats (.inl r)).isSome=true:=by
 induction es with
 | nil=>intro ws ws' h;cases h;exact ⟨fun _ q=>q,by simp⟩
 | cons e es ih =>
  intro ws ws' h
  obtain ⟨w,h1,h2⟩:=Option.bind_eq_some_iff.mp h
  obtain ⟨a,b⟩:=ih h2
  refine ⟨fun p q=>a p ((zeB h1).1 p q),?_⟩
  intro r hr
  rcases List.mem_cons.mp hr with rfl | hr
  ·cases h1;exact a r (zeq (.inl rfl))
  ·exact b r hr
end Mp.Dr
namespace Mp.Dr
open PySem L2
def zbr (n:Nat):List Ev:=(List.range n).map fun (i:Nat)=>Ev.join (0+(i:Int))
theorem joins_ok {n:Nat} (h:n<=4):∀ e∈zbr n,EvOk e:=by
 intro e he
 obtain ⟨i,hi,rfl⟩:=List.mem_map.mp he
 have:=List.mem_range.mp hi
 exact ⟨by omega,by omega⟩
def HF (cf:CF):Prop:=∀ (M:Mm) (b:Nat) (k f:Int),Bx M b k->k<400000000000->1<=f->f<=3 ->
 ∃ (es:List Ev) (M':Mm),cf zly [.ref b,.int 6,.int f,.int 15] M=some (.tup (es.map Ev.pv),M')/\Frm [b] M M'/\Bx M' b (k+400)/\TbF es
theorem fit_ok {cf:CF} (T:HT cf) (HL:HLo cf) (HBs:HB cf) (H:HM cf) (HN:HEn cf) {M:Mm} {b:Nat} {k f:Int} (h:Bx M b k) (hk:k<400000000000) (f1:1<=f) (f2:f<=3) :
  ∃ (es:List Ev) (M':Mm),zL cf zbU [.ref b,.int 6,.int f,.int 15] M=some (.tup (es.map Ev.pv),M')/\Frm [b] M M'/\Bx M' b (k+400)/\TbF es:=by
 have hbl:b<M.length:=by obtain ⟨_,_,_,hb,_⟩:=h;exact zy hb
 let sg0:Sg:=[some (.ref b),some (.int 6),some (.int f),some (.int 15),none,none,none,none,none,none,none,none]
 let abc:List PV:=[.str "a",.str "b",.str "cc"]
 have eN0:∃ ks:List Str,evE cf (.slc false true (.lst (.cons (.con (.str "a")) (.cons (.con (.str "b")) (.cons (.con (.str "cc")) .nil)))) (.con .non) (.bop .sub (.bop .fdiv (.var 1) (.con (.int 2))) (.blt .int (.cons (.cmp .eq (.var 2) (.con (.int 3))) .nil)))) sg0 M=some (.ref (M.length+1),M++[Ob.lst abc]++[Ob.lst (ks.map .str)])/\ks.length<=4/\∀ x∈ks,KeyOk x:=by
  by_cases hf:f=3
  ·refine ⟨["a", "b"],?_,by decide,by intro x hx;simp at hx;rcases hx with rfl | rfl<;>exact ⟨_,by simp,rfl⟩⟩
   have hc2:zid abc none (some 2)=(([("a" : Str), "b"]:List Str).map PV.str):=rfl
   simp [evE,zv,sg0,sizeLine,zat,zK,zJ,hf,zhD,zgV,zl]
   exact ⟨rfl,hc2⟩
  ·refine ⟨["a", "b", "cc"],?_,by decide,by intro x hx;simp at hx;rcases hx with rfl | rfl | rfl<;>exact ⟨_,by simp,rfl⟩⟩
   have hc3:zid abc none (some 3)=(([("a" : Str), "b", "cc"]:List Str).map PV.str):=rfl
   simp [evE,zv,sg0,sizeLine,zat,zK,zJ,hf,zhD,zgV,zl]
   exact ⟨rfl,hc3⟩
 obtain ⟨ks,eN,kl4,kok⟩:=eN0
 have gA:Frm [b] M (M++[Ob.lst abc]++[Ob.lst (ks.map .str)]):=Frm.trans .app .app
 have hA:(M++[Ob.lst abc]++[Ob.lst (ks.map .str)])[M.length+1]? = some (.lst (ks.map .str)):=by
  rw [List.getElem?_append_right (by simp)];simp
 have BA:Bx (M++[Ob.lst abc]++[Ob.lst (ks.map .str)]) b k:=h.frm (S:=[]) (Frm.trans .app .app) (by simp) (Int.le_refl _)
 generalize hMa:M++[Ob.lst abc]++[Ob.lst (ks.map .str)]=Ma at *
 obtain ⟨nl,rs,Mb,eL,FL,BL,L,rl,rb,rsum,nl1,nl2⟩:=HL Ma b (M.length+1) k ks BA (by omega) (by omega) hA kl4 kok
 have gB:Frm [b] M Mb:=gA.trans FL
 have hMaM:M.length<=Ma.length:=gA.len
 have hMbM:Ma.length<=Mb.length:=FL.len
 let sg1:Sg:=[some (.ref b),some (.int 6),some (.int f),some (.int 15),some (.ref nl),none,none,none,none,none,none,none]
 obtain ⟨Mc,e1,W1,fc,lc⟩:=wE_ok cf sg1 Mb
 have hlc:=zh1 (src:=.rng 0 f.toNat) (bind:=tgP (.name 10)) (c:=fun sg M=>evE cf (.con (.bl true)) sg M) (e:=fun sg M=>evE cf zcV sg M) (sg:=sg1) (M1:=Mc) (xs:=(List.range f.toNat).map fun (i:Nat)=>PV.int (0+(i:Int))) (fun _=>true) (fun x=>.tup [.str "join",x])
  (by
   intro acc i
   by_cases hi:i<f.toNat
   ·simp [Src.get,hi]
   ·simp [Src.get,hi])
  (by
   intro x hx acc
   refine ⟨_,rfl,by simp [evE],fun _=>?_⟩
   simp [zcV,evE,zv,sg1,sizeLine])
  (by simp;omega)
 have hfl:((List.range f.toNat).map fun (i:Nat)=>PV.int (0+(i:Int))).filter (fun _=>true)=((List.range f.toNat).map fun (i:Nat)=>PV.int (0+(i:Int))):=List.filter_eq_self.mpr (by simp)
 rw [hfl,List.map_map] at hlc
 have hjp:((List.range f.toNat).map ((fun x=>PV.tup [.str "join",x]) ∘ fun (i:Nat)=>PV.int (0+(i:Int))))=(zbr f.toNat).map Ev.pv:=by simp [zbr,Ev.pv,Function.comp_def]
 rw [hjp] at hlc
 have hro:zbQ f=true:=by simp [zbQ];omega
 have eLC:evE cf (.lc [10] (.name 10) (.rng1 (.var 2)) (.con (.bl true)) zcV) sg1 Mc=some (.ref Mc.length,Mc++[.lst ((zbr f.toNat).map Ev.pv)]):=by
  rw [evE]
  have hI:evI cf (.rng1 (.var 2)) sg1 Mc=some (.rng 0 f.toNat,Mc):=by simp [evI,evE,sg1,hro]
  rw [hI]
  exact congrArg (Option.map fun M2=>(PV.ref Mc.length,M2)) hlc
 have eT:evE cf (.tup (.cons wE (.cons (.lc [10] (.name 10) (.rng1 (.var 2)) (.con (.bl true)) zcV) .nil))) sg1 Mb=some (.tup [.ref Mb.length,.ref Mc.length],Mc++[.lst ((zbr f.toNat).map Ev.pv)]):=by
  generalize E.lc [10] (.name 10) (.rng1 (.var 2)) (.con (.bl true)) zcV=q at eLC
  generalize wE=q2 at e1
  simp [evE,zv,e1,eLC,sizeLine]
 have hnf:(Mc++[Ob.lst ((zbr f.toNat).map Ev.pv)])[Mc.length]? = some (.lst ((zbr f.toNat).map Ev.pv)):=by simp
 have fd_:Frm [] Mc (Mc++[Ob.lst ((zbr f.toNat).map Ev.pv)]):=.app
 have W2:=W1.frm fd_ (by simp) (by simp) (by simp)
 have gD:Frm [] Mb (Mc++[Ob.lst ((zbr f.toNat).map Ev.pv)]):=fc.trans .app
 generalize hMd:Mc++[Ob.lst ((zbr f.toNat).map Ev.pv)]=Md at *
 have hMcl:Mc.length=Mb.length+3:=lc
 generalize hnf_:Mc.length=nf at *
 generalize hw_:Mb.length=w at *
 generalize hs_:w+1=s at *
 generalize hc_:w+2=c at *
 have hjl:(zbr f.toNat).length=f.toNat:=by simp [zbr]
 have hjo:=joins_ok (n:=f.toNat) (by omega)
 let I:Nat->Sg->Mm->Prop:=fun i sg N=>∃ (o7:Option PV) (ws:Ws),sg=zeZ b f nl w nf o7 none none/\w0.run ((zbr f.toNat).take i)=some ws/\WAt N w s c ws/\Frm [w,s,c] Md N
 obtain ⟨sg',Me,e2,o7,ws,hsg,R,We,Fe⟩:=zcD (src:=.lst nf) (bind:=tgP (.name 7)) (body:=fun sg M=>zM cf zdD sg M) I (n:=f.toNat) (sg:=zeZ b f nl w nf none none none) (M:=Md) (by omega)
  ⟨none,w0,rfl,rfl,W2,.refl⟩
  (by
   intro i sg N hi hI
   obtain ⟨o7,ws,rfl,R,W,F⟩:=hI
   have hi':i<(zbr f.toNat).length:=by omega
   have hsp:(zbr f.toNat).take (i+1)=(zbr f.toNat).take i++[(zbr f.toNat)[i]]:=by rw [List.take_succ_eq_append_getElem hi']
   have hjn:(zbr f.toNat)[i]=.join (0+i):=by simp [zbr]
   have hN:=F.get hnf (by simp;omega)
   have hwo:=ziz zkt (fun e he=>hjo e (List.mem_of_mem_take he)) R
   have hl2:((zbr f.toNat).take i).length<=i:=by simp;omega
   obtain ⟨N1,e3,W3,f3,l3⟩:=H N w s c ws _ (.join (0+i)) W rfl (by have:=hwo.sl;omega) (by have:=hwo.cl;omega)
   refine ⟨(Ev.join (0+i)).pv,zeZ b f nl w nf (some (Ev.join (0+i)).pv) none none,zeZ b f nl w nf (some (Ev.join (0+i)).pv) none none,N1,?_,rfl,?_,_,_,rfl,?_,W3,F.trans f3⟩
   ·simp [Src.get,zl,hN,hi',hjn]
   ·generalize (Ev.join (0+i)).pv=jp at e3 ⊢
    simp [zdD,zM,evS,evE,zv,e3]
   ·rw [hsp,Ws.run_append,R,hjn];rfl)
  (by
   intro sg N hI
   obtain ⟨o7,ws,rfl,R,W,F⟩:=hI
   have hN:=F.get hnf (by simp;omega)
   simp [Src.get,zl,hN,hjl])
 rw [show (zbr f.toNat).take f.toNat=zbr f.toNat from List.take_of_length_le (by omega)] at R
 subst hsg
 have hJ:zfc f ws:=fun p p0 p1=>(zkY R).2 p (List.mem_map.mpr ⟨p.toNat,List.mem_range.mpr (by omega),by congr 1;omega⟩)
 have hwo:=ziz zkt hjo R
 have FtE:Ft M Me b f nl rs nf w s c (zbr f.toNat) ws:=by
  refine ⟨⟨Fe.get hnf (by simp;omega),We,R,Nat.le_refl _,hwo.mono (by omega),hjo,by omega⟩,hJ,Fe.get (gD.get L.at_ (by simp)) (by simp;omega),?_,(gB.trans (gD.mono (by simp))).comp Fe (by simp;omega),hbl,by omega,by omega,?_,by omega,rl⟩
  ·intro r hr
   obtain ⟨es',q1,q2,q3⟩:=L.el r hr
   have:=rb r hr
   exact ⟨es',Fe.get (gD.get q1 (by simp)) (by simp;omega),q3⟩
  ·intro r hr
   have:=rb r hr
   omega
 have hlens:∀ r∈rs,lenAt Me r=lenAt Mb r:=by
  intro r hr
  obtain ⟨es',q1,q2,q3⟩:=L.el r hr
  have:=rb r hr
  rw [zb7 Fe (gD.get q1 (by simp)) (by simp;omega),zb7 gD q1 (by simp)]
 have hnz:∀ r∈rs,lenAt Me r≠0:=by
  intro r hr
  rw [hlens r hr]
  obtain ⟨es',q1,q2,q3⟩:=L.el r hr
  unfold lenAt;rw [q1]
  simpa using q2
 have BE:Bx Me b (k+60):=(BL.frm gD (by simp) (Int.le_refl _)).frm Fe (by simp;omega) (Int.le_refl _)
 let P:Sg->Mm->Prop:=fun sg N=>∃ (nl:Nat) (rs:List Nat) (es:List Ev) (ws:Ws) (o7 o8 o9:Option PV),sg=zeZ b f nl w nf o7 o8 o9/\Ft M N b f nl rs nf w s c es ws/\es.length<=15/\Bx N b (k+300)
 let J:Nat->Sg->Mm->Prop:=fun m sg N=>∃ (nl:Nat) (rs:List Nat) (es:List Ev) (ws:Ws) (o7 o8 o9:Option PV),sg=zeZ b f nl w nf o7 o8 o9/\Ft M N b f nl rs nf w s c es ws/\(∀ r∈rs,lenAt N r≠0)/\es.length+m<=15/\m=(rs.map (lenAt N)).sum/\m<=6/\Bx N b (k+300-30*m)
 obtain ⟨sg',M1,eW,nl',rs',es,wsF,o7',o8',o9',hsg,FtF,hes,BF⟩:=zkr (c:=fun sg M=>evE cf (.cmp .ne (.var 4) (.lst .nil)) sg M) (body:=fun sg M=>zM cf zdE sg M) J P
  (by
   intro m sg N hJ
   obtain ⟨nl,rs,es,ws,o7,o8,o9,rfl,F,hz,hle,hm,hm8,B⟩:=hJ
   have fA:Frm [b] N (N++[.lst []]):=.app
   have F1:=F.frm fA
   have L1:=F.lenAt fA
   have B1:Bx (N++[.lst []]) b (k+300-30*m):=B.frm (S:=[]) .app (by simp) (Int.le_refl _)
   have q5:=zgh (j:=3) (g:=dOf 3 (N++[Ob.lst []])) F1.la (show (N++[Ob.lst []])[N.length]? = some (.lst []) by simp) (by
    intro x hx
    obtain ⟨r,hr,rfl⟩:=List.mem_map.mp hx
    obtain ⟨es0,u1,u2,u3⟩:=F1.el r hr
    exact Rd.g (Rd.lst (k:=2) (g:=dOf 2 (N++[Ob.lst []])) u1 (by
     intro y hy
     obtain ⟨e,he,rfl⟩:=List.mem_map.mp hy
     exact Rd.g (ev_rd (u3 e he).1)) (by omega))) (by omega) (by omega)
   by_cases hne:rs=[]
   ·refine .inl ⟨N++[.lst []],?_,nl,rs,es,ws,o7,o8,o9,rfl,F1,by omega,B1.frm (S:=[]) .refl (by simp) (by omega)⟩
    rw [hne] at q5
    simp [evE,zv,sizeLine,zK,q5]
   ·have hz1:∀ r∈rs,lenAt (N++[.lst []]) r≠0:=fun r hr=>by rw [L1 r hr];exact hz r hr
    have hsm:(rs.map (lenAt (N++[.lst []]))).sum=m:=by rw [List.map_congr_left L1,hm]
    obtain ⟨nl',rs',es',ws',N',o7',o8',o9',t1,t2,t3,t4,t5,t6⟩:=fit_turn T HBs H (o7:=o7) (o8:=o8) (o9:=o9) F1 hne hz1 B1 (by omega) f1 (by omega) (by rw [hsm];exact hle)
    rw [hsm] at t5
    refine .inr ⟨N++[.lst []],_,N',_,?_,t1,t5,nl',rs',es',ws',o7',o8',o9',rfl,t2,t3,t4,rfl,by omega,t6.frm (S:=[]) .refl (by simp) (by omega)⟩
    have q5':eqP (N++[.lst []]) (.ref nl) (.ref N.length)=some false:=by
     rw [q5];cases hh:rs with | nil=>exact absurd hh hne | cons _ _=>rfl
    simp [evE,zv,sizeLine,zK,q5'])
  zdC (rs.map (lenAt Me)).sum (zeZ b f nl w nf o7 none none) Me (by rw [List.map_congr_left hlens];unfold zdC;omega)
  ⟨nl,rs,zbr f.toNat,ws,o7,none,none,rfl,FtE,hnz,by rw [List.map_congr_left hlens];omega,rfl,by rw [List.map_congr_left hlens];omega,BE.frm (S:=[]) .refl (by simp) (by rw [List.map_congr_left hlens];omega)⟩
 subst hsg
 have hTb:TbOk es 26:=⟨⟨wsF,FtF.k.run,FtF.k.wok.mono (by omega)⟩,by omega,FtF.k.ok⟩
 obtain ⟨es',M2,eE,gE,hTb'⟩:=HN M1 es hTb
 refine ⟨es',M2,?_,FtF.fr.trans (gE.mono (by simp)),BF.frm gE (by simp) (by omega),hTb'⟩
 have hret:evE cf (.call zdv (.cons (.blt .tuple (.cons (.var 6) .nil)) .nil)) (zeZ b f nl' w nf o7' o8' o9') M1=some (.tup (es'.map Ev.pv),M2):=by
  simp [evE,zv,zJ,zl,FtF.k.f_,eE]
 have hcall:evE cf (.call zgc (.cons (.var 0) (.cons (.var 1) (.cons (.slc false true (.lst (.cons (.con (.str "a")) (.cons (.con (.str "b")) (.cons (.con (.str "cc")) .nil)))) (.con .non) (.bop .sub (.bop .fdiv (.var 1) (.con (.int 2))) (.blt .int (.cons (.cmp .eq (.var 2) (.con (.int 3))) .nil)))) .nil)))) sg0 M=some (.ref nl,Mb):=by
  generalize E.slc false true (.lst (.cons (.con (.str "a")) (.cons (.con (.str "b")) (.cons (.con (.str "cc")) .nil)))) (.con .non) (.bop .sub (.bop .fdiv (.var 1) (.con (.int 2))) (.blt .int (.cons (.cmp .eq (.var 2) (.con (.int 3))) .nil)))=q at eN
  have eN2:evE cf q [some (.ref b),some (.int 6),some (.int f),some (.int 15),none,none,none,none,none,none,none,none] M=some (.ref (M.length+1),Ma):=eN
  show evE cf _ [some (.ref b),some (.int 6),some (.int f),some (.int 15),none,none,none,none,none,none,none,none] M=_
  simp [evE,zv,eN2,eL]
 have hS:zam Md (.ref nf)=some (.lst nf):=by simp [zam,zl,hnf]
 have hfor:evS cf (.for_ (.name 7) (.seq (.var 6)) zdD) (zeZ b f nl w nf none none none) Md=some (.nx (zeZ b f nl w nf o7 none none),Me):=by
  generalize hb3:zdD=bd at e2
  simp [evS,evI,evE,hS,e2]
 have hwhl:evS cf (.whl (.cmp .ne (.var 4) (.lst .nil)) zdE) (zeZ b f nl w nf o7 none none) Me=some (.nx (zeZ b f nl' w nf o7' o8' o9'),M1):=by
  rw [evS];exact eW
 show (if _ then _ else _)=_
 rw [if_pos (show [PV.ref b,PV.int 6,PV.int f,PV.int 15].length=zbU.np from rfl)]
 show (match zM cf zbU.body sg0 M with | some (.ret v,M1)=>_ | some (.nx _,M1)=>_ | _=>_)=_
 simp only [zbU,zM]
 rw [evS,hcall]
 simp only [tgP,Option.map_some]
 rw [evS]
 rw [show sg0.set 4 (some (.ref nl))=sg1 from rfl,eT]
 simp only [tgP,zx,Option.map_some]
 rw [show (sg1.set 5 (some (.ref w))).set 6 (some (.ref nf))=zeZ b f nl w nf none none none from rfl,hfor]
 simp only [hwhl]
 rw [evS,hret]
theorem hf (j:Nat):HF (cfN tab (j+3)):=fun M b k f h hk f1 f2=>fit_ok (ht (j+1)) (hlo j) (hb j) (hm (j+1)) (hen j) h hk f1 f2
def HD (cf:CF):Prop:=∀ (M:Mm) (b:Nat) (k:Int),Bx M b k->k<300000000000 ->
 ∃ (es:List Ev) (M':Mm),cf zeU [.ref b,.int 6] M=some (.tup (es.map Ev.pv),M')/\Frm [b] M M'/\Bx M' b (k+500)/\TbF es
theorem drawn_ok {cf:CF} (T:HT cf) (O:HO cf) (HFt:HF cf) (Tb:HTb cf) (HN:HEn cf) {M:Mm} {b:Nat} {k:Int} (h:Bx M b k) (hk:k<300000000000) :
  ∃ (es:List Ev) (M':Mm),zL cf zaK [.ref b,.int 6] M=some (.tup (es.map Ev.pv),M')/\Frm [b] M M'/\Bx M' b (k+500)/\TbF es:=by
 have hbl:b<M.length:=by obtain ⟨_,_,_,hb,_⟩:=h;exact zy hb
 obtain ⟨r1,l1,a1,a2,e1,B1⟩:=T M b k 2 h (by omega) (by omega) (by omega)
 have g1:Frm [b] M (M.set b (Ob.lst l1)):=Frm.set (by simp)
 generalize M.set b (Ob.lst l1)=M1 at *
 obtain ⟨r2,l2,b1,b2,e2,B2⟩:=T M1 b _ 3 B1 (by omega) (by omega) (by omega)
 have g2:Frm [b] M (M1.set b (Ob.lst l2)):=g1.trans (Frm.set (by simp))
 by_cases hr:r1=0
 ·generalize M1.set b (Ob.lst l2)=M2 at *
  obtain ⟨es,M3,e3,g3,B3,hT⟩:=HFt M2 b _ (1+r2) B2 (by omega) (by omega) (by omega)
  refine ⟨es,M3,?_,g2.trans g3,B3.frm (S:=[]) .refl (by simp) (by omega),hT⟩
  simp [zL,zaK,zM,evS,evE,zv,e1,zK,hr,e2,zat,e3]
 ·let abc:List PV:=[.str "a",.str "b",.str "cc",.str "abc"]
  clear e2 B2 g2
  obtain ⟨r2,l2,b1,b2,e2,B2⟩:=T (M1++[Ob.lst abc]) b _ 3 (B1.frm (S:=[]) .app (by simp) (Int.le_refl _)) (by omega) (by omega) (by omega)
  have g2:Frm [b] M ((M1++[Ob.lst abc]).set b (Ob.lst l2)):=(g1.trans .app).trans (Frm.set (by simp))
  have hM1:=g1.len
  have hab:((M1++[Ob.lst abc]).set b (Ob.lst l2))[M1.length]? = some (.lst abc):=by rw [List.getElem?_set_ne (by omega)];simp
  generalize hM2:(M1++[Ob.lst abc]).set b (Ob.lst l2)=M2 at *
  have hcut:∃ ks:List Str,zid abc none (some (2+r2))=ks.map .str/\ks≠[]/\ks.length<1000/\∀ k∈ks,KeyOk k:=by
   have:r2=0\/r2=1\/r2=2:=by omega
   rcases this with rfl | rfl | rfl
   ·refine ⟨["a", "b"],rfl,by simp,by decide,?_⟩
    intro x hx;simp at hx;rcases hx with rfl | rfl<;>exact ⟨_,by simp,rfl⟩
   ·refine ⟨["a", "b", "cc"],rfl,by simp,by decide,?_⟩
    intro x hx;simp at hx;rcases hx with rfl | rfl | rfl<;>exact ⟨_,by simp,rfl⟩
   ·refine ⟨["a", "b", "cc", "abc"],rfl,by simp,by decide,?_⟩
    intro x hx;simp at hx;rcases hx with rfl | rfl | rfl | rfl<;>exact ⟨_,by simp,rfl⟩
  obtain ⟨ks,hcut,hks⟩:=hcut
  have hslc:zhD false true M2 (.ref M1.length) .non (.int (2+r2))=some (.ref M2.length,M2++[.lst (ks.map .str)]):=by
   simp only [zhD,zgV,zl,hab,hcut]
  have g3:Frm [b] M (M2++[.lst (ks.map .str)]):=g2.trans .app
  have hnn:(M2++[.lst (ks.map .str)])[M2.length]? = some (.lst (ks.map .str)):=by simp
  have B3:Bx (M2++[.lst (ks.map .str)]) b (k+1+1):=B2.frm (S:=[]) .app (by simp) (Int.le_refl _)
  have hM2l:M.length<=M2.length:=g2.len
  generalize hM3:M2++[Ob.lst (ks.map PV.str)]=M3 at *
  generalize hnn_:M2.length=nn at *
  let wds:List PV:=[.str "ppdddrrrsl",.str "pdddrrrwwj",.str "ppddrrrrrsllw"]
  have hwl:(M3++[Ob.lst wds])[M3.length]? = some (.lst wds):=by simp
  have hM3l:M.length<=M3.length:=g3.len
  obtain ⟨zz,l4,hz,e4,B4⟩:=O (M3++[Ob.lst wds]) b M3.length _ wds (B3.frm (S:=[]) .app (by simp) (Int.le_refl _)) (by omega) hwl (by omega) (by simp [wds]) (by decide)
  have hz':∃ z:Str,zz=.str z/\0<z.length/\z.length<1000:=by
   simp [wds] at hz
   rcases hz with rfl | rfl | rfl<;>exact ⟨_,rfl,by decide,by decide⟩
  obtain ⟨z,rfl,z1,z2⟩:=hz'
  have g4:Frm [b] M ((M3++[Ob.lst wds]).set b (Ob.lst l4)):=(g3.trans .app).trans (Frm.set (by simp))
  have hnn4:((M3++[Ob.lst wds]).set b (Ob.lst l4))[nn]? = some (.lst (ks.map .str)):=by
   rw [List.getElem?_set_ne (by omega)];exact (Frm.app (S:=[])).get hnn (by simp)
  generalize hM4:(M3++[Ob.lst wds]).set b (Ob.lst l4)=M4 at *
  obtain ⟨r5,l5,c1,c2,e5,B5⟩:=T M4 b _ 6 B4 (by omega) (by omega) (by omega)
  have g5:Frm [b] M (M4.set b (Ob.lst l5)):=g4.trans (Frm.set (by simp))
  have hnn5:(M4.set b (Ob.lst l5))[nn]? = some (.lst (ks.map .str)):=by rw [List.getElem?_set_ne (by omega)];exact hnn4
  generalize hM5:M4.set b (Ob.lst l5)=M5 at *
  obtain ⟨r6,l6,d1,d2,e6,B6⟩:=T M5 b _ 4 B5 (by omega) (by omega) (by omega)
  have g6:Frm [b] M (M5.set b (Ob.lst l6)):=g5.trans (Frm.set (by simp))
  have hnn6:(M5.set b (Ob.lst l6))[nn]? = some (.lst (ks.map .str)):=by rw [List.getElem?_set_ne (by omega)];exact hnn5
  generalize hM6:M5.set b (Ob.lst l6)=M6 at *
  obtain ⟨es,M7,e7,g7,B7,hT⟩:=Tb M6 b nn _ (1+r6) (7+r5) 6 z B6 (by omega) (by omega) ⟨ks,hnn6,hks⟩ (by omega) (by omega) z1 z2 (by omega) (by omega)
  obtain ⟨r8,l8,f1,f2,e8,B8⟩:=T M7 b _ 4 B7 (by omega) (by omega) (by omega)
  have g8:Frm [b] M (M7.set b (Ob.lst l8)):=(g6.trans g7).trans (Frm.set (by simp))
  generalize hM8:M7.set b (Ob.lst l8)=M8 at *
  have e2':cf zr [.ref b,.int 3] (M1++[.lst [.str "a",.str "b",.str "cc",.str "abc"]])=some (.int r2,M2):=e2
  have e4':cf zcB [.ref b,.ref M3.length] (M3++[.lst [.str "ppdddrrrsl",.str "pdddrrrwwj",.str "ppddrrrrrsllw"]])=some (.str z,M4):=e4
  by_cases h8:0<r8
  ·obtain ⟨es',M9,e9,g9,hT9⟩:=HN M8 es (hT.mono (by omega))
   refine ⟨es',M9,?_,g8.trans (g9.mono (by simp)),B8.frm g9 (by simp) (by omega),hT9⟩
   simp [zL,zaK,zM,evS,evE,zv,e1,zK,hr,e2',hslc,e4',e5,e6,e7,e8,h8,zat,tgP,sizeLine,e9]
  ·refine ⟨es,M8,?_,g8,B8.frm (S:=[]) .refl (by simp) (by omega),hT.f (by omega)⟩
   simp [zL,zaK,zM,evS,evE,zv,e1,zK,hr,e2',hslc,e4',e5,e6,e7,e8,h8,zat,tgP,sizeLine]
theorem hd (j:Nat):HD (cfN tab (j+5)):=fun M b k h hk=>drawn_ok (ht (j+3)) (ho (j+2)) (hf (j+1)) (htb j) (hen (j+2)) h hk
end Mp.Dr
namespace Mp
open PySem L2
def cv:Dr.Ev->Ev
 | .put k v=>.put k v | .drop k=>.drop k | .join r=>.join r | .read r u=>.read r u | .save r=>.save r | .load r c=>.load r c.toNat | .wait=>.wait
def TabOk (ks:List Str) (t:Tab):Prop:=(∀ kv∈t,∃ (k:Str) (v:Int),kv=(.inr k,.int v)/\k∈ks)/\(t.map (·.1)).Nodup
theorem TabOk.nil {ks:List Str}:TabOk ks []:=⟨by simp,by simp⟩
theorem TabOk.mono {ks ks':List Str} {t:Tab} (h:TabOk ks t) (hk:∀ k∈ks,k∈ks'):TabOk ks' t:=⟨fun kv hkv=>by obtain ⟨k,v,e,q⟩:=h.1 kv hkv;exact ⟨k,v,e,hk k q⟩,h.2⟩
theorem TabOk.drop {ks:List Str} {t:Tab} {k:Key} (h:TabOk ks t):TabOk ks (zcm t k) :=
 ⟨fun kv hkv=>h.1 kv (List.mem_filter.mp hkv).1,h.2.sublist (List.filter_sublist.map _)⟩
theorem TabOk.put {ks:List Str} {t:Tab} {k:Str} {v:Int} (h:TabOk ks t) (hk:k∈ks):TabOk ks (zaH t (.inr k) (.int v)) :=
 ⟨fun kv hkv=>by
  rcases zel hkv with q | q
  ·exact h.1 kv q
  ·exact ⟨k,v,q,hk⟩,Dr.putD_nd h.2⟩
theorem stp_tab {ks:List Str} {b u:Int} {i:Nat} {e:En} {t:Tab} (h:TabOk ks t) (hk:e.key∈ks) (hv:e.val=.non\/∃ j:Int,e.val=.int j):TabOk ks (stp b u i e t):=by
 unfold stp
 split
 ·rcases hv with q | ⟨j,q⟩
  ·rw [q];exact h.drop
  ·rw [q];exact h.drop.put hk
 ·exact h
theorem zk3 {ks:List Str} {b u:Int}:∀ {es:List En} {i:Nat} {t:Tab},TabOk ks t->(∀ e∈es,e.key∈ks/\(e.val=.non\/∃ j:Int,e.val=.int j))->TabOk ks (rdL b u i es t)
 | [],_,_,h,_=>h
 | e::es,i,t,h,he=>by
  unfold rdL
  exact zk3 (stp_tab h (he e (by simp)).1 (he e (by simp)).2) fun f hf=>he f (by simp [hf])
def LS.keys (S:LS):List Str:=S.es.map En.key
theorem zh8 {α β:Type} {f:α->β} {l l':List α} (hl:l'.length=l.length) (h:∀ (i:Nat) a a',l[i]? = some a->l'[i]? = some a'->f a'=f a):l'.map f=l.map f:=by
 refine List.ext_getElem? fun i=>?_
 rw [List.getElem?_map,List.getElem?_map]
 by_cases hi:i<l.length
 ·have e1:=List.getElem?_eq_getElem hi
  have e2:=List.getElem?_eq_getElem (l:=l') (i:=i) (by omega)
  rw [e1,e2]
  simp [h i _ _ e1 e2]
 ·rw [List.getElem?_eq_none (by omega),List.getElem?_eq_none (by omega)]
theorem zlp (S:LS):S.lg.keys=S.keys:=zh8 (zbT S) fun i a a' h h'=>by
 obtain ⟨b,b1,b2,_⟩:=zfi h
 rw [h'] at b1;cases b1;exact b2
theorem zit (S:LS) {p:Nat} (hp:p<=S.es.length):(S.swd p).keys=S.keys:=zh8 (zaN S p) fun i a a' h h'=>by
 obtain ⟨b,b1,b2,_⟩:=zc2 hp h
 rw [h'] at b1;cases b1;exact b2
structure St (S:LS) (ws:Dr.Ws):Prop where
 pl:S.pl=ws.seats
 co:S.co.map (·.1)=ws.copies
 ml:(S.es.length:Int)=ws.many
 ev:∀ e∈S.es,e.val=.non\/∃ i:Int,e.val=.int i
 tb:∀ r,TabOk S.keys (S.tabOf r)
 ct:∀ q∈S.co,TabOk S.keys q.2
theorem St.new {hold:Int} {gs:List PV}:St (LS.new hold gs) Dr.w0:=⟨rfl,rfl,rfl,by simp [LS.new],fun r=>TabOk.nil,by simp [LS.new]⟩
theorem St.lg {S:LS} {ws:Dr.Ws} (h:St S ws):St S.lg ws:=by
 refine ⟨h.pl,h.co,by rw [zbT];exact h.ml,fun e he=>?_,fun r=>by rw [zlp];exact h.tb r,fun q hq=>by rw [zlp];exact h.ct q hq⟩
 obtain ⟨i,hi⟩:=List.mem_iff_getElem?.mp he
 obtain ⟨a,ha⟩:=zap (zbT S) hi
 obtain ⟨b,b1,b2,b3,_⟩:=zfi ha
 rw [hi] at b1;cases b1
 rw [b3];exact h.ev a (List.mem_of_getElem? ha)
theorem St.swd {S:LS} {ws:Dr.Ws} {p:Nat} (h:St S ws) (hp:p<=S.es.length):St (S.swd p) ws:=by
 refine ⟨h.pl,h.co,by rw [zaN];exact h.ml,fun e he=>?_,fun r=>by rw [zit S hp];exact h.tb r,fun q hq=>by rw [zit S hp];exact h.ct q hq⟩
 obtain ⟨i,hi⟩:=List.mem_iff_getElem?.mp he
 obtain ⟨a,ha⟩:=zap (zaN S p) hi
 obtain ⟨b,b1,b2,b3,_⟩:=zc2 hp ha
 rw [hi] at b1;cases b1
 rw [b3];exact h.ev a (List.mem_of_getElem? ha)
theorem St.sws {S:LS} {ws:Dr.Ws} {p:Nat} (h:St S ws) (hp:p<=S.es.length):St (S.sws p) ws:=(h.swd hp).lg
theorem St.go {S:LS} {ws:Dr.Ws} (h:St S ws):St S.go ws:=St.lg (S:={ S with tm:=S.tm+1 }) ⟨h.pl,h.co,h.ml,h.ev,h.tb,h.ct⟩
theorem St.add {S:LS} {ws:Dr.Ws} {k:Str} {v:PV} (h:St S ws) (hv:v=.non\/∃ i:Int,v=.int i):St (S.add k v) { ws with many:=ws.many+1 }:=by
 have hk:(S.add k v).keys=S.keys++[k]:=by simp [LS.add,LS.keys]
 refine ⟨h.pl,h.co,by have:=h.ml;simp [LS.add];omega,fun e he=>?_,fun r=>by rw [hk];exact (h.tb r).mono (by simp +contextual),fun q hq=>by rw [hk];exact (h.ct q hq).mono (by simp +contextual)⟩
 rcases List.mem_append.mp he with q | q
 ·exact h.ev e q
 ·simp at q;subst q;exact hv
theorem St.seat {S:LS} {ws:Dr.Ws} {r:Int} {v:PV} {t:Tab} (h:St S ws) (ht:TabOk S.keys t):St (S.seat r v t) { ws with seats:=zaH ws.seats (.inl r) v }:=by
 refine ⟨by show zaH S.pl _ _=_;rw [h.pl],h.co,h.ml,h.ev,fun k=>?_,h.ct⟩
 show TabOk S.keys _
 cases k with
 | inl r' =>
  by_cases hr:r'=r
  ·subst hr;rw [zce];exact ht
  ·rw [zcf hr];exact h.tb _
 | inr s =>
  have e1:(S.seat r v t).tabOf (.inr s)=S.tabOf (.inr s):=by
   unfold LS.tabOf LS.seat;rw [zej (by intro z;cases z)]
  rw [e1];exact h.tb _
theorem St.sv {S:LS} {ws:Dr.Ws} {v:PV} {t:Tab} (h:St S ws) (ht:TabOk S.keys t):St (S.sv v t) { ws with copies:=ws.copies++[v] }:=by
 refine ⟨h.pl,by show (S.co++[(v,t)]).map _=_;simp [h.co],h.ml,h.ev,h.tb,fun q hq=>?_⟩
 rcases List.mem_append.mp hq with q1 | q1
 ·exact h.ct q q1
 ·simp at q1;subst q1;exact ht
theorem keys_in {S:LS} {ws:Dr.Ws} (h:St S ws):∀ e∈S.es,e.key∈S.keys/\(e.val=.non\/∃ j:Int,e.val=.int j):=fun e he=>⟨List.mem_map.mpr ⟨e,he,rfl⟩,h.ev e he⟩
theorem St.do_ {S:LS} {ws ws':Dr.Ws} {e:Dr.Ev} (h:St S ws) (ho:Dr.EvOk e) (hs:ws.step e=some ws'):St (S.do_ (cv e)) ws':=by
 cases e with
 | put k v=>cases hs;exact (h.add (.inr ⟨v,rfl⟩)).go
 | drop k=>cases hs;exact (h.add (.inl rfl)).go
 | join r=>cases hs;exact (h.seat TabOk.nil).go
 | wait=>cases hs;exact h.go
 | read r u =>
  obtain ⟨⟨b,h1,h2,h3⟩,rfl⟩:=Dr.step_read hs
  show St (match getD S.pl (.inl r) with | some (.int b)=>(S.seat r (.int u) (S.rt r b u)).go | _=>S) _
  rw [h.pl,h1]
  refine (h.seat ?_).go
  rw [rt_eq]
  exact zk3 (h.tb _) (keys_in h)
 | save r =>
  simp only [Dr.Ws.step] at hs
  obtain ⟨v,h1,rfl⟩:=Option.map_eq_some_iff.mp hs
  show St (match getD S.pl (.inl r) with | some v=>(S.sv v (S.tabOf (.inl r))).go | none=>S) _
  rw [h.pl,h1]
  exact (h.sv (h.tb _)).go
 | load r c =>
  simp only [Dr.Ws.step] at hs
  obtain ⟨v,h1,rfl⟩:=Option.map_eq_some_iff.mp hs
  have hc0:0<=c:=ho.2.2
  unfold atI at h1
  obtain ⟨j,h2,h3⟩:=Option.bind_eq_some_iff.mp h1
  unfold ixN at h2
  rw [if_pos hc0] at h2
  split at h2
  case isFalse=>cases h2
  cases h2
  rw [<- h.co,List.getElem?_map] at h3
  obtain ⟨q,h4,rfl⟩:=Option.map_eq_some_iff.mp h3
  show St (match S.co[c.toNat]? with | some q=>(S.seat r q.1 q.2).go | none=>S) _
  rw [h4]
  exact (h.seat (h.ct q (List.mem_of_getElem? h4))).go
theorem zln {α:Type} [DecidableEq α]:∀ {l m:List α},l.Nodup->(∀ x∈l,x∈m)->l.length<=m.length
 | [],m,_,_=>Nat.zero_le _
 | a::l,m,hn,h=>by
  rw [List.nodup_cons] at hn
  have ha:=h a (by simp)
  have ih:=zln (l:=l) (m:=m.erase a) hn.2 fun x hx=>(List.mem_erase_of_ne (fun (z:x=a)=>hn.1 (by rw [<- z];exact hx))).mpr (h x (by simp [hx]))
  rw [List.length_erase_of_mem ha] at ih
  have:=List.length_pos_of_mem ha
  simp;omega
theorem TabOk.kvs {ks:List Str}:∀ {t:Tab},(∀ kv∈t,∃ (k:Str) (v:Int),kv=(.inr k,.int v)/\k∈ks)->∃ l,zft t=some l/\l.length=t.length/\(∀ e∈l,e.1∈ks)/\l.map (fun e=>(Sum.inr e.1:Key))=t.map (·.1)
 | [],_=>⟨[],rfl,rfl,by simp,rfl⟩
 | kv::t,h=>by
  obtain ⟨l,h1,h2,h3,h4⟩:=TabOk.kvs (t:=t) fun x hx=>h x (by simp [hx])
  obtain ⟨k,v,rfl,hk⟩:=h kv (by simp)
  refine ⟨(k,.int v)::l,by simp [zft,h1],by simp [h2],fun e he=>?_,by simp [h4]⟩
  rcases List.mem_cons.mp he with rfl | he
  ·exact hk
  ·exact h3 e he
theorem TabOk.len {ks:List Str} {t:Tab} (h:TabOk ks t):t.length<=ks.length:=by
 obtain ⟨l,h1,h2,h3,h4⟩:=TabOk.kvs h.1
 have nd:(l.map (·.1)).Nodup:=by
  have:=h.2
  rw [<- h4] at this
  have e:l.map (fun e=>(Sum.inr e.1:Key))=(l.map (·.1)).map Sum.inr:=by rw [List.map_map];rfl
  rw [e] at this
  exact List.Pairwise.of_map Sum.inr (fun a b hab z=>hab (by rw [z])) this
 have:=zln nd (m:=ks) (fun x hx=>by obtain ⟨e,he,rfl⟩:=List.mem_map.mp hx;exact h3 e he)
 simp at this
 omega
theorem ks_ne {S:LS} {k:Str} (h:k∈S.keys):S.ks k≠[]:=by
 obtain ⟨e,he,rfl⟩:=List.mem_map.mp h
 obtain ⟨i,hi⟩:=List.mem_iff_getElem?.mp he
 unfold LS.ks
 intro z
 have hm:(e,i)∈S.es.zipIdx.filter fun q=>decide (q.1.key=e.key):=List.mem_filter.mpr ⟨List.mem_iff_getElem?.mpr ⟨i,by rw [List.getElem?_zipIdx,hi];simp⟩,by simp⟩
 have:=List.map_eq_nil_iff.mp z
 rw [this] at hm
 cases hm
theorem St.wp1 {S:LS} {ws:Dr.Ws} (h:St S ws) (hl:S.es.length<60) {r b:Int} (hg:getD S.pl (.inl r)=some (.int b)):∃ l,zft (S.tabOf (.inl r))=some l/\S.wp1 r=some ((S.wrg b (zeC l)).map fun k=>.tup [.int r,k]):=by
 obtain ⟨l,h1,h2,h3,h4⟩:=TabOk.kvs (h.tb (.inl r)).1
 have hk:S.keys.length=S.es.length:=by simp [LS.keys]
 have h5:=(h.tb (.inl r)).len
 refine ⟨l,h1,?_⟩
 unfold LS.wp1
 rw [hg,h1]
 simp only []
 rw [if_pos ⟨by omega,List.all_eq_true.mpr fun e he=>by have:=ks_ne (h3 e he);cases hq:S.ks e.1 with | nil=>exact absurd hq this | cons _ _=>rfl⟩]
theorem ziI {α β:Type} {f:α->Option β}:∀ {xs:List α},(∀ x∈xs,∃ y,f x=some y)->∃ ys,xs.mapM f=some ys
 | [],_=>⟨[],by simp⟩
 | x::xs,h=>by
  obtain ⟨y,hy⟩:=h x (by simp)
  obtain ⟨ys,hys⟩:=ziI (xs:=xs) fun z hz=>h z (by simp [hz])
  exact ⟨y::ys,by rw [List.mapM_cons,hy,hys];rfl⟩
theorem St.wp {S:LS} {ws:Dr.Ws} {n:Nat} (h:St S ws) (hw:Dr.WsOk ws n) (hn:n<60) (hl:S.es.length<60):∃ out,S.wp=some out:=by
 obtain ⟨ns,k1,k2,k3⟩:=Dr.keysI_some hw.seats
 unfold LS.wp
 rw [h.pl,k1]
 simp only [Option.bind_some]
 rw [if_pos (by have:=hw.sl;omega)]
 obtain ⟨outs,ho⟩:=ziI (f:=S.wp1) (xs:=zau ns) fun r hr=>by
  obtain ⟨_,_,v,hv⟩:=k3 r ((zb5 ns).mem_iff.mp hr)
  obtain ⟨l,_,h2⟩:=h.wp1 hl (r:=r) (b:=v) (by rw [h.pl];exact hv)
  exact ⟨_,h2⟩
 exact ⟨outs.flatten,by rw [ho];rfl⟩
end Mp
namespace Mp
open PySem L2
def Grow (ws ws':Dr.Ws):Prop:=(∀ p,(getD ws.seats (.inl p)).isSome=true->(getD ws'.seats (.inl p)).isSome=true)/\ws.copies.length<=ws'.copies.length/\ws.many<=ws'.many
theorem Grow.refl (ws:Dr.Ws):Grow ws ws:=⟨fun _ h=>h,Nat.le_refl _,Int.le_refl _⟩
theorem Grow.trans {a b c:Dr.Ws} (h:Grow a b) (k:Grow b c):Grow a c:=⟨fun p q=>k.1 p (h.1 p q),Nat.le_trans h.2.1 k.2.1,Int.le_trans h.2.2 k.2.2⟩
theorem can_ok {S:LS} {ws ws':Dr.Ws} {e:Dr.Ev} {n:Nat} (h:St S ws) (hw:Dr.WsOk ws n) (hn:n<300) (ho:Dr.EvOk e) (hs:ws.step e=some ws') (hm:ws.many<=26):S.can (cv e)=true:=by
 have hml:=h.ml
 have hl:S.es.length<=26:=by omega
 have hpl:S.pl.length<900:=by rw [h.pl];have:=hw.sl;omega
 cases e with
 | put k v=>simp [cv,LS.can];omega
 | drop k=>simp [cv,LS.can];omega
 | join r=>simp [cv,LS.can,hpl]
 | wait=>rfl
 | read r u =>
  obtain ⟨⟨b,h1,h2,h3⟩,_⟩:=Dr.step_read hs
  have ht:=(h.tb (.inl r)).len
  have hk:S.keys.length=S.es.length:=by simp [LS.keys]
  simp only [cv,LS.can]
  rw [h.pl,h1]
  simp only [Bool.and_eq_true,decide_eq_true_eq]
  rw [<- h.pl]
  exact ⟨⟨⟨⟨h2,by omega⟩,by omega⟩,hpl⟩,by omega⟩
 | save r =>
  simp only [Dr.Ws.step] at hs
  obtain ⟨v,h1,_⟩:=Option.map_eq_some_iff.mp hs
  have hc:S.co.length=ws.copies.length:=by rw [<- h.co];simp
  have:=hw.cl
  simp only [cv,LS.can]
  rw [h.pl,h1]
  simp;omega
 | load r c =>
  simp only [Dr.Ws.step] at hs
  obtain ⟨v,h1,_⟩:=Option.map_eq_some_iff.mp hs
  have hc0:0<=c:=ho.2.2
  unfold atI at h1
  obtain ⟨j,h2,h3⟩:=Option.bind_eq_some_iff.mp h1
  unfold ixN at h2
  rw [if_pos hc0] at h2
  split at h2
  case isFalse=>cases h2
  cases h2
  have hj:=(List.getElem?_eq_some_iff.mp h3).1
  have hc:S.co.length=ws.copies.length:=by rw [<- h.co];simp
  simp only [cv,LS.can,Bool.and_eq_true,decide_eq_true_eq]
  exact ⟨by omega,hpl⟩
theorem Cov.do_ {S:LS} {ws ws':Dr.Ws} {e:Dr.Ev} (C:Cov S) (h:St S ws) (ho:Dr.EvOk e) (hs:ws.step e=some ws'):Cov (S.do_ (cv e)):=by
 cases e with
 | put k v=>exact (C.add _ _).go
 | drop k=>exact (C.add _ _).go
 | join r=>exact (C.seat (by omega)).go
 | wait=>exact C.go
 | read r u =>
  obtain ⟨⟨b,h1,h2,h3⟩,_⟩:=Dr.step_read hs
  show Cov (match getD S.pl (.inl r) with | some (.int b)=>(S.seat r (.int u) (S.rt r b u)).go | _=>S)
  rw [h.pl,h1]
  exact (C.seat (by rw [h.ml];exact h3)).go
 | save r =>
  simp only [Dr.Ws.step] at hs
  obtain ⟨v,h1,_⟩:=Option.map_eq_some_iff.mp hs
  show Cov (match getD S.pl (.inl r) with | some v=>(S.sv v (S.tabOf (.inl r))).go | none=>S)
  obtain ⟨b,rfl,hb⟩:=C.pi r v (by rw [h.pl];exact h1)
  rw [h.pl,h1]
  exact (C.sv hb).go
 | load r c =>
  simp only [cv,LS.do_]
  cases hc:S.co[c.toNat]? with
  | none=>exact C
  | some q =>
   obtain ⟨b,hb1,hb2⟩:=C.ci _ q hc
   simp only []
   rw [hb1]
   exact (C.seat hb2).go
end Mp
namespace Mp
open PySem L2
theorem zls (S:LS) (k:Str):S.ks k=((S.keys.zipIdx.filter fun q=>decide (q.1=k)).map (·.2)):=by
 unfold LS.ks LS.keys
 rw [List.zipIdx_map,List.filter_map,List.map_map]
 rfl
theorem zf7:∀ {t:Tab} {l:List (Str × PV)},zft t=some l->∀ k v,(k,v)∈l↔((Sum.inr k:Key),v)∈t
 | [],l,h,k,v=>by simp [zft] at h;subst h;simp
 | (.inr k',.int i)::t,l,h,k,v=>by
  simp only [zft] at h
  obtain ⟨l',h1,rfl⟩:=Option.map_eq_some_iff.mp h
  have ih:=zf7 h1 k v
  simp only [List.mem_cons,Prod.mk.injEq,ih]
  constructor
  ·rintro (⟨a,b⟩ | q)
   ·exact .inl ⟨by rw [a],b⟩
   ·exact .inr q
  ·rintro (⟨a,b⟩ | q)
   ·exact .inl ⟨by injection a,b⟩
   ·exact .inr q
 | (.inl _,_)::t,l,h,k,v=>by simp [zft] at h
 | (.inr k',.non)::t,l,h,k,v=>by simp [zft] at h
 | (.inr k',.bl _)::t,l,h,k,v=>by simp [zft] at h
 | (.inr k',.str _)::t,l,h,k,v=>by simp [zft] at h
 | (.inr k',.tup _)::t,l,h,k,v=>by simp [zft] at h
 | (.inr k',.ref _)::t,l,h,k,v=>by simp [zft] at h
 | (.inr k',.cl _)::t,l,h,k,v=>by simp [zft] at h
 | (.inr k',.fn _ _)::t,l,h,k,v=>by simp [zft] at h
theorem getD_some {t:List (Key × PV)} {k:Key} {v:PV} (h:(k,v)∈t):(getD t k).isSome=true:=by
 unfold getD
 cases hf:t.find? (fun kv=>decide (kv.1=k)) with
 | none =>
  rw [List.find?_eq_none] at hf
  exact absurd (by simp) (hf _ h)
 | some q=>rfl
theorem zg1:∀ {t:List (Key × PV)} {ns:List Int},zbH t=some ns->∀ r,r∈ns↔∃ v,((Sum.inl r:Key),v)∈t
 | [],ns,h,r=>by simp [zbH] at h;subst h;simp
 | (.inl i,w)::t,ns,h,r=>by
  simp only [zbH] at h
  obtain ⟨l',h1,rfl⟩:=Option.map_eq_some_iff.mp h
  have ih:=zg1 h1 r
  constructor
  ·intro hr
   rcases List.mem_cons.mp hr with rfl | hr
   ·exact ⟨w,by simp⟩
   ·obtain ⟨v,hv⟩:=ih.mp hr;exact ⟨v,by simp [hv]⟩
  ·rintro ⟨v,hv⟩
   rcases List.mem_cons.mp hv with q | q
   ·cases q;simp
   ·exact List.mem_cons_of_mem _ (ih.mpr ⟨v,q⟩)
 | (.inr _,_)::t,ns,h,r=>by simp [zbH] at h
def Wr (S:LS) (r:Int) (k:Str):Prop:=∃ b:Int,getD S.pl (.inl r)=some (.int b)/\(getD (S.tabOf (.inl r)) (.inr k)).isSome=true/\S.wrB b k=true
theorem wp_fwd {S:LS} {out:List PV} (h:S.wp=some out) {x:PV} (hx:x∈out):∃ r k,x=.tup [.int r,.str k]/\Wr S r k:=by
 unfold LS.wp at h
 obtain ⟨ns,hk,h⟩:=Option.bind_eq_some_iff.mp h
 split at h
 case isFalse=>cases h
 obtain ⟨outs,hm,rfl⟩:=Option.map_eq_some_iff.mp h
 obtain ⟨hlen,hat⟩:=zf4 hm
 obtain ⟨l,hl,hxl⟩:=List.mem_flatten.mp hx
 obtain ⟨i,hi⟩:=List.mem_iff_getElem?.mp hl
 have hi2:=(List.getElem?_eq_some_iff.mp hi).1
 have hr:(zau ns)[i]? = some (zau ns)[i]:=List.getElem?_eq_getElem (by omega)
 obtain ⟨y,hy,hf⟩:=hat i _ hr
 rw [hi] at hy;cases hy
 obtain ⟨b,ll,h1,h2,h3,h4,rfl⟩:=zkp hf
 obtain ⟨kk,hkk,rfl⟩:=List.mem_map.mp hxl
 unfold LS.wrg at hkk
 obtain ⟨e,he,rfl⟩:=List.mem_map.mp hkk
 obtain ⟨he1,he2⟩:=List.mem_filter.mp he
 have he3:e∈ll:=(zdK ll).mem_iff.mp he1
 exact ⟨_,e.1,rfl,b,h1,getD_some ((zf7 h2 e.1 e.2).mp he3),he2⟩
theorem wp_bwd {S:LS} {out:List PV} (h:S.wp=some out) {r:Int} {k:Str} (hw:Wr S r k) : .tup [.int r,.str k]∈out:=by
 obtain ⟨b,g1,g2,g3⟩:=hw
 unfold LS.wp at h
 obtain ⟨ns,hk,h⟩:=Option.bind_eq_some_iff.mp h
 split at h
 case isFalse=>cases h
 obtain ⟨outs,hm,rfl⟩:=Option.map_eq_some_iff.mp h
 obtain ⟨hlen,hat⟩:=zf4 hm
 have hr:r∈zau ns:=(zb5 ns).mem_iff.mpr ((zg1 hk r).mpr ⟨_,zbt g1⟩)
 obtain ⟨i,hi⟩:=List.mem_iff_getElem?.mp hr
 obtain ⟨y,hy,hf⟩:=hat i _ hi
 obtain ⟨b',ll,h1,h2,h3,h4,rfl⟩:=zkp hf
 rw [g1] at h1;cases h1
 refine List.mem_flatten.mpr ⟨_,List.mem_of_getElem? hy,List.mem_map.mpr ⟨.str k,?_,rfl⟩⟩
 obtain ⟨v,hv⟩:=Option.isSome_iff_exists.mp g2
 have hm2:(k,v)∈zeC ll:=(zdK ll).mem_iff.mpr ((zf7 h2 k v).mpr (zbt hv))
 exact List.mem_map.mpr ⟨(k,v),List.mem_filter.mpr ⟨hm2,g3⟩,rfl⟩
theorem Rel.keys {S S':LS} (h:Rel S S'):S'.keys=S.keys:=zh8 h.el fun i a a' h1 h2=>(h.es i a a' h1 h2).key
theorem Rel.wrB {S S':LS} (h:Rel S S') (b:Int) (k:Str):S'.wrB b k=S.wrB b k:=by
 unfold LS.wrB
 rw [zls,zls,h.keys]
 split
 ·rename_i i hi
  cases h1:S.es[i]? with
  | none =>
   have:S'.es[i]? = none:=by rw [List.getElem?_eq_none_iff] at h1 ⊢;rw [h.el];exact h1
   rw [this]
  | some e =>
   obtain ⟨e',he'⟩:=zap h.el.symm h1
   rw [he']
   simp only []
   rw [(h.es i e e' h1 he').val]
 ·rfl
theorem Rel.wr {S S':LS} (h:Rel S S') {r:Int} {k:Str} (hw:Wr S' r k):Wr S r k:=by
 obtain ⟨b,g1,g2,g3⟩:=hw
 obtain ⟨v,hv⟩:=Option.isSome_iff_exists.mp g2
 exact ⟨b,by rw [<- h.pl];exact g1,by rw [h.tb _ _ _ hv];rfl,by rw [<- h.wrB];exact g3⟩
theorem Rel.sub {S S':LS} (h:Rel S S') {out out':List PV} (h1:S.wp=some out) (h2:S'.wp=some out'):∀ x∈out',x∈out:=fun x hx=>by
 obtain ⟨r,k,rfl,hw⟩:=wp_fwd h2 hx
 exact wp_bwd h1 (h.wr hw)
structure Safe (A:Int->Prop) (C:Prop) (S:LS):Prop where
 rd:∀ r b,A r->getD S.pl (.inl r)=some (.int b)->Hd S b (S.tabOf (.inl r))
 cp:C->∀ (c:Nat) (b:Int) t,S.co[c]? = some (.int b,t)->Hd S b t
structure LgOk (A:Int->Prop) (C:Prop) (S:LS):Prop where
 rd:∀ (i:Nat) e,S.es[i]? = some e->S.goes S.lim i e=true->∀ r b,A r->getD S.pl (.inl r)=some (.int b)->(i:Int)<b
 cp:∀ (i:Nat) e,S.es[i]? = some e->S.goes S.lim i e=true->C->∀ (c:Nat) (b:Int) t,S.co[c]? = some (.int b,t)->(i:Int)<b
section
variable {A:Int->Prop} {C:Prop} {S:LS}
theorem Safe.lg (h:Safe A C S) (hl:LgOk A C S):Safe A C S.lg :=
 ⟨fun r b ha hg=>(h.rd r b ha hg).lg fun i e he hgo=>hl.rd i e he hgo r b ha hg,fun hc c b t hq=>(h.cp hc c b t hq).lg fun i e he hgo=>hl.cp i e he hgo hc c b t hq⟩
theorem Safe.swd (h:Safe A C S) {p:Nat} (hp:p<=S.es.length):Safe A C (S.swd p) :=
 ⟨fun r b ha hg=>(h.rd r b ha hg).swd hp,fun hc c b t hq=>(h.cp hc c b t hq).swd hp⟩
theorem Safe.tick (h:Safe A C S):Safe A C { S with tm:=S.tm+1 }:=⟨h.rd,h.cp⟩
theorem Safe.add (h:Safe A C S) (V:Cov S) (k:Str) (v:PV):Safe A C (S.add k v) :=
 ⟨fun r b ha hg=>(h.rd r b ha hg).add (by obtain ⟨b',e,q⟩:=V.pi r _ hg;cases e;exact q) k v,fun hc c b t hq=>(h.cp hc c b t hq).add (by obtain ⟨b',e,q⟩:=V.ci c _ hq;cases e;exact q) k v⟩
theorem Safe.seat (h:Safe A C S) {r:Int} {u:Int} {t:Tab} (ht:A r->Hd S u t):Safe A C (S.seat r (.int u) t):=by
 refine ⟨fun r' b ha hg=>?_,h.cp⟩
 have hg':getD (zaH S.pl (.inl r) (.int u)) (.inl r')=some (.int b):=hg
 show Hd S b _
 by_cases hr:r'=r
 ·subst hr
  rw [zcC] at hg'
  cases hg'
  rw [zce];exact ht ha
 ·rw [zbh (fun z=>hr (by injection z))] at hg'
  rw [zcf hr];exact h.rd r' b ha hg'
theorem Safe.sv (h:Safe A C S) {u:Int} {t:Tab} (ht:C->Hd S u t):Safe A C (S.sv (.int u) t):=by
 refine ⟨h.rd,fun hc c b t' hq=>?_⟩
 have hq':(S.co++[(PV.int u,t)])[c]? = some (.int b,t'):=hq
 show Hd S b t'
 by_cases hl:c<S.co.length
 ·rw [List.getElem?_append_left hl] at hq';exact h.cp hc c b t' hq'
 ·rw [List.getElem?_append_right (by omega)] at hq'
  have:=List.mem_of_getElem? hq'
  simp at this
  obtain ⟨rfl,rfl⟩:=this
  exact ht hc
end
end Mp
namespace Mp
open PySem L2
structure Tbl (es:List Dr.Ev) (ws:Dr.Ws):Prop where
 run:Dr.w0.run es=some ws
 many:ws.many<=26
 len:es.length<=52
 ok:∀ e∈es,Dr.EvOk e
 wok:Dr.WsOk ws 52
theorem Dr.TbF.tbl {es:List Dr.Ev} (h:Dr.TbF es):∃ ws,Tbl es ws:=by
 obtain ⟨h1,ws,h2,h3⟩:=h
 obtain ⟨ws',h4,h5⟩:=h1.run
 rw [h2] at h4;cases h4
 exact ⟨ws,h2,h3,h1.len,h1.ok,h5⟩
def zdc (es:List Dr.Ev) (t:Nat):Nat:=((es.take t).filter fun e=>(cv e).ent).length
theorem Cov.new {hold:Int} {gs:List PV}:Cov (LS.new hold gs) :=
 ⟨by simp [LS.new],by simp [LS.new],by simp [LS.new],by simp [LS.new],fun r v h=>by simp [LS.new,getD] at h,fun c q h=>by simp [LS.new] at h⟩
def gdC (c:Nat):PV:=.tup [.str "copy",.int c]
def gdr (r:Int):PV:=.tup [.str "reader",.int r]
end Mp
namespace Mp
open PySem L2
def isSv:Dr.Ev->Bool
 | .save _=>true | _=>false
def svs (es:List Dr.Ev):Nat:=(es.filter isSv).length
def isJl:Dr.Ev->Bool
 | .join _=>true | .load _ _=>true | _=>false
def rdOf:Dr.Ev->Int
 | .join r=>r | .load r _=>r | _=>0
def zdM (es:List Dr.Ev):List Int:=(es.filter isJl).map rdOf
def pvSv:PV->Bool
 | .tup (.str w::_)=>decide (w = "save") | _=>false
def pvJl:PV->Bool
 | .tup (.str w::_)=>decide (w = "join") || decide (w = "load") | _=>false
def pv1:PV->PV
 | .tup (_::y::_)=>y | _=>.non
def Dr.Ev.wd:Dr.Ev->String
 | .put _ _ => "put" | .drop _ => "drop" | .join _ => "join" | .read _ _ => "read" | .save _ => "save" | .load _ _ => "load" | .wait => "wait"
theorem wd_at (e:Dr.Ev):∃ l,e.pv=.tup (.str e.wd::l):=by cases e<;>exact ⟨_,rfl⟩
theorem pvSv_e (e:Dr.Ev):pvSv e.pv=isSv e:=by cases e<;>simp [Dr.Ev.pv,pvSv,isSv,zaa]
theorem zk7 (e:Dr.Ev):pvJl e.pv=isJl e:=by cases e<;>simp [Dr.Ev.pv,pvJl,isJl,zaa]
theorem pv1_e {e:Dr.Ev} (h:isJl e=true):pv1 e.pv=.int (rdOf e):=by cases e<;>first | rfl | cases h
section
variable {cf:CF} {sg:Sg} {M:Mm} {es:List Dr.Ev} {i w:Nat}
theorem cnt_ok (hi:sg[i]? = some (some (.tup (es.map Dr.Ev.pv)))) (hw:(sg[w]?).isSome=true) (hl:es.length<1000) :
  ∃ M',evE cf (.blt .len (.cons (.lc [w] (.name w) (.seq (.var i)) (.cmp .eq (.idx (.var w) (.con (.int 0))) (.con (.str "save"))) (.var w)) .nil)) sg M=some (.int (svs es),M')/\Frm [] M M':=by
 have hI:evI cf (.seq (.var i)) sg M=some (.tup (es.map Dr.Ev.pv),M):=by
  rw [evI,zU hi];rfl
 have hwl:w<sg.length:=by
  cases h:sg[w]? with
  | none=>rw [h] at hw;cases hw
  | some x=>exact (List.getElem?_eq_some_iff.mp h).1
 have hset:∀ v:PV,((z6 sg [w]).set w (some v))[w]? = some (some v):=fun v=>by simp [z6,hwl]
 have e1:=zfs (cf:=cf) (own:=[w]) (t:=.name w) (c:=.cmp .eq (.idx (.var w) (.con (.int 0))) (.con (.str "save"))) (e:=.var w) (sg:=sg) (xs:=es.map Dr.Ev.pv) pvSv id hI (by intro acc j;rfl) (by simp;omega)
  (by
   intro x hx acc
   obtain ⟨e,_,rfl⟩:=List.mem_map.mp hx
   refine ⟨_,rfl,?_,fun _=>zU (hset _)⟩
   obtain ⟨l,hl⟩:=wd_at e
   refine zha (zia (zU (hset _)) zaB (z:=.str e.wd) (by rw [hl];exact at0)) zaB ?_
   rw [pvSv_e]
   cases e<;>simp [zK,Dr.Ev.wd,isSv,zaa])
 have hlen:(((es.map Dr.Ev.pv).filter pvSv).map id).length=svs es:=by
  rw [List.length_map,List.filter_map,List.length_map]
  exact congrArg List.length (List.filter_congr fun e _=>pvSv_e e)
 refine ⟨_,zdg (zae e1) (q:=some (.int (svs es),M++[Ob.lst (((es.map Dr.Ev.pv).filter pvSv).map id)])) ?_,.app⟩
 simp only [zJ,za5,hlen]
theorem rdr_ok (hi:sg[i]? = some (some (.tup (es.map Dr.Ev.pv)))) (hw:(sg[w]?).isSome=true) (hl:es.length<60) :
  ∃ M',evE cf (.blt .ssort (.cons (.lc [w] (.name w) (.seq (.var i)) (.cmp .isin (.idx (.var w) (.con (.int 0))) (.tup (.cons (.con (.str "join")) (.cons (.con (.str "load")) .nil)))) (.idx (.var w) (.con (.int 1)))) .nil)) sg M=some (.ref (M.length+1),M')/\M'[M.length+1]? = some (.lst ((usortI (zdM es)).map .int))/\Frm [] M M'/\M'.length=M.length+2:=by
 have hI:evI cf (.seq (.var i)) sg M=some (.tup (es.map Dr.Ev.pv),M):=by
  rw [evI,zU hi];rfl
 have hwl:w<sg.length:=by
  cases h:sg[w]? with
  | none=>rw [h] at hw;cases hw
  | some x=>exact (List.getElem?_eq_some_iff.mp h).1
 have hset:∀ v:PV,((z6 sg [w]).set w (some v))[w]? = some (some v):=fun v=>by simp [z6,hwl]
 have e1:=zfs (cf:=cf) (own:=[w]) (t:=.name w) (c:=.cmp .isin (.idx (.var w) (.con (.int 0))) (.tup (.cons (.con (.str "join")) (.cons (.con (.str "load")) .nil)))) (e:=.idx (.var w) (.con (.int 1))) (sg:=sg) (xs:=es.map Dr.Ev.pv) pvJl pv1 hI (by intro acc j;rfl) (by simp;omega)
  (by
   intro x hx acc
   obtain ⟨e,_,rfl⟩:=List.mem_map.mp hx
   refine ⟨_,rfl,?_,fun hp=>?_⟩
   ·obtain ⟨l,hl⟩:=wd_at e
    refine zha (zia (zU (hset _)) zaB (z:=.str e.wd) (by rw [hl];exact at0)) (zjN (zP zaB (zae zaB)) (by simp)) ?_
    rw [zk7]
    refine in2.trans ?_
    cases e<;>rfl
   ·rw [zk7] at hp
    rw [pv1_e hp]
    refine zia (zU (hset _)) zaB ?_
    cases e<;>first | exact at1 | cases hp)
 have hxs:((es.map Dr.Ev.pv).filter pvJl).map pv1=(zdM es).map PV.int:=by
  rw [List.filter_map,List.map_map,zdM,List.map_map]
  have:es.filter (pvJl ∘ Dr.Ev.pv)=es.filter isJl:=List.filter_congr fun e _=>zk7 e
  rw [this]
  exact List.map_congr_left fun e he=>pv1_e (List.mem_filter.mp he).2
 rw [hxs] at e1
 have hrl:(zdM es).length<64:=by
  unfold zdM;rw [List.length_map]
  have:=List.length_filter_le isJl es
  omega
 refine ⟨(M++[Ob.lst ((zdM es).map .int)])++[Ob.lst ((usortI (zdM es)).map .int)],zdg (zae e1) ?_,by simp,Frm.trans .app .app,by simp⟩
 simp only [zJ,zl,za5,Option.bind_some,zfx]
 rw [if_pos hrl]
 simp
end
def evL (es:List Dr.Ev):List PV:=((List.range (svs es)).map gdC)++((usortI (zdM es)).map gdr)
theorem zkv:∀ es:List Dr.Ev,(es.filter isSv).length+(es.filter isJl).length<=es.length
 | []=>by simp
 | e::es=>by
  have ih:=zkv es
  rw [List.filter_cons,List.filter_cons,List.length_cons]
  cases e<;>simp [isSv,isJl]<;>omega
theorem zlM (es:List Dr.Ev) (h:es.length<=52):(evL es).length<=52:=by
 have h1:=zkv es
 have h2:(usortI (zdM es)).length<=(zdM es).length:=usortI_len _
 have h3:(zdM es).length=(es.filter isJl).length:=by unfold zdM;rw [List.length_map]
 have h4:svs es=(es.filter isSv).length:=rfl
 simp [evL];omega
theorem evL_ok {es:List Dr.Ev} {g:PV} (h:g∈evL es):∃ (s:Str) (m:Int),g=.tup [.str s,.int m]:=by
 rcases List.mem_append.mp h with q | q
 ·obtain ⟨c,_,rfl⟩:=List.mem_map.mp q;exact ⟨_,_,rfl⟩
 ·obtain ⟨c,_,rfl⟩:=List.mem_map.mp q;exact ⟨_,_,rfl⟩
section
variable {cf:CF} {sg:Sg} {M:Mm} {es:List Dr.Ev} {ic ir w v:Nat}
theorem evr_ok {nr:Nat} (hc:sg[ic]? = some (some (.int (svs es)))) (hr:sg[ir]? = some (some (.ref nr))) (gr:M[nr]? = some (.lst ((usortI (zdM es)).map .int))) (hw:w<sg.length) (hv:v<sg.length) (hl:es.length<=52) :
  ∃ n M',evE cf (.bop .add (.lc [w] (.name w) (.rng1 (.var ic)) (.con (.bl true)) (.tup (.cons (.con (.str "copy")) (.cons (.var w) .nil)))) (.lc [v] (.name v) (.seq (.var ir)) (.con (.bl true)) (.tup (.cons (.con (.str "reader")) (.cons (.var v) .nil))))) sg M=some (.ref n,M')/\M'[n]? = some (.lst (evL es))/\Frm [] M M'/\M.length<=n:=by
 have h1:svs es<=es.length:=List.length_filter_le _ _
 have h2:(usortI (zdM es)).length<=(zdM es).length:=usortI_len _
 have h3:(zdM es).length<=es.length:=by unfold zdM;rw [List.length_map];exact List.length_filter_le _ _
 have hI1:evI cf (.rng1 (.var ic)) sg M=some (.rng 0 (svs es),M):=by
  rw [evI,zU hc]
  have:zbQ ((svs es:Nat):Int)=true:=by simp [zbQ];omega
  simp only [this,if_true]
  rfl
 have e1:=zfs (cf:=cf) (own:=[w]) (t:=.name w) (c:=.con (.bl true)) (e:=.tup (.cons (.con (.str "copy")) (.cons (.var w) .nil))) (sg:=sg) (xs:=(List.range (svs es)).map fun (i:Nat)=>PV.int i) (fun _=>true) (fun x=>.tup [.str "copy",x]) hI1
  (by
   intro acc i
   simp only [Src.get]
   by_cases hi:i<svs es<;>simp [hi]) (by simp;omega)
  (by
   intro x hx acc
   exact ⟨_,rfl,zaB,fun _=>zjN (zP zaB (zae (zU (by simp [z6,hw])))) (by simp)⟩)
 have hx1:((((List.range (svs es)).map fun (i:Nat)=>PV.int i).filter fun _=>true).map fun x=>PV.tup [.str "copy",x])=(List.range (svs es)).map gdC:=by
  rw [zfA,List.map_map];rfl
 rw [hx1] at e1
 have gr':(M++[Ob.lst ((List.range (svs es)).map gdC)])[nr]? = some (.lst ((usortI (zdM es)).map .int)):=by rw [List.getElem?_append_left (zy gr)];exact gr
 have hI2:evI cf (.seq (.var ir)) sg (M++[Ob.lst ((List.range (svs es)).map gdC)])=some (.lst nr,M++[Ob.lst ((List.range (svs es)).map gdC)]):=by
  rw [evI,zU hr];simp [zam,zl,gr']
 have e2:=zfs (cf:=cf) (own:=[v]) (t:=.name v) (c:=.con (.bl true)) (e:=.tup (.cons (.con (.str "reader")) (.cons (.var v) .nil))) (sg:=sg) (xs:=(usortI (zdM es)).map .int) (fun _=>true) (fun x=>.tup [.str "reader",x]) hI2
  (by
   intro acc i
   have:((M++[Ob.lst ((List.range (svs es)).map gdC)])++[Ob.lst acc])[nr]? = some (.lst ((usortI (zdM es)).map .int)):=by rw [List.getElem?_append_left (zy gr')];exact gr'
   simp only [Src.get,zl,this,Option.map_some]) (by simp;omega)
  (by
   intro x hx acc
   exact ⟨_,rfl,zaB,fun _=>zjN (zP zaB (zae (zU (by simp [z6,hv])))) (by simp)⟩)
 have hx2:((((usortI (zdM es)).map PV.int).filter fun _=>true).map fun x=>PV.tup [.str "reader",x])=(usortI (zdM es)).map gdr:=by
  rw [zfA,List.map_map];rfl
 rw [hx2] at e2
 have h24:sizeLine=16777216:=rfl
 refine ⟨_,_,zhb e1 e2 (q:=some (.ref ((M++[Ob.lst ((List.range (svs es)).map gdC)])++[Ob.lst ((usortI (zdM es)).map gdr)]).length,((M++[Ob.lst ((List.range (svs es)).map gdC)])++[Ob.lst ((usortI (zdM es)).map gdr)])++[Ob.lst (evL es)])) ?_,za5,Frm.trans .app (Frm.trans .app .app),by simp⟩
 have a1:zl ((M++[Ob.lst ((List.range (svs es)).map gdC)])++[Ob.lst ((usortI (zdM es)).map gdr)]) M.length=some ((List.range (svs es)).map gdC):=by
  simp [zl]
 have a2:zl ((M++[Ob.lst ((List.range (svs es)).map gdC)])++[Ob.lst ((usortI (zdM es)).map gdr)]) (M++[Ob.lst ((List.range (svs es)).map gdC)]).length=some ((usortI (zdM es)).map gdr):=by
  simp only [zl,za5]
 simp only [zat,a1,a2]
 rw [if_pos (by simp;omega)]
 rfl
end
end Mp
namespace Mp
open PySem L2
theorem Bx.lt {M:Mm} {b:Nat} {k:Int} (h:Bx M b k):b<M.length:=by obtain ⟨_,_,_,hb,_⟩:=h;exact zy hb
def HWtc (cf:CF):Prop:=∀ (M:Mm) (b:Nat) (k:Int) (es:List Dr.Ev),Bx M b k->k<1000000->es.length<=52->∃ gs M',cf zeS [.ref b,.tup (es.map Dr.Ev.pv)] M=some (.tup gs,M')/\GsOk gs/\Frm [b] M M'/\Bx M' b (k+104)/\(∀ g∈gs,g∈evL es)/\gs.length<=(evL es).length
theorem watch_ok {cf:CF} (T:HT cf) {M:Mm} {b:Nat} {k:Int} {es:List Dr.Ev} (B:Bx M b k) (hk:k<1000000) (hl:es.length<=52):∃ gs M',zL cf zb8 [.ref b,.tup (es.map Dr.Ev.pv)] M=some (.tup gs,M')/\GsOk gs/\Frm [b] M M'/\Bx M' b (k+104)/\(∀ g∈gs,g∈evL es)/\gs.length<=(evL es).length:=by
 let sg:Option PV->Option PV->Option PV->Sg:=fun x2 x3 x4=>[some (.ref b),some (.tup (es.map Dr.Ev.pv)),x2,x3,x4,none,none,none,none]
 obtain ⟨M1,e1,F1⟩:=cnt_ok (cf:=cf) (sg:=sg none none none) (M:=M) (es:=es) (i:=1) (w:=5) rfl rfl (by omega)
 obtain ⟨M2,e2,g2,F2,l2⟩:=rdr_ok (cf:=cf) (sg:=sg (some (.int (svs es))) none none) (M:=M1) (es:=es) (i:=1) (w:=5) rfl rfl (by omega)
 obtain ⟨n4,M3,e3,g3,F3,hn4⟩:=evr_ok (cf:=cf) (sg:=sg (some (.int (svs es))) (some (.ref (M1.length+1))) none) (M:=M2) (es:=es) (ic:=2) (ir:=3) (w:=6) (v:=7) rfl rfl g2 (by simp [sg]) (by simp [sg]) hl
 have FM:Frm [] M M3:=F1.trans (F2.trans F3)
 have B3:Bx M3 b k:=B.frm FM (by simp) (Int.le_refl _)
 have hb:=B.lt
 have hb3:=B3.lt
 have hln:=zy g3
 have hel:=zlM es hl
 have hn4b:n4≠b:=by have:=F1.len;have:=F2.len;omega
 let sg4:Sg:=sg (some (.int (svs es))) (some (.ref (M1.length+1))) (some (.ref n4))
 let I:Nat->Mm->Prop:=fun i N=>∃ gs':List PV,N[M3.length]? = some (.lst gs')/\gs'.length<=i/\(∀ g∈gs',g∈evL es)/\N[n4]? = some (.lst (evL es))/\Bx N b (k+i)/\Frm [b] M3 N
 obtain ⟨M4,h1,gs,c1,c2,c3,c4,c5,c6⟩:=zeN (src:=.lst n4) (bind:=tgP (.name 8)) (c:=fun sg M=>evE cf zfI sg M) (e:=fun sg M=>evE cf (.var 8) sg M) (d:=M3.length) (sg:=z6 sg4 [8]) I (n:=(evL es).length) (M:=M3++[Ob.lst []]) (by omega)
  ⟨[],za5,Nat.le_refl _,by simp,by rw [List.getElem?_append_left hln];exact g3,B3.frm (S:=[]) .app (by simp) (by omega),.app⟩
  (by
   rintro i N hi ⟨gs',c1,c2,c3,c4,c5,c6⟩
   obtain ⟨r,l,r0,r1,t1,B1⟩:=T N b (k+i) 3 c5 (by omega) (by omega) (by omega)
   have q1:(N.set b (.lst l))[M3.length]? = some (.lst gs'):=by rw [List.getElem?_set_ne (by omega)];exact c1
   have q4:(N.set b (.lst l))[n4]? = some (.lst (evL es)):=by rw [List.getElem?_set_ne (fun z=>hn4b z.symm)];exact c4
   have q6:Frm [b] M3 (N.set b (.lst l)):=c6.trans (Frm.set (by simp))
   have hsg:∀ y,tgP (.name 8) N y (z6 sg4 [8])=some [some (.ref b),some (.tup (es.map Dr.Ev.pv)),some (.int (svs es)),some (.ref (M1.length+1)),some (.ref n4),none,none,none,some y]:=fun y=>rfl
   refine ⟨(evL es)[i],_,by simp [Src.get,zl,c4,hi],hsg _,?_⟩
   by_cases hr:r=0
   ·refine .inl ⟨N.set b (.lst l),(evL es)[i],N.set b (.lst l),gs',?_,zU rfl,by simp only [zl,q1],by omega,gs'++[(evL es)[i]],?_,by simp;omega,?_,?_,?_,?_⟩
    ·refine zha (zd3 (zP (zU rfl) (zae zaB)) t1) zaB ?_
     simp [zK,hr]
    ·rw [List.getElem?_set_self (zy q1)]
    ·intro g hg
     rcases List.mem_append.mp hg with hg | hg
     ·exact c3 g hg
     ·simp at hg;subst hg;exact List.getElem_mem hi
    ·rw [List.getElem?_set_ne (by omega)];exact q4
    ·exact B1.frm (S:=[M3.length]) (Frm.set (by simp)) (by simp;omega) (by omega)
    ·exact q6.comp (Frm.set (S:=[M3.length]) (by simp)) (by simp)
   ·refine .inr ⟨N.set b (.lst l),?_,gs',q1,by omega,c3,q4,B1.frm (S:=[]) .refl (by simp) (by omega),q6⟩
    refine zha (zd3 (zP (zU rfl) (zae zaB)) t1) zaB ?_
    simp [zK,hr])
  (by
   rintro N ⟨gs',c1,c2,c3,c4,c5,c6⟩
   simp [Src.get,zl,c4])
 refine ⟨gs,M4,zeF rfl (zcu (sg1:=sg (some (.int (svs es))) none none) (zjp e1 rfl) (zcu (sg1:=sg (some (.int (svs es))) (some (.ref (M1.length+1))) none) (zjp e2 rfl) (zcu (sg1:=sg4) (zjp e3 rfl) (zgL (zdg (M1:=M4) (xs:=[.ref M3.length]) (zae ?_) ?_))))),⟨by omega,fun g hg=>evL_ok (c3 g hg)⟩,(FM.mono (by simp)).trans c6,c5.frm (S:=[]) .refl (by simp) (by omega),c3,c2⟩
 ·have hI:evI cf (.seq (.var 4)) sg4 M3=some (.lst n4,M3):=by
   rw [evI,zU (v:=.ref n4) rfl];simp [zam,zl,g3]
  rw [evE,hI]
  exact congrArg (Option.map fun M2=>(PV.ref M3.length,M2)) h1
 ·simp [zJ,zl,c1]
theorem hwtc (j:Nat):HWtc (cfN tab (j+2)):=fun M b k es B hk hl=>by
 obtain ⟨gs,M',e,r⟩:=watch_ok (cf:=cfN tab (j+1)) (ht j) B hk hl
 exact ⟨gs,M',e,r⟩
theorem zlt {k:Str} (h:Dr.KeyOk k):FlOk (.str k):=by
 obtain ⟨s,_,rfl⟩:=h
 exact lay_str s
end Mp
namespace Mp
open PySem L2
def swG (t n:Nat) (F:Nat->List Nat):List (Int × Nat):=((List.range' t n).map fun j=>(F j).map fun p=>(((j:Nat):Int),p)).flatten
theorem zkH {P:LS->Prop} (hsw:∀ S p,P S->p<=S.es.length->P (S.sws p)):∀ {l:List (Int × Nat)} {S:LS},P S->(∀ q∈l,q.2<=S.es.length)->P (S.swl l)
 | [],S,h,_=>h
 | q::l,S,h,hl=>by
  show P ((S.sws q.2).swl l)
  exact zkH hsw (hsw S q.2 h (hl q (by simp))) fun x hx=>by rw [zkG];exact hl x (by simp [hx])
def atT (F:Nat->List Nat) (t:Nat):List (Int × Nat):=(F t).map fun p=>(((t:Nat):Int),p)
end Mp
namespace Mp
open PySem L2
structure OA where
 r:Nat
 g:Nat
 s:Nat
 p:Nat
 t:Nat
 c:Nat
 h:Nat
 ts:List Nat
 cs:List Nat
def OA.all (A:OA) (o:Nat):List Nat:=o::A.r::A.g::A.s::A.p::A.t::A.c::A.h::(A.ts++A.cs)
def owD (A:OA):List (Key × PV):=[(.inr "rows",.ref A.r),(.inr "gone",.ref A.g),(.inr "since",.ref A.s),(.inr "seats",.ref A.p),(.inr "tables",.ref A.t),(.inr "copies",.ref A.c),(.inr "heard",.ref A.h)]
def rowP (e:En):PV:=.tup [.str e.key,e.val]
def tbO (A:OA) (S:LS):List (Key × PV):=(S.tb.zip A.ts).map fun q=>(q.1.1,.ref q.2)
def coO (A:OA) (S:LS):List PV:=(S.co.zip A.cs).map fun q=>.tup [q.1.1,.ref q.2]
def InR (g:List (Key × PV)) (n:Nat):Prop:=(g.map (·.1)).Nodup/\∀ kv∈g,∃ k:Nat,k<n/\kv.1=.inl k
theorem InR.len {g:List (Key × PV)} {n:Nat} (h:InR g n):g.length<=n:=by
 have:(g.map (·.1)).length<=((List.range n).map fun (k:Nat)=>(Sum.inl ((k:Nat):Int):Key)).length:=zln h.1 fun x hx=>by
  obtain ⟨kv,hkv,rfl⟩:=List.mem_map.mp hx
  obtain ⟨k,hk,e⟩:=h.2 kv hkv
  exact List.mem_map.mpr ⟨k,List.mem_range.mpr hk,e.symm⟩
 simpa using this
theorem InR.put {g:List (Key × PV)} {n k:Nat} {v:PV} (h:InR g n) (hk:k<n):InR (zaH g (.inl (k:Nat)) v) n :=
 ⟨Dr.putD_nd h.1,fun kv hkv=>by
  rcases zel hkv with q | q
  ·exact h.2 kv q
  ·exact ⟨k,hk,by rw [q]⟩⟩
theorem InR.mono {g:List (Key × PV)} {n m:Nat} (h:InR g n) (hn:n<=m):InR g m:=⟨h.1,fun kv hkv=>by obtain ⟨k,a,b⟩:=h.2 kv hkv;exact ⟨k,by omega,b⟩⟩
def GnOk (g:List (Key × PV)) (es:List En):Prop:=InR g es.length/\∀ (k:Nat) e,es[k]? = some e->((getD g (.inl (k:Nat))).isSome=true↔e.gone=true)
def SnOk (s:List (Key × PV)) (es:List En):Prop:=InR s es.length/\∀ (k:Nat) e,es[k]? = some e->getD s (.inl (k:Nat))=e.pas.map PV.int
structure OwAt (M:Mm) (o:Nat) (A:OA) (S:LS):Prop where
 o_:M[o]? = some (.dic (owD A))
 r_:M[A.r]? = some (.lst (S.es.map rowP))
 g_:∃ g,M[A.g]? = some (.dic g)/\GnOk g S.es
 s_:∃ s,M[A.s]? = some (.dic s)/\SnOk s S.es
 p_:M[A.p]? = some (.dic S.pl)
 t_:M[A.t]? = some (.dic (tbO A S))
 c_:M[A.c]? = some (.lst (coO A S))
 h_:∃ hs,M[A.h]? = some (.lst hs)/\hs.length<10000
 tl:A.ts.length=S.tb.length
 cl:A.cs.length=S.co.length
 d_:∀ (i n:Nat) (q:Key × Tab),A.ts[i]? = some n->S.tb[i]? = some q->M[n]? = some (.dic q.2)
 k_:∀ (i n:Nat) (q:PV × Tab),A.cs[i]? = some n->S.co[i]? = some q->M[n]? = some (.dic q.2)
 nd:(A.all o).Nodup
theorem OwAt.frm {M M':Mm} {o:Nat} {A:OA} {S:LS} {T:List Nat} (h:OwAt M o A S) (F:Frm T M M') (hT:∀ i∈A.all o,i∉T):OwAt M' o A S:=by
 obtain ⟨g,g1,g2⟩:=h.g_
 obtain ⟨s,s1,s2⟩:=h.s_
 obtain ⟨hs,h1,h2⟩:=h.h_
 exact ⟨F.get h.o_ (hT _ (by simp [OA.all])),F.get h.r_ (hT _ (by simp [OA.all])),⟨g,F.get g1 (hT _ (by simp [OA.all])),g2⟩,⟨s,F.get s1 (hT _ (by simp [OA.all])),s2⟩,F.get h.p_ (hT _ (by simp [OA.all])),F.get h.t_ (hT _ (by simp [OA.all])),F.get h.c_ (hT _ (by simp [OA.all])),⟨hs,F.get h1 (hT _ (by simp [OA.all])),h2⟩,h.tl,h.cl,
  fun i n q a b=>F.get (h.d_ i n q a b) (hT _ (by simp [OA.all,List.mem_of_getElem? a])),fun i n q a b=>F.get (h.k_ i n q a b) (hT _ (by simp [OA.all,List.mem_of_getElem? a])),h.nd⟩
theorem OwAt.app {M:Mm} {L:List Ob} {o:Nat} {A:OA} {S:LS} (h:OwAt M o A S):OwAt (M++L) o A S:=h.frm (T:=[]) .app (by simp)
theorem OwAt.same {M:Mm} {o:Nat} {A:OA} {S S':LS} (h:OwAt M o A S) (h1:S'.es=S.es) (h2:S'.pl=S.pl) (h3:S'.tb=S.tb) (h4:S'.co=S.co):OwAt M o A S':=by
 cases S;cases S'
 simp only at h1 h2 h3 h4
 subst h1 h2 h3 h4
 exact ⟨h.o_,h.r_,h.g_,h.s_,h.p_,h.t_,h.c_,h.h_,h.tl,h.cl,h.d_,h.k_,h.nd⟩
structure PlOk (S:LS):Prop where
 pv:∀ r v,getD S.pl (.inl r)=some v->∃ i:Int,v=.int i
 cv:∀ q∈S.co,∃ i:Int,q.1=.int i
 pn:S.pl.length<1000
 cn:S.co.length<1000
 el:S.es.length<=90
end Mp
namespace Mp
open PySem L2
theorem ni1 {x a:Nat} (h1:x≠a):x∉[a]:=by simp only [List.mem_cons,List.not_mem_nil,or_false];exact h1
theorem PlOk.es {S:LS} (P:PlOk S) {es:List En} (h:es.length=S.es.length):PlOk { S with es:=es }:=⟨P.pv,P.cv,P.pn,P.cn,by show es.length<=90;rw [h];exact P.el⟩
end Mp
namespace Mp
open PySem L2
theorem nx {A:OA} {o i j x y:Nat} (nd:(A.all o).Nodup) (hi:(A.all o)[i]? = some x) (hj:(A.all o)[j]? = some y) (hij:i≠j):x∉[y]:=ni1 fun z=>hij (ix_inj nd hi (z ▸ hj))
section
variable {M:Mm} {o:Nat} {A:OA} {S:LS}
theorem OwAt.lt (h:OwAt M o A S):∀ i∈A.all o,i<M.length:=fun i hi=>by
 obtain ⟨g,g1,_⟩:=h.g_
 obtain ⟨s,s1,_⟩:=h.s_
 obtain ⟨hs,h1,_⟩:=h.h_
 simp only [OA.all,List.mem_cons,List.mem_append] at hi
 rcases hi with rfl | rfl | rfl | rfl | rfl | rfl | rfl | rfl | hi | hi
 ·exact zy h.o_
 ·exact zy h.r_
 ·exact zy g1
 ·exact zy s1
 ·exact zy h.p_
 ·exact zy h.t_
 ·exact zy h.c_
 ·exact zy h1
 ·obtain ⟨j,hj⟩:=List.mem_iff_getElem?.mp hi
  have hj2:=(List.getElem?_eq_some_iff.mp hj).1
  exact zy (h.d_ j i _ hj (List.getElem?_eq_getElem (by rw [<- h.tl];exact hj2)))
 ·obtain ⟨j,hj⟩:=List.mem_iff_getElem?.mp hi
  have hj2:=(List.getElem?_eq_some_iff.mp hj).1
  exact zy (h.k_ j i _ hj (List.getElem?_eq_getElem (by rw [<- h.cl];exact hj2)))
theorem InR.fresh {g:List (Key × PV)} {n:Nat} (h:InR g n):getD g (.inl (n:Nat))=none:=by
 cases hg:getD g (.inl (n:Nat)) with
 | none=>rfl
 | some v =>
  obtain ⟨k,hk,e⟩:=h.2 _ (zbt hg)
  simp at e
  omega
end
end Mp
namespace Mp
open PySem L2
theorem zjf {α:Type} {xs:List α} {k:Nat} {x:α} (h:xs[k]? = some x):atI xs ((k:Nat):Int)=some x:=by
 have hl:=(List.getElem?_eq_some_iff.mp h).1
 simp only [atI,ixN]
 rw [if_pos (by omega),if_pos (by omega),Option.bind_some,Int.toNat_natCast,h]
theorem ziB {M:Mm} {o:Nat} {A:OA} {S:LS} (h:OwAt M o A S) {k:Nat} {e:En} (he:S.es[k]? = some e):zas M (.ref A.r) (.int (k:Nat))=some (rowP e):=by
 simp only [zas,h.r_]
 exact zjf (by rw [List.getElem?_map,he];rfl)
end Mp
namespace Mp
open PySem L2
def LS.dd (S:LS):Ev->LS
 | .put k v=>S.add k (.int v)
 | .drop k=>S.add k .non
 | .join r=>S.seat r (.int 0) []
 | .read r u=>(match getD S.pl (.inl r) with | some (.int b)=>S.seat r (.int u) (S.rt r b u) | _=>S)
 | .save r=>(match getD S.pl (.inl r) with | some v=>S.sv v (S.tabOf (.inl r)) | none=>S)
 | .load r c=>(match S.co[c]? with | some q=>S.seat r q.1 q.2 | none=>S)
 | .wait=>S
theorem dd_go {S:LS} {e:Ev} (h:S.can e=true):S.do_ e=(S.dd e).go:=by
 cases e with
 | read r u =>
  simp only [LS.can,LS.do_,LS.dd] at h ⊢
  cases hg:getD S.pl (.inl r) with
  | none=>rw [hg] at h;simp at h
  | some v=>rw [hg] at h;cases v<;>first | rfl | (simp at h)
 | save r =>
  simp only [LS.can,LS.do_,LS.dd] at h ⊢
  cases hg:getD S.pl (.inl r) with
  | none=>rw [hg] at h;simp at h
  | some v=>rfl
 | load r c =>
  simp only [LS.can,LS.do_,LS.dd,Bool.and_eq_true,decide_eq_true_eq] at h ⊢
  rw [List.getElem?_eq_getElem h.1]
 | _=>rfl
end Mp
namespace Mp
open PySem L2
def LS.sq (S0:LS) (F:Nat->List Nat) (es:List Dr.Ev):Nat->LS
 | 0=>S0
 | t+1=>match es[t]? with
  | some e=>((LS.sq S0 F es t).swl (atT F t)).do_ (cv e)
  | none=>LS.sq S0 F es t
theorem zkF {S:LS} (w:WF S) (k:Key):(S.tabOf k).length<1000:=by
 unfold LS.tabOf
 cases h:S.tb.find? fun q=>decide (q.1=k) with
 | none=>simp
 | some q=>exact w.td q (List.mem_of_find?_eq_some h)
theorem WF.dd {S:LS} (w:WF S) {e:Ev} (hc:S.can e=true):WF (S.dd e):=by
 cases e with
 | put k v=>simp only [LS.can,decide_eq_true_eq] at hc;exact w.add (.inr ⟨v,rfl⟩) (by omega)
 | drop k=>simp only [LS.can,decide_eq_true_eq] at hc;exact w.add (.inl rfl) (by omega)
 | join r=>simp only [LS.can,decide_eq_true_eq] at hc;exact w.seat ⟨0,rfl⟩ (by simp) (by omega)
 | read r u =>
  simp only [LS.can,Bool.and_eq_true,decide_eq_true_eq] at hc
  obtain ⟨⟨⟨hc1,hc2⟩,hc3⟩,hc4⟩:=hc
  simp only [LS.dd]
  split
  ·rename_i b hb
   refine w.seat ⟨u,rfl⟩ ?_ (by omega)
   have h1:=ziZ (S.rows b u) (S.tabOf (.inl r))
   have h2:=rows_len S b u
   show ((S.rows b u).foldl upd1 (S.tabOf (.inl r))).length<1000
   omega
  ·exact w
 | save r =>
  simp only [LS.can,Bool.and_eq_true,decide_eq_true_eq] at hc
  simp only [LS.dd]
  split
  ·rename_i v hv
   exact w.sv (w.pv _ (zbt hv)) (zkF w _) (by omega)
  ·exact w
 | load r c =>
  simp only [LS.can,Bool.and_eq_true,decide_eq_true_eq] at hc
  simp only [LS.dd]
  split
  ·rename_i q hq
   have hm:=List.mem_of_getElem? hq
   exact w.seat (w.cv q hm) (w.kd q hm) (by omega)
  ·exact w
 | wait=>exact w
structure SqOk (hold:Int) (gs:List PV) (S:LS) (ws:Dr.Ws) (t:Nat):Prop where
 st:St S ws
 wk:Dr.WsOk ws t
 wf:WF S
 ho:S.hold=hold
 gu:S.gs=gs
 ti:S.tm=(t:Int)
theorem SqOk.sws {hold:Int} {gs:List PV} {S:LS} {ws:Dr.Ws} {t p:Nat} (h:SqOk hold gs S ws t) (hp:p<=S.es.length):SqOk hold gs (S.sws p) ws t :=
 ⟨h.st.sws hp,h.wk,h.wf.sws p,h.ho,h.gu,h.ti⟩
theorem SqOk.swl {hold:Int} {gs:List PV} {ws:Dr.Ws} {t:Nat} {S:LS} {l:List (Int × Nat)} (h:SqOk hold gs S ws t) (hl:∀ q∈l,q.2<=S.es.length):SqOk hold gs (S.swl l) ws t :=
 zkH (P:=fun S=>SqOk hold gs S ws t) (fun S p a hp=>a.sws hp) h hl
theorem dd_same (S:LS) (e:Ev):(S.dd e).hold=S.hold/\(S.dd e).gs=S.gs/\(S.dd e).tm=S.tm:=by
 cases e with
 | put k v=>exact ⟨rfl,rfl,rfl⟩
 | drop k=>exact ⟨rfl,rfl,rfl⟩
 | join r=>exact ⟨rfl,rfl,rfl⟩
 | wait=>exact ⟨rfl,rfl,rfl⟩
 | read r u=>simp only [LS.dd];split<;>exact ⟨rfl,rfl,rfl⟩
 | save r=>simp only [LS.dd];split<;>exact ⟨rfl,rfl,rfl⟩
 | load r c=>simp only [LS.dd];split<;>exact ⟨rfl,rfl,rfl⟩
theorem SqOk.do_ {hold:Int} {gs:List PV} {S:LS} {ws ws':Dr.Ws} {t:Nat} {e:Dr.Ev} (h:SqOk hold gs S ws t) (ht:t<200) (ho:Dr.EvOk e) (hs:ws.step e=some ws') (hm:ws.many<=26):S.can (cv e)=true/\SqOk hold gs (S.do_ (cv e)) ws' (t+1):=by
 have hc:=can_ok h.st h.wk (by omega) ho hs hm
 obtain ⟨d1,d2,d3⟩:=dd_same S (cv e)
 refine ⟨hc,h.st.do_ ho hs,Dr.step_ok h.wk ho hs,?_,?_,?_,?_⟩
 ·rw [dd_go hc];exact (h.wf.dd hc).go
 ·rw [dd_go hc];exact d1.trans h.ho
 ·rw [dd_go hc];exact d2.trans h.gu
 ·rw [dd_go hc]
  show (S.dd (cv e)).tm+1=_
  rw [d3,h.ti];omega
def FOkG (es:List Dr.Ev) (F:Nat->List Nat):Prop:=∀ t,t<=es.length->∀ p∈F t,p<=zdc es t
end Mp
namespace Mp
open PySem L2
theorem Bx.lt' {M:Mm} {b:Nat} {k:Int} (B:Bx M b k):b<M.length:=by
 obtain ⟨d,s,c,h,_⟩:=B
 exact zy h
def HMy (cf:CF):Prop:=∀ (M:Mm) (es:List Dr.Ev) (t:Nat),es.length<1000->∃ M',cf zcQ [.tup (es.map Dr.Ev.pv),.int (t:Nat)] M=some (.int (zdc es t:Nat),M')/\Frm [] M M'
def zla:PV->Bool
 | .tup (.str w::_)=>decide (w = "put") || decide (w = "drop")
 | _=>false
theorem zk9 (e:Dr.Ev):zla e.pv=(cv e).ent:=by cases e<;>simp [Dr.Ev.pv,zla,cv,Ev.ent,zaa]
theorem my_ok (cf:CF) {M:Mm} {es:List Dr.Ev} {t:Nat} (hl:es.length<1000):∃ M',zL cf zcz [.tup (es.map Dr.Ev.pv),.int (t:Nat)] M=some (.int (zdc es t:Nat),M')/\Frm [] M M':=by
 let sg0:Sg:=[some (.tup (es.map Dr.Ev.pv)),some (.int (t:Nat)),none]
 have hI:evI cf (.seq (.slc false true (.var 0) (.con .non) (.var 1))) sg0 M=some (.tup ((es.map Dr.Ev.pv).take t),M):=by
  rw [evI,e_slc (q:=some (.tup ((es.map Dr.Ev.pv).take t),M)) (zU (v:=.tup (es.map Dr.Ev.pv)) rfl) zaB (zU (v:=.int (t:Nat)) rfl) (by simp [zhD,zgV,cut_hi])]
  rfl
 have e1:=zfs (cf:=cf) (own:=[2]) (t:=.name 2) (c:=zhv) (e:=.var 2) (sg:=sg0) (xs:=(es.map Dr.Ev.pv).take t) zla id hI
  (by intro acc i;rfl) (by simp;omega)
  (by
   intro x hx acc
   obtain ⟨e,_,rfl⟩:=List.mem_map.mp (List.mem_of_mem_take hx)
   refine ⟨[some (.tup (es.map Dr.Ev.pv)),some (.int (t:Nat)),some e.pv],rfl,?_,fun _=>zU rfl⟩
   rw [zk9]
   obtain ⟨l,hw⟩:=wd_at e
   refine zha (zia (zU (v:=e.pv) rfl) zaB (z:=.str e.wd) (by rw [hw];exact at0)) (zjN (zP zaB (zae zaB)) (by simp)) ?_
   refine in2.trans ?_
   cases e<;>rfl)
 have hlen:(((es.map Dr.Ev.pv).take t).filter zla).length=zdc es t:=by
  unfold zdc
  rw [<- List.map_take,List.filter_map,List.length_map]
  exact congrArg List.length (List.filter_congr fun e _=>zk9 e)
 refine ⟨_,zeF rfl (zgL (zdg (zae e1) (q:=some (.int (zdc es t:Nat),M++[Ob.lst ((((es.map Dr.Ev.pv).take t).filter zla).map id)])) ?_)),.app⟩
 simp [zJ,hlen]
theorem hmy (j:Nat):HMy (cfN tab (j+1)):=fun M es t h=>my_ok (cfN tab j) h
theorem swG_succ (n:Nat) (F:Nat->List Nat):swG 0 (n+1) F=swG 0 n F++atT F n:=by
 unfold swG atT
 rw [List.range'_concat]
 simp
theorem zkK (n:Nat) {F G:Nat->List Nat} (h:∀ j,j<n->F j=G j):swG 0 n F=swG 0 n G:=by
 unfold swG
 congr 1
 refine List.map_congr_left fun j hj=>?_
 rw [h j (by have:=List.mem_range'_1.mp hj;omega)]
theorem manyD_le (es:List Dr.Ev) (t:Nat):zdc es t<=es.length:=by
 unfold zdc
 refine Nat.le_trans (List.length_filter_le _ _) ?_
 rw [List.length_take]
 omega
def HBr (cf:CF):Prop:=∀ (M:Mm) (b:Nat) (k:Int) (es:List Dr.Ev),Bx M b k->k<1000000->es.length<=52->∃ (F:Nat->List Nat) (M':Mm),cf zb2 [.ref b,.tup (es.map Dr.Ev.pv)] M=some (.tup ((swG 0 (es.length+1) F).map swP),M')/\FOkG es F/\(swG 0 (es.length+1) F).length<=106/\Frm [b] M M'/\Bx M' b (k+200)
theorem broom_ok {cf:CF} (T:HT cf) (O:Dr.HO cf) (Y:HMy cf) {M:Mm} {b:Nat} {k:Int} {es:List Dr.Ev} (B:Bx M b k) (hk:k<1000000) (hl:es.length<=52):∃ (F:Nat->List Nat) (M':Mm),zL cf zaw [.ref b,.tup (es.map Dr.Ev.pv)] M=some (.tup ((swG 0 (es.length+1) F).map swP),M')/\FOkG es F/\(swG 0 (es.length+1) F).length<=106/\Frm [b] M M'/\Bx M' b (k+200):=by
 have hb:=B.lt'
 let sg:Option PV->Option PV->Option PV->Sg:=fun x2 x3 x4=>[some (.ref b),some (.tup (es.map Dr.Ev.pv)),x2,x3,x4]
 obtain ⟨nf,hnf⟩:∃ nf,nf=M.length:=⟨_,rfl⟩
 have gf0:(M++[Ob.lst []])[nf]? = some (.lst []):=by rw [hnf];exact za5
 let I:Nat->Sg->Mm->Prop:=fun t s N=>(∃ x3 x4,s=sg (some (.ref nf)) x3 x4)/\(∃ F:Nat->List Nat,N[nf]? = some (.lst ((swG 0 t F).map swP))/\(∀ j,j<t->∀ p∈F j,p<=zdc es j)/\(swG 0 t F).length<=2*t)/\Frm [b,nf] M N/\Bx N b (k+3*(t:Nat))
 obtain ⟨s',M',f1,⟨x3,x4,rfl⟩,⟨F,gF,hF,hFl⟩,FF,BF⟩:=zcD (src:=.rng 0 (es.length+1)) (bind:=tgP (.name 3)) (body:=fun sg M=>zM cf zbN sg M) I (n:=es.length+1) (sg:=sg (some (.ref nf)) none none) (M:=M++[Ob.lst []]) (by omega)
  ⟨⟨none,none,rfl⟩,⟨fun _=>[],gf0,fun j hj=>by omega,by simp [swG]⟩,.app,B.frm (S:=[]) .app (by simp) (by omega)⟩
  (by
   rintro t s N ht ⟨⟨x3,x4,rfl⟩,⟨F,gF,hF,hFl⟩,FF,BF⟩
   have src:(Src.rng 0 (es.length+1)).get N t=some (some (.int (t:Nat))):=by simp [Src.get,ht]
   let s1:=sg (some (.ref nf)) (some (.int (t:Nat))) x4
   have hbN:=BF.lt'
   have hnN:=zy gF
   obtain ⟨x,l,hx,e1,B1⟩:=O (N++[Ob.lst [.int 0,.int 0,.int 1,.int 1,.int 2]]) b N.length (k+3*(t:Nat)) [.int 0,.int 0,.int 1,.int 1,.int 2] (BF.frm (S:=[]) .app (by simp) (Int.le_refl _)) (by omega) za5 (by omega) (by simp) (by simp)
   obtain ⟨c,hc,hc2⟩:∃ c:Nat,x=.int (c:Nat)/\c<=2:=by
    simp only [List.mem_cons,List.not_mem_nil,or_false] at hx
    rcases hx with rfl | rfl | rfl | rfl | rfl
    ·exact ⟨0,rfl,by omega⟩
    ·exact ⟨0,rfl,by omega⟩
    ·exact ⟨1,rfl,by omega⟩
    ·exact ⟨1,rfl,by omega⟩
    ·exact ⟨2,rfl,by omega⟩
   subst hc
   have F1:Frm [b] N ((N++[Ob.lst [.int 0,.int 0,.int 1,.int 1,.int 2]]).set b (.lst l)):=Frm.trans .app (Frm.set (by simp))
   have el:evE cf (.lst (.cons (.con (.int 0)) (.cons (.con (.int 0)) (.cons (.con (.int 1)) (.cons (.con (.int 1)) (.cons (.con (.int 2)) .nil)))))) s1 N=some (.ref N.length,N++[Ob.lst [.int 0,.int 0,.int 1,.int 1,.int 2]]):=e_lst (zP zaB (zP zaB (zP zaB (zP zaB (zae zaB))))) (by simp)
   generalize (N++[Ob.lst [.int 0,.int 0,.int 1,.int 1,.int 2]]).set b (.lst l)=N1 at *
   have hbf:b≠nf:=by omega
   have gF1:=F1.get gF (ni1 hbf.symm)
   have hI:evI cf (.rng1 (.call zcB (.cons (.var 0) (.cons (.lst (.cons (.con (.int 0)) (.cons (.con (.int 0)) (.cons (.con (.int 1)) (.cons (.con (.int 1)) (.cons (.con (.int 2)) .nil)))))) .nil)))) s1 N=some (.rng 0 c,N1):=by
    rw [evI,zd3 (zP (zU (v:=.ref b) rfl) (zae el)) e1]
    have:zbQ ((c:Nat):Int)=true:=by simp [zbQ];omega
    simp only [this,if_true,Int.toNat_natCast]
   let J:Nat->Sg->Mm->Prop:=fun i s Q=>(∃ x4,s=sg (some (.ref nf)) (some (.int (t:Nat))) x4)/\(∃ l:List Nat,l.length=i/\Q[nf]? = some (.lst ((swG 0 t F).map swP++l.map fun p=>swP ((t:Nat),p)))/\∀ p∈l,p<=zdc es t)/\Frm [b,nf] N1 Q/\Bx Q b (k+3*(t:Nat)+1+(i:Nat))
   obtain ⟨s2,N2,f2,⟨y4,rfl⟩,⟨l',hl',g2,hp⟩,F2,B2⟩:=zcD (src:=.rng 0 c) (bind:=tgP (.name 4)) (body:=fun sg M=>zM cf zbO sg M) J (n:=c) (sg:=s1) (M:=N1) (by omega)
    ⟨⟨x4,rfl⟩,⟨[],rfl,by simpa using gF1,by simp⟩,.refl,by simpa using B1⟩
    (by
     rintro i s Q hi ⟨⟨x4,rfl⟩,⟨l',hl',g2,hp⟩,F2,B2⟩
     obtain ⟨Q1,e3,F3⟩:=Y Q es t (by omega)
     have hmd:=manyD_le es t
     obtain ⟨r,lr,r0,r1,e4,B4⟩:=T Q1 b (k+3*(t:Nat)+1+(i:Nat)) ((zdc es t:Nat)+1) (B2.frm F3 (by simp) (Int.le_refl _)) (by omega) (by omega) (by omega)
     have g3:(Q1.set b (.lst lr))[nf]? = some (.lst ((swG 0 t F).map swP++l'.map fun p=>swP ((t:Nat),p))):=by
      rw [List.getElem?_set_ne hbf];exact F3.get g2 (by simp)
     have F4:Frm [b] Q (Q1.set b (.lst lr)):=(F3.mono (by simp)).trans (Frm.set (by simp))
     generalize Q1.set b (.lst lr)=Q2 at *
     obtain ⟨p,hpe⟩:∃ p:Nat,r=(p:Nat):=⟨r.toNat,by omega⟩
     subst hpe
     let s3:=sg (some (.ref nf)) (some (.int (t:Nat))) (some (.int (0+(i:Nat))))
     have em:evE cf (.call zr (.cons (.var 0) (.cons (.bop .add (.call zcQ (.cons (.var 1) (.cons (.var 3) .nil))) (.con (.int 1))) .nil))) s3 Q=some (.int (p:Nat),Q2) :=
      zd3 (zP (zU (v:=.ref b) rfl) (zae (zhb (zd3 (zP (zU (v:=.tup (es.map Dr.Ev.pv)) rfl) (zae (zU (v:=.int (t:Nat)) rfl))) e3) zaB rfl))) e4
     have hll:(swG 0 t F).length+l'.length<=300:=by omega
     have ea:evE cf (.mth .append (.var 2) (.cons (.tup (.cons (.var 3) (.cons (.call zr (.cons (.var 0) (.cons (.bop .add (.call zcQ (.cons (.var 1) (.cons (.var 3) .nil))) (.con (.int 1))) .nil))) .nil))) .nil)) s3 Q=some (.non,Q2.set nf (.lst (((swG 0 t F).map swP++l'.map fun p=>swP ((t:Nat),p))++[swP ((t:Nat),p)]))):=by
      refine e_mth (x:=.ref nf) (zU rfl) (by simp [zds,zl,g2]) (zae (zjN (zP (zU (v:=.int (t:Nat)) rfl) (zae em)) (by simp))) ?_
      simp only [zef,zl,g3,Option.bind_some]
      rw [if_pos (by have h24:sizeLine=16777216:=rfl;simp;omega)]
      rfl
     refine ⟨.int (0+(i:Nat)),s3,s3,_,by simp [Src.get,hi],rfl,zcu (s_exp ea) zkL,⟨_,rfl⟩,⟨l'++[p],by simp [hl'],?_,?_⟩,?_,?_⟩
     ·rw [List.getElem?_set_self (zy g3)];simp
     ·intro q hq
      rcases List.mem_append.mp hq with hq | hq
      ·exact hp q hq
      ·simp at hq;subst hq;omega
     ·exact F2.trans ((F4.mono (by simp)).trans (Frm.set (by simp)))
     ·exact B4.frm (S:=[nf]) (Frm.set (by simp)) (ni1 hbf) (by omega))
    (by intro s Q _;simp [Src.get])
   have cs:evS cf (.for_ (.name 4) (.rng1 (.call zcB (.cons (.var 0) (.cons (.lst (.cons (.con (.int 0)) (.cons (.con (.int 0)) (.cons (.con (.int 1)) (.cons (.con (.int 1)) (.cons (.con (.int 2)) .nil)))))) .nil)))) zbO) s1 N=some (.nx (sg (some (.ref nf)) (some (.int (t:Nat))) y4),N2):=by rw [evS,hI];exact f2
   let G:Nat->List Nat:=fun j=>if j=t then l' else F j
   have hGt:G t=l':=by simp [G]
   have hG:swG 0 (t+1) G=swG 0 t F++l'.map fun p=>(((t:Nat):Int),p):=by
    rw [swG_succ,zkK t (G:=F) fun j hj=>by simp [G];omega]
    unfold atT
    rw [hGt]
   refine ⟨.int (t:Nat),s1,_,N2,src,rfl,zcu cs zkL,⟨_,_,rfl⟩,⟨G,?_,fun j hj p hp'=>?_,?_⟩,FF.trans ((F1.mono (by simp)).trans F2),?_⟩
   ·rw [hG,g2];simp [Function.comp_def]
   ·by_cases hjt:j=t
    ·subst hjt;rw [hGt] at hp';exact hp p hp'
    ·simp only [G,if_neg hjt] at hp';exact hF j (by omega) p hp'
   ·rw [hG];simp;omega
   ·exact B2.frm (S:=[]) .refl (by simp) (by omega))
  (by intro s N _;simp [Src.get])
 have s1:evS cf (.asg (.name 2) (.lst .nil)) (sg none none none) M=some (.nx (sg (some (.ref nf)) none none),M++[Ob.lst []]):=by rw [hnf];exact zjp (e_lst zfB (by simp)) rfl
 have hI:evI cf (.rng1 (.bop .add (.blt .len (.cons (.var 1) .nil)) (.con (.int 1)))) (sg (some (.ref nf)) none none) (M++[Ob.lst []])=some (.rng 0 (es.length+1),M++[Ob.lst []]):=by
  have e1:evE cf (.bop .add (.blt .len (.cons (.var 1) .nil)) (.con (.int 1))) (sg (some (.ref nf)) none none) (M++[Ob.lst []])=some (.int ((es.length+1:Nat):Int),M++[Ob.lst []]):=zhb (zdg (zae (zU (v:=.tup (es.map Dr.Ev.pv)) rfl)) (q:=some (.int (es.length:Nat),M++[Ob.lst []])) (by simp [zJ])) zaB rfl
  have hro:zbQ ((es.length+1:Nat):Int)=true:=by simp [zbQ];omega
  rw [evI,e1]
  simp only [hro,if_true,Int.toNat_natCast]
 have s2:evS cf (.for_ (.name 3) (.rng1 (.bop .add (.blt .len (.cons (.var 1) .nil)) (.con (.int 1)))) zbN) (sg (some (.ref nf)) none none) (M++[Ob.lst []])=some (.nx (sg (some (.ref nf)) x3 x4),M'):=by rw [evS,hI];exact f1
 refine ⟨F,M',zeF rfl (zcu s1 (zcu s2 (zgL (zdg (zae (zU (v:=.ref nf) rfl)) ?_)))),fun t ht=>hF t (by omega),by omega,?_,BF.frm (S:=[]) .refl (by simp) (by omega)⟩
 ·simp only [zJ,zl,gF,Option.map_some]
 ·exact ⟨FF.len,fun i h1 h2=>FF.at_ i (by simp at h1;simp;omega) h2⟩
theorem hbr (j:Nat):HBr (cfN tab (j+3)):=fun M b k es B hk hl=>by
 obtain ⟨F,M',e,r⟩:=broom_ok (cf:=cfN tab (j+2)) (ht (j+1)) (Dr.ho j) (hmy (j+1)) B hk hl
 exact ⟨F,M',e,r⟩
end Mp
namespace Mp.V
open PySem L2
mutual
def D.pl:D->Option PV
 | .non=>some .non
 | .bl b=>some (.bl b)
 | .int i=>some (.int i)
 | .str s=>some (.str s)
 | .cl ns=>some (.cl ns)
 | .tup xs=>(D.pls xs).map .tup
 | _=>none
def D.pls:List D->Option (List PV)
 | []=>some []
 | d::ds=>match d.pl,D.pls ds with | some v,some vs=>some (v::vs) | _,_=>none
end
section
variable {B:Nat->Prop} {M:Mm}
mutual
theorem Rp.pl:∀ {x:PV} {d:D} {v:PV},Rp B M x d->d.pl=some v->x=v
 | _,_,_,.non,e=>by simp [D.pl] at e;exact e
 | _,_,_,.bl b,e=>by simp [D.pl] at e;exact e
 | _,_,_,.int b,e=>by simp [D.pl] at e;exact e
 | _,_,_,.str b,e=>by simp [D.pl] at e;exact e
 | _,_,_,.cl b,e=>by simp [D.pl] at e;exact e
 | _,_,_,.fn a b,e=>by simp [D.pl] at e
 | _,_,_,.ptup _,e=>by simp [D.pl] at e
 | _,_,_,.tup r,e=>by
  rw [D.pl] at e
  obtain ⟨vs,h1,rfl⟩:=Option.map_eq_some_iff.mp e
  rw [Rps.pl r h1]
 | _,_,_,.lst _ _ _,e=>by simp [D.pl] at e
 | _,_,_,.dic _ _ _ _,e=>by simp [D.pl] at e
 | _,_,_,.ins _ _ _ _,e=>by simp [D.pl] at e
 | _,_,_,.slt _ _ _,e=>by simp [D.pl] at e
theorem Rps.pl:∀ {x:List PV} {d:List D} {v:List PV},Rps B M x d->D.pls d=some v->x=v
 | _,_,_,.nil,e=>by simp [D.pls] at e;exact e.symm
 | _,_,_,.cons a b,e=>by
  rw [D.pls] at e
  split at e
  ·rename_i v vs h1 h2
   cases e
   rw [Rp.pl a h1,Rps.pl b h2]
  ·cases e
end
mutual
theorem rp_pl:∀ {d:D} {v:PV},d.pl=some v->Rp B M v d
 | .non,_,e=>by simp [D.pl] at e;subst e;exact .non
 | .bl b,_,e=>by simp [D.pl] at e;subst e;exact .bl b
 | .int b,_,e=>by simp [D.pl] at e;subst e;exact .int b
 | .str b,_,e=>by simp [D.pl] at e;subst e;exact .str b
 | .cl b,_,e=>by simp [D.pl] at e;subst e;exact .cl b
 | .tup xs,_,e=>by
  rw [D.pl] at e
  obtain ⟨vs,h1,rfl⟩:=Option.map_eq_some_iff.mp e
  exact .tup (zkZ h1)
 | .fn _ _,_,e=>by simp [D.pl] at e
 | .ptup _,_,e=>by simp [D.pl] at e
 | .lst _,_,e=>by simp [D.pl] at e
 | .dic _,_,e=>by simp [D.pl] at e
 | .ins _ _,_,e=>by simp [D.pl] at e
 | .slt _ _,_,e=>by simp [D.pl] at e
theorem zkZ:∀ {d:List D} {v:List PV},D.pls d=some v->Rps B M v d
 | [],_,e=>by simp [D.pls] at e;subst e;exact .nil
 | d::ds,_,e=>by
  rw [D.pls] at e
  split at e
  ·rename_i v vs h1 h2
   cases e
   exact .cons (rp_pl h1) (zkZ h2)
  ·cases e
end
end
theorem zfW {α:Type} {f:α->D} {g:α->PV}:∀ {l:List α},(∀ a∈l,(f a).pl=some (g a))->D.pls (l.map f)=some (l.map g)
 | [],_=>by rw [List.map_nil,D.pls];rfl
 | a::l,h=>by
  rw [List.map_cons,D.pls,h a (by simp),zfW fun b hb=>h b (by simp [hb])]
  rfl
def evD:Dr.Ev->D
 | .put k v=>.tup [.str "put",.str k,.int v]
 | .drop k=>.tup [.str "drop",.str k]
 | .join r=>.tup [.str "join",.int r]
 | .read r u=>.tup [.str "read",.int r,.int u]
 | .save r=>.tup [.str "save",.int r]
 | .load r c=>.tup [.str "load",.int r,.int c]
 | .wait=>.tup [.str "wait"]
theorem evD_pl (e:Dr.Ev):(evD e).pl=some e.pv:=by cases e<;>simp [evD,D.pl,D.pls,Dr.Ev.pv]
def tbD (es:List Dr.Ev):D:=.tup (es.map evD)
theorem zkE (es:List Dr.Ev):(tbD es).pl=some (.tup (es.map Dr.Ev.pv)):=by
 rw [tbD,D.pl,zfW fun e _=>evD_pl e];rfl
def swD (q:Int × Nat):D:=.tup [.int q.1,.int q.2]
def brD (l:List (Int × Nat)):D:=.tup (l.map swD)
theorem brD_pl (l:List (Int × Nat)):(brD l).pl=some (.tup (l.map swP)):=by
 rw [brD,D.pl,zfW (g:=swP) fun q _=>by simp [swD,D.pl,D.pls,swP]];rfl
def gdD:PV->D
 | .tup [.str s,.int m]=>.tup [.str s,.int m]
 | _=>.non
def gsD (gs:List PV):D:=.tup (gs.map gdD)
theorem gsD_pl {gs:List PV} (h:∀ g∈gs,∃ (s:Str) (m:Int),g=.tup [.str s,.int m]):(gsD gs).pl=some (.tup gs):=by
 rw [gsD,D.pl,zfW (g:=id) fun q hq=>by obtain ⟨s,m,rfl⟩:=h q hq;simp [gdD,D.pl,D.pls]];simp
theorem zhI {B:Nat->Prop} {M:Mm}:∀ {ds:List D} {ws:List PV} {mss:List (List Nat)},ORs B M (ds.map .v) ws mss->Rps B M ws ds/\mss.flatten=[]
 | [],[],[],_=>⟨.nil,rfl⟩
 | d::ds,w::ws,m::ms,⟨⟨a,b⟩,c⟩=>by
  obtain ⟨h1,h2⟩:=zhI c
  exact ⟨.cons a h1,by simp [b,h2]⟩
 | [],[],_::_,h=>h.elim
 | [],_::_,_,h=>h.elim
 | _::_,[],_,h=>h.elim
 | _::_,_::_,[],h=>h.elim
theorem call_frm {cf:CF} {f:Nat} {ds:List D} {P:OT->Prop} (h:∀ (M:Mm) (X:Nat->Prop) (ws:List PV),Rps X M ws ds->(∀ n,X n->n<M.length)->∃ v M' t ns,cf f ws M=some (v,M')/\Frm [] M M'/\OR (fun n=>n∈ns\/X n) M' t v ns/\ns.Nodup/\(∀ n∈ns,M.length<=n)/\P t):Call cf f [] (ds.map .v) (fun r fin=>fin=[]/\P r):=fun M ws mss X hO nd hx hX=>by
 obtain ⟨r,hm⟩:=zhI hO
 obtain ⟨v,M',t,ns,e,F,o,nd2,nw,p⟩:=h M X ws (r.step fun n o a b=>⟨fun z=>a (.inr z),b⟩) hX
 have hno:∀ n,n∈([]:List (List Nat)).flatten->False:=by simp
 refine ⟨v,M',t,ns,[],[],[],e,rfl,trivial,o.step ⟨fun n o a b=>⟨fun z=>a (by
   rcases z with (z | z) | z
   ·exact (hno n z).elim
   ·exact .inl z
   ·exact .inr z),b⟩,fun n _ o h=>h⟩,by simpa using nd2,fun n hn z=>?_,fun n hn=>?_,fun i h1 _=>F.at_ i (by simp) h1,F.len,rfl,p⟩
 ·rcases hn with w | w
  ·exact (hno n w).elim
  ·have:=nw n w;have:=hX n z;omega
 ·rcases hn with w | w
  ·exact (hno n w).elim
  ·exact .inr (nw n w)
def BxT (t:OT) (k:Int):Prop:=∃ d s c:Int,t=.ol [.int d,.int s,.int c]/\0<=d/\0<=s/\s<2147483563/\0<=c/\c<=k
theorem BxT.mono {t:OT} {k k':Int} (h:BxT t k) (hk:k<=k'):BxT t k':=by
 obtain ⟨d,s,c,a,b,e,f,g,i⟩:=h
 exact ⟨d,s,c,a,b,e,f,g,by omega⟩
theorem bx_of {B:Nat->Prop} {M:Mm} {t:OT} {x:PV} {ns:List Nat} {k:Int} (h:OR B M t x ns) (ht:BxT t k):∃ b,x=.ref b/\ns=[b]/\Bx M b k:=by
 obtain ⟨d,s,c,rfl,h1,h2,h3,h4,h5⟩:=ht
 obtain ⟨b,xs,rfl,rfl,g,r⟩:=h
 have:xs=[.int d,.int s,.int c]:=r.pl (by simp [D.pls,D.pl])
 subst this
 exact ⟨b,rfl,rfl,d,s,c,g,h1,h2,h3,h4,h5⟩
theorem of_bx {B:Nat->Prop} {M:Mm} {b:Nat} {k:Int} (h:Bx M b k):∃ t,BxT t k/\OR B M t (.ref b) [b]:=by
 obtain ⟨d,s,c,g,h1,h2,h3,h4,h5⟩:=h
 exact ⟨.ol [.int d,.int s,.int c],⟨d,s,c,rfl,h1,h2,h3,h4,h5⟩,b,_,rfl,rfl,g,zkZ (by simp [D.pls,D.pl])⟩
theorem zes {cf:CF} {f:Nat} {t:OT} {k k':Int} {ds:List D} {P:D->Prop} (ht:BxT t k) (h:∀ (M:Mm) (b:Nat) (X:Nat->Prop) (ws:List PV),Bx M b k->Rps (fun n=>n=b\/X n) M ws ds->(∀ n,X n->n<M.length)->∃ v M' d,cf f (.ref b::ws) M=some (v,M')/\Frm [b] M M'/\Bx M' b k'/\Rp (fun n=>n=b\/X n) M' v d/\P d):Call cf f [0] (t::ds.map .v) (fun r fin=>∃ d t',r=.v d/\fin=[t']/\BxT t' k'/\P d):=fun M ws mss X hO nd hx hX=>by
 cases ws with
 | nil=>cases mss<;>exact hO.elim
 | cons w ws=>cases mss with
  | nil=>exact hO.elim
  | cons m mss =>
   obtain ⟨b,rfl,rfl,B⟩:=bx_of hO.1 ht
   obtain ⟨r,hm⟩:=zhI hO.2
   have hf:∀ n,n∈([b]::mss).flatten↔n=b:=fun n=>by simp [hm]
   obtain ⟨v,M',d,e,F,B',r',p⟩:=h M b X ws B (r.step fun n o p q=>⟨fun z=>p (z.imp (hf n).mpr id),q⟩) hX
   obtain ⟨t',h1,h2⟩:=of_bx (B:=fun n=>n=b\/X n) B'
   have hg:∀ n,(n∈([[b]]:List (List Nat)).flatten\/n∈([]:List Nat))↔n=b:=fun n=>by simp
   refine ⟨v,M',.v d,[],[t'],[.ref b],[[b]],e,rfl,⟨h2.step ⟨fun n o p q=>⟨fun z=>p (z.imp (hg n).mp id),q⟩,fun n _ o h=>h⟩,trivial⟩,⟨r'.step fun n o p q=>⟨fun z=>p (z.imp (hg n).mp id),q⟩,rfl⟩,by simp,fun n hn=>?_,fun n hn=>.inl ((hf n).mpr ((hg n).mp hn)),fun i h3 h4=>F.at_ i (fun z=>h4 ((hf i).mpr (by simpa using z))) h3,F.len,d,t',rfl,rfl,h1,p⟩
   rw [(hg n).mp hn]
   exact hx b ((hf b).mpr rfl)
theorem zcI {j:Nat} {t:OT} {k n:Int} (ht:BxT t k) (hk:k<1000000000000) (h0:0<n) (h1:n<1000000000):Call (cfN tab (j+1)) zr [0] [t,.v (.int n)] (fun r fin=>∃ d t',r=.v d/\fin=[t']/\BxT t' (k+1)/\∃ i,d=.int i/\0<=i/\i<n) :=
 zes (ds:=[.int n]) ht fun M b X ws B r hX=>by
  have:ws=[.int n]:=r.pl (by simp [D.pls,D.pl])
  subst this
  obtain ⟨i,l,i0,i1,e,B'⟩:=ht_ j M b k n B hk h0 h1
  exact ⟨_,_,.int i,e,Frm.set (by simp),B',.int i,i,rfl,i0,i1⟩
where ht_ (j:Nat):=Mp.ht j
theorem zjX {j:Nat} {t:OT} {k:Int} (ht:BxT t k) (hk:k<300000000000):Call (cfN tab (j+5)) zeU [0] [t,.v (.int 6)] (fun r fin=>∃ d t',r=.v d/\fin=[t']/\BxT t' (k+500)/\∃ es,d=tbD es/\Dr.TbF es) :=
 zes (ds:=[.int 6]) ht fun M b X ws B r hX=>by
  have:ws=[.int 6]:=r.pl (by simp [D.pls,D.pl])
  subst this
  obtain ⟨es,M',e,F,B',hT⟩:=Dr.hd j M b k B hk
  exact ⟨_,_,tbD es,e,F,B',rp_pl (zkE es),es,rfl,hT⟩
theorem zjT {j:Nat} {t:OT} {k:Int} {es:List Dr.Ev} (ht:BxT t k) (hk:k<1000000) (hl:es.length<=52):Call (cfN tab (j+2)) zeS [0] [t,.v (tbD es)] (fun r fin=>∃ d t',r=.v d/\fin=[t']/\BxT t' (k+104)/\∃ gs,d=gsD gs/\GsOk gs/\(∀ g∈gs,g∈evL es)/\gs.length<=52) :=
 zes (ds:=[tbD es]) ht fun M b X ws B r hX=>by
  have:ws=[.tup (es.map Dr.Ev.pv)]:=r.pl (by rw [D.pls,zkE];rfl)
  subst this
  obtain ⟨gs,M',e,hg,F,B',h1,h2⟩:=hwtc j M b k es B hk hl
  exact ⟨_,_,gsD gs,e,F,B',rp_pl (gsD_pl hg.2),gs,rfl,hg,h1,Nat.le_trans h2 (zlM es hl)⟩
theorem zjY {j:Nat} {t:OT} {k:Int} {es:List Dr.Ev} (ht:BxT t k) (hk:k<1000000) (hl:es.length<=52):Call (cfN tab (j+3)) zb2 [0] [t,.v (tbD es)] (fun r fin=>∃ d t',r=.v d/\fin=[t']/\BxT t' (k+200)/\∃ F,d=brD (swG 0 (es.length+1) F)/\FOkG es F/\(swG 0 (es.length+1) F).length<=106) :=
 zes (ds:=[tbD es]) ht fun M b X ws B r hX=>by
  have:ws=[.tup (es.map Dr.Ev.pv)]:=r.pl (by rw [D.pls,zkE];rfl)
  subst this
  obtain ⟨F,M',e,h1,h2,Fr,B'⟩:=hbr j M b k es B hk hl
  exact ⟨_,_,brD _,e,Fr,B',rp_pl (brD_pl _),F,rfl,h1,h2⟩
end Mp.V
namespace Mp.V
open PySem L2
theorem zdZ {A:Bool} {cf:CF} {t:Tg} {c e:E} {own:List Nat} {p:D->Bool} {F:D->D} {env:Env} (ht:∀ j∈tgI t,j∈own) (hlt:∀ j∈own,j<env.length) (ho:zdb env own=true) :
  ∀ {xs acc:List D} {Q:List D->Env->Prop},(∀ x∈xs,∃ env1,zfl t x env=some env1/\zcd env1 own=env/\HE A cf c env1 (fun u env2=>u=.v (.bl (p x))/\env2=env1)/\(p x=true->HE A cf e env1 (fun y env3=>y.toD=some (F x)/\env3=env1)))->Q (acc++(xs.filter p).map F) env->HL cf t c e own xs acc env Q
 | [],acc,Q,_,q=>l_nil ho (by simpa using q)
 | x::xs,acc,Q,h,q=>by
  obtain ⟨env1,h1,h2,h3,h4⟩:=h x (by simp)
  have hlen:=ziM.bind_len h1
  refine ziM ht hlt h1 (h3.mono fun u env2 hu=>?_)
  obtain ⟨rfl,rfl⟩:=hu
  cases hp:p x with
  | true =>
   refine .inl ⟨rfl,(h4 hp).mono fun y env3 hy=>?_⟩
   obtain ⟨k1,rfl⟩:=hy
   refine ⟨F x,k1,hlen,?_⟩
   rw [h2]
   exact zdZ ht hlt ho (fun y hy=>h y (by simp [hy])) (by rw [List.filter_cons,if_pos hp] at q;simpa using q)
  | false =>
   refine .inr ⟨rfl,hlen,?_⟩
   rw [h2]
   exact zdZ ht hlt ho (fun y hy=>h y (by simp [hy])) (by rw [List.filter_cons,if_neg (by simp [hp])] at q;exact q)
theorem zgj {α:Type} {xs:List α} {u:Nat}:zbj xs none (some (u:Int))=xs.take u:=by
 unfold zbj
 rw [HT.sIx_nat,HT.sIx_none]
 rw [List.drop_zero,Nat.sub_zero]
 by_cases h:u<=xs.length
 ·rw [Nat.min_eq_left h]
 ·rw [Nat.min_eq_right (by omega),List.take_of_length_le (Nat.le_refl _),List.take_of_length_le (by omega)]
def zcZ (d:D) (xs:List D):Prop:=d=.tup xs\/d=.lst xs
theorem zcZ.iter {d:D} {xs:List D} (h:zcZ d xs):zjF d=some xs:=by rcases h with rfl | rfl<;>rfl
theorem zcZ.len {d:D} {xs:List D} (h:zcZ d xs):zgz .len [d]=some (.int xs.length):=by rcases h with rfl | rfl<;>rfl
theorem zcZ.idx {d:D} {xs:List D} (h:zcZ d xs) (i:Int):zdh d (.int i)=atI xs i:=by rcases h with rfl | rfl<;>rfl
def entD (d:D):Bool:=match zdh d (.int 0) with | some (.str w)=>decide (w=("put" : Str)) || decide (w=("drop" : Str)) | _=>false
def EvsW (evs:List D):Prop:=∀ d∈evs,∃ w,zdh d (.int 0)=some (.str w)
def zb6 (evs:List D) (t:Nat):Nat:=((evs.take t).filter entD).length
theorem din2 {w a b:Str}:din (.str w) (.tup [.str a,.str b])=some (decide (w=a) || decide (w=b)):=by
 simp [din,zi4,D.flat,deqF]
 by_cases h1:a=w<;>by_cases h2:b=w<;>simp [h1,h2,eq_comm (a:=w)]
theorem zfG {f j:Nat} {d:D} {evs:List D} {t:Nat} (hf:tab f=some (.fn za0)) (hs:zcZ d evs) (hw:EvsW evs) (hl:evs.length<1000):Call (cfN tab (j+1)) f [] [.v d,.v (.int (t:Nat))] (fun r fin=>r=.v (.int (zb6 evs t:Nat))/\fin=[]):=by
 refine zaC (d:=za0) hf rfl (by simp) (by simp) ?_
 have key:∀ (env:Env),env=[some (.v d),some (.v (.int (t:Nat))),none]->HI false (cfN tab j) (.seq (.slc false true (.var 0) (.con .non) (.var 1))) env (fun xs env1=>xs=evs.take t/\env1=env):=by
  rintro env rfl
  rcases hs with rfl | rfl
  ·exact zdO (zo (d:=.tup (zbj evs none (some (t:Int)))) rfl ⟨_,_,rfl,rfl,zgj,rfl⟩)
  ·exact zdO (h_slcl (xs:=evs) (y:=.non) (z:=.int (t:Nat)) (ys:=zbj evs none (some (t:Int))) rfl rfl rfl rfl ⟨_,_,rfl,rfl,zgj,rfl⟩)
 refine zh (zC (A:=false) (zjI (zk (zlB (A:=false) (?_)))))
 intro sg M nss X S
 obtain ⟨s,M1,xs,env1,nss1,e1,R,Dd,rfl,rfl⟩:=key _ rfl sg M nss X S
 refine ⟨s,M1,_,_,nss1,e1,R,Dd,rfl,?_,?_⟩
 ·have:(evs.take t).length<=evs.length:=by simp;omega
  omega
 ·refine zdZ (A:=false) (p:=entD) (F:=id) (by simp [tgI]) (by simp) rfl (fun x hx=>?_) ?_
  ·obtain ⟨w,hx0⟩:=hw x (List.mem_of_mem_take hx)
   refine ⟨_,rfl,rfl,zo (d:=.bl (entD x)) ?_ ⟨rfl,rfl⟩,fun _=>zo (d:=x) rfl ⟨rfl,rfl⟩⟩
   have h1:pk [some (.v d),some (.v (.int (t:Nat))),some (.v x)] (.idx (.var 2) (.con (.int 0)))=some (.v (.str w)):=by
    simp only [pk,zb3,Option.map_some,Option.bind_some,OT.top,hx0,List.getElem?_cons_succ,List.getElem?_cons_zero]
   show pk [some (.v d),some (.v (.int (t:Nat))),some (.v x)] zcW=_
   unfold zcW
   rw [pk,h1]
   have h2:pk [some (.v d),some (.v (.int (t:Nat))),some (.v x)] (.tup (.cons (.con (.str "put")) (.cons (.con (.str "drop")) .nil)))=some (.v (.tup [.str "put",.str "drop"])):=by
    simp [pk,pks,zb3,sizeLine]
   rw [h2]
   simp only [OT.top,Option.bind_some,zcG,din2,entD,hx0,Option.map_some]
  ·exact zI ⟨[.lst _],.int (zb6 evs t:Nat),rfl,by simp [zgz,zb6],[],rfl,rfl,rfl⟩
theorem zl7 {j:Nat} {d:D} {evs:List D} {t:Nat} (hs:zcZ d evs) (hw:EvsW evs) (hl:evs.length<1000):Call (cfN tab (j+1)) zeR [] [.v d,.v (.int (t:Nat))] (fun r fin=>r=.v (.int (zb6 evs t:Nat))/\fin=[]):=zfG rfl hs hw hl
theorem zjV {j:Nat} {d:D} {evs:List D} {t:Nat} (hs:zcZ d evs) (hw:EvsW evs) (hl:evs.length<1000):Call (cfN tab (j+1)) zcQ [] [.v d,.v (.int (t:Nat))] (fun r fin=>r=.v (.int (zb6 evs t:Nat))/\fin=[]):=zfG rfl hs hw hl
end Mp.V
namespace Mp.V
open PySem L2
mutual
def D.soft:D->D
 | .tup xs=>.lst (D.softs xs)
 | .lst xs=>.lst (D.softs xs)
 | d=>d
def D.softs:List D->List D
 | []=>[]
 | d::ds=>d.soft::D.softs ds
end
theorem zeD:∀ xs:List D,D.softs xs=xs.map D.soft
 | []=>by rw [D.softs];rfl
 | x::xs=>by rw [D.softs,zeD xs];rfl
def D.ok:Nat->D->Prop
 | 0,_=>False
 | k+1,.tup xs=>xs.length<1000/\∀ x∈xs,D.ok k x
 | k+1,.lst xs=>xs.length<1000/\∀ x∈xs,D.ok k x
 | _+1,.non=>True
 | _+1,.bl _=>True
 | _+1,.int _=>True
 | _+1,.str _=>True
 | _,_=>False
def softT:D->OT
 | .tup xs=>.ol (D.softs xs)
 | .lst xs=>.ol (D.softs xs)
 | d=>.v d
theorem zkP (d:D):(softT d).toD=some d.soft:=by cases d<;>simp [softT,OT.toD,D.soft]
theorem zfH {j:Nat}:∀ {k:Nat} {d:D},D.ok k d->Call (cfN tab (j+k)) zdu [] [.v d] (fun r fin=>r=softT d/\fin=[])
 | 0,_,h=>h.elim
 | k+1,d,h=>by
  refine zaC (d:=zbx) (k:=j+k) rfl rfl (by simp) (by simp) ?_
  have seq:∀ xs:List D,zcZ d xs->xs.length<1000->(∀ x∈xs,D.ok k x)->HE false (cfN tab (j+k)) (.lc [1] (.name 1) (.seq (.var 0)) (.con (.bl true)) (.call zdu (.cons (.var 1) .nil))) [some (.v d),none] (fun t _=>t=.ol (D.softs xs)):=by
   intro xs hs hl hx
   refine zlB (A:=false) (zdO (zo (d:=d) rfl ⟨_,xs,rfl,hs.iter,rfl,by omega,?_⟩))
   refine zdZ (A:=false) (p:=fun _=>true) (F:=D.soft) (by simp [tgI]) (by simp) rfl (fun x hx'=>⟨_,rfl,rfl,zo rfl ⟨rfl,rfl⟩,fun _=>?_⟩) ?_
   ·refine zY (zag (A:=false) (zo (d:=x) rfl ⟨x,rfl,zaI ?_⟩))
    refine ⟨by simp [Ag.ix],[],_,rfl,rfl,(zfH (j:=j) (hx x hx')).mono ?_⟩
    rintro r fin ⟨rfl,rfl⟩
    exact ⟨_,rfl,zkP x,rfl⟩
   ·rw [zeD,List.filter_eq_self.mpr (by simp),List.nil_append]
  have atom:(∀ xs,¬ zcZ d xs)->disi d [.list,.tuple]=some false->HSs (cfN tab (j+k)) [] zbx.body [some (.v d),none] (retQ [] fun r fin=>r=softT d/\fin=[]):=by
   intro h1 h2
   refine zh (zC (A:=false) (zlC (zo (d:=.bl false) (by simp [pk,OT.top,h2]) (.inr ⟨rfl,zo (d:=d) rfl ⟨[],rfl,?_,rfl⟩⟩))))
   cases d<;>first | rfl | exact absurd (Or.inl rfl) (h1 _) | exact absurd (Or.inr rfl) (h1 _)
  cases d with
  | tup xs=>exact zh (zC (A:=false) (zlC (zo (d:=.bl true) (by simp [pk,OT.top,disi,disT,dty]) (.inl ⟨rfl,(seq xs (.inl rfl) h.1 h.2).mono fun t env ht=>⟨[],rfl,ht,rfl⟩⟩))))
  | lst xs=>exact zh (zC (A:=false) (zlC (zo (d:=.bl true) (by simp [pk,OT.top,disi,disT,dty]) (.inl ⟨rfl,(seq xs (.inr rfl) h.1 h.2).mono fun t env ht=>⟨[],rfl,ht,rfl⟩⟩))))
  | non=>exact atom (by intro xs z;rcases z with z | z<;>cases z) rfl
  | bl _=>exact atom (by intro xs z;rcases z with z | z<;>cases z) rfl
  | int _=>exact atom (by intro xs z;rcases z with z | z<;>cases z) rfl
  | str _=>exact atom (by intro xs z;rcases z with z | z<;>cases z) rfl
  | _=>exact h.elim
end Mp.V
namespace Mp.V
open PySem L2
theorem rps_pt {R:PV->PV->Prop} {B B':Nat->Prop} {M:Mm} {xs ys:List PV} {ds:List D} (h1:Rps B M xs ds) (h2:Rps B' M ys ds) (hl:ds.length<1000) (h:∀ d∈ds,∀ a b,Rp B M a d->Rp B' M b d->R a b):Pt R xs ys:=by
 refine ⟨by rw [h1.length];exact hl,by rw [h1.length,h2.length],fun i x y e1 e2=>?_⟩
 obtain ⟨d,k1,k2⟩:=h1.get' e1
 obtain ⟨d',k3,k4⟩:=h2.get' e2
 rw [k1] at k3;cases k3
 exact h d (List.mem_of_getElem? k1) x y k2 k4
theorem rp_sm {B B':Nat->Prop} {M:Mm}:∀ {k:Nat} {d:D} {a b:PV},D.ok k d->Rp B M a d->Rp B' M b d->Sm k M a b
 | 0,_,_,_,h,_,_=>h.elim
 | k+1,d,a,b,h,h1,h2=>by
  cases d with
  | tup ds =>
   cases h1 with | tup r1=>cases h2 with | tup r2=>exact rps_pt r1 r2 h.1 fun d hd a b p q=>rp_sm (h.2 d hd) p q
  | lst ds =>
   cases h1 with | lst _ g1 r1=>cases h2 with | lst _ g2 r2=>exact ⟨_,_,g1,g2,rps_pt r1 r2 h.1 fun d hd a b p q=>rp_sm (h.2 d hd) p q⟩
  | non=>cases h1;cases h2;trivial
  | bl _=>cases h1;cases h2;exact rfl
  | int _=>cases h1;cases h2;exact rfl
  | str _=>cases h1;cases h2;exact rfl
  | _=>exact h.elim
theorem zl6 {j:Nat} {d:D} (h:D.ok 5 d):Call (cfN tab (j+5)) zeo [] [.v d,.v d] (fun r fin=>fin=[]/\r=.v (.bl true)) :=
 call_frm (ds:=[d,d]) fun M X ws r hX=>by
  cases r with
  | cons a r=>cases r with
   | cons b r =>
    cases r
    obtain ⟨M',e,F⟩:=hs j 5 M _ _ (rp_sm h a b)
    exact ⟨.bl true,M',.v (.bl true),[],e,F,⟨.bl true,rfl⟩,by simp,by simp,rfl⟩
theorem ok_ev (e:Dr.Ev):D.ok 2 (evD e):=by cases e<;>simp [evD,D.ok]
theorem ok_tb {es:List Dr.Ev} (h:es.length<1000):D.ok 3 (tbD es):=⟨by simpa using h,fun x hx=>by obtain ⟨e,_,rfl⟩:=List.mem_map.mp hx;exact ok_ev e⟩
theorem tb_seq (es:List Dr.Ev):zcZ (tbD es) (es.map evD):=.inl rfl
theorem ev_at (e:Dr.Ev):zdh (evD e) (.int 0)=some (.str e.wd):=by cases e<;>rfl
theorem evs_at (e:Dr.Ev):zdh (evD e).soft (.int 0)=some (.str e.wd):=by cases e<;>rfl
theorem evsW (es:List Dr.Ev):EvsW (es.map evD):=fun d hd=>by obtain ⟨e,_,rfl⟩:=List.mem_map.mp hd;exact ⟨_,ev_at e⟩
theorem evsS (es:List Dr.Ev):EvsW ((es.map evD).map D.soft):=fun d hd=>by
 obtain ⟨d',hd',rfl⟩:=List.mem_map.mp hd
 obtain ⟨e,_,rfl⟩:=List.mem_map.mp hd'
 exact ⟨_,evs_at e⟩
theorem ent_e (e:Dr.Ev):entD (evD e)=(cv e).ent:=by
 simp only [entD,ev_at]
 cases e<;>simp [Dr.Ev.wd,cv,Ev.ent,zaa]
theorem ent_s (e:Dr.Ev):entD (evD e).soft=(cv e).ent:=by
 simp only [entD,evs_at]
 cases e<;>simp [Dr.Ev.wd,cv,Ev.ent,zaa]
theorem many_e (es:List Dr.Ev) (t:Nat):zb6 (es.map evD) t=zdc es t:=by
 unfold zb6 zdc
 rw [<- List.map_take,List.filter_map,List.length_map]
 exact congrArg List.length (List.filter_congr fun e _=>ent_e e)
theorem many_s (es:List Dr.Ev) (t:Nat):zb6 ((es.map evD).map D.soft) t=zdc es t:=by
 unfold zb6 zdc
 rw [<- List.map_take,<- List.map_take,List.map_map,List.filter_map,List.length_map]
 exact congrArg List.length (List.filter_congr fun e _=>ent_s e)
end Mp.V
namespace Mp.V
open PySem L2
inductive NT where
 | p (d:D) | l (xs:List NT)
mutual
def NTR (M:Mm):NT->PV->List Nat->Prop
 | .p d,x,ns=>d.pl=some x/\ns=[]
 | .l ts,x,ns=>∃ n xs ms,x=.ref n/\ns=n::ms/\M[n]? = some (.lst xs)/\zfe M ts xs ms
def zfe (M:Mm):List NT->List PV->List Nat->Prop
 | [],xs,ms=>xs=[]/\ms=[]
 | t::ts,xs,ms=>∃ x ys m1 m2,xs=x::ys/\ms=m1++m2/\NTR M t x m1/\zfe M ts ys m2
end
mutual
def NT.d:NT->D
 | .p d=>d
 | .l ts=>.lst (NT.ds ts)
def NT.ds:List NT->List D
 | []=>[]
 | t::ts=>t.d::NT.ds ts
end
section
variable {M M':Mm} {B:Nat->Prop}
mutual
theorem NTR.st:∀ {t:NT} {x:PV} {ns:List Nat},NTR M t x ns->(∀ n∈ns,M'[n]? = M[n]?)->NTR M' t x ns
 | .p _,_,_,h,_=>h
 | .l _,_,_,⟨n,xs,ms,a,b,c,d⟩,h=>by
  subst b
  exact ⟨n,xs,ms,a,rfl,(h n (by simp)).trans c,zfe.st d fun k hk=>h k (by simp [hk])⟩
theorem zfe.st:∀ {ts:List NT} {xs:List PV} {ns:List Nat},zfe M ts xs ns->(∀ n∈ns,M'[n]? = M[n]?)->zfe M' ts xs ns
 | [],_,_,h,_=>h
 | _::_,_,_,⟨x,ys,m1,m2,a,b,c,d⟩,h=>by
  subst b
  exact ⟨x,ys,m1,m2,a,rfl,NTR.st c fun k hk=>h k (by simp [hk]),zfe.st d fun k hk=>h k (by simp [hk])⟩
end
mutual
theorem NTR.lt:∀ {t:NT} {x:PV} {ns:List Nat},NTR M t x ns->∀ n∈ns,n<M.length
 | .p _,_,_,⟨_,e⟩,n,hn=>by subst e;cases hn
 | .l _,_,_,⟨m,xs,ms,_,b,c,d⟩,n,hn=>by
  subst b
  rcases List.mem_cons.mp hn with rfl | hn
  ·exact (List.getElem?_eq_some_iff.mp c).1
  ·exact zfe.lt d n hn
theorem zfe.lt:∀ {ts:List NT} {xs:List PV} {ns:List Nat},zfe M ts xs ns->∀ n∈ns,n<M.length
 | [],_,_,⟨_,e⟩,n,hn=>by subst e;cases hn
 | _::_,_,_,⟨x,ys,m1,m2,_,b,c,d⟩,n,hn=>by
  subst b
  rcases List.mem_append.mp hn with hn | hn
  ·exact NTR.lt c n hn
  ·exact zfe.lt d n hn
end
theorem zfe.plain:∀ {ds:List D} {vs:List PV},D.pls ds=some vs->zfe M (ds.map .p) vs []
 | [],vs,e=>by rw [D.pls] at e;cases e;exact ⟨rfl,rfl⟩
 | d::ds,vs,e=>by
  rw [D.pls] at e
  split at e
  ·rename_i v vs' h1 h2
   cases e
   exact ⟨v,vs',[],[],rfl,rfl,⟨h1,rfl⟩,zfe.plain h2⟩
  ·cases e
theorem zfe.len:∀ {ts:List NT} {xs:List PV} {ms:List Nat},zfe M ts xs ms->xs.length=ts.length
 | [],_,_,⟨a,_⟩=>by subst a;rfl
 | _::ts,_,_,⟨x,ys,m1,m2,a,_,_,d⟩=>by subst a;simp [zfe.len d]
theorem zfe.app:∀ {ts us:List NT} {xs ys:List PV} {ms ns:List Nat},zfe M ts xs ms->zfe M us ys ns->zfe M (ts++us) (xs++ys) (ms++ns)
 | [],_,_,_,_,_,⟨a,b⟩,h=>by subst a;subst b;exact h
 | _::ts,_,_,_,_,_,⟨x,ys,m1,m2,a,b,c,q⟩,h=>by subst a;subst b;exact ⟨x,_,m1,m2++_,rfl,by simp,c,zfe.app q h⟩
end
end Mp.V
namespace Mp
open PySem L2
abbrev Row:=Nat × Str × PV
def keyR (R:List Row) (k:Nat):Option Str:=(R[k]?).map (·.2.1)
structure Tms where
 tb:List (Int × List Nat)
 cp:List (List Nat)
def zjJ (l:List (Int × List Nat)) (r:Int):Option (List Nat):=(l.find? fun q=>decide (q.1=r)).map (·.2)
def putI (l:List (Int × List Nat)) (r:Int) (v:List Nat):List (Int × List Nat) :=
 if (l.any fun q=>decide (q.1=r))=true then l.map (fun q=>if q.1=r then (q.1,v) else q) else l++[(r,v)]
theorem getI_put {l:List (Int × List Nat)} {r r':Int} {v:List Nat}:zjJ (putI l r v) r'=if r'=r then some v else zjJ l r':=by
 unfold putI
 by_cases h:(l.any fun q=>decide (q.1=r))=true
 ·rw [if_pos h]
  induction l with
  | nil=>simp at h
  | cons q l ih =>
   unfold zjJ
   rw [List.map_cons,List.find?_cons,List.find?_cons]
   by_cases hq:q.1=r
   ·by_cases hr:r'=r
    ·subst hr;simp [hq]
    ·have h1:¬ r=r':=fun z=>hr z.symm
     have h2:¬ q.1=r':=fun z=>hr (z.symm.trans hq)
     simp only [hq,if_true,h1,h2,decide_false,hr,if_false]
     have:((l.map fun q=>if q.1=r then (q.1,v) else q).find? fun q=>decide (q.1=r'))=l.find? fun q=>decide (q.1=r'):=by
      clear ih h
      induction l with
      | nil=>rfl
      | cons a l ih =>
       rw [List.map_cons,List.find?_cons,List.find?_cons,ih]
       by_cases ha:a.1=r
       ·have:¬ a.1=r':=fun z=>hr (z.symm.trans ha)
        simp [ha,h1]
       ·simp [ha]
     rw [this]
   ·have h':(l.any fun q=>decide (q.1=r))=true:=by simpa [hq] using h
    have:=ih h'
    unfold zjJ at this
    simp only [hq,if_false]
    by_cases hr:q.1=r'
    ·have:¬ r'=r:=fun z=>hq (hr.trans z)
     simp [hr,this]
    ·simp only [hr,decide_false]
     exact this
 ·rw [if_neg h]
  unfold zjJ
  rw [List.find?_append]
  have hn:(l.find? fun q=>decide (q.1=r))=none:=by
   rw [List.find?_eq_none];intro x hx z;exact h (List.any_eq_true.mpr ⟨x,hx,z⟩)
  by_cases hr:r'=r
  ·subst hr;rw [hn];simp
  ·have h1:¬ r=r':=fun z=>hr z.symm
   rw [if_neg hr]
   cases (l.find? fun q=>decide (q.1=r')) with
   | none=>simp [h1]
   | some a=>simp
def Tms.step (X:Tms) (t:Nat):Dr.Ev->Tms
 | .join r=>{ X with tb:=putI X.tb r [] }
 | .read r u=>let old:=(zjJ X.tb r).getD [];{ X with tb:=putI X.tb r (old++List.replicate (u-(old.length:Int)).toNat t) }
 | .save r=>{ X with cp:=X.cp++[(zjJ X.tb r).getD []] }
 | .load r c=>{ X with tb:=putI X.tb r ((X.cp[c.toNat]?).getD []) }
 | _=>X
structure TmW (X:Tms) (ws:Dr.Ws):Prop where
 pl:∀ r:Int,getD ws.seats (.inl r)=(zjJ X.tb r).map fun l=>.int l.length
 cp:ws.copies=X.cp.map fun l=>PV.int l.length
def TmCan (X:Tms):Dr.Ev->Prop
 | .read r u=>∃ l,zjJ X.tb r=some l/\(l.length:Int)<=u/\u<1000
 | .save r=>∃ l,zjJ X.tb r=some l
 | .load _ c=>0<=c/\∃ l,X.cp[c.toNat]? = some l
 | _=>True
theorem zjK {kvs:List (Key × PV)} {k k':Key} {v:PV} (h:k'≠k):getD (zaH kvs k v) k'=getD kvs k':=zbh h
theorem TmW.put {X:Tms} {ws:Dr.Ws} (h:TmW X ws) (r:Int) (l:List Nat):TmW { X with tb:=putI X.tb r l } { ws with seats:=zaH ws.seats (.inl r) (.int l.length) }:=⟨fun r'=>by
  show getD (zaH ws.seats _ _) _=(zjJ (putI X.tb r l) r').map _
  rw [getI_put]
  by_cases e:r'=r
  ·subst e;rw [if_pos rfl];exact zcC
  ·rw [if_neg e,zjK (fun z=>e (by injection z))];exact h.pl r',h.cp⟩
theorem TmW.step {X:Tms} {ws ws':Dr.Ws} {t n:Nat} {e:Dr.Ev} (h:TmW X ws) (ho:Dr.EvOk e) (hw:Dr.WsOk ws n) (hn:n<900) (hs:ws.step e=some ws'):TmCan X e/\TmW (X.step t e) ws':=by
 cases e with
 | put k v=>cases hs;exact ⟨trivial,h.pl,h.cp⟩
 | drop k=>cases hs;exact ⟨trivial,h.pl,h.cp⟩
 | wait=>cases hs;exact ⟨trivial,h⟩
 | join r=>cases hs;exact ⟨trivial,h.put r []⟩
 | read r u =>
  obtain ⟨⟨b,h1,h2,h3⟩,rfl⟩:=Dr.step_read hs
  have hm:=hw.m1
  have hp:=h.pl r
  rw [h1] at hp
  cases hx:zjJ X.tb r with
  | none=>rw [hx] at hp;cases hp
  | some l =>
   rw [hx] at hp
   have hb:b=l.length:=by simpa using hp
   refine ⟨⟨l,hx,by omega,by omega⟩,?_⟩
   have:=h.put r (l++List.replicate (u-(l.length:Int)).toNat t)
   have e1:((l++List.replicate (u-(l.length:Int)).toNat t).length:Int)=u:=by simp;omega
   rw [e1] at this
   simp only [Tms.step,hx,Option.getD_some]
   exact this
 | save r =>
  obtain ⟨v,h1,rfl⟩:=Option.map_eq_some_iff.mp hs
  have hp:=h.pl r
  rw [h1] at hp
  cases hx:zjJ X.tb r with
  | none=>rw [hx] at hp;cases hp
  | some l =>
   rw [hx] at hp
   have hv:v=.int l.length:=by simpa using hp
   refine ⟨⟨l,hx⟩,h.pl,?_⟩
   show ws.copies++[v]=_
   simp only [Tms.step,hx,Option.getD_some,List.map_append,h.cp,hv]
   rfl
 | load r c =>
  obtain ⟨v,h1,rfl⟩:=Option.map_eq_some_iff.mp hs
  have hc:0<=c:=ho.2.2
  have h2:ws.copies[c.toNat]? = some v:=by
   unfold atI ixN at h1
   rw [if_pos hc] at h1
   split at h1
   ·simpa using h1
   ·simp at h1
  rw [h.cp,List.getElem?_map] at h2
  obtain ⟨l,h3,h4⟩:=Option.map_eq_some_iff.mp h2
  refine ⟨⟨hc,l,h3⟩,?_⟩
  subst h4
  have:=h.put r l
  simp only [Tms.step,h3,Option.getD_some]
  exact this
end Mp
namespace Mp.V
open PySem L2
theorem callv {cf:CF} {f:Nat} {ds:List D} {env:Env} {Q:OT->Env->Prop} {P:OT->Prop} (h:Call cf f [] (ds.map .v) (fun r fin=>fin=[]/\P r)) (q:∀ r,P r->Q r env):zl9 cf f (ds.map .val) env Q:=by
 have h1':∀ l:List D,Ag.ix (l.map .val)=[]:=fun l=>by
  induction l with
  | nil=>rfl
  | cons _ _ ih=>exact ih
 have h1:=h1' ds
 have h2:∀ (l:List D) (k:Nat),Ag.pos (l.map .val) k=[]:=fun l=>by
  induction l with
  | nil=>intro k;rfl
  | cons _ _ ih=>intro k;exact ih (k+1)
 have h3:∀ l:List D,Ag.mk (l.map .val) []=some (l.map .v):=fun l=>by
  induction l with
  | nil=>rfl
  | cons d l ih=>show (Ag.mk (l.map .val) []).map (OT.v d :: ·)=_;rw [ih];rfl
 refine ⟨by rw [h1];simp,[],ds.map .v,by rw [h1];rfl,h3 ds,?_⟩
 rw [h2]
 refine h.mono fun r fin z=>?_
 obtain ⟨rfl,z⟩:=z
 exact ⟨env,by rw [h1];rfl,q r z⟩
theorem swap {cf:CF} {f:Nat} {args:List OT} {P:OT->Prop} (h:Call cf f [] args (fun r fin=>P r/\fin=[])):Call cf f [] args (fun r fin=>fin=[]/\P r):=h.mono fun _ _ z=>⟨z.2,z.1⟩
theorem zmh:∀ l:List D,Ag.ix (l.map .val)=[]/\(∀ k:Nat,Ag.pos (l.map .val) k=[])/\Ag.mk (l.map .val) []=some (l.map .v)
 | []=>⟨rfl,fun _=>rfl,rfl⟩
 | d::l=>by
  obtain ⟨a,b,c⟩:=zmh l
  exact ⟨a,fun k=>b (k+1),by show (Ag.mk (l.map .val) []).map (OT.v d :: ·)=_;rw [c];rfl⟩
theorem zeg {cf:CF} {f i:Nat} {ds:List D} {t0:OT} {env:Env} {Q:OT->Env->Prop} {P:OT->OT->Prop} (hi:env[i]? = some (some t0)) (h:Call cf f [0] (t0::ds.map .v) (fun r fin=>∃ t',fin=[t']/\P r t')) (q:∀ r t',P r t'->Q r (env.set i (some t'))):zl9 cf f (.io i::ds.map .val) env Q:=by
 obtain ⟨h1,h2,h3⟩:=zmh ds
 have e1:Ag.ix (.io i::ds.map .val)=[i]:=by show i::Ag.ix (ds.map .val)=[i];rw [h1]
 have e2:Ag.pos (.io i::ds.map .val) 0=[0]:=by show 0::Ag.pos (ds.map .val) 1=[0];rw [h2 1]
 refine ⟨by rw [e1];simp,[t0],t0::ds.map .v,by rw [e1];simp [zke,hi],by show (Ag.mk (ds.map .val) []).map (t0 :: ·)=_;rw [h3];rfl,?_⟩
 rw [e2]
 refine h.mono fun r fin z=>?_
 obtain ⟨t',rfl,z⟩:=z
 exact ⟨env.set i (some t'),by rw [e1];simp [zcd,setE],q r t' z⟩
theorem one {cf:CF} {f:Nat} {args:List OT} {t' r0:OT} (h:Call cf f [0] args (fun r fin=>fin=[t']/\r=r0)):Call cf f [0] args (fun r fin=>∃ t2,fin=[t2]/\(t2=t'/\r=r0)):=h.mono fun r fin z=>⟨t',z.1,rfl,z.2⟩
theorem cb {cf:CF} {f:Nat} {io:List Nat} {args:List OT} {P:D->OT->Prop} (h:Call cf f io args (fun r fin=>∃ d t',r=.v d/\fin=[t']/\P d t')):Call cf f io args (fun r fin=>∃ t',fin=[t']/\∃ d,r=.v d/\P d t'):=h.mono fun r fin z=>by
 obtain ⟨d,t',a,b,c⟩:=z
 exact ⟨t',b,d,a,c⟩
theorem w_free {cf:CF} {K:List Nat} {ss:Ss} {env:Env} {Q:Flo->Env->Prop} {i:Nat} {t:OT} {d:D} (h:env[i]? = some (some t)) (hd:t.toD=some d) (q:HSs cf K ss (env.set i (some (.v d))) Q):HSs cf K ss env Q:=fun sg M nss X S=>by
 obtain ⟨v,M1,t1,ns,env1,nss1,e1,R,rfl,rfl⟩:=(zlD (cf:=cf) h hd (Q:=fun t e=>t=.v d/\e=env.set i (some (.v d))) ⟨rfl,rfl⟩) sg M nss X S
 have e2:M1=M:=by
  simp only [evE] at e1
  split at e1
  ·cases e1;rfl
  ·cases e1
 subst e2
 have R0:=zgM (K:=K) R
 obtain ⟨fl,M',o,sg',env',nss',ns',e3,R2,f,q2⟩:=q sg M1 nss1 X R0.nil
 exact ⟨fl,M',o,sg',env',nss',ns',e3,R0.seq R2,f,q2⟩
def vD:PV->D
 | .int i=>.int i
 | _=>.non
theorem app_ok {xs:List D} {d:D} (h:xs.length<1000):zlQ .append xs [d]=some (.non,xs++[d]):=by
 simp only [zlQ];rw [if_pos (by omega)]
def evS (s:Bool) (e:Dr.Ev):D:=if s then (evD e).soft else evD e
def tbS (s:Bool) (es:List Dr.Ev):D:=if s then .lst (es.map (evS true)) else .tup (es.map (evS false))
theorem tbS_t (es:List Dr.Ev):tbS true es=(tbD es).soft:=by
 rw [tbD,D.soft,zeD,List.map_map];rfl
theorem zfP (s:Bool) (es:List Dr.Ev):zjF (tbS s es)=some (es.map (evS s)):=by cases s<;>rfl
theorem evS_seq (s:Bool) (e:Dr.Ev):∃ xs,evD e=.tup xs/\zcZ (evS s e) xs/\1<=xs.length:=by
 cases s with
 | false=>cases e<;>exact ⟨_,rfl,.inl rfl,by simp⟩
 | true=>cases e<;>exact ⟨_,rfl,.inr rfl,by simp⟩
theorem zlL (s:Bool) (e:Dr.Ev) (i:Int):zdh (evS s e) (.int i)=zdh (evD e) (.int i):=by
 obtain ⟨xs,h1,h2,_⟩:=evS_seq s e
 rw [h2.idx,h1];rfl
theorem ev_0 (s:Bool) (e:Dr.Ev):zdh (evS s e) (.int 0)=some (.str e.wd):=by rw [zlL];exact ev_at e
theorem ev_j1 (s:Bool) (r:Int):zdh (evS s (.join r)) (.int 1)=some (.int r):=by rw [zlL];rfl
theorem ev_l1 (s:Bool) (r c:Int):zdh (evS s (.load r c)) (.int 1)=some (.int r):=by rw [zlL];rfl
end Mp.V
namespace Mp.V
open PySem L2
def D.st:D->Prop
 | .str s=>PyData.canLay0 (.str s)=true
 | .tup xs=>D.sts xs
 | .lst xs=>D.sts xs
 | _=>True
where D.sts:List D->Prop
 | []=>True
 | d::ds=>D.st d/\D.sts ds
end Mp.V
namespace Mp.V
open PySem L2
theorem zfV (l:List (Int × List Nat)) (r:Int) (v:List Nat):(putI l r v).length<=l.length+1:=by
 unfold putI
 split<;>simp
structure TmOk (X:Tms) (n:Nat):Prop where
 tl:X.tb.length<=n
 cl:X.cp.length<=n
theorem TmOk.step {X:Tms} {n t:Nat} (h:TmOk X n) (e:Dr.Ev):TmOk (X.step t e) (n+1):=by
 have h1:=h.tl
 have h2:=h.cl
 cases e with
 | join r=>exact ⟨Nat.le_trans (zfV _ _ _) (by omega),by show X.cp.length<=_;omega⟩
 | read r u=>exact ⟨Nat.le_trans (zfV _ _ _) (by omega),by show X.cp.length<=_;omega⟩
 | load r c=>exact ⟨Nat.le_trans (zfV _ _ _) (by omega),by show X.cp.length<=_;omega⟩
 | save r=>exact ⟨by show X.tb.length<=_;omega,by simp [Tms.step];omega⟩
 | _=>exact ⟨by show X.tb.length<=_;omega,by show X.cp.length<=_;omega⟩
end Mp.V
namespace Mp.V
open PySem L2
section
variable {A:Bool} {cf:CF} {K:List Nat} {env:Env} {e a o:E}
def OF.size:OF->Nat
 | .nil=>0
 | .no r=>r.size+1
 | .cons _ _ r=>r.size+1
theorem OFR.len {B:Nat->Prop} {M:Mm}:∀ {fs:OF} {vs:List (Str × PV)} {ms:List Nat},OFR B M fs vs ms->vs.length=fs.size
 | .nil,_,_,⟨a,_⟩=>by subst a;rfl
 | .no _,_,_,h=>h.elim
 | .cons _ _ _,_,_,⟨_,_,_,_,a,_,_,e⟩=>by subst a;simp [OF.size,OFR.len e]
end
end Mp.V
namespace Mp.V
open PySem L2
section
variable {A:Bool} {cf:CF} {env:Env} {t:Tg} {it:It} {c e a:E} {own:List Nat}
theorem zhO {p:D->Bool} {F:D->Int} {sg:Sg} {M:Mm} {nss:List (List Nat)} {X:Nat->Prop} (S:SR sg M env nss X) {s:Src} {all:List D} (D0:zgq (Bd nss X) M s all)
  (h:∀ x∈all,∃ env1,zfl t x env=some env1/\pk env1 c=some (.v (.bl (p x)))/\(p x=true->pk env1 e=some (.v (.int (F x))))):∀ (xs:List D) (i m:Nat) (acc:List Int),all.drop i=xs->xs.length<m->acc.length+xs.length<=60 ->
   scL s (tgP t) (fun sg M=>evE cf c sg M) (fun sg M=>evE cf e sg M) sg m i acc M=some (acc++(xs.filter p).map F,M)
 | [],i,m,acc,hd,hm,_=>by
  obtain ⟨m,rfl⟩:∃ k,m=k+1:=⟨m-1,by simp at hm;omega⟩
  have hi:all[i]? = none:=by rw [List.getElem?_eq_none_iff];exact List.drop_eq_nil_iff.mp hd
  obtain ⟨o,h1,h2⟩:=D0.get i
  rw [hi] at h2
  cases o with
  | some _=>exact h2.elim
  | none=>simp [scL,h1]
 | x::xs,i,m,acc,hd,hm,ha=>by
  obtain ⟨m,rfl⟩:∃ k,m=k+1:=⟨m-1,by simp at hm;omega⟩
  have hi:all[i]? = some x:=by rw [<- List.head?_drop,hd];rfl
  have hd2:all.drop (i+1)=xs:=by rw [<- List.drop_drop,hd];rfl
  obtain ⟨o,h1,h2⟩:=D0.get i
  rw [hi] at h2
  cases o with
  | none=>exact h2.elim
  | some v =>
   obtain ⟨env1,k1,k2,k3⟩:=h x (List.mem_of_getElem? hi)
   obtain ⟨nss1,sg1,b1,S1,_,_⟩:=zih S h2 k1
   obtain ⟨w,_,w1,⟨w2,_⟩,_⟩:=zab (cf:=cf) S1 c k2
   cases w2
   simp only [List.length_cons] at hm ha
   rw [scL,h1]
   simp only [b1,w1]
   cases hp:p x with
   | true =>
    obtain ⟨y,_,y1,⟨y2,_⟩,_⟩:=zab (cf:=cf) S1 e (k3 hp)
    cases y2
    simp only [y1]
    rw [if_pos (by omega),zhO S D0 h xs (i+1) m _ hd2 (by omega) (by simp;omega),List.filter_cons,if_pos hp]
    simp
   | false =>
    simp only []
    rw [zhO S D0 h xs (i+1) m _ hd2 (by omega) (by omega),List.filter_cons,if_neg (by simp [hp])]
theorem h_ssc {p:D->Bool} {F:D->Int} {Q:OT->Env->Prop} (h:HI A cf it env fun xs env1=>zdb env1 own=true/\xs.length<=60/\(∀ x∈xs,∃ env2,zfl t x env1=some env2/\pk env2 c=some (.v (.bl (p x)))/\(p x=true->pk env2 e=some (.v (.int (F x)))))/\Q (.ol ((usortI ((xs.filter p).map F)).map .int)) env1) :
  HE A cf (.ssc own t it c e) env Q:=fun sg M nss X S=>by
 obtain ⟨s,M1,xs,env1,nss1,e1,R,Dd,h1,h2,h3,q⟩:=h sg M nss X S
 have S1:=R.dropped
 obtain ⟨w1,w2⟩:=zfM (sg:=sg) (own:=own)
 have S2:=S1.other h1 w1 w2
 have e2:=zhO (cf:=cf) (t:=t) (c:=c) (e:=e) S2 Dd h3 xs 0 zdC [] rfl (by show xs.length<1000000;omega) (by simpa using h2)
 refine ⟨.ref M1.length,M1++[.lst ((usortI ((xs.filter p).map F)).map .int)],_,_,env1,nss1,?_,R.newL (Rps.ints _),q⟩
 rw [Mp.evE,e1]
 simp only [e2,Option.map_some,List.nil_append]
end
end Mp.V
namespace Mp
open PySem L2
def zbs (e:Dr.Ev):Bool:=match e with | .join _=>true | .load _ _=>true | _=>false
def zgu (e:Dr.Ev):Int:=match e with | .join r=>r | .load r _=>r | .read r _=>r | .save r=>r | _=>0
def rdsE (es:List Dr.Ev):List Int:=usortI ((es.filter zbs).map zgu)
def plsE (R:List Row) (k:Str):List Nat:=(List.range R.length).filter fun i=>keyR R i == some k
def lastE (R:List Row) (k:Str):Nat:=((plsE R k).getLast?).getD 0
def nonV (v:PV):Bool:=match V.vD v with
 | .non=>true
 | _=>false
def lastNon (R:List Row) (k:Str):Bool:=match R[lastE R k]? with | some r=>nonV r.2.2 | none=>false
def zi3 (R:List Row) (far:Nat) (k:Str):Bool:=lastNon R k && decide (lastE R k<far)
end Mp
namespace Mp.V
open PySem L2
theorem zh4 (e:Dr.Ev):(decide (e.wd=("join" : Str)) || decide (e.wd=("load" : Str)))=zbs e:=by
 cases e<;>simp [Dr.Ev.wd,zbs,zaa]
theorem zkq {s:Bool} {e:Dr.Ev} (h:zbs e=true):zdh (evS s e) (.int 1)=some (.int (zgu e)):=by
 cases e with
 | join r=>exact ev_j1 _ _
 | load r c=>exact ev_l1 _ _ _
 | _=>cases h
theorem in2 {env:Env} {x:E} {w a b:Str} (h:pk env x=some (.v (.str w))):pk env (.cmp .isin x (.tup (.cons (.con (.str a)) (.cons (.con (.str b)) .nil))))=some (.v (.bl (decide (w=a) || decide (w=b)))):=by
 have h2:pk env (.tup (.cons (.con (.str a)) (.cons (.con (.str b)) .nil)))=some (.v (.tup [.str a,.str b])):=by simp [pk,pks,zb3,sizeLine]
 rw [pk,h,h2]
 simp only [OT.top,Option.bind_some,zcG,din2,Option.map_some]
theorem zlK (s:Bool) (es:List Dr.Ev) {p:D->Bool} {F:D->Int} (hp:∀ e,p (evS s e)=zbs e) (hF:∀ e,zbs e=true->F (evS s e)=zgu e):((es.map (evS s)).filter p).map F=(es.filter zbs).map zgu:=by
 rw [List.filter_map,List.map_map]
 have:(p ∘ evS s)=zbs:=funext hp
 rw [this]
 exact List.map_congr_left fun e he=>hF e (List.mem_filter.mp he).2
def pJ (x:D):Bool:=match zdh x (.int 0) with | some (.str w)=>decide (w=("join" : Str)) || decide (w=("load" : Str)) | _=>false
def fJ (x:D):Int:=match zdh x (.int 1) with | some (.int r)=>r | _=>0
theorem zju (s:Bool) (e:Dr.Ev):pJ (evS s e)=zbs e:=by simp only [pJ,ev_0,zh4]
theorem fJ_ev (s:Bool) (e:Dr.Ev) (h:zbs e=true):fJ (evS s e)=zgu e:=by simp only [fJ,zkq h]
theorem zjU {j:Nat} {s:Bool} {es:List Dr.Ev} (hl:es.length<=60):Call (cfN tab (j+1)) zd0 [] [.v (tbS s es)] (fun u fin=>fin=[]/\u=.ol ((rdsE es).map .int)):=by
 refine zaC (d:=zaP) rfl rfl (by simp) (by simp) ?_
 refine zh <| zC (A:=false) <| h_ssc (p:=pJ) (F:=fJ) <| zdO <| zo (d:=tbS s es) rfl ⟨_,es.map (evS s),rfl,zfP s es,rfl,by simpa using hl,fun x hx=>?_,?_⟩
 ·obtain ⟨e,_,rfl⟩:=List.mem_map.mp hx
  refine ⟨_,rfl,?_,fun h=>?_⟩
  ·show pk [some (.v (tbS s es)),some (.v (evS s e))] zcn=_
   unfold zcn
   rw [in2 (w:=e.wd) (by simp [pk,OT.top,zb3,ev_0]),zju,zh4]
  ·rw [zju] at h
   show pk [some (.v (tbS s es)),some (.v (evS s e))] zcl=_
   unfold zcl
   simp [pk,OT.top,zb3,zkq h,fJ]
 ·rw [zlK s es (zju s) (fJ_ev s)]
  exact ⟨[],rfl,rfl,rfl⟩
theorem usortI_len : ∀ ns : List Int, (usortI ns).length ≤ ns.length
  | [] => Nat.le_refl _
  | i :: r => by
    have h : ∀ l : List Int, (insU i l).length ≤ l.length + 1 := by
      intro l
      induction l with
      | nil => simp [insU]
      | cons a l ih => unfold insU; split; · simp
                       · split <;> simp; omega
    have := h (usortI r)
    have := usortI_len r
    show (insU i (usortI r)).length ≤ _
    simp; omega
end Mp.V
namespace Mp.V
open PySem L2
def Vl:D->Prop
 | .non=>True
 | .bl _=>True
 | .int _=>True
 | .str _=>True
 | .tup _=>True
 | .lst _=>True
 | _=>False
def zkg:D->Bool
 | .int i=>decide (0<=i)
 | _=>false
def intB:D->Bool
 | .int _=>true
 | _=>false
def zi3:D->Bool
 | .tup xs=>decide (xs.length=2)
 | _=>false
theorem call_num {j:Nat} {d:D} (hd:Vl d):Call (cfN tab (j+1)) zeV [] [.v d] (fun r fin=>fin=[]/\r=.v (.bl (intB d))):=by
 refine zaC (d:=zbf) rfl rfl (by simp) (by simp) ?_
 refine zh <| zC (A:=false) <| zeX <| zc0 <| zo (d:=d) rfl ?_
 cases d with
 | int i=>exact ⟨.int i,true,rfl,rfl,.inl ⟨rfl,zcj <| zc0 <| zo (d:=.int i) rfl ⟨.int i,false,rfl,rfl,false,rfl,[],rfl,rfl,rfl⟩⟩⟩
 | bl b=>exact ⟨.bl b,true,rfl,rfl,.inl ⟨rfl,zcj <| zc0 <| zo (d:=.bl b) rfl ⟨.bl b,true,rfl,rfl,true,rfl,[],rfl,rfl,rfl⟩⟩⟩
 | non=>exact ⟨_,false,rfl,rfl,.inr ⟨rfl,[],rfl,rfl,rfl⟩⟩
 | str x=>exact ⟨_,false,rfl,rfl,.inr ⟨rfl,[],rfl,rfl,rfl⟩⟩
 | tup x=>exact ⟨_,false,rfl,rfl,.inr ⟨rfl,[],rfl,rfl,rfl⟩⟩
 | lst x=>exact ⟨_,false,rfl,rfl,.inr ⟨rfl,[],rfl,rfl,rfl⟩⟩
 | _=>exact hd.elim
theorem zjd {j:Nat} {d:D} (hd:Vl d):Call (cfN tab (j+2)) zcS [] [.v d] (fun r fin=>fin=[]/\r=.v (.bl (zkg d))):=by
 refine zaC (d:=zbL) rfl rfl (by simp) (by simp) ?_
 refine zh <| zC (A:=false) <| zeX <| zY <| zag (A:=false) <| zo (d:=d) rfl ⟨_,rfl,zaI (callv (ds:=[d]) (call_num (j:=j) hd) fun r hr=>?_)⟩
 subst hr
 cases d with
 | int i=>exact .inl ⟨rfl,zo (d:=.bl (decide (0<=i))) rfl ⟨[],rfl,rfl,rfl⟩⟩
 | bl b=>exact .inr ⟨rfl,[],rfl,rfl,rfl⟩
 | non=>exact .inr ⟨rfl,[],rfl,rfl,rfl⟩
 | str x=>exact .inr ⟨rfl,[],rfl,rfl,rfl⟩
 | tup x=>exact .inr ⟨rfl,[],rfl,rfl,rfl⟩
 | lst x=>exact .inr ⟨rfl,[],rfl,rfl,rfl⟩
 | _=>exact hd.elim
theorem zdT {j:Nat} {d:D} (hd:Vl d):Call (cfN tab (j+1)) zbV [] [.v d] (fun r fin=>fin=[]/\r=.v (.bl (zkg d))):=by
 refine zaC (d:=zaQ) rfl rfl (by simp) (by simp) ?_
 refine zh <| zC (A:=false) <| zeX <| zc0 <| zo (d:=d) rfl ?_
 cases d with
 | int i=>exact ⟨.int i,true,rfl,rfl,.inl ⟨rfl,zeX <| zcj <| zc0 <| zo (d:=.int i) rfl ⟨.int i,false,rfl,rfl,false,rfl,.inl ⟨rfl,zo (d:=.bl (decide (0<=i))) rfl ⟨[],rfl,rfl,rfl⟩⟩⟩⟩⟩
 | bl b=>exact ⟨.bl b,true,rfl,rfl,.inl ⟨rfl,zeX <| zcj <| zc0 <| zo (d:=.bl b) rfl ⟨.bl b,true,rfl,rfl,true,rfl,.inr ⟨rfl,[],rfl,rfl,rfl⟩⟩⟩⟩
 | non=>exact ⟨_,false,rfl,rfl,.inr ⟨rfl,[],rfl,rfl,rfl⟩⟩
 | str x=>exact ⟨_,false,rfl,rfl,.inr ⟨rfl,[],rfl,rfl,rfl⟩⟩
 | tup x=>exact ⟨_,false,rfl,rfl,.inr ⟨rfl,[],rfl,rfl,rfl⟩⟩
 | lst x=>exact ⟨_,false,rfl,rfl,.inr ⟨rfl,[],rfl,rfl,rfl⟩⟩
 | _=>exact hd.elim
theorem zjc {j:Nat} {d:D} (hd:Vl d):Call (cfN tab (j+1)) zdP [] [.v d] (fun r fin=>fin=[]/\r=.v (.bl (zi3 d))):=by
 refine zaC (d:=zbJ) rfl rfl (by simp) (by simp) ?_
 refine zh <| zC (A:=false) <| zeX <| zc0 <| zo (d:=d) rfl ?_
 cases d with
 | tup xs =>
  refine ⟨.tup xs,true,rfl,rfl,.inl ⟨rfl,zo (d:=.bl (decide (xs.length=2))) ?_ ⟨[],rfl,rfl,rfl⟩⟩⟩
  simp [pk,pts,OT.top,zgz,zb3,zcG,deq,zi5]
  omega
 | int x=>exact ⟨_,false,rfl,rfl,.inr ⟨rfl,[],rfl,rfl,rfl⟩⟩
 | bl x=>exact ⟨_,false,rfl,rfl,.inr ⟨rfl,[],rfl,rfl,rfl⟩⟩
 | non=>exact ⟨_,false,rfl,rfl,.inr ⟨rfl,[],rfl,rfl,rfl⟩⟩
 | str x=>exact ⟨_,false,rfl,rfl,.inr ⟨rfl,[],rfl,rfl,rfl⟩⟩
 | lst x=>exact ⟨_,false,rfl,rfl,.inr ⟨rfl,[],rfl,rfl,rfl⟩⟩
 | _=>exact hd.elim
end Mp.V
namespace Mp.V
open PySem L2
def rcB:D->Bool
 | .str x=>decide (x=("reader" : Str)) || decide (x=("copy" : Str))
 | _=>false
def zaE:D->Bool
 | .tup [a,b]=>rcB a && zkg b
 | _=>false
def Rc (d:D):Prop:=∀ x y:String,din d (.tup [.str (Str.ofString x),.str (Str.ofString y)])=some (match d with | .str z=>decide (z=Str.ofString x) || decide (z=Str.ofString y) | _=>false)
theorem zbG {d:D} (h:d.flat=true):Rc d:=fun x y=>by
 cases d<;>simp [D.flat] at h<;>simp [din,zi4,D.flat,deqF]
 rename_i z
 by_cases h1:Str.ofString x=z<;>by_cases h2:Str.ofString y=z<;>simp [h1,h2,eq_comm (a:=z)]
theorem zk5 {d:D} {e:PyData} (h0:d.flat=false) (h1:d.py=some e) (h2:PyData.depth e<20) (h3:SeqAt.shaped e=true) (h4:∀ s:Str,PyData.eqv (.str s) e=false):Rc d:=fun x y=>by
 have e1:zi4 d [.str (Str.ofString x),.str (Str.ofString y)]=none:=by simp [zi4,h0]
 have e2:dinDT d [.str (Str.ofString x),.str (Str.ofString y)]=some false:=by
  have h3':e.canLay0=true/\e.depth<=64:=by simpa [SeqAt.shaped] using h3
  simp [dinDT,h1,D.pys,D.py,h2,h4,PyData.depthAll,PyData.depth,SeqAt.shaped]
  exact ⟨h3'.1,h3'.2,by rw [PyData.canLay0];simp [PyData.canLayAll0,Mp.lay_str]⟩
 rw [din,e1]
 simp only [e2]
 cases d<;>simp [D.flat] at h0<;>rfl
def zj6 (d:D):Prop:=Vl d/\∀ a b,d=.tup [a,b]->Vl a/\Vl b/\Rc a
theorem zjW {j:Nat} {d:D} (hd:zj6 d):Call (cfN tab (j+3)) zfy [] [.v d] (fun r fin=>fin=[]/\r=.v (.bl (zaE d))):=by
 refine zaC (d:=zbK) rfl rfl (by simp) (by simp) ?_
 refine zh <| zC (A:=false) <| zeX <| zc0 <| zo (d:=d) rfl ?_
 obtain ⟨hv,hq⟩:=hd
 cases d with
 | tup xs =>
  refine ⟨.tup xs,true,rfl,rfl,.inl ⟨rfl,zeX <| zo (d:=.bl (decide (xs.length=2))) ?_ ?_⟩⟩
  ·simp [pk,pts,OT.top,zgz,zb3,zcG,deq,zi5]
   omega
  ·by_cases h2:xs.length=2
   ·obtain ⟨a,b,rfl⟩:∃ a b,xs=[a,b]:=by
     match xs,h2 with
     | [a,b],_=>exact ⟨a,b,rfl⟩
    obtain ⟨_,vb,ra⟩:=hq a b rfl
    refine .inl ⟨rfl,zeX <| zo (d:=.bl (rcB a)) ?_ ?_⟩
    ·have h1:pk [some (.v (.tup [a,b]))] (.idx (.var 0) (.con (.int 0)))=some (.v a):=rfl
     have h2:pk [some (.v (.tup [a,b]))] (.tup (.cons (.con (.str "reader")) (.cons (.con (.str "copy")) .nil)))=some (.v (.tup [.str "reader",.str "copy"])):=by simp [pk,pks,zb3,sizeLine]
     show pk [some (.v (.tup [a,b]))] _=_
     rw [pk,h1,h2]
     simp only [OT.top,Option.bind_some,zcG,ra "reader" "copy",Option.map_some]
     rfl
    ·cases hr:rcB a with
     | true =>
      refine .inl ⟨rfl,zY <| zag (A:=false) <| zo (d:=b) rfl ⟨_,rfl,zaI (callv (ds:=[b]) (zjd (j:=j) vb) fun r hr2=>?_)⟩⟩
      subst hr2
      exact ⟨[],rfl,rfl,by simp [zaE,hr]⟩
     | false=>exact .inr ⟨rfl,[],rfl,rfl,by simp [zaE,hr]⟩
   ·refine .inr ⟨by rw [decide_eq_false h2],[],rfl,rfl,?_⟩
    have:zaE (.tup xs)=false:=by
     match xs,h2 with
     | [],_=>rfl
     | [_],_=>rfl
     | [_,_],h2=>exact absurd rfl h2
     | _::_::_::_,_=>rfl
    rw [this]
 | int x=>exact ⟨_,false,rfl,rfl,.inr ⟨rfl,[],rfl,rfl,rfl⟩⟩
 | bl x=>exact ⟨_,false,rfl,rfl,.inr ⟨rfl,[],rfl,rfl,rfl⟩⟩
 | non=>exact ⟨_,false,rfl,rfl,.inr ⟨rfl,[],rfl,rfl,rfl⟩⟩
 | str x=>exact ⟨_,false,rfl,rfl,.inr ⟨rfl,[],rfl,rfl,rfl⟩⟩
 | lst x=>exact ⟨_,false,rfl,rfl,.inr ⟨rfl,[],rfl,rfl,rfl⟩⟩
 | _=>exact hv.elim
end Mp.V
namespace Mp.V
open PySem L2
section
variable {A:Bool} {cf:CF} {env:Env} {c e:E} {t:Tg} {own:List Nat} {it:It}
theorem l_blc {p:D->Bool} {Q:List D->Env->Prop} (ho:zdb env own=true) (ht:∀ j∈tgI t,j∈own) (hlt:∀ j∈own,j<env.length):∀ (xs acc:List D),
  (∀ d∈xs,∃ env1,zfl t d env=some env1/\zcd env1 own=env/\env1.length=env.length/\HE false cf c env1 fun u env2=>u=.v (.bl true)/\env2=env1/\HE false cf e env1 fun y env3=>y=.v (.bl (p d))/\env3=env1) ->
  Q (acc++xs.map fun d=>.bl (p d)) env->HL cf t c e own xs acc env Q
 | [],acc,_,q=>l_nil ho (by simpa using q)
 | d::xs,acc,h,q=>by
  obtain ⟨env1,h1,h2,h3,h4⟩:=h d (List.mem_cons_self ..)
  refine ziM (A:=false) ht hlt h1 (h4.mono fun u env2 hu=>?_)
  obtain ⟨rfl,rfl,h5⟩:=hu
  refine .inl ⟨rfl,h5.mono fun y env3 hy=>?_⟩
  obtain ⟨rfl,rfl⟩:=hy
  refine ⟨.bl (p d),rfl,h3,?_⟩
  rw [h2]
  exact l_blc ho ht hlt xs (acc++[.bl (p d)]) (fun d hd=>h d (List.mem_cons_of_mem _ hd)) (by simpa using q)
theorem zer {α:Type} (p:α->Bool):∀ xs:List α,dbls (xs.map fun d=>D.bl (p d))=some (xs.map p)
 | []=>rfl
 | x::xs=>by rw [List.map_cons,dbls,zer p xs];rfl
theorem ziV {p:D->Bool} {xs:List D} {i j:Nat} {f:Nat} {Q:OT->Env->Prop} (h1:env[i]? = some (some (.v (.tup xs)))) (h2:env[j]? = some none) (hl:xs.length<900000)
  (hf:∀ d∈xs,Call cf f [] [.v d] (fun r fin=>fin=[]/\r=.v (.bl (p d)))) (q:Q (.v (.bl (xs.all p))) env) :
  HE false cf (.blt .all (.cons (.lc [j] (.name j) (.seq (.var i)) (.con (.bl true)) (.call f (.cons (.var j) .nil))) .nil)) env Q:=by
 have hj:j<env.length:=by
  rcases Nat.lt_or_ge j env.length with h | h
  ·exact h
  ·rw [List.getElem?_eq_none h] at h2;cases h2
 have hpk:pk env (.var i)=some (.v (.tup xs)):=by simp [pk,h1]
 refine zjI <| zk <| zlB (A:=false) <| zdO <| zo (d:=.tup xs) hpk ⟨_,xs,rfl,rfl,?_,hl,l_blc (p:=p) ?_ (by simp [tgI]) (by simp;exact hj) xs [] (fun d hd=>?_) ?_⟩
 ·simp [zdb,h2]
 ·simp [zdb,h2]
 ·refine ⟨env.set j (some (.v d)),rfl,?_,by simp,zo (A:=false) (d:=.bl true) rfl ⟨rfl,rfl,zY <| zag (A:=false) <| zo (d:=d) (by simp [pk,hj]) ⟨_,rfl,zaI (callv (ds:=[d]) (hf d hd) fun r hr=>⟨hr,rfl⟩)⟩⟩⟩
  have e:env[j]=none:=by rw [List.getElem?_eq_getElem hj] at h2;exact Option.some.inj h2
  simp only [zcd,List.foldl_cons,List.foldl_nil,List.set_set]
  rw [<- e];exact List.set_getElem_self hj
 ·rw [List.nil_append]
  have e1:zgz .all [.lst (xs.map fun d=>D.bl (p d))]=some (.bl (xs.all p)):=by
   simp only [zgz,zer,Option.map_some]
   rw [List.all_map];rfl
  exact zI ⟨[.lst (xs.map fun d=>.bl (p d))],.bl (xs.all p),rfl,e1,q⟩
end
end Mp.V
namespace Mp.V
open PySem L2
def zfk:D->Bool
 | .tup [a,b]=>zkg a && zkg b
 | _=>false
theorem zhe {xs:List D} (h:xs.length=2):∃ a b,xs=[a,b]:=by
 match xs,h with
 | [a,b],_=>exact ⟨a,b,rfl⟩
theorem cntsB_no {xs:List D} (h:xs.length≠2):zfk (.tup xs)=false:=by
 match xs,h with
 | [],_=>rfl
 | [_],_=>rfl
 | [_,_],h=>exact absurd rfl h
 | _::_::_::_,_=>rfl
theorem h_part {j:Nat} {env:Env} {d:D} {Q:OT->Env->Prop} (h2:env[2]? = some (some (.v d))) (h3:env[3]? = some none) (hd:zj6 d) (q:Q (.v (.bl (!zfk d))) env) :
  HE false (cfN tab (j+2)) (.or (.not (.isi (.var 2) [.tuple])) (.or (.cmp .ne (.blt .len (.cons (.var 2) .nil)) (.con (.int 2))) (.not (.blt .all (.cons (.lc [3] (.name 3) (.seq (.var 2)) (.con (.bl true)) (.call zcS (.cons (.var 3) .nil))) .nil))))) env Q:=by
 obtain ⟨hv,hq⟩:=hd
 have hpk:pk env (.var 2)=some (.v d):=by simp [pk,h2]
 refine h_or <| zcj <| zc0 <| zo (d:=d) hpk ?_
 cases d with
 | tup xs =>
  refine ⟨.tup xs,true,rfl,rfl,true,rfl,.inl ⟨rfl,h_or <| zo (d:=.bl (decide (xs.length≠2))) ?_ ?_⟩⟩
  ·simp [pk,pks,pts,hpk,h2,OT.top,zgz,zb3,zcG,deq,zi5]
   omega
  ·by_cases hl:xs.length=2
   ·obtain ⟨a,b,rfl⟩:=zhe hl
    obtain ⟨va,vb,_⟩:=hq a b rfl
    refine .inl ⟨rfl,zcj <| ziV (p:=zkg) h2 h3 (by simp) (fun x hx=>zjd (j:=j) ?_) ⟨_,rfl,?_⟩⟩
    ·simp at hx
     rcases hx with rfl | rfl
     ·exact va
     ·exact vb
    ·simpa [zfk] using q
   ·refine .inr ⟨by simp [hl],?_⟩
    rw [cntsB_no hl] at q
    exact q
 | int x=>exact ⟨_,false,rfl,rfl,false,rfl,.inr ⟨rfl,q⟩⟩
 | bl x=>exact ⟨_,false,rfl,rfl,false,rfl,.inr ⟨rfl,q⟩⟩
 | non=>exact ⟨_,false,rfl,rfl,false,rfl,.inr ⟨rfl,q⟩⟩
 | str x=>exact ⟨_,false,rfl,rfl,false,rfl,.inr ⟨rfl,q⟩⟩
 | lst x=>exact ⟨_,false,rfl,rfl,false,rfl,.inr ⟨rfl,q⟩⟩
 | _=>exact hv.elim
end Mp.V
namespace Mp.V
open PySem L2
def swK (evs:List D):D->Bool
 | .tup [.int t,.int p]=>decide (0<=t) && decide (0<=p) && decide (t<=(evs.length:Nat)) && decide (p<=(zb6 evs t.toNat:Nat))
 | _=>false
def fsK:D->Int
 | .tup (.int t::_)=>t
 | _=>0
theorem zdS {d:D} (h:zkg d=true):∃ t:Nat,d=.int t:=by
 cases d with
 | int t=>exact ⟨t.toNat,by rw [Int.toNat_of_nonneg (of_decide_eq_true h)]⟩
 | _=>cases h
theorem cnts_inv {d:D} (h:zfk d=true):∃ t p:Nat,d=.tup [.int t,.int p]:=by
 unfold zfk at h
 split at h
 ·rename_i a b
  obtain ⟨h1,h2⟩:=Bool.and_eq_true_iff.mp h
  obtain ⟨t,rfl⟩:=zdS h1
  obtain ⟨p,rfl⟩:=zdS h2
  exact ⟨t,p,rfl⟩
 ·cases h
theorem zhL {evs:List D} {d:D} (h:zfk d=false):swK evs d=false:=by
 unfold swK
 split
 ·rename_i t p
  by_cases h1:0<=t<;>by_cases h2:0<=p<;>simp [zfk,zkg,h1,h2] at h ⊢
 ·rfl
section
variable {j:Nat} {tb thing:D} {evs:List D}
theorem zkJ (hs:zcZ tb evs) (hw:EvsW evs) (hl:evs.length<1000) {Q:Flo->Env->Prop}:∀ (ds:List D) (o:Option OT),(∀ d∈ds,zj6 d) ->
  (ds.all (swK evs)=true->∀ o',Q .nx [some (.v tb),some (.v thing),o',none,none,none])->(ds.all (swK evs)=false->∀ o',Q (.ret (.v (.bl false))) [some (.v tb),some (.v thing),o',none,none,none]) ->
  HF (cfN tab (j+2)) [] (.name 2) zea ds [some (.v tb),some (.v thing),o,none,none,none] Q
 | [],o,_,q1,_=>f_nil (q1 rfl o)
 | d::ds,o,h,q1,q2=>by
  refine zi1 (by simp) rfl <| zh <| zhC (A:=false) <| h_part (j:=j) (d:=d) rfl rfl (h d List.mem_cons_self) ?_
  cases hc:zfk d with
  | false=>exact .inl ⟨rfl,zh <| zC (A:=false) <| zo (d:=.bl false) rfl (q2 (by rw [List.all_cons,zhL hc];rfl) _)⟩
  | true =>
   obtain ⟨t,p,rfl⟩:=cnts_inv hc
   have sw:swK evs (.tup [.int t,.int p])=(decide (t<=evs.length) && decide (p<=zb6 evs t)):=by simp [swK]
   refine .inr ⟨rfl,za9 <| zh <| zhC (A:=false) <| h_or <| zjH <| zo (d:=.int t) rfl <| zjI <| zk <| zo (d:=tb) rfl <| zI ⟨[tb],.int (evs.length:Nat),rfl,hs.len,.int t,.int (evs.length:Nat),decide ((evs.length:Int)<t),rfl,rfl,rfl,?_⟩⟩
   by_cases h1:evs.length<t
   ·refine .inr ⟨by simp [h1],.inl ⟨rfl,zh <| zC (A:=false) <| zo (d:=.bl false) rfl (q2 ?_ _)⟩⟩
    rw [List.all_cons,sw,decide_eq_false (by omega:¬ t<=evs.length)];rfl
   ·refine .inl ⟨by simp [h1],zjH <| zo (d:=.int p) rfl <| zY <| zag (A:=false) <| zo (d:=tb) rfl ⟨_,rfl,zag (A:=false) <| zo (d:=.int t) rfl ⟨_,rfl,zaI (callv (ds:=[tb,.int t]) ((zl7 (j:=j+1) hs hw hl (t:=t)).mono fun r fin z=>⟨z.2,z.1⟩) fun r hr=>?_)⟩⟩⟩
    subst hr
    refine ⟨.int p,.int (zb6 evs t:Nat),decide ((zb6 evs t:Int)<p),rfl,rfl,rfl,?_⟩
    by_cases h2:zb6 evs t<p
    ·refine .inl ⟨by simp [h2],zh <| zC (A:=false) <| zo (d:=.bl false) rfl (q2 ?_ _)⟩
     rw [List.all_cons,sw,decide_eq_false (by omega:¬ p<=zb6 evs t),Bool.and_false];rfl
    ·refine .inr ⟨by simp [h2],za9 <| za9 ?_⟩
     have ok:swK evs (.tup [.int t,.int p])=true:=by rw [sw];simp;omega
     exact zkJ hs hw hl ds _ (fun d hd=>h d (List.mem_cons_of_mem _ hd)) (fun z=>q1 (by rw [List.all_cons,ok,z];rfl)) (fun z=>q2 (by rw [List.all_cons,ok,z];rfl))
end
end Mp.V
namespace Mp.V
open PySem L2
def ascF:List Int->Bool
 | []=>true
 | [_]=>true
 | a::b::r=>decide (a<=b) && ascF (b::r)
def pZk:D->Bool
 | .tup [a,b]=>decide (fsK a<=fsK b)
 | _=>false
theorem zim:∀ ds:List D,(List.zipWith (fun a b=>D.tup [a,b]) ds ds.tail).all pZk=ascF (ds.map fsK)
 | []=>rfl
 | [_]=>rfl
 | a::b::r=>by
  have:=zim (b::r)
  simp only [List.tail_cons,List.zipWith_cons_cons,List.all_cons,List.map_cons,ascF,pZk] at this ⊢
  rw [this]
theorem zw_memK {ds es:List D} {x:D} (h:x∈List.zipWith (fun a b=>D.tup [a,b]) ds es):∃ a∈ds,∃ b∈es,x=.tup [a,b]:=by
 induction ds generalizing es with
 | nil=>simp at h
 | cons a ds ih =>
  cases es with
  | nil=>simp at h
  | cons b es =>
   rw [List.zipWith_cons_cons] at h
   rcases List.mem_cons.mp h with rfl | h
   ·exact ⟨a,List.mem_cons_self,b,List.mem_cons_self,rfl⟩
   ·obtain ⟨a',ha,b',hb,e⟩:=ih h
    exact ⟨a',List.mem_cons_of_mem _ ha,b',List.mem_cons_of_mem _ hb,e⟩
theorem zlY {α:Type} (xs:List α):zbj xs (some 1) none=xs.tail:=by
 unfold zbj
 have:((1:Int))=((1:Nat):Int):=rfl
 rw [this,HT.sIx_nat,HT.sIx_none]
 cases xs with
 | nil=>rfl
 | cons x xs=>simp
def ThK:D->Prop
 | .tup ds=>ds.length<1000/\∀ d∈ds,zj6 d
 | d=>Vl d
def swV (evs:List D):D->Bool
 | .tup ds=>ds.all (swK evs) && ascF (ds.map fsK)
 | _=>false
theorem zfQ {evs:List D} {d:D} (h:swK evs d=true):∃ t p:Int,d=.tup [.int t,.int p]:=by
 unfold swK at h
 split at h
 ·exact ⟨_,_,rfl⟩
 ·cases h
theorem ze5 {j:Nat} {tb thing:D} {evs:List D} (hs:zcZ tb evs) (hw:EvsW evs) (hl:evs.length<1000) (ht:ThK thing):Call (cfN tab (j+3)) zdd [] [.v tb,.v thing] (fun r fin=>fin=[]/\r=.v (.bl (swV evs thing))):=by
 refine zaC (d:=zbe) rfl rfl (by simp) (by simp) ?_
 refine zh <| zhC (A:=false) <| zcj <| zc0 <| zo (d:=thing) rfl ?_
 cases thing with
 | tup ds =>
  refine ⟨.tup ds,true,rfl,rfl,true,rfl,.inr ⟨rfl,za9 <| zh <| zks (A:=false) <| zdO <| zo (d:=.tup ds) rfl ⟨_,ds,rfl,rfl,by have:=ht.1;omega,zkJ (j:=j) hs hw hl ds none ht.2 (fun ha o'=>?_) (fun ha o'=>⟨[],rfl,rfl,by rw [swV,ha];rfl⟩)⟩⟩⟩
  refine zh <| zC (A:=false) <| zjI <| zk <| zlB (A:=false) <| i_zip <| zo (d:=.tup ds) rfl <| zo (d:=.tup ds.tail) ?_ ⟨.tup ds,.tup ds.tail,ds,ds.tail,rfl,rfl,rfl,rfl,rfl,rfl,?_,l_blc (p:=pZk) rfl (by simp [tgI]) (by simp) _ [] (fun x hx=>?_) ?_⟩
  ·simp [pk,OT.top,zlP,dopt,zlY,zb3]
  ·have:=ht.1
   simp;omega
  ·obtain ⟨a,ha',b,hb,rfl⟩:=zw_memK hx
   have hb:=List.mem_of_mem_tail hb
   obtain ⟨t,p,rfl⟩:=zfQ (List.all_eq_true.mp ha a ha')
   obtain ⟨t',p',rfl⟩:=zfQ (List.all_eq_true.mp ha b hb)
   exact ⟨_,rfl,rfl,rfl,zo (A:=false) (d:=.bl true) rfl ⟨rfl,rfl,zo (d:=.bl (decide (t<=t'))) rfl ⟨rfl,rfl⟩⟩⟩
  ·rw [List.nil_append]
   have e1:zgz .all [.lst ((List.zipWith (fun a b=>D.tup [a,b]) ds ds.tail).map fun d=>D.bl (pZk d))]=some (.bl (ascF (ds.map fsK))):=by
    rw [<- zim]
    simp only [zgz,zer,Option.map_some]
    rw [List.all_map];rfl
   exact zI ⟨[.lst _],.bl (ascF (ds.map fsK)),rfl,e1,[],rfl,rfl,by rw [swV,ha];rfl⟩
 | int x=>exact ⟨_,false,rfl,rfl,false,rfl,.inl ⟨rfl,zh <| zC (A:=false) <| zo (d:=.bl false) rfl ⟨[],rfl,rfl,rfl⟩⟩⟩
 | bl x=>exact ⟨_,false,rfl,rfl,false,rfl,.inl ⟨rfl,zh <| zC (A:=false) <| zo (d:=.bl false) rfl ⟨[],rfl,rfl,rfl⟩⟩⟩
 | non=>exact ⟨_,false,rfl,rfl,false,rfl,.inl ⟨rfl,zh <| zC (A:=false) <| zo (d:=.bl false) rfl ⟨[],rfl,rfl,rfl⟩⟩⟩
 | str x=>exact ⟨_,false,rfl,rfl,false,rfl,.inl ⟨rfl,zh <| zC (A:=false) <| zo (d:=.bl false) rfl ⟨[],rfl,rfl,rfl⟩⟩⟩
 | lst x=>exact ⟨_,false,rfl,rfl,false,rfl,.inl ⟨rfl,zh <| zC (A:=false) <| zo (d:=.bl false) rfl ⟨[],rfl,rfl,rfl⟩⟩⟩
 | _=>exact ht.elim
end Mp.V
namespace Mp.V
open PySem L2
def lwK (evs:List D):Int->List D->Bool
 | _,[]=>true
 | l,d::ds=>swK evs d && (decide (l<=fsK d) && lwK evs (fsK d) ds)
theorem lwK_eq (evs:List D):∀ (ds:List D) (l:Int),lwK evs l ds=(ds.all (swK evs) && ascF (l::ds.map fsK))
 | [],l=>rfl
 | d::ds,l=>by
  rw [lwK,lwK_eq evs ds,List.all_cons,List.map_cons,ascF]
  cases swK evs d<;>cases ds.all (swK evs)<;>simp
theorem zlH {evs:List D} {d:D} (h:swK evs d=true):0<=fsK d:=by
 obtain ⟨t,p,rfl⟩:=zfQ h
 simp [swK] at h
 exact h.1.1.1
theorem lwK_zero (evs ds:List D):lwK evs 0 ds=(ds.all (swK evs) && ascF (ds.map fsK)):=by
 rw [lwK_eq]
 cases h:ds.all (swK evs) with
 | false=>rfl
 | true =>
  cases ds with
  | nil=>rfl
  | cons d ds =>
   have h0:=zlH (List.all_eq_true.mp h d List.mem_cons_self)
   rw [List.map_cons,ascF,decide_eq_true h0,Bool.true_and]
theorem zlO {d:D} (h:zi3 d=true):∃ a b,d=.tup [a,b]:=by
 unfold zi3 at h
 split at h
 ·obtain ⟨a,b,rfl⟩:=zhe (of_decide_eq_true h)
  exact ⟨a,b,rfl⟩
 ·cases h
theorem swK_duo {evs:List D} {d:D} (h:zi3 d=false):swK evs d=false:=by
 unfold swK
 split
 ·simp [zi3] at h
 ·rfl
end Mp.V
namespace Mp.V
open PySem L2
section
variable {j:Nat} {thing:D} {evs:List D}
theorem zma (hw:EvsW evs) (hl:evs.length<1000) {Q:Flo->Env->Prop}:∀ (ds:List D) (l:Int) (o3 o4:Option OT),(∀ d∈ds,zj6 d)->(∀ d∈ds,zi3 d=true) ->
  (lwK evs l ds=true->∀ l' o3 o4,Q .nx [some (.v (.tup evs)),some (.v thing),some (.v (.int l')),o3,o4,none])->(lwK evs l ds=false->∀ l' o3 o4,Q (.ret (.v (.bl false))) [some (.v (.tup evs)),some (.v thing),some (.v (.int l')),o3,o4,none]) ->
  HF (cfN tab (j+1)) [] (.tup [3,4]) zdF ds [some (.v (.tup evs)),some (.v thing),some (.v (.int l)),o3,o4,none] Q
 | [],l,o3,o4,_,_,q1,_=>f_nil (q1 rfl l o3 o4)
 | d::ds,l,o3,o4,h,hd,q1,q2=>by
  obtain ⟨a,b,rfl⟩:=zlO (hd d List.mem_cons_self)
  obtain ⟨_,hq⟩:=h _ List.mem_cons_self
  obtain ⟨va,vb,_⟩:=hq a b rfl
  have no:∀ {Q':Prop},swK evs (.tup [a,b])=false->(lwK evs l (.tup [a,b]::ds)=false->Q')->Q':=fun z k=>k (by rw [lwK,z];rfl)
  refine zi1 (by simp) rfl <| zh <| zhC (A:=false) <| h_or <| zcj <| zY <| zag (A:=false) <| zo (d:=a) rfl ⟨_,rfl,zaI (callv (ds:=[a]) (zdT (j:=j) va) fun r hr=>?_)⟩
  subst hr
  refine ⟨_,rfl,?_⟩
  cases ha:zkg a with
  | false =>
   refine .inr ⟨rfl,.inl ⟨rfl,zh <| zC (A:=false) <| zo (d:=.bl false) rfl (no (zhL (by simp [zfk,ha])) fun z=>q2 z _ _ _)⟩⟩
  | true =>
   refine .inl ⟨rfl,h_or <| zcj <| zY <| zag (A:=false) <| zo (d:=b) rfl ⟨_,rfl,zaI (callv (ds:=[b]) (zdT (j:=j) vb) fun r hr=>?_)⟩⟩
   subst hr
   refine ⟨_,rfl,?_⟩
   cases hb:zkg b with
   | false =>
    refine .inr ⟨rfl,.inl ⟨rfl,zh <| zC (A:=false) <| zo (d:=.bl false) rfl (no (zhL (by simp [zfk,hb])) fun z=>q2 z _ _ _)⟩⟩
   | true =>
    obtain ⟨t,rfl⟩:=zdS ha
    obtain ⟨p,rfl⟩:=zdS hb
    have sw:swK evs (.tup [.int t,.int p])=(decide (t<=evs.length) && decide (p<=zb6 evs t)):=by simp [swK]
    refine .inl ⟨rfl,zcj <| zo (d:=.bl (decide (l<=t) && decide (t<=evs.length))) ?_ ⟨_,rfl,?_⟩⟩
    ·by_cases h1:l<=t<;>simp [pk,pts,pks,OT.top,zgz,zcG,h1]
    ·by_cases h1:l<=(t:Int)
     ·by_cases h2:t<=evs.length
      ·refine .inr ⟨by simp [h1,h2],za9 <| zh <| zhC (A:=false) <| zjH <| zo (d:=.int p) rfl <| zY <| zag (A:=false) <| zo (d:=.tup evs) rfl ⟨_,rfl,zag (A:=false) <| zo (d:=.int t) rfl ⟨_,rfl,zaI (callv (ds:=[.tup evs,.int t]) ((zjV (j:=j) (.inl rfl) hw hl (t:=t)).mono fun r fin z=>⟨z.2,z.1⟩) fun r hr=>?_)⟩⟩⟩
       subst hr
       refine ⟨.int p,.int (zb6 evs t:Nat),decide ((zb6 evs t:Int)<p),rfl,rfl,rfl,?_⟩
       by_cases h3:zb6 evs t<p
       ·exact .inl ⟨by simp [h3],zh <| zC (A:=false) <| zo (d:=.bl false) rfl (no (by rw [sw,decide_eq_false (by omega:¬ p<=zb6 evs t),Bool.and_false]) fun z=>q2 z _ _ _)⟩
       ·have ok:swK evs (.tup [.int t,.int p])=true:=by rw [sw];simp;omega
        have e:lwK evs l (.tup [.int t,.int p]::ds)=lwK evs t ds:=by
         rw [lwK,ok,decide_eq_true (show l<=fsK (.tup [.int t,.int p]) from h1)];rfl
        exact .inr ⟨by simp [h3],za9 <| zh <| zdI (A:=false) (by simp) <| zo (d:=.int t) rfl <| za9 <| zma hw hl ds t _ _ (fun d hd=>h d (List.mem_cons_of_mem _ hd)) (fun d hm=>hd d (List.mem_cons_of_mem _ hm)) (fun z=>q1 (e.trans z)) (fun z=>q2 (e.trans z))⟩
      ·exact .inl ⟨by simp [h1,h2],zh <| zC (A:=false) <| zo (d:=.bl false) rfl (no (by rw [sw,decide_eq_false h2];rfl) fun z=>q2 z _ _ _)⟩
     ·have z:lwK evs l (.tup [.int t,.int p]::ds)=false:=by
       rw [lwK,decide_eq_false (show ¬ l<=fsK (.tup [.int t,.int p]) from h1)];simp
      exact .inl ⟨by simp [h1],zh <| zC (A:=false) <| zo (d:=.bl false) rfl (q2 z _ _ _)⟩
end
end Mp.V
namespace Mp.V
open PySem L2
theorem zii {evs ds:List D} (h:ds.all zi3=false):ds.all (swK evs)=false:=by
 rw [List.all_eq_false] at h ⊢
 obtain ⟨d,hd,hn⟩:=h
 exact ⟨d,hd,by rw [swK_duo (by simpa using hn)];simp⟩
theorem zht {j:Nat} {thing:D} {evs:List D} (hw:EvsW evs) (hl:evs.length<1000) (ht:ThK thing):Call (cfN tab (j+2)) zd2 [] [.v (.tup evs),.v thing] (fun r fin=>fin=[]/\r=.v (.bl (swV evs thing))):=by
 refine zaC (d:=zaR) rfl rfl (by simp) (by simp) ?_
 refine zh <| zhC (A:=false) <| h_or <| zcj <| zc0 <| zo (d:=thing) rfl ?_
 cases thing with
 | tup ds =>
  refine ⟨.tup ds,true,rfl,rfl,true,rfl,.inl ⟨rfl,zcj <| ziV (p:=zi3) (xs:=ds) rfl rfl (by have:=ht.1;omega) (fun d hd=>zjc (j:=j) (ht.2 d hd).1) ⟨_,rfl,?_⟩⟩⟩
  cases hd:ds.all zi3 with
  | false=>exact .inl ⟨rfl,zh <| zC (A:=false) <| zo (d:=.bl false) rfl ⟨[],rfl,rfl,by rw [swV,zii hd];rfl⟩⟩
  | true =>
   have e:swV evs (.tup ds)=lwK evs 0 ds:=by rw [lwK_zero];rfl
   refine .inr ⟨rfl,za9 <| zh <| zdI (A:=false) (by simp) <| zo (d:=.int 0) rfl <| zh <| zks (A:=false) <| zdO <| zo (d:=.tup ds) rfl ⟨_,ds,rfl,rfl,by have:=ht.1;omega,zma (j:=j) hw hl ds 0 none none ht.2 (List.all_eq_true.mp hd) (fun z l' o3 o4=>?_) (fun z l' o3 o4=>⟨[],rfl,rfl,by rw [e,z]⟩)⟩⟩
   exact zh <| zC (A:=false) <| zo (d:=.bl true) rfl ⟨[],rfl,rfl,by rw [e,z]⟩
 | int x=>exact ⟨_,false,rfl,rfl,false,rfl,.inr ⟨rfl,.inl ⟨rfl,zh <| zC (A:=false) <| zo (d:=.bl false) rfl ⟨[],rfl,rfl,rfl⟩⟩⟩⟩
 | bl x=>exact ⟨_,false,rfl,rfl,false,rfl,.inr ⟨rfl,.inl ⟨rfl,zh <| zC (A:=false) <| zo (d:=.bl false) rfl ⟨[],rfl,rfl,rfl⟩⟩⟩⟩
 | non=>exact ⟨_,false,rfl,rfl,false,rfl,.inr ⟨rfl,.inl ⟨rfl,zh <| zC (A:=false) <| zo (d:=.bl false) rfl ⟨[],rfl,rfl,rfl⟩⟩⟩⟩
 | str x=>exact ⟨_,false,rfl,rfl,false,rfl,.inr ⟨rfl,.inl ⟨rfl,zh <| zC (A:=false) <| zo (d:=.bl false) rfl ⟨[],rfl,rfl,rfl⟩⟩⟩⟩
 | lst x=>exact ⟨_,false,rfl,rfl,false,rfl,.inr ⟨rfl,.inl ⟨rfl,zh <| zC (A:=false) <| zo (d:=.bl false) rfl ⟨[],rfl,rfl,rfl⟩⟩⟩⟩
 | _=>exact ht.elim
end Mp.V
namespace Mp.V
open PySem L2
def WdG (w:Str):Prop:=w=("reader" : Str)\/w=("copy" : Str)
theorem zhH {w:Str} (h:WdG w):PyData.canLay0 (.str w)=true:=by rcases h with rfl | rfl<;>decide +kernel
def tiY (p:Str × Int):PyData:=.tuple [.str p.1,.int p.2]
def PsG (ps:List (Str × Int)):Prop:=∀ p∈ps,WdG p.1
theorem tiY_eq (p q:Str × Int):PyData.eqv (tiY p) (tiY q)=decide (p=q):=by
 obtain ⟨a,b⟩:=p
 obtain ⟨c,d⟩:=q
 rw [Bool.eq_iff_iff]
 simp [tiY,PyData.eqv,PyData.eqvAll]
theorem zkA:∀ ps qs:List (Str × Int),PyData.eqvAll (ps.map tiY) (qs.map tiY)=decide (ps=qs)
 | [],[]=>by simp [PyData.eqvAll]
 | [],_::_=>by simp [PyData.eqvAll]
 | _::_,[]=>by simp [PyData.eqvAll]
 | p::ps,q::qs=>by
  rw [List.map_cons,List.map_cons,PyData.eqvAll,tiY_eq,zkA ps qs,Bool.eq_iff_iff]
  simp
theorem ti_py:∀ {ps:List (Str × Int)},PsG ps->D.pys (ps.map tiD)=some (ps.map tiY)/\PyData.depthAll (ps.map tiY)<=3/\PyData.canLayAll0 (ps.map tiY)=true
 | [],_=>⟨rfl,by simp [PyData.depthAll],by simp [PyData.canLayAll0]⟩
 | p::ps,h=>by
  obtain ⟨h1,h2,h3⟩:=ti_py (ps:=ps) fun x hx=>h x (List.mem_cons_of_mem _ hx)
  have hl:=zhH (h p List.mem_cons_self)
  refine ⟨?_,?_,?_⟩
  ·rw [List.map_cons,List.map_cons,D.pys,h1]
   simp [tiD,tiY,D.py,D.pys]
  ·rw [List.map_cons,PyData.depthAll]
   simp only [tiY,PyData.depth,PyData.depthAll] at h2 ⊢
   omega
  ·rw [List.map_cons,PyData.canLayAll0,h3]
   simp only [tiY,PyData.canLay0,PyData.canLayAll0] at hl ⊢
   simp [hl]
theorem zdq {p:PyData} (c:p.canLay0=true) (d:p.depth<20):SeqAt.shaped p=true:=by
 show (p.canLay0 && decide (p.depth<=64))=true
 rw [c]
 simp;omega
theorem zf6 {ps:List PyData} (h:PyData.canLayAll0 ps=true):(PyData.list ps).canLay0=true:=by rw [PyData.canLay0];exact h
theorem zlS {ps qs:List (Str × Int)} (h1:PsG ps) (h2:PsG qs):deq (.lst (ps.map tiD)) (.lst (qs.map tiD))=some (decide (ps=qs)):=by
 obtain ⟨a1,a2,a3⟩:=ti_py h1
 obtain ⟨b1,b2,b3⟩:=ti_py h2
 have e1:(D.lst (ps.map tiD)).py=some (.list (ps.map tiY)):=zk6 a1
 have e2:(D.lst (qs.map tiD)).py=some (.list (qs.map tiY)):=zk6 b1
 have s1:PyData.depth (.list (ps.map tiY))<20:=by simp only [PyData.depth];omega
 have s2:PyData.depth (.list (qs.map tiY))<20:=by simp only [PyData.depth];omega
 have l1:SeqAt.shaped (.list (ps.map tiY))=true:=zdq (zf6 a3) s1
 have l2:SeqAt.shaped (.list (qs.map tiY))=true:=zdq (zf6 b3) s2
 have e0:zi5 (.lst (ps.map tiD)) (.lst (qs.map tiD))=none:=rfl
 rw [deq,e0]
 simp only [e1,e2]
 rw [if_pos ⟨s1,s2,l1,l2⟩]
 simp only [PyData.eqv,zkA]
theorem zkB (p:Str × Int):∀ ps:List (Str × Int),((ps.map tiY).any fun z=>PyData.eqv z (tiY p))=decide (p∈ps)
 | []=>by simp
 | q::ps=>by
  rw [List.map_cons,List.any_cons,zkB p ps,tiY_eq,Bool.eq_iff_iff,Bool.or_eq_true,decide_eq_true_eq,decide_eq_true_eq,decide_eq_true_eq,List.mem_cons]
  exact ⟨fun h=>h.imp (fun z=>z.symm) id,fun h=>h.imp (fun z=>z.symm) id⟩
theorem din_tis {p:Str × Int} {ps:List (Str × Int)} (h:WdG p.1) (h2:PsG ps):din (tiD p) (.lst (ps.map tiD))=some (decide (p∈ps)):=by
 obtain ⟨b1,b2,b3⟩:=ti_py h2
 have hl:=zhH h
 have e1:(tiD p).py=some (tiY p):=by simp [tiD,tiY,D.py,D.pys]
 have s1:PyData.depth (tiY p)<20:=by simp [tiY,PyData.depth,PyData.depthAll]
 have l1:SeqAt.shaped (tiY p)=true:=by
  simp only [tiY,SeqAt.shaped,PyData.canLay0,PyData.canLayAll0,PyData.depth,PyData.depthAll] at hl ⊢
  simp [hl]
 have l2:SeqAt.shaped (.list (ps.map tiY))=true:=zdq (zf6 b3) (by simp only [PyData.depth];omega)
 have e0:zi4 (tiD p) (ps.map tiD)=none:=by simp [zi4,tiD,D.flat]
 rw [din,e0]
 simp only [dinD,e1,b1]
 rw [if_pos ⟨s1,by omega,l1,l2⟩,zkB]
def tiI:D->Str × Int
 | .tup [.str w,.int n]=>(w,n)
 | _=>(("" : Str),0)
theorem zh6 {d:D} (h:zaE d=true):∃ p,d=tiD p/\WdG p.1/\0<=p.2/\tiI d=p:=by
 unfold zaE at h
 split at h
 ·rename_i a b
  obtain ⟨h1,h2⟩:=Bool.and_eq_true_iff.mp h
  obtain ⟨t,rfl⟩:=zdS h2
  cases a with
  | str w =>
   refine ⟨(w,(t:Int)),rfl,?_,by simp,rfl⟩
   rw [rcB,Bool.or_eq_true,decide_eq_true_eq,decide_eq_true_eq] at h1
   exact h1
  | _=>cases h1
 ·cases h
theorem zgd:∀ {ds:List D},ds.all zaE=true->(ds.map tiI).map tiD=ds/\PsG (ds.map tiI)
 | [],_=>⟨rfl,fun p hp=>by simp at hp⟩
 | d::ds,h=>by
  rw [List.all_cons,Bool.and_eq_true_iff] at h
  obtain ⟨h1,h2⟩:=zgd h.2
  obtain ⟨p,e1,e2,_,e3⟩:=zh6 h.1
  refine ⟨?_,fun q hq=>?_⟩
  ·rw [List.map_cons,List.map_cons,h1,e3,<- e1]
  ·rw [List.map_cons] at hq
   rcases List.mem_cons.mp hq with rfl | hq
   ·rw [e3];exact e2
   ·exact h2 q hq
theorem ziq {ps:List (Str × Int)} (h:PsG ps):PsG (zaU ps):=fun p hp=>h p ((zdJ p ps).mp hp)
def savB (e:Dr.Ev):Bool:=match e with | .save _=>true | _=>false
def zie (es:List Dr.Ev):Nat:=(es.filter savB).length
def zgx (es:List Dr.Ev):List (Str × Int):=((List.range (zie es)).map fun (k:Nat)=>(("copy" : Str),(0+(k:Int))))++(rdsE es).map fun r=>(("reader" : Str),r)
theorem gsoE_g (es:List Dr.Ev):PsG (zgx es):=fun p hp=>by
 rcases List.mem_append.mp hp with h | h
 ·obtain ⟨k,_,rfl⟩:=List.mem_map.mp h;exact .inr rfl
 ·obtain ⟨k,_,rfl⟩:=List.mem_map.mp h;exact .inl rfl
theorem zgK:¬ (("reader" : Str)=("copy" : Str)):=by decide
theorem zg8 (es:List Dr.Ev) (n:Int):(("copy" : Str),n)∈zgx es↔0<=n/\n<(zie es:Nat):=by
 unfold zgx
 rw [List.mem_append,List.mem_map,List.mem_map]
 constructor
 ·rintro (⟨k,hk,e⟩ | ⟨k,hk,e⟩)
  ·have h2:=List.mem_range.mp hk
   simp only [Prod.mk.injEq,true_and] at e
   omega
  ·simp only [Prod.mk.injEq] at e
   exact absurd e.1 zgK
 ·intro h
  exact .inl ⟨n.toNat,List.mem_range.mpr (by omega),by simp only [Prod.mk.injEq,true_and];omega⟩
theorem ziW (es:List Dr.Ev) (n:Int):(("reader" : Str),n)∈zgx es↔n∈rdsE es:=by
 unfold zgx
 rw [List.mem_append,List.mem_map,List.mem_map]
 constructor
 ·rintro (⟨k,hk,e⟩ | ⟨k,hk,e⟩)
  ·simp only [Prod.mk.injEq] at e
   exact absurd e.1.symm zgK
  ·simp only [Prod.mk.injEq,true_and] at e
   exact e ▸ hk
 ·intro h
  exact .inr ⟨n,h,rfl⟩
def gdV (es:List Dr.Ev):D->Bool
 | .tup ds=>ds.all zaE && (decide (ds.map tiI=zaU (ds.map tiI)) && (ds.map tiI).all fun p=>decide (p∈zgx es))
 | _=>false
def ThG (thing:D):Prop:=ThK thing/\∀ ds,thing=.tup ds->ds.all zaE=true->ds.length<64
end Mp.V
namespace Mp.V
open PySem L2
theorem sav_wd (e:Dr.Ev):decide (e.wd=("save" : Str))=savB e:=by
 cases e<;>simp [Dr.Ev.wd,savB,zaa]
def pS (x:D):Bool:=match zdh x (.int 0) with | some (.str w)=>decide (w=("save" : Str)) | _=>false
theorem pS_ev (s:Bool) (e:Dr.Ev):pS (evS s e)=savB e:=by simp only [pS,ev_0,sav_wd]
theorem zlA {cf:CF} {env:Env} {i j:Nat} {s:Bool} {es:List Dr.Ev} {Q:OT->Env->Prop} (h1:env[i]? = some (some (.v (tbS s es)))) (h2:env[j]? = some none) (hl:es.length<=60)
  (q:Q (.v (.int (zie es:Nat))) env):HE false cf (.blt .len (.cons (.lc [j] (.name j) (.seq (.var i)) (.cmp .eq (.idx (.var j) (.con (.int 0))) (.con (.str "save"))) (.var j)) .nil)) env Q:=by
 have hj:j<env.length:=by
  rcases Nat.lt_or_ge j env.length with h | h
  ·exact h
  ·rw [List.getElem?_eq_none h] at h2;cases h2
 have e:env[j]=none:=by rw [List.getElem?_eq_getElem hj] at h2;exact Option.some.inj h2
 refine zjI <| zk <| zlB (A:=false) <| zdO <| zo (d:=tbS s es) (by simp [pk,h1]) ⟨_,es.map (evS s),rfl,zfP s es,by simp [zdb,h2],by simp;omega,?_⟩
 refine zdZ (A:=false) (p:=pS) (F:=id) (by simp [tgI]) (by simpa using hj) (by simp [zdb,h2]) (fun x hx=>?_) ?_
 ·obtain ⟨ev,_,rfl⟩:=List.mem_map.mp hx
  refine ⟨env.set j (some (.v (evS s ev))),rfl,?_,zo (d:=.bl (pS (evS s ev))) ?_ ⟨rfl,rfl⟩,fun _=>zo (d:=evS s ev) (by simp [pk,hj]) ⟨rfl,rfl⟩⟩
  ·simp only [zcd,List.set_set]
   rw [<- e];exact List.set_getElem_self hj
  ·have:pk (env.set j (some (.v (evS s ev)))) (.idx (.var j) (.con (.int 0)))=some (.v (.str ev.wd)):=by simp [pk,hj,OT.top,zb3,ev_0]
   rw [pk,this]
   simp [pk,zb3,OT.top,zcG,deq,zi5,pS_ev,<- sav_wd]
 ·have el:([]++List.map id (List.filter pS (es.map (evS s)))).length=zie es:=by
   rw [List.nil_append,List.map_id,List.filter_map,List.length_map]
   have:(pS ∘ evS s)=savB:=funext (pS_ev s)
   rw [this];rfl
  exact zI ⟨[.lst _],.int (zie es:Nat),rfl,by simp only [zgz];rw [el],q⟩
theorem rds_len (es:List Dr.Ev):(rdsE es).length<=es.length:=by
 unfold rdsE
 have h1:=usortI_len ((es.filter zbs).map zgu)
 have h2:=List.length_filter_le zbs es
 rw [List.length_map] at h1
 omega
theorem cnt_len (es:List Dr.Ev):zie es<=es.length:=List.length_filter_le savB es
theorem zgm {j:Nat} {s:Bool} {es:List Dr.Ev} (hl:es.length<=60):Call (cfN tab (j+2)) zeW [] [.v (tbS s es)] (fun u fin=>fin=[]/\u=.ol ((zgx es).map tiD)):=by
 have:=cnt_len es
 have:=rds_len es
 refine zaC (d:=zX) rfl rfl (by simp) (by simp) ?_
 refine zh <| zdI (A:=false) (by simp) <| zlA (s:=s) (es:=es) rfl rfl hl <| zh <| zC (A:=false) <| h_cat <| zlB (A:=false) <| ziS <| zo (d:=.int (zie es:Nat)) rfl ⟨_,rfl,by simp [zbQ];omega,rfl,by simp;omega,?_⟩
 refine zdZ (A:=false) (p:=fun _=>true) (F:=fun x=>.tup [.str ("copy" : Str),x]) (by simp [tgI]) (by simp [zX]) rfl (fun x hx=>?_) ?_
 ·obtain ⟨k,_,rfl⟩:=List.mem_map.mp hx
  exact ⟨_,rfl,rfl,zo (d:=.bl true) rfl ⟨rfl,rfl⟩,fun _=>zo (d:=.tup [.str ("copy" : Str),.int (0+(k:Int))]) (by simp [pk,pks,zb3,sizeLine,zd5,zX]) ⟨rfl,rfl⟩⟩
 rw [List.filter_eq_self.mpr (by simp),List.nil_append]
 refine zlB (A:=false) <| zdO <| zY <| zag (A:=false) <| zo (d:=tbS s es) rfl ⟨_,rfl,zaI (callv (ds:=[tbS s es]) (zjU (j:=j) (s:=s) hl) fun r hr=>?_)⟩
 subst hr
 refine ⟨_,(rdsE es).map .int,rfl,rfl,rfl,by simp;omega,?_⟩
 refine zdZ (A:=false) (p:=fun _=>true) (F:=fun x=>.tup [.str ("reader" : Str),x]) (by simp [tgI]) (by simp [zX]) rfl (fun x hx=>?_) ?_
 ·obtain ⟨k,_,rfl⟩:=List.mem_map.mp hx
  exact ⟨_,rfl,rfl,zo (d:=.bl true) rfl ⟨rfl,rfl⟩,fun _=>zo (d:=.tup [.str ("reader" : Str),.int k]) (by simp [pk,pks,zb3,sizeLine,zd4,zX]) ⟨rfl,rfl⟩⟩
 rw [List.filter_eq_self.mpr (by simp),List.nil_append]
 refine ⟨_,_,rfl,rfl,by simp;omega,[],rfl,rfl,?_⟩
 unfold zgx
 rw [List.map_append,List.map_map,List.map_map,List.map_map,List.map_map]
 rfl
theorem zdB {j:Nat} {s:Bool} {es:List Dr.Ev} {thing:D} (hl:es.length<=60) (ht:ThG thing):Call (cfN tab (j+4)) zde [] [.v (tbS s es),.v thing] (fun r fin=>fin=[]/\r=.v (.bl (gdV es thing))):=by
 refine zaC (d:=zaL) rfl rfl (by simp) (by simp) ?_
 refine zh <| zhC (A:=false) <| h_or <| zcj <| zc0 <| zo (d:=thing) rfl ?_
 obtain ⟨hk,h64⟩:=ht
 cases thing with
 | tup ds =>
  refine ⟨.tup ds,true,rfl,rfl,true,rfl,.inl ⟨rfl,zcj <| ziV (p:=zaE) (xs:=ds) rfl rfl (by have:=hk.1;omega) (fun d hd=>zjW (j:=j) (hk.2 d hd)) ⟨_,rfl,?_⟩⟩⟩
  cases hd:ds.all zaE with
  | false=>exact .inl ⟨rfl,zh <| zC (A:=false) <| zo (d:=.bl false) rfl ⟨[],rfl,rfl,by rw [gdV,hd];rfl⟩⟩
  | true =>
   obtain ⟨eD,eG⟩:=zgd hd
   have l64:=h64 ds rfl hd
   generalize hps:ds.map tiI=ps at eD eG
   have hpl:ps.length<64:=by rw [<- hps,List.length_map];exact l64
   have ev:gdV es (.tup ds)=(decide (ps=zaU ps) && ps.all fun p=>decide (p∈zgx es)):=by rw [gdV,hd,hps];rfl
   refine .inr ⟨rfl,za9 <| zh <| zC (A:=false) <| zeX <| zjH <| ziU <| zk <| zo (d:=.tup ds) rfl <| zI ⟨[.tup ds],ds,rfl,rfl,?_⟩⟩
   refine ziT (ps:=ps) <| zo (d:=.tup ds) rfl ⟨.inl (by rw [eD];rfl),hpl,.lst ds,.lst ((zaU ps).map tiD),decide (ps=zaU ps),rfl,rfl,?_,?_⟩
   ·have:=zlS eG (ziq eG)
    rw [eD] at this
    exact this
   ·cases hs:decide (ps=zaU ps) with
    | false=>exact .inr ⟨rfl,[],rfl,rfl,by rw [ev,hs];rfl⟩
    | true =>
     refine .inl ⟨rfl,?_⟩
     refine zjI <| zk <| zlB (A:=false) <| zdO <| zo (d:=.tup ds) rfl ⟨_,ds,rfl,rfl,rfl,by have:=hk.1;omega,?_⟩
     refine l_blc (p:=fun d=>decide (tiI d∈zgx es)) rfl (by simp [tgI]) (by simp [zaL]) ds [] (fun d hm=>?_) ?_
     ·obtain ⟨p,rfl,e2,_,e3⟩:=zh6 (List.all_eq_true.mp hd d hm)
      refine ⟨_,rfl,rfl,rfl,zo (A:=false) (d:=.bl true) rfl ⟨rfl,rfl,zjH <| zo (d:=tiD p) rfl <| zY <| zag (A:=false) <| zo (d:=tbS s es) rfl ⟨_,rfl,zaI (callv (ds:=[tbS s es]) (zgm (j:=j+1) (s:=s) hl) fun r hr=>?_)⟩⟩⟩
      subst hr
      exact ⟨tiD p,.lst ((zgx es).map tiD),decide (p∈zgx es),rfl,rfl,din_tis e2 (gsoE_g es),by rw [e3],rfl⟩
     ·rw [List.nil_append]
      have e1:zgz .all [.lst (ds.map fun d=>D.bl (decide (tiI d∈zgx es)))]=some (.bl (ps.all fun p=>decide (p∈zgx es))):=by
       simp only [zgz,zer,Option.map_some]
       rw [List.all_map,<- hps,List.all_map];rfl
      exact zI ⟨[.lst _],.bl (ps.all fun p=>decide (p∈zgx es)),rfl,e1,[],rfl,rfl,by rw [ev,hs];rfl⟩
 | int x=>exact ⟨_,false,rfl,rfl,false,rfl,.inr ⟨rfl,.inl ⟨rfl,zh <| zC (A:=false) <| zo (d:=.bl false) rfl ⟨[],rfl,rfl,rfl⟩⟩⟩⟩
 | bl x=>exact ⟨_,false,rfl,rfl,false,rfl,.inr ⟨rfl,.inl ⟨rfl,zh <| zC (A:=false) <| zo (d:=.bl false) rfl ⟨[],rfl,rfl,rfl⟩⟩⟩⟩
 | non=>exact ⟨_,false,rfl,rfl,false,rfl,.inr ⟨rfl,.inl ⟨rfl,zh <| zC (A:=false) <| zo (d:=.bl false) rfl ⟨[],rfl,rfl,rfl⟩⟩⟩⟩
 | str x=>exact ⟨_,false,rfl,rfl,false,rfl,.inr ⟨rfl,.inl ⟨rfl,zh <| zC (A:=false) <| zo (d:=.bl false) rfl ⟨[],rfl,rfl,rfl⟩⟩⟩⟩
 | lst x=>exact ⟨_,false,rfl,rfl,false,rfl,.inr ⟨rfl,.inl ⟨rfl,zh <| zC (A:=false) <| zo (d:=.bl false) rfl ⟨[],rfl,rfl,rfl⟩⟩⟩⟩
 | _=>exact hk.elim
end Mp.V
namespace Mp.V
open PySem L2
def gwB (es:List Dr.Ev) (d:D):Bool:=zaE d && decide (tiI d∈zgx es)
theorem zk2 (es:List Dr.Ev) (n:Int):n∈rdsE es↔n∈(es.filter zbs).map zgu:=by
 unfold rdsE;rw [zcN]
theorem din_ints (n:Int) (ks:List Int):din (.int n) (.lst (ks.map .int))=some (decide (n∈ks)):=by
 have h1:zi4 (.int n) (ks.map .int)=some (decide (n∈ks)):=by
  have ha:(ks.map D.int).all D.flat=true:=by
   rw [List.all_eq_true];intro x hx;obtain ⟨k,_,rfl⟩:=List.mem_map.mp hx;rfl
  simp only [zi4,D.flat,ha,Bool.and_true,if_true,Option.some.injEq]
  rw [List.any_map,Bool.eq_iff_iff,List.any_eq_true,decide_eq_true_eq]
  constructor
  ·rintro ⟨x,hx,e⟩
   have:x=n:=by simpa [deqF] using e
   exact this ▸ hx
  ·intro h;exact ⟨n,h,by simp [deqF]⟩
 rw [din,h1]
section
variable {j:Nat} {thing:D} {es:List Dr.Ev}
theorem zkn {Q:Flo->Env->Prop}:∀ (ds:List D) (o4 o5:Option OT),(∀ d∈ds,zj6 d)->(∀ d∈ds,zi3 d=true) ->
  (ds.all (gwB es)=true->∀ o4 o5,Q .nx [some (.v (tbS false es)),some (.v thing),some (.v (.int (zie es:Nat))),some (.ol (((es.filter zbs).map zgu).map .int)),o4,o5,none,none]) ->
  (ds.all (gwB es)=false->∀ o4 o5,Q (.ret (.v (.bl false))) [some (.v (tbS false es)),some (.v thing),some (.v (.int (zie es:Nat))),some (.ol (((es.filter zbs).map zgu).map .int)),o4,o5,none,none]) ->
  HF (cfN tab (j+1)) [] (.tup [4,5]) zco ds [some (.v (tbS false es)),some (.v thing),some (.v (.int (zie es:Nat))),some (.ol (((es.filter zbs).map zgu).map .int)),o4,o5,none,none] Q
 | [],o4,o5,_,_,q1,_=>f_nil (q1 rfl o4 o5)
 | d::ds,o4,o5,h,hd,q1,q2=>by
  obtain ⟨a,b,rfl⟩:=zlO (hd d List.mem_cons_self)
  obtain ⟨_,hq⟩:=h _ List.mem_cons_self
  obtain ⟨va,vb,_⟩:=hq a b rfl
  have no:∀ {Q':Prop},gwB es (.tup [a,b])=false->(List.all (.tup [a,b]::ds) (gwB es)=false->Q')->Q':=fun z k=>k (by rw [List.all_cons,z];rfl)
  have bad:rcB a=false\/zkg b=false->gwB es (.tup [a,b])=false:=by
   rintro (z | z)<;>simp [gwB,zaE,z]
  refine zi1 (by simp) rfl <| zh <| zhC (A:=false) <| h_or <| zcj <| zc0 <| zo (d:=a) rfl ?_
  cases a with
  | str w =>
   refine ⟨.str w,true,rfl,rfl,true,rfl,.inl ⟨rfl,h_or <| zo (d:=.bl (!(decide (w=("copy" : Str)) || decide (w=("reader" : Str))))) ?_ ?_⟩⟩
   ·have h2:pk [some (.v (tbS false es)),some (.v thing),some (.v (.int (zie es:Nat))),some (.ol (((es.filter zbs).map zgu).map .int)),some (.v (.str w)),some (.v b),none,none] (.tup (.cons (.con (.str "copy")) (.cons (.con (.str "reader")) .nil)))=some (.v (.tup [.str "copy",.str "reader"])):=by simp [pk,pks,zb3,sizeLine]
    show pk [some (.v (tbS false es)),some (.v thing),some (.v (.int (zie es:Nat))),some (.ol (((es.filter zbs).map zgu).map .int)),some (.v (.str w)),some (.v b),none,none] _=_
    rw [pk,h2]
    simp only [pk,List.getElem?_cons_succ,List.getElem?_cons_zero,OT.top,Option.bind_some,zcG,din2,Option.map_some,Option.join]
   ·have rw1:rcB (.str w)=(decide (w=("copy" : Str)) || decide (w=("reader" : Str))):=by rw [rcB,Bool.or_comm]
    rw [<- rw1]
    cases hr:rcB (.str w) with
    | false=>exact .inr ⟨rfl,.inl ⟨rfl,zh <| zC (A:=false) <| zo (d:=.bl false) rfl (no (bad (.inl hr)) fun z=>q2 z _ _)⟩⟩
    | true =>
     refine .inl ⟨rfl,zcj <| zY <| zag (A:=false) <| zo (d:=b) rfl ⟨_,rfl,zaI (callv (ds:=[b]) (zdT (j:=j) vb) fun r hrr=>?_)⟩⟩
     subst hrr
     refine ⟨_,rfl,?_⟩
     cases hb:zkg b with
     | false=>exact .inl ⟨rfl,zh <| zC (A:=false) <| zo (d:=.bl false) rfl (no (bad (.inr hb)) fun z=>q2 z _ _)⟩
     | true =>
      obtain ⟨n,rfl⟩:=zdS hb
      have gw:gwB es (.tup [.str w,.int n])=decide ((w,(n:Int))∈zgx es):=by
       have hg:zaE (.tup [.str w,.int n])=true:=by simp only [zaE,hr,hb];rfl
       rw [gwB,hg,Bool.true_and];rfl
      refine .inr ⟨rfl,za9 <| zh <| zhC (A:=false) <| zlC <| zo (d:=.bl (decide (w=("copy" : Str)))) (by simp [pk,OT.top,zb3,zcG,deq,zi5]) ?_⟩
      have go:gwB es (.tup [.str w,.int n])=true->HF (cfN tab (j+1)) [] (.tup [4,5]) zco ds [some (.v (tbS false es)),some (.v thing),some (.v (.int (zie es:Nat))),some (.ol (((es.filter zbs).map zgu).map .int)),some (.v (.str w)),some (.v (.int n)),none,none] Q:=fun z=>zkn ds _ _ (fun d hd=>h d (List.mem_cons_of_mem _ hd)) (fun d hm=>hd d (List.mem_cons_of_mem _ hm)) (fun y=>q1 (by rw [List.all_cons,z,y];rfl)) (fun y=>q2 (by rw [List.all_cons,z,y];rfl))
      by_cases hw:w=("copy" : Str)
      ·subst hw
       refine .inl ⟨by simp,zo (d:=.bl (decide ((zie es:Int)<=n))) rfl ?_⟩
       by_cases h1:(zie es:Int)<=n
       ·exact .inl ⟨by simp [h1],zh <| zC (A:=false) <| zo (d:=.bl false) rfl (no (by rw [gw,decide_eq_false];rw [zg8];omega) fun z=>q2 z _ _)⟩
       ·exact .inr ⟨by simp [h1],za9 <| za9 <| go (by rw [gw,decide_eq_true];rw [zg8];omega)⟩
      ·have hw2:w=("reader" : Str):=by
        have:rcB (.str w)=true:=hr
        simp [rcB] at this
        exact this.resolve_right hw
       subst hw2
       refine .inr ⟨by simp [hw],zo (d:=.bl (!decide ((n:Int)∈(es.filter zbs).map zgu))) ?_ ?_⟩
       ·have hd:=din_ints (n:Int) ((es.filter zbs).map zgu)
        generalize ((es.filter zbs).map zgu).map D.int=L at hd ⊢
        simp [pk,OT.top,zcG,hd]
       by_cases h1:(n:Int)∈(es.filter zbs).map zgu
       ·exact .inr ⟨by simp [h1],za9 <| za9 <| go (by rw [gw,decide_eq_true];rw [ziW,zk2];exact h1)⟩
       ·exact .inl ⟨by simp [h1],zh <| zC (A:=false) <| zo (d:=.bl false) rfl (no (by rw [gw,decide_eq_false];rw [ziW,zk2];exact h1) fun z=>q2 z _ _)⟩
  | int x=>exact ⟨_,false,rfl,rfl,false,rfl,.inr ⟨rfl,.inl ⟨rfl,zh <| zC (A:=false) <| zo (d:=.bl false) rfl (no (bad (.inl rfl)) fun z=>q2 z _ _)⟩⟩⟩
  | bl x=>exact ⟨_,false,rfl,rfl,false,rfl,.inr ⟨rfl,.inl ⟨rfl,zh <| zC (A:=false) <| zo (d:=.bl false) rfl (no (bad (.inl rfl)) fun z=>q2 z _ _)⟩⟩⟩
  | non=>exact ⟨_,false,rfl,rfl,false,rfl,.inr ⟨rfl,.inl ⟨rfl,zh <| zC (A:=false) <| zo (d:=.bl false) rfl (no (bad (.inl rfl)) fun z=>q2 z _ _)⟩⟩⟩
  | tup x=>exact ⟨_,false,rfl,rfl,false,rfl,.inr ⟨rfl,.inl ⟨rfl,zh <| zC (A:=false) <| zo (d:=.bl false) rfl (no (bad (.inl rfl)) fun z=>q2 z _ _)⟩⟩⟩
  | lst x=>exact ⟨_,false,rfl,rfl,false,rfl,.inr ⟨rfl,.inl ⟨rfl,zh <| zC (A:=false) <| zo (d:=.bl false) rfl (no (bad (.inl rfl)) fun z=>q2 z _ _)⟩⟩⟩
  | _=>exact va.elim
end
theorem zj1 {es:List Dr.Ev} {ds:List D} (h:ds.all zi3=false):ds.all zaE=false:=by
 rw [List.all_eq_false] at h ⊢
 obtain ⟨d,hd,hn⟩:=h
 refine ⟨d,hd,fun z=>hn ?_⟩
 obtain ⟨p,rfl,_⟩:=zh6 z
 rfl
theorem zlF (es:List Dr.Ev):∀ ds:List D,ds.all (gwB es)=(ds.all zaE && (ds.map tiI).all fun p=>decide (p∈zgx es))
 | []=>rfl
 | d::ds=>by
  rw [List.all_cons,zlF es ds,List.all_cons,List.map_cons,List.all_cons,gwB]
  cases zaE d<;>cases ds.all zaE<;>simp
theorem zhs {j:Nat} {es:List Dr.Ev} {thing:D} (hl:es.length<=60) (ht:ThG thing):Call (cfN tab (j+2)) zd1 [] [.v (tbS false es),.v thing] (fun r fin=>fin=[]/\r=.v (.bl (gdV es thing))):=by
 refine zaC (d:=zW) rfl rfl (by simp) (by simp) ?_
 refine zh <| zhC (A:=false) <| h_or <| zcj <| zc0 <| zo (d:=thing) rfl ?_
 obtain ⟨hk,h64⟩:=ht
 cases thing with
 | tup ds =>
  refine ⟨.tup ds,true,rfl,rfl,true,rfl,.inl ⟨rfl,zcj <| ziV (p:=zi3) (xs:=ds) rfl rfl (by have:=hk.1;omega) (fun d hd=>zjc (j:=j) (hk.2 d hd).1) ⟨_,rfl,?_⟩⟩⟩
  cases hd:ds.all zi3 with
  | false=>exact .inl ⟨rfl,zh <| zC (A:=false) <| zo (d:=.bl false) rfl ⟨[],rfl,rfl,by rw [gdV,zj1 (es:=es) hd];rfl⟩⟩
  | true =>
   refine .inr ⟨rfl,za9 <| zh <| zdI (A:=false) (by simp) <| zlA (s:=false) (es:=es) rfl rfl hl <| zh <| zdI (A:=false) (by simp) <| zlB (A:=false) <| zdO <| zo (d:=tbS false es) rfl ⟨_,es.map (evS false),rfl,zfP false es,rfl,by simp;omega,?_⟩⟩
   refine zdZ (A:=false) (p:=pJ) (F:=fun x=>.int (fJ x)) (by simp [tgI]) (by simp [zW]) rfl (fun x hx=>?_) ?_
   ·obtain ⟨e,_,rfl⟩:=List.mem_map.mp hx
    refine ⟨_,rfl,rfl,zo (d:=.bl (pJ (evS false e))) ?_ ⟨rfl,rfl⟩,fun hp=>zo (d:=.int (fJ (evS false e))) ?_ ⟨rfl,rfl⟩⟩
    ·rw [zju,<- zh4]
     exact in2 (w:=e.wd) (by simp [pk,OT.top,zb3,ev_0,zW])
    ·rw [zju] at hp
     simp [pk,OT.top,zb3,zkq hp,fJ,zdx,zW]
   ·have e1:[]++List.map (fun x=>D.int (fJ x)) (List.filter pJ (es.map (evS false)))=((es.filter zbs).map zgu).map .int:=by
     rw [List.nil_append,<- zlK false es (zju false) (fJ_ev false),List.map_map];rfl
    rw [e1]
    refine zh <| zks (A:=false) <| zdO <| zo (d:=.tup ds) rfl ⟨_,ds,rfl,rfl,by have:=hk.1;omega,zkn (j:=j) ds none none hk.2 (List.all_eq_true.mp hd) (fun z o4 o5=>?_) (fun z o4 o5=>⟨[],rfl,rfl,?_⟩)⟩
    ·rw [zlF,Bool.and_eq_true_iff] at z
     obtain ⟨eD,eG⟩:=zgd z.1
     have l64:=h64 ds rfl z.1
     have ev:gdV es (.tup ds)=decide (ds.map tiI=zaU (ds.map tiI)):=by rw [gdV,z.1,z.2];simp
     generalize ds.map tiI=ps at eD eG ev
     have hpl:ps.length<64:=by
      have:=congrArg List.length eD
      rw [List.length_map] at this;omega
     refine zh <| zC (A:=false) <| zjH <| ziU <| zk <| zo (d:=.tup ds) rfl <| zI ⟨[.tup ds],ds,rfl,rfl,?_⟩
     refine ziT (ps:=ps) <| zo (d:=.tup ds) rfl ⟨.inl (by rw [eD];rfl),hpl,.lst ds,.lst ((zaU ps).map tiD),decide (ps=zaU ps),rfl,rfl,?_,[],rfl,rfl,by rw [ev]⟩
     have:=zlS eG (ziq eG)
     rw [eD] at this
     exact this
    ·rw [zlF] at z
     rw [gdV]
     cases h1:ds.all zaE with
     | false=>rfl
     | true =>
      rw [h1,Bool.true_and] at z
      rw [z];simp
 | int x=>exact ⟨_,false,rfl,rfl,false,rfl,.inr ⟨rfl,.inl ⟨rfl,zh <| zC (A:=false) <| zo (d:=.bl false) rfl ⟨[],rfl,rfl,rfl⟩⟩⟩⟩
 | bl x=>exact ⟨_,false,rfl,rfl,false,rfl,.inr ⟨rfl,.inl ⟨rfl,zh <| zC (A:=false) <| zo (d:=.bl false) rfl ⟨[],rfl,rfl,rfl⟩⟩⟩⟩
 | non=>exact ⟨_,false,rfl,rfl,false,rfl,.inr ⟨rfl,.inl ⟨rfl,zh <| zC (A:=false) <| zo (d:=.bl false) rfl ⟨[],rfl,rfl,rfl⟩⟩⟩⟩
 | str x=>exact ⟨_,false,rfl,rfl,false,rfl,.inr ⟨rfl,.inl ⟨rfl,zh <| zC (A:=false) <| zo (d:=.bl false) rfl ⟨[],rfl,rfl,rfl⟩⟩⟩⟩
 | lst x=>exact ⟨_,false,rfl,rfl,false,rfl,.inr ⟨rfl,.inl ⟨rfl,zh <| zC (A:=false) <| zo (d:=.bl false) rfl ⟨[],rfl,rfl,rfl⟩⟩⟩⟩
 | _=>exact hk.elim
end Mp.V
namespace Mp.V
open PySem L2
def zmk (d:D):Prop:=∃ (a:D) (b:Int),d=.tup [a,.int b]/\((∃ i,a=.int i)\/∃ w,WdG w/\a=.str w)
theorem zmk.py {d:D} (h:zmk d):∃ p q,d.py=some (.tuple [p,.int q])/\(PyData.canLay0 p=true/\PyData.depth p=0):=by
 obtain ⟨a,b,rfl,h⟩:=h
 rcases h with ⟨i,rfl⟩ | ⟨w,hw,rfl⟩
 ·exact ⟨.int i,b,by simp [D.py,D.pys],by simp [PyData.canLay0],by simp [PyData.depth]⟩
 ·exact ⟨.str w,b,by simp [D.py,D.pys],zhH hw,by simp [PyData.depth]⟩
theorem zmk.vl {d:D} (h:zmk d):Vl d:=by obtain ⟨a,b,rfl,h⟩:=h;trivial
theorem zmk.rc {d:D} (h:zmk d):Rc d:=by
 obtain ⟨p,q,e,h1,h2⟩:=h.py
 obtain ⟨a,b,rfl,_⟩:=h
 refine zk5 rfl e ?_ ?_ (fun s=>?_)
 ·simp only [PyData.depth,PyData.depthAll,h2];decide
 ·simp only [SeqAt.shaped,PyData.canLay0,PyData.canLayAll0,PyData.depth,PyData.depthAll,h1,h2];decide
 ·rfl
theorem zmk.pt {d:D} (h:zmk d):zj6 d:=by
 refine ⟨h.vl,fun x y e=>?_⟩
 obtain ⟨a,b,rfl,h⟩:=h
 simp only [D.tup.injEq,List.cons.injEq,and_true] at e
 obtain ⟨rfl,rfl⟩:=e
 rcases h with ⟨i,rfl⟩ | ⟨w,hw,rfl⟩
 ·exact ⟨trivial,trivial,zbG rfl⟩
 ·exact ⟨trivial,trivial,zbG rfl⟩
theorem rc_nil:Rc (.tup []):=zk5 (e:=.tuple []) rfl (by simp [D.py,D.pys]) (by decide) (by decide) (fun s=>rfl)
theorem zjt {d:D} (hv:Vl d) (h:∀ a b,d≠.tup [a,b]):zj6 d:=⟨hv,fun a b e=>absurd e (h a b)⟩
theorem zhS {a b:D} (h1:Vl a) (h2:Vl b) (h3:Rc a):zj6 (.tup [a,b]):=by
 refine ⟨trivial,fun x y e=>?_⟩
 simp only [D.tup.injEq,List.cons.injEq,and_true] at e
 obtain ⟨rfl,rfl⟩:=e
 exact ⟨h1,h2,h3⟩
def ThB:D->Prop
 | .tup ds=>ds.length<400/\(∀ x∈ds,zj6 x)/\ds.countP zaE<=60
 | d=>Vl d
theorem ThB.g {d:D} (h:ThB d):ThG d:=by
 cases d with
 | tup ds =>
  obtain ⟨h1,h2,h3⟩:=h
  refine ⟨⟨by omega,h2⟩,fun xs e ha=>?_⟩
  cases e
  have:ds.countP zaE=ds.length:=List.countP_eq_length.mpr (List.all_eq_true.mp ha)
  omega
 | non=>exact ⟨trivial,fun xs e=>by cases e⟩
 | int _=>exact ⟨trivial,fun xs e=>by cases e⟩
 | bl _=>exact ⟨trivial,fun xs e=>by cases e⟩
 | str _=>exact ⟨trivial,fun xs e=>by cases e⟩
 | lst _=>exact ⟨trivial,fun xs e=>by cases e⟩
 | _=>exact h.elim
def zdi (ds:List D):Prop:=ds.length<=110/\(∀ x∈ds,zmk x)/\ds.countP zaE<=52
theorem zdi.b {ds:List D} (h:zdi ds):ThB (.tup ds):=⟨by have:=h.1;omega,fun x hx=>(h.2.1 x hx).pt,by have:=h.2.2;omega⟩
theorem zib {α:Type} (xs:List α) (a b:Option Int):(zbj xs a b).Sublist xs:=(List.take_sublist _ _).trans (List.drop_sublist _ _)
theorem ThB.app {xs ys:List D} (h:ThB (.tup xs)) (h2:ThB (.tup ys)) (hl:xs.length+ys.length<400) (hc:xs.countP zaE+ys.countP zaE<=60):ThB (.tup (xs++ys)) :=
 ⟨by simpa using hl,fun x hx=>(List.mem_append.mp hx).elim (h.2.1 x) (h2.2.1 x),by rw [List.countP_append];exact hc⟩
theorem zb0 {ds:List D} (h:zdi ds) (a b:Option Int):zdi (zbj ds a b):=by
 have s:=zib ds a b
 exact ⟨by have:=s.length_le;have:=h.1;omega,fun x hx=>h.2.1 x (s.subset hx),by have:=s.countP_le (p:=zaE);have:=h.2.2;omega⟩
theorem zhQ {ds:List D} (h:zdi ds):zdi ds.reverse:=⟨by simpa using h.1,fun x hx=>h.2.1 x (List.mem_reverse.mp hx),by rw [List.countP_reverse];exact h.2.2⟩
theorem zbk {x:D} (h:zj6 x):ThB (.tup [x]):=⟨by simp,fun y hy=>by simp at hy;subst hy;exact h,by have:=List.countP_le_length (p:=zaE) (l:=[x]);rw [List.length_singleton] at this;omega⟩
theorem zkD {xs ys:List D} {x:D} (h1:zdi xs) (h2:zdi ys) (hc:xs.countP zaE+ys.countP zaE<=52) (h:zj6 x):ThB (.tup (xs++[x]++ys)):=by
 have c1:=List.countP_le_length (p:=zaE) (l:=[x])
 have:=h1.1;have:=h2.1;have:=h1.2.2;have:=h2.2.2
 refine ThB.app (ThB.app h1.b (zbk h) (by simp;omega) ?_) h2.b (by simp;omega) ?_
 ·rw [List.length_singleton] at c1;omega
 ·rw [List.countP_append];rw [List.length_singleton] at c1;omega
theorem zgH {xs ys zs:List D} (h1:zdi xs) (h2:zdi ys) (h3:zdi zs) (hc:xs.countP zaE+ys.countP zaE+zs.countP zaE<=60):ThB (.tup (xs++ys++zs)):=by
 have:=h1.1;have:=h2.1;have:=h3.1;have:=h1.2.2;have:=h2.2.2;have:=h3.2.2
 exact ThB.app (ThB.app h1.b h2.b (by omega) (by omega)) h3.b (by simp;omega) (by rw [List.countP_append];omega)
theorem zl0 {α:Type} {xs:List α} {u:Nat}:zbj xs (some (u:Int)) none=xs.drop u:=by
 unfold zbj
 rw [HT.sIx_nat,HT.sIx_none]
 by_cases h:u<=xs.length
 ·rw [Nat.min_eq_left h];exact List.take_of_length_le (by simp)
 ·rw [Nat.min_eq_right (by omega),Nat.sub_self,List.take_zero,List.drop_of_length_le (by omega)]
theorem zjb {α:Type} {xs:List α} {u r:Nat} (h:u<=xs.length):zbj xs (some (u:Int)) (some ((u:Int)+(r:Int)))=(xs.drop u).take r:=by
 unfold zbj
 have e:((u:Int)+(r:Int))=((u+r:Nat):Int):=by omega
 rw [e,HT.sIx_nat,HT.sIx_nat,Nat.min_eq_left h]
 by_cases h2:u+r<=xs.length
 ·rw [Nat.min_eq_left h2,Nat.add_sub_cancel_left]
 ·rw [Nat.min_eq_right (by omega),List.take_of_length_le (by simp),List.take_of_length_le (by simp;omega)]
theorem cnt_two (ds:List D) (q:Nat):(zbj ds none (some (q:Int))).countP zaE+(zbj ds (some (q:Int)) none).countP zaE=ds.countP zaE:=by
 rw [zgj,zl0,<- List.countP_append,List.take_append_drop]
theorem zl1 (ds:List D) {q r:Nat} (h:q<=ds.length):(zbj ds none (some (q:Int))).countP zaE+(zbj ds (some (q:Int)) (some ((q:Int)+(r:Int)))).countP zaE+(zbj ds (some ((q:Int)+(r:Int))) none).countP zaE=ds.countP zaE:=by
 have e:((q:Int)+(r:Int))=((q+r:Nat):Int):=by omega
 rw [zjb h,e,zl0,zgj]
 have h1:(ds.drop q).countP zaE=((ds.drop q).take r).countP zaE+(ds.drop (q+r)).countP zaE:=by
  rw [<- List.countP_append,<- List.drop_drop,List.take_append_drop]
 have h2:ds.countP zaE=(ds.take q).countP zaE+(ds.drop q).countP zaE:=by rw [<- List.countP_append,List.take_append_drop]
 omega
theorem cnt_one (ds:List D) {q:Nat} (h:q<=ds.length):(zbj ds (some (q:Int)) (some ((q:Int)+1))).countP zaE<=1:=by
 have:=zjb (xs:=ds) (u:=q) (r:=1) h
 have h2:(zbj ds (some (q:Int)) (some ((q:Int)+1)))=(ds.drop q).take 1:=this
 rw [h2]
 have:=List.countP_le_length (p:=zaE) (l:=(ds.drop q).take 1)
 have:((ds.drop q).take 1).length<=1:=by simp;omega
 omega
theorem ziA:∀ {ds:List D},(∀ x∈ds,zmk x)->∃ ps,D.pys ds=some ps/\PyData.depthAll ps<=3/\PyData.canLayAll0 ps=true/\ps.length=ds.length
 | [],_=>⟨[],rfl,by simp [PyData.depthAll],by simp [PyData.canLayAll0],rfl⟩
 | d::ds,h=>by
  obtain ⟨ps,h1,h2,h3,h4⟩:=ziA fun x hx=>h x (List.mem_cons_of_mem _ hx)
  obtain ⟨p,q,e,l,dp⟩:=(h d List.mem_cons_self).py
  refine ⟨.tuple [p,.int q]::ps,by rw [D.pys,e,h1],?_,?_,by simp [h4]⟩
  ·rw [PyData.depthAll]
   simp only [PyData.depth,PyData.depthAll,dp] at h2 ⊢
   omega
  ·rw [PyData.canLayAll0,h3]
   simp [PyData.canLay0,PyData.canLayAll0,l]
theorem deq_rows {ds:List D} (h:∀ x∈ds,zmk x):deq (.tup ds) (.tup [])=some ds.isEmpty:=by
 obtain ⟨ps,h1,h2,h3,h4⟩:=ziA h
 have e1:(D.tup ds).py=some (.tuple ps):=py_tup h1
 have e2:(D.tup []).py=some (.tuple []):=rfl
 have s1:PyData.depth (.tuple ps)<20:=by simp only [PyData.depth];omega
 have l1:SeqAt.shaped (.tuple ps)=true:=zdq (by rw [PyData.canLay0];exact h3) s1
 have e0:zi5 (.tup ds) (.tup [])=none:=rfl
 rw [deq,e0]
 simp only [e1,e2]
 rw [if_pos ⟨s1,by decide,l1,by decide⟩]
 cases ps with
 | nil=>cases ds with
  | nil=>rfl
  | cons _ _=>simp at h4
 | cons p ps=>cases ds with
  | nil=>simp at h4
  | cons _ _=>rfl
end Mp.V
namespace Mp.V
open PySem L2
section
variable {A:Bool} {cf:CF} {env:Env} {es:Es}
theorem h_lstk {ds:List D} {Q:OT->Env->Prop} (h:pks env es=some ds) (hl:ds.length<=1000000) (q:Q (.ol ds) env):HE A cf (.lst es) env Q:=fun sg M nss X S=>by
 obtain ⟨vs,e1,r⟩:=zlh (cf:=cf) S es h
 refine ⟨.ref M.length,M++[.lst vs],.ol ds,_,env,nss,?_,(zgg S).newL r,q⟩
 rw [evE,e1]
 simp only [Option.bind_some]
 rw [if_pos (by rw [r.length];have:sizeLine=16777216:=rfl;omega)]
end
section
variable {j:Nat} {t:OT} {k:Int}
theorem zif {xs:List D} (ht:BxT t k) (hk:k<100000000) (h0:xs≠[]) (hl:xs.length<1000):Call (cfN tab (j+2)) zcB [0] [t,.v (.lst xs)] (fun r fin=>∃ d t',r=.v d/\fin=[t']/\BxT t' (k+1)/\d∈xs):=by
 have hp:0<xs.length:=List.length_pos_iff.mpr h0
 refine zaC (d:=zcy) rfl rfl (by simp) (by simp [zcy]) ?_
 refine zh <| zC (A:=false) <| h_idx <| zo (d:=.lst xs) rfl <| zY <| zkh rfl <| zag (A:=false) <| zo (d:=.int (xs.length:Nat)) rfl ⟨_,rfl,zaI (zeg (i:=0) (ds:=[.int (xs.length:Nat)]) rfl (cb (zcI (j:=j) ht (by omega) (by omega) (by omega))) fun r t1 h=>?_)⟩
 obtain ⟨d,rfl,B1,n,rfl,n0,n1⟩:=h
 obtain ⟨n,rfl⟩:=Int.eq_ofNat_of_zero_le n0
 have hn:n<xs.length:=by omega
 refine ⟨.lst xs,.int ((n:Nat):Int),xs[n],rfl,rfl,?_,[t1],rfl,xs[n],t1,rfl,rfl,B1,List.getElem_mem hn⟩
 simp only [zdh]
 exact zjf (List.getElem?_eq_getElem hn)
def zg0:List D:=[.lst [],.tup [.tup []],.tup [.tup [.int 0]],.tup [.tup [.int 0,.int 0,.int 0]],.tup [.tup [.str ("reader" : Str),.int 9]],.tup [.tup [.int 0,.bl true]],.tup [.tup [.str ("copy" : Str),.int 7]]]
theorem nils_ok:∀ d∈zg0,ThB d:=by
 intro d hd
 simp only [zg0,List.mem_cons,List.not_mem_nil,or_false] at hd
 rcases hd with rfl | rfl | rfl | rfl | rfl | rfl | rfl
 ·trivial
 ·exact zbk (zjt trivial (by simp))
 ·exact zbk (zjt trivial (by simp))
 ·exact zbk (zjt trivial (by simp))
 ·exact zbk (zhS trivial trivial (zbG rfl))
 ·exact zbk (zhS trivial trivial (zbG rfl))
 ·exact zbk (zhS trivial trivial (zbG rfl))
def zhE:List D:=[.bl true,.int (-1),.int 0,.int 1,.int 5,.int 99,.str ("reader" : Str),.str ("copy" : Str),.str ("readers" : Str),.non,.tup [],.int 1000000000000]
theorem oth_ok:∀ d∈zhE,Vl d/\Rc d:=by
 intro d hd
 simp only [zhE,List.mem_cons,List.not_mem_nil,or_false] at hd
 rcases hd with rfl | rfl | rfl | rfl | rfl | rfl | rfl | rfl | rfl | rfl | rfl | rfl<;>first | exact ⟨trivial,zbG rfl⟩ | exact ⟨trivial,rc_nil⟩
theorem zl8 {ds:List D} (ht:BxT t k) (hk:k<1000000) (hr:zdi ds) :
  Call (cfN tab (j+3)) zdw [0] [t,.v (.tup ds)] (fun r fin=>∃ d t',r=.v d/\fin=[t']/\BxT t' (k+5)/\ThB d):=by
 have hsz:sizeLine=16777216:=rfl
 have hl:=hr.1
 refine zaC (d:=zca) rfl rfl (by simp) (by simp [zca]) ?_
 refine zh <| zhC (A:=false) <| zo (d:=.bl ds.isEmpty) (by simp [pk,pks,OT.top,zcG,deq_rows hr.2.1,sizeLine]) ?_
 cases ds with
 | nil =>
  refine .inl ⟨rfl,zh <| zC (A:=false) <| zY <| zkh rfl <| zag (A:=false) <| zg7 <| zk <| zg7 <| zI ⟨[],rfl,by simp,zk <| zo (d:=.tup [.tup []]) (by simp [pk,pks,sizeLine]) <| zk <| zo (d:=.tup [.tup [.int 0]]) (by simp [pk,pks,sizeLine,zb3]) <| zk <| zo (d:=.tup [.tup [.int 0,.int 0,.int 0]]) (by simp [pk,pks,sizeLine,zb3]) <| zk <| zo (d:=.tup [.tup [.str ("reader" : Str),.int 9]]) (by simp [pk,pks,sizeLine,zb3]) <| zk <| zo (d:=.tup [.tup [.int 0,.bl true]]) (by simp [pk,pks,sizeLine,zb3]) <| zk <| zo (d:=.tup [.tup [.str ("copy" : Str),.int 7]]) (by simp [pk,pks,sizeLine,zb3]) <| zI ⟨zg0,rfl,by simp [zg0],_,rfl,zaI (zeg (i:=0) (ds:=[.lst zg0]) rfl (cb (zif (j:=j) (xs:=zg0) ht (by omega) (by simp [zg0]) (by simp [zg0]))) fun r t1 h=>?_)⟩⟩⟩
  obtain ⟨d,rfl,B1,hd⟩:=h
  exact ⟨[t1],rfl,d,t1,rfl,rfl,B1.mono (by omega),nils_ok d hd⟩
 | cons x xs =>
  generalize hds:x::xs=ds at *
  have hne:ds≠[]:=by rw [<- hds];simp
  have hp:0<ds.length:=List.length_pos_iff.mpr hne
  refine .inr ⟨by rw [<- hds];rfl,za9 ?_⟩
  refine zh <| zgE (A:=false) (by simp) <| zk <| zY <| zkh rfl <| zag (A:=false) <| zo (d:=.int (ds.length:Nat)) rfl ⟨_,rfl,zaI (zeg (i:=0) (ds:=[.int (ds.length:Nat)]) rfl (cb (zcI (j:=j+1) ht (by omega) (by omega) (by omega))) fun r t1 h=>?_)⟩
  obtain ⟨d,rfl,B1,q,rfl,q0,q1⟩:=h
  obtain ⟨q,rfl⟩:=Int.eq_ofNat_of_zero_le q0
  have hq:q<ds.length:=by omega
  refine zk <| zY <| zkh rfl <| zag (A:=false) <| zo (d:=.int 2) rfl ⟨_,rfl,zaI (zeg (i:=0) (ds:=[.int 2]) rfl (cb (zcI (j:=j+1) B1 (by omega) (by omega) (by omega))) fun r t2 h=>?_)⟩
  obtain ⟨d,rfl,B2,at_,rfl,a0,a1⟩:=h
  refine zI ⟨by simp,_,rfl,?_⟩
  obtain ⟨a,b,hab,hkind⟩:=hr.2.1 ds[q] (List.getElem_mem hq)
  have hown:zdh (.tup ds) (.int ((q:Nat):Int))=some (.tup [a,.int b]):=by
   simp only [zdh];rw [zjf (List.getElem?_eq_getElem hq),hab]
  show HSs (cfN tab (j+2)) [0] _ [some t2,some (.v (.tup ds)),some (.v (.int (q:Nat))),some (.v (.int at_)),none,none,none,none,none] _
  refine zh <| zgE (A:=false) (by simp) <| zk <| zo (d:=.tup [a,.int b]) (by simp [pk,OT.top,hown]) <| zk <| h_lstk (ds:=zhE) (by simp [pks,pk,zb3,sizeLine,zhE,OT.top,zfj]) (by simp [zhE]) <| zI ⟨by simp,_,rfl,?_⟩
  show HSs (cfN tab (j+2)) [0] _ [some t2,some (.v (.tup ds)),some (.v (.int (q:Nat))),some (.v (.int at_)),some (.v (.tup [a,.int b])),some (.ol zhE),none,none,none] _
  refine zh <| zdI (A:=false) (by simp) <| zY <| zkh rfl <| zag (A:=false) <| zo (d:=.int 7) rfl ⟨_,rfl,zaI (zeg (i:=0) (ds:=[.int 7]) rfl (cb (zcI (j:=j+1) B2 (by omega) (by omega) (by omega))) fun r t3 h=>?_)⟩
  obtain ⟨d,rfl,B3,w,rfl,w0,w1⟩:=h
  show HSs (cfN tab (j+2)) [0] _ [some t3,some (.v (.tup ds)),some (.v (.int (q:Nat))),some (.v (.int at_)),some (.v (.tup [a,.int b])),some (.ol zhE),some (.v (.int w)),none,none] _
  have cl:∀ x y,(zbj ds x y).length<=ds.length:=fun x y=>(zib ds x y).length_le
  have cc:∀ x y,(zbj ds x y).countP zaE<=ds.countP zaE:=fun x y=>(zib ds x y).countP_le (p:=zaE)
  have hcg:=hr.2.2
  have hmid:(zbj ds none (some (q:Int))).countP zaE+(zbj ds (some ((q:Int)+1)) none).countP zaE<=52:=by
   have c1:=zl1 ds (q:=q) (r:=1) (by omega)
   have c2:(zbj ds none (some (q:Int))).countP zaE+(zbj ds (some (q:Int)) (some ((q:Int)+1))).countP zaE+(zbj ds (some ((q:Int)+1)) none).countP zaE=ds.countP zaE:=c1
   omega
  refine zh <| zhC (A:=false) <| zo (d:=.bl (decide (w=0))) (by simp [pk,OT.top,zb3,zcG,deq,zi5]) ?_
  by_cases w0':w=0
  ·refine .inl ⟨by simp [w0'],zh <| zC (A:=false) <| zo (d:=.tup (zbj ds none (some (q:Nat))++zbj ds (some (q:Nat)) (some ((q:Nat)+1))++zbj ds (some (q:Nat)) none)) ?_ ⟨[t3],rfl,_,t3,rfl,rfl,B3.mono (by omega),zgH (zb0 hr _ _) (zb0 hr _ _) (zb0 hr _ _) ?_⟩⟩
   ·have l1:=cl none (some (q:Nat));have l2:=cl (some (q:Nat)) (some ((q:Nat)+1));have l3:=cl (some (q:Nat)) none
    simp only [pk,List.getElem?_cons_succ,List.getElem?_cons_zero,Option.join,OT.top,Option.bind_some,zlP,dopt,zb3,Option.map_some,zfj]
    rw [if_pos (by omega)]
    simp only [Option.bind_some,OT.top,Option.map_some,zfj]
    rw [if_pos (by rw [List.length_append];omega)]
    rfl
   ·have c1:=cnt_two ds q;have c2:=cnt_one ds (q:=q) (by omega)
    omega
  refine .inr ⟨by simp [w0'],za9 ?_⟩
  refine zh <| zhC (A:=false) <| zo (d:=.bl (decide (w=1))) (by simp [pk,OT.top,zb3,zcG,deq,zi5]) ?_
  by_cases w1':w=1
  ·refine .inl ⟨by simp [w1'],zh <| zC (A:=false) <| zo (d:=.tup (zbj ds none (some (q:Nat))++(zbj ds (some (q:Nat)) (some ((q:Nat)+2))).reverse++zbj ds (some ((q:Nat)+2)) none)) ?_ ⟨[t3],rfl,_,t3,rfl,rfl,B3.mono (by omega),zgH (zb0 hr _ _) (zhQ (zb0 hr _ _)) (zb0 hr _ _) ?_⟩⟩
   ·have l1:=cl none (some (q:Nat));have l2:=cl (some (q:Nat)) (some ((q:Nat)+2));have l3:=cl (some ((q:Nat)+2)) none
    have l4:(zbj ds (some (q:Nat)) (some ((q:Nat)+2))).reverse.length=(zbj ds (some (q:Nat)) (some ((q:Nat)+2))).length:=List.length_reverse
    simp only [pk,List.getElem?_cons_succ,List.getElem?_cons_zero,Option.join,OT.top,Option.bind_some,zlP,dopt,zb3,Option.map_some,zfj]
    rw [if_pos (by omega)]
    simp only [Option.bind_some,OT.top,Option.map_some,zfj]
    rw [if_pos (by rw [List.length_append];omega)]
    rfl
   ·have c1:=zl1 ds (q:=q) (r:=2) (by omega)
    have c2:(zbj ds none (some (q:Int))).countP zaE+(zbj ds (some (q:Int)) (some ((q:Int)+2))).countP zaE+(zbj ds (some ((q:Int)+2)) none).countP zaE=ds.countP zaE:=c1
    rw [List.countP_reverse]
    omega
  refine .inr ⟨by simp [w1'],za9 ?_⟩
  refine zh <| zhC (A:=false) <| zo (d:=.bl (decide (w=2))) (by simp [pk,OT.top,zb3,zcG,deq,zi5]) ?_
  have l1:=cl none (some (q:Nat));have l3:=cl (some ((q:Nat)+1)) none
  by_cases w2':w=2
  ·refine .inl ⟨by simp [w2'],zh <| zC (A:=false) <| zY <| zkh rfl <| zag (A:=false) <| zg7 <| zk <| ziU <| zk <| zo (d:=.tup ds) rfl <| zI ⟨[.tup ds],ds,rfl,rfl,?_⟩⟩
   refine zk <| h_bop <| h_bop <| zo (d:=.tup (zbj ds none (some (q:Nat)))) rfl <| h_tup <| zk <| ziU <| zk <| zo (d:=.tup [a,.int b]) rfl <| zI ⟨[.tup [a,.int b]],[a,.int b],rfl,rfl,zI ⟨[.lst [a,.int b]],rfl,by simp,_,_,.tup (zbj ds none (some (q:Nat))++[.lst [a,.int b]]),rfl,rfl,?_,zo (d:=.tup (zbj ds (some ((q:Nat)+1)) none)) rfl ⟨_,_,.tup (zbj ds none (some (q:Nat))++[.lst [a,.int b]]++zbj ds (some ((q:Nat)+1)) none),rfl,rfl,?_,?_⟩⟩⟩
   ·simp only [zfj];rw [if_pos (by simp;omega)]
   ·simp only [zfj];rw [if_pos (by simp;omega)]
   obtain ⟨L,hLe,hLn,hL⟩:∃ L:List D,L=[D.lst ds,D.tup (zbj ds none (some (q:Nat))++[D.lst [a,.int b]]++zbj ds (some ((q:Nat)+1)) none),D.tup (ds++[D.tup [a]]),D.tup [D.tup ds]]/\L.length=4/\∀ d∈L,ThB d:=by
    refine ⟨_,rfl,rfl,fun d hd=>?_⟩
    simp only [List.mem_cons,List.not_mem_nil,or_false] at hd
    rcases hd with rfl | rfl | rfl | rfl
    ·trivial
    ·exact zkD (zb0 hr _ _) (zb0 hr _ _) hmid (zjt trivial (by simp))
    ·exact ThB.app hr.b (zbk (zjt trivial (by simp))) (by simp;omega) (by have:=List.countP_le_length (p:=zaE) (l:=[D.tup [a]]);rw [List.length_singleton] at this;omega)
    ·refine zbk ⟨trivial,fun x y e=>?_⟩
     simp only [D.tup.injEq] at e
     exact ⟨(hr.2.1 x (by simp [e])).vl,(hr.2.1 y (by simp [e])).vl,(hr.2.1 x (by simp [e])).rc⟩
   refine zk <| zo (d:=.tup (ds++[.tup [a]])) ?_ <| zk <| zo (d:=.tup [.tup ds]) (by simp [pk,pks,sizeLine]) <| zI ⟨L,by rw [hLe];rfl,by omega,_,rfl,?_⟩
   ·have e:zbj [a,D.int b] none (some 1)=[a]:=rfl
    simp only [pk,pks,List.getElem?_cons_succ,List.getElem?_cons_zero,Option.join,OT.top,Option.bind_some,zlP,dopt,zb3,Option.map_some,zfj,e,OT.toD]
    rw [if_pos (by simp;omega)]
    simp only [Option.bind_some,OT.top,zfj]
    rw [if_pos (by simp;omega)]
    rfl
   refine zaI (zeg (i:=0) (ds:=[.lst L]) rfl (cb (zif (j:=j) (xs:=L) B3 (by omega) (by intro z;rw [z] at hLn;cases hLn) (by omega))) fun r t4 h=>?_)
   obtain ⟨d,rfl,B4,hd⟩:=h
   exact ⟨[t4],rfl,d,t4,rfl,rfl,B4.mono (by omega),hL d hd⟩
  refine .inr ⟨by simp [w2'],za9 ?_⟩
  refine zh <| zdI (A:=false) (by simp) <| zY <| zkh rfl <| zag (A:=false) <| zlD (d:=.lst zhE) rfl rfl ⟨_,rfl,zaI (zeg (i:=0) (ds:=[.lst zhE]) rfl (cb (zif (j:=j) (xs:=zhE) B3 (by omega) (by simp [zhE]) (by simp [zhE]))) fun r t4 h=>?_)⟩
  obtain ⟨o,rfl,B4,ho⟩:=h
  obtain ⟨vo,rco⟩:=oth_ok o ho
  show HSs (cfN tab (j+2)) [0] _ [some t4,some (.v (.tup ds)),some (.v (.int (q:Nat))),some (.v (.int at_)),some (.v (.tup [a,.int b])),some (.v (.lst zhE)),some (.v (.int w)),some (.v o),none] _
  have rca:Rc a:=by rcases hkind with ⟨i,rfl⟩ | ⟨w,hw,rfl⟩<;>exact zbG rfl
  have vla:Vl a:=by rcases hkind with ⟨i,rfl⟩ | ⟨w,hw,rfl⟩<;>trivial
  have tail:∀ (t5:OT) (o:D),BxT t5 (k+5)->Vl o->Rc o->HSs (cfN tab (j+2)) [0] (.cons (.asg (.name 8) (.ite (.cmp .eq (.var 3) (.con (.int 0))) (.tup (.cons (.var 7) (.cons (.idx (.var 4) (.con (.int 1))) .nil))) (.tup (.cons (.idx (.var 4) (.con (.int 0))) (.cons (.var 7) .nil))))) (.cons (.ret (.bop .add (.bop .add (.slc false true (.var 1) (.con .non) (.var 2)) (.tup (.cons (.var 8) .nil))) (.slc true false (.var 1) (.bop .add (.var 2) (.con (.int 1))) (.con .non)))) .nil)) [some t5,some (.v (.tup ds)),some (.v (.int (q:Nat))),some (.v (.int at_)),some (.v (.tup [a,.int b])),some (.v (.lst zhE)),some (.v (.int w)),some (.v o),none] (retQ [0] fun r fin=>∃ d t',r=.v d/\fin=[t']/\BxT t' (k+5)/\ThB d):=by
   intro t5 o B5 vo rco
   have fin:∀ p:D,zj6 p->HSs (cfN tab (j+2)) [0] (.cons (.ret (.bop .add (.bop .add (.slc false true (.var 1) (.con .non) (.var 2)) (.tup (.cons (.var 8) .nil))) (.slc true false (.var 1) (.bop .add (.var 2) (.con (.int 1))) (.con .non)))) .nil) [some t5,some (.v (.tup ds)),some (.v (.int (q:Nat))),some (.v (.int at_)),some (.v (.tup [a,.int b])),some (.v (.lst zhE)),some (.v (.int w)),some (.v o),some (.v p)] (retQ [0] fun r fin=>∃ d t',r=.v d/\fin=[t']/\BxT t' (k+5)/\ThB d):=by
    intro p hp
    refine zh <| zC (A:=false) <| zo (d:=.tup (zbj ds none (some (q:Nat))++[p]++zbj ds (some ((q:Nat)+1)) none)) ?_ ⟨[t5],rfl,_,t5,rfl,rfl,B5,zkD (zb0 hr _ _) (zb0 hr _ _) hmid hp⟩
    simp only [pk,pks,List.getElem?_cons_succ,List.getElem?_cons_zero,Option.join,OT.top,Option.bind_some,zlP,dopt,zb3,Option.map_some,zfj,OT.toD]
    rw [if_pos (by simp;omega)]
    simp only [Option.bind_some,OT.top,zfj]
    rw [if_pos (by simp;omega)]
    simp only [Option.map_some,Option.bind_some,OT.top,zfj]
    rw [if_pos (by simp;omega)]
    rfl
   refine zh <| zdI (A:=false) (by simp) <| zlC <| zo (d:=.bl (decide (at_=0))) (by simp [pk,OT.top,zb3,zcG,deq,zi5]) ?_
   by_cases ha:at_=0
   ·exact .inl ⟨by simp [ha],zo (d:=.tup [o,.int b]) (by simp [pk,pks,OT.top,zb3,zdh,atI,ixN,sizeLine]) (fin _ (zhS vo trivial rco))⟩
   ·exact .inr ⟨by simp [ha],zo (d:=.tup [a,o]) (by simp [pk,pks,OT.top,zb3,zdh,atI,ixN,sizeLine]) (fin _ (zhS vla vo rca))⟩
  have hat:at_=0\/at_=1:=by omega
  refine zh <| zhC (A:=false) <| zeX <| zo (d:=.bl (decide (w=3))) (by simp [pk,OT.top,zb3,zcG,deq,zi5]) ?_
  by_cases w3':w=3
  ·refine .inl ⟨by simp [w3'],?_⟩
   have go:∀ i:Int,zdh (.tup [a,.int b]) (.int at_)=some (.int i)->HE false (cfN tab (j+2)) (.isi (.idx (.var 4) (.var 3)) [.int]) [some t4,some (.v (.tup ds)),some (.v (.int (q:Nat))),some (.v (.int at_)),some (.v (.tup [a,.int b])),some (.v (.lst zhE)),some (.v (.int w)),some (.v o),none] (fun t env1=>(t=.v (.bl true)/\HSs (cfN tab (j+2)) [0] (.cons (.asg (.name 7) (.bop .sub (.bop .add (.idx (.var 4) (.var 3)) (.con (.int 1))) (.bop .mul (.con (.int 2)) (.call zr (.cons (.var 0) (.cons (.con (.int 2)) .nil)))))) .nil) env1 (thn (retQ [0] fun r fin=>∃ d t',r=.v d/\fin=[t']/\BxT t' (k+5)/\ThB d) fun env1=>HSs (cfN tab (j+2)) [0] (.cons (.asg (.name 8) (.ite (.cmp .eq (.var 3) (.con (.int 0))) (.tup (.cons (.var 7) (.cons (.idx (.var 4) (.con (.int 1))) .nil))) (.tup (.cons (.idx (.var 4) (.con (.int 0))) (.cons (.var 7) .nil))))) (.cons (.ret (.bop .add (.bop .add (.slc false true (.var 1) (.con .non) (.var 2)) (.tup (.cons (.var 8) .nil))) (.slc true false (.var 1) (.bop .add (.var 2) (.con (.int 1))) (.con .non)))) .nil)) env1 (retQ [0] fun r fin=>∃ d t',r=.v d/\fin=[t']/\BxT t' (k+5)/\ThB d)))\/(t=.v (.bl false)/\HSs (cfN tab (j+2)) [0] .nil env1 (thn (retQ [0] fun r fin=>∃ d t',r=.v d/\fin=[t']/\BxT t' (k+5)/\ThB d) fun env1=>HSs (cfN tab (j+2)) [0] (.cons (.asg (.name 8) (.ite (.cmp .eq (.var 3) (.con (.int 0))) (.tup (.cons (.var 7) (.cons (.idx (.var 4) (.con (.int 1))) .nil))) (.tup (.cons (.idx (.var 4) (.con (.int 0))) (.cons (.var 7) .nil))))) (.cons (.ret (.bop .add (.bop .add (.slc false true (.var 1) (.con .non) (.var 2)) (.tup (.cons (.var 8) .nil))) (.slc true false (.var 1) (.bop .add (.var 2) (.con (.int 1))) (.con .non)))) .nil)) env1 (retQ [0] fun r fin=>∃ d t',r=.v d/\fin=[t']/\BxT t' (k+5)/\ThB d)))):=by
    intro i hi
    refine zc0 <| zo (d:=.int i) (by simp [pk,OT.top,hi]) ⟨.int i,true,rfl,rfl,.inl ⟨rfl,?_⟩⟩
    refine zh <| zdI (A:=false) (by simp) <| h_bop <| zo (d:=.int (i+1)) (by simp [pk,OT.top,hi,zb3,zfj]) <| h_bop <| zo (d:=.int 2) rfl <| zY <| zkh rfl <| zag (A:=false) <| zo (d:=.int 2) rfl ⟨_,rfl,zaI (zeg (i:=0) (ds:=[.int 2]) rfl (cb (zcI (j:=j+1) B4 (by omega) (by omega) (by omega))) fun r t5 h=>?_)⟩
    obtain ⟨d,rfl,B5,m,rfl,m0,m1⟩:=h
    have hm:m=0\/m=1:=by omega
    rcases hm with rfl | rfl
    ·exact ⟨.int 2,.int 0,.int 0,rfl,rfl,rfl,.int (i+1),.int 0,.int (i+1-0),rfl,rfl,rfl,za9 (tail t5 (.int (i+1-0)) (B5.mono (by omega)) trivial (zbG rfl))⟩
    ·exact ⟨.int 2,.int 1,.int 2,rfl,rfl,rfl,.int (i+1),.int 2,.int (i+1-2),rfl,rfl,rfl,za9 (tail t5 (.int (i+1-2)) (B5.mono (by omega)) trivial (zbG rfl))⟩
   rcases hat with rfl | rfl
   ·rcases hkind with ⟨i,rfl⟩ | ⟨w9,hw9,rfl⟩
    ·exact go i rfl
    ·exact zc0 <| zo (d:=.str w9) (by simp [pk,OT.top,zdh,atI,ixN]) ⟨.str w9,false,rfl,rfl,.inr ⟨rfl,za9 (tail t4 o (B4.mono (by omega)) vo rco)⟩⟩
   ·exact go b rfl
  ·exact .inr ⟨by simp [w3'],.inr ⟨rfl,za9 (tail t4 o (B4.mono (by omega)) vo rco)⟩⟩
end
end Mp.V
namespace Mp.V
open PySem L2
theorem rows_br {l:List (Int × Nat)} (h:l.length<=106):zdi (l.map swD):=by
 refine ⟨by simpa using (by omega:l.length<=110),fun x hx=>?_,?_⟩
 ·obtain ⟨q,_,rfl⟩:=List.mem_map.mp hx
  exact ⟨.int q.1,q.2,rfl,.inl ⟨q.1,rfl⟩⟩
 ·have:(l.map swD).countP zaE=0:=List.countP_eq_zero.mpr fun x hx=>by
   obtain ⟨q,_,rfl⟩:=List.mem_map.mp hx
   simp [swD,zaE,rcB]
  omega
theorem rows_gs {gs:List PV} {es:List Dr.Ev} (h:∀ g∈gs,g∈evL es) (hl:gs.length<=52):zdi (gs.map gdD):=by
 refine ⟨by simpa using (by omega:gs.length<=110),fun x hx=>?_,?_⟩
 ·obtain ⟨g,hg,rfl⟩:=List.mem_map.mp hx
  rcases List.mem_append.mp (h g hg) with q | q
  ·obtain ⟨c,_,rfl⟩:=List.mem_map.mp q
   exact ⟨.str ("copy" : Str),(c:Int),rfl,.inr ⟨_,.inr rfl,rfl⟩⟩
  ·obtain ⟨c,_,rfl⟩:=List.mem_map.mp q
   exact ⟨.str ("reader" : Str),c,rfl,.inr ⟨_,.inl rfl,rfl⟩⟩
 ·have:=List.countP_le_length (p:=zaE) (l:=gs.map gdD)
  rw [List.length_map] at this
  omega
theorem swK_soft (es:List Dr.Ev) (d:D):swK (es.map (evS true)) d=swK (es.map evD) d:=by
 have e:es.map (evS true)=(es.map evD).map D.soft:=by rw [List.map_map];rfl
 unfold swK
 split
 ·rw [e,many_s,many_e,List.length_map,List.length_map]
 ·rfl
theorem swV_soft (es:List Dr.Ev) (d:D):swV (es.map (evS true)) d=swV (es.map evD) d:=by
 cases d with
 | tup ds =>
  have:swK (es.map (evS true))=swK (es.map evD):=funext (swK_soft es)
  simp only [swV,this]
 | _=>rfl
theorem tbS_seq (es:List Dr.Ev):zcZ (tbS true es) (es.map (evS true)):=.inr rfl
theorem evsT (es:List Dr.Ev):EvsW (es.map (evS true)):=by
 have e:es.map (evS true)=(es.map evD).map D.soft:=by rw [List.map_map];rfl
 rw [e];exact evsS es
abbrev RE (t:OT) (o1:Option OT) (es:List Dr.Ev) (o4 o5 o6 o7 o8 o9 o10:Option OT):Env:=[some t,o1,some (.v (tbD es)),some (.v (tbS true es)),o4,o5,o6,o7,o8,o9,o10,none]
section
variable {j:Nat} {es:List Dr.Ev} {t:OT} {o1 o5 o6 o7 o8 o9 o10:Option OT}
theorem ask_turn {o4:Option OT} {d:D} {Q:Flo->Env->Prop} (hl:es.length<=52) (ht:ThB d) (q:∀ o8 o9 o10,Q .nx (RE t o1 es o4 o5 o6 (some (.v d)) o8 o9 o10)) :
  HSs (cfN tab (j+5)) [0] zdV (RE t o1 es o4 o5 o6 (some (.v d)) o8 o9 o10) Q:=by
 have hg:=ht.g
 have hk:=hg.1
 unfold zdV
 refine zh <| zdI (A:=false) (by simp) <| zg7 <| zk <| zY <| zag (A:=false) <| zo (d:=tbD es) rfl ⟨_,rfl,zag (A:=false) <| zo (d:=d) rfl ⟨_,rfl,zaI (callv (ds:=[tbD es,d]) (ze5 (j:=j+2) (tb_seq es) (evsW es) (by simp;omega) hk) fun r hr=>?_)⟩⟩
 subst hr
 refine zk <| zlE <| zag (A:=false) <| zo (d:=d) rfl ⟨_,rfl,zag (A:=false) <| zo (d:=tbS true es) rfl ⟨_,rfl,zaI ⟨[.val (tbS true es),.val d],rfl,callv (ds:=[tbS true es,d]) (ze5 (j:=j+2) (tbS_seq es) (evsT es) (by simp;omega) hk) fun r hr=>?_⟩⟩⟩
 subst hr
 rw [swV_soft]
 refine zk <| zY <| zag (A:=false) <| zo (d:=tbD es) rfl ⟨_,rfl,zag (A:=false) <| zo (d:=d) rfl ⟨_,rfl,zaI (callv (ds:=[tbS false es,d]) (zdB (j:=j+1) (s:=false) (by omega) hg) fun r hr=>?_)⟩⟩
 subst hr
 generalize hb:swV (es.map evD) d=b
 generalize hc:gdV es d=c
 refine zI ⟨[.bl b,.bl b,.bl c],rfl,by simp,?_⟩
 refine zh <| w_exp <| h_mutl (A:=false) (xs0:=[.bl b,.bl b,.bl c]) rfl <| zk <| zlE <| zag (A:=false) <| zo (d:=d) rfl ⟨_,rfl,zag (A:=false) <| zo (d:=tbS true es) rfl ⟨_,rfl,zaI ⟨[.val (tbS true es),.val d],rfl,callv (ds:=[tbS true es,d]) (zdB (j:=j+1) (s:=true) (by omega) hg) fun r hr=>?_⟩⟩⟩
 subst hr
 rw [hc]
 refine zI ⟨[.bl c],[.bl b,.bl b,.bl c],[.bl b,.bl b,.bl c,.bl c],.non,rfl,rfl,app_ok (by simp),?_⟩
 refine zh <| zgE (A:=false) (by simp) <| zk <| zY <| zag (A:=false) <| zo (d:=tbD es) rfl ⟨_,rfl,zag (A:=false) <| zo (d:=d) rfl ⟨_,rfl,zaI (callv (ds:=[.tup (es.map evD),d]) (zht (j:=j+3) (evsW es) (by simp;omega) hk) fun r hr=>?_)⟩⟩
 subst hr
 rw [hb]
 refine zk <| zY <| zag (A:=false) <| zo (d:=tbD es) rfl ⟨_,rfl,zag (A:=false) <| zo (d:=d) rfl ⟨_,rfl,zaI (callv (ds:=[tbS false es,d]) (zhs (j:=j+3) (by omega) hg) fun r hr=>?_)⟩⟩
 subst hr
 rw [hc]
 refine zI ⟨by simp,_,rfl,?_⟩
 show HSs (cfN tab (j+5)) [0] _ [some t,o1,some (.v (tbD es)),some (.v (tbS true es)),o4,o5,o6,some (.v d),some (.ol [.bl b,.bl b,.bl c,.bl c]),some (.v (.bl b)),some (.v (.bl c)),none] _
 have ok:D.ok 5 (.lst [.bl b,.bl b,.bl c,.bl c]):=⟨by simp,fun x hx=>by
  simp at hx
  rcases hx with rfl | rfl<;>trivial⟩
 refine zh <| zhC (A:=false) <| zcj <| zY <| zag (A:=false) <| zlD (d:=.lst [.bl b,.bl b,.bl c,.bl c]) rfl rfl ⟨_,rfl,zag (A:=false) <| zg7 <| zk <| zo (d:=.bl b) rfl <| zk <| zo (d:=.bl b) rfl <| zk <| zo (d:=.bl c) rfl <| zk <| zo (d:=.bl c) rfl <| zI ⟨[.bl b,.bl b,.bl c,.bl c],rfl,by simp,_,rfl,zaI (callv (ds:=[.lst [.bl b,.bl b,.bl c,.bl c],.lst [.bl b,.bl b,.bl c,.bl c]]) (zl6 (j:=j) ok) fun r hr=>?_)⟩⟩
 subst hr
 exact ⟨true,rfl,.inr ⟨rfl,za9 <| za9 (q _ _ _)⟩⟩
theorem zh3 {i:Nat} {ds:List D} {o4:Option OT} (hr:zdi ds) (hi:∀ t x,pk [some t,o1,some (.v (tbD es)),some (.v (tbS true es)),o4,o5,o6,o7,o8,o9,o10,some x] (.var i)=some (.v (.tup ds))) {Q:List D->Env->Prop}:∀ (xs acc:List D) (t:OT) (k:Int),BxT t k->k+5*(xs.length:Nat)<1000000->(∀ d∈acc,ThB d) ->
  (∀ t' ys,BxT t' (k+5*(xs.length:Nat))->(∀ d∈ys,ThB d)->ys.length=acc.length+xs.length->Q ys (RE t' o1 es o4 o5 o6 o7 o8 o9 o10))->HL (cfN tab (j+3)) (.name 11) (.con (.bl true)) (.call zdw (.cons (.var 0) (.cons (.var i) .nil))) [11] xs acc (RE t o1 es o4 o5 o6 o7 o8 o9 o10) Q
 | [],acc,t,k,B,hk,ha,q=>l_nil rfl (q t acc (by simpa using B) ha (by simp))
 | x::xs,acc,t,k,B,hk,ha,q=>by
  rw [List.length_cons] at hk q
  refine ziM (A:=false) (by simp [tgI]) (by simp) rfl <| zo (d:=.bl true) rfl <| .inl ⟨rfl,zY <| zkh rfl <| zag (A:=false) <| zo (d:=.tup ds) (hi t _) ⟨_,rfl,zaI (zeg (i:=0) (ds:=[.tup ds]) rfl (cb (zl8 (j:=j) B (by omega) hr)) fun r t1 h=>?_)⟩⟩
  obtain ⟨d,rfl,B1,hd⟩:=h
  refine ⟨d,rfl,rfl,?_⟩
  show HL (cfN tab (j+3)) (.name 11) (.con (.bl true)) (.call zdw (.cons (.var 0) (.cons (.var i) .nil))) [11] xs (acc++[d]) (RE t1 o1 es o4 o5 o6 o7 o8 o9 o10) Q
  have e:k+5+5*((xs.length:Nat):Int)=k+5*(((xs.length+1:Nat)):Int):=by omega
  refine zh3 hr hi xs (acc++[d]) t1 (k+5) B1 (by omega) (fun y hy=>?_) (fun t' ys B' hy hl=>q t' ys (e ▸ B') hy (by rw [hl];simp;omega))
  rcases List.mem_append.mp hy with z | z
  ·exact ha y z
  ·simp at z;subst z;exact hd
end
end Mp.V
namespace Mp.V
open PySem L2
section
variable {j:Nat} {es:List Dr.Ev} {t:OT} {o1 o2 o3 o4 o5 o6 o7 o8 o9 o10:Option OT}
def zlJ:List D:=[.non,.bl true,.int 0,.str ("copy" : Str),.tup [],.lst [],.tup [.tup []],.tup [.tup [.str ("reader" : Str),.int 0]],.tup [.tup [.str ("copy" : Str),.int 0]]]
theorem fix_ok:∀ d∈zlJ,ThB d:=by
 intro d hd
 simp only [zlJ,List.mem_cons,List.not_mem_nil,or_false] at hd
 rcases hd with rfl | rfl | rfl | rfl | rfl | rfl | rfl | rfl | rfl
 ·trivial
 ·trivial
 ·trivial
 ·trivial
 ·exact ⟨by simp,by simp,by simp⟩
 ·trivial
 ·exact zbk (zjt trivial (by simp))
 ·exact zbk (zhS trivial trivial (zbG rfl))
 ·exact zbk (zhS trivial trivial (zbG rfl))
theorem zjr {k:Int} (hB:BxT t k) (hk:k<100000) {Q:Flo->Env->Prop} (q:∀ t' o2 o3 o4 o5 o6 o7 o8 o9 o10,BxT t' (k+1000)->Q .nx [some t',o1,o2,o3,o4,o5,o6,o7,o8,o9,o10,none]) :
  HSs (cfN tab (j+5)) [0] zdU [some t,o1,o2,o3,o4,o5,o6,o7,o8,o9,o10,none] Q:=by
 unfold zdU
 refine zh <| zdI (A:=false) (by simp) <| zY <| zkh rfl <| zag (A:=false) <| zo (d:=.int 6) rfl ⟨_,rfl,zaI (zeg (i:=0) (ds:=[.int 6]) rfl (cb (zjX (j:=j) hB (by omega))) fun r t1 h=>?_)⟩
 obtain ⟨d,rfl,B1,es,rfl,hT⟩:=h
 obtain ⟨ws,T⟩:=Dr.TbF.tbl hT
 have hlen:=T.len
 refine zh <| zgE (A:=false) (by simp) <| zk <| zY <| zag (A:=false) <| zo (d:=tbD es) rfl ⟨_,rfl,zaI (callv (ds:=[tbD es]) (swap (zfH (j:=j+2) (ok_tb (es:=es) (by omega)))) fun r hr=>?_)⟩
 subst hr
 refine zk <| zg7 <| zk <| zo (d:=.non) rfl <| zk <| zo (d:=.bl true) rfl <| zk <| zo (d:=.int 0) rfl <| zk <| zo (d:=.str "copy") rfl <| zk <| zo (d:=.tup []) rfl <| zk <| zg7 <| zI ⟨[],rfl,by simp,zk <| zo (d:=.tup [.tup []]) (by simp [pk,pks,sizeLine]) <| zk <| zo (d:=.tup [.tup [.str ("reader" : Str),.int 0]]) (by simp [pk,pks,sizeLine,zb3]) <| zk <| zo (d:=.tup [.tup [.str ("copy" : Str),.int 0]]) (by simp [pk,pks,sizeLine,zb3]) <| zI ⟨zlJ,rfl,by simp [zlJ],zI ⟨by simp,_,rfl,?_⟩⟩⟩
 refine w_free (i:=3) (d:=tbS true es) rfl (by rw [tbS_t];exact zkP _) ?_
 show HSs _ _ _ (RE t1 o1 es (some (.ol zlJ)) o5 o6 o7 o8 o9 o10) Q
 refine zh <| zgE (A:=false) (by simp) <| zk <| zY <| zkh rfl <| zag (A:=false) <| zo (d:=tbD es) rfl ⟨_,rfl,zaI (zeg (i:=0) (ds:=[tbD es]) rfl (cb (zjY (j:=j+2) B1 (by omega) hlen)) fun r t2 h=>?_)⟩
 obtain ⟨d,rfl,B2,F,rfl,_,hFl⟩:=h
 refine zk <| zY <| zkh rfl <| zag (A:=false) <| zo (d:=tbD es) rfl ⟨_,rfl,zaI (zeg (i:=0) (ds:=[tbD es]) rfl (cb (zjT (j:=j+3) B2 (by omega) hlen)) fun r t3 h=>?_)⟩
 obtain ⟨d,rfl,B3,gs,rfl,_,hg1,hg2⟩:=h
 have R1:=rows_br hFl
 have R2:=rows_gs hg1 hg2
 have e1:brD (swG 0 (es.length+1) F)=.tup ((swG 0 (es.length+1) F).map swD):=rfl
 have e2:gsD gs=.tup (gs.map gdD):=rfl
 rw [e1,e2]
 generalize (swG 0 (es.length+1) F).map swD=bs at R1
 generalize gs.map gdD=us at R2
 refine zI ⟨by simp,_,rfl,?_⟩
 show HSs _ _ _ (RE t3 o1 es (some (.ol zlJ)) (some (.v (.tup bs))) (some (.v (.tup us))) o7 o8 o9 o10) Q
 refine zh <| zdI (A:=false) (by simp) <| h_catv <| zg7 <| zk <| zo (d:=.tup bs) rfl <| zk <| zo (d:=.tup us) rfl <| zk <| zo (d:=.tup bs.reverse) rfl <| zk <| zo (d:=.tup us.reverse) rfl <| zI ⟨[.tup bs,.tup us,.tup bs.reverse,.tup us.reverse],rfl,by simp,zlJ,_,rfl,rfl,by simp [zlJ],?_⟩
 have hf:∀ d∈zlJ++[D.tup bs,.tup us,.tup bs.reverse,.tup us.reverse],ThB d:=fun d hd=>by
  rcases List.mem_append.mp hd with h | h
  ·exact fix_ok d h
  ·simp only [List.mem_cons,List.not_mem_nil,or_false] at h
   rcases h with rfl | rfl | rfl | rfl
   ·exact R1.b
   ·exact R2.b
   ·exact (zhQ R1).b
   ·exact (zhQ R2).b
 have hfl:(zlJ++[D.tup bs,.tup us,.tup bs.reverse,.tup us.reverse]).length=13:=rfl
 generalize zlJ++[D.tup bs,.tup us,.tup bs.reverse,.tup us.reverse]=L at hf hfl
 show HSs _ _ _ (RE t3 o1 es (some (.ol L)) (some (.v (.tup bs))) (some (.v (.tup us))) o7 o8 o9 o10) Q
 have hn:((List.range ((9:Int)).toNat).map fun (i:Nat)=>(D.int (0+(i:Int)))).length=9:=by simp
 refine zh <| zdI (A:=false) (by simp) <| h_cat <| h_catv <| zlB (A:=false) <| ziS <| zo (d:=.int 9) rfl ⟨_,rfl,by decide,rfl,by rw [hn];omega,?_⟩
 refine zh3 (j:=j+2) (i:=5) (ds:=bs) R1 (fun _ _=>rfl) _ [] t3 (k+500+200+104) B3 (by rw [hn];omega) (by simp) fun t4 y1 B4 hy1 hl1=>?_
 rw [hn] at B4 hl1
 refine ⟨L,y1,rfl,rfl,by simp at hl1;omega,?_⟩
 refine zlB (A:=false) <| ziS <| zo (d:=.int 9) rfl ⟨_,rfl,by decide,rfl,by rw [hn];omega,?_⟩
 refine zh3 (j:=j+2) (i:=6) (ds:=us) R2 (fun _ _=>rfl) _ [] t4 _ B4 (by rw [hn];omega) (by simp) fun t5 y2 B5 hy2 hl2=>?_
 rw [hn] at B5 hl2
 simp only [List.length_nil,Nat.zero_add] at hl1 hl2
 refine ⟨L++y1,y2,rfl,rfl,by rw [List.length_append];omega,?_⟩
 have hL:∀ d∈L++y1++y2,ThB d:=fun d hd=>by
  rcases List.mem_append.mp hd with h | h
  ·rcases List.mem_append.mp h with h | h
   ·exact hf d h
   ·exact hy1 d h
  ·exact hy2 d h
 have hLl:(L++y1++y2).length<100:=by rw [List.length_append,List.length_append];omega
 generalize L++y1++y2=L at hL hLl
 show HSs _ _ _ (RE t5 o1 es (some (.ol L)) (some (.v (.tup bs))) (some (.v (.tup us))) o7 o8 o9 o10) Q
 refine w_free (i:=4) (d:=.lst L) rfl rfl ?_
 show HSs _ _ _ (RE t5 o1 es (some (.v (.lst L))) (some (.v (.tup bs))) (some (.v (.tup us))) o7 o8 o9 o10) Q
 refine zh <| zks (A:=false) <| zdO <| zo (d:=.lst L) rfl ⟨_,L,rfl,rfl,by omega,?_⟩
 refine f_inv (by simp [tgI]) (fun _ env=>∃ o7 o8 o9 o10,env=RE t5 o1 es (some (.v (.lst L))) (some (.v (.tup bs))) (some (.v (.tup us))) o7 o8 o9 o10) ?_ ?_ _ ⟨o7,o8,o9,o10,rfl⟩
 ·rintro n x env hx ⟨o7,o8,o9,o10,rfl⟩
  refine ⟨_,rfl,?_⟩
  exact ask_turn hlen (hL x (List.mem_of_getElem? hx)) fun o8 o9 o10=>⟨_,o8,o9,o10,rfl⟩
 ·rintro env ⟨o7,o8,o9,o10,rfl⟩
  exact za9 (q _ _ _ _ _ _ _ _ _ _ (B5.mono (by omega)))
theorem call_right {t:OT} (ht:BxT t 0):Call (cfN tab (j+6)) zeT [0] [t] (fun r _=>r=.v (.bl true)):=by
 refine zaC (d:=zbw) rfl rfl (by simp) (by simp [zbw]) ?_
 refine zh <| zks (A:=false) <| ziS <| zo (d:=.int 3) rfl ⟨_,rfl,by decide,by decide,?_⟩
 refine f_inv (by simp [tgI]) (fun n env=>n<=3/\∃ t' o1 o2 o3 o4 o5 o6 o7 o8 o9 o10,BxT t' (1000*(n:Nat))/\env=[some t',o1,o2,o3,o4,o5,o6,o7,o8,o9,o10,none]) ?_ ?_ _ ⟨by omega,t,none,none,none,none,none,none,none,none,none,none,by simpa using ht,rfl⟩
 ·rintro n x env hx ⟨hn,t',o1,o2,o3,o4,o5,o6,o7,o8,o9,o10,B,rfl⟩
  have hn3:n<3:=by
   have:=(List.getElem?_eq_some_iff.mp hx).1
   simpa using this
  refine ⟨_,rfl,?_⟩
  exact zjr B (by omega) fun t' o2 o3 o4 o5 o6 o7 o8 o9 o10 B'=>⟨by omega,t',_,o2,o3,o4,o5,o6,o7,o8,o9,o10,B'.mono (by omega),rfl⟩
 ·rintro env ⟨_,t',o1,o2,o3,o4,o5,o6,o7,o8,o9,o10,B,rfl⟩
  exact zh <| zC (A:=false) <| zo (d:=.bl true) rfl ⟨[t'],rfl,rfl⟩
end
end Mp.V
namespace Mp
open PySem L2
def Scr (M:Mm) (x:PV) (ns:List Int):Prop:=x=.cl ns\/∃ a,x=.ref a/\M[a]? = some (.lst (ns.map .int))
theorem Scr.frm {M M':Mm} {x:PV} {ns:List Int} {S:List Nat} (h:Scr M x ns) (F:Frm S M M') (hS:∀ i∈S,M.length<=i):Scr M' x ns:=by
 rcases h with h | ⟨a,h1,h2⟩
 ·exact .inl h
 ·exact .inr ⟨a,h1,F.get h2 fun z=>by have:=hS a z;have:=zy h2;omega⟩
theorem Scr.len {M:Mm} {x:PV} {ns:List Int} (h:Scr M x ns):zJ M .len [x]=some (.int ns.length,M):=by
 rcases h with rfl | ⟨a,rfl,h2⟩
 ·rfl
 ·simp [zJ,h2]
theorem Scr.at_ {M:Mm} {x:PV} {ns:List Int} (h:Scr M x ns) {k:Nat} (hk:k<ns.length):zas M x (.int (k:Nat))=some (.int ns[k]):=by
 rcases h with rfl | ⟨a,rfl,h2⟩
 ·have hat:atI ns k=some ns[k]:=by simp [atI,ixN,hk]
  simp [zas,hat]
 ·have:(ns.map PV.int)[k]? = some (.int ns[k]):=by simp [hk]
  simp only [zas,h2]
  exact zjf this
def HBx2 (cf:CF):Prop:=∀ (M:Mm) (x:PV) (ns:List Int) (k:Nat),Scr M x ns->k<=2->∃ M',cf zlz [x,.int k] M=some (.ref M.length,M')/\Bx M' M.length 0/\Frm [] M M'
theorem box2_ok (cf:CF) {M:Mm} {x:PV} {ns:List Int} {k:Nat} (hS:Scr M x ns) (hk:k<=2):∃ M',zL cf zci [x,.int k] M=some (.ref M.length,M')/\Bx M' M.length 0/\Frm [] M M':=by
 have key:∀ c:Int,(∀ sg:Sg,sg[0]? = some (some x)->sg[1]? = some (some (.int k))->evE cf (.ite (.cmp .lt (.var 1) (.blt .len (.cons (.var 0) .nil))) (.idx (.var 0) (.var 1)) (.con (.int 0))) sg M=some (.int c,M))->∃ M',zL cf zci [x,.int k] M=some (.ref M.length,M')/\Bx M' M.length 0/\Frm [] M M':=by
  intro c hc
  have hc':=hc [some x,some (.int k),none,none] rfl rfl
  generalize hq:E.ite (.cmp .lt (.var 1) (.blt .len (.cons (.var 0) .nil))) (.idx (.var 0) (.var 1)) (.con (.int 0))=q at hc'
  let s:Int:=(c % 2305843009213693921+41177*k+53)*38923 % 2147483563
  let a:Int:=if c<0 then -c else c
  have ha:0<=a:=by show 0<=(if c<0 then -c else c);split<;>omega
  have hp:(10:Int) ^ 18=1000000000000000000:=by decide
  let d:Int:=a*(if 1000000000000000000<=a then 1 else 0)
  have m1:zcY 41177 k=true:=by simp [zcY]
  have m2:∀ x,zcY x 38923=true:=fun x=>by simp [zcY]
  have m3:∀ (x:Int) (P:Prop) [Decidable P],zcY x (if P then 1 else 0)=true:=fun x P _=>by by_cases hP:P<;>simp [zcY,hP]
  refine ⟨M++[Ob.lst [.int d,.int s,.int 0]],?_,⟨d,s,0,za5,?_,Int.emod_nonneg _ (by decide),Int.emod_lt_of_pos _ (by decide),by decide,by decide⟩,.app⟩
  ·have hb:∀ b:Bool,(if b then (1:Int) else 0)=if b=true then 1 else 0:=fun b=>rfl
   simp [zL,zci,hq,zM,evS,evE,zv,tgP,hc',zJ,zat,zK,m1,m2,m3,sizeLine,s,d,a]
  ·show 0<=a*(if 1000000000000000000<=a then 1 else 0)
   split<;>omega
 have hl:∀ sg:Sg,sg[0]? = some (some x)->evE cf (.blt .len (.cons (.var 0) .nil)) sg M=some (.int ns.length,M):=fun sg h0=>zdg (zae (zU h0)) hS.len
 by_cases hlt:k<ns.length
 ·refine key ns[k] fun sg h0 h1=>?_
  have:(k:Int)<ns.length:=by omega
  have hc:evE cf (.cmp .lt (.var 1) (.blt .len (.cons (.var 0) .nil))) sg M=some (.bl true,M):=by
   rw [evE,zU h1];simp only [hl sg h0];simp [zK,this]
  rw [evE,hc]
  simp only []
  rw [evE,zU h0]
  simp only []
  rw [zU h1]
  simp only [hS.at_ hlt,Option.map_some]
 ·refine key 0 fun sg h0 h1=>?_
  have:¬ (k:Int)<ns.length:=by omega
  have hc:evE cf (.cmp .lt (.var 1) (.blt .len (.cons (.var 0) .nil))) sg M=some (.bl false,M):=by
   rw [evE,zU h1];simp only [hl sg h0];simp [zK,this]
  rw [evE,hc]
  simp only []
  rw [evE]
theorem hbx2 (j:Nat):HBx2 (cfN tab (j+1)):=fun M x ns k hS h=>box2_ok (cfN tab j) hS h
def HRt (cf:CF):Prop:=∀ (M:Mm) (b:Nat),Bx M b 0->∃ M',cf zeT [.ref b] M=some (.bl true,M')/\Frm [b] M M'
theorem hrt (j:Nat):HRt (cfN tab (j+6)):=fun M b B=>by
 obtain ⟨t,h1,h2⟩:=V.of_bx (B:=fun n=>n∈([[b]]:List (List Nat)).flatten\/False) B
 obtain ⟨v,M',r,ns,fin,vs,ms',e,_,_,o,_,_,_,fr,le,rfl⟩:=V.call_right (j:=j) h1 M [.ref b] [[b]] (fun _=>False) ⟨h2,trivial⟩ (by simp) (by simp) (by simp)
 cases o.1
 exact ⟨M',e,le,fun i hi hl=>fr i hl (by simpa using hi)⟩
theorem good_at (M0:Mm) (x:PV) (ns:List Int) (hS:Scr M0 x ns):∃ M',cfN tab 13 i_law [x] M0=some (.bl true,M'):=by
 show ∃ M',zL (cfN tab 12) zfv [x] M0=some (.bl true,M')
 have Bb:HBx2 (cfN tab 12):=hbx2 11
 have Rr:HRt (cfN tab 12):=hrt 6
 generalize cfN tab 12=cf at *
 let n:Nat:=1+min 2 ns.length
 have hn:n<=3:=by show 1+min 2 ns.length<=3;omega
 obtain ⟨M',e1,c1,F1⟩:=zeN (src:=.rng 0 n) (bind:=tgP (.name 1)) (c:=fun sg M=>evE cf (.con (.bl true)) sg M) (e:=fun sg M=>evE cf zi2 sg M) (d:=M0.length) (sg:=[some x,none]) (fun i N=>N[M0.length]? = some (.lst (List.replicate i (.bl true)))/\Frm [] M0 N) (n:=n) (M:=M0++[Ob.lst []]) (by omega)
  ⟨za5,.app⟩
  (by
   intro i N hi hI
   obtain ⟨c1,F1⟩:=hI
   have hS1:=hS.frm F1 (by simp)
   obtain ⟨N1,e2,B2,f2⟩:=Bb N x ns i hS1 (by omega)
   obtain ⟨N2,e3,f3⟩:=Rr N1 N.length B2
   have hN:=zy c1
   have c3:N2[M0.length]? = some (.lst (List.replicate i (.bl true))):=f3.get (f2.get c1 (by simp)) (by simp;omega)
   refine ⟨.int (0+i),[some x,some (.int (0+i))],by simp [Src.get,hi],rfl,.inl ⟨N,.bl true,N2,List.replicate i (.bl true),zaB,?_,by simp only [zl,c3],by simp;omega,?_,?_⟩⟩
   ·unfold zi2
    have:(0:Int)+i=i:=by omega
    rw [this]
    exact zd3 (zae (zd3 (zP (zU rfl) (zae (zU rfl))) e2)) e3
   ·rw [List.getElem?_set_self (zy c3),List.replicate_succ']
   ·have hl1:=F1.len
    have hl2:=f2.len
    have hl3:=f3.len
    refine ⟨by simp;omega,fun k _ hk=>?_⟩
    rw [List.getElem?_set_ne (by omega),f3.at_ k (by simp;omega) (by omega),f2.at_ k (by simp) (by omega),F1.at_ k (by simp) hk])
  (by intro N hI;simp [Src.get])
 refine ⟨M',zeF rfl ?_⟩
 have hI:evI cf (.rng1 (.bop .add (.con (.int 1)) (.blt .min2 (.cons (.con (.int 2)) (.cons (.blt .len (.cons (.var 0) .nil)) .nil))))) [some x,none] M0=some (.rng 0 n,M0):=by
  have h1:evE cf (.bop .add (.con (.int 1)) (.blt .min2 (.cons (.con (.int 2)) (.cons (.blt .len (.cons (.var 0) .nil)) .nil)))) [some x,none] M0=some (.int n,M0):=by
   refine zhb zaB (zdg (zP zaB (zae (zdg (zae (zU rfl)) hS.len))) rfl) ?_
   show some (PV.int (1+(if (ns.length:Int)<2 then (ns.length:Int) else 2)),M0)=some (.int ((1+min 2 ns.length:Nat):Int),M0)
   congr 3
   split<;>omega
  rw [evI,h1]
  have hro:zbQ (n:Int)=true:=by simp [zbQ];omega
  simp only [hro]
  rfl
 have hE:evE cf (.lc [1] (.name 1) (.rng1 (.bop .add (.con (.int 1)) (.blt .min2 (.cons (.con (.int 2)) (.cons (.blt .len (.cons (.var 0) .nil)) .nil))))) (.con (.bl true)) zi2) [some x,none] M0=some (.ref M0.length,M'):=by
  rw [evE,hI]
  have hwp:z6 [some x,none] [1]=[some x,none]:=rfl
  simp only [hwp,e1];rfl
 unfold zfv
 refine zgL (zdg (zae hE) ?_)
 simp only [zJ,zl,c1,Option.bind_some,ze6,Option.map_some]
 simp
theorem good (ns:List Int) (hns:ns.length<=63):∃ M',cfN tab 13 i_law [.cl ns] []=some (.bl true,M'):=good_at [] _ ns (.inl rfl)
end Mp
set_option maxRecDepth 100000 in
set_option maxHeartbeats 0 in
theorem PySem.Challenge.cw_missedmarks_k01_sweeps_and_guards_or_non_holds : PySem.Challenge.rw_missedmarks_k01_sweeps_and_guards_or_non.Holds :=
 Mp.reduce Mp.good
