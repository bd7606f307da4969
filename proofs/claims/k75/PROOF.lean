import PyProof.Rows.All
import Wide.All
import OpenK.AllK
import Wide.FinOn
import HandS.ForMost
import HandS.Walk
import HandS.Exc
import HandS.ExcOwn
import HandS.TryOnly
import HandS.WordsExc
import HandS.CallSlots
import HandS.IsInst
import HandS.DictComp
import HandS.Defaults
import HandS.Flow
import HandS.Conv
import HandS.NoneIn
import HandS.Style
import HandS.Deep
import HandS.More
import HandS.TupAny
import HandS.Zip
import HandS.Sort
import HandS.SortInts
import HandS.ListItems
import HandS.Rev
import HandS.RevRange
import KE.SortData
import KE.KDictPairs
import KE.KItemsList
import KE.KDictList
import HandS.Lambda
import KE.KDictKeyed
import HandS.Ends
import HandS.HeadEnd
import HandS.Head0
import HandS.Head1
import HandS.Head2
import HandS.HeadHook1
import HandS.HeadHook2
import HandS.EndTab
import HandS.Star
import KE.DataMinMax
import HandS.Set
import HandS.SetFor
import HandS.SetTxt0
import HandS.Strs
import KE.KEqNest
import PyProof.EqKinds
import KE.KExcSuper
import KE.KExcInit
import KE.KSuper
import HandS.ExcInit
import HandS.ExcField
import HandS.ExcIs
import HandS.RaiseMore
import KE.KExcIs
import HandS.HeadHook3
import KE.DataFind
import HandS.SortKw
import HandS.TupMul
import PyProof.TupleOfSeq
import HandS.Small
import PyProof.WalkInts
import PyProof.PureStr
import KE.GoesMore
import KE.KDictZip
import HandS.TupSets
import KE.KeyNested
import KE.GoesEnum
import KE.KRevSl
import KE.DatumIndex
import KE.GoesZip
import HandS.Text
import KE.SortUse
import HandS.HeadHook4
import KE.KDictItemsList
import KE.DataCmp
import PyProof.TupleOfStr
import KE.KDictDisplayH
import PyProof.DictTable
import KE.DataMinKey
import KE.KDictCopyH
import HandS.TupLen
import HandS.RaiseFrom
import HandS.SuiteRaise
import HandS.ExcInitHot
import KE.GoesRaise
import OpenK.KOps
import HandS.TryMany
import HandS.Replace
import HandS.ReplaceLit
import PySem.Challenge.RW_namesalone_k75_the_place_that_is_needed
set_option Elab.async false
set_option linter.all false
set_option maxRecDepth 100000
set_option maxHeartbeats 0
set_option autoImplicit false
namespace L2
namespace DL
open PySem PySem.Spec PyProof.Rows
abbrev D:=PyData
structure Px where
  cls : Str
  val : Option (Str × D)
inductive Sl where
  | u | s (d : D) | o (t : Bool) (d : D) | x (p : Px) | b (t : Bool) (d : D)
abbrev Ev:=List Sl
inductive Xv where
  | s (d : D) | o (d : D)
inductive Pv where
  | d (d : D) | r (i : Nat) | o (d : D)
inductive Rs (α : Type) where
  | ok (a : α) (e : Ev) | exc (x : Px) (e : Ev) | bad
abbrev M (α : Type):=Ev → Rs α
def Rs.bind {α β : Type} (r : Rs α) (k : α → Ev → Rs β) : Rs β:=match r with
  | .ok a e=>k a e
  | .exc x e=>.exc x e
  | .bad=>.bad
def Xv.dat : Xv → D
  | .s d=>d
  | .o d=>d
def dat (f : M Pv) : M D:=fun e=>match f e with
  | .ok (.d d) e'=>.ok d e'
  | .ok (.o d) e'=>.ok d e'
  | .ok (.r i) e'=>(match e'[i]? with
    | some (.s d)=>.ok d e'
    | some (.o false d)=>.ok d (e'.set i (.s d))
    | _=>.bad)
  | .exc x e'=>.exc x e'
  | .bad=>.bad
structure KW where
  fr : PySem.W.Frag
  prog : Program
  w : World
instance : Coe KW PySem.W.Frag:=⟨KW.fr⟩
abbrev KW.lookup (k : KW) (a : Addr) : Option Obj:=k.fr.lookup a
def kD : Key → D
  | .inl i=>.int i
  | .inr x=>.str x
def FzL (K : KW) (H : Hp) (a : Addr) (xs : List V) : Prop:=∃ o,H a = some (.frz o (.lst xs))
def FzT (K : KW) (H : Hp) (a : Addr) (xs : List V) : Prop:=(∃ o,H a = some (.frz o (.tup xs)) ∧ o.dict = none) ∨
  ∃ (o : Obj) (its : Array Value) (n : Nat),K.lookup a = some o ∧ o.cls = .type "tuple" ∧ o.dict = none ∧ o.data = .seq its n ∧ its.size ≤ sizeLine ∧ Vals xs its.toList
abbrev nhoF (P : Program) (w : World) (a : Addr) (xs : List (NestedKey × Addr × V)) : Heap → Prop:=fun h=>(a == sysModules) = false ∧ xs.length ≤ sizeLine ∧ ∃ (ys : List (NestedKey × Addr × Value)) (o : Obj) (es : Array DictEntry) (ep : Nat),
  Paired (fun (p : NestedKey × Addr × V) (q : NestedKey × Addr × Value)=>p.1 = q.1 ∧ p.2.1 = q.2.1 ∧ RelV p.2.2 q.2.2) xs ys ∧ h.get? a = some o ∧ o.ExactDict ∧ o.data = .dict es ep ∧ es.toList = ys.map (entryOfKey (nestedKind P w)) ∧ (ys.map (·.1)).Nodup
abbrev NHO (P : Program) (w : World) (a : Addr) (xs : List (NestedKey × Addr × V)) : HO:=.ext (nhoF P w a xs)
def Mx (φ : Heap → Prop) : Prop:=∀ h,φ h → ∃ (a : Addr) (o : Obj) (es : Array DictEntry) (n : Nat),h.get? a = some o ∧ o.data = .dict es n
abbrev MxO:={φ : Heap → Prop // Mx φ}
def nkv : List (D × D) → Bool
  | (.tuple _,_) :: _=>true
  | _=>false
mutual
inductive Den (K : KW) (H : Hp) : V → D → Prop
  | non : Den K H .non .none
  | bl (b : Bool) : Den K H (.bl b) (.bool b)
  | int (i : Int) : Den K H (.int i) (.int i)
  | str (x : Str) : Den K H (.str x) (.str x)
  | lst {a : Addr} {xs : List V} {ds : List D} : FzL K H a xs → DenAll K H xs ds → Den K H (.ref a) (.list ds)
  | tup {a : Addr} {xs : List V} {ds : List D} : FzT K H a xs → DenAll K H xs ds → Den K H (.ref a) (.tuple ds)
  | dct {a : Addr} {o : Obj} {ks : List (Key × V)} {kvs : List (D × D)} : H a = some (.frz o (.dK ks)) → DenKV K H ks kvs → Den K H (.ref a) (.dict kvs)
  | dcn {a : Addr} {o : Obj} {xs : List (NestedKey × Addr × V)} {kvs : List (D × D)} : H a = some (.frz o (NHO K.prog K.w a xs)) → DenN K H xs kvs → nkv kvs = true → Den K H (.ref a) (.dict kvs)
inductive DenAll (K : KW) (H : Hp) : List V → List D → Prop
  | nil : DenAll K H [] []
  | cons {v : V} {vs : List V} {d : D} {ds : List D} : Den K H v d → DenAll K H vs ds → DenAll K H (v :: vs) (d :: ds)
inductive DenKV (K : KW) (H : Hp) : List (Key × V) → List (D × D) → Prop
  | nil : DenKV K H [] []
  | cons {k : Key} {v : V} {ks : List (Key × V)} {d : D} {kvs : List (D × D)} : Den K H v d → DenKV K H ks kvs → DenKV K H ((k,v) :: ks) ((kD k,d) :: kvs)
inductive DenN (K : KW) (H : Hp) : List (NestedKey × Addr × V) → List (D × D) → Prop
  | nil : DenN K H [] []
  | cons {js : List NestedKey} {b : Addr} {v : V} {xs : List (NestedKey × Addr × V)} {d : D} {kvs : List (D × D)} : (NestedKey.tup js).depth ≤ 8 → Den K H (.ref b) (.tuple (NestedKey.datas js)) → Den K H v d → DenN K H xs kvs → DenN K H ((.tup js,b,v) :: xs) ((.tuple (NestedKey.datas js),d) :: kvs)
end
theorem DenKV.plain {K : KW} {H : Hp} {ks : List (Key × V)} {kvs : List (D × D)} (h : DenKV K H ks kvs) : nkv kvs = false:=by
  cases h with
  | nil=>rfl
  | cons q r =>
    rename_i k v ks d kvs
    cases k <;> rfl
def plF (l : Addr) (its : List Value) : Heap → Prop:=fun h=>∃ n : Nat,h.get? l = some { cls:=.type "list",data:=.seq its.toArray n }
abbrev PLO (l : Addr) (its : List Value) : HO:=.ext (plF l its)
def BK (u : HO) : Prop:=(∃ C dx fs,u = .ins C dx fs) ∨ ∃ l its,u = PLO l its
theorem nbk_frz {o : Obj} {u : HO} : ¬ BK (.frz o u):=fun z=>by rcases z with ⟨_,_,_,z⟩ | ⟨_,_,z⟩ <;> cases z
theorem nbk_xd {fs : List (Str × V)} : ¬ BK (.xd fs):=fun z=>by rcases z with ⟨_,_,_,z⟩ | ⟨_,_,z⟩ <;> cases z
def Stat (u : HO) : Prop:=(∀ vs,u ≠ .lst vs) ∧ (∀ ks,u ≠ .dK ks) ∧ (∀ ps,u ≠ .tbl ps) ∧ (∀ φ : MxO,u ≠ .ext φ.1) ∧ ¬ BK u
def NT (u : HO) : Prop:=(∀ ps,u ≠ .tbl ps) ∧ ¬ BK u
structure Grow (H H' : Hp) : Prop where
  st : ∀ b u,H b = some u → Stat u → H' b = some u
theorem Grow.fz {H H' : Hp} (g : Grow H H') (b : Addr) (o : Obj) (u : HO) (h : H b = some (.frz o u)) : H' b = some (.frz o u):=g.st b _ h ⟨fun _ z=>(by cases z),fun _ z=>(by cases z),fun _ z=>(by cases z),fun _ z=>(by cases z),nbk_frz⟩
theorem Grow.xd {H H' : Hp} (g : Grow H H') (b : Addr) (fs : List (Str × V)) (h : H b = some (.xd fs)) : H' b = some (.xd fs):=g.st b _ h ⟨fun _ z=>(by cases z),fun _ z=>(by cases z),fun _ z=>(by cases z),fun _ z=>(by cases z),nbk_xd⟩
theorem Grow.trans {H H1 H2 : Hp} (a : Grow H H1) (b : Grow H1 H2) : Grow H H2:=⟨fun c u h s=>b.st c u (a.st c u h s) s⟩
section
variable {K : KW} {H H' : Hp}
theorem FzL.mono {a : Addr} {xs : List V} (g : Grow H H') (h : FzL K H a xs) : FzL K H' a xs:=by
  obtain ⟨o,h⟩:=h
  exact ⟨o,g.fz _ _ _ h⟩
theorem FzL.rd {a : Addr} {xs : List V} (h : FzL K H a xs) : Rd H a (.lst xs):=.inr h
theorem FzT.mono {a : Addr} {xs : List V} (g : Grow H H') (h : FzT K H a xs) : FzT K H' a xs:=by
  rcases h with ⟨o,h,z⟩ | h
  · exact .inl ⟨o,g.fz _ _ _ h,z⟩
  · exact .inr h
mutual
theorem Den.mono {v : V} {d : D} (g : Grow H H') (h : Den K H v d) : Den K H' v d:=match h with
  | .non=>.non
  | .bl b=>.bl b
  | .int i=>.int i
  | .str x=>.str x
  | .lst q r=>.lst (q.mono g) (DenAll.mono g r)
  | .tup q r=>.tup (q.mono g) (DenAll.mono g r)
  | .dct q r=>.dct (g.fz _ _ _ q) (DenKV.mono g r)
  | .dcn q r n=>.dcn (g.fz _ _ _ q) (DenN.mono g r) n
theorem DenAll.mono {vs : List V} {ds : List D} (g : Grow H H') (h : DenAll K H vs ds) : DenAll K H' vs ds:=match h with
  | .nil=>.nil
  | .cons q r=>.cons (Den.mono g q) (DenAll.mono g r)
theorem DenKV.mono {ks : List (Key × V)} {kvs : List (D × D)} (g : Grow H H') (h : DenKV K H ks kvs) : DenKV K H' ks kvs:=match h with
  | .nil=>.nil
  | .cons q r=>.cons (Den.mono g q) (DenKV.mono g r)
theorem DenN.mono {xs : List (NestedKey × Addr × V)} {kvs : List (D × D)} (g : Grow H H') (h : DenN K H xs kvs) : DenN K H' xs kvs:=match h with
  | .nil=>.nil
  | .cons z p q r=>.cons z (Den.mono g p) (Den.mono g q) (DenN.mono g r)
end
def kga (K : PySem.W.Frag) (x : Str) : Addr:=match PySem.W.nsIn K mainGlobals x with
  | some (some (.ref a))=>a
  | _=>0
def XAo (K : KW) (H : Hp) (a : Addr) (p : Px) : Prop:=∃ (oe : Obj) (vs : Array Value),H a = some (.frz oe (.ext fun h=>h.get? a = some oe)) ∧ oe.cls = .ref (kga K p.cls) ∧ oe.data = .fields vs ∧
  (match p.val with
    | none=>oe.dict = none
    | some (n,d)=>∃ dd v,oe.dict = some dd ∧ H dd = some (.xd [(n,v)]) ∧ Den K H v d)
def XAt (K : KW) (H : Hp) (a : Addr) (p : Px) : Prop:=(p.cls ≠ "[]" ∧ XAo K H a p) ∨ (p.cls = "[]" ∧ ∃ (v : V) (vs : List V) (d : D),FzL K H a (v :: vs) ∧ p.val = some (("[]" : Str),d) ∧ Den K H v d)
theorem XAo.mono {a : Addr} {p : Px} (g : Grow H H') (h : XAo K H a p) : XAo K H' a p:=by
  obtain ⟨oe,vs,h1,h2,h3,h4⟩:=h
  refine ⟨oe,vs,g.fz _ _ _ h1,h2,h3,?_⟩
  obtain ⟨c,val⟩:=p
  cases val with
  | none=>exact h4
  | some nd =>
    obtain ⟨dd,v,z1,z2,z3⟩:=h4
    exact ⟨dd,v,z1,g.xd _ _ z2,z3.mono g⟩
theorem XAt.mono {a : Addr} {p : Px} (g : Grow H H') (h : XAt K H a p) : XAt K H' a p:=by
  rcases h with h | ⟨h1,v,vs,d,h2,h3,h4⟩
  · exact .inl ⟨h.1,h.2.mono g⟩
  · exact .inr ⟨h1,v,vs,d,h2.mono g,h3,h4.mono g⟩
def OwnAt (K : KW) (H : Hp) (a : Addr) (d : D) : Prop:=match d with
  | .list ds=>∃ vs,H a = some (.lst vs) ∧ DenAll K H vs ds
  | .dict kvs=>(∃ ks,H a = some (.dK ks) ∧ DenKV K H ks kvs) ∨ (nkv kvs = true ∧ ∃ xs,H a = some (NHO K.prog K.w a xs) ∧ DenN K H xs kvs)
  | _=>False
def Rdb (K : KW) (H : Hp) (v : V) (d : D) : Prop:=match d with
  | .list ds=>∃ a xs,v = .ref a ∧ Rd H a (.lst xs) ∧ DenAll K H xs ds
  | .dict kvs=>(∃ a ks,v = .ref a ∧ Rd H a (.dK ks) ∧ DenKV K H ks kvs) ∨ (nkv kvs = true ∧ ∃ a xs,v = .ref a ∧ Rd H a (NHO K.prog K.w a xs) ∧ DenN K H xs kvs)
  | d=>Den K H v d
theorem Den.rdb {v : V} {d : D} (h : Den K H v d) : Rdb K H v d:=by
  cases h with
  | lst q r=>exact ⟨_,_,rfl,q.rd,r⟩
  | dct q r=>exact .inl ⟨_,_,rfl,.inr ⟨_,q⟩,r⟩
  | dcn q r n=>exact .inr ⟨n,_,_,rfl,.inr ⟨_,q⟩,r⟩
  | non=>exact .non
  | bl b=>exact .bl b
  | int i=>exact .int i
  | str x=>exact .str x
  | tup q r=>exact .tup q r
def Loose (H : Hp) (a : Addr) : Prop:=(∃ vs,H a = some (.lst vs)) ∨ (∃ ks,H a = some (.dK ks)) ∨ ∃ φ : MxO,H a = some (.ext φ.1)
theorem Loose.some {a : Addr} (h : Loose H a) (q : H a = none) : False:=by
  rcases h with ⟨vs,h⟩ | ⟨ks,h⟩ | ⟨φ,h⟩ <;> (rw [h] at q; cases q)
theorem OwnAt.keep {a : Addr} {d : D} (g : Grow H H') (h : OwnAt K H a d) (e : H' a = H a) : OwnAt K H' a d:=by
  cases d with
  | list ds=>obtain ⟨vs,h1,h2⟩:=h; exact ⟨vs,e.trans h1,h2.mono g⟩
  | dict kvs =>
    rcases h with ⟨ks,h1,h2⟩ | ⟨n,xs,h1,h2⟩
    · exact .inl ⟨ks,e.trans h1,h2.mono g⟩
    · exact .inr ⟨n,xs,e.trans h1,h2.mono g⟩
  | none=>exact h.elim
  | bool b=>exact h.elim
  | int i=>exact h.elim
  | str x=>exact h.elim
  | tuple xs=>exact h.elim
end
inductive BF (K : KW) (H : Hp) : List (Str × V) → List D → Prop
  | f0 : BF K H [] []
  | f1 {v1 : V} {j : D} : Den K H v1 j → BF K H [("own_job",v1)] [j]
  | f2 {v1 v2 : V} {j s : D} : Den K H v1 j → Den K H v2 s → BF K H [("own_job",v1),("own_stand",v2)] [j,s]
  | f3 {v1 v2 v3 : V} {j s m : D} : Den K H v1 j → Den K H v2 s → Den K H v3 m → BF K H [("own_job",v1),("own_stand",v2),("own_moves",v3)] [j,s,m]
  | f4 {v1 v2 v3 : V} {j s m : D} {l : Addr} {its : List Value} {vs : List V} {ps : List D} : Den K H v1 j → Den K H v2 s → Den K H v3 m → H l = some (PLO l its) → Vals vs its → vs.length ≤ sizeLine → DenAll K H vs ps →
      BF K H [("own_job",v1),("own_stand",v2),("own_moves",v3),("own_past",.ref l)] [j,s,m,.list ps]
def BoardAt (K : KW) (H : Hp) (a : Addr) (d : D) : Prop:=∃ (dx : Addr) (fs : List (Str × V)) (ds : List D),d = .tuple ds ∧ H a = some (.ins (kga K "Board") dx fs) ∧ BF K H fs ds
def LOf (H : Hp) (a l : Addr) : Prop:=∃ C dx fs,H a = some (.ins C dx fs) ∧ fs.lookup ("own_past" : Str) = some (V.ref l)
theorem bk_ins {C dx : Addr} {fs : List (Str × V)} : BK (.ins C dx fs):=.inl ⟨_,_,_,rfl⟩
theorem bk_pl {l : Addr} {its : List Value} : BK (PLO l its):=.inr ⟨_,_,rfl⟩
theorem BoardAt.bk {K : KW} {H : Hp} {a : Addr} {d : D} (h : BoardAt K H a d) : ∃ x,H a = some x ∧ BK x:=by
  obtain ⟨_,_,_,_,h,_⟩:=h
  exact ⟨_,h,bk_ins⟩
theorem BF.keep {K : KW} {H H' : Hp} {fs : List (Str × V)} {ds : List D} (g : Grow H H') (h : BF K H fs ds) (k : ∀ l its,fs.lookup ("own_past" : Str) = some (V.ref l) → H l = some (PLO l its) → H' l = some (PLO l its)) : BF K H' fs ds:=by
  cases h with
  | f0=>exact .f0
  | f1 a=>exact .f1 (a.mono g)
  | f2 a b=>exact .f2 (a.mono g) (b.mono g)
  | f3 a b c=>exact .f3 (a.mono g) (b.mono g) (c.mono g)
  | f4 a b c h r z ps=>exact .f4 (a.mono g) (b.mono g) (c.mono g) (k _ _ rfl h) r z (ps.mono g)
theorem BoardAt.keep {K : KW} {H H' : Hp} {a : Addr} {d : D} (g : Grow H H') (h : BoardAt K H a d) (k : ∀ b x,(b = a ∨ LOf H a b) → H b = some x → BK x → H' b = some x) : BoardAt K H' a d:=by
  obtain ⟨dx,fs,ds,e,h1,h2⟩:=h
  exact ⟨dx,fs,ds,e,k _ _ (.inl rfl) h1 bk_ins,h2.keep g fun l its q h=>k _ _ (.inr ⟨_,_,_,h1,q⟩) h bk_pl⟩
structure Pa where
  f : Nat → Option Addr
  T : List (Addr × Str)
def OwB (σ : St) (H : Hp) (e : Ev) (i : Nat) (b : Addr) : Prop:=∃ (t : Bool) (d : D) (a : Addr),e[i]? = some (Sl.b t d) ∧ σ[i]? = some (some (V.ref a)) ∧ (b = a ∨ LOf H a b)
structure BRel (K : KW) (pa : Pa) (σ : St) (H : Hp) (e : Ev) : Prop where
  bo : ∀ (i : Nat) (t : Bool) (d : D),e[i]? = some (Sl.b t d) → ∃ a,σ[i]? = some (some (V.ref a)) ∧ BoardAt K H a d ∧ (t = true → pa.f i = some a)
  one : ∀ (i j : Nat) (b : Addr),OwB σ H e i b → OwB σ H e j b → i = j
structure BTr (σ : St) (H : Hp) (e : Ev) (σ' : St) (H' : Hp) (e' : Ev) : Prop where
  fb : ∀ b x,H b = some x → BK x → (∀ i,¬ OwB σ H e i b) → H' b = some x
  ob : ∀ i b,OwB σ' H' e' i b → (∃ j,OwB σ H e j b) ∨ H b = none
  td : ∀ (j : Nat),(∃ d,e[j]? = some (Sl.b true d)) ↔ ∃ d,e'[j]? = some (Sl.b true d)
structure BNe (σ : St) (H : Hp) (e : Ev) (σ' : St) (H' : Hp) (e' : Ev) : Prop where
  sl : ∀ (i : Nat) (t : Bool) (d : D),e'[i]? = some (Sl.b t d) → e[i]? = some (Sl.b t d) ∧ σ'[i]? = σ[i]?
  td : ∀ (i : Nat) (d : D),e[i]? = some (Sl.b true d) → e'[i]? = some (Sl.b true d)
  hk : ∀ b x,H b = some x → BK x → H' b = some x
section
variable {K : KW} {pa : Pa} {σ σ1 σ2 : St} {H H1 H2 : Hp} {e e1 e2 : Ev}
theorem BTr.trans (nn : ∀ b,H1 b = none → H b = none) (a : BTr σ H e σ1 H1 e1) (b : BTr σ1 H1 e1 σ2 H2 e2) : BTr σ H e σ2 H2 e2:=by
  refine ⟨fun c x h k n=>?_,fun i c h=>?_,fun j=>(a.td j).trans (b.td j)⟩
  · refine b.fb c x (a.fb c x h k n) k fun i q=>?_
    rcases a.ob i c q with ⟨j,q⟩ | q
    · exact n j q
    · rw [h] at q; cases q
  · rcases b.ob i c h with ⟨j,q⟩ | q
    · exact a.ob j c q
    · exact .inr (nn c q)
theorem bown (sl : ∀ (i : Nat) (t : Bool) (d : D),e1[i]? = some (Sl.b t d) → e[i]? = some (Sl.b t d) ∧ σ1[i]? = σ[i]?) (hk : ∀ b x,H b = some x → BK x → H1 b = some x) (R : BRel K pa σ H e) {i : Nat} {b : Addr} (h : OwB σ1 H1 e1 i b) : OwB σ H e i b:=by
  obtain ⟨t,d,a,h1,h2,h3⟩:=h
  obtain ⟨g1,g2⟩:=sl i t d h1
  rw [g2] at h2
  refine ⟨t,d,a,g1,h2,?_⟩
  rcases h3 with h3 | ⟨C,dx,fs,h3,h4⟩
  · exact .inl h3
  · obtain ⟨a',q1,q2,_⟩:=R.bo i t d g1
    rw [h2] at q1
    cases q1
    obtain ⟨x,q3,q4⟩:=q2.bk
    have q5:=hk a x q3 q4
    rw [h3] at q5
    cases q5
    exact .inr ⟨C,dx,fs,q3,h4⟩
theorem BRel.to (R : BRel K pa σ H e) (g : Grow H H1) (sl : ∀ (i : Nat) (t : Bool) (d : D),e1[i]? = some (Sl.b t d) → e[i]? = some (Sl.b t d) ∧ σ1[i]? = σ[i]?) (hk : ∀ b x,H b = some x → BK x → H1 b = some x) : BRel K pa σ1 H1 e1:=by
  refine ⟨fun i t d h=>?_,fun i j b h1 h2=>R.one i j b (bown sl hk R h1) (bown sl hk R h2)⟩
  obtain ⟨g1,g2⟩:=sl i t d h
  obtain ⟨a,q1,q2,q3⟩:=R.bo i t d g1
  exact ⟨a,g2.trans q1,q2.keep g fun b x _ h k=>hk b x h k,q3⟩
theorem BNe.rel (n : BNe σ H e σ1 H1 e1) (g : Grow H H1) (R : BRel K pa σ H e) : BRel K pa σ1 H1 e1:=R.to g n.sl n.hk
theorem BNe.hp (hk : ∀ b x,H b = some x → BK x → H1 b = some x) : BNe σ H e σ H1 e:=⟨fun _ _ _ h=>⟨h,rfl⟩,fun _ _ h=>h,hk⟩
theorem BNe.set {i : Nat} {y z : Sl} (hi : e[i]? = some y) (hy : ∀ d : D,y ≠ .b true d) (hz : ∀ (t : Bool) (d : D),z ≠ .b t d) (hs : ∀ j,j ≠ i → σ1[j]? = σ[j]?) (hk : ∀ b x,H b = some x → BK x → H1 b = some x) : BNe σ H e σ1 H1 (e.set i z):=by
  have sg : ∀ {j : Nat} {x : Sl},(e.set i z)[j]? = some x → (j = i ∧ x = z) ∨ (j ≠ i ∧ e[j]? = some x):=fun {j x} h=>by
    by_cases q : j = i
    · subst q
      rw [List.getElem?_set_self (List.getElem?_eq_some_iff.mp hi).1] at h
      exact .inl ⟨rfl,(Option.some.inj h).symm⟩
    · rw [List.getElem?_set_ne (Ne.symm q)] at h
      exact .inr ⟨q,h⟩
  refine ⟨fun j t d h=>?_,fun j d h=>?_,hk⟩
  · rcases sg h with ⟨_,q⟩ | ⟨q,h⟩
    · exact (hz t d q.symm).elim
    · exact ⟨h,hs j q⟩
  · rw [List.getElem?_set_ne]
    · exact h
    · rintro rfl; rw [hi] at h; cases h; exact hy _ rfl
end
structure Rel (K : KW) (pa : Pa) (σ : St) (H : Hp) (e : Ev) : Prop where
  sh : ∀ (i : Nat) (d : D),e[i]? = some (Sl.s d) → ∃ v,σ[i]? = some (some v) ∧ Den K H v d
  ow : ∀ (i : Nat) (t : Bool) (d : D),e[i]? = some (Sl.o t d) → ∃ a,σ[i]? = some (some (V.ref a)) ∧ OwnAt K H a d ∧ (t = true → pa.f i = some a)
  ap : ∀ (i j : Nat) (t t' : Bool) (d d' : D) (a : Addr),e[i]? = some (Sl.o t d) → e[j]? = some (Sl.o t' d') → σ[i]? = some (some (V.ref a)) → σ[j]? = some (some (V.ref a)) → i = j
  ln : σ.length = e.length
  xc : ∀ (i : Nat) (p : Px),e[i]? = some (Sl.x p) → ∃ a,σ[i]? = some (some (V.ref a)) ∧ XAt K H a p
  tb : LamX.Tabs pa.T H
  bd : BRel K pa σ H e
def Own (σ : St) (e : Ev) (a : Addr) : Prop:=∃ (i : Nat) (t : Bool) (d : D),e[i]? = some (Sl.o t d) ∧ σ[i]? = some (some (V.ref a))
structure Tr (K : KW) (pa : Pa) (σ : St) (H : Hp) (e : Ev) (σ' : St) (H' : Hp) (e' : Ev) : Prop where
  rel : Rel K pa σ' H' e'
  fr : ∀ b x,H b = some x → ¬ Own σ e b → NT x → H' b = some x
  nn : ∀ b,H' b = none → H b = none
  ow : ∀ b,Own σ' e' b → Own σ e b ∨ H b = none
  gr : Grow H H'
  td : ∀ (j : Nat),(∃ d,e[j]? = some (Sl.o true d)) ↔ ∃ d,e'[j]? = some (Sl.o true d)
  ln : σ'.length = σ.length
  bt : BTr σ H e σ' H' e'
section
variable {K : KW} {pa : Pa} {σ σ1 σ2 : St} {H H1 H2 : Hp} {e e1 e2 : Ev}
theorem Tr.trans (a : Tr K pa σ H e σ1 H1 e1) (b : Tr K pa σ1 H1 e1 σ2 H2 e2) : Tr K pa σ H e σ2 H2 e2:=by
  refine ⟨b.rel,fun c x h n nt=>?_,fun c h=>a.nn c (b.nn c h),fun c h=>?_,a.gr.trans b.gr,fun j=>(a.td j).trans (b.td j),b.ln.trans a.ln,a.bt.trans a.nn b.bt⟩
  · refine b.fr c x (a.fr c x h n nt) (fun q=>?_) nt
    rcases a.ow c q with q | q
    · exact n q
    · rw [h] at q; cases q
  · rcases b.ow c h with q | q
    · exact a.ow c q
    · exact .inr (a.nn c q)
theorem Rel.keep (R : Rel K pa σ H e) (g : Grow H H1) (hT : LamX.Tabs pa.T H1) (k : ∀ a,Own σ e a → H1 a = H a) (hk : ∀ b x,H b = some x → BK x → H1 b = some x) : Rel K pa σ H1 e:=by
  refine ⟨fun i d h=>?_,fun i t d h=>?_,R.ap,R.ln,fun i p h=>?_,hT,(BNe.hp hk).rel g R.bd⟩
  · obtain ⟨v,h1,h2⟩:=R.sh i d h
    exact ⟨v,h1,h2.mono g⟩
  · obtain ⟨a,h1,h2,h3⟩:=R.ow i t d h
    exact ⟨a,h1,h2.keep g (k a ⟨i,t,d,h,h1⟩),h3⟩
  · obtain ⟨a,h1,h2⟩:=R.xc i p h
    exact ⟨a,h1,h2.mono g⟩
end
def PvK (K : KW) (σ : St) (H : Hp) (v : V) (p : Pv) : Prop:=match p with
  | .d d=>Den K H v d
  | .r i=>σ[i]? = some (some v)
  | .o _=>False
section
variable {K : KW} {pa : Pa} {σ σ1 σ2 : St} {H H1 H2 : Hp} {e e1 e2 : Ev} {v : V} {p : Pv} {d : D}
theorem PvK.mono (g : Grow H H1) (h : PvK K σ H v p) : PvK K σ H1 v p:=by
  cases p with
  | d d=>exact Den.mono g h
  | r i=>exact h
  | o d=>exact h.elim
end
end DL
end L2
namespace L2
namespace DL
open PySem PySem.Spec PyProof.Rows
structure Gd where
  K : KW
  mg : Str → Option Value
  pa : Pa
  W : WX
def XDen (K : KW) (mg : Str → Option Value) (H : Hp) (x : Px) (c : Value) (dx : Option Addr) : Prop :=
  ∃ C,mg x.cls = some (.ref C) ∧ c = .ref C ∧ (match x.val with
    | none=>dx = none
    | some (n,d)=>∃ a v,dx = some a ∧ H a = some (.xd [(n,v)]) ∧ Den K H v d)
def Out {α : Type} (G : Gd) (σ : St) (H : Hp) (e : Ev) (r : Rs α) (ok : α → Ev → Prop) : Prop:=match r with
  | .ok a e'=>ok a e'
  | .exc x e'=>∀ c dx H',Tr G.K G.pa σ H e σ H' e' → XDen G.K G.mg H' x c dx → G.W c dx σ H'
  | .bad=>False
section
variable {α β : Type} {G : Gd} {σ : St} {H : Hp} {e : Ev}
theorem Out.bind {r : Rs α} {k : α → Ev → Rs β} {ok : β → Ev → Prop} (h : Out G σ H e (r.bind k) ok) :
    Out G σ H e r fun a e1=>∀ H1,Tr G.K G.pa σ H e σ H1 e1 → Out G σ H1 e1 (k a e1) ok:=by
  cases r with
  | exc x e'=>exact h
  | bad=>exact h
  | ok a e1 =>
    intro H1 T1
    have h : Out G σ H e (k a e1) ok:=h
    cases q : k a e1 with
    | ok b e2=>rw [q] at h; exact h
    | exc x e2=>rw [q] at h; exact fun c dx H' T xd=>h c dx H' (T1.trans T) xd
    | bad=>rw [q] at h; exact h
end
end DL
end L2
namespace L2
namespace DL
open PySem PySem.Spec PyProof.Rows
section
variable {X : Cx} {pa : Pa} {W : WX} {a b c : Expr} {f g : M Pv} {pos : Pos} {rest : List Expr}
variable {s t : M Bool}
theorem Rs.bind_ok {α β : Type} {r : Rs α} {k : α → Ev → Rs β} {b : β} {e' : Ev} (h : r.bind k = .ok b e') : ∃ a e1,r = .ok a e1 ∧ k a e1 = .ok b e':=by
  cases r with
  | ok a e1=>exact ⟨a,e1,rfl,h⟩
  | exc x e1=>cases h
  | bad=>cases h
theorem DenAll.length {K : KW} {H : Hp} : ∀ {vs : List V} {ds : List D},DenAll K H vs ds → vs.length = ds.length
  | _,_,.nil=>rfl
  | _,_,.cons _ r=>by rw [List.length_cons,List.length_cons,DenAll.length r]
end
inductive Fl where
  | nx | bk | ct | rt (x : Xv)
def RtIs (K : KW) (σ : St) (H : Hp) (e : Ev) (σ' : St) (H' : Hp) (e' : Ev) (v : V) (x : Xv) : Prop:=match x with
  | .s d=>Den K H' v d
  | .o d=>∃ a,v = .ref a ∧ OwnAt K H' a d ∧ (H a = none ∨ Own σ e a) ∧ ¬ Own σ' e' a
def OutS (G : Gd) (σ : St) (H : Hp) (e : Ev) (r : Rs Fl) (D : Ends) : Prop:=match r with
  | .ok .nx e'=>∀ σ' H',Tr G.K G.pa σ H e σ' H' e' → D.nx σ' H'
  | .ok .bk e'=>∀ σ' H',Tr G.K G.pa σ H e σ' H' e' → D.bk σ' H'
  | .ok .ct e'=>∀ σ' H',Tr G.K G.pa σ H e σ' H' e' → D.ct σ' H'
  | .ok (.rt x) e'=>∀ v σ' H',Tr G.K G.pa σ H e σ' H' e' → RtIs G.K σ H e σ' H' e' v x → D.rt v H'
  | .exc x e'=>∀ c dx σ' H',Tr G.K G.pa σ H e σ' H' e' → XDen G.K G.mg H' x c dx → G.W c dx σ' H'
  | .bad=>False
section
variable {X : Cx} {pa : Pa} {W : WX} {pos : Pos}
theorem OutS.nx {G : Gd} {σ : St} {H : Hp} {e : Ev} {r : Rs Fl} {D : Ends} {N : St → Hp → Prop} (q : OutS G σ H e r D) (h : ∀ e',r = .ok .nx e' → (∀ σ' H',Tr G.K G.pa σ H e σ' H' e' → D.nx σ' H') → ∀ σ' H',Tr G.K G.pa σ H e σ' H' e' → N σ' H') : OutS G σ H e r { D with nx:=N }:=by
  cases r with
  | bad=>exact q
  | exc x e'=>exact q
  | ok fl e' =>
    cases fl with
    | nx=>exact h e' rfl q
    | bk=>exact q
    | ct=>exact q
    | rt x=>exact q
end
end DL
end L2
namespace L2
namespace DL
open PySem PySem.Spec PyProof.Rows
section
variable {X : Cx} {pa : Pa} {W : WX} {pos : Pos}
def signs (x : Str) : List D:=x.cps.toList.map fun c=>.str ⟨#[c]⟩
theorem DenKV.length {K : KW} {H : Hp} : ∀ {ks : List (Key × V)} {kvs : List (D × D)},DenKV K H ks kvs → ks.length = kvs.length
  | _,_,.nil=>rfl
  | _,_,.cons _ r=>by rw [List.length_cons,List.length_cons,DenKV.length r]
def items (d : D) : Option (List D):=match d with
  | .list ds=>some ds
  | .tuple ds=>some ds
  | .str x=>if x.cps.size ≤ sizeLine then some (signs x) else none
  | .dict kvs=>if nkv kvs = true then none else some (kvs.map (·.1))
  | _=>none
end
end DL
end L2
namespace L2
namespace DL
open PySem PySem.Spec PyProof.Rows
section
variable {K : KW} {H H' : Hp}
def iI (f : Int → Int → D) (c : Int → Int → Bool) (d e : D) : Option Xv:=match d,e with
  | .int i,.int j=>if c i j then some (.s (f i j)) else none
  | _,_=>none
theorem Rdb.int {v : V} {i : Int} (h : Rdb K H v (.int i)) : v = .int i:=by
  have h : Den K H v (.int i):=h
  cases h; rfl
theorem Rdb.bl {v : V} {i : Bool} (h : Rdb K H v (.bool i)) : v = .bl i:=by
  have h : Den K H v (.bool i):=h
  cases h; rfl
theorem Rdb.str {v : V} {i : Str} (h : Rdb K H v (.str i)) : v = .str i:=by
  have h : Den K H v (.str i):=h
  cases h; rfl
theorem Rdb.non {v : V} (h : Rdb K H v .none) : v = .non:=by
  have h : Den K H v .none:=h
  cases h; rfl
theorem Rdb.tup {v : V} {ds : List D} (h : Rdb K H v (.tuple ds)) : ∃ a xs,v = .ref a ∧ FzT K H a xs ∧ DenAll K H xs ds:=by
  have h : Den K H v (.tuple ds):=h
  cases h with
  | tup q r=>exact ⟨_,_,rfl,q,r⟩
end
def subD : D → D → Option Xv:=iI (fun i j=>.int (i - j)) fun _ _=>true
def negD : D → Option Xv
  | .int i=>some (.s (.int (-i)))
  | _=>none
def ltD (d e : D) : Option Xv:=match d,e with
  | .int i,.int j=>some (.s (.bool (decide (i < j))))
  | .str x,.str y=>some (.s (.bool (decide (x.cps.toList < y.cps.toList))))
  | _,_=>none
def leD : D → D → Option Xv:=iI (fun i j=>.bool (decide (i ≤ j))) fun _ _=>true
def gtD : D → D → Option Xv:=iI (fun i j=>.bool (decide (j < i))) fun _ _=>true
def geD : D → D → Option Xv:=iI (fun i j=>.bool (decide (j ≤ i))) fun _ _=>true
def addD (d e : D) : Option Xv:=match d,e with
  | .int i,.int j=>some (.s (.int (i + j)))
  | .str x,.str y=>if x.length + y.length ≤ sizeLine then some (.s (.str (x ++ y))) else none
  | .list xs,.list ys=>if xs.length + ys.length ≤ sizeLine then some (.o (.list (xs ++ ys))) else none
  | .tuple xs,.tuple ys=>if xs.length + ys.length ≤ sizeLine then some (.s (.tuple (xs ++ ys))) else none
  | _,_=>none
section
variable {K : KW} {H : Hp}
theorem DenAll.set {v : V} {d : D} (q : Den K H v d) : ∀ {xs : List V} {ds : List D} (i : Nat),DenAll K H xs ds → DenAll K H (xs.set i v) (ds.set i d)
  | _,_,_,.nil=>.nil
  | _,_,0,.cons _ t=>.cons q t
  | _,_,i + 1,.cons r t=>.cons r (t.set q i)
theorem Rdb.lst {v : V} {ds : List D} (h : Rdb K H v (.list ds)) : ∃ a xs,v = .ref a ∧ Rd H a (.lst xs) ∧ DenAll K H xs ds:=h
theorem Rdb.dct {v : V} {kvs : List (D × D)} (h : Rdb K H v (.dict kvs)) (n : nkv kvs = false:=by assumption) : ∃ a ks,v = .ref a ∧ Rd H a (.dK ks) ∧ DenKV K H ks kvs:=by
  rcases h with h | ⟨n',_⟩
  · exact h
  · rw [n] at n'; cases n'
theorem Rdb.dcn {v : V} {kvs : List (D × D)} (h : Rdb K H v (.dict kvs)) (n : nkv kvs = true) : ∃ a xs,v = .ref a ∧ Rd H a (NHO K.prog K.w a xs) ∧ DenN K H xs kvs:=by
  rcases h with ⟨_,_,_,_,h⟩ | ⟨_,h⟩
  · rw [h.plain] at n; cases n
  · exact h
end
section
variable {X : Cx}
def flatD : D → Bool
  | .none=>true
  | .bool _=>true
  | .int _=>true
  | .str _=>true
  | _=>false
def scalD : D → D → Bool
  | .none,.none=>true | .none,.int _=>true | .int _,.none=>true | .none,.bool _=>true | .bool _,.none=>true | .none,.str _=>true | .str _,.none=>true
  | .int _,.int _=>true | .bool _,.bool _=>true | .str _,.str _=>true
  | .int _,.str _=>true | .str _,.int _=>true | .bool _,.str _=>true | .str _,.bool _=>true
  | _,_=>false
def eqB (d e : D) : Option Bool:=if scalD d e || (SeqAt.shaped d && SeqAt.shaped e) then some (PyData.eqv d e) else none
def eqD (d e : D) : Option Xv:=(eqB d e).map fun b=>.s (.bool b)
def neD (d e : D) : Option Xv:=(eqB d e).map fun b=>.s (.bool (!b))
def isNone : D → Bool
  | .none=>true
  | _=>false
def isND (d e : D) : Option Xv:=match e with
  | .none=>some (.s (.bool (isNone d)))
  | _=>none
def notND (d e : D) : Option Xv:=match e with
  | .none=>some (.s (.bool (!isNone d)))
  | _=>none
end
end DL
end L2
namespace L2
namespace DL
open PySem PySem.Spec PyProof.Rows
def isKey : D → Option Key
  | .int i=>some (.inl i)
  | .str x=>some (.inr x)
  | _=>none
def keyIn (kvs : List (D × D)) (d : D) : Option Key:=if nkv kvs = true then none else isKey d
def kEq : D → D → Bool
  | .int i,.int j=>i == j
  | .str x,.str y=>x == y
  | _,_=>false
def getK : List (D × D) → D → Option D
  | [],_=>none
  | (k',v) :: r,k=>if kEq k' k then some v else getK r k
def putD (kvs : List (D × D)) (k v : D) : List (D × D):=if kvs.any (fun p=>kEq p.1 k) then kvs.map (fun p=>if kEq p.1 k then (p.1,v) else p) else kvs ++ [(k,v)]
def sOf (o : Option D) : Option Xv:=o.map Xv.s
def ixS (d i : D) : Option Xv:=match d,i with
  | .list xs,.int j=>sOf (atI xs j)
  | .tuple xs,.int j=>sOf (atI xs j)
  | .str z,.int j=>if z.length ≤ sizeLine then sOf ((atI z.cps.toList j).map fun c=>.str ⟨#[c]⟩) else none
  | _,_=>none
def ixK (d i : D) : Option Xv:=match d with
  | .dict kvs=>(match keyIn kvs i with
    | some _=>sOf (getK kvs i)
    | none=>none)
  | _=>none
def ixD (d i : D) : Option Xv:=match d with
  | .dict _=>ixK d i
  | _=>ixS d i
section
variable {X : Cx} {pa : Pa} {W : WX} {pos p : Pos} {a b : Expr} {f g : M Pv} {x : Str}
def inSeq (x : D) (ys : List D) : Bool:=ys.any fun y=>PyData.eqv y x
def inF (x c : D) : Option Bool:=match c with
  | .list ys=>if flatD x && ys.all flatD then some (inSeq x ys) else none
  | .tuple ys=>if flatD x && ys.all flatD then some (inSeq x ys) else none
  | _=>none
def inN (x c : D) : Option Bool:=match c with
  | .list ys=>if SeqAt.shaped x && SeqAt.shaped (.list ys) then some (inSeq x ys) else none
  | _=>none
def inK (x c : D) : Option Bool:=match c with
  | .dict kvs=>(match keyIn kvs x with
    | some _=>some (getK kvs x).isSome
    | none=>none)
  | _=>none
def inS (x c : D) : Option Bool:=match x,c with
  | .str y,.str z=>(match y.cps.toList with
    | [n]=>some (decide (n ∈ z.cps.toList))
    | _=>some (!(Builtin.Str.occurrences z y 0 z.length 1).isEmpty))
  | _,_=>none
def inB (x c : D) : Option Bool:=match inF x c with
  | some b=>some b
  | none=>(match inN x c with
    | some b=>some b
    | none=>(match inK x c with
      | some b=>some b
      | none=>inS x c))
def bX (o : Option Bool) : Option Xv:=o.map fun b=>.s (.bool b)
def nbX (o : Option Bool) : Option Xv:=o.map fun b=>.s (.bool (!b))
def inD (x c : D) : Option Xv:=bX (inB x c)
def notInD (x c : D) : Option Xv:=nbX (inB x c)
end
end DL
end L2
namespace L2
namespace DL
open PySem PySem.Spec PyProof.Rows
def lenD : D → Option Xv
  | .list xs=>some (.s (.int xs.length))
  | .tuple xs=>some (.s (.int xs.length))
  | .str z=>if z.length ≤ sizeLine then some (.s (.int z.length)) else none
  | _=>none
def tupD : D → Option Xv
  | .list xs=>some (.s (.tuple xs))
  | .tuple xs=>some (.s (.tuple xs))
  | _=>none
def lstD : D → Option Xv
  | .list xs=>some (.o (.list xs))
  | .tuple xs=>some (.o (.list xs))
  | _=>none
def intD : D → Option Xv
  | .int i=>some (.s (.int i))
  | .bool b=>some (.s (.int (if b then 1 else 0)))
  | _=>none
def absD : D → Option Xv
  | .int i=>some (.s (.int (if i < 0 then -i else i)))
  | _=>none
def min2D (d e : D) : Option Xv:=match d,e with
  | .int i,.int j=>some (.s (.int (if j < i then j else i)))
  | _,_=>none
def max2D (d e : D) : Option Xv:=match d,e with
  | .int i,.int j=>some (.s (.int (if j > i then j else i)))
  | _,_=>none
section
variable {X : Cx} {pa : Pa} {W : WX} {pos p : Pos} {a b : Expr} {f g : M Pv} {x : Str}
inductive Ty where
  | list | tuple | dict | str | int | bool
inductive Kd where
  | non | bool | int | str | list | tuple | dict
def kdOf : D → Kd
  | .none=>.non | .bool _=>.bool | .int _=>.int | .str _=>.str | .list _=>.list | .tuple _=>.tuple | .dict _=>.dict
def isaK : Ty → Kd → Bool
  | .list,.list=>true
  | .tuple,.tuple=>true
  | .dict,.dict=>true
  | .str,.str=>true
  | .int,.int=>true
  | .int,.bool=>true
  | .bool,.bool=>true
  | _,_=>false
def isa (T : Ty) (d : D) : Bool:=isaK T (kdOf d)
def isiD (Ts : List Ty) (d : D) : Option Xv:=some (.s (.bool (Ts.any fun T=>isa T d)))
end
end DL
end L2
namespace L2
namespace DL
open PySem PySem.Spec PyProof.Rows
section
variable {K : KW} {pa : Pa} {σ : St} {H H' : Hp} {e : Ev} {i : Nat} {t : Bool} {d d' : D} {a : Addr}
theorem Rel.lst (R : Rel K pa σ H e) {ds : List D} (hi : e[i]? = some (.o t (.list ds))) : ∃ a vs,σ[i]? = some (some (.ref a)) ∧ H a = some (.lst vs) ∧ DenAll K H vs ds:=by
  obtain ⟨a,h1,⟨vs,h2,h3⟩,_⟩:=R.ow i t _ hi
  exact ⟨a,vs,h1,h2,h3⟩
theorem Rel.dct (R : Rel K pa σ H e) {ds : List (D × D)} (hi : e[i]? = some (.o t (.dict ds))) (nn : nkv ds = false) : ∃ a vs,σ[i]? = some (some (.ref a)) ∧ H a = some (.dK vs) ∧ DenKV K H vs ds:=by
  obtain ⟨a,h1,h2,_⟩:=R.ow i t _ hi
  rcases h2 with ⟨vs,h2,h3⟩ | ⟨n,_⟩
  · exact ⟨a,vs,h1,h2,h3⟩
  · rw [nn] at n; cases n
end
end DL
end L2
namespace L2
namespace DL
open PySem PySem.Spec PyProof.Rows
def numbered (n : Nat) : List D → List D
  | []=>[]
  | d :: r=>.tuple [.int n,d] :: numbered (n + 1) r
def zipP : List D → List D → List D
  | x :: xs,y :: ys=>.tuple [x,y] :: zipP xs ys
  | _,_=>[]
end DL
end L2
namespace L2
namespace DL
open PySem PySem.Spec PyProof.Rows
def dLe (a b : D) : Bool:=!PySem.W.dataLt b a
def ins (x : D) : List D → List D
  | []=>[x]
  | y :: r=>if dLe x y then x :: y :: r else y :: ins x r
end DL
end L2
namespace L2
namespace DL
open PySem PySem.Spec PyProof.Rows
def truD : D → Option Bool
  | .none=>some false
  | .bool b=>some b
  | .int i=>some (i != 0)
  | .str y=>if y.length ≤ 16777216 then some ((y.length : Int) != 0) else none
  | .list xs=>some (!xs.isEmpty)
  | .tuple xs=>some (!xs.isEmpty)
  | .dict xs=>if nkv xs = true then none else some (!xs.isEmpty)
end DL
end L2
namespace L2
namespace DL
open PySem PySem.Spec PyProof.Rows
section
variable {X : Cx} {pa : Pa} {W : WX} {a b c : Expr} {f g k : M Pv} {x : Str} {p pos : Pos}
def inE (x c : D) : Option Xv:=match x,c with
  | .none,.dict kvs=>if nkv kvs = true then none else some (.s (.bool false))
  | x,c=>inD x c
def notInE (x c : D) : Option Xv:=match x,c with
  | .none,.dict kvs=>if nkv kvs = true then none else some (.s (.bool true))
  | x,c=>notInD x c
end
end DL
end L2
namespace L2
namespace DL
open PySem PySem.Spec PyProof.Rows
section
variable {X : Cx}
def isBD (d e : D) : Option Xv:=match d,e with
  | .bool b,.bool c=>some (.s (.bool (b == c)))
  | _,_=>none
def notBD (d e : D) : Option Xv:=match d,e with
  | .bool b,.bool c=>some (.s (.bool (!(b == c))))
  | _,_=>none
end
end DL
end L2
namespace L2
namespace DL
open PySem PySem.Spec PyProof.Rows
inductive R (α : Type) where
  | ok (a : α) | exc (x : Px) | bad
def R.bind {α β : Type} (r : R α) (k : α → R β) : R β:=match r with
  | .ok a=>k a
  | .exc x=>.exc x
  | .bad=>.bad
def R.bnx {α β : Type} (r : R α) (k : α → R β) : R β:=match r with
  | .ok a=>k a
  | _=>.bad
def o1 (h : D → Option Xv) (x : D) : R D:=match h x with
  | some v=>.ok v.dat
  | none=>.bad
def o2 (h : D → D → Option Xv) (x y : D) : R D:=match h x y with
  | some v=>.ok v.dat
  | none=>.bad
def boR : D → R Bool
  | .bool b=>.ok b
  | _=>.bad
def truR (d : D) : R Bool:=match truD d with
  | some b=>.ok b
  | none=>.bad
inductive AS where
  | x | s (d : D) | a (d : D) | o (d : D) | t (d : D) | e (p : Px) | b (t : Bool) (d : D)
def AS.dat : AS → Option D
  | .x=>none
  | .s d=>some d
  | .a d=>some d
  | .o d=>some d
  | .t d=>some d
  | .e _=>none
  | .b _ _=>none
def IsS : AS → Sl → Prop
  | .x,.u=>True
  | .x,.s _=>True
  | .x,.o b _=>b = false
  | .x,.x _=>True
  | .e p,.x q=>q = p
  | .s d,.s d'=>d' = d
  | .a d,.s d'=>d' = d
  | .a d,.o b d'=>b = false ∧ d' = d
  | .o d,.o b d'=>b = false ∧ d' = d
  | .t d,.o b d'=>b = true ∧ d' = d
  | .b t d,.b t' d'=>t' = t ∧ d' = d
  | _,_=>False
def IsE : List AS → Ev → Prop
  | [],[]=>True
  | s :: Γ,l :: e=>IsS s l ∧ IsE Γ e
  | _,_=>False
theorem IsE.set {Γ : List AS} {e : Ev} (h : IsE Γ e) {i : Nat} {s : AS} {l : Sl} (hs : IsS s l) : IsE (Γ.set i s) (e.set i l):=by
  induction Γ generalizing e i with
  | nil =>
    cases e with
    | nil=>exact h
    | cons l e=>exact h.elim
  | cons c Γ ih =>
    cases e with
    | nil=>exact h.elim
    | cons l e =>
      cases i with
      | zero=>exact ⟨hs,h.2⟩
      | succ i=>exact ⟨h.1,ih h.2⟩
theorem bind_ok {α : Type} (s : Rs α) : s.bind Rs.ok = s:=by cases s <;> rfl
end DL
end L2
namespace L2
namespace DL
open PySem PySem.Spec PyProof.Rows
def itR (d : D) : R (List D):=match items d with
  | some ds=>.ok ds
  | none=>.bad
def enumR : D → R (List D)
  | .list ds=>.ok (numbered 0 ds)
  | _=>.bad
def zipR (d d' : D) : R (List D):=match d,d' with
  | .list xs,.list ys=>.ok (zipP xs ys)
  | .tuple xs,.tuple ys=>.ok (zipP xs ys)
  | _,_=>.bad
def itemsR : D → R (List D)
  | .dict kvs=>if nkv kvs = true then .bad else .ok (kvs.map fun p=>.tuple [p.1,p.2])
  | _=>.bad
def valuesR : D → R (List D)
  | .dict kvs=>if nkv kvs = true then .bad else .ok (kvs.map (·.2))
  | _=>.bad
def prtR : D → R Int
  | .int i=>.ok i
  | _=>.bad
def un1 : D → R D
  | .tuple [x]=>.ok x
  | .list [x]=>.ok x
  | _=>.bad
def un2 : D → R (D × D)
  | .tuple [x,y]=>.ok (x,y)
  | .list [x,y]=>.ok (x,y)
  | _=>.bad
def un3 : D → R (D × D × D)
  | .tuple [x,y,z]=>.ok (x,y,z)
  | .list [x,y,z]=>.ok (x,y,z)
  | _=>.bad
def lsR : D → R (List D)
  | .list xs=>.ok xs
  | _=>.bad
inductive Fo (σ : Type) where
  | nx (s : σ) | bk (s : σ) | rt (d t : D)
inductive Lo (σ : Type) where
  | nx (s : σ) | rt (d t : D)
def foldR {σ α : Type} (f : σ → α → R σ) : σ → List α → R σ
  | s,[]=>.ok s
  | s,d :: ds=>(f s d).bind fun s'=>foldR f s' ds
def forR {σ α : Type} (f : σ → α → R (Fo σ)) : σ → List α → R (Lo σ)
  | s,[]=>.ok (.nx s)
  | s,d :: ds=>(f s d).bind fun o=>match o with
    | .nx s'=>forR f s' ds
    | .bk s'=>.ok (.nx s')
    | .rt d t=>.ok (.rt d t)
def mapR {α β : Type} (f : α → R β) : List α → R (List β)
  | []=>.ok []
  | d :: ds=>(f d).bnx fun y=>(mapR f ds).bnx fun ys=>.ok (y :: ys)
def fcR {α β : Type} (f : α → R (Option β)) : List α → R (List β)
  | []=>.ok []
  | d :: ds=>(f d).bnx fun o=>(fcR f ds).bnx fun ys=>.ok (match o with
    | some y=>y :: ys
    | none=>ys)
def catR {α β : Type} (f : α → R (List β)) : List α → R (List β)
  | []=>.ok []
  | d :: ds=>(f d).bnx fun zs=>(catR f ds).bnx fun ys=>.ok (zs ++ ys)
def dcR {α : Type} (f : α → R (Option (D × D))) : List (D × D) → List α → R (List (D × D))
  | acc,[]=>.ok acc
  | acc,d :: ds=>(f d).bnx fun o=>match o with
    | some kv=>(match isKey kv.1 with
      | some _=>dcR f (putD acc kv.1 kv.2) ds
      | none=>.bad)
    | none=>dcR f acc ds
end DL
end L2
namespace L2
namespace DL
open PySem PySem.Spec PyProof.Rows
section
variable {α β γ σ : Type}
@[simp] theorem R.bind_ok (a : α) (k : α → R β) : (R.ok a).bind k = k a:=id rfl
@[simp] theorem R.bnx_ok (a : α) (k : α → R β) : (R.ok a).bnx k = k a:=id rfl
@[simp] theorem R.bind_bad (k : α → R β) : (R.bad : R α).bind k = .bad:=id rfl
@[simp] theorem R.bind_exc (x : Px) (k : α → R β) : (R.exc x : R α).bind k = .exc x:=id rfl
@[simp] theorem R.bind_ret (r : R α) : (r.bind fun z=>.ok z) = r:=by cases r <;> rfl
@[simp] theorem boR_b (b : Bool) : boR (.bool b) = .ok b:=id rfl
@[simp] theorem truR_b (b : Bool) : truR (.bool b) = .ok b:=id rfl
@[simp] theorem truR_n : truR .none = .ok false:=id rfl
@[simp] theorem truR_l (xs : List D) : truR (.list xs) = .ok (!xs.isEmpty):=id rfl
@[simp] theorem truR_t (xs : List D) : truR (.tuple xs) = .ok (!xs.isEmpty):=id rfl
@[simp] theorem itR_l (xs : List D) : itR (.list xs) = .ok xs:=id rfl
@[simp] theorem itR_t (xs : List D) : itR (.tuple xs) = .ok xs:=id rfl
@[simp] theorem lsR_l (xs : List D) : lsR (.list xs) = .ok xs:=id rfl
@[simp] theorem un2_t (x y : D) : un2 (.tuple [x,y]) = .ok (x,y):=id rfl
@[simp] theorem un2_l (x y : D) : un2 (.list [x,y]) = .ok (x,y):=id rfl
@[simp] theorem un3_t (x y z : D) : un3 (.tuple [x,y,z]) = .ok (x,y,z):=id rfl
@[simp] theorem un1_t (x : D) : un1 (.tuple [x]) = .ok x:=id rfl
@[simp] theorem prtR_i (i : Int) : prtR (.int i) = .ok i:=id rfl
@[simp] theorem zipR_l (xs ys : List D) : zipR (.list xs) (.list ys) = .ok (zipP xs ys):=id rfl
@[simp] theorem zipR_t (xs ys : List D) : zipR (.tuple xs) (.tuple ys) = .ok (zipP xs ys):=id rfl
@[simp] theorem enumR_l (xs : List D) : enumR (.list xs) = .ok (numbered 0 xs):=id rfl
@[simp] theorem o2_ix0t (x : D) (xs : List D) : o2 ixD (.tuple (x :: xs)) (.int 0) = .ok x:=by
  have : atI (x :: xs) 0 = some x:=by unfold atI ixN; simp
  show (match sOf (atI (x :: xs) 0) with | some v=>R.ok v.dat | none=>.bad) = _
  rw [this]; rfl
@[simp] theorem o2_ix1t (x y : D) (xs : List D) : o2 ixD (.tuple (x :: y :: xs)) (.int 1) = .ok y:=by
  have : atI (x :: y :: xs) 1 = some y:=by
    unfold atI ixN
    rw [if_pos (by decide),if_pos (by simp only [List.length_cons]; omega)]
    rfl
  show (match sOf (atI (x :: y :: xs) 1) with | some v=>R.ok v.dat | none=>.bad) = _
  rw [this]; rfl
@[simp] theorem o2_ix0l (x : D) (xs : List D) : o2 ixD (.list (x :: xs)) (.int 0) = .ok x:=by
  have : atI (x :: xs) 0 = some x:=by unfold atI ixN; simp
  show (match sOf (atI (x :: xs) 0) with | some v=>R.ok v.dat | none=>.bad) = _
  rw [this]; rfl
@[simp] theorem o2_ix1l (x y : D) (xs : List D) : o2 ixD (.list (x :: y :: xs)) (.int 1) = .ok y:=by
  have : atI (x :: y :: xs) 1 = some y:=by
    unfold atI ixN
    rw [if_pos (by decide),if_pos (by simp only [List.length_cons]; omega)]
    rfl
  show (match sOf (atI (x :: y :: xs) 1) with | some v=>R.ok v.dat | none=>.bad) = _
  rw [this]; rfl
@[simp] theorem o2_isN (d : D) : o2 isND d .none = .ok (.bool (isNone d)):=id rfl
@[simp] theorem o2_notN (d : D) : o2 notND d .none = .ok (.bool (!isNone d)):=id rfl
@[simp] theorem isNone_n : isNone .none = true:=id rfl
@[simp] theorem isNone_s (x : Str) : isNone (.str x) = false:=id rfl
@[simp] theorem isNone_t (xs : List D) : isNone (.tuple xs) = false:=id rfl
@[simp] theorem isNone_l (xs : List D) : isNone (.list xs) = false:=id rfl
@[simp] theorem isNone_b (b : Bool) : isNone (.bool b) = false:=id rfl
@[simp] theorem isNone_i (i : Int) : isNone (.int i) = false:=id rfl
@[simp] theorem isNone_d (xs : List (D × D)) : isNone (.dict xs) = false:=id rfl
@[simp] theorem o1_tupl (xs : List D) : o1 tupD (.list xs) = .ok (.tuple xs):=id rfl
@[simp] theorem o1_tupt (xs : List D) : o1 tupD (.tuple xs) = .ok (.tuple xs):=id rfl
@[simp] theorem o1_lstl (xs : List D) : o1 lstD (.list xs) = .ok (.list xs):=id rfl
@[simp] theorem o1_lstt (xs : List D) : o1 lstD (.tuple xs) = .ok (.list xs):=id rfl
@[simp] theorem o1_lenl (xs : List D) : o1 lenD (.list xs) = .ok (.int xs.length):=id rfl
@[simp] theorem o1_lent (xs : List D) : o1 lenD (.tuple xs) = .ok (.int xs.length):=id rfl
@[simp] theorem o1_int (i : Int) : o1 intD (.int i) = .ok (.int i):=id rfl
@[simp] theorem o1_intb (b : Bool) : o1 intD (.bool b) = .ok (.int (if b then 1 else 0)):=id rfl
@[simp] theorem o1_abs (i : Int) : o1 absD (.int i) = .ok (.int (if i < 0 then -i else i)):=id rfl
@[simp] theorem o1_neg (i : Int) : o1 negD (.int i) = .ok (.int (-i)):=id rfl
@[simp] theorem o1_isi (Ts : List Ty) (d : D) : o1 (isiD Ts) d = .ok (.bool (Ts.any fun T=>isa T d)):=id rfl
@[simp] theorem o2_addi (i j : Int) : o2 addD (.int i) (.int j) = .ok (.int (i + j)):=id rfl
@[simp] theorem o2_subi (i j : Int) : o2 subD (.int i) (.int j) = .ok (.int (i - j)):=id rfl
@[simp] theorem o2_gti (i j : Int) : o2 gtD (.int i) (.int j) = .ok (.bool (decide (j < i))):=id rfl
@[simp] theorem o2_gei (i j : Int) : o2 geD (.int i) (.int j) = .ok (.bool (decide (j ≤ i))):=id rfl
@[simp] theorem o2_lti (i j : Int) : o2 ltD (.int i) (.int j) = .ok (.bool (decide (i < j))):=id rfl
@[simp] theorem o2_lei (i j : Int) : o2 leD (.int i) (.int j) = .ok (.bool (decide (i ≤ j))):=id rfl
@[simp] theorem o2_min (i j : Int) : o2 min2D (.int i) (.int j) = .ok (.int (if j < i then j else i)):=id rfl
@[simp] theorem o2_max (i j : Int) : o2 max2D (.int i) (.int j) = .ok (.int (if j > i then j else i)):=id rfl
theorem o2_some {h : D → D → Option Xv} {x y : D} {v : Xv} (e : h x y = some v) : o2 h x y = .ok v.dat:=by unfold o2; rw [e]
theorem eqv_int (a b : Int) : PyData.eqv (.int a) (.int b) = (a == b):=by simp [PyData.eqv]
theorem eqv_str (a b : Str) : PyData.eqv (.str a) (.str b) = (a == b):=by simp [PyData.eqv]
theorem eqv_bool (a b : Bool) : PyData.eqv (.bool a) (.bool b) = (a == b):=by cases a <;> cases b <;> simp [PyData.eqv]
@[simp] theorem o2_eqi (i j : Int) : o2 eqD (.int i) (.int j) = .ok (.bool (i == j)):=by
  refine o2_some (v:=.s (.bool (i == j))) ?_
  show (some (PyData.eqv _ _)).map _ = _
  rw [eqv_int]; rfl
@[simp] theorem o2_nei (i j : Int) : o2 neD (.int i) (.int j) = .ok (.bool (!(i == j))):=by
  refine o2_some (v:=.s (.bool (!(i == j)))) ?_
  show (some (PyData.eqv _ _)).map _ = _
  rw [eqv_int]; rfl
@[simp] theorem o2_eqs (i j : Str) : o2 eqD (.str i) (.str j) = .ok (.bool (i == j)):=by
  refine o2_some (v:=.s (.bool (i == j))) ?_
  show (some (PyData.eqv _ _)).map _ = _
  rw [eqv_str]; rfl
@[simp] theorem o2_nes (i j : Str) : o2 neD (.str i) (.str j) = .ok (.bool (!(i == j))):=by
  refine o2_some (v:=.s (.bool (!(i == j)))) ?_
  show (some (PyData.eqv _ _)).map _ = _
  rw [eqv_str]; rfl
@[simp] theorem o2_eqb (i j : Bool) : o2 eqD (.bool i) (.bool j) = .ok (.bool (i == j)):=by
  refine o2_some (v:=.s (.bool (i == j))) ?_
  show (some (PyData.eqv _ _)).map _ = _
  rw [eqv_bool]; rfl
@[simp] theorem o2_neb (i j : Bool) : o2 neD (.bool i) (.bool j) = .ok (.bool (!(i == j))):=by
  refine o2_some (v:=.s (.bool (!(i == j)))) ?_
  show (some (PyData.eqv _ _)).map _ = _
  rw [eqv_bool]; rfl
@[simp] theorem o2_eqnn : o2 eqD .none .none = .ok (.bool true):=id rfl
@[simp] theorem o2_eqns (j : Str) : o2 eqD .none (.str j) = .ok (.bool false):=by
  refine o2_some (v:=.s (.bool false)) ?_
  show (some (PyData.eqv _ _)).map _ = _
  simp [PyData.eqv]
@[simp] theorem o2_eqsn (j : Str) : o2 eqD (.str j) .none = .ok (.bool false):=by
  refine o2_some (v:=.s (.bool false)) ?_
  show (some (PyData.eqv _ _)).map _ = _
  simp [PyData.eqv]
@[simp] theorem o2_nens (j : Str) : o2 neD .none (.str j) = .ok (.bool true):=by
  refine o2_some (v:=.s (.bool true)) ?_
  show (some (PyData.eqv _ _)).map _ = _
  simp [PyData.eqv]
@[simp] theorem o2_nesn (j : Str) : o2 neD (.str j) .none = .ok (.bool true):=by
  refine o2_some (v:=.s (.bool true)) ?_
  show (some (PyData.eqv _ _)).map _ = _
  simp [PyData.eqv]
@[simp] theorem mapR_nil (f : α → R β) : mapR f [] = .ok []:=id rfl
@[simp] theorem mapR_map (f : α → R β) (g : γ → α) (l : List γ) : mapR f (l.map g) = mapR (fun x=>f (g x)) l:=by
  induction l with
  | nil=>rfl
  | cons x l ih=>simp only [List.map_cons,mapR,ih]
theorem mapR_ok {f : α → R β} {g : α → β} : ∀ {l : List α},(∀ x ∈ l,f x = .ok (g x)) → mapR f l = .ok (l.map g)
  | [],_=>rfl
  | x :: l,h=>by
    rw [mapR,h x (by simp),mapR_ok (l:=l) fun y hy=>h y (by simp [hy])]
    rfl
@[simp] theorem mapR_pure (g : α → β) (l : List α) : mapR (fun x=>.ok (g x)) l = .ok (l.map g):=mapR_ok fun _ _=>rfl
@[simp] theorem fcR_map (f : α → R (Option β)) (g : γ → α) (l : List γ) : fcR f (l.map g) = fcR (fun x=>f (g x)) l:=by
  induction l with
  | nil=>rfl
  | cons x l ih=>simp only [List.map_cons,fcR,ih]
theorem fcR_ok {f : α → R (Option β)} {g : α → Option β} : ∀ {l : List α},(∀ x ∈ l,f x = .ok (g x)) → fcR f l = .ok (l.filterMap g)
  | [],_=>rfl
  | x :: l,h=>by
    rw [fcR,h x (by simp),fcR_ok (l:=l) fun y hy=>h y (by simp [hy]),List.filterMap_cons]
    show R.ok _ = _
    cases g x <;> rfl
theorem fcR_if {f : α → R (Option β)} {p : α → Bool} {g : α → β} {l : List α} (h : ∀ x ∈ l,f x = if p x = true then .ok (some (g x)) else .ok none) : fcR f l = .ok ((l.filter p).map g):=by
  rw [fcR_ok (g:=fun x=>if p x = true then some (g x) else none) fun x hx=>by rw [h x hx]; split <;> rfl]
  congr 1
  induction l with
  | nil=>rfl
  | cons x l ih =>
    rw [List.filterMap_cons,List.filter_cons,ih fun y hy=>h y (by simp [hy])]
    cases p x <;> rfl
@[simp] theorem fcR_pure (p : α → Bool) (g : α → β) (l : List α) : fcR (fun x=>if p x = true then .ok (some (g x)) else .ok none) l = .ok ((l.filter p).map g):=fcR_if fun _ _=>rfl
@[simp] theorem catR_map (f : α → R (List β)) (g : γ → α) (l : List γ) : catR f (l.map g) = catR (fun x=>f (g x)) l:=by
  induction l with
  | nil=>rfl
  | cons x l ih=>simp only [List.map_cons,catR,ih]
theorem catR_ok {f : α → R (List β)} {g : α → List β} : ∀ {l : List α},(∀ x ∈ l,f x = .ok (g x)) → catR f l = .ok (l.flatMap g)
  | [],_=>rfl
  | x :: l,h=>by
    rw [catR,h x (by simp),catR_ok (l:=l) fun y hy=>h y (by simp [hy]),List.flatMap_cons]
    rfl
@[simp] theorem catR_pure (g : α → List β) (l : List α) : catR (fun x=>.ok (g x)) l = .ok (l.flatMap g):=catR_ok fun _ _=>rfl
@[simp] theorem foldR_map (f : σ → α → R σ) (g : γ → α) (l : List γ) (s : σ) : foldR f s (l.map g) = foldR (fun s x=>f s (g x)) s l:=by
  induction l generalizing s with
  | nil=>rfl
  | cons x l ih=>simp only [List.map_cons,foldR,ih]
@[simp] theorem forR_map (f : σ → α → R (Fo σ)) (g : γ → α) (l : List γ) (s : σ) : forR f s (l.map g) = forR (fun s x=>f s (g x)) s l:=by
  induction l generalizing s with
  | nil=>rfl
  | cons x l ih=>simp only [List.map_cons,forR,ih]
end
def tin (a b k : Int) : D:=.list [.int a,.int b,.int k]
def TinOk (n : Nat) (t : D) : Prop:=∃ a b k : Int,t = tin a b k ∧ 0 ≤ a ∧ 0 ≤ b ∧ b < 2 ^ 62 ∧ 0 ≤ k ∧ k ≤ n
theorem TinOk.mono {n m : Nat} {t : D} (T : TinOk n t) (h : n ≤ m) : TinOk m t:=by
  obtain ⟨a,b,k,e,ha,hb,hb2,hk,hkn⟩:=T
  exact ⟨a,b,k,e,ha,hb,hb2,hk,by omega⟩
abbrev sts (l : List Str) : List D:=l.map .str
theorem mem_strs {d : D} {l : List Str} (h : d ∈ sts l) : ∃ x,d = .str x ∧ x ∈ l:=by
  obtain ⟨x,h1,h2⟩:=List.mem_map.mp h
  exact ⟨x,h2.symm,h1⟩
def kvD {α : Type} (g : α → D) (y : List (Str × α)) : List (D × D):=y.map fun p=>(.str p.1,g p.2)
@[simp] theorem nkv_kv {α : Type} (g : α → D) (y : List (Str × α)) : nkv (kvD g y) = false:=by cases y <;> rfl
theorem itR_pl {kvs : List (D × D)} (n : nkv kvs = false) : itR (.dict kvs) = .ok (kvs.map (·.1)):=by
  unfold itR items
  dsimp only
  rw [n]
  rfl
@[simp] theorem itR_d {α : Type} (g : α → D) (y : List (Str × α)) : itR (.dict (kvD g y)) = .ok ((kvD g y).map (·.1)):=itR_pl (nkv_kv g y)
@[simp] theorem itemsR_d {α : Type} (g : α → D) (y : List (Str × α)) : itemsR (.dict (kvD g y)) = .ok ((kvD g y).map fun p=>.tuple [p.1,p.2]):=by
  unfold itemsR
  dsimp only
  rw [nkv_kv]
  rfl
@[simp] theorem valuesR_d {α : Type} (g : α → D) (y : List (Str × α)) : valuesR (.dict (kvD g y)) = .ok ((kvD g y).map (·.2)):=by
  unfold valuesR
  dsimp only
  rw [nkv_kv]
  rfl
theorem keyIn_kv {α : Type} (g : α → D) (y : List (Str × α)) (a : Str) : keyIn (kvD g y) (.str a) = some (.inr a):=by
  unfold keyIn
  rw [nkv_kv]
  rfl
section
variable {α : Type} {g : α → D}
def lk (y : List (Str × α)) (a : Str) : Option α:=(y.find? fun p=>p.1 == a).map (·.2)
theorem getK_kv {a : Str} : ∀ y : List (Str × α),getK (kvD g y) (.str a) = (lk y a).map g
  | []=>rfl
  | (b,x) :: y=>by
    show (if (b == a) = true then some (g x) else getK (kvD g y) (.str a)) = _
    unfold lk
    rw [List.find?_cons,getK_kv y]
    cases h : (b == a)
    · rfl
    · rfl
@[simp] theorem o2_ixkv {y : List (Str × α)} {a : Str} : o2 ixD (.dict (kvD g y)) (.str a) = (match lk y a with | some v=>.ok (g v) | none=>.bad):=by
  have e : ixD (.dict (kvD g y)) (.str a) = sOf (getK (kvD g y) (.str a)):=by
    show (match keyIn (kvD g y) (.str a) with | some _=>sOf (getK (kvD g y) (.str a)) | none=>none) = _
    rw [keyIn_kv]
  unfold o2
  rw [e,getK_kv]
  cases lk y a <;> rfl
theorem inB_kv {y : List (Str × α)} {a : Str} : inB (.str a) (.dict (kvD g y)) = some (lk y a).isSome:=by
  have e : inK (.str a) (.dict (kvD g y)) = some (getK (kvD g y) (.str a)).isSome:=by
    show (match keyIn (kvD g y) (.str a) with | some _=>some (getK (kvD g y) (.str a)).isSome | none=>none) = _
    rw [keyIn_kv]
  show (match inK (.str a) (.dict (kvD g y)) with | some b=>some b | none=>inS (.str a) (.dict (kvD g y))) = _
  rw [e,getK_kv,Option.isSome_map]
@[simp] theorem o2_inkv {y : List (Str × α)} {a : Str} : o2 inD (.str a) (.dict (kvD g y)) = .ok (.bool (lk y a).isSome):=by
  refine o2_some (v:=.s (.bool (lk y a).isSome)) ?_
  unfold inD; rw [inB_kv]; rfl
@[simp] theorem o2_ninkv {y : List (Str × α)} {a : Str} : o2 notInD (.str a) (.dict (kvD g y)) = .ok (.bool (!(lk y a).isSome)):=by
  refine o2_some (v:=.s (.bool (!(lk y a).isSome))) ?_
  unfold notInD; rw [inB_kv]; rfl
@[simp] theorem kv_keys (y : List (Str × α)) : (kvD g y).map (·.1) = sts (y.map (·.1)):=by
  unfold kvD sts
  rw [List.map_map,List.map_map]
  rfl
@[simp] theorem kv_items (y : List (Str × α)) : ((kvD g y).map fun p=>PyData.tuple [p.1,p.2]) = y.map fun p=>.tuple [.str p.1,g p.2]:=by
  unfold kvD
  rw [List.map_map]
  rfl
end
theorem in_sts {x : Str} {l : List Str} : inSeq (.str x) (sts l) = decide (x ∈ l):=by
  unfold inSeq
  rw [List.any_map]
  apply Bool.eq_iff_iff.mpr
  rw [List.any_eq_true,decide_eq_true_iff]
  constructor
  · rintro ⟨y,hy,e⟩
    have e : PyData.eqv (.str y) (.str x) = true:=e
    rw [eqv_str] at e
    exact eq_of_beq e ▸ hy
  · intro h
    exact ⟨x,h,by show PyData.eqv (.str x) (.str x) = true; rw [eqv_str]; exact beq_self_eq_true x⟩
theorem inB_sts {l : List Str} {a : Str} (c : D) (hc : c = .tuple (sts l) ∨ c = .list (sts l)) : inB (.str a) c = some (decide (a ∈ l)):=by
  have h : (flatD (.str a) && (sts l).all flatD) = true:=by
    show (true && (sts l).all flatD) = true
    rw [Bool.true_and]
    exact List.all_eq_true.mpr fun d hd=>by obtain ⟨x,rfl,_⟩:=mem_strs hd; rfl
  unfold inB
  have : inF (.str a) c = some (decide (a ∈ l)):=by
    rcases hc with rfl | rfl <;> (show (if (flatD (.str a) && (sts l).all flatD) = true then some (inSeq (.str a) (sts l)) else none) = _; rw [if_pos h,in_sts])
  rw [this]
@[simp] theorem o2_int {l : List Str} {a : Str} : o2 inD (.str a) (.tuple (sts l)) = .ok (.bool (decide (a ∈ l))):=by
  refine o2_some (v:=.s (.bool (decide (a ∈ l)))) ?_
  unfold inD; rw [inB_sts _ (.inl rfl)]; rfl
@[simp] theorem o2_inl {l : List Str} {a : Str} : o2 inD (.str a) (.list (sts l)) = .ok (.bool (decide (a ∈ l))):=by
  refine o2_some (v:=.s (.bool (decide (a ∈ l)))) ?_
  unfold inD; rw [inB_sts _ (.inr rfl)]; rfl
@[simp] theorem o2_nint {l : List Str} {a : Str} : o2 notInD (.str a) (.tuple (sts l)) = .ok (.bool (!decide (a ∈ l))):=by
  refine o2_some (v:=.s (.bool (!decide (a ∈ l)))) ?_
  unfold notInD; rw [inB_sts _ (.inl rfl)]; rfl
@[simp] theorem o2_ninl {l : List Str} {a : Str} : o2 notInD (.str a) (.list (sts l)) = .ok (.bool (!decide (a ∈ l))):=by
  refine o2_some (v:=.s (.bool (!decide (a ∈ l)))) ?_
  unfold notInD; rw [inB_sts _ (.inr rfl)]; rfl
def oD : Option Str → D
  | none=>.none
  | some x=>.str x
@[simp] theorem isNone_oD (o : Option Str) : isNone (oD o) = o.isNone:=by cases o <;> rfl
end DL
end L2
namespace L2
namespace DL
open PySem PySem.Spec PyProof.Rows
def strsD : List D → Option (List Str)
  | []=>some []
  | .str x :: r=>(strsD r).map (x :: ·)
  | _=>none
@[simp] theorem strsD_sts : ∀ xs : List Str,strsD (sts xs) = some xs
  | []=>rfl
  | x :: xs=>by
    show (strsD (sts xs)).map _ = _
    rw [strsD_sts xs]
    rfl
end DL
end L2
namespace L2
namespace DL
open PySem PySem.Spec PyProof.Rows
@[simp] theorem inE_s (x : Str) (c : D) : o2 inE (.str x) c = o2 inD (.str x) c:=id rfl
@[simp] theorem inE_i (x : Int) (c : D) : o2 inE (.int x) c = o2 inD (.int x) c:=id rfl
@[simp] theorem inE_t (x : List D) (c : D) : o2 inE (.tuple x) c = o2 inD (.tuple x) c:=id rfl
@[simp] theorem inE_l (x : D) (c : List D) : o2 inE x (.list c) = o2 inD x (.list c):=by cases x <;> rfl
@[simp] theorem inE_u (x : D) (c : List D) : o2 inE x (.tuple c) = o2 inD x (.tuple c):=by cases x <;> rfl
@[simp] theorem inE_n {α : Type} (g : α → D) (y : List (Str × α)) : o2 inE .none (.dict (kvD g y)) = .ok (.bool false):=by
  refine o2_some (v:=.s (.bool false)) ?_
  show (if nkv (kvD g y) = true then none else some _) = _
  rw [nkv_kv]
  rfl
@[simp] theorem notInE_s (x : Str) (c : D) : o2 notInE (.str x) c = o2 notInD (.str x) c:=id rfl
@[simp] theorem notInE_i (x : Int) (c : D) : o2 notInE (.int x) c = o2 notInD (.int x) c:=id rfl
@[simp] theorem notInE_t (x : List D) (c : D) : o2 notInE (.tuple x) c = o2 notInD (.tuple x) c:=id rfl
@[simp] theorem notInE_l (x : D) (c : List D) : o2 notInE x (.list c) = o2 notInD x (.list c):=by cases x <;> rfl
@[simp] theorem notInE_u (x : D) (c : List D) : o2 notInE x (.tuple c) = o2 notInD x (.tuple c):=by cases x <;> rfl
@[simp] theorem notInE_n {α : Type} (g : α → D) (y : List (Str × α)) : o2 notInE .none (.dict (kvD g y)) = .ok (.bool true):=by
  refine o2_some (v:=.s (.bool true)) ?_
  show (if nkv (kvD g y) = true then none else some _) = _
  rw [nkv_kv]
  rfl
end DL
end L2
namespace L2
namespace DL
open PySem PySem.Spec PyProof.Rows
mutual
def tupT : D → D
  | .list xs=>.tuple (tupTs xs)
  | .tuple xs=>.tuple (tupTs xs)
  | d=>d
def tupTs : List D → List D
  | []=>[]
  | x :: xs=>tupT x :: tupTs xs
end
mutual
def lisT : D → D
  | .list xs=>.list (lisTs xs)
  | .tuple xs=>.list (lisTs xs)
  | d=>d
def lisTs : List D → List D
  | []=>[]
  | x :: xs=>lisT x :: lisTs xs
end
mutual
def dep : D → Nat
  | .list xs=>deps xs + 1
  | .tuple xs=>deps xs + 1
  | _=>0
def deps : List D → Nat
  | []=>0
  | x :: xs=>max (dep x) (deps xs)
end
mutual
def nodict : D → Bool
  | .list xs=>nodicts xs
  | .tuple xs=>nodicts xs
  | .dict _=>false
  | _=>true
def nodicts : List D → Bool
  | []=>true
  | x :: xs=>nodict x && nodicts xs
end
theorem tupTs_map : ∀ xs : List D,tupTs xs = xs.map tupT
  | []=>by simp [tupTs]
  | x :: xs=>by simp [tupTs,tupTs_map xs]
theorem lisTs_map : ∀ xs : List D,lisTs xs = xs.map lisT
  | []=>by simp [lisTs]
  | x :: xs=>by simp [lisTs,lisTs_map xs]
theorem nodicts_all : ∀ {xs : List D},nodicts xs = true ↔ ∀ x ∈ xs,nodict x = true
  | []=>by simp [nodicts]
  | y :: ys=>by simp [nodicts,nodicts_all (xs:=ys)]
@[simp] theorem dep_s (x : Str) : dep (.str x) = 0:=by simp [dep]
@[simp] theorem dep_n : dep .none = 0:=by simp [dep]
@[simp] theorem dep_b (b : Bool) : dep (.bool b) = 0:=by simp [dep]
@[simp] theorem dep_i (i : Int) : dep (.int i) = 0:=by simp [dep]
@[simp] theorem dep_o (o : Option Str) : dep (oD o) = 0:=by cases o <;> simp [oD]
@[simp] theorem tupT_s (x : Str) : tupT (.str x) = .str x:=by simp [tupT]
@[simp] theorem tupT_n : tupT .none = .none:=by simp [tupT]
@[simp] theorem tupT_i (i : Int) : tupT (.int i) = .int i:=by simp [tupT]
@[simp] theorem tupT_b (i : Bool) : tupT (.bool i) = .bool i:=by simp [tupT]
@[simp] theorem tupT_o (o : Option Str) : tupT (oD o) = oD o:=by cases o <;> simp [oD]
@[simp] theorem tupT_t (xs : List D) : tupT (.tuple xs) = .tuple (xs.map tupT):=by simp [tupT,tupTs_map]
@[simp] theorem tupT_l (xs : List D) : tupT (.list xs) = .tuple (xs.map tupT):=by simp [tupT,tupTs_map]
@[simp] theorem lisT_s (x : Str) : lisT (.str x) = .str x:=by simp [lisT]
@[simp] theorem lisT_n : lisT .none = .none:=by simp [lisT]
@[simp] theorem lisT_i (i : Int) : lisT (.int i) = .int i:=by simp [lisT]
@[simp] theorem lisT_b (i : Bool) : lisT (.bool i) = .bool i:=by simp [lisT]
@[simp] theorem lisT_o (o : Option Str) : lisT (oD o) = oD o:=by cases o <;> simp [oD]
@[simp] theorem lisT_t (xs : List D) : lisT (.tuple xs) = .list (xs.map lisT):=by simp [lisT,lisTs_map]
@[simp] theorem lisT_l (xs : List D) : lisT (.list xs) = .list (xs.map lisT):=by simp [lisT,lisTs_map]
@[simp] theorem nodict_s (x : Str) : nodict (.str x) = true:=by simp [nodict]
@[simp] theorem nodict_n : nodict .none = true:=by simp [nodict]
@[simp] theorem nodict_i (i : Int) : nodict (.int i) = true:=by simp [nodict]
@[simp] theorem nodict_b (i : Bool) : nodict (.bool i) = true:=by simp [nodict]
@[simp] theorem nodict_o (o : Option Str) : nodict (oD o) = true:=by cases o <;> simp [oD]
@[simp] theorem nodict_t (xs : List D) : nodict (.tuple xs) = true ↔ ∀ x ∈ xs,nodict x = true:=by simp [nodict,nodicts_all]
@[simp] theorem nodict_l (xs : List D) : nodict (.list xs) = true ↔ ∀ x ∈ xs,nodict x = true:=by simp [nodict,nodicts_all]
@[simp] theorem isa_lt (xs : List D) : isa .list (.tuple xs) = false:=id rfl
@[simp] theorem isa_ll (xs : List D) : isa .list (.list xs) = true:=id rfl
@[simp] theorem isa_tt (xs : List D) : isa .tuple (.tuple xs) = true:=id rfl
@[simp] theorem isa_tl (xs : List D) : isa .tuple (.list xs) = false:=id rfl
@[simp] theorem isa_ls (x : Str) : isa .list (.str x) = false:=id rfl
@[simp] theorem isa_ts (x : Str) : isa .tuple (.str x) = false:=id rfl
@[simp] theorem isa_ds (x : Str) : isa .dict (.str x) = false:=id rfl
@[simp] theorem isa_ss (x : Str) : isa .str (.str x) = true:=id rfl
@[simp] theorem isa_bs (x : Str) : isa .bool (.str x) = false:=id rfl
@[simp] theorem isa_is (x : Str) : isa .int (.str x) = false:=id rfl
@[simp] theorem isa_ln : isa .list .none = false:=id rfl
@[simp] theorem isa_tn : isa .tuple .none = false:=id rfl
@[simp] theorem isa_dn : isa .dict .none = false:=id rfl
@[simp] theorem isa_sn : isa .str .none = false:=id rfl
@[simp] theorem isa_bn : isa .bool .none = false:=id rfl
@[simp] theorem isa_in : isa .int .none = false:=id rfl
@[simp] theorem isa_lb (b : Bool) : isa .list (.bool b) = false:=id rfl
@[simp] theorem isa_tb (b : Bool) : isa .tuple (.bool b) = false:=id rfl
@[simp] theorem isa_db (b : Bool) : isa .dict (.bool b) = false:=id rfl
@[simp] theorem isa_sb (b : Bool) : isa .str (.bool b) = false:=id rfl
@[simp] theorem isa_bb (b : Bool) : isa .bool (.bool b) = true:=id rfl
@[simp] theorem isa_ib (b : Bool) : isa .int (.bool b) = true:=id rfl
@[simp] theorem isa_li (b : Int) : isa .list (.int b) = false:=id rfl
@[simp] theorem isa_ti (b : Int) : isa .tuple (.int b) = false:=id rfl
@[simp] theorem isa_di (b : Int) : isa .dict (.int b) = false:=id rfl
@[simp] theorem isa_si (b : Int) : isa .str (.int b) = false:=id rfl
@[simp] theorem isa_bi (b : Int) : isa .bool (.int b) = false:=id rfl
@[simp] theorem isa_ii (b : Int) : isa .int (.int b) = true:=id rfl
@[simp] theorem isa_st (xs : List D) : isa .str (.tuple xs) = false:=id rfl
@[simp] theorem isa_sl (xs : List D) : isa .str (.list xs) = false:=id rfl
@[simp] theorem isa_it (xs : List D) : isa .int (.tuple xs) = false:=id rfl
@[simp] theorem isa_il (xs : List D) : isa .int (.list xs) = false:=id rfl
@[simp] theorem isa_bt (xs : List D) : isa .bool (.tuple xs) = false:=id rfl
@[simp] theorem isa_bl (xs : List D) : isa .bool (.list xs) = false:=id rfl
@[simp] theorem isa_dt (xs : List D) : isa .dict (.tuple xs) = false:=id rfl
@[simp] theorem isa_dl (xs : List D) : isa .dict (.list xs) = false:=id rfl
@[simp] theorem isa_ld (xs : List (D × D)) : isa .list (.dict xs) = false:=id rfl
@[simp] theorem isa_td (xs : List (D × D)) : isa .tuple (.dict xs) = false:=id rfl
@[simp] theorem isa_dd (xs : List (D × D)) : isa .dict (.dict xs) = true:=id rfl
@[simp] theorem isa_sd (xs : List (D × D)) : isa .str (.dict xs) = false:=id rfl
@[simp] theorem isa_id (xs : List (D × D)) : isa .int (.dict xs) = false:=id rfl
@[simp] theorem isa_bd (xs : List (D × D)) : isa .bool (.dict xs) = false:=id rfl
def Sh (n : Nat) (d : D) : Prop:=PyData.canLay0 d = true ∧ PyData.depth d ≤ n
theorem Sh.shaped {n : Nat} {d : D} (h : Sh n d) (hn : n ≤ 64) : SeqAt.shaped d = true:=by
  unfold SeqAt.shaped
  rw [h.1,decide_eq_true (Nat.le_trans h.2 hn)]
  rfl
theorem Sh.mono {n m : Nat} {d : D} (h : Sh n d) (hn : n ≤ m) : Sh m d:=⟨h.1,Nat.le_trans h.2 hn⟩
@[simp] theorem dcR_map {α γ : Type} (f : α → R (Option (D × D))) (g : γ → α) (l : List γ) (acc : List (D × D)) : dcR f acc (l.map g) = dcR (fun x=>f (g x)) acc l:=by
  induction l generalizing acc with
  | nil=>rfl
  | cons x l ih =>
    rw [List.map_cons,dcR,dcR]
    congr 1
    funext o
    cases o with
    | none=>exact ih acc
    | some kv =>
      dsimp only
      cases isKey kv.1 with
      | none=>rfl
      | some _=>exact ih _
end DL
end L2
namespace L2
namespace DL
open PySem PySem.Spec PyProof.Rows
@[simp] theorem o2_isB (b c : Bool) : o2 isBD (.bool b) (.bool c) = .ok (.bool (b == c)):=id rfl
@[simp] theorem o2_notB (b c : Bool) : o2 notBD (.bool b) (.bool c) = .ok (.bool (!(b == c))):=id rfl
end DL
end L2
namespace L2
namespace DL
open PySem PySem.Spec PyProof.Rows
def veL : List Value:=[.type "ValueError",.type "Exception",.type "BaseException",.type "object"]
def leL : List Value:=[.type "LookupError",.type "Exception",.type "BaseException",.type "object"]
def bnm : Bool → String
  | true=>"ValueError"
  | false=>"LookupError"
def bnew : Bool → String
  | true=>"ValueError.__new__"
  | false=>"LookupError.__new__"
def bini : Bool → String
  | true=>"ValueError.__init__"
  | false=>"LookupError.__init__"
def bmr : Bool → List Value
  | true=>veL
  | false=>leL
def fIn (K : PySem.W.Frag) (n : Str) : Addr:=match PySem.W.findIn K (.ref (kga K n)) "__init__" with
  | some (some (.ref a))=>a
  | _=>0
inductive Fx where
  | glo (n : Str)
  | cls (n : Str) (b : Bool) (fld : Str)
  | ini (n : Str) (file : Str)
  | cl0 (n : Str) (b : Bool)
  | exm (a c : Str) (b : Bool)
  | xf (n fld : Str)
  | xk (n : Str)
  | kit (n : Str) (t : String) (b : Bool)
  | kir (n t : Str) (b : Bool)
def Fx.ok (K : PySem.W.Frag) : Fx → Bool
  | .glo n=>decide (PySem.W.nsIn K mainGlobals n = some (some (.ref (kga K n))))
  | .cls n b fld=>PySem.W.excInitIn K (kga K n) (bmr b) (bnew b) && (PySem.W.excOver K (kga K n) (bmr b) && (decide (PySem.W.findIn K (.ref (kga K n)) "__setattr__" = some (some (.builtin "object.__setattr__"))) && (decide (PySem.W.takerIn K (kga K n) fld = some none) &&
    (PySem.W.hasDictIn K (kga K n) && (decide (PySem.W.subIn K (.ref (kga K n)) (.type "BaseException") = some true) && (decide (PySem.W.typeIn K (.ref (kga K n)) = some (.type "type")) && (PySem.W.keepIn K (.ref (kga K n)) && (decide (PySem.W.subIn K (.ref (kga K n)) (.type (bnm b)) = some true) &&
    (decide (PySem.W.nsIn K cStatics "thirdparty.any" = some none) && (decide (PySem.W.ks_superIn K (kga K n) (kga K n) "__init__" = some (some (.builtin (bini b)))) && decide (PySem.W.mroIn K (kga K n) (.ref (kga K n)) = some true)))))))))))
  | .ini n file=>decide (PySem.W.findIn K (.ref (kga K n)) "__init__" = some (some (.ref (fIn K n)))) && (match K.lookup (fIn K n) with
    | some ⟨_,_,.func fd,_⟩=>(match fd.closure,fd.code with
      | [(_,cc)],.ref cda=>PySem.W.codeIn K (.ref cda) fd.qualname && ((match K.lookup cda with
        | some ⟨_,_,.fields vs,_⟩=>(match (vs[2]? : Option Value) with
          | some (Value.str f _)=>file == f
          | _=>false)
        | _=>false) && (match K.lookup cc with
        | some ⟨_,_,.cell (some (.ref c)),_⟩=>decide (c = kga K n)
        | _=>false))
      | _,_=>false)
    | _=>false)
  | .cl0 n b=>PySem.W.excIn K (kga K n) (bmr b) (bnew b) && (PySem.W.keepIn K (.ref (kga K n)) && (decide (PySem.W.subIn K (.ref (kga K n)) (.type "BaseException") = some true) && decide (PySem.W.typeIn K (.ref (kga K n)) = some (.type "type"))))
  | .exm a c b=>decide (PySem.W.exmOne K (.ref (kga K a)) (.ref (kga K c)) = some b)
  | .xf n fld=>xfB K (kga K n) && decide (PySem.W.findIn K (.ref (kga K n)) fld = some none)
  | .xk n=>(PySem.W.clsIn K (kga K n)).isSome && (decide (PySem.W.findIn K (.ref (kga K n)) "__getattribute__" = some (some (.builtin "BaseException.__getattribute__"))) && (decide (PySem.W.findIn K (.ref (kga K n)) "__getattr__" = some none) && (decide (PySem.W.subIn K (.ref (kga K n)) (.type "BaseException") = some true) &&
    (decide (PySem.W.findIn K (.ref (kga K n)) "__class__" = some (some (.builtin "object.__class__"))) && (decide (PySem.W.specialIn K (.builtin "object.__class__") "__get__" = some (some (.builtin "getset_descriptor.__get__"))) && (decide (PySem.W.takesIn K (.builtin "object.__class__") = some true) && decide (PySem.W.mroIn K (kga K n) (.type "object") = some true)))))))
  | .kit n t b=>decide (PySem.W.kitOne K (.ref (kga K n)) (.type t) = some b)
  | .kir n t b=>decide (PySem.W.kitOne K (.ref (kga K n)) (.ref (kga K t)) = some b)
abbrev FnY : Type:=Option (Str × Str × Arguments × FuncBody × Scope × Addr × List Str × Value × Addr × Value)
structure InD where
  cls : Str
  qual : Str
  params : Arguments
  body : List Stmt
  scope : Scope
def InD.val (d : InD) : FnY:=some ("__init__",d.qual,d.params,.stmts d.body,d.scope,mainGlobals,["__class__"],.none,builtinsNs,.type "function")
end DL
end L2
namespace L2
namespace DL
namespace G
open PySem PySem.Spec PyProof.Rows
def top (i : Nat) : Stmt:=PySem.Challenge.pw_namesalone_k75_the_place_that_is_needed.main.body.getD i (.Pass ⟨0,0,0,0⟩)
namespace H1
def dd__law_box : He.DefD:=⟨("_law_box",none),"_law_box","_law_box",defArgs (top 19),defBody (top 19),defScope (top 19),[],[]⟩
def dd__law_lists : He.DefD:=⟨("_law_lists",none),"_law_lists","_law_lists",defArgs (top 24),defBody (top 24),defScope (top 24),[],[]⟩
def dd__law_with : He.DefD:=⟨("_law_with",none),"_law_with","_law_with",defArgs (top 28),defBody (top 28),defScope (top 28),[],[]⟩
def dd_tupled : He.DefD:=⟨("tupled",none),"tupled","tupled",defArgs (top 1),defBody (top 1),defScope (top 1),[],[]⟩
def dd_goal_of : He.DefD:=⟨("goal_of",none),"goal_of","goal_of",defArgs (top 4),defBody (top 4),defScope (top 4),[],[]⟩
def dd_row_from : He.DefD:=⟨("row_from",none),"row_from","row_from",defArgs (top 7),defBody (top 7),defScope (top 7),[],[]⟩
def dd_set_of : He.DefD:=⟨("set_of",none),"set_of","set_of",defArgs (top 2),defBody (top 2),defScope (top 2),[],[]⟩
def dd_chains : He.DefD:=⟨("chains",none),"chains","chains",defArgs (top 10),defBody (top 10),defScope (top 10),[],[]⟩
def dd_free_places : He.DefD:=⟨("free_places",none),"free_places","free_places",defArgs (top 6),defBody (top 6),defScope (top 6),[],[]⟩
def dd_tables_of : He.DefD:=⟨("tables_of",none),"tables_of","tables_of",defArgs (top 12),defBody (top 12),defScope (top 12),[],[]⟩
def dd_hole_of : He.DefD:=⟨("hole_of",none),"hole_of","hole_of",defArgs (top 13),defBody (top 13),defScope (top 13),[],[]⟩
def dd_row_from_safe : He.DefD:=⟨("row_from_safe",none),"row_from_safe","row_from_safe",defArgs (top 9),defBody (top 9),defScope (top 9),[],[]⟩
def dd_rings : He.DefD:=⟨("rings",none),"rings","rings",defArgs (top 8),defBody (top 8),defScope (top 8),[],[]⟩
def dd_opened_by : He.DefD:=⟨("opened_by",none),"opened_by","opened_by",defArgs (top 14),defBody (top 14),defScope (top 14),[],[]⟩
def dd_shut_rings : He.DefD:=⟨("shut_rings",none),"shut_rings","shut_rings",defArgs (top 15),defBody (top 15),defScope (top 15),[],[]⟩
def dd_can_be_done_by : He.DefD:=⟨("can_be_done_by",none),"can_be_done_by","can_be_done_by",defArgs (top 16),defBody (top 16),defScope (top 16),[],[]⟩
def dd_boxes : He.DefD:=⟨("boxes",none),"boxes","boxes",defArgs (top 5),defBody (top 5),defScope (top 5),[],[]⟩
def dd_place_needed : He.DefD:=⟨("place_needed",none),"place_needed","place_needed",defArgs (top 17),defBody (top 17),defScope (top 17),[],[]⟩
def dd__law_least_right : He.DefD:=⟨("_law_least_right",none),"_law_least_right","_law_least_right",defArgs (top 29),defBody (top 29),defScope (top 29),[],[]⟩
def dd__law_same : He.DefD:=⟨("_law_same",none),"_law_same","_law_same",defArgs (top 25),defBody (top 25),defScope (top 25),[],[]⟩
def dd__law_by_hand_right : He.DefD:=⟨("_law_by_hand_right",none),"_law_by_hand_right","_law_by_hand_right",defArgs (top 30),defBody (top 30),defScope (top 30),[],[]⟩
def dd__law_cells : He.DefD:=⟨("_law_cells",none),"_law_cells","_law_cells",defArgs (top 21),defBody (top 21),defScope (top 21),[],[]⟩
def dd__law_take : He.DefD:=⟨("_law_take",none),"_law_take","_law_take",defArgs (top 20),defBody (top 20),defScope (top 20),[],[]⟩
def dd__law_of : He.DefD:=⟨("_law_of",none),"_law_of","_law_of",defArgs (top 22),defBody (top 22),defScope (top 22),[],[]⟩
def dd__law_sorts : He.DefD:=⟨("_law_sorts",none),"_law_sorts","_law_sorts",defArgs (top 27),defBody (top 27),defScope (top 27),[],[]⟩
def dd__law_pick : He.DefD:=⟨("_law_pick",none),"_law_pick","_law_pick",defArgs (top 23),defBody (top 23),defScope (top 23),[],[]⟩
def dd__law_task : He.DefD:=⟨("_law_task",none),"_law_task","_law_task",defArgs (top 26),defBody (top 26),defScope (top 26),[],[]⟩
def dd__law_case_right : He.DefD:=⟨("_law_case_right",none),"_law_case_right","_law_case_right",defArgs (top 31),defBody (top 31),defScope (top 31),[],[]⟩
def dd__law_right : He.DefD:=⟨("_law_right",none),"_law_right","_law_right",defArgs (top 32),defBody (top 32),defScope (top 32),[],[]⟩
def dd_law : He.DefD:=⟨("law",none),"law","law",defArgs (top 33),defBody (top 33),defScope (top 33),[],[]⟩
def fn : List He.DefD:=[dd__law_box,dd__law_lists,dd__law_with,dd_tupled,dd_goal_of,dd_row_from,dd_set_of,dd_chains,dd_free_places,dd_tables_of,dd_hole_of,dd_row_from_safe,dd_rings,dd_opened_by,dd_shut_rings,dd_can_be_done_by,dd_boxes,dd_place_needed,dd__law_least_right,dd__law_same,dd__law_by_hand_right,dd__law_cells,dd__law_take,dd__law_of,dd__law_sorts,dd__law_pick,dd__law_task,dd__law_case_right,dd__law_right,dd_law]
def fa : List He.Fa:=[.glo "_law_box",.glo "_law_lists",.glo "_law_with",.glo "tupled",.glo "goal_of",.glo "row_from",.glo "set_of",.glo "chains",.glo "free_places",.glo "tables_of",.glo "hole_of",.glo "row_from_safe",.glo "rings",.glo "opened_by",.glo "shut_rings",.glo "can_be_done_by",.glo "boxes",.glo "place_needed",.glo "_law_least_right",.glo "_law_same",.glo "_law_by_hand_right",.glo "_law_cells",.glo "_law_take",.glo "_law_of",.glo "_law_sorts",.glo "_law_pick",.glo "_law_task",.glo "_law_case_right",.glo "_law_right",.glo "law",.free "abs",.free "all",.free "bool",.free "dict",.free "enumerate",.free "int",.free "isinstance",.free "len",.free "list",.free "max",.free "min",.free "range",.free "set",.free "sorted",.free "str",.free "tuple",.free "zip"]
abbrev R : PySem.W.OpenRow:=PySem.W.OpenLaw.row PySem.Challenge.rw_namesalone_k75_the_place_that_is_needed
abbrev hk : PySem.W.Hook:=He.hookD 4 fa fn
def ob (s : PySem.W.SharedT) : He.AlD:=He.obsDG 4 fa fn (HandSHeadRun.getT s)
theorem ob_eq (s : PySem.W.SharedT) : ob s = hk.obs s.abs:=He.obsDG_eq (HandSHeadRun.getT_eq s)
theorem run (w : World) : HandSHeadRun.RunEq R (PySem.W.view R.prog [33]) hk ob 3400 ("tupled" :: "set_of" :: "goal_of" :: "boxes" :: "free_places" :: "row_from" :: "rings" :: "row_from_safe" :: "chains" :: "tables_of" :: "hole_of" :: "opened_by" :: "shut_rings" :: "can_be_done_by" :: "place_needed" :: "_law_box" :: "_law_take" :: "_law_cells" :: "_law_of" :: "_law_pick" :: "_law_lists" :: "_law_same" :: "_law_task" :: "_law_sorts" :: "_law_with" :: "_law_least_right" :: "_law_by_hand_right" :: "_law_case_right" :: "_law_right" :: [] : List PySem.Str) w:=by
  intro os
  kernel_rfl
end H1
end G
end DL
end L2
set_option Elab.async false
set_option linter.all false
set_option maxRecDepth 100000
set_option maxHeartbeats 0
set_option autoImplicit false
namespace L2
namespace DL
open PySem PySem.Spec PyProof.Rows
def Xv.pv : Xv → Pv
  | .s d=>.d d
  | .o d=>.o d
def Pv.get (p : Pv) (e : Ev) : Option D:=match p with
  | .d x=>some x
  | .r i=>(match e[i]? with
    | some (.s x)=>some x
    | some (.o _ x)=>some x
    | _=>none)
  | .o _=>none
def pk (f : M Pv) : M Pv:=fun e=>match f e with
  | .ok (.o d) e'=>.ok (.d d) e'
  | r=>r
def pvd (f : M D) : M Pv:=fun e=>match f e with
  | .ok d e'=>.ok (.d d) e'
  | .exc x e'=>.exc x e'
  | .bad=>.bad
instance : Coe KW PySem.W.Frag:=⟨KW.fr⟩
abbrev _root_.L2.Cx.kw (X : Cx) : KW:=⟨X.K,X.prog,X.w⟩
def nhoX (P : Program) (w : World) (a : Addr) (xs : List (NestedKey × Addr × V)) : MxO:=⟨nhoF P w a xs,fun _ ⟨_,_,_,o,es,ep,_,h1,_,h2,_⟩=>⟨a,o,es,ep,h1,h2⟩⟩
theorem nbk_lst {vs : List V} : ¬ BK (.lst vs):=fun z=>by rcases z with ⟨_,_,_,z⟩ | ⟨_,_,z⟩ <;> cases z
theorem nbk_dK {ks : List (Key × V)} : ¬ BK (.dK ks):=fun z=>by rcases z with ⟨_,_,_,z⟩ | ⟨_,_,z⟩ <;> cases z
theorem nbk_tup {xs : List V} : ¬ BK (.tup xs):=fun z=>by rcases z with ⟨_,_,_,z⟩ | ⟨_,_,z⟩ <;> cases z
theorem nbk_tbl {ps : Array Value} : ¬ BK (.tbl ps):=fun z=>by rcases z with ⟨_,_,_,z⟩ | ⟨_,_,z⟩ <;> cases z
theorem rep_get {n : Nat} {c : Value} {x : Array Value} {k : Nat} {a : Addr} {o : Obj} (h : ({ objs:=Array.replicate n { cls:=c,data:=.seq x k } } : Heap).get? a = some o) : o = { cls:=c,data:=.seq x k }:=by
  unfold Heap.get? at h
  rw [Array.getElem?_replicate] at h
  by_cases z : a < n
  · rw [if_pos z] at h; cases h; rfl
  · rw [if_neg z] at h; cases h
theorem rep_at {n : Nat} {c : Value} {x : Array Value} {k : Nat} : ({ objs:=Array.replicate (n + 1) { cls:=c,data:=.seq x k } } : Heap).get? n = some { cls:=c,data:=.seq x k }:=by
  unfold Heap.get?
  rw [Array.getElem?_replicate,if_pos (Nat.lt_succ_self n)]
theorem repf_get {n : Nat} {c : Value} {x : Array Value} {a : Addr} {o : Obj} (h : ({ objs:=Array.replicate n { cls:=c,data:=.fields x } } : Heap).get? a = some o) : o = { cls:=c,data:=.fields x }:=by
  unfold Heap.get? at h
  rw [Array.getElem?_replicate] at h
  by_cases z : a < n
  · rw [if_pos z] at h; cases h; rfl
  · rw [if_neg z] at h; cases h
theorem repf_at {n : Nat} {c : Value} {x : Array Value} : ({ objs:=Array.replicate (n + 1) { cls:=c,data:=.fields x } } : Heap).get? n = some { cls:=c,data:=.fields x }:=by
  unfold Heap.get?
  rw [Array.getElem?_replicate,if_pos (Nat.lt_succ_self n)]
theorem nbk_mx {φ : MxO} : ¬ BK (.ext φ.1):=fun z=>by
  rcases z with ⟨_,_,_,z⟩ | ⟨l,its,z⟩
  · cases z
  · injection z with z
    obtain ⟨a,o,es,n,z1,z2⟩:=φ.2 { objs:=Array.replicate (l + 1) { cls:=.type "list",data:=.seq its.toArray 0 } } (by
      rw [z]
      exact ⟨0,rep_at⟩)
    rw [rep_get z1] at z2
    cases z2
theorem code_nmx {c : Addr} {q : Str} {φ : MxO} (e : LamX.CodeO c q = .ext φ.1) : False:=by
  have e1 : φ.1 = fun h : Heap=>∃ (oc : Obj) (vs : Array Value) (t : Tok),h.get? c = some oc ∧ oc.data = .fields vs ∧ vs[1]? = some (.str q t):=by
    unfold LamX.CodeO at e
    injection e with e
    exact e.symm
  have hg : ∀ a o,({ objs:=Array.replicate (c + 1) { cls:=.none,data:=.fields #[.none,.str q default] } } : Heap).get? a = some o → o = { cls:=.none,data:=.fields #[.none,.str q default] }:=fun a o h=>by
    unfold Heap.get? at h
    rw [Array.getElem?_replicate] at h
    by_cases z : a < c + 1
    · rw [if_pos z] at h; cases h; rfl
    · rw [if_neg z] at h; cases h
  have h0 : ({ objs:=Array.replicate (c + 1) { cls:=.none,data:=.fields #[.none,.str q default] } } : Heap).get? c = some { cls:=.none,data:=.fields #[.none,.str q default] }:=by
    unfold Heap.get?
    rw [Array.getElem?_replicate,if_pos (Nat.lt_succ_self c)]
  have h1:=φ.2 { objs:=Array.replicate (c + 1) { cls:=.none,data:=.fields #[.none,.str q default] } } (by
    rw [e1]
    exact ⟨_,_,_,h0,rfl,rfl⟩)
  obtain ⟨a,o,es,n,z1,z2⟩:=h1
  rw [hg a o z1] at z2
  cases z2
theorem code_nbk {c : Addr} {q : Str} (h : BK (LamX.CodeO c q)) : False:=by
  rcases h with ⟨_,_,_,h⟩ | ⟨l,its,h⟩
  · unfold LamX.CodeO at h; cases h
  · have e1 : plF l its = fun h : Heap=>∃ (oc : Obj) (vs : Array Value) (t : Tok),h.get? c = some oc ∧ oc.data = .fields vs ∧ vs[1]? = some (.str q t):=by
      unfold LamX.CodeO at h
      injection h with h
      exact h.symm
    have h1 : plF l its { objs:=Array.replicate (c + 1) { cls:=.none,data:=.fields #[.none,.str q default] } }:=by
      rw [e1]
      exact ⟨_,_,_,repf_at,rfl,rfl⟩
    obtain ⟨n,z⟩:=h1
    have z:=repf_get z
    cases z
theorem nt_lst {vs : List V} : NT (.lst vs):=⟨fun _ z=>(by cases z),nbk_lst⟩
theorem nt_dK {ks : List (Key × V)} : NT (.dK ks):=⟨fun _ z=>(by cases z),nbk_dK⟩
theorem nt_ext {φ : MxO} : NT (.ext φ.1):=⟨fun _ z=>(by cases z),nbk_mx⟩
theorem Grow.tp {H H' : Hp} (g : Grow H H') (b : Addr) (xs : List V) (h : H b = some (.tup xs)) : H' b = some (.tup xs):=g.st b _ h ⟨fun _ z=>(by cases z),fun _ z=>(by cases z),fun _ z=>(by cases z),fun _ z=>(by cases z),nbk_tup⟩
theorem Grow.of {H H' : Hp} (st : ∀ b u,H b = some u → Stat u → H' b = some u) (_tl : ∀ b ps,H b = some (.tbl ps) → H' b = some (.tbl ps)) : Grow H H':=⟨st⟩
theorem tabs_of {H H' : Hp} {T : List (Addr × Str)} (st : ∀ b u,H b = some u → Stat u → H' b = some u) (tl : ∀ b ps,H b = some (.tbl ps) → H' b = some (.tbl ps)) (h : LamX.Tabs T H) : LamX.Tabs T H':=fun p hp=>by
  obtain ⟨ps,h1,h2,h3⟩:=h p hp
  exact ⟨ps,tl _ _ h1,h2,fun pos cv hc=>let ⟨c,e1,e2⟩:=h3 pos cv hc; ⟨c,e1,st _ _ e2 ⟨fun _ z=>(by cases z),fun _ z=>(by cases z),fun _ z=>(by cases z),fun _ z=>code_nmx z,fun z=>code_nbk z⟩⟩⟩
theorem Grow.refl (H : Hp) : Grow H H:=⟨fun _ _ h _=>h⟩
section
variable {K : KW} {H H' : Hp}
theorem FzL.sq {a : Addr} {xs : List V} (h : FzL K H a xs) : SqL K H a xs:=.inl h.rd
theorem SqT.grow {a : Addr} {xs : List V} (g : Grow H H') (h : SqT K H a xs) : SqT K H' a xs:=by
  rcases h with (h | ⟨o,h⟩) | h
  · exact .inl (.inl (g.tp _ _ h))
  · exact .inl (.inr ⟨o,g.fz _ _ _ h⟩)
  · exact .inr h
theorem FzT.sq {a : Addr} {xs : List V} (h : FzT K H a xs) : SqT K H a xs:=by
  rcases h with ⟨o,h,_⟩ | h
  · exact .inl (.inr ⟨o,h⟩)
  · obtain ⟨o,its,n,h1,h2,_,h3⟩:=h
    exact .inr ⟨o,its,n,h1,h2,h3⟩
theorem OwnAt.rdb {a : Addr} {d : D} (h : OwnAt K H a d) : Rdb K H (.ref a) d:=by
  cases d with
  | list ds=>obtain ⟨vs,h1,h2⟩:=h; exact ⟨a,vs,rfl,.inl h1,h2⟩
  | dict kvs =>
    rcases h with ⟨ks,h1,h2⟩ | ⟨n,xs,h1,h2⟩
    · exact .inl ⟨a,ks,rfl,.inl h1,h2⟩
    · exact .inr ⟨n,a,xs,rfl,.inl h1,h2⟩
  | none=>exact h.elim
  | bool b=>exact h.elim
  | int i=>exact h.elim
  | str x=>exact h.elim
  | tuple xs=>exact h.elim
theorem OwnAt.loose {a : Addr} {d : D} (h : OwnAt K H a d) : Loose H a:=by
  cases d with
  | list ds=>obtain ⟨vs,h1,h2⟩:=h; exact .inl ⟨vs,h1⟩
  | dict kvs =>
    rcases h with ⟨ks,h1,h2⟩ | ⟨n,xs,h1,h2⟩
    · exact .inr (.inl ⟨ks,h1⟩)
    · exact .inr (.inr ⟨nhoX K.prog K.w a xs,h1⟩)
  | none=>exact h.elim
  | bool b=>exact h.elim
  | int i=>exact h.elim
  | str x=>exact h.elim
  | tuple xs=>exact h.elim
theorem Loose.nst {a : Addr} {u : HO} (h : Loose H a) (q : H a = Option.some u) (s : Stat u) : False:=by
  rcases h with ⟨vs,h⟩ | ⟨ks,h⟩ | ⟨φ,h⟩
  · rw [h] at q; cases q; exact s.1 _ rfl
  · rw [h] at q; cases q; exact s.2.1 _ rfl
  · rw [h] at q; cases q; exact s.2.2.2.1 φ rfl
theorem Loose.ntb {a : Addr} {ps : Array Value} (h : Loose H a) (q : H a = Option.some (.tbl ps)) : False:=by
  rcases h with ⟨vs,h⟩ | ⟨ks,h⟩ | ⟨φ,h⟩ <;> (rw [h] at q; cases q)
def DenB (b : Bool) (K : KW) (H : Hp) (v : V) (d : D) : Prop:=Den K H v d ∨ (b = true ∧ ∃ a xs ds,v = .ref a ∧ SqT K H a xs ∧ d = .tuple ds ∧ DenAll K H xs ds)
theorem DenB.den {v : V} {d : D} (h : DenB false K H v d) : Den K H v d:=h.elim id fun z=>by cases z.1
theorem gsame (h : Same H H') : Grow H H':=.of (fun b u q _=>h _ _ q) fun b ps q=>h _ _ q
theorem tsame {T : List (Addr × Str)} (h : Same H H') (t : LamX.Tabs T H) : LamX.Tabs T H':=tabs_of (fun b u q _=>h _ _ q) (fun b ps q=>h _ _ q) t
end
theorem BF.look {K : KW} {H : Hp} {fs : List (Str × V)} {ds : List D} {l : Addr} (h : BF K H fs ds) (q : fs.lookup ("own_past" : Str) = some (V.ref l)) : ∃ its,H l = some (PLO l its):=by
  cases h with
  | f0=>cases q
  | f1 _=>exact absurd q (by simp [List.lookup,show (("own_past" : Str) == "own_job") = false from by decide])
  | f2 _ _=>exact absurd q (by simp [List.lookup,show (("own_past" : Str) == "own_job") = false from by decide,show (("own_past" : Str) == "own_stand") = false from by decide])
  | f3 _ _ _=>exact absurd q (by simp [List.lookup,show (("own_past" : Str) == "own_job") = false from by decide,show (("own_past" : Str) == "own_stand") = false from by decide,show (("own_past" : Str) == "own_moves") = false from by decide])
  | f4 _ _ _ h _ _ _ =>
    have q : some (V.ref _) = some (V.ref l):=q
    cases q
    exact ⟨_,h⟩
theorem BoardAt.lof {K : KW} {H : Hp} {a l : Addr} {d : D} (h : BoardAt K H a d) (q : LOf H a l) : ∃ x,H l = some x ∧ BK x:=by
  obtain ⟨_,_,_,_,h,b⟩:=h
  obtain ⟨_,_,_,z,y⟩:=q
  rw [h] at z
  cases z
  obtain ⟨its,h⟩:=b.look y
  exact ⟨_,h,bk_pl⟩
def TiB (y : Sl) (d : D) : Prop:=y = .o true d ∨ y = .b true d
section
variable {K : KW} {pa : Pa} {σ σ1 σ2 : St} {H H1 H2 : Hp} {e e1 e2 : Ev}
theorem BRel.owb (R : BRel K pa σ H e) {i : Nat} {b : Addr} (h : OwB σ H e i b) : ∃ x,H b = some x ∧ BK x:=by
  obtain ⟨t,d,a,h1,h2,h3⟩:=h
  obtain ⟨a',q1,q2,_⟩:=R.bo i t d h1
  rw [h2] at q1
  cases q1
  rcases h3 with rfl | h3
  · exact q2.bk
  · exact q2.lof h3
theorem BTr.refl : BTr σ H e σ H e:=⟨fun _ _ h _ _=>h,fun i _ h=>.inl ⟨i,h⟩,fun _=>Iff.rfl⟩
theorem BNe.own (n : BNe σ H e σ1 H1 e1) (R : BRel K pa σ H e) {i : Nat} {b : Addr} (h : OwB σ1 H1 e1 i b) : OwB σ H e i b:=bown n.sl n.hk R h
theorem BNe.tr (n : BNe σ H e σ1 H1 e1) (R : BRel K pa σ H e) : BTr σ H e σ1 H1 e1 :=
  ⟨fun b x h k _=>n.hk b x h k,fun i b h=>.inl ⟨i,n.own R h⟩,fun j=>⟨fun ⟨d,h⟩=>⟨d,n.td j d h⟩,fun ⟨d,h⟩=>⟨d,(n.sl j true d h).1⟩⟩⟩
end
theorem hk_same {H H' : Hp} (sm : Same H H') : ∀ b x,H b = some x → BK x → H' b = some x:=fun b x h _=>sm b x h
theorem hk_upd {H : Hp} {a : Addr} {u w : HO} (ha : H a = some u) (hu : (∃ vs,u = .lst vs) ∨ (∃ ks,u = .dK ks) ∨ ∃ φ : MxO,u = .ext φ.1) : ∀ b x,H b = some x → BK x → upd H a w b = some x:=fun b x h k=>by
  rw [upd_ne]
  · exact h
  · rintro rfl
    rw [ha] at h
    cases h
    rcases hu with ⟨_,rfl⟩ | ⟨_,rfl⟩ | ⟨_,rfl⟩
    · exact nbk_lst k
    · exact nbk_dK k
    · exact nbk_mx k
theorem BK.ntb {u : HO} (k : BK u) : ∀ ps,u ≠ .tbl ps:=fun ps z=>by subst z; exact nbk_tbl k
theorem nt_nhX {P : Program} {w : World} {a : Addr} {xs : List (NestedKey × Addr × V)} : NT (NHO P w a xs):=nt_ext (φ:=nhoX P w a xs)
section
variable {K : KW} {pa : Pa} {σ σ1 σ2 : St} {H H1 H2 : Hp} {e e1 e2 : Ev}
theorem Rel.own (R : Rel K pa σ H e) {a : Addr} (h : Own σ e a) : ∃ d,OwnAt K H a d:=by
  obtain ⟨i,t,d,h1,h2⟩:=h
  obtain ⟨b,h3,h4,_⟩:=R.ow i t d h1
  rw [h2] at h3
  cases h3
  exact ⟨d,h4⟩
theorem Rel.loose (R : Rel K pa σ H e) {a : Addr} (h : Own σ e a) : Loose H a:=let ⟨_,q⟩:=R.own h; q.loose
theorem Tr.refl (R : Rel K pa σ H e) : Tr K pa σ H e σ H e:=⟨R,fun _ _ h _ _=>h,fun _ h=>h,fun _ h=>.inl h,.refl H,fun _=>Iff.rfl,rfl,.refl⟩
theorem Rel.same (R : Rel K pa σ H e) (sm : Same H H1) : Rel K pa σ H1 e:=R.keep (gsame sm) (tsame sm R.tb) (fun a h=>by
  rcases R.loose h with ⟨vs,q⟩ | ⟨ks,q⟩ | ⟨φ,q⟩ <;> rw [q,sm _ _ q]) (hk_same sm)
theorem Tr.same (R : Rel K pa σ H e) (sm : Same H H1) : Tr K pa σ H e σ H1 e :=
  ⟨R.same sm,fun b x h _ _=>sm b x h,fun b h=>sm.free h,fun b h=>.inl h,(gsame sm),fun _=>Iff.rfl,rfl,(BNe.hp (hk_same sm)).tr R.bd⟩
theorem Tr.then (a : Tr K pa σ H e σ1 H1 e1) (sm : Same H1 H2) : Tr K pa σ H e σ1 H2 e1:=a.trans (Tr.same a.rel sm)
end
def PvIs (K : KW) (σ : St) (H H' : Hp) (e' : Ev) (v : V) (p : Pv) : Prop:=match p with
  | .d d=>Den K H' v d
  | .r i=>σ[i]? = some (some v)
  | .o d=>∃ a,v = .ref a ∧ H a = none ∧ OwnAt K H' a d ∧ ¬ Own σ e' a
section
variable {K : KW} {pa : Pa} {σ σ1 σ2 : St} {H H1 H2 : Hp} {e e1 e2 : Ev} {v : V} {p : Pv} {d : D}
theorem PvK.rdb (R : Rel K pa σ H e) (h : PvK K σ H v p) (q : p.get e = some d) : Rdb K H v d:=by
  cases p with
  | d d' =>
    cases q
    exact Den.rdb h
  | o d'=>exact h.elim
  | r i =>
    have h : σ[i]? = some (some v):=h
    simp only [Pv.get] at q
    split at q
    · next d' hd =>
      cases q
      obtain ⟨w,h1,h2⟩:=R.sh i _ hd
      rw [h] at h1; cases h1
      exact h2.rdb
    · next t d' hd =>
      cases q
      obtain ⟨w,h1,h2,_⟩:=R.ow i _ _ hd
      rw [h] at h1; cases h1
      exact h2.rdb
    · cases q
end
end DL
end L2
namespace L2
namespace DL
open PySem PySem.Spec PyProof.Rows
theorem freeze {X : Cx} {pins : List (Addr × Obj)} {σ : St} {H : Hp} {s : Shared} {a : Addr} {u : HO} (I : Inv X pins σ H s) (h : H a = some u) (hu : (∃ vs,u = .lst vs) ∨ (∃ ks,u = .dK ks) ∨ ∃ φ : MxO,u = .ext φ.1) :
    ∃ o,Inv X pins σ (upd H a (.frz o u)) s:=by
  obtain ⟨o,ho⟩ : ∃ o,s.heap.get? a = some o:=by
    have q:=I.hok a u h
    rcases hu with ⟨vs,rfl⟩ | ⟨ks,rfl⟩ | ⟨φ,rfl⟩
    · obtain ⟨_,_,_,_,e⟩:=q; exact ⟨_,e⟩
    · obtain ⟨_,_,_,_,o,_,_,e,_⟩:=q; exact ⟨_,e⟩
    · obtain ⟨_,⟨_,e⟩,_⟩:=q; exact ⟨_,e⟩
  have nown : ∀ b y,H b = some (.own y) → b ≠ a:=fun b y q z=>by
    subst z; rw [h] at q; rcases hu with ⟨vs,rfl⟩ | ⟨ks,rfl⟩ | ⟨φ,rfl⟩ <;> cases q
  have ntup : ∀ b xs,H b = some (.tup xs) → b ≠ a:=fun b y q z=>by
    subst z; rw [h] at q; rcases hu with ⟨vs,rfl⟩ | ⟨ks,rfl⟩ | ⟨φ,rfl⟩ <;> cases q
  have nfrz : ∀ b o' u',H b = some (.frz o' u') → b ≠ a:=fun b o' u' q z=>by
    subst z; rw [h] at q; rcases hu with ⟨vs,rfl⟩ | ⟨ks,rfl⟩ | ⟨φ,rfl⟩ <;> cases q
  have ntbl : ∀ b ps,H b = some (.tbl ps) → b ≠ a:=fun b ps q z=>by
    subst z; rw [h] at q; rcases hu with ⟨vs,rfl⟩ | ⟨ks,rfl⟩ | ⟨φ,rfl⟩ <;> cases q
  have nnon : ∀ b,H b = none → b ≠ a:=fun b q z=>by subst z; rw [h] at q; cases q
  refine ⟨o,⟨I.ok,I.os,I.bare,⟨I.base.keep,I.base.slot,fun b ob q n hx=>?_,I.base.there,fun b xs q=>?_,fun b ob w q=>?_,fun b ps q=>?_⟩,I.loc,I.cell,?_,fun x c q=>?_,fun p hp=>?_,fun b w q=>?_,I.len⟩⟩
  · rw [upd_ne (nnon b (I.base.free b ob q n hx))]; exact I.base.free b ob q n hx
  · rw [upd_ne (ntup b xs (I.base.tups b xs q))]; exact I.base.tups b xs q
  · rw [upd_ne (nfrz b ob w (I.base.frzs b ob w q))]; exact I.base.frzs b ob w q
  · obtain ⟨more,e⟩:=I.base.tbls b ps q
    exact ⟨more,by rw [upd_ne (ntbl b _ e)]; exact e⟩
  · rw [upd_ne (nnon _ I.free)]; exact I.free
  · rw [upd_ne (nnon _ (I.freeC x c q))]; exact I.freeC x c q
  · obtain ⟨e,n,r⟩:=I.pin p hp
    exact ⟨e,by rw [upd_ne (nnon _ n)]; exact n,r⟩
  · have st : ∀ c w',H c = some w' → ObjOk X.prog X.w (upd H a (.frz o u)) s.heap c w':=fun c w' q' =>
      (I.hok c w' q').stay (fun _ _ _ z=>z) (fun d z=>by rw [upd_ne (nown d c z)]; exact z) fun d xs z=>by rw [upd_ne (ntup d xs z)]; exact z
    by_cases hb : b = a
    · subst hb
      rw [upd_same] at q
      cases q
      exact ⟨ho,st b u h⟩
    · rw [upd_ne hb] at q
      exact st b w q
theorem frz_st {H : Hp} {a : Addr} {u w : HO} (h : H a = some u) (hu : (∃ vs,u = .lst vs) ∨ (∃ ks,u = .dK ks) ∨ ∃ φ : MxO,u = .ext φ.1) : (∀ b v,H b = some v → Stat v → upd H a w b = some v) ∧ ∀ b ps,H b = some (.tbl ps) → upd H a w b = some (.tbl ps):=by
  refine ⟨fun b v q st=>?_,fun b ps q=>?_⟩
  · rw [upd_ne]
    · exact q
    · rintro rfl
      rw [h] at q
      cases q
      rcases hu with ⟨vs,rfl⟩ | ⟨ks,rfl⟩ | ⟨φ,rfl⟩
      · exact st.1 _ rfl
      · exact st.2.1 _ rfl
      · exact st.2.2.2.1 φ rfl
  · rw [upd_ne]
    · exact q
    · rintro rfl; rw [h] at q; rcases hu with ⟨vs,rfl⟩ | ⟨ks,rfl⟩ | ⟨φ,rfl⟩ <;> cases q
theorem grow_frz {H : Hp} {a : Addr} {u w : HO} (h : H a = some u) (hu : (∃ vs,u = .lst vs) ∨ (∃ ks,u = .dK ks) ∨ ∃ φ : MxO,u = .ext φ.1) : Grow H (upd H a w):=.of (frz_st h hu).1 (frz_st h hu).2
theorem tfrz {T : List (Addr × Str)} {H : Hp} {a : Addr} {u w : HO} (h : H a = some u) (hu : (∃ vs,u = .lst vs) ∨ (∃ ks,u = .dK ks) ∨ ∃ φ : MxO,u = .ext φ.1) (t : LamX.Tabs T H) : LamX.Tabs T (upd H a w):=tabs_of (frz_st h hu).1 (frz_st h hu).2 t
theorem OwnAt.lock {K : KW} {H : Hp} {a : Addr} {d : D} (h : OwnAt K H a d) : ∃ u,H a = some u ∧ ((∃ vs,u = .lst vs) ∨ (∃ ks,u = .dK ks) ∨ ∃ φ : MxO,u = .ext φ.1) ∧ ∀ o,Den K (upd H a (.frz o u)) (.ref a) d:=by
  cases d with
  | list ds =>
    obtain ⟨vs,h1,h2⟩:=h
    exact ⟨_,h1,.inl ⟨vs,rfl⟩,fun o=>.lst ⟨o,upd_same⟩ (h2.mono (grow_frz h1 (.inl ⟨vs,rfl⟩)))⟩
  | dict kvs =>
    rcases h with ⟨ks,h1,h2⟩ | ⟨n,xs,h1,h2⟩
    · exact ⟨_,h1,.inr (.inl ⟨ks,rfl⟩),fun o=>.dct upd_same (h2.mono (grow_frz h1 (.inr (.inl ⟨ks,rfl⟩))))⟩
    · exact ⟨_,h1,.inr (.inr ⟨nhoX K.prog K.w a xs,rfl⟩),fun o=>.dcn upd_same (h2.mono (grow_frz h1 (.inr (.inr ⟨nhoX K.prog K.w a xs,rfl⟩)))) n⟩
  | none=>exact h.elim
  | bool b=>exact h.elim
  | int i=>exact h.elim
  | str x=>exact h.elim
  | tuple xs=>exact h.elim
abbrev gd (X : Cx) (pa : Pa) (W : WX) : Gd:=⟨X.kw,X.mg,pa,W⟩
def tV (G : Gd) (f : M Pv) : TE:=fun σ H Q=>∃ e,Rel G.K G.pa σ H e ∧ Out G σ H e (f e) fun p e'=>∀ v H',Tr G.K G.pa σ H e σ H' e' → PvIs G.K σ H H' e' v p → Q v H'
def tD (G : Gd) (f : M D) : TE:=fun σ H Q=>∃ e,Rel G.K G.pa σ H e ∧ Out G σ H e (f e) fun d e'=>∀ v H',Tr G.K G.pa σ H e σ H' e' → Den G.K H' v d → Q v H'
def tT (G : Gd) (f : M Bool) : TT:=fun σ H Q=>∃ e,Rel G.K G.pa σ H e ∧ Out G σ H e (f e) fun b e'=>∀ H',Tr G.K G.pa σ H e σ H' e' → Q b H'
section
variable {α β : Type} {G : Gd} {σ : St} {H : Hp} {e : Ev}
theorem Out.imp {r : Rs α} {ok ok' : α → Ev → Prop} (h : Out G σ H e r ok) (f : ∀ a e',r = .ok a e' → ok a e' → ok' a e') : Out G σ H e r ok':=by
  cases r with
  | ok a e'=>exact f a e' rfl h
  | exc x e'=>exact h
  | bad=>exact h
theorem Out.of {r : Rs α} {a : α} {e' : Ev} {ok : α → Ev → Prop} (h : r = .ok a e') (k : ok a e') : Out G σ H e r ok:=by subst h; exact k
end
theorem PE.imp {X : Cx} {e : Expr} {t t' : TE} (h : PE X e t) (f : ∀ σ H Q,t' σ H Q → t σ H Q) : PE X e t':=⟨fun pins s σ H Q I q=>h.run pins s σ H Q I (f σ H Q q)⟩
theorem PT.imp {X : Cx} {e : Expr} {t t' : TT} (h : PT X e t) (f : ∀ σ H Q,t' σ H Q → t σ H Q) : PT X e t':=⟨fun pins s σ H Q I q=>h.run pins s σ H Q I (f σ H Q q)⟩
theorem PW.imp {X : Cx} {e : Expr} {t t' : TT} (h : PW X e t) (f : ∀ σ H Q,t' σ H Q → t σ H Q) : PW X e t':=⟨fun wh pins s σ H Q I q=>h.run wh pins s σ H Q I (f σ H Q q)⟩
theorem PS.imp {X : Cx} {e : Stmt} {t t' : TS} (h : PS X e t) (f : ∀ D σ H,t' D σ H → t D σ H) : PS X e t':=⟨fun pins s σ H D I q=>h.run pins s σ H D I (f D σ H q)⟩
theorem PSs.imp {X : Cx} {e : List Stmt} {t t' : TS} (h : PSs X e t) (f : ∀ D σ H,t' D σ H → t D σ H) : PSs X e t':=⟨fun pins s σ H D I q=>h.run pins s σ H D I (f D σ H q)⟩
theorem PA.imp {X : Cx} {e : List Expr} {t t' : TA} (h : PA X e t) (f : ∀ σ H Q,t' σ H Q → t σ H Q) : PA X e t':=⟨fun p pins s σ H Q I q=>h.run p pins s σ H Q I (f σ H Q q)⟩
theorem PE.post {X : Cx} {e : Expr} {t t' : TE} (h : PE X e t) (f : ∀ σ H Q,t' σ H Q → ∃ Q1 : VK,t σ H Q1 ∧ ∀ v H',Q1 v H' → Q v H' ∨ ∃ a u,H' a = some u ∧ ((∃ vs,u = HO.lst vs) ∨ (∃ ks,u = HO.dK ks) ∨ ∃ φ : MxO,u = HO.ext φ.1) ∧ ∀ o,Q v (upd H' a (.frz o u))) : PE X e t':=by
  refine ⟨fun pins s σ H Q I q=>?_⟩
  obtain ⟨Q1,h1,h2⟩:=f σ H Q q
  refine thn (h.run pins s σ H Q1 I h1) fun u s1 ⟨v,H1,I1,r1,q1⟩=>?_
  rcases h2 v H1 q1 with q2 | ⟨a,w,ha,hw,q2⟩
  · exact ⟨v,H1,I1,r1,q2⟩
  · obtain ⟨o,I2⟩:=freeze I1 ha hw
    exact ⟨v,_,I2,r1,q2 o⟩
section
variable {X : Cx} {pa : Pa} {W : WX}
abbrev EV (X : Cx) (pa : Pa) (W : WX) (e : Expr) (f : M Pv) : Prop:=PE X e (tV (gd X pa W) f)
abbrev ED (X : Cx) (pa : Pa) (W : WX) (e : Expr) (f : M D) : Prop:=PE X e (tD (gd X pa W) f)
abbrev ET (X : Cx) (pa : Pa) (W : WX) (e : Expr) (f : M Bool) : Prop:=PT X e (tT (gd X pa W) f)
theorem Tr.lock {K : KW} {σ : St} {H H1 : Hp} {e e1 : Ev} {a : Addr} {u w : HO} (T : Tr K pa σ H e σ H1 e1) (ha : H1 a = some u) (hu : (∃ vs,u = .lst vs) ∨ (∃ ks,u = .dK ks) ∨ ∃ φ : MxO,u = .ext φ.1) (n : ¬ Own σ e1 a) (hn : H a = none) : Tr K pa σ H e σ (upd H1 a w) e1:=by
  refine ⟨T.rel.keep (grow_frz ha hu) (tfrz ha hu T.rel.tb) (fun b hb=>?_) (hk_upd ha hu),fun b x h q nt=>?_,fun b h=>?_,T.ow,T.gr.trans (grow_frz ha hu),T.td,T.ln,T.bt.trans T.nn ((BNe.hp (hk_upd ha hu)).tr T.rel.bd)⟩
  · rw [upd_ne]; rintro rfl; exact n hb
  · rw [upd_ne]
    · exact T.fr b x h q nt
    · rintro rfl; rw [hn] at h; cases h
  · by_cases z : b = a
    · subst z; exact hn
    · rw [upd_ne z] at h; exact T.nn b h
theorem ev_pk {e : Expr} {f : M Pv} (h : EV X pa W e f) : EV X pa W e (pk f):=by
  refine PE.post h fun σ H Q ⟨en,R,q⟩=>?_
  unfold pk at q
  cases hf : f en with
  | bad=>rw [hf] at q; exact q.elim
  | exc x e1 =>
    rw [hf] at q
    exact ⟨Q,⟨en,R,by rw [hf]; exact q⟩,fun v H' z=>.inl z⟩
  | ok p e1 =>
    rw [hf] at q
    cases p with
    | d x=>exact ⟨Q,⟨en,R,by rw [hf]; exact q⟩,fun v H' z=>.inl z⟩
    | r i=>exact ⟨Q,⟨en,R,by rw [hf]; exact q⟩,fun v H' z=>.inl z⟩
    | o x =>
      refine ⟨fun v H'=>∃ a u,H' a = some u ∧ ((∃ vs,u = HO.lst vs) ∨ (∃ ks,u = HO.dK ks) ∨ ∃ φ : MxO,u = HO.ext φ.1) ∧ ∀ o,Q v (upd H' a (.frz o u)),⟨en,R,Out.of hf fun v H' T hv=>?_⟩,fun v H' z=>.inr z⟩
      obtain ⟨a,rfl,hn,ho,nw⟩:=hv
      obtain ⟨u,h1,h2,h3⟩:=ho.lock
      exact ⟨a,u,h1,h2,fun o=>q _ _ (T.lock h1 h2 nw hn) (h3 o)⟩
theorem set_get {α : Type} {e : List α} {i j : Nat} {x y : α} (h : (e.set i x)[j]? = some y) : (j = i ∧ y = x) ∨ (j ≠ i ∧ e[j]? = some y):=by
  by_cases z : j = i
  · subst z
    rw [List.getElem?_set_self'] at h
    cases q : e[j]? with
    | none=>rw [q] at h; simp at h
    | some w=>rw [q] at h; simp at h; exact .inl ⟨rfl,h.symm⟩
  · rw [List.getElem?_set_ne (Ne.symm z)] at h
    exact .inr ⟨z,h⟩
theorem ntb_o {x : D} {d : D} (z : TiB (.o false x) d) : False:=by rcases z with z | z <;> cases z
theorem td_set {e : Ev} {i : Nat} {y x : Sl} (hi : e[i]? = some y) (hy : ∀ {d : D},TiB y d → False) (hx : ∀ (d : D),x = .o true d → False) (j : Nat) : (∃ d,e[j]? = some (Sl.o true d)) ↔ ∃ d,(e.set i x)[j]? = some (Sl.o true d):=by
  constructor
  · rintro ⟨d,h⟩
    refine ⟨d,?_⟩
    rw [List.getElem?_set_ne]
    · exact h
    · rintro rfl; rw [hi] at h; exact (hy (.inl (Option.some.inj h))).elim
  · rintro ⟨d,h⟩
    rcases set_get h with ⟨_,z⟩ | ⟨_,h⟩
    · exact (hx d z.symm).elim
    · exact ⟨d,h⟩
theorem Tr.share {K : KW} {σ : St} {H : Hp} {e : Ev} {i : Nat} {d : D} {a : Addr} {u : HO} {o : Obj} (R : Rel K pa σ H e) (hi : e[i]? = some (.o false d)) (hs : σ[i]? = some (some (.ref a))) (ha : H a = some u) (hu : (∃ vs,u = .lst vs) ∨ (∃ ks,u = .dK ks) ∨ ∃ φ : MxO,u = .ext φ.1)
    (hd : Den K (upd H a (.frz o u)) (.ref a) d) : Tr K pa σ H e σ (upd H a (.frz o u)) (e.set i (.s d)):=by
  have g:=grow_frz (w:=.frz o u) ha hu
  have bn : BNe σ H e σ (L2.upd H a (.frz o u)) (e.set i (.s d)):=BNe.set hi (fun _ z=>by cases z) (fun _ _ z=>by cases z) (fun _ _=>rfl) (hk_upd ha hu)
  have ne : ∀ j t x b,e[j]? = some (.o t x) → j ≠ i → σ[j]? = some (some (.ref b)) → b ≠ a:=fun j t x b h1 h2 h3 z=>by
    subst z
    exact h2 (R.ap j i t false x d b h1 hi h3 hs)
  have own : ∀ b,Own σ (e.set i (.s d)) b → Own σ e b ∧ b ≠ a:=fun b ⟨j,t,x,h1,h2⟩=>by
    rcases set_get h1 with ⟨_,z⟩ | ⟨z,h1⟩
    · cases z
    · exact ⟨⟨j,t,x,h1,h2⟩,ne j t x b h1 z h2⟩
  refine ⟨⟨fun j x h=>?_,fun j t x h=>?_,fun j k t t' x x' b h1 h2 h3 h4=>?_,by rw [List.length_set]; exact R.ln,fun j p h=>?_,tfrz ha hu R.tb,bn.rel g R.bd⟩,fun b x h n _=>?_,fun b h=>?_,fun b h=>.inl (own b h).1,g,td_set (x:=.s d) hi ntb_o (fun _ z=>by cases z),rfl,bn.tr R.bd⟩
  · rcases set_get h with ⟨rfl,z⟩ | ⟨z,h⟩
    · cases z; exact ⟨_,hs,hd⟩
    · obtain ⟨v,h1,h2⟩:=R.sh j x h
      exact ⟨v,h1,h2.mono g⟩
  · rcases set_get h with ⟨rfl,z⟩ | ⟨z,h⟩
    · cases z
    · obtain ⟨b,h1,h2,h3⟩:=R.ow j t x h
      exact ⟨b,h1,h2.keep g (by rw [upd_ne (ne j t x b h z h1)]),h3⟩
  · rcases set_get h1 with ⟨_,z⟩ | ⟨_,h1⟩
    · cases z
    · rcases set_get h2 with ⟨_,z⟩ | ⟨_,h2⟩
      · cases z
      · exact R.ap j k t t' x x' b h1 h2 h3 h4
  · rcases set_get h with ⟨rfl,z⟩ | ⟨z,h⟩
    · cases z
    · obtain ⟨b,h1,h2⟩:=R.xc j p h
      exact ⟨b,h1,h2.mono g⟩
  · rw [upd_ne]
    · exact h
    · rintro rfl; exact n ⟨i,false,d,hi,hs⟩
  · by_cases z : b = a
    · subst z; rw [upd_same] at h; cases h
    · rw [upd_ne z] at h; exact h
theorem ed_dat {e : Expr} {f : M Pv} (h : EV X pa W e f) : ED X pa W e (dat f):=by
  refine PE.post h fun σ H Q ⟨en,R,q⟩=>?_
  unfold dat at q
  cases hf : f en with
  | bad=>rw [hf] at q; exact q.elim
  | exc x e1 =>
    rw [hf] at q
    exact ⟨Q,⟨en,R,by rw [hf]; exact q⟩,fun v H' z=>.inl z⟩
  | ok p e1 =>
    rw [hf] at q
    cases p with
    | d x=>exact ⟨Q,⟨en,R,by rw [hf]; exact q⟩,fun v H' z=>.inl z⟩
    | r i =>
      dsimp only at q
      cases hi : e1[i]? with
      | none=>rw [hi] at q; exact q.elim
      | some sl =>
        rw [hi] at q
        cases sl with
        | u=>exact q.elim
        | x p=>exact q.elim
        | b t p=>exact q.elim
        | s x =>
          refine ⟨Q,⟨en,R,Out.of hf fun v H' T hv=>q v H' T ?_⟩,fun v H' z=>.inl z⟩
          obtain ⟨w,h1,h2⟩:=T.rel.sh i x hi
          have hv : σ[i]? = some (some v):=hv
          rw [hv] at h1; cases h1; exact h2
        | o t x =>
          cases t with
          | true=>exact q.elim
          | false =>
            refine ⟨fun v H'=>∃ a u,H' a = some u ∧ ((∃ vs,u = HO.lst vs) ∨ (∃ ks,u = HO.dK ks) ∨ ∃ φ : MxO,u = HO.ext φ.1) ∧ ∀ o,Q v (upd H' a (.frz o u)),⟨en,R,Out.of hf fun v H' T hv=>?_⟩,fun v H' z=>.inr z⟩
            obtain ⟨a,h1,h2,_⟩:=T.rel.ow i false x hi
            have hv : σ[i]? = some (some v):=hv
            have hv':=hv
            rw [h1] at hv'; cases hv'
            obtain ⟨u,g1,g2,g3⟩:=h2.lock
            exact ⟨a,u,g1,g2,fun o=>q _ _ (T.trans (Tr.share T.rel hi hv g1 g2 (g3 o))) (g3 o)⟩
    | o x =>
      refine ⟨fun v H'=>∃ a u,H' a = some u ∧ ((∃ vs,u = HO.lst vs) ∨ (∃ ks,u = HO.dK ks) ∨ ∃ φ : MxO,u = HO.ext φ.1) ∧ ∀ o,Q v (upd H' a (.frz o u)),⟨en,R,Out.of hf fun v H' T hv=>?_⟩,fun v H' z=>.inr z⟩
      obtain ⟨a,rfl,hn,ho,nw⟩:=hv
      obtain ⟨u,h1,h2,h3⟩:=ho.lock
      exact ⟨a,u,h1,h2,fun o=>q _ _ (T.lock h1 h2 nw hn) (h3 o)⟩
theorem ev_pvd {e : Expr} {f : M D} (h : ED X pa W e f) : EV X pa W e (pvd f):=by
  refine PE.imp h fun σ H Q ⟨en,R,q⟩=>⟨en,R,?_⟩
  unfold pvd at q
  cases hf : f en with
  | bad=>rw [hf] at q; exact q
  | exc x e1=>rw [hf] at q; exact q
  | ok p e1=>rw [hf] at q; exact q
def var (i : Nat) : M Pv:=fun e=>match e[i]? with
  | some (.s d)=>.ok (.d d) e
  | some (.o _ _)=>.ok (.r i) e
  | _=>.bad
theorem ev_var (i : Nat) {x : Str} {pos : Pos} (hN : X.N[i]? = some x:=by rfl) (hv : Vis X.env.scope x:=by first | exact Or.inl rfl | exact Or.inr (Or.inl rfl) | exact Or.inr (Or.inr rfl)) (hd : (x == ("__debug__" : Str)) = false:=by decide)
    (hcd : (x == ("__classdict__" : Str)) = false:=by decide) : EV X pa W (.Name x pos) (var i):=by
  refine PE.imp (pe_var hN hv hd hcd) fun σ H Q ⟨en,R,q⟩=>?_
  unfold var at q
  cases hi : en[i]? with
  | none=>rw [hi] at q; exact q.elim
  | some sl =>
    rw [hi] at q
    cases sl with
    | u=>exact q.elim
    | x p=>exact q.elim
    | b t p=>exact q.elim
    | s x =>
      obtain ⟨v,h1,h2⟩:=R.sh i x hi
      exact ⟨v,h1,q v H (.refl R) h2⟩
    | o t x =>
      obtain ⟨a,h1,h2,_⟩:=R.ow i t x hi
      exact ⟨_,h1,q _ H (.refl R) h1⟩
def kst (d : D) : M D:=fun e=>.ok d e
theorem ed_con {e : Expr} {v : V} {d : D} (h : PE X e (tC v)) (hd : ∀ K H,Den K H v d) : ED X pa W e (kst d) :=
  PE.imp h fun σ H Q ⟨en,R,q⟩=>q v H (.refl R) (hd _ _)
theorem ed_int {i j pos} : ED X pa W (.Constant (.int i) j pos) (kst (.int i)):=ed_con pe_int fun _ _=>.int i
theorem ed_bl {b j pos} : ED X pa W (.Constant (.bool b) j pos) (kst (.bool b)):=ed_con pe_bl fun _ _=>.bl b
theorem ed_non {j pos} : ED X pa W (.Constant .none j pos) (kst .none):=ed_con pe_non fun _ _=>.non
theorem ed_str {x j pos} : ED X pa W (.Constant (.str x) j pos) (kst (.str x)):=ed_con pe_str fun _ _=>.str x
def NewIs (K : KW) (H H' : Hp) (v : V) (r : Xv) : Prop:=match r with
  | .s d=>Den K H' v d
  | .o d=>∃ a,v = .ref a ∧ H a = none ∧ OwnAt K H' a d
def r2 (K : KW) (h : D → D → Option Xv) : R2:=fun x y H Q=>∃ d d' r,Rdb K H x d ∧ Rdb K H y d' ∧ h d d' = some r ∧ ∀ v H',Same H H' → NewIs K H H' v r → Q v H'
def r1 (K : KW) (h : D → Option Xv) : V → Hp → VK → Prop:=fun x H Q=>∃ d r,Rdb K H x d ∧ h d = some r ∧ ∀ v H',Same H H' → NewIs K H H' v r → Q v H'
def put (r : Option Xv) (e : Ev) : Rs Pv:=match r with
  | some x=>.ok x.pv e
  | none=>.bad
def op1 (h : D → Option Xv) (f : M Pv) : M Pv:=fun e=>(pk f e).bind fun p e1=>put ((p.get e1).bind h) e1
def op2 (h : D → D → Option Xv) (f g : M Pv) : M Pv:=fun e=>(pk f e).bind fun p e1=>(pk g e1).bind fun q e2=>put ((p.get e2).bind fun x=>(q.get e2).bind fun y=>h x y) e2
theorem pk_is {K : KW} {σ : St} {H H' : Hp} {e e' : Ev} {v : V} {p : Pv} {f : M Pv} (h : pk f e = .ok p e') (hv : PvIs K σ H H' e' v p) : PvK K σ H' v p:=by
  cases p with
  | d x=>exact hv
  | r i=>exact hv
  | o x =>
    unfold pk at h
    split at h
    · cases h
    · next nq=>exact (nq x e' h).elim
theorem new_pv {K : KW} {σ : St} {H H1 H2 : Hp} {e e1 : Ev} {v : V} {r : Xv} (T : Tr K pa σ H e σ H1 e1) (nw : NewIs K H1 H2 v r) : PvIs K σ H H2 e1 v r.pv:=by
  cases r with
  | s d=>exact nw
  | o d =>
    obtain ⟨a,rfl,hn,ho⟩:=nw
    exact ⟨a,rfl,T.nn a hn,ho,fun q=>(T.rel.loose q).some hn⟩
theorem fin_put {Q : VK} {σ : St} {H H1 : Hp} {e e1 : Ev} {o : Option Xv} (q : Out (gd X pa W) σ H1 e1 (put o e1) fun p e'=>∀ v H',Tr X.kw pa σ H e σ H' e' → PvIs X.kw σ H H' e' v p → Q v H') (T : Tr X.kw pa σ H e σ H1 e1) :
    ∃ r,o = some r ∧ ∀ v H',Same H1 H' → NewIs X.kw H1 H' v r → Q v H':=by
  cases o with
  | none=>exact q.elim
  | some r=>exact ⟨r,rfl,fun v H' sm nw=>q v H' (T.then sm) (new_pv T nw)⟩
theorem get_some {o : Option D} {h : D → Option Xv} {r : Xv} (q : o.bind h = some r) : ∃ d,o = some d ∧ h d = some r:=by
  cases o with
  | none=>cases q
  | some d=>exact ⟨d,rfl,q⟩
theorem rd_op1 {h : D → Option Xv} {f : M Pv} {σ : St} {H : Hp} {Q : VK} (q : tV (gd X pa W) (op1 h f) σ H Q) : tV (gd X pa W) (pk f) σ H fun x H1=>r1 X.kw h x H1 Q:=by
  obtain ⟨en,R,q⟩:=q
  refine ⟨en,R,(Out.bind q).imp fun p e1 hp k v H1 T1 hv=>?_⟩
  obtain ⟨r,hr,k2⟩:=fin_put (k H1 T1) T1
  obtain ⟨d,h1,h2⟩:=get_some hr
  exact ⟨d,r,(pk_is hp hv).rdb T1.rel h1,h2,k2⟩
theorem rd_op2 {h : D → D → Option Xv} {f g : M Pv} {σ : St} {H : Hp} {Q : VK} (q : tV (gd X pa W) (op2 h f g) σ H Q) : tV (gd X pa W) (pk f) σ H fun x H1=>tV (gd X pa W) (pk g) σ H1 fun y H2=>r2 X.kw h x y H2 Q:=by
  obtain ⟨en,R,q⟩:=q
  refine ⟨en,R,(Out.bind q).imp fun p e1 hp k v H1 T1 hv=>?_⟩
  refine ⟨e1,T1.rel,(Out.bind (k H1 T1)).imp fun p' e2 hp' k' v' H2 T2 hv'=>?_⟩
  obtain ⟨r,hr,k2⟩:=fin_put (k' H2 T2) (T1.trans T2)
  obtain ⟨d,h1,h2⟩:=get_some hr
  obtain ⟨d',h3,h4⟩:=get_some h2
  exact ⟨d,d',r,((pk_is hp hv).mono T2.gr).rdb T2.rel h1,(pk_is hp' hv').rdb T2.rel h3,h4,k2⟩
variable {a b : Expr} {f g : M Pv} {pos : Pos}
theorem ev_bin {op : Operator} {h : D → D → Option Xv} (ho : OpR X (binaryOp op) (r2 X.kw h)) (ha : EV X pa W a f) (hb : EV X pa W b g) : EV X pa W (.BinOp a op b pos) (op2 h f g) :=
  PE.imp (pe_op ho (ev_pk ha) (ev_pk hb)) fun _ _ _ q=>rd_op2 q
theorem ev_un {op : UnaryOp} {h : D → Option Xv} (ho : UnR X (unaryOp op) (r1 X.kw h)) (ha : EV X pa W a f) : EV X pa W (.UnaryOp op a pos) (op1 h f) :=
  PE.imp (pe_un ho (ev_pk ha)) fun _ _ _ q=>rd_op1 q
theorem ev_cmp {op : CmpOp} {h : D → D → Option Xv} (ho : OpR X (compareOp op) (r2 X.kw h)) (ha : EV X pa W a f) (hb : EV X pa W b g) (hm : behindInMarks op b = false:=by first | exact nomark _ | rfl) : EV X pa W (.Compare a [op] [b] pos) (op2 h f g) :=
  PE.imp (pe_cmpR ho (ev_pk ha) (ev_pk hb) hm) fun _ _ _ q=>rd_op2 q
def bol (f : M Pv) : M Bool:=fun e=>(dat f e).bind fun d e1=>match d with
  | .bool b=>.ok b e1
  | _=>.bad
theorem et_cmp {op : CmpOp} {h : D → D → Option Xv} (ho : OpR X (compareOp op) (r2 X.kw h)) (ha : EV X pa W a f) (hb : EV X pa W b g) (hm : behindInMarks op b = false:=by first | exact nomark _ | rfl) : ET X pa W (.Compare a [op] [b] pos) (bol (op2 h f g)):=by
  refine PT.imp (pt_cmpR ho (ev_pk ha) (ev_pk hb) hm) fun σ H Q ⟨en,R,q⟩=>?_
  have key : tV (gd X pa W) (op2 h f g) σ H fun x H'=>∃ k,x = .bl k ∧ Q k H':=by
    refine ⟨en,R,?_⟩
    have q:=Out.bind q
    unfold dat at q
    cases hf : op2 h f g en with
    | bad=>rw [hf] at q; exact q
    | exc x e1=>rw [hf] at q; exact q
    | ok p e1 =>
      rw [hf] at q
      intro v H1 T1 hv
      cases p with
      | d x =>
        have k:=q H1 T1
        have hv : Den X.kw H1 v x:=hv
        cases hv with
        | bl b=>exact ⟨b,rfl,k H1 T1⟩
        | non=>exact k.elim
        | int i=>exact k.elim
        | str x=>exact k.elim
        | lst _ _=>exact k.elim
        | tup _ _=>exact k.elim
        | dct _ _=>exact k.elim
        | dcn _ _ _=>exact k.elim
      | r i =>
        exfalso
        unfold op2 at hf
        cases h1 : pk f en with
        | bad=>rw [h1] at hf; cases hf
        | exc _ _=>rw [h1] at hf; cases hf
        | ok p1 e2 =>
          rw [h1] at hf
          dsimp only [Rs.bind] at hf
          cases h2 : pk g e2 with
          | bad=>rw [h2] at hf; cases hf
          | exc _ _=>rw [h2] at hf; cases hf
          | ok p2 e3 =>
            rw [h2] at hf
            dsimp only [put] at hf
            split at hf
            · next x _=>cases x <;> cases hf
            · cases hf
      | o x =>
        have k:=q H1 T1
        cases x with
        | bool b =>
          obtain ⟨_,_,_,z,_⟩:=hv
          exact z.elim
        | none=>exact k.elim
        | int i=>exact k.elim
        | str x=>exact k.elim
        | list _=>exact k.elim
        | tuple _=>exact k.elim
        | dict _=>exact k.elim
  exact rd_op2 key
end
end DL
end L2
namespace L2
namespace DL
open PySem PySem.Spec PyProof.Rows
section
variable {X : Cx} {pa : Pa} {W : WX} {a b c : Expr} {f g : M Pv} {pos : Pos} {rest : List Expr}
theorem PvIs.back {K : KW} {σ : St} {H H1 H' : Hp} {e e1 e' : Ev} {v : V} {p : Pv} (T : Tr K pa σ H e σ H1 e1) (h : PvIs K σ H1 H' e' v p) : PvIs K σ H H' e' v p:=by
  cases p with
  | d x=>exact h
  | r i=>exact h
  | o x=>obtain ⟨a,h1,h2,h3⟩:=h; exact ⟨a,h1,T.nn a h2,h3⟩
theorem at_V {σ : St} {H H1 : Hp} {e e1 : Ev} {Q : VK} (T : Tr X.kw pa σ H e σ H1 e1) (q : Out (gd X pa W) σ H1 e1 (f e1) fun p e'=>∀ v H',Tr X.kw pa σ H e σ H' e' → PvIs X.kw σ H H' e' v p → Q v H') : tV (gd X pa W) f σ H1 Q :=
  ⟨e1,T.rel,q.imp fun p e' _ k v H' T' hv=>k v H' (T.trans T') (hv.back T)⟩
theorem at_T {f : M Bool} {σ : St} {H H1 : Hp} {e e1 : Ev} {Q : Bool → Hp → Prop} (T : Tr X.kw pa σ H e σ H1 e1) (q : Out (gd X pa W) σ H1 e1 (f e1) fun d e'=>∀ H',Tr X.kw pa σ H e σ H' e' → Q d H') : tT (gd X pa W) f σ H1 Q :=
  ⟨e1,T.rel,q.imp fun p e' _ k H' T'=>k H' (T.trans T')⟩
abbrev EW (X : Cx) (pa : Pa) (W : WX) (e : Expr) (f : M Bool) : Prop:=PW X e (tT (gd X pa W) f)
def andT (f g : M Bool) : M Bool:=fun e=>(f e).bind fun b e1=>match b with
  | true=>g e1
  | false=>.ok false e1
def orT (f g : M Bool) : M Bool:=fun e=>(f e).bind fun b e1=>match b with
  | true=>.ok true e1
  | false=>g e1
def notT (f : M Bool) : M Bool:=fun e=>(f e).bind fun b e1=>.ok (!b) e1
variable {s t : M Bool}
theorem et_w (h : EW X pa W a s) : ET X pa W a s:=h.pt
theorem ew_and1 (h : ET X pa W a s) : EW X pa W (.BoolOp .And [a] pos) s:=pw_and1 h
theorem ew_or1 (h : ET X pa W a s) : EW X pa W (.BoolOp .Or [a] pos) s:=pw_or1 h
theorem ew_and (ha : ET X pa W a s) (hb : EW X pa W (.BoolOp .And (b :: rest) pos) t) : EW X pa W (.BoolOp .And (a :: b :: rest) pos) (andT s t):=by
  refine PW.imp (pw_and ha hb) fun σ H Q ⟨en,R,q⟩=>⟨en,R,(Out.bind q).imp fun x e1 _ k H1 T=>?_⟩
  have k:=k H1 T
  cases x with
  | true=>exact iteT (at_T T k)
  | false=>exact k H1 T
theorem ew_or (ha : ET X pa W a s) (hb : EW X pa W (.BoolOp .Or (b :: rest) pos) t) : EW X pa W (.BoolOp .Or (a :: b :: rest) pos) (orT s t):=by
  refine PW.imp (pw_or ha hb) fun σ H Q ⟨en,R,q⟩=>⟨en,R,(Out.bind q).imp fun x e1 _ k H1 T=>?_⟩
  have k:=k H1 T
  cases x with
  | true=>exact k H1 T
  | false=>exact iteF (at_T T k)
theorem et_not (ha : ET X pa W a s) : ET X pa W (.UnaryOp .Not a pos) (notT s):=by
  refine PT.imp (pt_not ha) fun σ H Q ⟨en,R,q⟩=>⟨en,R,(Out.bind q).imp fun x e1 _ k H1 T=>?_⟩
  exact k H1 T H1 T
theorem ev_one {op} (h : EV X pa W a f) : EV X pa W (.BoolOp op [a] pos) f:=pe_one h
def ifX (s : M Bool) (f g : M Pv) : M Pv:=fun e=>(s e).bind fun b e1=>match b with
  | true=>f e1
  | false=>g e1
theorem ev_if (hc : ET X pa W c s) (ha : EV X pa W a f) (hb : EV X pa W b g) : EV X pa W (.IfExp c a b pos) (ifX s f g):=by
  refine PE.imp (pe_ifExp hc ha hb) fun σ H Q ⟨en,R,q⟩=>⟨en,R,(Out.bind q).imp fun x e1 _ k H1 T=>?_⟩
  have k:=k H1 T
  cases x with
  | true=>exact iteT (at_V T k)
  | false=>exact iteF (at_V T k)
def tDs (G : Gd) (f : M (List D)) : TA:=fun σ H Q=>∃ e,Rel G.K G.pa σ H e ∧ Out G σ H e (f e) fun ds e'=>∀ vs H',Tr G.K G.pa σ H e σ H' e' → DenAll G.K H' vs ds → Q vs H'
structure EA (X : Cx) (pa : Pa) (W : WX) (es : List Expr) (f : M (List D)) : Prop where
  run : PA X es (tDs (gd X pa W) f)
  len : ∀ e ds e',f e = .ok ds e' → ds.length = es.length
def nilA : M (List D):=fun e=>.ok [] e
def consA (f : M D) (g : M (List D)) : M (List D):=fun e=>(f e).bind fun d e1=>(g e1).bind fun ds e2=>.ok (d :: ds) e2
theorem ea_nil : EA X pa W [] nilA:=⟨PA.imp pa_nil fun σ H Q ⟨en,R,q⟩=>q [] H (.refl R) .nil,fun e ds e' h=>by cases h; rfl⟩
theorem ea_cons {e : Expr} {es : List Expr} {f : M D} {g : M (List D)} (ha : ED X pa W e f) (hr : EA X pa W es g) (hs : starEach (e :: es) X.env = (false,eval e X.env) :: starEach es X.env:=by rfl) : EA X pa W (e :: es) (consA f g):=by
  refine ⟨PA.imp (pa_cons ha hr.run hs) fun σ H Q ⟨en,R,q⟩=>⟨en,R,(Out.bind q).imp fun d e1 _ k v H1 T hv=>?_⟩,fun e ds e' h=>?_⟩
  · refine ⟨e1,T.rel,(Out.bind (k H1 T)).imp fun ds e2 _ k2 vs H2 T2 hvs=>?_⟩
    exact k2 H2 T2 (v :: vs) H2 (T.trans T2) (.cons (hv.mono T2.gr) hvs)
  · obtain ⟨d,e1,_,h⟩:=Rs.bind_ok h
    obtain ⟨ds',e2,h1,h⟩:=Rs.bind_ok h
    cases h
    rw [List.length_cons,hr.len _ _ _ h1,List.length_cons]
def lstM (f : M (List D)) : M Pv:=fun e=>(f e).bind fun ds e1=>.ok (.o (.list ds)) e1
def tupM (f : M (List D)) : M Pv:=fun e=>(f e).bind fun ds e1=>.ok (.d (.tuple ds)) e1
theorem same_new {H : Hp} {p : Addr} {o : HO} (h : H p = none) : Same H (upd H p o):=fun b x e=>by
  rw [upd_ne (ne_of_none e h)]
  exact e
theorem ev_lst {es : List Expr} {f : M (List D)} (h : EA X pa W es f) (hl : es.length ≤ sizeLine:=by decide) : EV X pa W (.List es pos) (lstM f):=by
  refine PE.imp (pe_lst h.run) fun σ H Q ⟨en,R,q⟩=>⟨en,R,(Out.bind q).imp fun ds e1 hf k vs H1 T hvs=>⟨?_,fun p hp=>?_⟩⟩
  · rw [hvs.length,h.len _ _ _ hf]; exact hl
  · have sm:=same_new (o:=.lst vs) hp
    exact k H1 T _ _ (T.then sm) ⟨p,rfl,T.nn p hp,⟨vs,upd_same,hvs.mono (gsame sm)⟩,fun z=>(T.rel.loose z).some hp⟩
theorem pe_tupX {es : List Expr} {t : TA} {x1} (h : PA X es t) : PE X (.Tuple es x1 pos) (fun σ H Q=>t σ H fun xs H1=>xs.length ≤ sizeLine ∧ ∀ p o,H1 p = none → o.dict = none → Q (.ref p) (upd H1 p (.frz o (.tup xs)))):=by
  refine ⟨fun pins s σ H Q I hq=>?_⟩
  refine wpAny_Tuple_spliced (thn (h.run pos pins s σ H _ I hq) fun us s1 ⟨xs,H1,I1,r,z,q⟩=>⟨by rw [← r.length]; exact z,?_⟩)
  have hf : H1 s1.heap.objs.size = none:=I1.hok.fresh (Nat.le_refl _)
  refine ⟨.ref s1.heap.objs.size,upd H1 s1.heap.objs.size (.frz { cls:=.type "tuple",data:=.seq us.toArray } (.tup xs)),I1.laid (t':=s1.toks) (fun b u e=>Heap.get?_push_of_some _ e) (Nat.le_refl _) ?_,rfl,q _ _ hf rfl⟩
  exact ⟨Heap.get?_push_size _ rfl,z,us,r,⟨_,Heap.get?_push_size _ rfl,rfl,_,rfl⟩⟩
theorem ev_tup {es : List Expr} {x1} {f : M (List D)} (h : EA X pa W es f) (hl : es.length ≤ sizeLine:=by decide) : EV X pa W (.Tuple es x1 pos) (tupM f):=by
  refine PE.imp (pe_tupX h.run) fun σ H Q ⟨en,R,q⟩=>⟨en,R,(Out.bind q).imp fun ds e1 hf k vs H1 T hvs=>⟨?_,fun p o hp ho=>?_⟩⟩
  · rw [hvs.length,h.len _ _ _ hf]; exact hl
  · have sm:=same_new (o:=.frz o (.tup vs)) hp
    exact k H1 T _ _ (T.then sm) (Den.tup (.inl ⟨o,upd_same,ho⟩) (hvs.mono (gsame sm)))
end
def tS (G : Gd) (f : M Fl) : TS:=fun D σ H=>∃ e,Rel G.K G.pa σ H e ∧ OutS G σ H e (f e) D
section
variable {X : Cx} {pa : Pa} {W : WX} {pos : Pos}
abbrev ES (X : Cx) (pa : Pa) (W : WX) (st : Stmt) (f : M Fl) : Prop:=PS X st (tS (gd X pa W) f)
abbrev EB (X : Cx) (pa : Pa) (W : WX) (st : List Stmt) (f : M Fl) : Prop:=PSs X st (tS (gd X pa W) f)
theorem OutS.back {G : Gd} {σ σ1 : St} {H H1 : Hp} {e e1 : Ev} {r : Rs Fl} {D : Ends} (T : Tr G.K G.pa σ H e σ1 H1 e1) (q : OutS G σ H e r D) : OutS G σ1 H1 e1 r D:=by
  cases r with
  | bad=>exact q
  | exc x e'=>exact fun c dx σ' H' T'=>q c dx σ' H' (T.trans T')
  | ok fl e' =>
    cases fl with
    | nx=>exact fun σ' H' T'=>q σ' H' (T.trans T')
    | bk=>exact fun σ' H' T'=>q σ' H' (T.trans T')
    | ct=>exact fun σ' H' T'=>q σ' H' (T.trans T')
    | rt x =>
      refine fun v σ' H' T' hv=>q v σ' H' (T.trans T') ?_
      cases x with
      | s d=>exact hv
      | o d =>
        obtain ⟨a,h1,h2,h3,h4⟩:=hv
        refine ⟨a,h1,h2,?_,h4⟩
        rcases h3 with h3 | h3
        · exact .inl (T.nn a h3)
        · exact (T.ow a h3).symm
def skip : M Fl:=fun e=>.ok .nx e
def seqM (f g : M Fl) : M Fl:=fun e=>match f e with
  | .ok .nx e1=>g e1
  | r=>r
theorem eb_nil : EB X pa W [] skip:=PSs.imp pss_nil fun D σ H ⟨en,R,q⟩=>q σ H (.refl R)
theorem eb_cons {st : Stmt} {rest : List Stmt} {f g : M Fl} (h1 : ES X pa W st f) (h2 : EB X pa W rest g) : EB X pa W (st :: rest) (seqM f g):=by
  refine PSs.imp (pss_cons h1 h2) fun D σ H ⟨en,R,q⟩=>⟨en,R,?_⟩
  unfold seqM at q
  cases hf : f en with
  | bad=>rw [hf] at q; exact q
  | exc x e'=>rw [hf] at q; exact q
  | ok fl e1 =>
    rw [hf] at q
    cases fl with
    | nx=>exact fun σ1 H1 T=>⟨e1,T.rel,OutS.back (G:=gd X pa W) T q⟩
    | bk=>exact q
    | ct=>exact q
    | rt x=>exact q
theorem eb_one {st : Stmt} {f : M Fl} (h1 : ES X pa W st f) : EB X pa W [st] f:=pss_one h1
def brk : M Fl:=fun e=>.ok .bk e
def cnt : M Fl:=fun e=>.ok .ct e
def drop (f : M Pv) : M Fl:=fun e=>(f e).bind fun _ e1=>.ok .nx e1
theorem outS_of {α : Type} {σ : St} {H : Hp} {e : Ev} {r : Rs α} {k : α → Ev → Rs Fl} {D : Ends} {ok : α → Ev → Prop} (q : OutS (gd X pa W) σ H e (r.bind k) D)
    (h : ∀ p e1,r = .ok p e1 → OutS (gd X pa W) σ H e (k p e1) D → ok p e1) : Out (gd X pa W) σ H e r ok:=by
  cases r with
  | bad=>exact q
  | exc x e'=>exact fun c dx H' T xd=>q c dx σ H' T xd
  | ok p e1=>exact h p e1 rfl q
theorem es_expr {e : Expr} {f : M Pv} (he : EV X pa W e f) (hs : swapsWith e none pos.line X.env = pure false:=by rfl) : ES X pa W (.Expr e pos) (drop f):=by
  refine PS.imp (ps_expr he hs) fun D σ H ⟨en,R,q⟩=>⟨en,R,outS_of q fun p e1 _ k v H1 T hv=>?_⟩
  exact k σ H1 T
def ret (f : M Pv) : M Fl:=fun e=>(f e).bind fun p e1=>match p with
  | .d x=>.ok (.rt (.s x)) e1
  | .o x=>.ok (.rt (.o x)) e1
  | .r i=>(match e1[i]? with
    | some (.s x)=>.ok (.rt (.s x)) e1
    | some (.o false x)=>.ok (.rt (.o x)) (e1.set i .u)
    | _=>.bad)
theorem Tr.away {K : KW} {σ : St} {H : Hp} {e : Ev} {i : Nat} {d : D} (R : Rel K pa σ H e) (hi : e[i]? = some (.o false d)) : Tr K pa σ H e σ H (e.set i .u):=by
  have bn : BNe σ H e σ H (e.set i .u):=BNe.set hi (fun _ z=>by cases z) (fun _ _ z=>by cases z) (fun _ _=>rfl) (fun _ _ h _=>h)
  have own : ∀ b,Own σ (e.set i .u) b → Own σ e b:=fun b ⟨j,t,x,h1,h2⟩=>by
    rcases set_get h1 with ⟨_,z⟩ | ⟨z,h1⟩
    · cases z
    · exact ⟨j,t,x,h1,h2⟩
  refine ⟨⟨fun j x h=>?_,fun j t x h=>?_,fun j k t t' x x' b h1 h2 h3 h4=>?_,by rw [List.length_set]; exact R.ln,fun j p h=>?_,R.tb,bn.rel (.refl H) R.bd⟩,fun b x h n _=>h,fun b h=>h,fun b h=>.inl (own b h),.refl H,td_set (x:=.u) hi ntb_o (fun _ z=>by cases z),rfl,bn.tr R.bd⟩
  · rcases set_get h with ⟨_,z⟩ | ⟨z,h⟩
    · cases z
    · exact R.sh j x h
  · rcases set_get h with ⟨_,z⟩ | ⟨z,h⟩
    · cases z
    · exact R.ow j t x h
  · rcases set_get h1 with ⟨_,z⟩ | ⟨_,h1⟩
    · cases z
    · rcases set_get h2 with ⟨_,z⟩ | ⟨_,h2⟩
      · cases z
      · exact R.ap j k t t' x x' b h1 h2 h3 h4
  · rcases set_get h with ⟨_,z⟩ | ⟨z,h⟩
    · cases z
    · exact R.xc j p h
theorem es_ret {e : Expr} {f : M Pv} (he : EV X pa W e f) : ES X pa W (.Return (some e) pos) (ret f):=by
  refine PS.imp (ps_ret he) fun D σ H ⟨en,R,q⟩=>⟨en,R,outS_of q fun p e1 _ k v H1 T hv=>?_⟩
  cases p with
  | d x=>exact k v σ H1 T hv
  | o x =>
    obtain ⟨a,h1,h2,h3,h4⟩:=hv
    exact k v σ H1 T ⟨a,h1,h3,.inl h2,h4⟩
  | r i =>
    have hv : σ[i]? = some (some v):=hv
    dsimp only at k
    cases hi : e1[i]? with
    | none=>rw [hi] at k; exact k.elim
    | some sl =>
      rw [hi] at k
      cases sl with
      | u=>exact k.elim
      | x p=>exact k.elim
      | b t p=>exact k.elim
      | s x =>
        obtain ⟨w,h1,h2⟩:=T.rel.sh i x hi
        rw [hv] at h1; cases h1
        exact k _ σ H1 T h2
      | o t x =>
        cases t with
        | true=>exact k.elim
        | false =>
          obtain ⟨a,h1,h2,_⟩:=T.rel.ow i false x hi
          rw [hv] at h1; cases h1
          refine k _ σ H1 (T.trans (Tr.away T.rel hi)) ⟨a,rfl,h2,(T.ow a ⟨i,false,x,hi,hv⟩).symm,fun ⟨j,t,y,g1,g2⟩=>?_⟩
          rcases set_get g1 with ⟨_,z⟩ | ⟨z,g1⟩
          · cases z
          · exact z (T.rel.ap j i t false y x a g1 hi g2 hv)
def ifS (s : M Bool) (f g : M Fl) : M Fl:=fun e=>(s e).bind fun b e1=>match b with
  | true=>f e1
  | false=>g e1
theorem es_if {c : Expr} {a b : List Stmt} {s : M Bool} {f g : M Fl} (hc : ET X pa W c s) (ha : EB X pa W a f) (hb : EB X pa W b g) : ES X pa W (.If c a b pos) (ifS s f g):=by
  refine PS.imp (ps_if hc ha hb) fun D σ H ⟨en,R,q⟩=>⟨en,R,outS_of q fun p e1 _ k H1 T=>?_⟩
  have k:=OutS.back (G:=gd X pa W) T k
  cases p with
  | true=>exact iteT (⟨e1,T.rel,k⟩)
  | false=>exact iteF (⟨e1,T.rel,k⟩)
end
end DL
end L2
namespace L2
namespace DL
open PySem PySem.Spec PyProof.Rows
inductive Rf where
  | ok (x : Xv) (outs : List D) | exc (x : Px) (outs : List D) | bad
def outsOf : Ev → List D
  | []=>[]
  | .o true d :: r=>d :: outsOf r
  | .b true d :: r=>d :: outsOf r
  | _ :: r=>outsOf r
def fnM (n : Nat) (f : M Fl) (as : List Sl) : Rf:=match f (as ++ List.replicate (n - as.length) .u) with
  | .ok .nx e'=>.ok (.s .none) (outsOf (e'.take as.length))
  | .ok (.rt x) e'=>.ok x (outsOf (e'.take as.length))
  | .ok .bk _=>.bad
  | .ok .ct _=>.bad
  | .exc x e'=>.exc x (outsOf (e'.take as.length))
  | .bad=>.bad
def ArgOk (K : KW) (H : Hp) (v : V) (a : Sl) : Prop:=match a with
  | .s d=>Den K H v d
  | .o t d=>t = true ∧ ∃ p,v = .ref p ∧ OwnAt K H p d
  | .u=>False
  | .x _=>False
  | .b t d=>t = true ∧ ∃ p,v = .ref p ∧ BoardAt K H p d
def TieB (H : Hp) (vs : List V) (as : List Sl) (i : Nat) (b : Addr) : Prop:=∃ (t : Bool) (d : D) (a : Addr),as[i]? = some (Sl.b t d) ∧ vs[i]? = some (V.ref a) ∧ (b = a ∨ LOf H a b)
structure ArgsOk (K : KW) (H : Hp) (vs : List V) (as : List Sl) : Prop where
  len : vs.length = as.length
  arg : ∀ (i : Nat) (v : V) (a : Sl),vs[i]? = some v → as[i]? = some a → ArgOk K H v a
  ap : ∀ (i j : Nat) (t t' : Bool) (d d' : D) (p : Addr),as[i]? = some (Sl.o t d) → as[j]? = some (Sl.o t' d') → vs[i]? = some (V.ref p) → vs[j]? = some (V.ref p) → i = j
  ab : ∀ (i j : Nat) (b : Addr),TieB H vs as i b → TieB H vs as j b → i = j
def Tied (vs : List V) (as : List Sl) (p : Addr) : Prop:=∃ (i : Nat) (t : Bool) (d : D),as[i]? = some (Sl.o t d) ∧ vs[i]? = some (V.ref p)
def OutsAt (K : KW) (H : Hp) : List V → List Sl → List D → Prop
  | [],[],ds=>ds = []
  | v :: vs,.o _ _ :: as,ds=>∃ d r,ds = d :: r ∧ (∃ p,v = .ref p ∧ OwnAt K H p d) ∧ OutsAt K H vs as r
  | v :: vs,.b _ _ :: as,ds=>∃ d r,ds = d :: r ∧ (∃ p,v = .ref p ∧ BoardAt K H p d) ∧ OutsAt K H vs as r
  | _ :: vs,_ :: as,ds=>OutsAt K H vs as ds
  | _,_,_=>False
structure CallTr (K : KW) (T : List (Addr × Str)) (H : Hp) (vs : List V) (as : List Sl) (H' : Hp) (outs : List D) : Prop where
  fr : ∀ b x,H b = some x → ¬ Tied vs as b → NT x → H' b = some x
  nn : ∀ b,H' b = none → H b = none
  gr : Grow H H'
  tb : LamX.Tabs T H'
  out : OutsAt K H' vs as outs
  fb : ∀ b x,H b = some x → BK x → (∀ i,¬ TieB H vs as i b) → H' b = some x
  ob : ∀ i b,TieB H' vs as i b → (∃ j,TieB H vs as j b) ∨ H b = none
def spD (K : KW) (T : List (Addr × Str)) (mg : Str → Option Value) (m : List Sl → Rf) (n : Nat) : Sp:=fun vs H Q E=>vs.length = n ∧ LamX.Tabs T H ∧ ∃ as,ArgsOk K H vs as ∧ (match m as with
  | .ok x outs=>∀ v H',CallTr K T H vs as H' outs → NewIs K H H' v x → Q v H'
  | .exc x outs=>∀ c dx H',CallTr K T H vs as H' outs → XDen K mg H' x c dx → E c dx H'
  | .bad=>False)
section
variable {P : Program} {w : World} {K : KW} {mg : Str → Option Value} {base : Heap}
def paOf (vs : List V) : Nat → Option Addr:=fun i=>match vs[i]? with
  | some (.ref a)=>some a
  | _=>none
theorem start_get {N : List Str} {vs : List V} {i : Nat} {v : V} (h : vs[i]? = some v) : (start N vs)[i]? = some (some v):=by
  unfold start
  have hi : i < vs.length:=(List.getElem?_eq_some_iff.mp h).1
  rw [List.getElem?_append_left (by rw [List.length_map]; exact hi),List.getElem?_map,h]
  rfl
theorem env_get {n : Nat} {as : List Sl} {i : Nat} {a : Sl} (h : (as ++ List.replicate n Sl.u)[i]? = some a) : as[i]? = some a ∨ a = .u:=by
  by_cases hi : i < as.length
  · rw [List.getElem?_append_left hi] at h; exact .inl h
  · rw [List.getElem?_append_right (by omega),List.getElem?_replicate] at h
    split at h
    · cases h; exact .inr rfl
    · cases h
theorem rel_start {N : List Str} {H : Hp} {vs : List V} {as : List Sl} (hN : vs.length ≤ N.length) (A : ArgsOk K H vs as) {T : List (Addr × Str)} (hT : LamX.Tabs T H) : Rel K ⟨paOf vs,T⟩ (start N vs) H (as ++ List.replicate (N.length - as.length) .u):=by
  have vat : ∀ (i : Nat) (a : Sl),as[i]? = some a → ∃ v,vs[i]? = some v:=fun i a h=>by
    have hi : i < as.length:=(List.getElem?_eq_some_iff.mp h).1
    exact ⟨vs[i]'(by rw [A.len]; exact hi),List.getElem?_eq_getElem _⟩
  have tie : ∀ {i : Nat} {b : Addr},OwB (start N vs) H (as ++ List.replicate (N.length - as.length) Sl.u) i b → TieB H vs as i b:=fun {i b} ⟨t,d,a,h1,h2,h3⟩=>by
    rcases env_get h1 with h1 | h1
    · obtain ⟨v,hv⟩:=vat i _ h1
      rw [start_get hv] at h2
      cases h2
      exact ⟨t,d,a,h1,hv,h3⟩
    · cases h1
  refine ⟨fun i d h=>?_,fun i t d h=>?_,fun i j t t' d d' a h1 h2 h3 h4=>?_,?_,fun i p h=>?_,hT,⟨fun i t d h=>?_,fun i j b h1 h2=>A.ab i j b (tie h1) (tie h2)⟩⟩
  rotate_right
  · rcases env_get h with h | h
    · obtain ⟨v,hv⟩:=vat i _ h
      obtain ⟨_,p,rfl,ho⟩:=A.arg i v _ hv h
      exact ⟨p,start_get hv,ho,fun _=>by show paOf vs i = _; unfold paOf; rw [hv]⟩
    · cases h
  rotate_right
  · rcases env_get h with h | h
    · obtain ⟨v,hv⟩:=vat i _ h
      exact (A.arg i v _ hv h).elim
    · cases h
  · rcases env_get h with h | h
    · obtain ⟨v,hv⟩:=vat i _ h
      exact ⟨v,start_get hv,A.arg i v _ hv h⟩
    · cases h
  · rcases env_get h with h | h
    · obtain ⟨v,hv⟩:=vat i _ h
      obtain ⟨_,p,rfl,ho⟩:=A.arg i v _ hv h
      exact ⟨p,start_get hv,ho,fun _=>by show paOf vs i = _; unfold paOf; rw [hv]⟩
    · cases h
  · rcases env_get h1 with h1 | h1
    · rcases env_get h2 with h2 | h2
      · obtain ⟨v,hv⟩:=vat i _ h1
        obtain ⟨v',hv'⟩:=vat j _ h2
        rw [start_get hv] at h3; cases h3
        rw [start_get hv'] at h4; cases h4
        exact A.ap i j t t' d d' a h1 h2 hv hv'
      · cases h2
    · cases h1
  · unfold start
    rw [List.length_append,List.length_map,List.length_replicate,List.length_append,List.length_replicate,A.len]
theorem own_start {N : List Str} {H : Hp} {vs : List V} {as : List Sl} (A : ArgsOk K H vs as) {b : Addr} (h : Own (start N vs) (as ++ List.replicate (N.length - as.length) .u) b) : Tied vs as b:=by
  obtain ⟨i,t,d,h1,h2⟩:=h
  rcases env_get h1 with h1 | h1
  · have hi : i < as.length:=(List.getElem?_eq_some_iff.mp h1).1
    have hv : vs[i]? = some (vs[i]'(by rw [A.len]; exact hi)):=List.getElem?_eq_getElem _
    rw [start_get hv] at h2
    exact ⟨i,t,d,h1,by rw [hv]; exact Option.some.inj h2⟩
  · cases h1
theorem outs_at {H' : Hp} : ∀ {vs : List V} {as : List Sl} {es : Ev},vs.length = as.length → as.length = es.length → (∀ (i : Nat) (t : Bool) (d : D),as[i]? = some (Sl.o t d) → ∃ d' p,es[i]? = some (Sl.o true d') ∧ vs[i]? = some (V.ref p) ∧ OwnAt K H' p d') →
    (∀ (i : Nat) (d : D),es[i]? = some (Sl.o true d) → ∃ t x,as[i]? = some (Sl.o t x)) → (∀ (i : Nat) (t : Bool) (d : D),as[i]? = some (Sl.b t d) → ∃ d' p,es[i]? = some (Sl.b true d') ∧ vs[i]? = some (V.ref p) ∧ BoardAt K H' p d') →
    (∀ (i : Nat) (d : D),es[i]? = some (Sl.b true d) → ∃ t x,as[i]? = some (Sl.b t x)) → OutsAt K H' vs as (outsOf es)
  | [],[],[],_,_,_,_,_,_=>rfl
  | v :: vs,a :: as,e :: es,h1,h2,h3,h4,h5,h6=>by
    have ih:=outs_at (vs:=vs) (as:=as) (es:=es) (by simpa using h1) (by simpa using h2) (fun i t d h=>h3 (i + 1) t d (by simpa using h)) (fun i d h=>by simpa using h4 (i + 1) d (by simpa using h)) (fun i t d h=>h5 (i + 1) t d (by simpa using h)) (fun i d h=>by simpa using h6 (i + 1) d (by simpa using h))
    have no : ∀ {t x},(∀ t y,a ≠ Sl.o t y) → e = Sl.o t x → t = false:=fun {t x} n z=>by
      subst z
      cases t with
      | false=>rfl
      | true=>obtain ⟨t,y,z⟩:=h4 0 x rfl; simp at z; exact (n _ _ z).elim
    have nb : ∀ {t x},(∀ t y,a ≠ Sl.b t y) → e = Sl.b t x → t = false:=fun {t x} n z=>by
      subst z
      cases t with
      | false=>rfl
      | true=>obtain ⟨t,y,z⟩:=h6 0 x rfl; simp at z; exact (n _ _ z).elim
    have go : (∀ t y,a ≠ Sl.o t y) → (∀ t y,a ≠ Sl.b t y) → outsOf (e :: es) = outsOf es:=fun n1 n2=>by
      cases e with
      | o t x=>rw [no n1 rfl]; rfl
      | b t x=>rw [nb n2 rfl]; rfl
      | s x=>rfl
      | u=>rfl
      | x p=>rfl
    cases a with
    | o t d =>
      obtain ⟨d',p,g1,g2,g3⟩:=h3 0 t d rfl
      have g1 : e = Sl.o true d':=by simpa using g1
      have g2 : v = .ref p:=by simpa using g2
      subst g1 g2
      exact ⟨d',outsOf es,rfl,⟨p,rfl,g3⟩,ih⟩
    | b t d =>
      obtain ⟨d',p,g1,g2,g3⟩:=h5 0 t d rfl
      have g1 : e = Sl.b true d':=by simpa using g1
      have g2 : v = .ref p:=by simpa using g2
      subst g1 g2
      exact ⟨d',outsOf es,rfl,⟨p,rfl,g3⟩,ih⟩
    | s d=>rw [go (fun _ _ z=>by cases z) (fun _ _ z=>by cases z)]; exact ih
    | x q=>rw [go (fun _ _ z=>by cases z) (fun _ _ z=>by cases z)]; exact ih
    | u=>rw [go (fun _ _ z=>by cases z) (fun _ _ z=>by cases z)]; exact ih
  | [],a :: as,_,h1,_,_,_,_,_=>by simp at h1
  | v :: vs,[],_,h1,_,_,_,_,_=>by simp at h1
  | [],[],e :: es,_,h2,_,_,_,_=>by simp at h2
  | v :: vs,a :: as,[],_,h2,_,_,_,_=>by simp at h2
theorem call_tr {N : List Str} {H H' : Hp} {vs : List V} {as : List Sl} {σ' : St} {e' : Ev} (A : ArgsOk K H vs as)
    {L : List (Addr × Str)} (T : Tr K ⟨paOf vs,L⟩ (start N vs) H (as ++ List.replicate (N.length - as.length) .u) σ' H' e') : CallTr K L H vs as H' (outsOf (e'.take as.length)):=by
  have ln : as.length ≤ e'.length:=by
    rw [← T.rel.ln,T.ln]
    unfold start
    rw [List.length_append,List.length_map,A.len]
    exact Nat.le_add_right _ _
  have here : ∀ (i : Nat) (a : Sl),as[i]? = some a → (as ++ List.replicate (N.length - as.length) Sl.u)[i]? = some a:=fun i a h=>by
    rw [List.getElem?_append_left (List.getElem?_eq_some_iff.mp h).1]; exact h
  have vat : ∀ (i : Nat) (a : Sl),as[i]? = some a → ∃ v,vs[i]? = some v:=fun i a h=>by
    have hi : i < as.length:=(List.getElem?_eq_some_iff.mp h).1
    exact ⟨vs[i]'(by rw [A.len]; exact hi),List.getElem?_eq_getElem _⟩
  have bat : ∀ (i : Nat) (t : Bool) (d : D),as[i]? = some (Sl.b t d) → ∃ d' a,e'[i]? = some (Sl.b true d') ∧ σ'[i]? = some (some (V.ref a)) ∧ vs[i]? = some (V.ref a) ∧ BoardAt K H' a d':=fun i t d h=>by
    obtain ⟨v,hv⟩:=vat i _ h
    obtain ⟨ht,p,hp,_⟩:=A.arg i _ _ hv h
    subst ht hp
    obtain ⟨d',h'⟩:=(T.bt.td i).mp ⟨d,here i _ h⟩
    obtain ⟨a,g1,g2,g3⟩:=T.rel.bd.bo i true d' h'
    have g3 : paOf vs i = some a:=g3 rfl
    unfold paOf at g3
    rw [hv] at g3
    cases g3
    exact ⟨d',_,h',g1,hv,g2⟩
  have tie : ∀ {i : Nat} {b : Addr},OwB (start N vs) H (as ++ List.replicate (N.length - as.length) Sl.u) i b → TieB H vs as i b:=fun {i b} ⟨t,d,a,h1,h2,h3⟩=>by
    rcases env_get h1 with h1 | h1
    · obtain ⟨v,hv⟩:=vat i _ h1
      rw [start_get hv] at h2
      cases h2
      exact ⟨t,d,a,h1,hv,h3⟩
    · cases h1
  refine ⟨fun b x h n nt=>T.fr b x h (fun q=>n (own_start A q)) nt,T.nn,T.gr,T.rel.tb,outs_at A.len (by rw [List.length_take]; omega) (fun i t d h=>?_) (fun i d h=>?_) (fun i t d h=>?_) (fun i d h=>?_),fun b x h k n=>T.bt.fb b x h k fun i q=>n i (tie q),fun i b ⟨t,d,a,h1,h2,h3⟩=>?_⟩
  rotate_right 3
  · obtain ⟨d',a',g1,g2,g3,g4⟩:=bat i t d h
    exact ⟨d',a',by rw [List.getElem?_take_of_lt (List.getElem?_eq_some_iff.mp h).1]; exact g1,g3,g4⟩
  · have hi : i < as.length:=by
      have q:=(List.getElem?_eq_some_iff.mp h).1
      rw [List.length_take] at q
      omega
    rw [List.getElem?_take_of_lt hi] at h
    obtain ⟨x,h'⟩:=(T.bt.td i).mpr ⟨d,h⟩
    rcases env_get h' with q | q
    · exact ⟨true,x,q⟩
    · cases q
  · obtain ⟨d',a',g1,g2,g3,g4⟩:=bat i t d h1
    rw [h2] at g3
    cases g3
    rcases T.bt.ob i b ⟨true,d',_,g1,g2,h3⟩ with ⟨j,q⟩ | q
    · exact .inl ⟨j,tie q⟩
    · exact .inr q
  · have hi : i < as.length:=(List.getElem?_eq_some_iff.mp h).1
    have hv : vs[i]? = some (vs[i]'(by rw [A.len]; exact hi)):=List.getElem?_eq_getElem _
    obtain ⟨ht,p,hp,_⟩:=A.arg i _ _ hv h
    subst ht
    obtain ⟨d',h'⟩:=(T.td i).mp ⟨d,here i _ h⟩
    obtain ⟨a,g1,g2,g3⟩:=T.rel.ow i true d' h'
    have g3 : paOf vs i = some a:=g3 rfl
    unfold paOf at g3
    rw [hv,hp] at g3
    cases g3
    exact ⟨d',p,by rw [List.getElem?_take_of_lt hi]; exact h',by rw [hv,hp],g2⟩
  · have hi : i < as.length:=by
      have q:=(List.getElem?_eq_some_iff.mp h).1
      rw [List.length_take] at q
      omega
    rw [List.getElem?_take_of_lt hi] at h
    obtain ⟨x,h'⟩:=(T.td i).mpr ⟨d,h⟩
    rcases env_get h' with q | q
    · exact ⟨true,x,q⟩
    · cases q
theorem fn_ok {K : PySem.W.Frag} {x qual : Str} {params : Arguments} {body : List Stmt} {scope : Scope} {dvs : List V} {kws : List (Str × V)} {f : Addr} {fd : FuncData} {N ps : List Str} {k : Nat} {m : M Fl} {T : List (Addr × Str)} (F : FunD K x qual params body scope dvs kws f fd) (S : FnScope N ps scope)
    (hb : ∀ (cdv : Value) (A : Around) (outer : List Env) (s : Shared) (H : Hp) (E : XK) (pa : Nat → Option Addr),Room k (A.deeper (envOfC qual scope s.heap.objs.size f cdv)) →
      EB (cxOf (L2.CX P w) P w K mg base N qual scope f cdv A outer s H E) ⟨pa,T⟩ (fun c d _ H=>E c d H) body m) : FnOk P w K mg base (L2.CX P w) (k + 1) f fd ps (spD ⟨K,P,w⟩ T mg (fnM N.length m) ps.length):=by
  refine F.ok S (fun vs H Q E h=>h.1) fun cdv A outer s H vs Q E hr h=>?_
  obtain ⟨hl,ht,as,ha,h⟩:=h
  have hN : ps.length ≤ N.length:=by have:=congrArg List.length S.pre; rw [List.length_take] at this; omega
  refine ⟨_,hb cdv A outer s H E (paOf vs) hr,as ++ List.replicate (N.length - as.length) Sl.u,rel_start (N:=N) (by omega) ha ht,?_⟩
  unfold fnM at h
  cases hm : m (as ++ List.replicate (N.length - as.length) .u) with
  | bad=>rw [hm] at h; exact h
  | exc x e'=>rw [hm] at h; exact fun c dx σ' H' T1 xd=>h c dx H' (call_tr ha T1) xd
  | ok fl e' =>
    rw [hm] at h
    cases fl with
    | nx=>exact fun σ' H' T1=>h _ H' (call_tr ha T1) .non
    | bk=>exact h.elim
    | ct=>exact h.elim
    | rt y =>
      refine fun v σ' H' T1 hv=>h v H' (call_tr ha T1) ?_
      cases y with
      | s d=>exact hv
      | o d =>
        obtain ⟨a,rfl,h2,h3,h4⟩:=hv
        refine ⟨a,rfl,?_,h2⟩
        rcases h3 with h3 | ⟨j,t,y,g1,g2⟩
        · exact h3
        · exfalso
          rcases env_get g1 with q | q
          · have hj : j < as.length:=(List.getElem?_eq_some_iff.mp q).1
            have hv : vs[j]? = some (vs[j]'(by rw [ha.len]; exact hj)):=List.getElem?_eq_getElem _
            obtain ⟨ht,p,hp,_⟩:=ha.arg j _ _ hv q
            subst ht
            obtain ⟨d',h'⟩:=(T1.td j).mp ⟨y,g1⟩
            obtain ⟨b,k1,k2,k3⟩:=T1.rel.ow j true d' h'
            have k3 : paOf vs j = some b:=k3 rfl
            have g2':=start_get (N:=N) hv
            rw [g2] at g2'
            unfold paOf at k3
            rw [hv] at k3
            have e1 : vs[j]'(by rw [ha.len]; exact hj) = .ref a:=(Option.some.inj (Option.some.inj g2')).symm
            rw [e1] at k3
            cases k3
            exact h4 ⟨j,true,d',h',k1⟩
          · cases q
end
section
variable {X : Cx} {pa : Pa} {W : WX} {k : Nat} {f : Addr} {fd : FuncData} {ps : List Str} {m : List Sl → Rf} {x : Str} {p pos : Pos} {e : Expr} {es : List Expr}
def callD (m : List Sl → Rf) (g : M (List D)) : M Pv:=fun e=>(g e).bind fun ds e1=>match m (ds.map .s) with
  | .ok x _=>.ok x.pv e1
  | .exc x _=>.exc x e1
  | .bad=>.bad
theorem args_data {K : KW} {H : Hp} : ∀ {vs : List V} {ds : List D},DenAll K H vs ds → ∀ (i : Nat) (v : V) (a : Sl),vs[i]? = some v → (ds.map Sl.s)[i]? = some a → ArgOk K H v a
  | _,_,.nil,i,v,a,h,_=>by simp at h
  | _,_,.cons q r,0,v,a,h1,h2=>by
    simp at h1 h2
    subst h1 h2
    exact q
  | _,_,.cons q r,i + 1,v,a,h1,h2=>args_data r i v a (by simpa using h1) (by simpa using h2)
theorem map_s {ds : List D} {i : Nat} {t : Bool} {d : D} (h : (ds.map Sl.s)[i]? = some (Sl.o t d)) : False:=by
  rw [List.getElem?_map] at h
  cases q : ds[i]? with
  | none=>rw [q] at h; cases h
  | some y=>rw [q] at h; cases h
theorem map_sb {ds : List D} {i : Nat} {t : Bool} {d : D} (h : (ds.map Sl.s)[i]? = some (Sl.b t d)) : False:=by
  rw [List.getElem?_map] at h
  cases q : ds[i]? with
  | none=>rw [q] at h; cases h
  | some y=>rw [q] at h; cases h
theorem tieB_data {H : Hp} {vs : List V} {ds : List D} {i : Nat} {b : Addr} (h : TieB H vs (ds.map .s) i b) : False:=let ⟨_,_,_,h1,_⟩:=h; map_sb h1
theorem argsOk_data {K : KW} {H : Hp} {vs : List V} {ds : List D} (h : DenAll K H vs ds) : ArgsOk K H vs (ds.map .s) :=
  ⟨by rw [List.length_map]; exact h.length,args_data h,fun i j t t' d d' a h1 _ _ _=>(map_s h1).elim,fun i j b h _=>(tieB_data h).elim⟩
theorem tied_data {vs : List V} {ds : List D} {b : Addr} (h : Tied vs (ds.map .s) b) : False:=let ⟨_,_,_,h1,_⟩:=h; map_s h1
theorem callTr_keep {K : KW} {σ : St} {H H' : Hp} {en : Ev} (R : Rel K pa σ H en) (g : Grow H H') (hT : LamX.Tabs pa.T H') (fr : ∀ b x,H b = some x → Own σ en b → NT x → H' b = some x) (hk : ∀ b x,H b = some x → BK x → H' b = some x) : Rel K pa σ H' en:=R.keep g hT (hk:=hk) fun b hb=>by
  rcases R.loose hb with ⟨vs,q⟩ | ⟨ks,q⟩ | ⟨φ,q⟩
  · rw [q,fr b _ q hb nt_lst]
  · rw [q,fr b _ q hb nt_dK]
  · rw [q,fr b _ q hb nt_ext]
theorem callTr_tr {K : KW} {σ : St} {H H' : Hp} {en : Ev} {vs : List V} {ds : List D} {outs : List D} (R : Rel K pa σ H en) (c : CallTr K pa.T H vs (ds.map .s) H' outs) : Tr K pa σ H en σ H' en :=
  have hk : ∀ b x,H b = some x → BK x → H' b = some x:=fun b x h k=>c.fb b x h k fun _=>tieB_data
  ⟨callTr_keep R c.gr c.tb (fun b x h _ nt=>c.fr b x h tied_data nt) hk,fun b x h _ nt=>c.fr b x h tied_data nt,c.nn,fun b h=>.inl h,c.gr,fun _=>Iff.rfl,rfl,(BNe.hp hk).tr R.bd⟩
theorem rd_call {g : M (List D)} {σ : St} {H : Hp} {Q : VK} {n : Nat} (hn : ∀ e ds e',g e = .ok ds e' → ds.length = n) (q : tV (gd X pa W) (callD m g) σ H Q) : tDs (gd X pa W) g σ H fun vs H1=>spD X.kw pa.T X.mg m n vs H1 Q (WE W σ):=by
  obtain ⟨en,R,q⟩:=q
  refine ⟨en,R,(Out.bind q).imp fun ds e1 hg k vs H1 T hvs=>?_⟩
  have k:=k H1 T
  refine ⟨by rw [hvs.length]; exact hn _ _ _ hg,T.rel.tb,ds.map .s,argsOk_data hvs,?_⟩
  cases hm : m (ds.map .s) with
  | bad=>rw [hm] at k; exact k
  | exc x outs =>
    rw [hm] at k
    exact fun c dx H' ct xd=>k c dx H' (callTr_tr T.rel ct) xd
  | ok x outs =>
    rw [hm] at k
    refine fun v H' ct nw=>k v H' (T.trans (callTr_tr T.rel ct)) (new_pv T nw)
theorem ev_call {g : M (List D)} (F : FnOk X.prog X.w X.kw X.mg X.base (L2.CX X.prog X.w) k f fd ps (spD X.kw pa.T X.mg m ps.length)) (hr : Room k X.A) (tk : Takes X W) (hg : Gl X x) (hm : X.mg x = some (.ref f)) (hk : PySem.W.keepIn X.kw (.ref f) = true) (hb : Binds X.kw fd ps [])
    (ha : EA X pa W (e :: es) g) (hl : (e :: es).length = ps.length:=by rfl) (hdb : (x == ("__debug__" : Str)) = false:=by decide) (he : starEach (e :: es) X.env = (false,eval e X.env) :: starEach es X.env:=by rfl) (hpl : (backTo pos (starEach es X.env)).any (·.1) = false:=by rfl) :
    EV X pa W (.Call (.Name x p) (e :: es) [] pos) (callD m g) :=
  PE.imp (pe_callS F hr hg hm hk hb (passAt tk) ha.run hdb he hpl) fun σ H Q q=>rd_call (fun e ds e' h=>(ha.len e ds e' h).trans hl) q
theorem pe_callS0 {E : St → XK} {sp : Sp} (F : FnOk X.prog X.w X.kw X.mg X.base (L2.CX X.prog X.w) k f fd ps sp) (hr : Room k X.A) (hg : Gl X x) (hm : X.mg x = some (.ref f)) (hk : PySem.W.keepIn X.kw (.ref f) = true) (hb : Binds X.kw fd ps []) (hx : ∀ σ,PassesAt (L2.CX X.prog X.w) X σ (E σ))
    (hdb : (x == ("__debug__" : Str)) = false:=by decide) : PE X (.Call (.Name x p) [] [] pos) (tCallS sp E tNil):=by
  refine ⟨fun pins s σ H Q I h=>?_⟩
  refine wpAny_Call_Name_kw (ld_glob I hg hm ?_ hdb)
  exact PySem.W.callWith_K0 I.kIn hk (run_fnS (us:=[]) F hr hb (hx σ) I .nil h)
theorem ev_call0 (F : FnOk X.prog X.w X.kw X.mg X.base (L2.CX X.prog X.w) k f fd [] (spD X.kw pa.T X.mg m 0)) (hr : Room k X.A) (tk : Takes X W) (hg : Gl X x) (hm : X.mg x = some (.ref f)) (hk : PySem.W.keepIn X.kw (.ref f) = true) (hb : Binds X.kw fd [] [])
    (hdb : (x == ("__debug__" : Str)) = false:=by decide) : EV X pa W (.Call (.Name x p) [] [] pos) (callD m nilA):=by
  refine PE.imp (pe_callS0 F hr hg hm hk hb (passAt tk) hdb) fun σ H Q q=>?_
  obtain ⟨en,R,q⟩:=rd_call (n:=0) (fun e ds e' h=>by cases h; rfl) q
  exact q [] H (.refl R) .nil
end
end DL
end L2
namespace L2
namespace DL
open PySem PySem.Spec PyProof.Rows
section
variable {K : KW} {pa : Pa} {σ σ0 : St} {H H1 : Hp} {e e1 : Ev} {i : Nat} {v : V} {x : D} {y : Sl} {a : Addr}
theorem set_self {α : Type} {l : List α} {i : Nat} {x : α} (h : i < l.length) : (l.set i x)[i]? = some x:=by rw [List.getElem?_set_self h]
theorem Rel.lt (R : Rel K pa σ H e) (hi : e[i]? = some y) : i < σ.length:=by rw [R.ln]; exact (List.getElem?_eq_some_iff.mp hi).1
theorem own_set {z : Sl} {w : Option V} {b : Addr} (h : Own (σ.set i w) (e.set i z) b) : (∃ t d,z = .o t d ∧ w = some (.ref b)) ∨ Own σ e b:=by
  obtain ⟨j,t,d,h1,h2⟩:=h
  rcases set_get h1 with ⟨q1,g1⟩ | ⟨n,g1⟩
  · rcases set_get h2 with ⟨_,g2⟩ | ⟨n,_⟩
    · exact .inl ⟨t,d,g1.symm,g2.symm⟩
    · exact (n q1).elim
  · rcases set_get h2 with ⟨q,_⟩ | ⟨_,g2⟩
    · exact (n q).elim
    · exact .inr ⟨j,t,d,g1,g2⟩
theorem Tr.put_s (T : Tr K pa σ0 H e σ H1 e1) (hi : e1[i]? = some y) (hy : ∀ {d : D},TiB y d → False) (hd : Den K H1 v x) : Tr K pa σ0 H e (σ.set i (some v)) H1 (e1.set i (.s x)):=by
  have lt:=T.rel.lt hi
  have bn : BNe σ H1 e1 (σ.set i (some v)) H1 (e1.set i (.s x)):=BNe.set hi (fun d z=>hy (d:=d) (.inr z)) (fun _ _ z=>by cases z) (fun j q=>List.getElem?_set_ne (Ne.symm q)) (fun _ _ h _=>h)
  have own : ∀ b,Own (σ.set i (some v)) (e1.set i (.s x)) b → Own σ e1 b:=fun b h=>by
    rcases own_set h with ⟨t,d,z,_⟩ | h
    · cases z
    · exact h
  refine ⟨⟨fun j d h=>?_,fun j t d h=>?_,fun j k t t' d d' b h1 h2 h3 h4=>?_,by rw [List.length_set,List.length_set]; exact T.rel.ln,fun j p h=>?_,T.rel.tb,bn.rel (.refl H1) T.rel.bd⟩,T.fr,T.nn,fun b h=>T.ow b (own b h),T.gr,fun j=>(T.td j).trans (td_set hi hy (fun _ z=>by cases z) j),by rw [List.length_set]; exact T.ln,T.bt.trans T.nn (bn.tr T.rel.bd)⟩
  · rcases set_get h with ⟨rfl,z⟩ | ⟨z,h⟩
    · cases z; exact ⟨v,set_self lt,hd⟩
    · rw [List.getElem?_set_ne (Ne.symm z)]; exact T.rel.sh j d h
  · rcases set_get h with ⟨rfl,z⟩ | ⟨z,h⟩
    · cases z
    · rw [List.getElem?_set_ne (Ne.symm z)]; exact T.rel.ow j t d h
  · rcases set_get h1 with ⟨_,z⟩ | ⟨n1,h1⟩
    · cases z
    · rcases set_get h2 with ⟨_,z⟩ | ⟨n2,h2⟩
      · cases z
      · rw [List.getElem?_set_ne (Ne.symm n1)] at h3
        rw [List.getElem?_set_ne (Ne.symm n2)] at h4
        exact T.rel.ap j k t t' d d' b h1 h2 h3 h4
  · rcases set_get h with ⟨rfl,z⟩ | ⟨z,h⟩
    · cases z
    · rw [List.getElem?_set_ne (Ne.symm z)]; exact T.rel.xc j p h
theorem Tr.put_o (T : Tr K pa σ0 H e σ H1 e1) (hi : e1[i]? = some y) (hy : ∀ {d : D},TiB y d → False) (ho : OwnAt K H1 a x) (hn : H a = none ∨ Own σ0 e a) (na : ¬ Own σ e1 a) : Tr K pa σ0 H e (σ.set i (some (.ref a))) H1 (e1.set i (.o false x)):=by
  have lt:=T.rel.lt hi
  have bn : BNe σ H1 e1 (σ.set i (some (.ref a))) H1 (e1.set i (.o false x)):=BNe.set hi (fun d z=>hy (d:=d) (.inr z)) (fun _ _ z=>by cases z) (fun j q=>List.getElem?_set_ne (Ne.symm q)) (fun _ _ h _=>h)
  refine ⟨⟨fun j d h=>?_,fun j t d h=>?_,fun j k t t' d d' b h1 h2 h3 h4=>?_,by rw [List.length_set,List.length_set]; exact T.rel.ln,fun j p h=>?_,T.rel.tb,bn.rel (.refl H1) T.rel.bd⟩,T.fr,T.nn,fun b h=>?_,T.gr,fun j=>(T.td j).trans (td_set hi hy (fun _ z=>by cases z) j),by rw [List.length_set]; exact T.ln,T.bt.trans T.nn (bn.tr T.rel.bd)⟩
  · rcases set_get h with ⟨_,z⟩ | ⟨z,h⟩
    · cases z
    · rw [List.getElem?_set_ne (Ne.symm z)]; exact T.rel.sh j d h
  · rcases set_get h with ⟨rfl,z⟩ | ⟨z,h⟩
    · cases z; exact ⟨a,set_self lt,ho,fun z=>by cases z⟩
    · rw [List.getElem?_set_ne (Ne.symm z)]; exact T.rel.ow j t d h
  · by_cases q : j = i
    · subst q
      by_cases q2 : k = j
      · exact q2.symm
      · exfalso
        rw [set_self lt] at h3; cases h3
        rcases set_get h2 with ⟨z,_⟩ | ⟨n2,h2⟩
        · exact q2 z
        · rw [List.getElem?_set_ne (Ne.symm n2)] at h4
          exact na ⟨k,t',d',h2,h4⟩
    · by_cases q2 : k = i
      · exfalso
        subst q2
        rw [set_self lt] at h4; cases h4
        rcases set_get h1 with ⟨z,_⟩ | ⟨n2,h1⟩
        · exact q z
        · rw [List.getElem?_set_ne (Ne.symm n2)] at h3
          exact na ⟨j,t,d,h1,h3⟩
      · rw [List.getElem?_set_ne (Ne.symm q)] at h1 h3
        rw [List.getElem?_set_ne (Ne.symm q2)] at h2 h4
        exact T.rel.ap j k t t' d d' b h1 h2 h3 h4
  · rcases set_get h with ⟨rfl,z⟩ | ⟨z,h⟩
    · cases z
    · rw [List.getElem?_set_ne (Ne.symm z)]; exact T.rel.xc j p h
  · rcases own_set h with ⟨t,d,_,z⟩ | h
    · cases z; exact hn.symm
    · exact T.ow b h
end
section
variable {X : Cx} {pa : Pa} {W : WX} {pos : Pos}
def into2 (i : Nat) (p : Pv) (e : Ev) : Rs Fl:=match p with
  | .d x=>.ok .nx (e.set i (.s x))
  | .o x=>.ok .nx (e.set i (.o false x))
  | .r _=>.bad
def into (i : Nat) (p : Pv) (e : Ev) : Rs Fl:=match e[i]? with
  | none=>.bad
  | some (.o true _)=>.bad
  | some (.b true _)=>.bad
  | some _=>into2 i p e
def asg (i : Nat) (f : M Pv) : M Fl:=fun e=>(f e).bind fun p e1=>into i p e1
theorem into_ok {σ : St} {H H1 : Hp} {e e1 : Ev} {i : Nat} {p : Pv} {v : V} {D : Ends} (T : Tr X.kw pa σ H e σ H1 e1) (hv : PvIs X.kw σ H H1 e1 v p) (k : OutS (gd X pa W) σ H e (into i p e1) D) : D.nx (σ.set i (some v)) H1:=by
  unfold into at k
  cases hi : e1[i]? with
  | none=>rw [hi] at k; exact k.elim
  | some sl =>
    have go : (∀ {d : DL.D},TiB sl d → False) → D.nx (σ.set i (some v)) H1:=fun hy=>by
      rw [hi] at k
      have k : OutS (gd X pa W) σ H e (into2 i p e1) D:=by
        cases sl with
        | u=>exact k
        | x p=>exact k
        | b t d=>cases t with
          | true=>exact k.elim
          | false=>exact k
        | s d=>exact k
        | o t d =>
          cases t with
          | true=>exact (hy (.inl rfl)).elim
          | false=>exact k
      cases p with
      | d x=>exact k _ H1 (T.put_s hi hy hv)
      | o x =>
        obtain ⟨a,rfl,h2,h3,h4⟩:=hv
        exact k _ H1 (T.put_o hi hy h3 (.inl h2) h4)
      | r j=>exact k.elim
    cases sl with
    | u=>exact go fun z=>by rcases z with z | z <;> cases z
    | x p=>exact go fun z=>by rcases z with z | z <;> cases z
    | b t d=>cases t with
      | true=>rw [hi] at k; exact k.elim
      | false=>exact go (fun z=>by rcases z with z | z <;> cases z)
    | s d=>exact go fun z=>by rcases z with z | z <;> cases z
    | o t d =>
      cases t with
      | true=>rw [hi] at k; exact k.elim
      | false=>exact go fun z=>by rcases z with z | z <;> cases z
theorem es_asg (i : Nat) {x : Str} {e : Expr} {pos' : Pos} {f : M Pv} (he : EV X pa W e f) (hN : X.N.Nodup) (hi : X.N[i]? = some x:=by rfl) (hx : Loc X.env.scope x:=by first | exact Or.inl rfl | exact Or.inr rfl) (hs : swapsWith e (some (.Name x pos')) pos.line X.env = pure false:=by rfl) (hf : X.fn x = true ∨ X.env.scope.names.lookup x = some .local:=by first | exact .inl rfl | exact .inr rfl) :
    ES X pa W (.Assign [.Name x pos'] e pos) (asg i f) :=
  PS.imp (ps_set hN hi hx he hs hf) fun D σ H ⟨en,R,q⟩=>⟨en,R,outS_of q fun p e1 _ k v H1 T hv=>into_ok (D:=D) T hv k⟩
def tG (G : Gd) (c : Bool) (g : D → M Unit) : TG:=fun v σ H Q=>∃ d e e',DenB c G.K H v d ∧ Rel G.K G.pa σ H e ∧ g d e = .ok () e' ∧ ∀ σ',Tr G.K G.pa σ H e σ' H e' → Q σ' H
def tGs (G : Gd) (g : List D → M Unit) : TGs:=fun vs σ H Q=>∃ ds e e',DenAll G.K H vs ds ∧ Rel G.K G.pa σ H e ∧ g ds e = .ok () e' ∧ ∀ σ',Tr G.K G.pa σ H e σ' H e' → Q σ' H
abbrev EG (X : Cx) (pa : Pa) (W : WX) (c : Bool) (tg : Expr) (g : D → M Unit) : Prop:=PG X tg (tG (gd X pa W) c g)
abbrev EGs (X : Cx) (pa : Pa) (W : WX) (tg : List Expr) (g : List D → M Unit) : Prop:=PGs X tg (tGs (gd X pa W) g)
theorem PG.imp {tg : Expr} {t t' : TG} (h : PG X tg t) (f : ∀ v σ H Q,t' v σ H Q → t v σ H Q) : PG X tg t':=⟨fun pins s σ H v u Q I r q=>h.run pins s σ H v u Q I r (f v σ H Q q)⟩
theorem PGs.imp {tg : List Expr} {t t' : TGs} (h : PGs X tg t) (f : ∀ v σ H Q,t' v σ H Q → t v σ H Q) : PGs X tg t':=⟨fun pins s σ H v u Q I r q=>h.run pins s σ H v u Q I r (f v σ H Q q)⟩
theorem PG.or {tg : Expr} {t t' : TG} (h : PG X tg t) (h' : PG X tg t') : PG X tg (fun v σ H Q=>t v σ H Q ∨ t' v σ H Q):=⟨fun pins s σ H v u Q I r q=>q.elim (h.run pins s σ H v u Q I r) (h'.run pins s σ H v u Q I r)⟩
def tgN (i : Nat) (d : D) : M Unit:=fun e=>match e[i]? with
  | none=>.bad
  | some (.o true _)=>.bad
  | some (.b true _)=>.bad
  | some _=>.ok () (e.set i (.s d))
theorem tgN_ok {σ : St} {H : Hp} {e e' : Ev} {i : Nat} {v : V} {d : D} {K : KW} (R : Rel K pa σ H e) (hd : Den K H v d) (k : tgN i d e = .ok () e') : Tr K pa σ H e (σ.set i (some v)) H e':=by
  unfold tgN at k
  cases hi : e[i]? with
  | none=>rw [hi] at k; cases k
  | some sl =>
    rw [hi] at k
    cases sl with
    | u=>cases k; exact (Tr.refl R).put_s hi (fun z=>by rcases z with z | z <;> cases z) hd
    | b t d=>cases t with
      | true=>cases k
      | false=>cases k; exact (Tr.refl R).put_s hi (fun z=>by rcases z with z | z <;> cases z) hd
    | x p=>cases k; exact (Tr.refl R).put_s hi (fun z=>by rcases z with z | z <;> cases z) hd
    | s d=>cases k; exact (Tr.refl R).put_s hi (fun z=>by rcases z with z | z <;> cases z) hd
    | o t d =>
      cases t with
      | true=>cases k
      | false=>cases k; exact (Tr.refl R).put_s hi (fun z=>by rcases z with z | z <;> cases z) hd
theorem eg_name (i : Nat) {x : Str} (hN : X.N.Nodup) (hi : X.N[i]? = some x:=by rfl) (hx : Loc X.env.scope x:=by first | exact Or.inl rfl | exact Or.inr rfl) (hf : X.fn x = true ∨ X.env.scope.names.lookup x = some .local:=by first | exact .inl rfl | exact .inr rfl) : EG X pa W false (.Name x pos) (tgN i) :=
  PG.imp (pg_name hN hi hx hf) fun v σ H Q ⟨d,e,e',hd,R,k,q⟩=>q _ (tgN_ok R hd.den k)
def nilG (ds : List D) : M Unit:=fun e=>match ds with
  | []=>.ok () e
  | _=>.bad
def consG (g : D → M Unit) (gs : List D → M Unit) (ds : List D) : M Unit:=fun e=>match ds with
  | d :: r=>(g d e).bind fun _ e1=>gs r e1
  | []=>.bad
theorem egs_nil : EGs X pa W [] nilG:=PGs.imp pgs_nil fun vs σ H Q ⟨ds,e,e',hd,R,k,q⟩=>by
  cases hd with
  | nil=>cases k; exact ⟨rfl,q σ (.refl R)⟩
  | cons _ _=>cases k
theorem egs_cons {tg : Expr} {tgs : List Expr} {g : D → M Unit} {gs : List D → M Unit} (h1 : EG X pa W false tg g) (h2 : EGs X pa W tgs gs) (hs : (assignEach (tg :: tgs) X.env).map (·.2) = assign tg X.env :: (assignEach tgs X.env).map (·.2):=by rfl) : EGs X pa W (tg :: tgs) (consG g gs) :=
  PGs.imp (pgs_cons h1 h2 hs) fun vs σ H Q ⟨ds,e,e',hd,R,k,q⟩=>by
    cases hd with
    | nil=>cases k
    | cons h hr =>
      obtain ⟨_,e1,k1,k2⟩:=Rs.bind_ok k
      exact ⟨_,_,rfl,_,e,e1,.inl h,R,k1,fun σ1 T1=>⟨_,e1,e',hr,T1.rel,k2,fun σ2 T2=>q σ2 (T1.trans T2)⟩⟩
theorem gs_len {n : Nat} {gs : List D → M Unit} (h : ∀ ds e e',gs ds e = .ok () e' → ds.length = n) {K : KW} {H : Hp} {vs : List V} {ds : List D} {e e' : Ev} (hv : DenAll K H vs ds) (k : gs ds e = .ok () e') : vs.length = n:=by
  rw [hv.length]; exact h ds e e' k
theorem nilG_len (ds : List D) (e e' : Ev) (k : nilG ds e = .ok () e') : ds.length = 0:=by
  cases ds with
  | nil=>rfl
  | cons _ _=>cases k
theorem consG_len {n : Nat} {g : D → M Unit} {gs : List D → M Unit} (h : ∀ ds e e',gs ds e = .ok () e' → ds.length = n) (ds : List D) (e e' : Ev) (k : consG g gs ds e = .ok () e') : ds.length = n + 1:=by
  cases ds with
  | nil=>cases k
  | cons d r =>
    obtain ⟨_,e1,k1,k2⟩:=Rs.bind_ok k
    rw [List.length_cons,h _ _ _ k2]
def tgT (gs : List D → M Unit) (d : D) : M Unit:=fun e=>match d with
  | .tuple ds=>gs ds e
  | .list ds=>gs ds e
  | _=>.bad
theorem eg_tup {c : Bool} {es : List Expr} {k : Nat} {n : Nat} {gs : List D → M Unit} (hc : X.calm = true) (h : EGs X pa W es gs) (hl : ∀ ds e e',gs ds e = .ok () e' → ds.length = n)
    (hn : (assignEach es X.env).length = n:=by rfl) (hst : (assignEach es X.env).findIdx? (·.1) = none:=by rfl) : EG X pa W c (.Tuple es k pos) (tgT gs) :=
  PG.imp (PG.or (pg_tup hc h hn hst) (pg_unl hc h hn hst)) fun v σ H Q ⟨d,e,e',hd,R,k,q⟩=>by
    rcases hd with hd | ⟨_,a,xs,ds,rfl,h1,rfl,h2⟩
    rotate_left
    · exact .inl ⟨_,_,rfl,h1,gs_len hl h2 k,_,e,e',h2,R,k,q⟩
    cases hd with
    | tup h1 h2=>exact .inl ⟨_,_,rfl,h1.sq,gs_len hl h2 k,_,e,e',h2,R,k,q⟩
    | lst h1 h2=>exact .inr ⟨_,_,rfl,h1.sq,gs_len hl h2 k,_,e,e',h2,R,k,q⟩
    | non=>cases k
    | bl b=>cases k
    | int i=>cases k
    | str x=>cases k
    | dct _ _=>cases k
    | dcn _ _ _=>cases k
def asgT (f : M D) (g : D → M Unit) : M Fl:=fun e=>(f e).bind fun d e1=>(g d e1).bind fun _ e2=>.ok .nx e2
def tgOk (g : D → M Unit) : Prop:=∀ d e,(∃ e',g d e = .ok () e') ∨ g d e = .bad
theorem es_asgT {tg e : Expr} {f : M D} {g : D → M Unit} (he : ED X pa W e f) (hg : EG X pa W false tg g) (ho : tgOk g) (hs : swapsWithSole [tg] e pos.line X.env = pure false:=by rfl) (hw : swappedStores [tg] e X.env = pure none:=by rfl)
    (h1 : (assignEach [tg] X.env).map (·.2) = [assign tg X.env]:=by rfl) : ES X pa W (.Assign [tg] e pos) (asgT f g) :=
  PS.imp (ps_asg he hg hs hw h1) fun D σ H ⟨en,R,q⟩=>⟨en,R,outS_of q fun d e1 _ k v H1 T hv=>by
    rcases ho d e1 with ⟨e',z⟩ | z
    · rw [z] at k
      exact ⟨d,e1,e',.inl hv,T.rel,z,fun σ' T'=>k σ' H1 (T.trans T')⟩
    · rw [z] at k; exact k.elim⟩
theorem tgN_tgOk (i : Nat) : tgOk (tgN i):=fun d e=>by
  unfold tgN
  cases e[i]? with
  | none=>exact .inr rfl
  | some sl =>
    cases sl with
    | u=>exact .inl ⟨_,rfl⟩
    | x p=>exact .inl ⟨_,rfl⟩
    | b t d=>cases t with
      | true=>exact .inr rfl
      | false=>exact .inl ⟨_,rfl⟩
    | s d=>exact .inl ⟨_,rfl⟩
    | o t d=>cases t with
      | true=>exact .inr rfl
      | false=>exact .inl ⟨_,rfl⟩
def tgsOk (g : List D → M Unit) : Prop:=∀ d e,(∃ e',g d e = .ok () e') ∨ g d e = .bad
theorem nilG_ok : tgsOk nilG:=fun d e=>by
  cases d with
  | nil=>exact .inl ⟨_,rfl⟩
  | cons _ _=>exact .inr rfl
theorem consG_ok {g : D → M Unit} {gs : List D → M Unit} (h1 : tgOk g) (h2 : tgsOk gs) : tgsOk (consG g gs):=fun ds e=>by
  cases ds with
  | nil=>exact .inr rfl
  | cons d r =>
    dsimp only [consG]
    rcases h1 d e with ⟨e',z⟩ | z
    · rw [z]; exact h2 r e'
    · rw [z]; exact .inr rfl
theorem tgT_ok {gs : List D → M Unit} (h : tgsOk gs) : tgOk (tgT gs):=fun d e=>by
  cases d with
  | tuple ds=>exact h ds e
  | list ds=>exact h ds e
  | none=>exact .inr rfl
  | bool _=>exact .inr rfl
  | int _=>exact .inr rfl
  | str _=>exact .inr rfl
  | dict _=>exact .inr rfl
end
structure WalkD (c : Bool) (K : KW) (J : It) (ds : List D) (H0 : Hp) : Prop where
  ex : ∃ G Y,Walk J ds.length G Y ∧ (∀ H,Grow H0 H → G H) ∧ ∀ i H x H',Grow H0 H → Y i H x H' → Same H H' ∧ ∃ d,ds[i]? = some d ∧ DenB c K H' x d
  le : ds.length ≤ sizeLine
def tI (G : Gd) (c : Bool) (f : M (List D)) : TI:=fun σ H R=>∃ e,Rel G.K G.pa σ H e ∧ Out G σ H e (f e) fun ds e'=>∀ J H',Tr G.K G.pa σ H e σ H' e' → WalkD c G.K J ds H' → R J H'
section
variable {X : Cx} {pa : Pa} {W : WX} {pos : Pos}
abbrev EI (X : Cx) (pa : Pa) (W : WX) (c : Bool) (tg it : Expr) (f : M (List D)) : Prop:=PI X tg it (tI (gd X pa W) c f)
theorem PI.imp {tg it : Expr} {t t' : TI} (h : PI X tg it t) (f : ∀ σ H R,t' σ H R → t σ H R) : PI X tg it t':=⟨fun pins s σ H R I q=>h.run pins s σ H R I (f σ H R q)⟩
theorem PI.or {tg it : Expr} {t t' : TI} (h : PI X tg it t) (h' : PI X tg it t') : PI X tg it (fun σ H R=>t σ H R ∨ t' σ H R):=⟨fun pins s σ H R I q=>q.elim (h.run pins s σ H R I) (h'.run pins s σ H R I)⟩
structure Sized (K : KW) (H : Hp) : Prop where
  l : ∀ a xs,SqL K H a xs → xs.length ≤ sizeLine
  t : ∀ a xs,SqT K H a xs → xs.length ≤ sizeLine
  d : ∀ a ks,Rd H a (.dK ks) → ks.length ≤ sizeLine
theorem Inv.sized {pins : List (Addr × Obj)} {σ : St} {H : Hp} {s : Shared} (I : Inv X pins σ H s) : Sized X.kw H :=
  ⟨fun a xs h=>(I.list h).elim fun _ z=>z.2.2,fun a xs h=>(I.tuple h).elim fun _ z=>z.2.2,fun a ks h=>(h.ok I.hok).1⟩
theorem PI.sized {tg it : Expr} {t : TI} (h : PI X tg it t) : PI X tg it (fun σ H R=>t σ H fun J H1=>Sized X.kw H1 → R J H1):=by
  refine ⟨fun pins s σ H R I q=>?_⟩
  refine thn (h.run pins s σ H _ I q) fun v s1 h1=>thn h1 fun itv s2 h2=>?_
  obtain ⟨it',fp,tn,J,H2,e,I2,T,st2,f2,r⟩:=h2
  exact ⟨it',fp,tn,J,H2,e,I2,T,st2,f2,r (Inv.sized I2)⟩
theorem PE.sized {e : Expr} {t : TE} (h : PE X e t) : PE X e (fun σ H Q=>t σ H fun v H1=>Sized X.kw H1 → Q v H1):=by
  refine ⟨fun pins s σ H Q I q=>?_⟩
  refine thn (h.run pins s σ H _ I q) fun v s1 ⟨x,H1,I1,r1,q1⟩=>⟨x,H1,I1,r1,q1 (Inv.sized I1)⟩
theorem all_get {K : KW} {H : Hp} : ∀ {vs : List V} {ds : List D} {i : Nat} {v : V},DenAll K H vs ds → vs[i]? = some v → ∃ d,ds[i]? = some d ∧ Den K H v d
  | _,_,_,_,.nil,h=>by simp at h
  | _,_,0,_,.cons q _,h=>by simp at h; subst h; exact ⟨_,rfl,q⟩
  | _,_,i + 1,_,.cons _ r,h=>by
    obtain ⟨d,h1,h2⟩:=all_get (i:=i) r (by simpa using h)
    exact ⟨d,by simpa using h1,h2⟩
theorem walkD_list {K : KW} {H : Hp} {a : Addr} {xs : List V} {ds : List D} (h : FzL K H a xs) (r : DenAll K H xs ds) (z : Sized K H) : WalkD false K (Itl K a) ds H:=by
  refine ⟨⟨fun H'=>SqL K H' a xs,YAt xs,by rw [← r.length]; exact walk_list,fun H' g=>(h.mono g).sq,fun i H1 x H' g y=>?_⟩,by rw [← r.length]; exact z.l a xs h.sq⟩
  obtain ⟨rfl,y⟩:=y
  obtain ⟨d,h1,h2⟩:=all_get r y
  exact ⟨Same.refl _,d,h1,.inl (h2.mono g)⟩
theorem walkD_tup {K : KW} {H : Hp} {a : Addr} {xs : List V} {ds : List D} (h : FzT K H a xs) (r : DenAll K H xs ds) (z : Sized K H) : WalkD false K (Itt K a) ds H:=by
  refine ⟨⟨fun H'=>SqT K H' a xs,YAt xs,by rw [← r.length]; exact walk_tup,fun H' g=>(h.mono g).sq,fun i H1 x H' g y=>?_⟩,by rw [← r.length]; exact z.t a xs h.sq⟩
  obtain ⟨rfl,y⟩:=y
  obtain ⟨d,h1,h2⟩:=all_get r y
  exact ⟨Same.refl _,d,h1,.inl (h2.mono g)⟩
theorem walkD_str {K : KW} {H : Hp} {x : Str} (hz : x.cps.size ≤ sizeLine) : WalkD false K (Its x) (signs x) H:=by
  have hl : (signs x).length = x.cps.size:=by unfold signs; rw [List.length_map,Array.length_toList]
  refine ⟨⟨fun _=>True,_,by rw [hl]; exact walk_str,fun _ _=>trivial,fun i H1 v H' g y=>?_⟩,by rw [hl]; exact hz⟩
  obtain ⟨rfl,c,h1,rfl⟩:=y
  exact ⟨Same.refl _,_,by unfold signs; rw [List.getElem?_map,Array.getElem?_toList,h1]; rfl,.inl (.str _)⟩
theorem kv_get {K : KW} {H : Hp} : ∀ {ks : List (Key × V)} {kvs : List (D × D)} {i : Nat} {k : Key} {v : V},DenKV K H ks kvs → ks[i]? = some (k,v) → ∃ d,kvs[i]? = some (kD k,d) ∧ Den K H v d
  | _,_,_,_,_,.nil,h=>by simp at h
  | _,_,0,_,_,.cons q _,h=>by simp at h; obtain ⟨rfl,rfl⟩:=h; exact ⟨_,rfl,q⟩
  | _,_,i + 1,_,_,.cons _ r,h=>by
    obtain ⟨d,h1,h2⟩:=kv_get (i:=i) r (by simpa using h)
    exact ⟨d,by simpa using h1,h2⟩
theorem den_key {K : KW} {H : Hp} (k : Key) : Den K H (kV k) (kD k):=by
  cases k with
  | inl i=>exact .int i
  | inr x=>exact .str x
theorem walkD_keys {K : KW} {H : Hp} {a : Addr} {o : Obj} {ks : List (Key × V)} {kvs : List (D × D)} (h : H a = some (.frz o (.dK ks))) (r : DenKV K H ks kvs) (z : Sized K H) : WalkD false K (Itk a o ks) (kvs.map (·.1)) H:=by
  have hl : (kvs.map (·.1)).length = ks.length:=by rw [List.length_map,r.length]
  refine ⟨⟨_,_,by rw [hl]; exact walk_keys,fun H' g=>g.fz _ _ _ h,fun i H1 v H' g y=>?_⟩,by rw [hl]; exact z.d a ks (.inr ⟨o,h⟩)⟩
  obtain ⟨rfl,k,w,h1,rfl⟩:=y
  obtain ⟨d,h2,h3⟩:=kv_get r h1
  exact ⟨Same.refl _,kD k,by rw [List.getElem?_map,h2]; rfl,.inl (den_key k)⟩
def itM (f : M D) : M (List D):=fun e=>(f e).bind fun d e1=>match items d with
  | some ds=>.ok ds e1
  | none=>.bad
theorem ei_any {tg it : Expr} {f : M D} (h : ED X pa W it f) : EI X pa W false tg it (itM f):=by
  refine PI.imp (PI.or (PI.sized (pi_list h)) (PI.or (PI.sized (pi_tup h)) (PI.or (PI.sized (pi_str h)) (PI.sized (pi_keys h))))) fun σ H R ⟨en,Re,q⟩=>?_
  unfold itM at q
  have q:=Out.bind q
  cases hf : f en with
  | bad=>rw [hf] at q; exact q.elim
  | exc x e1=>rw [hf] at q; exact .inl ⟨en,Re,by rw [hf]; exact q⟩
  | ok d e1 =>
    rw [hf] at q
    cases d with
    | list ds =>
      refine .inl ⟨en,Re,Out.of hf fun v H1 T hv=>?_⟩
      cases hv with
      | lst h1 h2=>exact ⟨_,rfl,⟨_,h1.sq⟩,fun z=>q H1 T _ H1 T (walkD_list h1 h2 z)⟩
    | tuple ds =>
      refine .inr (.inl ⟨en,Re,Out.of hf fun v H1 T hv=>?_⟩)
      cases hv with
      | tup h1 h2=>exact ⟨_,rfl,⟨_,h1.sq⟩,fun z=>q H1 T _ H1 T (walkD_tup h1 h2 z)⟩
    | str x =>
      refine .inr (.inr (.inl ⟨en,Re,Out.of hf fun v H1 T hv=>?_⟩))
      cases hv with
      | str _ =>
        have q:=q H1 T
        dsimp only [items] at q
        split at q
        · next z =>
          split at z
          · cases z; exact ⟨x,rfl,fun _=>q _ H1 T (walkD_str (by assumption))⟩
          · cases z
        · exact q.elim
    | dict kvs =>
      have ei : items (.dict kvs) = if nkv kvs = true then none else some (kvs.map (·.1)):=rfl
      cases n : nkv kvs with
      | true =>
        rw [n,if_pos rfl] at ei
        exact .inl ⟨en,Re,Out.of hf fun v H1 T hv=>by
          have q:=q H1 T
          rw [ei] at q
          exact q.elim⟩
      | false =>
        rw [n,if_neg Bool.false_ne_true] at ei
        refine .inr (.inr (.inr ⟨en,Re,Out.of hf fun v H1 T hv=>?_⟩))
        have q:=q H1 T
        rw [ei] at q
        cases hv with
        | dct h1 h2=>exact ⟨_,_,rfl,.inl ⟨_,h1,fun z=>q _ H1 T (walkD_keys h1 h2 z)⟩⟩
        | dcn _ _ n'=>rw [n] at n'; cases n'
    | none=>exact .inl ⟨en,Re,Out.of hf fun v H1 T hv=>(q H1 T).elim⟩
    | bool _=>exact .inl ⟨en,Re,Out.of hf fun v H1 T hv=>(q H1 T).elim⟩
    | int _=>exact .inl ⟨en,Re,Out.of hf fun v H1 T hv=>(q H1 T).elim⟩
def forL (tg : D → M Unit) (b : M Fl) : List D → M Fl
  | []=>fun e=>.ok .nx e
  | d :: ds=>fun e=>(tg d e).bind fun _ e1=>match b e1 with
    | .ok .nx e2=>forL tg b ds e2
    | .ok .ct e2=>forL tg b ds e2
    | .ok .bk e2=>.ok .nx e2
    | r=>r
def forM (it : M (List D)) (tg : D → M Unit) (b : M Fl) : M Fl:=fun e=>(it e).bind fun ds e1=>forL tg b ds e1
theorem es_for {c : Bool} {tg iter : Expr} {body : List Stmt} {it : M (List D)} {g : D → M Unit} {b : M Fl} (hp : PassesOwn (model X.prog X.w) X.A X.env X.xe) (hc : X.calm = true) (hi : EI X pa W c tg iter it) (hg : EG X pa W c tg g) (ho : tgOk g) (hb : EB X pa W body b)
    (hs : ∀ x,foldedSetIterable iter X.env x = pure x:=by intro _; rfl) : ES X pa W (.For tg iter body [] pos) (forM it g b):=by
  refine PS.imp (ps_for hp hc hi hg hb hs) fun D σ H ⟨en,R,q⟩=>⟨en,R,outS_of q fun ds e1 _ k J H1 T ⟨⟨G,Y,w,hG,hY⟩,le⟩=>?_⟩
  refine for_it w (fun i σ' H'=>∃ e',Tr X.kw pa σ H en σ' H' e' ∧ Grow H1 H' ∧ OutS (gd X pa W) σ H en (forL g b (ds.drop i) e') D) ⟨e1,T,.refl H1,k⟩ (fun i σ' H' _ ⟨_,_,gr,_⟩=>hG H' gr) (fun i x σ' H' H2 hi ⟨e',T',gr,q'⟩ y=>?_) fun σ' H' ⟨e',T',_,q'⟩=>?_
  · obtain ⟨sm,d,hd,hx⟩:=hY i H' x H2 gr y
    have e0 : ds.drop i = d :: ds.drop (i + 1):=by
      have hlt : i < ds.length:=hi
      rw [List.drop_eq_getElem_cons hlt]
      congr 1
      rw [List.getElem?_eq_getElem hlt] at hd
      exact Option.some.inj hd
    rw [e0] at q'
    have T2:=T'.then sm
    rcases ho d e' with ⟨e2,z⟩ | z
    · refine ⟨d,e',e2,hx,T2.rel,z,fun σ3 T3=>⟨e2,T3.rel,?_⟩⟩
      unfold forL at q'
      rw [z] at q'
      have T4:=T2.trans T3
      have gr4 : Grow H1 H2:=gr.trans (gsame sm)
      dsimp only [Rs.bind] at q'
      cases hb : b e2 with
      | bad=>rw [hb] at q'; exact q'
      | exc x e3=>rw [hb] at q'; exact OutS.back (G:=gd X pa W) T4 q'
      | ok fl e3 =>
        rw [hb] at q'
        cases fl with
        | nx=>exact fun σ5 H5 T5=>⟨e3,T4.trans T5,gr4.trans T5.gr,q'⟩
        | ct=>exact fun σ5 H5 T5=>⟨e3,T4.trans T5,gr4.trans T5.gr,q'⟩
        | bk=>exact fun σ5 H5 T5=>q' σ5 H5 (T4.trans T5)
        | rt x=>exact OutS.back (G:=gd X pa W) T4 q'
    · unfold forL at q'
      rw [z] at q'
      exact q'.elim
  · rw [List.drop_length] at q'
    exact q' σ' H' T'
def whileL (c : M Bool) (b : M Fl) : Nat → M Fl
  | 0=>fun _=>.bad
  | n + 1=>fun e=>(c e).bind fun t e1=>match t with
    | false=>.ok .nx e1
    | true=>(match b e1 with
      | .ok .nx e2=>whileL c b n e2
      | .ok .ct e2=>whileL c b n e2
      | .ok .bk e2=>.ok .nx e2
      | r=>r)
theorem es_while (n : Nat) {c : Expr} {body : List Stmt} {s : M Bool} {b : M Fl} (hp : PassesOwn (model X.prog X.w) X.A X.env X.xe) (hc : ET X pa W c s) (hb : EB X pa W body b) : ES X pa W (.While c body [] pos) (whileL s b n):=by
  refine PS.imp (ps_while hp hc hb) fun D σ H ⟨en,R,q⟩=>?_
  refine ⟨fun m σ' H'=>∃ e',Tr X.kw pa σ H en σ' H' e' ∧ OutS (gd X pa W) σ H en (whileL s b m e') D,⟨n,en,.refl R,q⟩,fun m σ' H' ⟨e',T',q'⟩=>?_⟩
  cases m with
  | zero=>exact q'.elim
  | succ m =>
    refine ⟨e',T'.rel,outS_of (OutS.back (G:=gd X pa W) T' q') fun t e1 he k H1 T1=>?_⟩
    cases t with
    | false=>exact k σ' H1 T1
    | true =>
      have k:=OutS.back (G:=gd X pa W) T1 k
      refine iteT ⟨fun σ2 H2=>∃ e2,Tr X.kw pa σ H en σ2 H2 e2 ∧ OutS (gd X pa W) σ H en (whileL s b m e2) D,fun σ2 H2 z=>⟨m,Nat.lt_succ_self _,z⟩,e1,T1.rel,?_⟩
      have q2 : OutS (gd X pa W) σ H en (match b e1 with
        | .ok .nx e2=>whileL s b m e2
        | .ok .ct e2=>whileL s b m e2
        | .ok .bk e2=>.ok .nx e2
        | r=>r) D:=by
        unfold whileL at q'
        rw [he] at q'
        exact q'
      have T2:=T'.trans T1
      cases hb : b e1 with
      | bad=>rw [hb] at q2; exact q2
      | exc x e3=>rw [hb] at q2; exact OutS.back (G:=gd X pa W) T2 q2
      | ok fl e3 =>
        rw [hb] at q2
        cases fl with
        | nx=>exact fun σ5 H5 T5=>⟨e3,T2.trans T5,q2⟩
        | ct=>exact fun σ5 H5 T5=>⟨e3,T2.trans T5,q2⟩
        | bk=>exact fun σ5 H5 T5=>q2 σ5 H5 (T2.trans T5)
        | rt x=>exact OutS.back (G:=gd X pa W) T2 q2
end
end DL
end L2
namespace L2
namespace DL
open PySem PySem.Spec PyProof.Rows
def wipeE (e : Ev) : List Nat → Ev
  | []=>e
  | i :: r=>(wipeE e r).set i .u
def backE (e0 e : Ev) : List Nat → Ev
  | []=>e
  | i :: r=>(match e0[i]? with
    | some s=>(backE e0 e r).set i s
    | none=>backE e0 e r)
theorem wipeE_len (e : Ev) : ∀ vs,(wipeE e vs).length = e.length
  | []=>rfl
  | i :: r=>by show ((wipeE e r).set i .u).length = _; rw [List.length_set,wipeE_len e r]
theorem wipeE_get {e : Ev} {i : Nat} {s : Sl} : ∀ {vs : List Nat},(wipeE e vs)[i]? = some s → (i ∈ vs ∧ s = .u) ∨ (i ∉ vs ∧ e[i]? = some s)
  | [],h=>.inr ⟨by simp,h⟩
  | v :: vs,h=>by
    rcases set_get (show ((wipeE e vs).set v .u)[i]? = some s from h) with ⟨q,z⟩ | ⟨n,z⟩
    · exact .inl ⟨by simp [q],z⟩
    · rcases wipeE_get z with ⟨q,w⟩ | ⟨q,w⟩
      · exact .inl ⟨by simp [q],w⟩
      · exact .inr ⟨by simp [n,q],w⟩
theorem wipeE_out {e : Ev} {i : Nat} : ∀ {vs : List Nat},i ∉ vs → (wipeE e vs)[i]? = e[i]?
  | [],_=>rfl
  | v :: vs,h=>by
    have h1 : i ≠ v:=fun z=>h (by simp [z])
    have h2 : i ∉ vs:=fun z=>h (by simp [z])
    show ((wipeE e vs).set v .u)[i]? = _
    rw [List.getElem?_set_ne (Ne.symm h1),wipeE_out h2]
theorem backE_len (e0 e : Ev) : ∀ vs,(backE e0 e vs).length = e.length
  | []=>rfl
  | i :: r=>by
    unfold backE
    split
    · rw [List.length_set,backE_len e0 e r]
    · exact backE_len e0 e r
theorem backE_out {e0 e : Ev} {i : Nat} : ∀ {vs : List Nat},i ∉ vs → (backE e0 e vs)[i]? = e[i]?
  | [],_=>rfl
  | v :: vs,h=>by
    have h1 : i ≠ v:=fun z=>h (by simp [z])
    have h2 : i ∉ vs:=fun z=>h (by simp [z])
    unfold backE
    split
    · rw [List.getElem?_set_ne (Ne.symm h1),backE_out h2]
    · exact backE_out h2
theorem backE_in {e0 e : Ev} {i : Nat} {s : Sl} (hl : e0.length = e.length) (hs : e0[i]? = some s) : ∀ {vs : List Nat},i ∈ vs → (backE e0 e vs)[i]? = some s
  | v :: vs,h=>by
    unfold backE
    by_cases q : i = v
    · subst q
      rw [hs]
      dsimp only
      exact List.getElem?_set_self (by rw [backE_len,← hl]; exact (List.getElem?_eq_some_iff.mp hs).1)
    · have h2 : i ∈ vs:=by
        rcases List.mem_cons.mp h with z | z
        · exact (q z).elim
        · exact z
      split
      · rw [List.getElem?_set_ne (Ne.symm q),backE_in hl hs h2]
      · exact backE_in hl hs h2
theorem wipe_get {σ : St} {i : Nat} : ∀ {vs : List Nat},i ∉ vs → (wipe σ vs)[i]? = σ[i]?:=fun {vs} h=>wipe_out h
theorem wipe_set {σ : St} {v : Nat} {x : Option V} : ∀ {vs : List Nat},v ∈ vs → wipe (σ.set v x) vs = wipe σ vs
  | w :: vs,h=>by
    show (wipe (σ.set v x) vs).set w none = (wipe σ vs).set w none
    by_cases q : v ∈ vs
    · rw [wipe_set q]
    · have e : v = w:=by
        rcases List.mem_cons.mp h with z | z
        · exact z
        · exact (q z).elim
      subst e
      have : ∀ (ws : List Nat),v ∉ ws → wipe (σ.set v x) ws = (wipe σ ws).set v x:=by
        intro ws
        induction ws with
        | nil=>intro _; rfl
        | cons w ws ih =>
          intro hw
          have h1 : v ≠ w:=fun z=>hw (by simp [z])
          have h2 : v ∉ ws:=fun z=>hw (by simp [z])
          show (wipe (σ.set v x) ws).set w none = ((wipe σ ws).set w none).set v x
          rw [ih h2,List.set_comm _ _ h1]
      rw [this vs q,List.set_set]
theorem wipe_wipe {σ : St} : ∀ {vs : List Nat},wipe (wipe σ vs) vs = wipe σ vs:=fun {vs}=>by
  have : ∀ ws : List Nat,(∀ v ∈ ws,v ∈ vs) → wipe (wipe σ ws) vs = wipe σ vs:=by
    intro ws
    induction ws with
    | nil=>intro _; rfl
    | cons w ws ih =>
      intro h
      show wipe ((wipe σ ws).set w none) vs = _
      rw [wipe_set (h w (by simp)),ih fun v hv=>h v (by simp [hv])]
  exact this vs fun _ h=>h
section
variable {K : KW} {pa : Pa} {σ σ1 σ2 : St} {H H1 H2 : Hp} {e e1 e2 : Ev}
theorem Rel.wipe (R : Rel K pa σ H e) (vs : List Nat) : Rel K pa (wipe σ vs) H (wipeE e vs):=by
  refine ⟨fun i d h=>?_,fun i t d h=>?_,fun i j t t' d d' a h1 h2 h3 h4=>?_,by rw [wipe_length,wipeE_len]; exact R.ln,fun i p h=>?_,R.tb,R.bd.to (.refl H) (fun i t d h=>?_) (fun _ _ h _=>h)⟩
  rotate_right
  · rcases wipeE_get h with ⟨_,z⟩ | ⟨n,h⟩
    · cases z
    · exact ⟨h,wipe_get n⟩
  rotate_right
  · rcases wipeE_get h with ⟨_,z⟩ | ⟨n,h⟩
    · cases z
    · rw [wipe_get n]; exact R.xc i p h
  · rcases wipeE_get h with ⟨_,z⟩ | ⟨n,h⟩
    · cases z
    · rw [wipe_get n]; exact R.sh i d h
  · rcases wipeE_get h with ⟨_,z⟩ | ⟨n,h⟩
    · cases z
    · rw [wipe_get n]; exact R.ow i t d h
  · rcases wipeE_get h1 with ⟨_,z⟩ | ⟨n1,h1⟩
    · cases z
    · rcases wipeE_get h2 with ⟨_,z⟩ | ⟨n2,h2⟩
      · cases z
      · rw [wipe_get n1] at h3
        rw [wipe_get n2] at h4
        exact R.ap i j t t' d d' a h1 h2 h3 h4
theorem own_wipe {vs : List Nat} {b : Addr} (h : Own (wipe σ vs) (wipeE e vs) b) : Own σ e b ∧ ∃ (j : Nat) (t : Bool) (d : D),j ∉ vs ∧ e[j]? = some (Sl.o t d) ∧ σ[j]? = some (some (V.ref b)):=by
  obtain ⟨j,t,d,h1,h2⟩:=h
  rcases wipeE_get h1 with ⟨_,z⟩ | ⟨n,h1⟩
  · cases z
  · rw [wipe_get n] at h2
    exact ⟨⟨j,t,d,h1,h2⟩,j,t,d,n,h1,h2⟩
theorem owb_wipe {vs : List Nat} {i : Nat} {b : Addr} (h : OwB (wipe σ vs) H (wipeE e vs) i b) : i ∉ vs ∧ OwB σ H e i b:=by
  obtain ⟨t,d,a,h1,h2,h3⟩:=h
  rcases wipeE_get h1 with ⟨_,z⟩ | ⟨n,h1⟩
  · cases z
  · rw [wipe_get n] at h2
    exact ⟨n,t,d,a,h1,h2,h3⟩
def er (H : Hp) (D : Addr) : Hp:=fun b=>if b = D then none else H b
theorem er_ne {H : Hp} {D b : Addr} (h : b ≠ D) : er H D b = H b:=by unfold er; rw [if_neg h]
theorem er_same {H : Hp} {D : Addr} : er H D D = none:=by unfold er; rw [if_pos rfl]
theorem er_grow {H : Hp} {D : Addr} (h : Loose H D) : Grow H (er H D) :=
  .of (fun b u q st=>by rw [er_ne (fun z=>by subst z; exact h.nst q st)]; exact q) fun b ps q=>by rw [er_ne (fun z=>by subst z; exact h.ntb q)]; exact q
theorem grow_er {H : Hp} {D : Addr} : Grow (er H D) H :=
  .of (fun b u q _=>by rw [er_ne (fun z=>by subst z; rw [er_same] at q; cases q)] at q; exact q) fun b ps q=>by rw [er_ne (fun z=>by subst z; rw [er_same] at q; cases q)] at q; exact q
theorem ter {T : List (Addr × Str)} {H : Hp} {D : Addr} (h : Loose H D) (t : LamX.Tabs T H) : LamX.Tabs T (er H D):=tabs_of (fun b u q st=>by rw [er_ne (fun z=>by subst z; exact h.nst q st)]; exact q) (fun b ps q=>by rw [er_ne (fun z=>by subst z; exact h.ntb q)]; exact q) t
theorem tof_er {T : List (Addr × Str)} {H : Hp} {D : Addr} (t : LamX.Tabs T (er H D)) : LamX.Tabs T H :=
  tabs_of (fun b u q _=>by rw [er_ne (fun z=>by subst z; rw [er_same] at q; cases q)] at q; exact q) (fun b ps q=>by rw [er_ne (fun z=>by subst z; rw [er_same] at q; cases q)] at q; exact q) t
theorem hk_er {D : Addr} (hD : Loose H D) : ∀ b x,H b = some x → BK x → er H D b = some x:=fun b x h k=>by
  rw [er_ne]
  · exact h
  · rintro rfl
    rcases hD with ⟨_,q⟩ | ⟨_,q⟩ | ⟨_,q⟩
    · rw [h] at q; cases q; exact nbk_lst k
    · rw [h] at q; cases q; exact nbk_dK k
    · rw [h] at q; cases q; exact nbk_mx k
theorem of_er {D : Addr} {b : Addr} {x : HO} (h : er H D b = some x) : H b = some x:=by
  rw [er_ne (fun z=>by subst z; rw [er_same] at h; cases h)] at h
  exact h
theorem lof_er {D a l : Addr} (hD : Loose H D) : LOf (er H D) a l ↔ LOf H a l :=
  ⟨fun ⟨C,dx,fs,h1,h2⟩=>⟨C,dx,fs,of_er h1,h2⟩,fun ⟨C,dx,fs,h1,h2⟩=>⟨C,dx,fs,hk_er hD _ _ h1 bk_ins,h2⟩⟩
theorem owb_er {D : Addr} (hD : Loose H D) {i : Nat} {b : Addr} : OwB σ (er H D) e i b ↔ OwB σ H e i b :=
  ⟨fun ⟨t,d,a,h1,h2,h3⟩=>⟨t,d,a,h1,h2,h3.imp id (lof_er hD).mp⟩,fun ⟨t,d,a,h1,h2,h3⟩=>⟨t,d,a,h1,h2,h3.imp id (lof_er hD).mpr⟩⟩
theorem Rel.er {D : Addr} (R : Rel K pa σ H e) (hD : Loose H D) (n : ¬ Own σ e D) : Rel K pa σ (er H D) e :=
  R.keep (er_grow hD) (ter hD R.tb) (fun a h=>er_ne (fun z=>by subst z; exact n h)) (hk_er hD)
theorem Rel.of_er {D : Addr} (R : Rel K pa σ (DL.er H D) e) : Rel K pa σ H e :=
  R.keep grow_er (tof_er R.tb) (fun a h=>(er_ne (fun z=>by subst z; exact (R.loose h).some er_same)).symm) fun _ _ h _=>DL.of_er h
theorem Tr.er {D : Addr} (T : Tr K pa σ H e σ1 H1 e1) (hD : Loose H D) (n : ¬ Own σ e D) (k : Loose H1 D) : Tr K pa σ (DL.er H D) e σ1 (DL.er H1 D) e1:=by
  have n1 : ¬ Own σ1 e1 D:=fun q=>by
    rcases T.ow D q with q | q
    · exact n q
    · exact hD.some q
  refine ⟨T.rel.er k n1,fun b x h q nt=>?_,fun b h=>?_,fun b h=>?_,grow_er.trans (T.gr.trans (er_grow k)),T.td,T.ln,⟨fun b x h kx nb=>hk_er k _ _ (T.bt.fb b x (DL.of_er h) kx fun i q=>nb i ((owb_er hD).mpr q)) kx,fun i b h=>?_,T.bt.td⟩⟩
  rotate_right
  · rcases T.bt.ob i b ((owb_er k).mp h) with ⟨j,q⟩ | q
    · exact .inl ⟨j,(owb_er hD).mpr q⟩
    · refine .inr ?_
      by_cases z : b = D
      · subst z; exact er_same
      · rw [er_ne z]; exact q
  · have hb : b ≠ D:=fun z=>by subst z; rw [er_same] at h; cases h
    rw [er_ne hb] at h ⊢
    exact T.fr b x h q nt
  · by_cases hb : b = D
    · subst hb; exact er_same
    · rw [er_ne hb] at h ⊢; exact T.nn b h
  · have hb : b ≠ D:=fun z=>by subst z; exact n1 h
    rw [er_ne hb]; exact T.ow b h
theorem Rel.forget {vs : List Nat} (R : Rel K pa σ2 H e2) (hw : L2.wipe σ2 vs = L2.wipe σ vs) : Rel K pa (L2.wipe σ vs) H (wipeE e2 vs):=by
  rw [← hw]; exact R.wipe vs
theorem Tr.forget {vs : List Nat} (T : Tr K pa (L2.wipe σ vs) H (wipeE e vs) σ2 H2 e2) (hw : L2.wipe σ2 vs = L2.wipe σ vs) : Tr K pa (L2.wipe σ vs) H (wipeE e vs) (L2.wipe σ vs) H2 (wipeE e2 vs):=by
  refine ⟨Rel.forget T.rel hw,T.fr,T.nn,fun b h=>?_,T.gr,fun j=>?_,rfl,⟨T.bt.fb,fun i b h=>?_,fun j=>?_⟩⟩
  rotate_right 2
  · rw [← hw] at h
    exact T.bt.ob i b (owb_wipe h).2
  · rw [T.bt.td j]
    constructor
    · rintro ⟨d,h⟩
      by_cases z : j ∈ vs
      · obtain ⟨d',h'⟩:=(T.bt.td j).mpr ⟨d,h⟩
        rcases wipeE_get h' with ⟨_,q⟩ | ⟨n,_⟩
        · cases q
        · exact (n z).elim
      · exact ⟨d,by rw [wipeE_out z]; exact h⟩
    · rintro ⟨d,h⟩
      rcases wipeE_get h with ⟨_,q⟩ | ⟨n,h⟩
      · cases q
      · exact ⟨d,h⟩
  · rw [← hw] at h
    exact T.ow b (own_wipe h).1
  · rw [T.td j]
    constructor
    · rintro ⟨d,h⟩
      by_cases z : j ∈ vs
      · obtain ⟨d',h'⟩:=(T.td j).mpr ⟨d,h⟩
        rcases wipeE_get h' with ⟨_,q⟩ | ⟨n,_⟩
        · cases q
        · exact (n z).elim
      · exact ⟨d,by rw [wipeE_out z]; exact h⟩
    · rintro ⟨d,h⟩
      rcases wipeE_get h with ⟨_,q⟩ | ⟨n,h⟩
      · cases q
      · exact ⟨d,h⟩
theorem own_back {vs : List Nat} {b : Addr} (hl : e1.length = e2.length) (h : Own σ (backE e1 e2 vs) b) : Own σ e1 b ∨ Own (L2.wipe σ vs) e2 b:=by
  obtain ⟨i,t,d,h1,h2⟩:=h
  by_cases z : i ∈ vs
  · have hi : i < e1.length:=by
      have:=(List.getElem?_eq_some_iff.mp h1).1
      rw [backE_len] at this
      omega
    have q : e1[i]? = some e1[i]:=List.getElem?_eq_getElem hi
    rw [backE_in hl q z] at h1
    exact .inl ⟨i,t,d,by rw [q]; exact h1,h2⟩
  · rw [backE_out z] at h1
    exact .inr ⟨i,t,d,h1,by rw [wipe_get z]; exact h2⟩
theorem Tr.backC {vs : List Nat} {D : Addr} (R : Rel K pa σ H1 e1) (hD : H1 D = none) (T : Tr K pa (L2.wipe σ vs) H1 (wipeE e1 vs) (L2.wipe σ vs) (DL.er H2 D) e2) (k : Loose H2 D) : Tr K pa σ H1 e1 σ H2 (backE e1 e2 vs):=by
  have g : Grow H1 H2:=T.gr.trans grow_er
  have hl : e1.length = e2.length:=by
    have h1:=T.rel.ln
    rw [wipe_length] at h1
    rw [← R.ln,h1]
  have at1 : ∀ (i : Nat) (s : Sl),(backE e1 e2 vs)[i]? = some s → (i ∈ vs ∧ e1[i]? = some s) ∨ (i ∉ vs ∧ e2[i]? = some s):=fun i s h=>by
    by_cases z : i ∈ vs
    · have hi : i < e1.length:=by
        have:=(List.getElem?_eq_some_iff.mp h).1
        rw [backE_len] at this
        omega
      have q : e1[i]? = some e1[i]:=List.getElem?_eq_getElem hi
      rw [backE_in hl q z] at h
      cases h
      exact .inl ⟨z,q⟩
    · rw [backE_out z] at h; exact .inr ⟨z,h⟩
  -- an own object of a hidden slot is not the block's
  have hid : ∀ (i : Nat) (t : Bool) (d : DL.D) (a : Addr),i ∈ vs → e1[i]? = some (Sl.o t d) → σ[i]? = some (some (V.ref a)) → ¬ Own (L2.wipe σ vs) (wipeE e1 vs) a:=fun i t d a hi h1 h2 q=>by
    obtain ⟨_,j,t',d',n,h3,h4⟩:=own_wipe q
    exact n (R.ap i j t t' d d' a h1 h3 h2 h4 ▸ hi)
  have hidB : ∀ {i : Nat} {b : Addr},i ∈ vs → OwB σ H1 e1 i b → ∀ j,¬ OwB (L2.wipe σ vs) H1 (wipeE e1 vs) j b:=fun {i b} z h j q=>by
    obtain ⟨n,q⟩:=owb_wipe q
    exact n (R.bd.one i j b h q ▸ z)
  have keptB : ∀ b x,H1 b = some x → BK x → (∀ i,¬ OwB (L2.wipe σ vs) H1 (wipeE e1 vs) i b) → H2 b = some x:=fun b x h kx n=>DL.of_er (T.bt.fb b x h kx n)
  have conv : ∀ {i : Nat} {b : Addr},OwB σ H2 (backE e1 e2 vs) i b → (i ∈ vs ∧ OwB σ H1 e1 i b) ∨ (i ∉ vs ∧ OwB (L2.wipe σ vs) (DL.er H2 D) e2 i b):=fun {i b} ⟨t,d,a,h1,h2,h3⟩=>by
    rcases at1 i _ h1 with ⟨z,g1⟩ | ⟨z,g1⟩
    · refine .inl ⟨z,t,d,a,g1,h2,h3.imp id fun ⟨C,dx,fs,q1,q2⟩=>?_⟩
      obtain ⟨a',w1,w2,_⟩:=R.bd.bo i t d g1
      rw [h2] at w1
      cases w1
      obtain ⟨x,w3,w4⟩:=w2.bk
      have w5:=keptB a x w3 w4 (hidB z ⟨t,d,a,g1,h2,.inl rfl⟩)
      rw [q1] at w5
      cases w5
      exact ⟨C,dx,fs,w3,q2⟩
    · refine .inr ⟨z,t,d,a,g1,by rw [wipe_get z]; exact h2,h3.imp id fun ⟨C,dx,fs,q1,q2⟩=>?_⟩
      exact (lof_er k).mpr ⟨C,dx,fs,q1,q2⟩
  have mixB : ∀ {i j : Nat} {b : Addr},i ∈ vs → OwB σ H1 e1 i b → OwB (L2.wipe σ vs) (DL.er H2 D) e2 j b → False:=fun {i j b} z h q=>by
    rcases T.bt.ob j b q with ⟨k,q⟩ | q
    · exact hidB z h k q
    · obtain ⟨x,w,_⟩:=R.bd.owb h
      rw [w] at q
      cases q
  have kept : ∀ b x,H1 b = some x → ¬ Own (L2.wipe σ vs) (wipeE e1 vs) b → NT x → H2 b = some x:=fun b x h q nt=>by
    have r:=T.fr b x h q nt
    rw [er_ne (fun z=>by subst z; rw [er_same] at r; cases r)] at r
    exact r
  have bd' : BRel K pa σ H2 (backE e1 e2 vs):=by
    refine ⟨fun i t d h=>?_,fun i j b h1 h2=>?_⟩
    · rcases at1 i _ h with ⟨z,h⟩ | ⟨z,h⟩
      · obtain ⟨a,q1,q2,q3⟩:=R.bd.bo i t d h
        exact ⟨a,q1,q2.keep g fun b x hb h1 kx=>keptB b x h1 kx (hidB z ⟨t,d,a,h,q1,hb⟩),q3⟩
      · obtain ⟨a,q1,q2,q3⟩:=T.rel.bd.bo i t d h
        rw [wipe_get z] at q1
        exact ⟨a,q1,q2.keep grow_er fun b x _ h _=>DL.of_er h,q3⟩
    · rcases conv h1 with ⟨z1,g1⟩ | ⟨z1,g1⟩
      · rcases conv h2 with ⟨z2,g2⟩ | ⟨z2,g2⟩
        · exact R.bd.one i j b g1 g2
        · exact (mixB z1 g1 g2).elim
      · rcases conv h2 with ⟨z2,g2⟩ | ⟨z2,g2⟩
        · exact (mixB z2 g2 g1).elim
        · exact T.rel.bd.one i j b g1 g2
  have bt' : BTr σ H1 e1 σ H2 (backE e1 e2 vs):=by
    refine ⟨fun b x h kx n=>keptB b x h kx fun i q=>n i (owb_wipe q).2,fun i b h=>?_,fun j=>?_⟩
    · rcases conv h with ⟨z,q⟩ | ⟨z,q⟩
      · exact .inl ⟨i,q⟩
      · rcases T.bt.ob i b q with ⟨j,q⟩ | q
        · exact .inl ⟨j,(owb_wipe q).2⟩
        · exact .inr q
    · by_cases z : j ∈ vs
      · constructor
        · rintro ⟨d,h⟩
          exact ⟨d,backE_in hl h z⟩
        · rintro ⟨d,h⟩
          rcases at1 j _ h with ⟨_,g1⟩ | ⟨n,_⟩
          · exact ⟨d,g1⟩
          · exact (n z).elim
      · rw [← wipeE_out (e:=e1) z,backE_out z]
        exact T.bt.td j
  refine ⟨⟨fun i d h=>?_,fun i t d h=>?_,fun i j t t' d d' a h1 h2 h3 h4=>?_,by rw [backE_len,← hl]; exact R.ln,fun i p h=>?_,tof_er T.rel.tb,bd'⟩,fun b x h n nt=>kept b x h (fun q=>n (own_wipe q).1) nt,fun b h=>?_,fun b ⟨i,t,d,h1,h2⟩=>?_,g,fun j=>?_,rfl,bt'⟩
  · rcases at1 i _ h with ⟨z,h⟩ | ⟨z,h⟩
    · obtain ⟨v,q1,q2⟩:=R.sh i d h
      exact ⟨v,q1,q2.mono g⟩
    · obtain ⟨v,q1,q2⟩:=T.rel.sh i d h
      rw [wipe_get z] at q1
      exact ⟨v,q1,q2.mono grow_er⟩
  · rcases at1 i _ h with ⟨z,h⟩ | ⟨z,h⟩
    · obtain ⟨a,q1,q2,q3⟩:=R.ow i t d h
      have ne:=hid i t d a z h q1
      obtain ⟨u,hu,nu⟩ : ∃ u,H1 a = some u ∧ NT u:=by
        rcases q2.loose with ⟨_,w⟩ | ⟨_,w⟩ | ⟨_,w⟩
        · exact ⟨_,w,nt_lst⟩
        · exact ⟨_,w,nt_dK⟩
        · exact ⟨_,w,nt_ext⟩
      exact ⟨a,q1,q2.keep g (by rw [hu]; exact kept a u hu ne nu),q3⟩
    · obtain ⟨a,q1,q2,q3⟩:=T.rel.ow i t d h
      rw [wipe_get z] at q1
      refine ⟨a,q1,q2.keep grow_er ?_,q3⟩
      exact (er_ne (fun w=>by subst w; exact q2.loose.some er_same)).symm
  · have mix : ∀ (i j : Nat) (t t' : Bool) (d d' : DL.D),i ∈ vs → e1[i]? = some (Sl.o t d) → j ∉ vs → e2[j]? = some (Sl.o t' d') → σ[i]? = some (some (V.ref a)) → σ[j]? = some (some (V.ref a)) → False:=fun i j t t' d d' z1 g1 z2 g2 g3 g4=>by
      rcases T.ow a ⟨j,t',d',g2,by rw [wipe_get z2]; exact g4⟩ with q | q
      · exact hid i t d a z1 g1 g3 q
      · obtain ⟨b,q1,q2,_⟩:=R.ow i t d g1
        rw [g3] at q1; cases q1
        exact q2.loose.some q
    rcases at1 i _ h1 with ⟨z1,g1⟩ | ⟨z1,g1⟩
    · rcases at1 j _ h2 with ⟨z2,g2⟩ | ⟨z2,g2⟩
      · exact R.ap i j t t' d d' a g1 g2 h3 h4
      · exact (mix i j t t' d d' z1 g1 z2 g2 h3 h4).elim
    · rcases at1 j _ h2 with ⟨z2,g2⟩ | ⟨z2,g2⟩
      · exact (mix j i t' t d' d z2 g2 z1 g1 h4 h3).elim
      · exact T.rel.ap i j t t' d d' a g1 g2 (by rw [wipe_get z1]; exact h3) (by rw [wipe_get z2]; exact h4)
  · rcases at1 i _ h with ⟨z,h⟩ | ⟨z,h⟩
    · obtain ⟨v,q1,q2⟩:=R.xc i p h
      exact ⟨v,q1,q2.mono g⟩
    · obtain ⟨v,q1,q2⟩:=T.rel.xc i p h
      rw [wipe_get z] at q1
      exact ⟨v,q1,q2.mono grow_er⟩
  · by_cases z : b = D
    · subst z; exact hD
    · exact T.nn b (by rw [er_ne z]; exact h)
  · rcases at1 i _ h1 with ⟨z,g1⟩ | ⟨z,g1⟩
    · exact .inl ⟨i,t,d,g1,h2⟩
    · rcases T.ow b ⟨i,t,d,g1,by rw [wipe_get z]; exact h2⟩ with q | q
      · exact .inl (own_wipe q).1
      · exact .inr q
  · by_cases z : j ∈ vs
    · constructor
      · rintro ⟨d,h⟩
        exact ⟨d,backE_in hl h z⟩
      · rintro ⟨d,h⟩
        rcases at1 j _ h with ⟨_,g1⟩ | ⟨n,_⟩
        · exact ⟨d,g1⟩
        · exact (n z).elim
    · rw [← wipeE_out (e:=e1) z,backE_out z]
      exact T.td j
end
def nox {α : Type} (r : Rs α) : Rs α:=match r with
  | .exc _ _=>.bad
  | r=>r
def compL (own : List Nat) (tg : D → M Unit) (tt : M Bool) (te : M D) : List D → M (List D)
  | []=>fun e=>.ok [] e
  | d :: ds=>fun e=>(tg d e).bind fun _ e1=>(nox (tt e1)).bind fun b e2=>match b with
    | true=>(nox (te e2)).bind fun y e3=>(compL own tg tt te ds (wipeE e3 own)).bind fun ys e4=>.ok (y :: ys) e4
    | false=>compL own tg tt te ds (wipeE e2 own)
def compM (own : List Nat) (it : M (List D)) (tg : D → M Unit) (tt : M Bool) (te : M D) : M Pv:=fun e=>(it e).bind fun ds e1=>(compL own tg tt te ds (wipeE e1 own)).bind fun ys e2=>.ok (.o (.list ys)) (backE e1 e2 own)
abbrev W0 : WX:=fun _ _ _ _=>False
theorem DenAll.snoc {K : KW} {H : Hp} {v : V} {d : D} : ∀ {vs : List V} {ds : List D},DenAll K H vs ds → Den K H v d → DenAll K H (vs ++ [v]) (ds ++ [d])
  | _,_,.nil,q=>.cons q .nil
  | _,_,.cons p r,q=>.cons p (r.snoc q)
def yesT : M Bool:=fun e=>.ok true e
section
variable {X : Cx} {pa : Pa} {W : WX} {pos : Pos}
abbrev ETs (X : Cx) (pa : Pa) (W : WX) (ifs : List Expr) (f : M Bool) : Prop:=PTs X ifs (tT (gd X pa W) f)
theorem PTs.imp {ifs : List Expr} {t t' : TT} (h : PTs X ifs t) (f : ∀ σ H Q,t' σ H Q → t σ H Q) : PTs X ifs t':=⟨fun pins s σ H Q I q=>h.run pins s σ H Q I (f σ H Q q)⟩
theorem ets_nil : ETs X pa W [] yesT:=PTs.imp pts_nil fun σ H Q ⟨en,R,q⟩=>q H (.refl R)
theorem ets_one {c : Expr} {f : M Bool} (h : ET X pa W c f) : ETs X pa W [c] f:=pts_one h
structure EGw (X : Cx) (pa : Pa) (c : Bool) (vs : List Nat) (tg : Expr) (g : D → M Unit) : Prop where
  run : PG X tg (fun v σ H Q=>∃ d e e',DenB c X.kw H v d ∧ Rel X.kw pa σ H e ∧ g d e = .ok () e' ∧ ∀ σ',Tr X.kw pa σ H e σ' H e' → L2.wipe σ' vs = L2.wipe σ vs → Q σ' H)
  ok : tgOk g
structure EGws (X : Cx) (pa : Pa) (vs : List Nat) (tg : List Expr) (g : List D → M Unit) : Prop where
  run : PGs X tg (fun v σ H Q=>∃ d e e',DenAll X.kw H v d ∧ Rel X.kw pa σ H e ∧ g d e = .ok () e' ∧ ∀ σ',Tr X.kw pa σ H e σ' H e' → L2.wipe σ' vs = L2.wipe σ vs → Q σ' H)
  ok : tgsOk g
theorem egw_name (i : Nat) {vs : List Nat} {x : Str} (hN : X.N.Nodup) (hv : i ∈ vs:=by decide) (hi : X.N[i]? = some x:=by rfl) (hx : Loc X.env.scope x:=by first | exact Or.inl rfl | exact Or.inr rfl) (hf : X.fn x = true ∨ X.env.scope.names.lookup x = some .local:=by first | exact .inl rfl | exact .inr rfl) : EGw X pa false vs (.Name x pos) (tgN i) :=
  ⟨PG.imp (pg_name hN hi hx hf) fun v σ H Q ⟨d,e,e',hd,R,k,q⟩=>q _ (tgN_ok R hd.den k) (wipe_set hv),tgN_tgOk i⟩
theorem egws_nil {vs : List Nat} : EGws X pa vs [] nilG:=⟨PGs.imp pgs_nil fun v σ H Q ⟨ds,e,e',hd,R,k,q⟩=>(by
  cases hd with
  | nil=>cases k; exact ⟨rfl,q σ (.refl R) rfl⟩
  | cons _ _=>cases k),nilG_ok⟩
theorem egws_cons {vs : List Nat} {tg : Expr} {tgs : List Expr} {g : D → M Unit} {gs : List D → M Unit} (h1 : EGw X pa false vs tg g) (h2 : EGws X pa vs tgs gs) (hs : (assignEach (tg :: tgs) X.env).map (·.2) = assign tg X.env :: (assignEach tgs X.env).map (·.2):=by rfl) : EGws X pa vs (tg :: tgs) (consG g gs) :=
  ⟨PGs.imp (pgs_cons h1.run h2.run hs) fun v σ H Q ⟨ds,e,e',hd,R,k,q⟩=>(by
    cases hd with
    | nil=>cases k
    | cons h hr =>
      obtain ⟨_,e1,k1,k2⟩:=Rs.bind_ok k
      exact ⟨_,_,rfl,_,e,e1,.inl h,R,k1,fun σ1 T1 w1=>⟨_,e1,e',hr,T1.rel,k2,fun σ2 T2 w2=>q σ2 (T1.trans T2) (w2.trans w1)⟩⟩),consG_ok h1.ok h2.ok⟩
theorem egw_tup {c : Bool} {vs : List Nat} {es : List Expr} {k : Nat} {n : Nat} {gs : List D → M Unit} (hc : X.calm = true) (h : EGws X pa vs es gs) (hl : ∀ ds e e',gs ds e = .ok () e' → ds.length = n)
    (hn : (assignEach es X.env).length = n:=by rfl) (hst : (assignEach es X.env).findIdx? (·.1) = none:=by rfl) : EGw X pa c vs (.Tuple es k pos) (tgT gs) :=
  ⟨PG.imp (PG.or (pg_tup hc h.run hn hst) (pg_unl hc h.run hn hst)) fun v σ H Q ⟨d,e,e',hd,R,k,q⟩=>(by
    rcases hd with hd | ⟨_,a,xs,ds,rfl,h1,rfl,h2⟩
    rotate_left
    · exact .inl ⟨_,_,rfl,h1,gs_len hl h2 k,_,e,e',h2,R,k,q⟩
    cases hd with
    | tup h1 h2=>exact .inl ⟨_,_,rfl,h1.sq,gs_len hl h2 k,_,e,e',h2,R,k,q⟩
    | lst h1 h2=>exact .inr ⟨_,_,rfl,h1.sq,gs_len hl h2 k,_,e,e',h2,R,k,q⟩
    | non=>cases k
    | bl b=>cases k
    | int i=>cases k
    | str x=>cases k
    | dct _ _=>cases k
    | dcn _ _ _=>cases k),tgT_ok h.ok⟩
theorem rd_comp {c : Bool} {own : List Nat} {it : M (List D)} {tg : D → M Unit} {tt : M Bool} {te : M D} {g : TG} {σ : St} {H : Hp} {Q : VK} (ho : tgOk tg)
    (hg : ∀ v σ H (Q : St → Hp → Prop),(∃ d e e',DenB c X.kw H v d ∧ Rel X.kw pa σ H e ∧ tg d e = .ok () e' ∧ ∀ σ',Tr X.kw pa σ H e σ' H e' → L2.wipe σ' own = L2.wipe σ own → Q σ' H) → g v σ H Q)
    (q : tV (gd X pa W) (compM own it tg tt te) σ H Q) : tLc (tI (gd X pa W) c it) g (tT (gd X pa W0) tt) (tD (gd X pa W0) te) own σ H Q:=by
  obtain ⟨en,R,q⟩:=q
  refine ⟨en,R,(Out.bind q).imp fun ds e1 _ k J H1 T ⟨⟨G,Y,w,hG,hY⟩,le⟩ D hD=>?_⟩
  have k:=k H1 T
  have R1:=T.rel.wipe own
  refine lc_it w (fun i H'=>∃ e' acc zs,Tr X.kw pa (L2.wipe σ own) H1 (wipeE e1 own) (L2.wipe σ own) (er H' D) (wipeE e' own) ∧ H' D = some (.lst acc) ∧ DenAll X.kw H' acc zs ∧ acc.length ≤ i ∧
      Out (gd X pa W) σ H1 e1 ((compL own tg tt te (ds.drop i) (wipeE e' own)).bind fun ys e2=>.ok (Pv.o (.list (zs ++ ys))) (backE e1 e2 own)) fun p e'=>∀ v H',Tr X.kw pa σ H en σ H' e' → PvIs X.kw σ H H' e' v p → Q v H')
    ⟨e1,[],[],?_,upd_same,.nil,Nat.zero_le _,k⟩ (fun i H' _ ⟨_,_,_,T',_⟩=>hG H' (T'.gr.trans grow_er)) (fun i x H' H2 hi ⟨e',acc,zs,T',hA,hZ,hle,q'⟩ y=>?_) fun H' ⟨e',acc,zs,T',hA,hZ,hle,q'⟩=>?_
  · have : er (upd H1 D (.lst [])) D = H1:=by
      funext b
      by_cases z : b = D
      · subst z; rw [er_same,hD]
      · rw [er_ne z,upd_ne z]
    rw [this]
    exact .refl R1
  · obtain ⟨sm,d,hd,hx⟩:=hY i H' x H2 (T'.gr.trans grow_er) y
    have e0 : ds.drop i = d :: ds.drop (i + 1):=by
      have hlt : i < ds.length:=hi
      rw [List.drop_eq_getElem_cons hlt]
      congr 1
      rw [List.getElem?_eq_getElem hlt] at hd
      exact Option.some.inj hd
    rw [e0] at q'
    have R' : Rel X.kw pa (L2.wipe σ own) H' (wipeE e' own):=T'.rel.of_er
    have nD : ∀ {σ' : St} {e'' : Ev} {H'' : Hp},Rel X.kw pa σ' (er H'' D) e'' → ¬ Own σ' e'' D:=fun r z=>(r.loose z).some er_same
    have nD':=nD T'.rel
    have R2:=R'.same sm
    have T2 : Tr X.kw pa (L2.wipe σ own) H' (wipeE e' own) (L2.wipe σ own) H2 (wipeE e' own):=Tr.same R' sm
    have hA2 : H2 D = some (.lst acc):=sm _ _ hA
    rcases ho d (wipeE e' own) with ⟨e2,z⟩ | z
    · refine hg x _ H2 _ ⟨d,wipeE e' own,e2,hx,R2,z,fun σ3 T3 w3=>⟨w3.trans wipe_wipe,?_⟩⟩
      have w3':=w3.trans wipe_wipe
      have T3':=T2.trans T3
      have q2 : Out (gd X pa W) σ H1 e1 ((nox (tt e2)).bind fun b e3=>(match b with
        | true=>(nox (te e3)).bind fun y e4=>(compL own tg tt te (ds.drop (i + 1)) (wipeE e4 own)).bind fun ys e5=>.ok (y :: ys) e5
        | false=>compL own tg tt te (ds.drop (i + 1)) (wipeE e3 own) : Rs (List DL.D)).bind fun ys e2=>.ok (Pv.o (.list (zs ++ ys))) (backE e1 e2 own)) fun p e'=>∀ v H',Tr X.kw pa σ H en σ H' e' → PvIs X.kw σ H H' e' v p → Q v H':=by
        unfold compL at q'
        rw [z] at q'
        dsimp only [Rs.bind] at q'
        cases ht : tt e2 with
        | bad=>rw [ht] at q'; exact q'
        | exc _ _=>rw [ht] at q'; exact q'
        | ok b e3=>rw [ht] at q'; exact q'
      refine ⟨e2,T3.rel,?_⟩
      cases ht : tt e2 with
      | bad=>rw [ht] at q2; exact q2.elim
      | exc xx e3=>rw [ht] at q2; exact q2.elim
      | ok b e3 =>
        rw [ht] at q2
        intro H4 T4
        have T4':=T3'.trans T4
        have hA4 : H4 D = some (.lst acc):=T4'.fr D _ hA nD' nt_lst
        cases b with
        | false =>
          refine iteF ⟨e3,acc,zs,?_,hA4,hZ.mono T4'.gr,Nat.le_succ_of_le hle,q2⟩
          exact T'.trans ((Tr.forget T4' w3').er (.inl ⟨_,hA⟩) nD' (.inl ⟨_,hA4⟩))
        | true =>
          refine iteT ⟨e3,T4.rel,?_⟩
          have q2 : Out (gd X pa W) σ H1 e1 (((nox (te e3)).bind fun y e4=>(compL own tg tt te (ds.drop (i + 1)) (wipeE e4 own)).bind fun ys e5=>.ok (y :: ys) e5).bind fun ys e2=>.ok (Pv.o (.list (zs ++ ys))) (backE e1 e2 own)) fun p e'=>∀ v H',Tr X.kw pa σ H en σ H' e' → PvIs X.kw σ H H' e' v p → Q v H':=q2
          cases hy : te e3 with
          | bad=>rw [hy] at q2; exact q2.elim
          | exc xx e4=>rw [hy] at q2; exact q2.elim
          | ok yd e4 =>
            rw [hy] at q2
            intro v H5 T5 hv
            have T5':=T4'.trans T5
            have hA5 : H5 D = some (.lst acc):=T5'.fr D _ hA nD' nt_lst
            have hlt : i < ds.length:=hi
            refine ⟨acc,hA5,by omega,e4,acc ++ [v],zs ++ [yd],?_,upd_same,?_,by rw [List.length_append]; simp; omega,?_⟩
            · have : er (upd H5 D (.lst (acc ++ [v]))) D = er H5 D:=by
                funext b
                by_cases z : b = D
                · subst z; rw [er_same,er_same]
                · rw [er_ne z,er_ne z,upd_ne z]
              rw [this]
              exact T'.trans ((Tr.forget T5' w3').er (.inl ⟨_,hA⟩) nD' (.inl ⟨_,hA5⟩))
            · have g : Grow H5 (upd H5 D (.lst (acc ++ [v]))):=grow_frz hA5 (.inl ⟨_,rfl⟩)
              exact ((hZ.mono T5'.gr).snoc hv).mono g
            · have q2 : Out (gd X pa W) σ H1 e1 (((compL own tg tt te (ds.drop (i + 1)) (wipeE e4 own)).bind fun ys e5=>.ok (yd :: ys) e5).bind fun ys e2=>.ok (Pv.o (.list (zs ++ ys))) (backE e1 e2 own)) fun p e'=>∀ v H',Tr X.kw pa σ H en σ H' e' → PvIs X.kw σ H H' e' v p → Q v H':=q2
              cases hc : compL own tg tt te (ds.drop (i + 1)) (wipeE e4 own) with
              | bad=>rw [hc] at q2; exact q2
              | exc _ _=>rw [hc] at q2; exact q2
              | ok ys e5 =>
                rw [hc] at q2
                dsimp only [Rs.bind] at q2 ⊢
                rw [List.append_assoc]
                exact q2
    · unfold compL at q'
      rw [z] at q'
      exact q'.elim
  · rw [List.drop_length] at q'
    dsimp only [compL,Rs.bind] at q'
    rw [List.append_nil] at q'
    have hLo : Loose H' D:=.inl ⟨_,hA⟩
    have TB:=Tr.backC (e2:=wipeE e' own) T.rel hD T' hLo
    refine q' _ _ (T.trans TB) ⟨D,rfl,T.nn D hD,⟨acc,hA,hZ⟩,fun z=>?_⟩
    rcases own_back (by rw [wipeE_len]; have h1:=T'.rel.ln; rw [wipe_length,wipeE_len] at h1; rw [← h1]; exact T.rel.ln.symm) z with z | z
    · exact (T.rel.loose z).some hD
    · exact (T'.rel.loose z).some er_same
theorem ev_comp {c : Bool} {elt tg iter : Expr} {ifs : List Expr} {scope : Scope} {own : List (Str × Nat)} {it : M (List D)} {g : D → M Unit} {tt : M Bool} {te : M D} (hc : X.calm = true) (hN : X.N.Nodup) (hi : EI X pa W c tg iter it) (ok : BlkOk X.N X.env.scope scope own) (ho : tgOk g)
    (hg : ∀ (s : Shared) (H : Hp) (C : Addr) (cl : List (Str × Addr)) (fp : List Addr),EGw (X.blk s H scope (compEnvC scope cl C X.env) fp) pa c (own.map (·.2)) tg g)
    (ht : ∀ (s : Shared) (H : Hp) (C : Addr) (cl : List (Str × Addr)) (fp : List Addr),ETs (X.blk s H scope (compEnvC scope cl C X.env) fp) pa W0 ifs tt)
    (he : ∀ (s : Shared) (H : Hp) (C : Addr) (cl : List (Str × Addr)) (fp : List Addr),ED (X.blk s H scope (compEnvC scope cl C X.env) fp) pa W0 elt te) (hs : ∀ x,foldedSetIterable iter X.env x = pure x:=by intro _; rfl) :
    EV X pa W (.ListComp elt [⟨tg,iter,ifs,0⟩] scope pos) (compM (own.map (·.2)) it g tt te) :=
  PE.imp (pe_lc hc hN hi ok (fun s H C cl fp=>(hg s H C cl fp).run) ht he hs) fun σ H Q q=>rd_comp ho (fun v σ H Q h=>h) q
theorem es_comp {c : Bool} (i : Nat) {y : Str} {py spos : Pos} {elt tg iter : Expr} {ifs : List Expr} {scope : Scope} {own : List (Str × Nat)} {it : M (List D)} {g : D → M Unit} {tt : M Bool} {te : M D} (hc : X.calm = true) (hN : X.N.Nodup) (hi : EI X pa W c tg iter it) (ok : BlkOk X.N X.env.scope scope own) (ho : tgOk g)
    (hg : ∀ (s : Shared) (H : Hp) (C : Addr) (cl : List (Str × Addr)) (fp : List Addr),EGw (X.blk s H scope (compEnvC scope cl C X.env) fp) pa c (own.map (·.2)) tg g)
    (ht : ∀ (s : Shared) (H : Hp) (C : Addr) (cl : List (Str × Addr)) (fp : List Addr),ETs (X.blk s H scope (compEnvC scope cl C X.env) fp) pa W0 ifs tt)
    (he : ∀ (s : Shared) (H : Hp) (C : Addr) (cl : List (Str × Addr)) (fp : List Addr),ED (X.blk s H scope (compEnvC scope cl C X.env) fp) pa W0 elt te)
    (hsw : swapsWith (.ListComp elt [⟨tg,iter,ifs,0⟩] scope pos) (some (.Name y py)) spos.line X.env = pure true) (hyl : X.env.scope.names.lookup y = some .local:=by rfl) (hy : X.N[i]? = some y:=by rfl) (hs : ∀ x,foldedSetIterable iter X.env x = pure x:=by intro _; rfl) :
    ES X pa W (.Assign [.Name y py] (.ListComp elt [⟨tg,iter,ifs,0⟩] scope pos) spos) (asg i (compM (own.map (·.2)) it g tt te)) :=
  PS.imp (ps_setLc hc hN hy hyl hsw hi ok (fun s H C cl fp=>(hg s H C cl fp).run) ht he hs) fun D σ H ⟨en,R,q⟩ =>
    rd_comp (Q:=fun v H1=>gName i v σ H1 D.nx) ho (fun v σ H Q h=>h) ⟨en,R,outS_of q fun p e1 _ k v H1 T hv=>into_ok (D:=D) T hv k⟩
end
end DL
end L2
namespace L2
namespace DL
open PySem PySem.Spec PyProof.Rows
section
variable {X : Cx} {pa : Pa} {W : WX} {pos p : Pos} {a b : Expr} {f g : M Pv} {x : Str}
theorem ev_b1 {id : String} {r : List V → Hp → VK → Prop} {h : D → Option Xv} (hc : CallR X (.builtin id) r) (hr : ∀ v H Q,r1 X.kw h v H Q → r [v] H Q) (ha : EV X pa W a f) (hm : X.mg x = none) (hg : Gl X x:=by rfl) (hv : bootBuiltins x = some (.builtin id):=by decide +kernel)
    (hn : x ≠ "__name__":=by decide) (hdb : (x == ("__debug__" : Str)) = false:=by decide) (he : starEach [a] X.env = [(false,eval a X.env)]:=by rfl) : EV X pa W (.Call (.Name x p) [a] [] pos) (op1 h f) :=
  PE.imp (pe_callB hc hg hm hv (pa_cons (ev_pk ha) pa_nil he) hn hdb he) fun σ H Q q=>by
    obtain ⟨en,R,q⟩:=rd_op1 q
    exact ⟨en,R,q.imp fun p e1 _ k v H1 T hv=>hr v H1 Q (k v H1 T hv)⟩
theorem ev_t1 {id : String} {r : List V → Hp → VK → Prop} {h : D → Option Xv} (hc : CallR X (.type id) r) (hr : ∀ v H Q,r1 X.kw h v H Q → r [v] H Q) (ha : EV X pa W a f) (hm : X.mg x = none) (hg : Gl X x:=by rfl) (hv : bootBuiltins x = some (.type id):=by decide +kernel)
    (hn : x ≠ "__name__":=by decide) (hdb : (x == ("__debug__" : Str)) = false:=by decide) (he : starEach [a] X.env = [(false,eval a X.env)]:=by rfl) : EV X pa W (.Call (.Name x p) [a] [] pos) (op1 h f) :=
  PE.imp (pe_callTy hc hg hm hv (pa_cons (ev_pk ha) pa_nil he) hn hdb he) fun σ H Q q=>by
    obtain ⟨en,R,q⟩:=rd_op1 q
    exact ⟨en,R,q.imp fun p e1 _ k v H1 T hv=>hr v H1 Q (k v H1 T hv)⟩
theorem ev_b2 {id : String} {r : List V → Hp → VK → Prop} {h : D → D → Option Xv} (hc : CallR X (.builtin id) r) (hr : ∀ v w H Q,r2 X.kw h v w H Q → r [v,w] H Q) (ha : EV X pa W a f) (hb : EV X pa W b g) (hm : X.mg x = none) (hg : Gl X x:=by rfl) (hv : bootBuiltins x = some (.builtin id):=by decide +kernel)
    (hn : x ≠ "__name__":=by decide) (hdb : (x == ("__debug__" : Str)) = false:=by decide) (he : starEach [a,b] X.env = (false,eval a X.env) :: starEach [b] X.env:=by rfl) (he2 : starEach [b] X.env = [(false,eval b X.env)]:=by rfl) (hpl : (backTo pos (starEach [b] X.env)).any (·.1) = false:=by rfl) : EV X pa W (.Call (.Name x p) [a,b] [] pos) (op2 h f g) :=
  PE.imp (pe_callB hc hg hm hv (pa_cons (ev_pk ha) (pa_cons (ev_pk hb) pa_nil he2) he) hn hdb he hpl) fun σ H Q q=>by
    obtain ⟨en,R,q⟩:=rd_op2 q
    refine ⟨en,R,q.imp fun p e1 _ k v H1 T hv=>?_⟩
    obtain ⟨e1,R1,q1⟩:=k v H1 T hv
    exact ⟨e1,R1,q1.imp fun p e2 _ k2 w H2 T2 hw=>hr v w H2 Q (k2 w H2 T2 hw)⟩
end
section
variable {K : KW} {H H' : Hp}
theorem iI_some {f : Int → Int → D} {c : Int → Int → Bool} {d e : D} {r : Xv} (h : iI f c d e = some r) : ∃ i j,d = .int i ∧ e = .int j ∧ c i j = true ∧ r = .s (f i j):=by
  unfold iI at h
  split at h
  · split at h
    · next i j hc=>cases h; exact ⟨i,j,rfl,rfl,hc,rfl⟩
    · cases h
  · cases h
end
def mulOk (i j : Int) : Bool:=decide (-(2 ^ 64) < i ∧ i < 2 ^ 64) || decide (-(2 ^ 64) < j ∧ j < 2 ^ 64)
def divOk (i j : Int) : Bool:=decide (0 < j) && decide (j < 1073741824)
def powOk (i j : Int) : Bool:=decide (0 ≤ j) && (decide (j ≤ 1000000) && decide (i.natAbs < 2 ^ 64))
def modD : D → D → Option Xv:=iI (fun i j=>.int (i % j)) fun _ j=>decide (0 < j)
def fdivD : D → D → Option Xv:=iI (fun i j=>.int (i / j)) divOk
def powD : D → D → Option Xv:=iI (fun i j=>.int (i ^ j.toNat)) powOk
def mulD (d e : D) : Option Xv:=match d,e with
  | .int i,.int j=>if mulOk i j then some (.s (.int (i * j))) else none
  | .list xs,.int j=>if -(2 ^ 63) ≤ j ∧ j < 2 ^ 63 ∧ xs.length * j.toNat ≤ sizeLine then some (.o (.list (List.replicate j.toNat xs).flatten)) else none
  | _,_=>none
section
variable {X : Cx} {pins : List (Addr × Obj)} {σ : St} {H : Hp} {s : Shared}
theorem OpR.imp {F : Value → Value → Sem Value} {r r' : R2} (h : OpR X F r) (f : ∀ x y H Q,r' x y H Q → r x y H Q) : OpR X F r':=fun pins s σ H x y v u Q I rx ry q=>h pins s σ H x y v u Q I rx ry (f x y H Q q)
theorem CallR.imp {F : Value} {r r' : List V → Hp → VK → Prop} (h : CallR X F r) (f : ∀ xs H Q,r' xs H Q → r xs H Q) : CallR X F r':=fun pins s σ H xs us Q I rx q=>h pins s σ H xs us Q I rx (f xs H Q q)
theorem iI_rd {f : Int → Int → D} {c : Int → Int → Bool} {g : Int → Int → V} {C : Int → Int → Prop} (hg : ∀ K H i j,Den K H (g i j) (f i j)) (hC : ∀ i j,c i j = true → C i j) {x y : V} {Q : VK} (q : r2 X.kw (iI f c) x y H Q) : rI C g x y H Q:=by
  obtain ⟨d,e,r,h1,h2,h3,k⟩:=q
  obtain ⟨i,j,rfl,rfl,hc,rfl⟩:=iI_some h3
  exact ⟨i,j,h1.int,h2.int,hC i j hc,k _ H (Same.refl H) (hg _ _ i j)⟩
theorem iI_rd0 {f : Int → Int → D} {g : Int → Int → V} (hg : ∀ K H i j,Den K H (g i j) (f i j)) {x y : V} {Q : VK} (q : r2 X.kw (iI f fun _ _=>true) x y H Q) : rI0 g x y H Q:=by
  obtain ⟨d,e,r,h1,h2,h3,k⟩:=q
  obtain ⟨i,j,rfl,rfl,hc,rfl⟩:=iI_some h3
  exact ⟨i,j,h1.int,h2.int,k _ H (Same.refl H) (hg _ _ i j)⟩
theorem o_sub : OpR X (binaryOp .Sub) (r2 X.kw subD):=OpR.imp op_sub fun x y H Q q=>iI_rd0 (fun _ _ _ _=>.int _) q
theorem o_mod : OpR X (binaryOp .Mod) (r2 X.kw modD):=OpR.imp op_mod fun x y H Q q=>iI_rd (fun _ _ _ _=>.int _) (fun _ j h=>of_decide_eq_true h) q
theorem o_fdiv : OpR X (binaryOp .FloorDiv) (r2 X.kw fdivD):=OpR.imp op_fdiv fun x y H Q q=>iI_rd (fun _ _ _ _=>.int _) (fun _ j h=>by
  have h:=Bool.and_eq_true_iff.mp h
  exact ⟨of_decide_eq_true h.1,of_decide_eq_true h.2⟩) q
theorem o_pow : OpR X (binaryOp .Pow) (r2 X.kw powD):=OpR.imp op_pow fun x y H Q q=>iI_rd (fun _ _ _ _=>.int _) (fun _ j h=>by
  have h:=Bool.and_eq_true_iff.mp h
  have h2:=Bool.and_eq_true_iff.mp h.2
  exact ⟨of_decide_eq_true h.1,of_decide_eq_true h2.1,of_decide_eq_true h2.2⟩) q
theorem o_le : OpR X (compareOp .LtE) (r2 X.kw leD):=OpR.imp op_le fun x y H Q q=>iI_rd0 (fun _ _ _ _=>.bl _) q
theorem o_gt : OpR X (compareOp .Gt) (r2 X.kw gtD):=OpR.imp op_gt fun x y H Q q=>iI_rd0 (fun _ _ _ _=>.bl _) q
theorem o_ge : OpR X (compareOp .GtE) (r2 X.kw geD):=OpR.imp op_ge fun x y H Q q=>iI_rd0 (fun _ _ _ _=>.bl _) q
theorem o_lt : OpR X (compareOp .Lt) (r2 X.kw ltD):=OpR.imp (OpR.or op_lt op_lt_str) fun x y H Q ⟨d,e,r,h1,h2,h3,k⟩=>by
  unfold ltD at h3
  split at h3
  · next i j=>cases h3; exact .inl ⟨i,j,h1.int,h2.int,k _ H (Same.refl H) (Den.bl _)⟩
  · next i j=>cases h3; exact .inr ⟨i,j,h1.str,h2.str,k _ H (Same.refl H) (Den.bl _)⟩
  · cases h3
theorem u_neg : UnR X (unaryOp .USub) (r1 X.kw negD):=fun pins s σ H x v Q I rx ⟨d,r,h1,h3,k⟩=>un_neg pins s σ H x v Q I rx (by
  unfold negD at h3
  split at h3
  · next i=>cases h3; exact ⟨i,h1.int,k _ H (Same.refl H) (Den.int _)⟩
  · cases h3)
theorem rd_lst {l : Addr} {xs : List V} (I : Inv X pins σ H s) (h : Rd H l (.lst xs)) : xs.length ≤ sizeLine ∧ ∃ (its : List Value) (n : Nat),Vals xs its ∧ xs.length = its.length ∧ s.heap.get? l = some { cls:=.type "list",data:=.seq its.toArray n }:=by
  obtain ⟨z,its,n,r,e⟩:=h.ok I.hok
  exact ⟨z,its,n,r,r.length,e⟩
theorem op_catL : OpR X (binaryOp .Add) (fun x y H Q=>∃ l b xs zs,x = .ref l ∧ y = .ref b ∧ Rd H l (.lst xs) ∧ Rd H b (.lst zs) ∧ xs.length + zs.length ≤ sizeLine ∧ ∀ p,H p = none → Q (.ref p) (upd H p (.lst (xs ++ zs)))):=by
  intro pins s σ H x y v u Q I rx ry h
  obtain ⟨l,b,xs,zs,rfl,rfl,hH,hB,hz,q⟩:=h
  cases rx
  cases ry
  obtain ⟨z,its,n,r,hl,e⟩:=rd_lst I hH
  obtain ⟨z2,its2,n2,r2,hl2,e2⟩:=rd_lst I hB
  refine PySem.P.add_list e e2 ?_ (by rw [List.size_toArray,List.size_toArray]; omega)
  have ea : its.toArray ++ its2.toArray = (its ++ its2).toArray:=by simp
  rw [ea]
  exact ⟨.ref _,_,I.lnew (t':=s.toks) (r.append r2) (by rw [List.length_append]; omega),rfl,q _ I.fresh⟩
theorem op_repL : OpR X (binaryOp .Mult) (fun x y H Q=>∃ l k xs,x = .ref l ∧ y = .int k ∧ Rd H l (.lst xs) ∧ -(2 ^ 63) ≤ k ∧ k < 2 ^ 63 ∧ xs.length * k.toNat ≤ sizeLine ∧
    ∀ p,H p = none → Q (.ref p) (upd H p (.lst (List.replicate k.toNat xs).flatten))):=by
  intro pins s σ H x y v u Q I rx ry h
  obtain ⟨l,k,xs,rfl,rfl,hH,h1,h2,hz,q⟩:=h
  cases rx
  obtain ⟨t,rfl⟩:=ry
  obtain ⟨z,its,n,r,hl,e⟩:=rd_lst I hH
  have hlen : its.toArray.size * k.toNat ≤ sizeLine:=by rw [List.size_toArray,← hl]; exact hz
  have hcap : ¬ its.toArray.size * k.toNat > (2 ^ 63 - 1) / 8:=by
    have : (sizeLine : Nat) ≤ (2 ^ 63 - 1) / 8:=by decide
    omega
  have hfit : ¬ (!Builtin.List.listFitsIndex k) = true:=by
    rw [fitsIndex_both h1 h2]
    exact Bool.false_ne_true
  have hlong : ¬ Builtin.List.listTooLong (its.toArray.size * k.toNat) = true:=by
    rw [notLongL hlen]
    exact Bool.false_ne_true
  have hnew : List.foldl (fun x1 x2=>x1 ++ x2) #[] (List.replicate (if its.toArray.isEmpty = true then 0 else k.toNat) its.toArray) = (List.replicate k.toNat its).flatten.toArray:=by
    have f0 : ∀ m : Nat,List.foldl (fun x1 x2=>x1 ++ x2) #[] (List.replicate m its.toArray) = (List.replicate m its).flatten.toArray:=fun m=>by
      have:=foldl_rep its m []
      rw [List.nil_append] at this
      exact this
    rw [f0]
    cases its with
    | nil=>simp
    | cons a r'=>rw [if_neg (by simp)]
  refine wpAny_binaryOp_repeat_ref (T:="list") (U:="int") (by decide) ⟨_,e,rfl⟩ (fun s'=>typeIs_int s' k t) noFill_list_mul F.fills_int_mul F.slot_int_rmul repeat_list F.slot_int_index.lookup
    (call_meets F.slot_int_rmul (typeIs_int s k t) F.entry_int_rmul (F.args_int_rmul_2 _ _) (int___rmul___int_list k t l its.toArray n)
      ⟨e,rfl,⟨_,e,rfl⟩,call_meets F.slot_list_mul ⟨_,e,rfl⟩ F.entry_list_mul (F.args_list_mul_2 _ _) (AutoListH.list___mul___list_int_3 l its.toArray n k t hfit hcap hlong) ⟨e,?_⟩⟩)
  rw [hnew]
  exact ⟨.ref _,_,I.lnew (t':=s.toks) (r.rep k.toNat) (by rw [PyProof.Rows.lm_len_rep_flat,Nat.mul_comm]; exact hz),rfl,q _ I.fresh⟩
end
section
variable {K : KW} {H : Hp}
theorem DenAll.append : ∀ {xs ys : List V} {ds es : List D},DenAll K H xs ds → DenAll K H ys es → DenAll K H (xs ++ ys) (ds ++ es)
  | _,_,_,_,.nil,s=>s
  | _,_,_,_,.cons r t,s=>.cons r (t.append s)
theorem DenAll.take : ∀ {xs : List V} {ds : List D} (n : Nat),DenAll K H xs ds → DenAll K H (xs.take n) (ds.take n)
  | _,_,0,_=>.nil
  | _,_,_ + 1,.nil=>.nil
  | _,_,n + 1,.cons r t=>.cons r (t.take n)
theorem DenAll.drop : ∀ {xs : List V} {ds : List D} (n : Nat),DenAll K H xs ds → DenAll K H (xs.drop n) (ds.drop n)
  | _,_,0,r=>r
  | _,_,_ + 1,.nil=>.nil
  | _,_,n + 1,.cons _ t=>t.drop n
theorem DenAll.rep {xs : List V} {ds : List D} (h : DenAll K H xs ds) : ∀ k : Nat,DenAll K H (List.replicate k xs).flatten (List.replicate k ds).flatten
  | 0=>.nil
  | k + 1=>by rw [List.replicate_succ,List.replicate_succ,List.flatten_cons,List.flatten_cons]; exact h.append (h.rep k)
theorem DenAll.erase : ∀ {xs : List V} {ds : List D} (i : Nat),DenAll K H xs ds → DenAll K H (xs.eraseIdx i) (ds.eraseIdx i)
  | _,_,_,.nil=>.nil
  | _,_,0,.cons _ t=>t
  | _,_,i + 1,.cons r t=>.cons r (t.erase i)
theorem DenAll.get {i : Nat} {d : D} : ∀ {xs : List V} {ds : List D},DenAll K H xs ds → ds[i]? = some d → ∃ v,xs[i]? = some v ∧ Den K H v d:=fun {xs ds} h q=>by
  have hi : i < xs.length:=by rw [h.length]; exact (List.getElem?_eq_some_iff.mp q).1
  obtain ⟨d',h1,h2⟩:=all_get h (List.getElem?_eq_getElem hi)
  rw [q] at h1; cases h1
  exact ⟨_,List.getElem?_eq_getElem hi,h2⟩
theorem DenAll.nil_iff {xs : List V} {ds : List D} (h : DenAll K H xs ds) : xs = [] ↔ ds = []:=by
  cases h with
  | nil=>simp
  | cons _ _=>simp
theorem new_list {p : Addr} {vs : List V} {ds : List D} {Q : VK} (k : ∀ v H',Same H H' → NewIs K H H' v (.o (.list ds)) → Q v H') (hp : H p = none) (h : DenAll K H vs ds) : Q (.ref p) (upd H p (.lst vs)) :=
  k _ _ (same_new hp) ⟨p,rfl,hp,vs,upd_same,h.mono (gsame (same_new hp))⟩
theorem new_tup {p : Addr} {o : Obj} {vs : List V} {ds : List D} {Q : VK} (k : ∀ v H',Same H H' → NewIs K H H' v (.s (.tuple ds)) → Q v H') (hp : H p = none) (ho : o.dict = none) (h : DenAll K H vs ds) : Q (.ref p) (upd H p (.frz o (.tup vs))) :=
  k _ _ (same_new hp) (Den.tup (.inl ⟨o,upd_same,ho⟩) (h.mono (gsame (same_new hp))))
end
section
variable {X : Cx}
theorem op_catX : OpR X (binaryOp .Add) (fun x y H Q=>∃ a b xs ys,x = .ref a ∧ y = .ref b ∧ SqT X.kw H a xs ∧ SqT X.kw H b ys ∧ xs.length + ys.length ≤ sizeLine ∧
    (xs = [] → Q (.ref b) H) ∧ (xs ≠ [] → ys = [] → Q (.ref a) H) ∧ (xs ≠ [] → ys ≠ [] → ∀ p o,H p = none → o.dict = none → Q (.ref p) (upd H p (.frz o (.tup (xs ++ ys)))))):=by
  intro pins s σ H x y v u Q I rx ry h
  obtain ⟨a,b,xs,ys,rfl,rfl,ha,hb,hz,q0,q1,q2⟩:=h
  cases rx
  cases ry
  obtain ⟨its,r1,p1,_⟩:=I.tuple ha
  obtain ⟨its2,r2,p2,_⟩:=I.tuple hb
  by_cases hx : xs = []
  · subst hx
    cases r1
    exact cat_tup0 p1 p2 ⟨.ref b,H,I,rfl,q0 rfl⟩
  · refine HT.cat_tup p1 p2 (fun z=>hx (r1.nil_iff.mp z)) (fun z=>⟨.ref a,H,I,rfl,q1 hx (r2.nil_iff.mp z)⟩) (fun z=>?_) (by rw [← r1.length,← r2.length]; exact hz)
    refine ⟨.ref s.heap.objs.size,_,I.laid (t':=s.toks) (o:=.frz { cls:=.type "tuple",data:=.seq (its ++ its2).toArray } (.tup (xs ++ ys))) (fun b ob q=>Heap.get?_push_of_some _ q) (Nat.le_refl _) ?_,rfl,q2 hx (fun w=>z (r2.nil_iff.mpr w)) _ _ (I.hok.fresh (Nat.le_refl _)) rfl⟩
    exact ⟨Heap.get?_push_size _ rfl,by rw [List.length_append]; exact hz,_,r1.append r2,IsTup.new _ _⟩
theorem o_add : OpR X (binaryOp .Add) (r2 X.kw addD):=OpR.imp (OpR.or op_add (OpR.or op_add_str (OpR.or op_catL op_catX))) fun x y H Q ⟨d,e,r,h1,h2,h3,k⟩=>by
  unfold addD at h3
  split at h3
  · next i j=>cases h3; exact .inl ⟨i,j,h1.int,h2.int,k _ H (Same.refl H) (Den.int _)⟩
  · next i j =>
    split at h3
    · next hz=>cases h3; exact .inr (.inl ⟨i,j,h1.str,h2.str,hz,k _ H (Same.refl H) (Den.str _)⟩)
    · cases h3
  · next xs ys =>
    split at h3
    · next hz =>
      cases h3
      obtain ⟨a,vs,rfl,g1,g2⟩:=h1.lst
      obtain ⟨b,ws,rfl,g3,g4⟩:=h2.lst
      exact .inr (.inr (.inl ⟨a,b,vs,ws,rfl,rfl,g1,g3,by rw [g2.length,g4.length]; exact hz,fun p hp=>new_list k hp (g2.append g4)⟩))
    · cases h3
  · next xs ys =>
    split at h3
    · next hz =>
      cases h3
      obtain ⟨a,vs,rfl,g1,g2⟩:=h1.tup
      obtain ⟨b,ws,rfl,g3,g4⟩:=h2.tup
      refine .inr (.inr (.inr ⟨a,b,vs,ws,rfl,rfl,g1.sq,g3.sq,by rw [g2.length,g4.length]; exact hz,fun z=>?_,fun _ z=>?_,fun _ _ p o hp ho=>new_tup k hp ho (g2.append g4)⟩))
      · have : xs = []:=g2.nil_iff.mp z
        subst this
        exact k _ H (Same.refl H) (Den.tup g3 g4)
      · have : ys = []:=g4.nil_iff.mp z
        subst this
        rw [List.append_nil] at k
        exact k _ H (Same.refl H) (Den.tup g1 g2)
    · cases h3
  · cases h3
theorem o_mul : OpR X (binaryOp .Mult) (r2 X.kw mulD):=OpR.imp (OpR.or op_mul op_repL) fun x y H Q ⟨d,e,r,h1,h2,h3,k⟩=>by
  unfold mulD at h3
  split at h3
  · next i j =>
    split at h3
    · next hc =>
      cases h3
      refine .inl ⟨i,j,h1.int,h2.int,?_,k _ H (Same.refl H) (Den.int _)⟩
      rcases Bool.or_eq_true_iff.mp hc with z | z
      · exact .inl (of_decide_eq_true z)
      · exact .inr (of_decide_eq_true z)
    · cases h3
  · next xs j =>
    split at h3
    · next hz =>
      cases h3
      obtain ⟨a,vs,rfl,g1,g2⟩:=h1.lst
      exact .inr ⟨a,j,vs,rfl,h2.int,g1,hz.1,hz.2.1,by rw [g2.length]; exact hz.2.2,fun p hp=>new_list k hp (g2.rep j.toNat)⟩
    · cases h3
  · cases h3
mutual
theorem Den.dp {K : KW} {H : Hp} {v : V} : ∀ {d : D},Den K H v d → SeqAt.shaped d = true → Dp K H v d:=fun {d} h z=>den_dp h (SeqAt.canLay_of_shaped z)
theorem den_dp {K : KW} {H : Hp} {v : V} {d : D} (h : Den K H v d) (z : d.canLay0 = true) : Dp K H v d:=match h with
  | .non=>.non
  | .bl b=>.bl b
  | .int i=>.int i
  | .str x=>.str x
  | .lst q r=>.lst q.sq (all_dp r (by simpa [PyData.canLay0] using z))
  | .tup q r=>.tup q.sq (all_dp r (by simpa [PyData.canLay0] using z))
  | .dct q r=>by simp [PyData.canLay0] at z
  | .dcn q r n=>by simp [PyData.canLay0] at z
theorem all_dp {K : KW} {H : Hp} {vs : List V} {ds : List D} (h : DenAll K H vs ds) (z : PyData.canLayAll0 ds = true) : DpAll K H vs ds:=match h with
  | .nil=>.nil
  | .cons q r=>by
    rw [PyData.canLayAll0,Bool.and_eq_true] at z
    exact .cons (den_dp q z.1) (all_dp r z.2)
end
theorem rdb_dp {K : KW} {H : Hp} {v : V} {d : D} (h : Rdb K H v d) (z : SeqAt.shaped d = true) : Dp K H v d:=by
  have z0:=SeqAt.canLay_of_shaped z
  cases d with
  | list ds =>
    obtain ⟨a,xs,rfl,g1,g2⟩:=h.lst
    exact .lst (.inl g1) (all_dp g2 (by simpa [PyData.canLay0] using z0))
  | dict kvs=>simp [PyData.canLay0] at z0
  | none=>exact den_dp h z0
  | bool b=>exact den_dp h z0
  | int i=>exact den_dp h z0
  | str x=>exact den_dp h z0
  | tuple xs=>exact den_dp h z0
theorem scal_eqv {K : KW} {H : Hp} {v w : V} {d e : D} (h1 : Rdb K H v d) (h2 : Rdb K H w e) (z : scalD d e = true) : scal v w = true ∧ decide (v = w) = PyData.eqv d e:=by
  unfold scalD at z
  split at z <;> first
    | (cases z; done)
    | (have g1 : Den K H v _:=h1
       have g2 : Den K H w _:=h2
       cases g1
       cases g2
       first
         | exact ⟨rfl,dec_int.trans (by simp [PyData.eqv])⟩
         | exact ⟨rfl,dec_bl.trans (by simp [PyData.eqv])⟩
         | exact ⟨rfl,dec_str.trans (by simp [PyData.eqv])⟩
         | exact ⟨rfl,by simp [PyData.eqv]⟩)
theorem o_eq (hu : X.A.units + 64 < cLine) : OpR X (compareOp .Eq) (r2 X.kw eqD):=OpR.imp (OpR.or op_eq (op_eqD hu)) fun x y H Q ⟨d,e,r,h1,h2,h3,k⟩=>by
  unfold eqD eqB at h3
  split at h3
  · next hc =>
    cases h3
    by_cases z : scalD d e = true
    · obtain ⟨z1,z2⟩:=scal_eqv h1 h2 z
      exact .inl ⟨z1,by rw [z2]; exact k _ H (Same.refl H) (Den.bl _)⟩
    · have hc : SeqAt.shaped d = true ∧ SeqAt.shaped e = true:=by simpa [z] using hc
      exact .inr ⟨d,e,rdb_dp h1 hc.1,rdb_dp h2 hc.2,hc.1,hc.2,k _ H (Same.refl H) (Den.bl _)⟩
  · cases h3
theorem o_ne (hu : X.A.units + 64 < cLine) : OpR X (compareOp .NotEq) (r2 X.kw neD):=OpR.imp (OpR.or op_ne (op_neD hu)) fun x y H Q ⟨d,e,r,h1,h2,h3,k⟩=>by
  unfold neD eqB at h3
  split at h3
  · next hc =>
    cases h3
    by_cases z : scalD d e = true
    · obtain ⟨z1,z2⟩:=scal_eqv h1 h2 z
      exact .inl ⟨z1,by rw [z2]; exact k _ H (Same.refl H) (Den.bl _)⟩
    · have hc : SeqAt.shaped d = true ∧ SeqAt.shaped e = true:=by simpa [z] using hc
      exact .inr ⟨d,e,rdb_dp h1 hc.1,rdb_dp h2 hc.2,hc.1,hc.2,k _ H (Same.refl H) (Den.bl _)⟩
  · cases h3
theorem rdb_none {K : KW} {H : Hp} {v : V} {d : D} (h : Rdb K H v d) : decide (v = .non) = isNone d:=by
  cases d with
  | none=>rw [h.non]; rfl
  | bool b=>rw [h.bl]; rfl
  | int i=>rw [h.int]; rfl
  | str x=>rw [h.str]; rfl
  | list ds=>obtain ⟨a,xs,rfl,_⟩:=h.lst; rfl
  | tuple ds=>obtain ⟨a,xs,rfl,_⟩:=h.tup; rfl
  | dict ds =>
    rcases h with ⟨a,xs,rfl,_⟩ | ⟨_,a,xs,rfl,_⟩
    · rfl
    · rfl
theorem o_isN : OpR X (compareOp .Is) (r2 X.kw isND):=OpR.imp op_isN fun x y H Q ⟨d,e,r,h1,h2,h3,k⟩=>by
  unfold isND at h3
  split at h3
  · cases h3; exact ⟨h2.non,by rw [rdb_none h1]; exact k _ H (Same.refl H) (Den.bl _)⟩
  · cases h3
theorem o_notN : OpR X (compareOp .IsNot) (r2 X.kw notND):=OpR.imp op_notN fun x y H Q ⟨d,e,r,h1,h2,h3,k⟩=>by
  unfold notND at h3
  split at h3
  · cases h3; exact ⟨h2.non,by rw [rdb_none h1]; exact k _ H (Same.refl H) (Den.bl _)⟩
  · cases h3
end
end DL
end L2
namespace L2
namespace DL
open PySem PySem.Spec PyProof.Rows
theorem keyIn_some {kvs : List (D × D)} {d : D} {k : Key} (h : keyIn kvs d = some k) : nkv kvs = false ∧ isKey d = some k:=by
  unfold keyIn at h
  cases n : nkv kvs with
  | true=>rw [n,if_pos rfl] at h; cases h
  | false=>rw [n,if_neg Bool.false_ne_true] at h; exact ⟨rfl,h⟩
theorem kEq_kD (a b : Key) : kEq (kD a) (kD b) = decide (a = b):=by
  cases a <;> cases b
  · rw [key_ll]; rfl
  · rw [key_lr]; rfl
  · rw [key_rl]; rfl
  · rw [key_rr]
    show (_ == _) = _
    rw [Bool.beq_eq_decide_eq]
theorem isKey_kD {d : D} {k : Key} (h : isKey d = some k) : d = kD k:=by
  unfold isKey at h
  split at h
  · cases h; rfl
  · cases h; rfl
  · cases h
section
variable {K : KW} {H : Hp}
theorem kv_val {k : Key} : ∀ {ks : List (Key × V)} {kvs : List (D × D)},DenKV K H ks kvs → (valV ks k = none ∧ getK kvs (kD k) = none) ∨ ∃ v d,valV ks k = some v ∧ getK kvs (kD k) = some d ∧ Den K H v d
  | _,_,.nil=>.inl ⟨rfl,rfl⟩
  | _,_,.cons (k:=k') (v:=v) (d:=d) q r=>by
    by_cases z : k' = k
    · exact .inr ⟨v,d,valV_pos z,by unfold getK; rw [kEq_kD,if_pos (decide_eq_true z)],q⟩
    · rw [valV_neg (p:=(k',v)) z]
      unfold getK
      rw [kEq_kD,if_neg (by simpa using z)]
      exact kv_val r
theorem DenKV.append : ∀ {ks ls : List (Key × V)} {a b : List (D × D)},DenKV K H ks a → DenKV K H ls b → DenKV K H (ks ++ ls) (a ++ b)
  | _,_,_,_,.nil,s=>s
  | _,_,_,_,.cons r t,s=>.cons r (t.append s)
theorem kv_any {k : Key} : ∀ {ks : List (Key × V)} {kvs : List (D × D)},DenKV K H ks kvs → (ks.any fun kv=>decide (kv.1 = k)) = kvs.any fun p=>kEq p.1 (kD k)
  | _,_,.nil=>rfl
  | _,_,.cons q r=>by rw [List.any_cons,List.any_cons,kv_any r,kEq_kD]
theorem kv_map {k : Key} {v : V} {d : D} (q : Den K H v d) : ∀ {ks : List (Key × V)} {kvs : List (D × D)},DenKV K H ks kvs → DenKV K H (ks.map fun kv=>if kv.1 = k then (kv.1,v) else kv) (kvs.map fun p=>if kEq p.1 (kD k) then (p.1,d) else p)
  | _,_,.nil=>.nil
  | _,_,.cons (k:=k') p r=>by
    rw [List.map_cons,List.map_cons]
    dsimp only
    rw [kEq_kD]
    by_cases z : k' = k
    · rw [if_pos z,if_pos (decide_eq_true z)]; exact .cons q (kv_map q r)
    · rw [if_neg z,if_neg (by simpa using z)]; exact .cons p (kv_map q r)
theorem kv_put {k : Key} {v : V} {d : D} (q : Den K H v d) {ks : List (Key × V)} {kvs : List (D × D)} (h : DenKV K H ks kvs) : DenKV K H (putK ks k v) (putD kvs (kD k) d):=by
  unfold putK putD
  rw [kv_any h]
  split
  · exact kv_map q h
  · exact h.append (.cons q .nil)
theorem putK_len {ks : List (Key × V)} {k : Key} {v : V} : (putK ks k v).length ≤ ks.length + 1:=length_putK ks k v
end
section
variable {X : Cx} {pa : Pa} {W : WX} {pos p : Pos} {a b : Expr} {f g : M Pv} {x : Str}
theorem PE.or {e : Expr} {t t' : TE} (h : PE X e t) (h' : PE X e t') : PE X e (fun σ H Q=>t σ H Q ∨ t' σ H Q):=⟨fun pins s σ H Q I q=>q.elim (h.run pins s σ H Q I) (h'.run pins s σ H Q I)⟩
theorem sOf_some {o : Option D} {r : Xv} (h : sOf o = some r) : ∃ d,o = some d ∧ r = .s d:=by
  cases o with
  | none=>cases h
  | some d=>cases h; exact ⟨d,rfl,rfl⟩
theorem all_atI {K : KW} {H : Hp} {xs : List V} {ds : List D} {i : Int} {d : D} (h : DenAll K H xs ds) (q : atI ds i = some d) : ∃ v,atI xs i = some v ∧ Den K H v d:=by
  unfold atI at q ⊢
  rw [h.length]
  cases z : ixN ds.length i with
  | none=>rw [z] at q; cases q
  | some j =>
    rw [z] at q
    exact h.get q
theorem op2_or {h h1 h2 : D → D → Option Xv} (hh : ∀ d e r,h d e = some r → h1 d e = some r ∨ h2 d e = some r) {σ : St} {H : Hp} {Q : VK} (q : tV (gd X pa W) (op2 h f g) σ H Q) : tV (gd X pa W) (op2 h1 f g) σ H Q ∨ tV (gd X pa W) (op2 h2 f g) σ H Q:=by
  obtain ⟨en,R,q⟩:=q
  unfold op2 at q
  cases hf : pk f en with
  | bad=>rw [hf] at q; exact q.elim
  | exc x e1=>rw [hf] at q; exact .inl ⟨en,R,by unfold op2; rw [hf]; exact q⟩
  | ok p e1 =>
    rw [hf] at q
    dsimp only [Rs.bind] at q
    cases hg : pk g e1 with
    | bad=>rw [hg] at q; exact q.elim
    | exc x e2=>rw [hg] at q; exact .inl ⟨en,R,by unfold op2; rw [hf]; dsimp only [Rs.bind]; rw [hg]; exact q⟩
    | ok p' e2 =>
      rw [hg] at q
      dsimp only at q
      cases z : ((p.get e2).bind fun x=>(p'.get e2).bind fun y=>h x y) with
      | none=>rw [z] at q; exact q.elim
      | some r =>
        rw [z] at q
        obtain ⟨d,g1,g2⟩:=get_some z
        obtain ⟨d',g3,g4⟩:=get_some g2
        rcases hh d d' r g4 with w | w
        · refine .inl ⟨en,R,?_⟩
          unfold op2
          rw [hf]; dsimp only [Rs.bind]; rw [hg]; dsimp only
          rw [g1,g3]; dsimp only [Option.bind]; rw [w]
          exact q
        · refine .inr ⟨en,R,?_⟩
          unfold op2
          rw [hf]; dsimp only [Rs.bind]; rw [hg]; dsimp only
          rw [g1,g3]; dsimp only [Option.bind]; rw [w]
          exact q
theorem rd_ixS {x y : V} {H : Hp} {Q : VK} : r2 X.kw ixS x y H Q → rIx X.kw x y H Q:=fun ⟨d,e,r,h1,h2,h3,k⟩=>by
  unfold ixS at h3
  split at h3
  · next xs i =>
    obtain ⟨d,g1,rfl⟩:=sOf_some h3
    obtain ⟨a,vs,rfl,g2,g3⟩:=h1.lst
    obtain ⟨v,g4,g5⟩:=all_atI g3 g1
    exact .inl ⟨a,vs,i,v,rfl,h2.int,.inl g2,g4,k v H (Same.refl H) g5⟩
  · next xs i =>
    obtain ⟨d,g1,rfl⟩:=sOf_some h3
    obtain ⟨a,vs,rfl,g2,g3⟩:=h1.tup
    obtain ⟨v,g4,g5⟩:=all_atI g3 g1
    exact .inr (.inl ⟨a,vs,i,v,rfl,h2.int,g2.sq,g4,k v H (Same.refl H) g5⟩)
  · next z i =>
    split at h3
    · next hz =>
      obtain ⟨d,g1,rfl⟩:=sOf_some h3
      cases g : atI z.cps.toList i with
      | none=>rw [g] at g1; cases g1
      | some c =>
        rw [g] at g1
        cases g1
        exact .inr (.inr ⟨z,i,c,h1.str,h2.int,hz,g,k _ H (Same.refl H) (Den.str _)⟩)
    · cases h3
  · cases h3
theorem key_v {K : KW} {H : Hp} {y : V} {ky : Key} (h : Rdb K H y (kD ky)) : y = kV ky:=by
  cases ky with
  | inl i=>exact h.int
  | inr z=>exact h.str
theorem rd_ixK {x y : V} {H : Hp} {Q : VK} : r2 X.kw ixK x y H Q → ∃ a v,x = .ref a ∧ DGet H a y (some v) ∧ Q v H:=fun ⟨d,e,r,h1,h2,h3,k⟩=>by
  unfold ixK at h3
  split at h3
  · next kvs =>
    split at h3
    · next ky hk =>
      obtain ⟨nn,hk⟩:=keyIn_some hk
      obtain ⟨dv,g1,rfl⟩:=sOf_some h3
      obtain ⟨a,ks,rfl,g2,g3⟩:=h1.dct
      have e1:=isKey_kD hk
      subst e1
      rcases kv_val (k:=ky) g3 with ⟨_,w⟩ | ⟨v,d',w1,w2,w3⟩
      · rw [g1] at w; cases w
      · rw [g1] at w2; cases w2
        exact ⟨a,v,rfl,.inl ⟨ks,ky,g2,key_v h2,w1.symm⟩,k v H (Same.refl H) w3⟩
    · cases h3
  · cases h3
theorem rd_op2' {h : D → D → Option Xv} {r : R2} (hr : ∀ x y H Q,r2 X.kw h x y H Q → r x y H Q) {σ : St} {H : Hp} {Q : VK} (q : tV (gd X pa W) (op2 h f g) σ H Q) : tOp r (tV (gd X pa W) (pk f)) (tV (gd X pa W) (pk g)) σ H Q:=by
  obtain ⟨en,R,q⟩:=rd_op2 q
  refine ⟨en,R,q.imp fun p e1 _ k v H1 T hv=>?_⟩
  obtain ⟨e1,R1,q1⟩:=k v H1 T hv
  exact ⟨e1,R1,q1.imp fun p e2 _ k2 w H2 T2 hw=>hr v w H2 Q (k2 w H2 T2 hw)⟩
theorem ev_ix (hu : X.A.units + 1 < cLine) (ha : EV X pa W a f) (hb : EV X pa W b g) (hs : PlainIx b:=by intro _ _; rfl) (hn : NoSl b:=by intro _ _; rfl) : EV X pa W (.Subscript a b pos) (op2 ixD f g):=by
  refine PE.imp (PE.or (pe_ix ix_seq (ev_pk ha) (ev_pk hb) hs) (pe_dget hu (ev_pk ha) (ev_pk hb) hn)) fun σ H Q q=>?_
  rcases op2_or (h1:=ixS) (h2:=ixK) (fun d e r h=>by
    unfold ixD at h
    split at h
    · exact .inr h
    · exact .inl h) q with q | q
  · exact .inl (rd_op2' (fun x y H Q=>rd_ixS) q)
  · exact .inr (rd_op2' (fun x y H Q=>rd_ixK) q)
theorem bX_some {o : Option Bool} {r : Xv} (h : bX o = some r) : ∃ b,o = some b ∧ r = .s (.bool b):=by
  cases o with
  | none=>cases h
  | some d=>cases h; exact ⟨d,rfl,rfl⟩
theorem nbX_some {o : Option Bool} {r : Xv} (h : nbX o = some r) : ∃ b,o = some b ∧ r = .s (.bool (!b)):=by
  cases o with
  | none=>cases h
  | some d=>cases h; exact ⟨d,rfl,rfl⟩
theorem flat_v {K : KW} {H : Hp} {v : V} {d : D} (h : Den K H v d) (z : flatD d = true) : flatV v = true:=by
  cases h with
  | non=>rfl
  | bl _=>rfl
  | int _=>rfl
  | str _=>rfl
  | lst _ _=>cases z
  | tup _ _=>cases z
  | dct _ _=>cases z
  | dcn _ _ _=>cases z
theorem eq_v {K : KW} {H : Hp} {v w : V} {d e : D} (h : Den K H v d) (z : flatD d = true) (h' : Den K H w e) (z' : flatD e = true) : eqV v w = PyData.eqv d e:=by
  cases h <;> first | (cases z; done) | (cases h' <;> first | (cases z'; done) | (simp [eqV,PyData.eqv]))
theorem in_v {K : KW} {H : Hp} {x : V} {d : D} (h : Den K H x d) (z : flatD d = true) : ∀ {vs : List V} {ds : List D},DenAll K H vs ds → ds.all flatD = true → vs.all flatV = true ∧ inV x vs = inSeq d ds
  | _,_,.nil,_=>⟨rfl,rfl⟩
  | _,_,.cons q r,w=>by
    rw [List.all_cons,Bool.and_eq_true] at w
    obtain ⟨h1,h2⟩:=in_v h z r w.2
    refine ⟨by rw [List.all_cons,flat_v q w.1,h1]; rfl,?_⟩
    unfold inV inSeq at h2 ⊢
    rw [List.any_cons,List.any_cons,h2,eq_v q w.1 h z]
theorem flat_den {K : KW} {H : Hp} {v : V} {d : D} (h : Rdb K H v d) (z : flatD d = true) : Den K H v d:=by
  cases d with
  | list _=>cases z
  | dict _=>cases z
  | none=>exact h
  | bool _=>exact h
  | int _=>exact h
  | str _=>exact h
  | tuple _=>exact h
theorem rd_inF {neg : Bool} {x y : V} {H : Hp} {Q : VK} {d e : D} {b : Bool} (h1 : Rdb X.kw H x d) (h2 : Rdb X.kw H y e) (h3 : inF d e = some b) (k : Q (.bl (if neg then !b else b)) H) : rIn X.kw neg x y H Q:=by
  unfold inF at h3
  split at h3
  · next ys =>
    split at h3
    · next z =>
      cases h3
      rw [Bool.and_eq_true] at z
      obtain ⟨a,vs,rfl,g1,g2⟩:=h2.lst
      have hd:=flat_den h1 z.1
      obtain ⟨w1,w2⟩:=in_v hd z.1 g2 z.2
      exact ⟨a,vs,rfl,.inl (.inl g1),flat_v hd z.1,w1,by rw [w2]; exact k⟩
    · cases h3
  · next ys =>
    split at h3
    · next z =>
      cases h3
      rw [Bool.and_eq_true] at z
      obtain ⟨a,vs,rfl,g1,g2⟩:=h2.tup
      have hd:=flat_den h1 z.1
      obtain ⟨w1,w2⟩:=in_v hd z.1 g2 z.2
      exact ⟨a,vs,rfl,.inr g1.sq,flat_v hd z.1,w1,by rw [w2]; exact k⟩
    · cases h3
  · cases h3
theorem op_inK (hu : X.A.units + 1 < cLine) : OpR X (compareOp .In) (fun y x H Q=>∃ a o,x = .ref a ∧ DGet H a y o ∧ Q (.bl o.isSome) H):=fun pins s σ H y x v u Q I ry rx ⟨a,o,e,g,q⟩=>by
  subst e
  obtain rfl : u = Value.ref a:=rx
  exact d_in hu I g ry fun s3 I3=>⟨.bl o.isSome,H,I3,rfl,q⟩
theorem op_notInK (hu : X.A.units + 1 < cLine) : OpR X (compareOp .NotIn) (fun y x H Q=>∃ a o,x = .ref a ∧ DGet H a y o ∧ Q (.bl (!o.isSome)) H):=fun pins s σ H y x v u Q I ry rx ⟨a,o,e,g,q⟩=>by
  subst e
  obtain rfl : u = Value.ref a:=rx
  exact d_notIn hu I g ry fun s3 I3=>⟨.bl (!o.isSome),H,I3,rfl,q⟩
theorem rd_inK {x y : V} {H : Hp} {d e : D} {b : Bool} (h1 : Rdb X.kw H x d) (h2 : Rdb X.kw H y e) (h3 : inK d e = some b) : ∃ a o,y = .ref a ∧ DGet H a x o ∧ o.isSome = b:=by
  unfold inK at h3
  split at h3
  · next kvs =>
    split at h3
    · next ky hk =>
      obtain ⟨nn,hk⟩:=keyIn_some hk
      cases h3
      obtain ⟨a,ks,rfl,g2,g3⟩:=h2.dct
      have e1:=isKey_kD hk
      subst e1
      refine ⟨a,valV ks ky,rfl,.inl ⟨ks,ky,g2,key_v h1,rfl⟩,?_⟩
      rcases kv_val (k:=ky) g3 with ⟨w1,w2⟩ | ⟨v,d',w1,w2,w3⟩
      · rw [w1,w2]; rfl
      · rw [w1,w2]; rfl
    · cases h3
  · cases h3
theorem one_sign {y : Str} {n : Nat} (h : y.cps.toList = [n]) : y = ⟨#[n]⟩:=by
  cases y with
  | mk cps =>
    congr 1
    exact Array.toList_inj.mp h
theorem o_in (hu : X.A.units + 65 < cLine) : OpR X (compareOp .In) (r2 X.kw inD):=OpR.imp (OpR.or op_in_seq (OpR.or (op_inD hu) (OpR.or (op_inK (by omega)) (OpR.or op_in_sign op_in_str)))) fun x y H Q ⟨d,e,r,h1,h2,h3,k⟩=>by
  obtain ⟨b,h4,rfl⟩:=bX_some h3
  unfold inB at h4
  have k : Q (.bl b) H:=k _ H (Same.refl H) (Den.bl _)
  split at h4
  · next b' hf=>cases h4; exact .inl (rd_inF (neg:=false) h1 h2 hf k)
  · split at h4
    · next b' hf =>
      cases h4
      unfold inN at hf
      split at hf
      · next ys =>
        split at hf
        · next z =>
          cases hf
          rw [Bool.and_eq_true] at z
          exact .inr (.inl ⟨d,_,rdb_dp h1 z.1,rdb_dp h2 z.2,z.1,z.2,k⟩)
        · cases hf
      · cases hf
    · split at h4
      · next b' hf =>
        cases h4
        obtain ⟨a,o,e1,g,e2⟩:=rd_inK h1 h2 hf
        exact .inr (.inr (.inl ⟨a,o,e1,g,by rw [e2]; exact k⟩))
      · unfold inS at h4
        split at h4
        · next y' z' =>
          split at h4
          · next n hn=>cases h4; exact .inr (.inr (.inr (.inl ⟨n,_,by rw [h1.str,one_sign hn],h2.str,k⟩)))
          · cases h4; exact .inr (.inr (.inr (.inr ⟨_,_,h1.str,h2.str,k⟩)))
        · cases h4
theorem o_notIn (hu : X.A.units + 65 < cLine) : OpR X (compareOp .NotIn) (r2 X.kw notInD):=OpR.imp (OpR.or op_notIn_seq (OpR.or (op_notInD hu) (OpR.or (op_notInK (by omega)) (OpR.or op_notIn_sign op_notIn_str)))) fun x y H Q ⟨d,e,r,h1,h2,h3,k⟩=>by
  obtain ⟨b,h4,rfl⟩:=nbX_some h3
  unfold inB at h4
  have k : Q (.bl (!b)) H:=k _ H (Same.refl H) (Den.bl _)
  split at h4
  · next b' hf=>cases h4; exact .inl (rd_inF (neg:=true) h1 h2 hf k)
  · split at h4
    · next b' hf =>
      cases h4
      unfold inN at hf
      split at hf
      · next ys =>
        split at hf
        · next z =>
          cases hf
          rw [Bool.and_eq_true] at z
          exact .inr (.inl ⟨d,_,rdb_dp h1 z.1,rdb_dp h2 z.2,z.1,z.2,k⟩)
        · cases hf
      · cases hf
    · split at h4
      · next b' hf =>
        cases h4
        obtain ⟨a,o,e1,g,e2⟩:=rd_inK h1 h2 hf
        exact .inr (.inr (.inl ⟨a,o,e1,g,by rw [e2]; exact k⟩))
      · unfold inS at h4
        split at h4
        · next y' z' =>
          split at h4
          · next n hn=>cases h4; exact .inr (.inr (.inr (.inl ⟨n,_,by rw [h1.str,one_sign hn],h2.str,k⟩)))
          · cases h4; exact .inr (.inr (.inr (.inr ⟨_,_,h1.str,h2.str,k⟩)))
        · cases h4
end
end DL
end L2
namespace L2
namespace DL
open PySem PySem.Spec PyProof.Rows
def boolsD : List D → Option (List Bool)
  | []=>some []
  | .bool b :: r=>(boolsD r).map (b :: ·)
  | _=>none
def allD : D → Option Xv
  | .list xs=>(boolsD xs).map fun bs=>.s (.bool (bs.all id))
  | _=>none
section
variable {X : Cx} {pa : Pa} {W : WX} {pos p : Pos} {a b : Expr} {f g : M Pv} {x : Str}
theorem all_bools {K : KW} {H : Hp} : ∀ {vs : List V} {ds : List D} {bs : List Bool},DenAll K H vs ds → boolsD ds = some bs → vs = bs.map V.bl
  | _,_,bs,.nil,h=>by cases h; rfl
  | _,d :: ds,bs,.cons q r,h=>by
    cases q with
    | bl b =>
      unfold boolsD at h
      cases z : boolsD ds with
      | none=>rw [z] at h; cases h
      | some cs=>rw [z] at h; cases h; rw [List.map_cons,all_bools r z]
    | non=>cases h
    | int _=>cases h
    | str _=>cases h
    | lst _ _=>cases h
    | tup _ _=>cases h
    | dct _ _=>cases h
    | dcn _ _ _=>cases h
theorem ev_len (ha : EV X pa W a f) (hm : X.mg "len" = none) (hg : Gl X "len":=by rfl) (he : starEach [a] X.env = [(false,eval a X.env)]:=by rfl) : EV X pa W (.Call (.Name "len" p) [a] [] pos) (op1 lenD f) :=
  ev_b1 (id:="len") (CallR.or call_len_seq call_len_str) (fun v H Q ⟨d,r,h1,h2,k⟩=>by
    unfold lenD at h2
    split at h2
    · cases h2
      obtain ⟨a,vs,rfl,g1,g2⟩:=h1.lst
      exact .inl ⟨a,vs,rfl,.inl (.inl g1),by rw [g2.length]; exact k _ H (Same.refl H) (Den.int _)⟩
    · cases h2
      obtain ⟨a,vs,rfl,g1,g2⟩:=h1.tup
      exact .inl ⟨a,vs,rfl,.inr g1.sq,by rw [g2.length]; exact k _ H (Same.refl H) (Den.int _)⟩
    · split at h2
      · next hz=>cases h2; exact .inr ⟨_,by rw [h1.str],hz,k _ H (Same.refl H) (Den.int _)⟩
      · cases h2
    · cases h2) ha hm hg (by decide +kernel) (by decide) (by decide) he
theorem call_tupleX : CallR X (.type "tuple") (fun xs H Q=>∃ p ys,xs = [.ref p] ∧ ((SqL X.kw H p ys ∧ ∀ l o,H l = none → o.dict = none → Q (.ref l) (upd H l (.frz o (.tup ys)))) ∨ (SqT X.kw H p ys ∧ Q (.ref p) H))):=by
  intro pins s σ H xs us Q I r h
  obtain ⟨p,ys,rfl,h⟩:=h
  obtain ⟨u,rfl,rx⟩:=vals1 r
  cases rx
  rcases h with ⟨hq,q⟩ | ⟨hq,q⟩
  · obtain ⟨its,r',pl,hz⟩:=I.list hq
    have hlen:=r'.length
    refine call_tuple_list pl.isList (fun h' kp=>?_) (by simp only [List.size_toArray] <;> omega)
    have I1 : Inv X pins σ H { s with heap:=h' }:=I.kept (t':=s.toks) kp
    have I2 : Inv X pins σ (upd H h'.objs.size (.frz { cls:=.type "tuple",data:=.seq its.toArray } (.tup ys))) { s with heap:=h'.push { cls:=.type "tuple",data:=.seq its.toArray } } :=
      I1.laid (t':=s.toks) (fun b o e=>Heap.get?_push_of_some _ e) (Nat.le_refl _) (show ObjOk X.prog X.w _ _ _ (.frz { cls:=.type "tuple",data:=.seq its.toArray } (.tup ys)) from ⟨Heap.get?_push_size _ rfl,hz,its,r',IsTup.new _ _⟩)
    exact ⟨.ref h'.objs.size,_,I2,rfl,q _ _ (I1.hok.fresh (Nat.le_refl _)) rfl⟩
  · obtain ⟨its,r',pl,hz⟩:=I.tuple hq
    exact call_tuple_same pl ⟨.ref p,H,I,rfl,q⟩
theorem ev_tuple (ha : EV X pa W a f) (hm : X.mg "tuple" = none) (hg : Gl X "tuple":=by rfl) (he : starEach [a] X.env = [(false,eval a X.env)]:=by rfl) : EV X pa W (.Call (.Name "tuple" p) [a] [] pos) (op1 tupD f) :=
  ev_t1 (id:="tuple") call_tupleX (fun v H Q ⟨d,r,h1,h2,k⟩=>by
    unfold tupD at h2
    split at h2
    · cases h2
      obtain ⟨a,vs,rfl,g1,g2⟩:=h1.lst
      exact ⟨a,vs,rfl,.inl ⟨.inl g1,fun l o hl ho=>new_tup k hl ho g2⟩⟩
    · cases h2
      obtain ⟨a,vs,rfl,g1,g2⟩:=h1.tup
      exact ⟨a,vs,rfl,.inr ⟨g1.sq,k _ H (Same.refl H) (Den.tup g1 g2)⟩⟩
    · cases h2) ha hm hg (by decide +kernel) (by decide) (by decide) he
theorem ev_list (ha : EV X pa W a f) (hm : X.mg "list" = none) (hg : Gl X "list":=by rfl) (he : starEach [a] X.env = [(false,eval a X.env)]:=by rfl) : EV X pa W (.Call (.Name "list" p) [a] [] pos) (op1 lstD f) :=
  ev_t1 (id:="list") call_list_of (fun v H Q ⟨d,r,h1,h2,k⟩=>by
    unfold lstD at h2
    split at h2
    · cases h2
      obtain ⟨a,vs,rfl,g1,g2⟩:=h1.lst
      exact ⟨a,vs,rfl,.inl (.inl g1),fun l hl=>new_list k hl g2⟩
    · cases h2
      obtain ⟨a,vs,rfl,g1,g2⟩:=h1.tup
      exact ⟨a,vs,rfl,.inr g1.sq,fun l hl=>new_list k hl g2⟩
    · cases h2) ha hm hg (by decide +kernel) (by decide) (by decide) he
theorem ev_int (ha : EV X pa W a f) (hm : X.mg "int" = none) (hg : Gl X "int":=by rfl) (he : starEach [a] X.env = [(false,eval a X.env)]:=by rfl) : EV X pa W (.Call (.Name "int" p) [a] [] pos) (op1 intD f) :=
  ev_t1 (id:="int") call_int1 (fun v H Q ⟨d,r,h1,h2,k⟩=>by
    unfold intD at h2
    split at h2
    · cases h2; exact .inl ⟨_,by rw [h1.int],k _ H (Same.refl H) (Den.int _)⟩
    · cases h2; exact .inr ⟨_,by rw [h1.bl],k _ H (Same.refl H) (Den.int _)⟩
    · cases h2) ha hm hg (by decide +kernel) (by decide) (by decide) he
theorem ev_abs (ha : EV X pa W a f) (hm : X.mg "abs" = none) (hg : Gl X "abs":=by rfl) (he : starEach [a] X.env = [(false,eval a X.env)]:=by rfl) : EV X pa W (.Call (.Name "abs" p) [a] [] pos) (op1 absD f) :=
  ev_b1 (id:="abs") call_abs (fun v H Q ⟨d,r,h1,h2,k⟩=>by
    unfold absD at h2
    split at h2
    · cases h2; exact ⟨_,by rw [h1.int],k _ H (Same.refl H) (Den.int _)⟩
    · cases h2) ha hm hg (by decide +kernel) (by decide) (by decide) he
theorem ev_all (hc : X.calm = true) (ha : EV X pa W a f) (hm : X.mg "all" = none) (hg : Gl X "all":=by rfl) (he : starEach [a] X.env = [(false,eval a X.env)]:=by rfl) : EV X pa W (.Call (.Name "all" p) [a] [] pos) (op1 allD f) :=
  ev_b1 (id:="all") (cr_all hc) (fun v H Q ⟨d,r,h1,h2,k⟩=>by
    unfold allD at h2
    split at h2
    · next xs =>
      cases z : boolsD xs with
      | none=>rw [z] at h2; cases h2
      | some bs =>
        rw [z] at h2; cases h2
        obtain ⟨a,vs,rfl,g1,g2⟩:=h1.lst
        exact ⟨a,bs,rfl,by rw [← all_bools g2 z]; exact .inl g1,k _ H (Same.refl H) (Den.bl _)⟩
    · cases h2) ha hm hg (by decide +kernel) (by decide) (by decide) he
theorem ev_min2 (hc : X.calm = true) (ha : EV X pa W a f) (hb : EV X pa W b g) (hm : X.mg "min" = none) (hg : Gl X "min":=by rfl) (he : starEach [a,b] X.env = (false,eval a X.env) :: starEach [b] X.env:=by rfl) (he2 : starEach [b] X.env = [(false,eval b X.env)]:=by rfl) (hpl : (backTo pos (starEach [b] X.env)).any (·.1) = false:=by rfl) : EV X pa W (.Call (.Name "min" p) [a,b] [] pos) (op2 min2D f g) :=
  ev_b2 (id:="min") (call_min2 hc) (fun v w H Q ⟨d,e,r,h1,h2,h3,k⟩=>by
    unfold min2D at h3
    split at h3
    · cases h3; exact ⟨_,_,by rw [h1.int,h2.int],k _ H (Same.refl H) (Den.int _)⟩
    · cases h3) ha hb hm hg (by decide +kernel) (by decide) (by decide) he he2 hpl
theorem ev_max2 (hc : X.calm = true) (ha : EV X pa W a f) (hb : EV X pa W b g) (hm : X.mg "max" = none) (hg : Gl X "max":=by rfl) (he : starEach [a,b] X.env = (false,eval a X.env) :: starEach [b] X.env:=by rfl) (he2 : starEach [b] X.env = [(false,eval b X.env)]:=by rfl) (hpl : (backTo pos (starEach [b] X.env)).any (·.1) = false:=by rfl) : EV X pa W (.Call (.Name "max" p) [a,b] [] pos) (op2 max2D f g) :=
  ev_b2 (id:="max") (call_max2 hc) (fun v w H Q ⟨d,e,r,h1,h2,h3,k⟩=>by
    unfold max2D at h3
    split at h3
    · cases h3; exact ⟨_,_,by rw [h1.int,h2.int],k _ H (Same.refl H) (Den.int _)⟩
    · cases h3) ha hb hm hg (by decide +kernel) (by decide) (by decide) he he2 hpl
def Ty.nm : Ty → String
  | .list=>"list" | .tuple=>"tuple" | .dict=>"dict" | .str=>"str" | .int=>"int" | .bool=>"bool"
def Kd.nm : Kd → String
  | .non=>"NoneType" | .bool=>"bool" | .int=>"int" | .str=>"str" | .list=>"list" | .tuple=>"tuple" | .dict=>"dict"
def tyN (d : D) : String:=(kdOf d).nm
theorem isa_kitK (T : Ty) (k : Kd) : kitB k.nm T.nm = some (isaK T k):=by
  cases T <;> cases k <;> decide +kernel
theorem isa_kit (T : Ty) (d : D) : kitB (tyN d) T.nm = some (isa T d):=isa_kitK T (kdOf d)
def TyXn (X : Cx) (H : Hp) (x : V) (t : Value) : Prop:=TyX X.K H x t ∨ ∃ a xs,x = .ref a ∧ Rd H a (NHO X.prog X.w a xs) ∧ t = .type "dict"
theorem kit_ofn {X : Cx} {pins : List (Addr × Obj)} {σ : St} {H : Hp} {s : Shared} {x : V} {u t : Value} (I : Inv X pins σ H s) (rx : RelV x u) (ty : TyXn X H x t) : ∃ P : Heap → Prop,PySem.W.KitX X.K u t P ∧ P s.heap ∧ u ≠ .builtin "__main__.__loader__#opaque":=by
  rcases ty with ty | ⟨a,xs,rfl,g,rfl⟩
  · exact kit_of I rx ty
  · obtain rfl : u = .ref a:=rx
    obtain ⟨⟨h1,h2,ys,o,es,ep,pr,ho,hx,_⟩,_⟩:=g.ok I.hok
    exact ⟨_,PySem.W.kitx_dict,⟨o,ho,hx.1⟩,fun z=>nomatch z⟩
theorem call_isiN {X : Cx} : CallR X (.builtin "isinstance") (fun xs H Q=>∃ (x c : V) (t u : Value) (b : Bool),xs = [x,c] ∧ ClsV c u ∧ TyXn X H x t ∧ PySem.W.kitOne X.K t u = some b ∧ Q (.bl b) H):=by
  intro pins s σ H xs us Q I r h
  obtain ⟨x,c,t,u,b,rfl,k,ty,e,q⟩:=h
  obtain ⟨u1,u2,rfl,r1,r2⟩:=vals2 r
  have e2:=k.eq r2
  subst e2
  obtain ⟨P,Z,p,hx⟩:=kit_ofn I r1 ty
  exact PySem.W.kia_one Z I.kIn p e hx fun tk=>⟨.bl b,H,I.tok tk,rfl,q⟩
theorem call_isiTN {X : Cx} : CallR X (.builtin "isinstance") (fun xs H Q=>∃ (x : V) (tp : Addr) (cs : List V) (t : Value) (us : List Value) (b : Bool),xs = [x,.ref tp] ∧ H tp = some (.tup cs) ∧ Paired ClsV cs us ∧ TyXn X H x t ∧ PySem.W.kitAny X.K t us = some b ∧ Q (.bl b) H):=by
  intro pins s σ H xs us Q I r h
  obtain ⟨x,tp,cs,t,ws,b,rfl,hT,k,ty,e,q⟩:=h
  obtain ⟨u1,u2,rfl,r1,r2⟩:=vals2 r
  cases (show u2 = Value.ref tp from r2)
  obtain ⟨P,Z,p,hx⟩:=kit_ofn I r1 ty
  obtain ⟨_,its,rv,o,h1,h2,n,h3⟩:=(show ObjOk X.prog X.w H s.heap tp (.tup cs) from I.hok tp _ hT)
  have e3:=ClsV.all k rv
  subst e3
  obtain ⟨oc,od,dt,sl⟩:=o
  simp only at h2 h3
  subst h2 h3
  exact PySem.W.kia_tup Z I.kIn p h1 e hx fun tk=>⟨.bl b,H,I.tok tk,rfl,q⟩
theorem rdb_ty {X : Cx} {H : Hp} {v : V} {d : D} (h : Rdb X.kw H v d) : TyXn X H v (.type (tyN d)):=by
  cases d with
  | none=>rw [h.non]; exact .inl (.base .non)
  | bool b=>rw [h.bl]; exact .inl (.base (.bl b))
  | int i=>rw [h.int]; exact .inl (.base (.int i))
  | str x=>rw [h.str]; exact .inl (.base (.str x))
  | list ds =>
    obtain ⟨a,vs,rfl,g1,g2⟩:=h.lst
    rcases g1 with g1 | ⟨o,g1⟩
    · exact .inl (.base (.lst g1))
    · exact .inl (.base (.frz g1))
  | tuple ds =>
    obtain ⟨a,vs,rfl,g1,g2⟩:=h.tup
    rcases g1 with ⟨o,g1,_⟩ | ⟨o,its,n,g1,g3,_⟩
    · exact .inl (.fTuple g1)
    · exact .inl (.kTuple g1 g3)
  | dict kvs =>
    cases nn : nkv kvs with
    | true =>
      obtain ⟨a,xs,rfl,g,_⟩:=h.dcn nn
      exact .inr ⟨a,xs,rfl,g,rfl⟩
    | false =>
      obtain ⟨a,vs,rfl,g1,g2⟩:=h.dct nn
      rcases g1 with g1 | ⟨o,g1⟩
      · exact .inl (.base (.dK g1))
      · exact .inl (.fDict g1)
theorem pe_ty (T : Ty) {n : Str} {pos : Pos} (hn : n = T.nm:=by rfl) (hm : X.mg n = none) (hg : Gl X n:=by rfl) : PE X (.Name n pos) (tC (.ty T.nm)):=by
  subst hn
  cases T <;> exact pe_bltn hg hm (by decide +kernel) rfl
theorem ev_isi1 (T : Ty) {n : Str} {q2 : Pos} (ha : EV X pa W a f) (hm : X.mg "isinstance" = none) (hT : X.mg n = none) (hn : n = T.nm:=by rfl) (hg : Gl X "isinstance":=by rfl) (hgT : Gl X n:=by rfl) (he : starEach [a,.Name n q2] X.env = (false,eval a X.env) :: starEach [.Name n q2] X.env:=by rfl) (he2 : starEach [.Name n q2] X.env = [(false,eval (.Name n q2) X.env)]:=by rfl) (hpl : (backTo pos (starEach [.Name n q2] X.env)).any (·.1) = false:=by rfl) : EV X pa W (.Call (.Name "isinstance" p) [a,.Name n q2] [] pos) (op1 (isiD [T]) f) :=
  PE.imp (pe_callB call_isiN hg hm (by decide +kernel) (pa_cons (ev_pk ha) (pa_cons (pe_ty T hn hT hgT) pa_nil he2) he) (by decide) (by decide) he hpl) fun σ H Q q=>by
    obtain ⟨en,R,q⟩:=rd_op1 q
    refine ⟨en,R,q.imp fun p e1 _ k v H1 T1 hv=>?_⟩
    obtain ⟨d,r,h1,h2,k⟩:=k v H1 T1 hv
    cases h2
    refine ⟨v,.ty T.nm,.type (tyN d),.type T.nm,isa T d,rfl,.ty _,rdb_ty h1,kit_ty (isa_kit T d),?_⟩
    have:=k (.bl ([T].any fun T=>isa T d)) H1 (Same.refl H1) (Den.bl _)
    simpa using this
theorem ev_isi2 (T T' : Ty) {n n' : Str} {q2 q3 q4 : Pos} {x1} (ha : EV X pa W a f) (hm : X.mg "isinstance" = none) (hT : X.mg n = none) (hT' : X.mg n' = none) (hn : n = T.nm:=by rfl) (hn' : n' = T'.nm:=by rfl) (hg : Gl X "isinstance":=by rfl) (hgT : Gl X n:=by rfl) (hgT' : Gl X n':=by rfl)
    (he : starEach [a,.Tuple [.Name n q2,.Name n' q3] x1 q4] X.env = (false,eval a X.env) :: starEach [.Tuple [.Name n q2,.Name n' q3] x1 q4] X.env:=by rfl) (he2 : starEach [.Tuple [.Name n q2,.Name n' q3] x1 q4] X.env = [(false,eval (.Tuple [.Name n q2,.Name n' q3] x1 q4) X.env)]:=by rfl) (hpl : (backTo pos (starEach [.Tuple [.Name n q2,.Name n' q3] x1 q4] X.env)).any (·.1) = false:=by rfl)
    (he3 : starEach [.Name n q2,.Name n' q3] X.env = (false,eval (.Name n q2) X.env) :: starEach [.Name n' q3] X.env:=by rfl) (he4 : starEach [.Name n' q3] X.env = [(false,eval (.Name n' q3) X.env)]:=by rfl) : EV X pa W (.Call (.Name "isinstance" p) [a,.Tuple [.Name n q2,.Name n' q3] x1 q4] [] pos) (op1 (isiD [T,T']) f) :=
  PE.imp (pe_callB call_isiTN hg hm (by decide +kernel) (pa_cons (ev_pk ha) (pa_cons (pe_tup (pa_cons (pe_ty T hn hT hgT) (pa_cons (pe_ty T' hn' hT' hgT') pa_nil he4) he3)) pa_nil he2) he) (by decide) (by decide) he hpl) fun σ H Q q=>by
    obtain ⟨en,R,q⟩:=rd_op1 q
    refine ⟨en,R,q.imp fun p e1 _ k v H1 T1 hv=>?_⟩
    obtain ⟨d,r,h1,h2,k⟩:=k v H1 T1 hv
    cases h2
    refine ⟨by show 2 ≤ sizeLine; decide,fun tp htp=>?_⟩
    have sm:=same_new (o:=.tup [.ty T.nm,.ty T'.nm]) htp
    have h1' : TyXn X (upd H1 tp (.tup [.ty T.nm,.ty T'.nm])) v (.type (tyN d)):=by
      have g : Rdb X.kw (upd H1 tp (.tup [.ty T.nm,.ty T'.nm])) v d:=by
        cases d with
        | list ds=>obtain ⟨a,vs,rfl,g1,g2⟩:=h1.lst; exact ⟨a,vs,rfl,g1.imp (sm _ _) fun ⟨o,z⟩=>⟨o,sm _ _ z⟩,g2.mono (gsame sm)⟩
        | dict ds =>
          cases nn : nkv ds with
          | true=>obtain ⟨a,vs,rfl,g1,g2⟩:=h1.dcn nn; exact .inr ⟨nn,a,vs,rfl,g1.imp (sm _ _) fun ⟨o,z⟩=>⟨o,sm _ _ z⟩,g2.mono (gsame sm)⟩
          | false=>obtain ⟨a,vs,rfl,g1,g2⟩:=h1.dct nn; exact .inl ⟨a,vs,rfl,g1.imp (sm _ _) fun ⟨o,z⟩=>⟨o,sm _ _ z⟩,g2.mono (gsame sm)⟩
        | none=>exact Den.mono (gsame sm) h1
        | bool _=>exact Den.mono (gsame sm) h1
        | int _=>exact Den.mono (gsame sm) h1
        | str _=>exact Den.mono (gsame sm) h1
        | tuple _=>exact Den.mono (gsame sm) h1
      exact rdb_ty g
    refine ⟨v,tp,[.ty T.nm,.ty T'.nm],.type (tyN d),[.type T.nm,.type T'.nm],[T,T'].any fun T=>isa T d,rfl,upd_same,.cons (.ty _) (.cons (.ty _) .nil),h1',?_,k _ _ sm (Den.bl _)⟩
    refine kitAny_cons (kit_ty (isa_kit T d)) (fun z=>kitAny_cons (kit_ty (isa_kit T' d)) (fun z'=>?_) (fun z'=>?_)) (fun z=>?_)
    · simp [z,z',kitAny_nil]
    · simp [z']
    · simp [z]
end
end DL
end L2
namespace L2
namespace DL
open PySem PySem.Spec PyProof.Rows
theorem looseAt {H : Hp} {a : Addr} (h : DL.Loose H a) : ∃ u,H a = Option.some u ∧ NT u:=by
  rcases h with ⟨_,w⟩ | ⟨_,w⟩ | ⟨_,w⟩
  · exact ⟨_,w,nt_lst⟩
  · exact ⟨_,w,nt_dK⟩
  · exact ⟨_,w,nt_ext⟩
section
variable {K : KW} {pa : Pa} {σ : St} {H H' : Hp} {e : Ev} {i : Nat} {t : Bool} {d d' : D} {a : Addr}
theorem Tr.mut (R : Rel K pa σ H e) (hi : e[i]? = some (.o t d)) (hs : σ[i]? = some (some (.ref a))) (fr : ∀ b x,b ≠ a → H b = some x → NT x → H' b = some x) (nn : ∀ b,H' b = none → H b = none) (gr : Grow H H') (hT : LamX.Tabs pa.T H') (ho : OwnAt K H' a d') (hk : ∀ b x,H b = some x → BK x → H' b = some x) : Tr K pa σ H e σ H' (e.set i (.o t d')):=by
  have bn : BNe σ H e σ H' (e.set i (.o t d')):=BNe.set hi (fun _ z=>by cases z) (fun _ _ z=>by cases z) (fun _ _=>rfl) hk
  have lt:=(List.getElem?_eq_some_iff.mp hi).1
  have ne : ∀ j t' x b,e[j]? = some (.o t' x) → j ≠ i → σ[j]? = some (some (.ref b)) → b ≠ a:=fun j t' x b h1 h2 h3 z=>by
    subst z
    exact h2 (R.ap j i t' t x d b h1 hi h3 hs)
  have own : ∀ b,Own σ (e.set i (.o t d')) b → Own σ e b:=fun b ⟨j,t',x,h1,h2⟩=>by
    rcases set_get h1 with ⟨q,_⟩ | ⟨_,h1⟩
    · subst q
      exact ⟨j,t,d,hi,h2⟩
    · exact ⟨j,t',x,h1,h2⟩
  refine ⟨⟨fun j x h=>?_,fun j t' x h=>?_,fun j k t1 t2 x x' b h1 h2 h3 h4=>?_,by rw [List.length_set]; exact R.ln,fun j p h=>?_,hT,bn.rel gr R.bd⟩,fun b x h n nt=>fr b x (fun z=>by subst z; exact n ⟨i,t,d,hi,hs⟩) h nt,nn,fun b h=>.inl (own b h),gr,fun j=>?_,rfl,bn.tr R.bd⟩
  · rcases set_get h with ⟨_,z⟩ | ⟨z,h⟩
    · cases z
    · obtain ⟨v,h1,h2⟩:=R.sh j x h
      exact ⟨v,h1,h2.mono gr⟩
  · rcases set_get h with ⟨rfl,z⟩ | ⟨z,h⟩
    · cases z
      obtain ⟨b,g1,g2,g3⟩:=R.ow j t d hi
      rw [hs] at g1; cases g1
      exact ⟨a,hs,ho,g3⟩
    · obtain ⟨b,h1,h2,h3⟩:=R.ow j t' x h
      obtain ⟨u,hu,nu⟩:=looseAt (h2.loose)
      exact ⟨b,h1,h2.keep gr (by rw [hu]; exact fr b u (ne j t' x b h z h1) hu nu),h3⟩
  · have q1 : ∃ y s,e[j]? = some (.o s y):=by
      rcases set_get h1 with ⟨z,_⟩ | ⟨_,h1⟩
      · rw [z]; exact ⟨d,t,hi⟩
      · exact ⟨x,t1,h1⟩
    have q2 : ∃ y s,e[k]? = some (.o s y):=by
      rcases set_get h2 with ⟨z,_⟩ | ⟨_,h2⟩
      · rw [z]; exact ⟨d,t,hi⟩
      · exact ⟨x',t2,h2⟩
    obtain ⟨y1,s1,q1⟩:=q1
    obtain ⟨y2,s2,q2⟩:=q2
    exact R.ap j k s1 s2 y1 y2 b q1 q2 h3 h4
  · rcases set_get h with ⟨_,z⟩ | ⟨z,h⟩
    · cases z
    · obtain ⟨v,h1,h2⟩:=R.xc j p h
      exact ⟨v,h1,h2.mono gr⟩
  · constructor
    · rintro ⟨x,h⟩
      by_cases z : j = i
      · subst z
        rw [hi] at h; cases h
        exact ⟨d',List.getElem?_set_self lt⟩
      · exact ⟨x,by rw [List.getElem?_set_ne (Ne.symm z)]; exact h⟩
    · rintro ⟨x,h⟩
      rcases set_get h with ⟨z,w⟩ | ⟨_,h⟩
      · cases w; rw [z]; exact ⟨d,hi⟩
      · exact ⟨x,h⟩
theorem Tr.upd {w : HO} {u : HO} (R : Rel K pa σ H e) (hi : e[i]? = some (.o t d)) (hs : σ[i]? = some (some (.ref a))) (ha : H a = some u) (hu : (∃ vs,u = .lst vs) ∨ (∃ ks,u = .dK ks) ∨ ∃ φ : MxO,u = .ext φ.1) (ho : OwnAt K (L2.upd H a w) a d') : Tr K pa σ H e σ (L2.upd H a w) (e.set i (.o t d')) :=
  Tr.mut R hi hs (fun b x n h _=>by rw [upd_ne n]; exact h) (fun b h=>by
    by_cases z : b = a
    · subst z; rw [upd_same] at h; cases h
    · rw [upd_ne z] at h; exact h) (grow_frz ha hu) (tfrz ha hu R.tb) ho (hk_upd ha hu)
theorem own_lst {vs ws : List V} {ds : List D} (h : H a = some (.lst vs)) (g : DenAll K H ws ds) : OwnAt K (L2.upd H a (.lst ws)) a (.list ds) :=
  ⟨ws,upd_same,g.mono (grow_frz h (.inl ⟨vs,rfl⟩))⟩
theorem own_dct {vs ws : List (Key × V)} {ds : List (D × D)} (h : H a = some (.dK vs)) (g : DenKV K H ws ds) : OwnAt K (L2.upd H a (.dK ws)) a (.dict ds) :=
  .inl ⟨ws,upd_same,g.mono (grow_frz h (.inr (.inl ⟨vs,rfl⟩)))⟩
end
section
variable {X : Cx} {pa : Pa} {W : WX} {pos p cpos apos : Pos} {a b : Expr} {f g : M Pv} {x : Str}
def selfL (i : Nat) (e : Ev) : Option (Bool × List D):=match e[i]? with
  | some (.o t (.list ds))=>some (t,ds)
  | _=>none
theorem selfL_some {i : Nat} {e : Ev} {t : Bool} {ds : List D} (h : selfL i e = some (t,ds)) : e[i]? = some (.o t (.list ds)):=by
  unfold selfL at h
  split at h
  · next q=>cases h; exact q
  · cases h
def appM (i : Nat) (f : M D) : M Pv:=fun e=>match selfL i e with
  | none=>.bad
  | some _=>(f e).bind fun d e1=>match selfL i e1 with
    | some (t,ds)=>if ds.length < sizeLine then .ok (.d .none) (e1.set i (.o t (.list (ds ++ [d])))) else .bad
    | none=>.bad
theorem ev_append (i : Nat) {f : M D} (hb : ED X pa W b f) {xpos : Pos} (hN : X.N[i]? = some x:=by rfl) (hv : Vis X.env.scope x:=by first | exact Or.inl rfl | exact Or.inr (Or.inl rfl) | exact Or.inr (Or.inr rfl)) (hd : (x == ("__debug__" : Str)) = false:=by decide) (hcd : (x == ("__classdict__" : Str)) = false:=by decide)
    (hbase : attributeBase (.Name x xpos) "append" X.env (eval (.Name x xpos) X.env) = eval (.Name x xpos) X.env:=by rfl)
    (hfew : ((backTo cpos (starEach [b] X.env)).all (fun x=>!x.1) && (backToKw cpos (keywordEach [] X.env)).all (fun x=>x.1.isSome) && decide ([b].length + ([] : List Keyword).length + (if ([] : List Keyword).isEmpty then 0 else 1) < 30)) = true:=by rfl)
    (hline : (apos.endLine == cpos.line) = true:=by rfl) (hs : starEach [b] X.env = [(false,eval b X.env)]:=by rfl) (hplain : (backTo cpos (starEach [] X.env)).any (·.1) = false:=by rfl) :
    EV X pa W (.Call (.Attribute (.Name x xpos) "append" apos) [b] [] cpos) (appM i f):=by
  refine PE.imp (pe_bm PySem.F.plainAttrs_list PySem.F.slot_list_append PySem.F.type_list_append mt_append (pe_var hN hv hd hcd) (pa_cons hb pa_nil hs) hbase hfew hline hs hplain) fun σ H Q ⟨en,R,q⟩=>?_
  unfold appM at q
  cases h0 : selfL i en with
  | none=>rw [h0] at q; exact q.elim
  | some td =>
    rw [h0] at q
    obtain ⟨t0,ds0⟩:=td
    obtain ⟨a0,vs0,g1,g2,g3⟩:=R.lst (selfL_some h0)
    refine ⟨_,g1,.inl ⟨rfl,_,.inl (.inl g2)⟩,en,R,(Out.bind q).imp fun d e1 _ k v H1 T hv=>?_⟩
    have k:=k H1 T
    cases h1 : selfL i e1 with
    | none=>rw [h1] at k; exact k.elim
    | some td =>
      obtain ⟨t,ds⟩:=td
      rw [h1] at k
      dsimp only at k
      split at k
      · next hz =>
        have hi:=selfL_some h1
        obtain ⟨a1,vs,w1,w2,w3⟩:=T.rel.lst hi
        rw [g1] at w1; cases w1
        refine ⟨a0,vs,v,rfl,rfl,w2,by rw [w3.length]; exact hz,k _ _ (T.trans (Tr.upd T.rel hi g1 w2 (.inl ⟨_,rfl⟩) (own_lst w2 (w3.snoc hv)))) Den.non⟩
      · exact k.elim
def popM (i : Nat) (f : M Pv) : M Pv:=fun e=>match selfL i e with
  | none=>.bad
  | some _=>(dat f e).bind fun d e1=>match selfL i e1,d with
    | some (t,ds),.int k=>(match ixN ds.length k with
      | some j=>(match ds[j]? with
        | some y=>.ok (.d y) (e1.set i (.o t (.list (ds.eraseIdx j))))
        | none=>.bad)
      | none=>.bad)
    | _,_=>.bad
theorem ev_pop (i : Nat) (hb : EV X pa W b f) {xpos : Pos} (hN : X.N[i]? = some x:=by rfl) (hv : Vis X.env.scope x:=by first | exact Or.inl rfl | exact Or.inr (Or.inl rfl) | exact Or.inr (Or.inr rfl)) (hd : (x == ("__debug__" : Str)) = false:=by decide) (hcd : (x == ("__classdict__" : Str)) = false:=by decide)
    (hbase : attributeBase (.Name x xpos) "pop" X.env (eval (.Name x xpos) X.env) = eval (.Name x xpos) X.env:=by rfl)
    (hfew : ((backTo cpos (starEach [b] X.env)).all (fun x=>!x.1) && (backToKw cpos (keywordEach [] X.env)).all (fun x=>x.1.isSome) && decide ([b].length + ([] : List Keyword).length + (if ([] : List Keyword).isEmpty then 0 else 1) < 30)) = true:=by rfl)
    (hline : (apos.endLine == cpos.line) = true:=by rfl) (hs : starEach [b] X.env = [(false,eval b X.env)]:=by rfl) (hplain : (backTo cpos (starEach [] X.env)).any (·.1) = false:=by rfl) :
    EV X pa W (.Call (.Attribute (.Name x xpos) "pop" apos) [b] [] cpos) (popM i f):=by
  refine PE.imp (PE.sized (pe_bm PySem.F.plainAttrs_list PySem.F.slot_list_pop PySem.F.type_list_pop mt_popAt (pe_var hN hv hd hcd) (pa_cons (PE.sized (ed_dat hb)) pa_nil hs) hbase hfew hline hs hplain)) fun σ H Q ⟨en,R,q⟩=>?_
  unfold popM at q
  cases h0 : selfL i en with
  | none=>rw [h0] at q; exact q.elim
  | some td =>
    rw [h0] at q
    obtain ⟨t0,ds0⟩:=td
    obtain ⟨a0,vs0,g1,g2,g3⟩:=R.lst (selfL_some h0)
    refine ⟨_,g1,.inl ⟨rfl,_,.inl (.inl g2)⟩,en,R,(Out.bind q).imp fun d e1 _ k v H1 T hv sz=>?_⟩
    have k:=k H1 T
    cases h1 : selfL i e1 with
    | none=>rw [h1] at k; exact k.elim
    | some td =>
      obtain ⟨t,ds⟩:=td
      rw [h1] at k
      have hi:=selfL_some h1
      obtain ⟨a1,vs,w1,w2,w3⟩:=T.rel.lst hi
      rw [g1] at w1; cases w1
      cases hv with
      | int ki =>
        dsimp only at k
        cases hj : ixN ds.length ki with
        | none=>rw [hj] at k; exact k.elim
        | some j =>
          rw [hj] at k
          obtain ⟨r1,r2,r3,r4⟩:=ixN_seq hj
          dsimp only at k
          cases hy : ds[j]? with
          | none=>rw [hy] at k; exact k.elim
          | some y =>
            rw [hy] at k
            obtain ⟨w,z1,z2⟩:=w3.get hy
            have hl : vs.length ≤ sizeLine:=sz.l a0 vs (.inl (.inl w2))
            have h63 : (sizeLine : Nat) < 2 ^ 63:=line63
            rw [w3.length] at hl
            refine ⟨a0,vs,ki,j,w,rfl,rfl,w2,by omega,by omega,by rw [w3.length]; exact r1,z1,fun _=>?_⟩
            have g:=grow_frz (w:=.lst (vs.eraseIdx j)) w2 (.inl ⟨vs,rfl⟩)
            exact k _ _ (T.trans (Tr.upd T.rel hi g1 w2 (.inl ⟨_,rfl⟩) (own_lst w2 (w3.erase j)))) (z2.mono g)
      | non=>exact k.elim
      | bl _=>exact k.elim
      | str _=>exact k.elim
      | lst _ _=>exact k.elim
      | tup _ _=>exact k.elim
      | dct _ _=>exact k.elim
      | dcn _ _ _=>exact k.elim
def setM (i : Nat) (f : M D) (g : M Pv) : M Fl:=fun e=>(f e).bind fun d e1=>match e1[i]? with
  | some (.o _ _)=>(dat g e1).bind fun k e2=>(match e2[i]? with
    | some (.o t (.list ds))=>(match k with
      | .int n=>(match ixN ds.length n with
        | some j=>.ok .nx (e2.set i (.o t (.list (ds.set j d))))
        | none=>.bad)
      | _=>.bad)
    | some (.o t (.dict kvs))=>(match keyIn kvs k with
      | some _=>if kvs.length < sizeLine then .ok .nx (e2.set i (.o t (.dict (putD kvs k d)))) else .bad
      | none=>.bad)
    | _=>.bad)
  | _=>.bad
theorem PS.or {st : Stmt} {t t' : TS} (h : PS X st t) (h' : PS X st t') : PS X st (fun D σ H=>t D σ H ∨ t' D σ H):=⟨fun pins s σ H D I q=>q.elim (h.run pins s σ H D I) (h'.run pins s σ H D I)⟩
theorem es_set (i : Nat) {f : M D} (hu : X.A.units + 1 < cLine) (ha : ED X pa W a f) (hb : EV X pa W b g) {xpos spos : Pos} (hN : X.N[i]? = some x:=by rfl) (hv : Vis X.env.scope x:=by first | exact Or.inl rfl | exact Or.inr (Or.inl rfl) | exact Or.inr (Or.inr rfl)) (hd : (x == ("__debug__" : Str)) = false:=by decide) (hcd : (x == ("__classdict__" : Str)) = false:=by decide)
    (has : ∀ v,assign (.Subscript (.Name x xpos) b spos) X.env v = (do
      let ov ← holding [v] (eval (.Name x xpos) X.env)
      let iv ← holding [v,ov] (eval b X.env)
      standAt spos
      holding [v,ov,iv] (setItem ov iv v)
      release [v,ov,iv] []):=by intro _; rfl) (hs : swapsWithSole [.Subscript (.Name x xpos) b spos] a pos.line X.env = pure false:=by rfl) (hw : swappedStores [.Subscript (.Name x xpos) b spos] a X.env = pure none:=by rfl)
    (h1 : (assignEach [.Subscript (.Name x xpos) b spos] X.env).map (·.2) = [assign (.Subscript (.Name x xpos) b spos) X.env]:=by rfl) (hsw : swapsWith a (some (.Subscript (.Name x xpos) b spos)) pos.line X.env = pure false:=by rfl) :
    ES X pa W (.Assign [.Subscript (.Name x xpos) b spos] a pos) (setM i f g):=by
  have L:=ps_asg (pos:=pos) ha (pg_sub (pe_var hN hv hd hcd) (ed_dat hb) set_list has) hs hw h1
  have Dc:=ps_dput (pos:=pos) hu (pe_var hN hv hd hcd) (ed_dat hb) ha hsw
  refine PS.imp (PS.or L Dc) fun D σ H ⟨en,R,q⟩=>?_
  unfold setM at q
  cases hf : f en with
  | bad=>rw [hf] at q; exact q.elim
  | exc y e1=>rw [hf] at q; exact .inl ⟨en,R,by rw [hf]; exact fun c dx H' T xd=>q c dx σ H' T xd⟩
  | ok d e1 =>
    rw [hf] at q
    dsimp only [Rs.bind] at q
    cases hi : e1[i]? with
    | none=>rw [hi] at q; exact q.elim
    | some sl =>
      cases sl with
      | u=>rw [hi] at q; exact q.elim
      | x p=>rw [hi] at q; exact q.elim
      | b t p=>rw [hi] at q; exact q.elim
      | s z=>rw [hi] at q; exact q.elim
      | o t0 d0 =>
        rw [hi] at q
        dsimp only at q
        cases hg : dat g e1 with
        | bad=>rw [hg] at q; exact q.elim
        | exc y e2 =>
          rw [hg] at q
          refine .inl ⟨en,R,Out.of hf fun v H1 T hv=>?_⟩
          obtain ⟨a0,w1,_⟩:=T.rel.ow i t0 d0 hi
          exact ⟨_,w1,e1,T.rel,by rw [hg]; exact fun c dx H' T2 xd=>q c dx σ H' (T.trans T2) xd⟩
        | ok k e2 =>
          rw [hg] at q
          dsimp only at q
          cases hi2 : e2[i]? with
          | none=>rw [hi2] at q; exact q.elim
          | some sl =>
            cases sl with
            | u=>rw [hi2] at q; exact q.elim
            | x p=>rw [hi2] at q; exact q.elim
            | b t p=>rw [hi2] at q; exact q.elim
            | s z=>rw [hi2] at q; exact q.elim
            | o t d2 =>
              rw [hi2] at q
              cases d2 with
              | list ds =>
                refine .inl ⟨en,R,Out.of hf fun v H1 T hv=>?_⟩
                obtain ⟨a0,w1,_⟩:=T.rel.ow i t0 d0 hi
                refine ⟨_,w1,e1,T.rel,Out.of hg fun kv H2 T2 hk=>?_⟩
                obtain ⟨a1,vs,z1,z2,z3⟩:=T2.rel.lst hi2
                rw [w1] at z1; cases z1
                cases hk with
                | int n =>
                  dsimp only at q
                  cases hj : ixN ds.length n with
                  | none=>rw [hj] at q; exact q.elim
                  | some j =>
                    rw [hj] at q
                    exact ⟨a0,vs,n,j,rfl,rfl,z2,by rw [z3.length]; exact hj,q σ _ ((T.trans T2).trans (Tr.upd T2.rel hi2 w1 z2 (.inl ⟨_,rfl⟩) (own_lst z2 (DenAll.set (hv.mono T2.gr) j z3))))⟩
                | non=>exact q.elim
                | bl _=>exact q.elim
                | str _=>exact q.elim
                | lst _ _=>exact q.elim
                | tup _ _=>exact q.elim
                | dct _ _=>exact q.elim
                | dcn _ _ _=>exact q.elim
              | dict kvs =>
                refine .inr ⟨en,R,Out.of hf fun v H1 T hv=>?_⟩
                obtain ⟨a0,w1,_⟩:=T.rel.ow i t0 d0 hi
                refine ⟨_,w1,e1,T.rel,Out.of hg fun kv H2 T2 hk=>?_⟩
                dsimp only at q
                cases hky : keyIn kvs k with
                | none=>rw [hky] at q; exact q.elim
                | some ky =>
                  rw [hky] at q
                  obtain ⟨nn,hky⟩:=keyIn_some hky
                  obtain ⟨a1,vs,z1,z2,z3⟩:=T2.rel.dct hi2 nn
                  rw [w1] at z1; cases z1
                  dsimp only at q
                  split at q
                  · next hz =>
                    have e1:=isKey_kD hky
                    subst e1
                    have ek : kv = kV ky:=key_v (Den.rdb hk)
                    subst ek
                    exact ⟨a0,_,rfl,DPut.k (k:=ky) z2 (by rw [z3.length]; exact hz),q σ _ ((T.trans T2).trans (Tr.upd T2.rel hi2 w1 z2 (.inr (.inl ⟨_,rfl⟩)) (own_dct z2 (kv_put (hv.mono T2.gr) z3))))⟩
                  · exact q.elim
              | none=>exact q.elim
              | bool _=>exact q.elim
              | int _=>exact q.elim
              | str _=>exact q.elim
              | tuple _=>exact q.elim
def callR (m : List Sl → Rf) (f : M Pv) (g : M (List D)) : M Pv:=fun e=>(f e).bind fun p e1=>(g e1).bind fun ds e2=>match p with
  | .d _=>.bad
  | .r i=>(match e2[i]? with
    | some (.o t d)=>(match m (.o true d :: ds.map .s) with
      | .ok x [d']=>.ok x.pv (e2.set i (.o t d'))
      | .exc x [d']=>.exc x (e2.set i (.o t d'))
      | _=>.bad)
    | _=>.bad)
  | .o d=>(match m (.o true d :: ds.map .s) with
    | .ok x [_]=>.ok x.pv e2
    | _=>.bad)
theorem tieB_r {H : Hp} {q b : Addr} {t : Bool} {d : D} {vs : List V} {ds : List D} {i : Nat} (h : TieB H (.ref q :: vs) (.o t d :: ds.map .s) i b) : False:=by
  obtain ⟨t',d',a,h1,_⟩:=h
  cases i with
  | zero=>simp at h1
  | succ i=>exact absurd h1 (by simp)
theorem argsOk_r {K : KW} {H : Hp} {q : Addr} {d : D} {vs : List V} {ds : List D} (ho : OwnAt K H q d) (h : DenAll K H vs ds) : ArgsOk K H (.ref q :: vs) (.o true d :: ds.map .s):=by
  refine ⟨by simp [h.length],fun i v a h1 h2=>?_,fun i j t t' d d' a h1 h2 _ _=>?_,fun _ _ _ h _=>(tieB_r h).elim⟩
  · cases i with
    | zero=>simp at h1 h2; subst h1 h2; exact ⟨rfl,q,rfl,ho⟩
    | succ i=>exact args_data h i v a (by simpa using h1) (by simpa using h2)
  · cases i with
    | succ i=>exact absurd h1 (by simp)
    | zero =>
      cases j with
      | zero=>rfl
      | succ j=>exact absurd h2 (by simp)
theorem tied_r {q b : Addr} {d : D} {vs : List V} {ds : List D} (h : Tied (.ref q :: vs) (.o true d :: ds.map .s) b) : b = q:=by
  obtain ⟨i,t,d',h1,h2⟩:=h
  cases i with
  | zero=>simp at h2; exact h2.symm
  | succ i=>exact absurd h1 (by simp)
theorem outs_r {K : KW} {H : Hp} : ∀ {vs : List V} {ds : List D} {os : List D},OutsAt K H vs (ds.map .s) os → os = []
  | [],[],os,h=>h
  | v :: vs,d :: ds,os,h=>outs_r (vs:=vs) (ds:=ds) h
  | [],d :: ds,os,h=>h.elim
  | v :: vs,[],os,h=>h.elim
theorem rd_callR {m : List Sl → Rf} {f : M Pv} {g : M (List D)} {σ : St} {H : Hp} {Q : VK} {n : Nat} (hn : ∀ e ds e',g e = .ok ds e' → ds.length + 1 = n) (q : tV (gd X pa W) (callR m f g) σ H Q) :
    tV (gd X pa W) f σ H fun v H1=>tDs (gd X pa W) g σ H1 fun vs H2=>spD X.kw pa.T X.mg m n (v :: vs) H2 Q (WE W σ):=by
  obtain ⟨en,R,q⟩:=q
  refine ⟨en,R,(Out.bind q).imp fun p e1 _ k v H1 T hv=>?_⟩
  refine ⟨e1,T.rel,(Out.bind (k H1 T)).imp fun ds e2 hg k2 vs H2 T2 hvs=>?_⟩
  have k2:=k2 H2 T2
  have T12:=T.trans T2
  cases p with
  | d x=>exact k2.elim
  | r i =>
    dsimp only at k2
    cases hi : e2[i]? with
    | none=>rw [hi] at k2; exact k2.elim
    | some sl =>
      cases sl with
      | u=>rw [hi] at k2; exact k2.elim
      | x p=>rw [hi] at k2; exact k2.elim
      | b t p=>rw [hi] at k2; exact k2.elim
      | s z=>rw [hi] at k2; exact k2.elim
      | o t d =>
        rw [hi] at k2
        dsimp only at k2
        obtain ⟨a0,w1,w2,_⟩:=T2.rel.ow i t d hi
        have hv : σ[i]? = some (some v):=hv
        rw [hv] at w1; cases w1
        refine ⟨by rw [List.length_cons,hvs.length]; exact hn _ _ _ hg,T2.rel.tb,_,argsOk_r w2 hvs,?_⟩
        have tr : ∀ {H' : Hp} {d' : DL.D},CallTr X.kw pa.T H2 (.ref a0 :: vs) (.o true d :: ds.map .s) H' [d'] → Tr X.kw pa σ H2 e2 σ H' (e2.set i (.o t d')):=fun {H' d'} c=>by
          obtain ⟨d1,r,e,⟨q1,e1,o1⟩,_⟩:=c.out
          cases e; cases e1
          exact Tr.mut T2.rel hi hv (fun b x nb h nt=>c.fr b x h (fun z=>nb (tied_r z)) nt) c.nn c.gr c.tb o1 (fun b x h k=>c.fb b x h k fun _=>tieB_r)
        cases hm : m (.o true d :: ds.map .s) with
        | bad=>rw [hm] at k2; exact k2.elim
        | exc x outs =>
          rw [hm] at k2
          intro c dx H' ct xd
          obtain ⟨d1,r,e,_,o2⟩:=ct.out
          have er:=outs_r o2
          subst er; subst e
          exact k2 c dx H' (tr ct) xd
        | ok x outs =>
          rw [hm] at k2
          intro w H' ct nw
          obtain ⟨d1,r,e,_,o2⟩:=ct.out
          have er:=outs_r o2
          subst er; subst e
          refine k2 w H' (T12.trans (tr ct)) ?_
          cases x with
          | s y=>exact nw
          | o y =>
            obtain ⟨b,e1,hn1,ho1⟩:=nw
            refine ⟨b,e1,T12.nn b hn1,ho1,fun z=>?_⟩
            obtain ⟨j,tj,dj,g1,g2⟩:=z
            rcases set_get g1 with ⟨ej,_⟩ | ⟨_,g1⟩
            · rw [ej,hv] at g2
              have eb : a0 = b:=V.ref.inj (Option.some.inj (Option.some.inj g2))
              rw [← eb] at hn1
              exact w2.loose.some hn1
            · exact (T2.rel.loose ⟨j,tj,dj,g1,g2⟩).some hn1
  | o d =>
    dsimp only at k2
    obtain ⟨a0,rfl,hn0,ho0,no0⟩:=hv
    have own0 : OwnAt X.kw H2 a0 d:=ho0.keep T2.gr (by
      obtain ⟨u,hu,nu⟩:=looseAt (ho0.loose)
      rw [hu]; exact T2.fr a0 u hu no0 nu)
    have no2 : ¬ Own σ e2 a0:=fun z=>by
      rcases T2.ow a0 z with z | z
      · exact no0 z
      · exact ho0.loose.some z
    refine ⟨by rw [List.length_cons,hvs.length]; exact hn _ _ _ hg,T2.rel.tb,_,argsOk_r own0 hvs,?_⟩
    have tr : ∀ {H' : Hp} {os : List DL.D},CallTr X.kw pa.T H2 (.ref a0 :: vs) (.o true d :: ds.map .s) H' os → Tr X.kw pa σ H en σ H' e2:=fun {H' os} c=>by
      have ne : ∀ b,Own σ e2 b → b ≠ a0:=fun b z e=>no2 (e ▸ z)
      have hk : ∀ b x,H2 b = some x → BK x → H' b = some x:=fun b x h k=>c.fb b x h k fun _=>tieB_r
      refine ⟨T2.rel.keep c.gr c.tb (fun b z=>?_) hk,fun b x h nb nt=>?_,fun b h=>T12.nn b (c.nn b h),T12.ow,T12.gr.trans c.gr,T12.td,T12.ln,T12.bt.trans T12.nn ((BNe.hp hk).tr T2.rel.bd)⟩
      · obtain ⟨u,hu,nu⟩:=looseAt (T2.rel.loose z)
        rw [hu]; exact c.fr b u hu (fun w=>ne b z (tied_r w)) nu
      · refine c.fr b x (T12.fr b x h nb nt) (fun w=>?_) nt
        rw [tied_r w,hn0] at h; cases h
    cases hm : m (.o true d :: ds.map .s) with
    | bad=>rw [hm] at k2; exact k2.elim
    | exc x outs =>
      rw [hm] at k2
      exact k2.elim
    | ok x outs =>
      rw [hm] at k2
      intro w H' ct nw
      obtain ⟨d1,r,e,_,o2⟩:=ct.out
      have er:=outs_r o2
      subst er; subst e
      refine k2 w H' (tr ct) ?_
      cases x with
      | s y=>exact nw
      | o y =>
        obtain ⟨b,e1,hn1,ho1⟩:=nw
        exact ⟨b,e1,T12.nn b hn1,ho1,fun z=>(T2.rel.loose z).some hn1⟩
theorem ev_callR {k : Nat} {fa : Addr} {fd : FuncData} {ps : List Str} {m : List Sl → Rf} {e : Expr} {es : List Expr} {f : M Pv} {g : M (List D)} (F : FnOk X.prog X.w X.kw X.mg X.base (L2.CX X.prog X.w) k fa fd ps (spD X.kw pa.T X.mg m ps.length)) (hr : Room k X.A) (tk : Takes X W) (hg : Gl X x) (hm : X.mg x = some (.ref fa)) (hk : PySem.W.keepIn X.kw (.ref fa) = true) (hb : Binds X.kw fd ps [])
    (ha : EV X pa W e f) (has : EA X pa W es g) (hl : es.length + 1 = ps.length:=by rfl) (hdb : (x == ("__debug__" : Str)) = false:=by decide) (he : starEach (e :: es) X.env = (false,eval e X.env) :: starEach es X.env:=by rfl) (hpl : (backTo pos (starEach es X.env)).any (·.1) = false:=by rfl) :
    EV X pa W (.Call (.Name x p) (e :: es) [] pos) (callR m f g) :=
  PE.imp (pe_callS F hr hg hm hk hb (passAt tk) (pa_cons ha has.run he) hdb he hpl) fun σ H Q q=>rd_callR (fun e ds e' h=>by rw [has.len e ds e' h]; exact hl) q
def intoU (i : Nat) (p : Pv) (e : Ev) : Rs Unit:=match into i p e with
  | .ok _ e'=>.ok () e'
  | _=>.bad
def par2 (i j : Nat) (f g : M Pv) : M Fl:=fun e=>(f e).bind fun p e1=>(g e1).bind fun q e2=>(intoU i p e2).bind fun _ e3=>into j q e3
theorem PvIs.step {K : KW} {σ : St} {H H1 H2 : Hp} {e1 e2 : Ev} {v : V} {q : Pv} (h : PvIs K σ H H1 e1 v q) (T : Tr K pa σ H1 e1 σ H2 e2) : PvIs K σ H H2 e2 v q:=by
  cases q with
  | d x=>exact Den.mono T.gr h
  | r i=>exact h
  | o x =>
    obtain ⟨a,h1,h2,h3,h4⟩:=h
    refine ⟨a,h1,h2,h3.keep T.gr ?_,fun z=>?_⟩
    · obtain ⟨u,hu,nu⟩:=looseAt (h3.loose)
      rw [hu]; exact T.fr a u hu h4 nu
    · rcases T.ow a z with z | z
      · exact h4 z
      · exact h3.loose.some z
theorem into_tr {K : KW} {σ0 σ : St} {H H1 : Hp} {e e1 e2 : Ev} {i : Nat} {q : Pv} {v : V} (T : Tr K pa σ0 H e σ H1 e1) (hd : ∀ x,q = .d x → Den K H1 v x) (ho : ∀ x,q = .o x → ∃ a,v = .ref a ∧ H a = none ∧ OwnAt K H1 a x ∧ ¬ Own σ e1 a) (k : into i q e1 = .ok .nx e2) : Tr K pa σ0 H e (σ.set i (some v)) H1 e2:=by
  unfold into at k
  cases hi : e1[i]? with
  | none=>rw [hi] at k; cases k
  | some sl =>
    rw [hi] at k
    have go : (∀ {d : DL.D},TiB sl d → False) → into2 i q e1 = .ok .nx e2 → Tr K pa σ0 H e (σ.set i (some v)) H1 e2:=fun hy k=>by
      cases q with
      | d x=>cases k; exact T.put_s hi hy (hd x rfl)
      | o x =>
        cases k
        obtain ⟨a,rfl,h2,h3,h4⟩:=ho x rfl
        exact T.put_o hi hy h3 (.inl h2) h4
      | r j=>cases k
    cases sl with
    | u=>exact go (fun z=>by rcases z with z | z <;> cases z) k
    | x p=>exact go (fun z=>by rcases z with z | z <;> cases z) k
    | b t d=>cases t with
      | true=>cases k
      | false=>exact go (fun z=>by rcases z with z | z <;> cases z) k
    | s d=>exact go (fun z=>by rcases z with z | z <;> cases z) k
    | o t d =>
      cases t with
      | true=>cases k
      | false=>exact go (fun z=>by rcases z with z | z <;> cases z) k
theorem into_nx {i : Nat} {q : Pv} {e e' : Ev} {fl : Fl} (h : into i q e = .ok fl e') : fl = .nx:=by
  unfold into at h
  split at h
  · cases h
  · cases h
  · cases h
  · unfold into2 at h
    split at h <;> first | (cases h; rfl) | cases h
theorem es_par2 (i j : Nat) {y : Str} {px py pt : Pos} {kt k2 pt2} (hc : X.calm = true) (hN : X.N.Nodup) (ha : EV X pa W a f) (hb : EV X pa W b g)
    (hw : swappedStores [.Tuple [.Name x px,.Name y py] kt pt] (.Tuple [a,b] k2 pt2) X.env = pure (some [x,y])) (hi : X.N[i]? = some x:=by rfl) (hj : X.N[j]? = some y:=by rfl) (hij : i ≠ j:=by decide)
    (hx : X.env.scope.names.lookup x = some .local:=by rfl) (hy : X.env.scope.names.lookup y = some .local:=by rfl)
    (hs : swapsWithSole [.Tuple [.Name x px,.Name y py] kt pt] (.Tuple [a,b] k2 pt2) pos.line X.env = pure false:=by rfl) (he : starEach [a,b] X.env = (false,eval a X.env) :: starEach [b] X.env:=by rfl) (he2 : starEach [b] X.env = [(false,eval b X.env)]:=by rfl) :
    ES X pa W (.Assign [.Tuple [.Name x px,.Name y py] kt pt] (.Tuple [a,b] k2 pt2) pos) (par2 i j f g) :=
  PS.imp (ps_par hc hN hi hj hij hx hy (pa_cons ha (pa_cons hb pa_nil he2) he) hw hs) fun D σ H ⟨en,R,q⟩=>⟨en,R,outS_of q fun p e1 _ k v H1 T hv=>by
    refine ⟨e1,T.rel,outS_of (OutS.back (G:=gd X pa W) T k) fun p' e2 hg k2 w H2 T2 hw=>?_⟩
    have k0 : OutS (gd X pa W) σ H en ((intoU i p e2).bind fun _ e3=>into j p' e3) D:=by
      rw [hg] at k; exact k
    have T12:=T.trans T2
    have hv2:=hv.step T2
    cases hI : into i p e2 with
    | bad=>unfold intoU at k0; rw [hI] at k0; exact k0.elim
    | exc _ _=>unfold intoU at k0; rw [hI] at k0; exact k0.elim
    | ok fl e3 =>
      have ef:=into_nx hI
      subst ef
      unfold intoU at k0; rw [hI] at k0
      dsimp only [Rs.bind] at k0
      have T3:=into_tr T12 (fun x e=>by subst e; exact hv2) (fun x e=>by subst e; exact hv2) hI
      refine ⟨v,w,rfl,?_⟩
      cases hJ : into j p' e3 with
      | bad=>rw [hJ] at k0; exact k0.elim
      | exc _ _ =>
        exfalso
        unfold into at hJ
        split at hJ
        · cases hJ
        · cases hJ
        · cases hJ
        · unfold into2 at hJ
          split at hJ <;> cases hJ
      | ok fl e4 =>
        have ef:=into_nx hJ
        subst ef
        rw [hJ] at k0
        refine k0 _ H2 (into_tr T3 (fun x e=>by subst e; exact hw) (fun x e=>?_) hJ)
        subst e
        obtain ⟨b',h1,h2,h3,h4⟩:=hw
        refine ⟨b',h1,T.nn b' h2,h3,fun z=>?_⟩
        rcases T3.ow b' z with z' | z'
        · exact absurd h2 (by
            intro h2
            exact (R.loose z').some (T.nn b' h2))
        · -- the first one's own object is another
          obtain ⟨l,t,d,g1,g2⟩:=z
          cases p with
          | r _ =>
            unfold into at hI
            split at hI
            · cases hI
            · cases hI
            · cases hI
            · cases hI
          | d x =>
            unfold into at hI
            split at hI
            · cases hI
            · cases hI
            · cases hI
            · cases hI
              rcases set_get g1 with ⟨_,c⟩ | ⟨n1,g1⟩
              · cases c
              · rw [List.getElem?_set_ne (Ne.symm n1)] at g2
                exact h4 ⟨l,t,d,g1,g2⟩
          | o x =>
            obtain ⟨a',i1,i2,i3,i4⟩:=hv
            unfold into at hI
            split at hI
            · cases hI
            · cases hI
            · cases hI
            · cases hI
              rcases set_get g1 with ⟨e1,c⟩ | ⟨n1,g1⟩
              · rcases set_get g2 with ⟨_,c2⟩ | ⟨n2,_⟩
                · rw [i1] at c2
                  have : b' = a':=V.ref.inj (Option.some.inj c2)
                  subst this
                  exact i3.loose.some h2
                · exact n2 e1
              · rw [List.getElem?_set_ne (Ne.symm n1)] at g2
                exact h4 ⟨l,t,d,g1,g2⟩⟩
end
end DL
end L2
namespace L2
namespace DL
open PySem PySem.Spec PyProof.Rows
def upTo (lo : Int) : Nat → List D
  | 0=>[]
  | n + 1=>.int lo :: upTo (lo + 1) n
theorem upTo_len : ∀ (n : Nat) (lo : Int),(upTo lo n).length = n
  | 0,_=>rfl
  | n + 1,lo=>by unfold upTo; rw [List.length_cons,upTo_len n]
theorem upTo_get : ∀ (n : Nat) (lo : Int) (i : Nat),i < n → (upTo lo n)[i]? = some (.int (lo + i))
  | n + 1,lo,0,_=>by unfold upTo; simp
  | n + 1,lo,i + 1,h=>by
    unfold upTo
    rw [List.getElem?_cons_succ,upTo_get n (lo + 1) i (by omega)]
    congr 2
    omega
theorem walkD_range {K : KW} {H : Hp} {lo : Int} {n : Nat} (hz : n ≤ sizeLine) : WalkD false K (Itr lo n) (upTo lo n) H:=by
  refine ⟨⟨fun _=>True,fun i H x H'=>i < n ∧ H' = H ∧ x = .int (lo + i),?_,fun _ _=>trivial,fun i H1 v H' g y=>?_⟩,by rw [upTo_len]; exact hz⟩
  · rw [upTo_len]
    exact ⟨fun _ _ hi _=>hi,fun _ _=>Nat.le_refl _,fun i H x H' hi _ y=>⟨hi,y.1,y.2⟩⟩
  · obtain ⟨hi,rfl,rfl⟩:=y
    exact ⟨Same.refl _,_,upTo_get n lo i hi,.inl (.int _)⟩
theorem pair_den {K : KW} {H : Hp} {T : Addr} {x y : V} {d e : D} (hT : H T = none) (h1 : Den K H x d) (h2 : Den K H y e) : Same H (upd H T (.tup [x,y])) ∧ DenB true K (upd H T (.tup [x,y])) (.ref T) (.tuple [d,e]):=by
  have sm:=same_new (o:=.tup [x,y]) hT
  exact ⟨sm,.inr ⟨rfl,T,_,_,rfl,.inl (.inl upd_same),rfl,.cons (h1.mono (gsame sm)) (.cons (h2.mono (gsame sm)) .nil)⟩⟩
theorem numbered_len : ∀ (ds : List D) (n : Nat),(numbered n ds).length = ds.length
  | [],_=>rfl
  | d :: r,n=>by unfold numbered; rw [List.length_cons,List.length_cons,numbered_len r]
theorem numbered_get : ∀ (ds : List D) (n i : Nat) (d : D),ds[i]? = some d → (numbered n ds)[i]? = some (.tuple [.int ((n + i : Nat) : Int),d])
  | d :: r,n,0,x,h=>by simp at h; subst h; unfold numbered; simp
  | d :: r,n,i + 1,x,h=>by
    unfold numbered
    rw [List.getElem?_cons_succ,numbered_get r (n + 1) i x (by simpa using h)]
    congr 4
    omega
theorem walkD_enum {K : KW} {H : Hp} {a : Addr} {xs : List V} {ds : List D} (h : FzL K H a xs) (r : DenAll K H xs ds) (z : Sized K H) : WalkD true K (Ite K a) (numbered 0 ds) H:=by
  have hl : (numbered 0 ds).length = xs.length:=by rw [numbered_len,r.length]
  refine ⟨⟨fun H'=>SqL K H' a xs,_,by rw [hl]; exact walk_enum,fun H' g=>(h.mono g).sq,fun i H1 v H' g y=>?_⟩,by rw [hl]; exact z.l a xs h.sq⟩
  obtain ⟨T,x,w,rfl,hT,rfl,e1,e2⟩:=y
  cases e1
  obtain ⟨d,h1,h2⟩:=all_get r e2
  obtain ⟨p1,p2⟩:=pair_den hT (Den.int (K:=K) ((i : Nat) : Int)) (h2.mono g)
  refine ⟨p1,_,numbered_get ds 0 i d h1,?_⟩
  rw [Nat.zero_add]
  exact p2
theorem zipP_len : ∀ (xs ys : List D),(zipP xs ys).length = min xs.length ys.length
  | [],_=>by simp [zipP]
  | _ :: _,[]=>by simp [zipP]
  | x :: xs,y :: ys=>by simp only [zipP,List.length_cons,zipP_len xs ys]; omega
theorem zipP_get : ∀ (xs ys : List D) (i : Nat) (x y : D),xs[i]? = some x → ys[i]? = some y → (zipP xs ys)[i]? = some (.tuple [x,y])
  | x :: xs,y :: ys,0,a,b,h1,h2=>by simp at h1 h2; subst h1 h2; rfl
  | x :: xs,y :: ys,i + 1,a,b,h1,h2=>by
    unfold zipP
    rw [List.getElem?_cons_succ]
    exact zipP_get xs ys i a b (by simpa using h1) (by simpa using h2)
  | [],_,i,a,b,h1,_=>by simp at h1
  | _ :: _,[],i,a,b,_,h2=>by simp at h2
theorem walk_zipT {K : KW} {a b : Addr} {xs ys : List V} {n : Nat} (hn : n = min xs.length ys.length) : Walk (RZ.ItzT K a b) n (fun H=>SqT K H a xs ∧ SqT K H b ys) (YPair (fun i=>xs[i]?) (fun i=>ys[i]?)):=by
  subst hn
  refine ⟨fun i _ hi q=>?_,fun _ q=>⟨xs,ys,q.1,q.2,by omega⟩,fun i H v H' _ q y=>?_⟩
  · have h1 : i < xs.length:=by omega
    have h2 : i < ys.length:=by omega
    exact ⟨xs,ys,xs[i],ys[i],q.1,q.2,by simp [h1],by simp [h2]⟩
  · obtain ⟨T,x,z,h1,h2,h3,h4,h5⟩:=y
    exact ⟨T,x,z,h1,h2,h3,h4 xs q.1,h5 ys q.2⟩
theorem pairs_y {K : KW} {H0 : Hp} {xs ys : List V} {ds es : List D} (r1 : DenAll K H0 xs ds) (r2 : DenAll K H0 ys es) {i : Nat} {H1 H' : Hp} {v : V} (g : Grow H0 H1) (y : YPair (fun i=>xs[i]?) (fun i=>ys[i]?) i H1 v H') : Same H1 H' ∧ ∃ d,(zipP ds es)[i]? = some d ∧ DenB true K H' v d:=by
  obtain ⟨T,x,w,rfl,hT,rfl,e1,e2⟩:=y
  obtain ⟨d,h1,h2⟩:=all_get r1 e1
  obtain ⟨d',h3,h4⟩:=all_get r2 e2
  obtain ⟨p1,p2⟩:=pair_den hT (h2.mono g) (h4.mono g)
  exact ⟨p1,_,zipP_get ds es i d d' h1 h3,p2⟩
theorem walkD_zipL {K : KW} {H : Hp} {a b : Addr} {xs ys : List V} {ds es : List D} (h : FzL K H a xs) (r : DenAll K H xs ds) (h' : FzL K H b ys) (r' : DenAll K H ys es) (z : Sized K H) : WalkD true K (Itz K a b) (zipP ds es) H:=by
  have hl : (zipP ds es).length = min xs.length ys.length:=by rw [zipP_len,r.length,r'.length]
  refine ⟨⟨fun H=>SqL K H a xs ∧ SqL K H b ys,YPair (fun i=>xs[i]?) (fun i=>ys[i]?),by rw [hl]; exact walk_zip rfl,fun H' g=>⟨(h.mono g).sq,(h'.mono g).sq⟩,fun i H1 v H' g y=>pairs_y r r' g y⟩,?_⟩
  rw [hl]
  have:=z.l a xs h.sq
  omega
theorem walkD_zipT {K : KW} {H : Hp} {a b : Addr} {xs ys : List V} {ds es : List D} (h : FzT K H a xs) (r : DenAll K H xs ds) (h' : FzT K H b ys) (r' : DenAll K H ys es) (z : Sized K H) : WalkD true K (RZ.ItzT K a b) (zipP ds es) H:=by
  have hl : (zipP ds es).length = min xs.length ys.length:=by rw [zipP_len,r.length,r'.length]
  refine ⟨⟨fun H=>SqT K H a xs ∧ SqT K H b ys,YPair (fun i=>xs[i]?) (fun i=>ys[i]?),by rw [hl]; exact walk_zipT rfl,fun H' g=>⟨(h.mono g).sq,(h'.mono g).sq⟩,fun i H1 v H' g y=>pairs_y r r' g y⟩,?_⟩
  rw [hl]
  have:=z.t a xs h.sq
  omega
theorem walkD_values {K : KW} {H : Hp} {a : Addr} {o : Obj} {ks : List (Key × V)} {kvs : List (D × D)} (h : H a = some (.frz o (.dK ks))) (r : DenKV K H ks kvs) (z : Sized K H) : WalkD false K (Itd a o ks) (kvs.map (·.2)) H:=by
  have hl : (kvs.map (·.2)).length = ks.length:=by rw [List.length_map,r.length]
  refine ⟨⟨_,_,by rw [hl]; exact walk_values,fun H' g=>g.fz _ _ _ h,fun i H1 v H' g y=>?_⟩,by rw [hl]; exact z.d a ks (.inr ⟨o,h⟩)⟩
  obtain ⟨rfl,k,h1⟩:=y
  obtain ⟨d,h2,h3⟩:=kv_get r h1
  exact ⟨Same.refl _,d,by rw [List.getElem?_map,h2]; rfl,.inl (h3.mono g)⟩
section
variable {X : Cx} {pa : Pa} {W : WX} {pos p apos cpos tpos : Pos} {tg a b : Expr} {f g : M D} {x : Str} {elts : List Expr} {kk : Nat}
def rngOk (n : Int) : Bool:=decide (-(2 ^ 62) ≤ n) && decide (n ≤ 16777216)
def rng1 (f : M D) : M (List D):=fun e=>(f e).bind fun d e1=>match d with
  | .int n=>if rngOk n then .ok (upTo 0 n.toNat) e1 else .bad
  | _=>.bad
theorem ei_range1 (ha : ED X pa W a f) (hm : X.mg "range" = none) (hg : Gl X "range":=by rfl) (hs : starEach [a] X.env = [(false,eval a X.env)]:=by rfl) : EI X pa W false tg (.Call (.Name "range" p) [a] [] pos) (rng1 f):=by
  refine PI.imp (pi_range1 hg hm (pa_cons ha pa_nil hs) hs) fun σ H R ⟨en,Re,q⟩=>⟨en,Re,(Out.bind q).imp fun d e1 _ k v H1 T hv=>?_⟩
  have k:=k H1 T
  cases hv with
  | int n =>
    dsimp only at k
    split at k
    · next h =>
      have h:=Bool.and_eq_true_iff.mp h
      have h1:=of_decide_eq_true h.1
      have h2:=of_decide_eq_true h.2
      exact ⟨n,rfl,h1,by omega,k _ H1 T (walkD_range (by rw [sizeLine_eq]; omega))⟩
    · exact k.elim
  | non=>exact k.elim
  | bl _=>exact k.elim
  | str _=>exact k.elim
  | lst _ _=>exact k.elim
  | tup _ _=>exact k.elim
  | dct _ _=>exact k.elim
  | dcn _ _ _=>exact k.elim
def enumM (f : M D) : M (List D):=fun e=>(f e).bind fun d e1=>match d with
  | .list ds=>.ok (numbered 0 ds) e1
  | _=>.bad
theorem ei_enum (ha : ED X pa W a f) (hm : X.mg "enumerate" = none) (hg : Gl X "enumerate":=by rfl) (hs : starEach [a] X.env = [(false,eval a X.env)]:=by rfl) : EI X pa W true (.Tuple elts kk tpos) (.Call (.Name "enumerate" p) [a] [] pos) (enumM f):=by
  refine PI.imp (PI.sized (pi_enum hg hm (pa_cons ha pa_nil hs) hs)) fun σ H R ⟨en,Re,q⟩=>⟨en,Re,(Out.bind q).imp fun d e1 _ k v H1 T hv=>?_⟩
  have k:=k H1 T
  cases hv with
  | lst h1 h2=>exact ⟨_,_,rfl,h1.sq,fun z=>k _ H1 T (walkD_enum h1 h2 z)⟩
  | non=>exact k.elim
  | bl _=>exact k.elim
  | int _=>exact k.elim
  | str _=>exact k.elim
  | tup _ _=>exact k.elim
  | dct _ _=>exact k.elim
  | dcn _ _ _=>exact k.elim
def zipM (f g : M D) : M (List D):=fun e=>(f e).bind fun d e1=>(g e1).bind fun d' e2=>match d,d' with
  | .list xs,.list ys=>.ok (zipP xs ys) e2
  | .tuple xs,.tuple ys=>.ok (zipP xs ys) e2
  | _,_=>.bad
theorem ei_zip (ha : ED X pa W a f) (hb : ED X pa W b g) (hm : X.mg "zip" = none) (hg : Gl X "zip":=by rfl) (hs : starEach [a,b] X.env = (false,eval a X.env) :: starEach [b] X.env:=by rfl) (hpl : (backTo pos (starEach [b] X.env)).any (·.1) = false:=by rfl) (hs2 : starEach [b] X.env = [(false,eval b X.env)]:=by rfl) : EI X pa W true (.Tuple elts kk tpos) (.Call (.Name "zip" p) [a,b] [] pos) (zipM f g):=by
  refine PI.imp (PI.sized (RZ.pi_zipA hg hm (pa_cons ha (pa_cons hb pa_nil hs2) hs) hs hpl)) fun σ H R ⟨en,Re,q⟩=>⟨en,Re,(Out.bind q).imp fun d e1 _ k v H1 T hv=>?_⟩
  refine ⟨e1,T.rel,(Out.bind (k H1 T)).imp fun d' e2 _ k2 v' H2 T2 hv'=>?_⟩
  have k2:=k2 H2 T2
  have hv:=hv.mono T2.gr
  cases hv with
  | lst h1 h2 =>
    cases hv' with
    | lst h3 h4=>exact ⟨_,_,_,_,rfl,.inl ⟨h1.sq,h3.sq,fun z=>k2 _ H2 (T.trans T2) (walkD_zipL h1 h2 h3 h4 z)⟩⟩
    | non=>exact k2.elim
    | bl _=>exact k2.elim
    | int _=>exact k2.elim
    | str _=>exact k2.elim
    | tup _ _=>exact k2.elim
    | dct _ _=>exact k2.elim
    | dcn _ _ _=>exact k2.elim
  | tup h1 h2 =>
    cases hv' with
    | tup h3 h4=>exact ⟨_,_,_,_,rfl,.inr ⟨h1.sq,h3.sq,fun z=>k2 _ H2 (T.trans T2) (walkD_zipT h1 h2 h3 h4 z)⟩⟩
    | non=>exact k2.elim
    | bl _=>exact k2.elim
    | int _=>exact k2.elim
    | str _=>exact k2.elim
    | lst _ _=>exact k2.elim
    | dct _ _=>exact k2.elim
    | dcn _ _ _=>exact k2.elim
  | non=>exact k2.elim
  | bl _=>exact k2.elim
  | int _=>exact k2.elim
  | str _=>exact k2.elim
  | dct _ _=>exact k2.elim
  | dcn _ _ _=>exact k2.elim
def valuesM (f : M D) : M (List D):=fun e=>(f e).bind fun d e1=>match d with
  | .dict kvs=>if nkv kvs = true then .bad else .ok (kvs.map (·.2)) e1
  | _=>.bad
theorem ei_values (ha : ED X pa W a f) (hbase : attributeBase a "values" X.env (eval a X.env) = eval a X.env:=by rfl) (hline : (apos.endLine == cpos.line) = true:=by rfl) : EI X pa W false tg (.Call (.Attribute a "values" apos) [] [] cpos) (valuesM f):=by
  refine PI.imp (PI.sized (pi_values ha hbase hline)) fun σ H R ⟨en,Re,q⟩=>⟨en,Re,(Out.bind q).imp fun d e1 _ k v H1 T hv=>?_⟩
  have k:=k H1 T
  cases hv with
  | dct h1 h2 =>
    dsimp only at k
    rw [h2.plain,if_neg Bool.false_ne_true] at k
    exact ⟨_,_,_,rfl,h1,fun z=>k _ H1 T (walkD_values h1 h2 z)⟩
  | dcn _ _ n =>
    dsimp only at k
    rw [n,if_pos rfl] at k
    exact k.elim
  | non=>exact k.elim
  | bl _=>exact k.elim
  | int _=>exact k.elim
  | str _=>exact k.elim
  | tup _ _=>exact k.elim
  | lst _ _=>exact k.elim
end
end DL
end L2
namespace L2
namespace DL
open PySem PySem.Spec PyProof.Rows
def cutL (xs : List D) (lo hi : Option Int) : List D:=(xs.drop (HT.sIx xs.length 0 lo)).take (HT.sIx xs.length xs.length hi - HT.sIx xs.length 0 lo)
theorem all_cut {K : KW} {H : Hp} {vs : List V} {ds : List D} (h : DenAll K H vs ds) (lo hi : Option Int) : DenAll K H (cutV vs lo hi) (cutL ds lo hi):=by
  unfold cutV cutL
  rw [h.length]
  exact (h.drop _).take _
def cutD (d : D) (lo hi : Option Int) : Option Xv:=match d with
  | .list ds=>some (.o (.list (cutL ds lo hi)))
  | .tuple ds=>some (.s (.tuple (cutL ds lo hi)))
  | .str z=>if z.length ≤ sizeLine then some (.s (.str (cutS z lo hi))) else none
  | _=>none
def part (f : M D) : M (Option Int):=fun e=>(f e).bind fun d e1=>match d with
  | .int i=>.ok (some i) e1
  | _=>.bad
def nopart : M (Option Int):=fun e=>.ok none e
def slcM (f : M Pv) (lo hi : M (Option Int)) : M Pv:=fun e=>(pk f e).bind fun p e1=>(lo e1).bind fun l e2=>(hi e2).bind fun h e3=>put ((p.get e3).bind fun d=>cutD d l h) e3
def tO (G : Gd) (f : M (Option Int)) : TO:=fun σ H Q=>∃ e,Rel G.K G.pa σ H e ∧ Out G σ H e (f e) fun o e'=>∀ H',Tr G.K G.pa σ H e σ H' e' → Q o H'
section
variable {X : Cx} {pa : Pa} {W : WX} {pos p p2 : Pos} {a b : Expr} {f g : M Pv} {x : Str} {lo hi : Option Expr} {l h : M (Option Int)}
abbrev EO (X : Cx) (pa : Pa) (W : WX) (e : Option Expr) (f : M (Option Int)) : Prop:=PO X e (tO (gd X pa W) f)
theorem PO.imp {e : Option Expr} {t t' : TO} (h : PO X e t) (f : ∀ σ H Q,t' σ H Q → t σ H Q) : PO X e t':=⟨fun pins s σ H Q I q=>h.run pins s σ H Q I (f σ H Q q)⟩
theorem eo_none : EO X pa W none nopart:=PO.imp po_none fun σ H Q ⟨en,R,q⟩=>q H (.refl R)
theorem eo_some {f : M D} (h : ED X pa W a f) : EO X pa W (some a) (part f):=PO.imp (po_some h) fun σ H Q ⟨en,R,q⟩=>⟨en,R,(Out.bind q).imp fun d e1 _ k v H1 T hv=>by
  have k:=k H1 T
  cases hv with
  | int i=>exact ⟨i,rfl,k H1 T⟩
  | non=>exact k.elim
  | bl _=>exact k.elim
  | str _=>exact k.elim
  | lst _ _=>exact k.elim
  | tup _ _=>exact k.elim
  | dct _ _=>exact k.elim
  | dcn _ _ _=>exact k.elim⟩
theorem SlR.imp {r r' : V → Option Int → Option Int → Hp → VK → Prop} (h : SlR X r) (f : ∀ x lo hi H Q,r' x lo hi H Q → r x lo hi H Q) : SlR X r':=fun pins s σ H x v vl vu lo hi sl Q I rx hs pl pu q=>h pins s σ H x v vl vu lo hi sl Q I rx hs pl pu (f x lo hi H Q q)
def rCut (K : KW) : V → Option Int → Option Int → Hp → VK → Prop:=fun x lo hi H Q=>∃ d r,Rdb K H x d ∧ cutD d lo hi = some r ∧ ∀ v H',Same H H' → NewIs K H H' v r → Q v H'
theorem cutV_whole {xs : List V} {lo hi : Option Int} (h : HT.sIx xs.length 0 lo = 0 ∧ HT.sIx xs.length xs.length hi = xs.length) : cutV xs lo hi = xs:=by
  unfold cutV
  rw [h.1,h.2,List.drop_zero,Nat.sub_zero,List.take_length]
theorem sl_tupX : SlR X (fun x lo hi H Q=>∃ a xs,x = .ref a ∧ SqT X.kw H a xs ∧
    (HT.sIx xs.length 0 lo = 0 ∧ HT.sIx xs.length xs.length hi = xs.length → Q (.ref a) H) ∧ (¬ (HT.sIx xs.length 0 lo = 0 ∧ HT.sIx xs.length xs.length hi = xs.length) → ∀ p o,H p = none → o.dict = none → Q (.ref p) (upd H p (.frz o (.tup (cutV xs lo hi)))))):=by
  intro pins s σ H x v vl vu lo hi sl Q I rx hs pl pu h
  obtain ⟨a,xs,rfl,hx,q1,q2⟩:=h
  by_cases hw : HT.sIx xs.length 0 lo = 0 ∧ HT.sIx xs.length xs.length hi = xs.length
  · exact sl_tupA pins s σ H _ v vl vu lo hi sl Q I rx hs pl pu ⟨a,xs,rfl,hx,q1,fun z=>(z hw).elim⟩
  · cases rx
    obtain ⟨its,r,ht,hz⟩:=I.tuple hx
    have hlen : its.toArray.size = xs.length:=by rw [List.size_toArray]; exact r.length.symm
    refine ⟨"tuple",_,PyProof.Rows.slot_tuple_getitem.lookup,ht.typeIs,?_⟩
    refine HT.getItem_tuple_cut ht hs pl pu (by rw [hlen]; exact hw) ?_ (by rw [hlen]; exact hz)
    rw [hlen]
    refine ⟨.ref s.heap.objs.size,_,I.laid (t':=s.toks) (o:=.frz { cls:=.type "tuple",data:=.seq ((its.toArray.toList.drop (HT.sIx xs.length 0 lo)).take (HT.sIx xs.length xs.length hi - HT.sIx xs.length 0 lo)).toArray } (.tup (cutV xs lo hi))) (fun b ob q=>Heap.get?_push_of_some _ q) (Nat.le_refl _) ?_,rfl,q2 hw _ _ (I.hok.fresh (Nat.le_refl _)) rfl⟩
    exact ⟨Heap.get?_push_size _ rfl,Nat.le_trans (cutV_length xs lo hi) hz,_,(r.drop (HT.sIx xs.length 0 lo)).take (HT.sIx xs.length xs.length hi - HT.sIx xs.length 0 lo),IsTup.new _ _⟩
theorem sl_data : SlR X (rCut X.kw):=SlR.imp (SlR.or sl_list (SlR.or sl_tupX sl_str)) fun x lo hi H Q ⟨d,r,h1,h2,k⟩=>by
  unfold cutD at h2
  split at h2
  · cases h2
    obtain ⟨a,vs,rfl,g1,g2⟩:=h1.lst
    exact .inl ⟨a,vs,rfl,.inl g1,fun p hp=>new_list k hp (all_cut g2 lo hi)⟩
  · cases h2
    obtain ⟨a,vs,rfl,g1,g2⟩:=h1.tup
    refine .inr (.inl ⟨a,vs,rfl,g1.sq,fun z=>?_,fun _ p o hp ho=>new_tup k hp ho (all_cut g2 lo hi)⟩)
    have:=all_cut g2 lo hi
    rw [cutV_whole z] at this
    exact k _ H (Same.refl H) (Den.tup g1 this)
  · split at h2
    · next z=>cases h2; exact .inr (.inr ⟨_,h1.str,z,k _ H (Same.refl H) (Den.str _)⟩)
    · cases h2
  · cases h2
theorem ev_slice (ha : EV X pa W a f) (hl : EO X pa W lo l) (hh : EO X pa W hi h) : EV X pa W (.Subscript a (.Slice lo hi none p2) pos) (slcM f l h):=by
  refine PE.imp (pe_slice sl_data (ev_pk ha) hl hh) fun σ H Q ⟨en,R,q⟩=>⟨en,R,(Out.bind q).imp fun p e1 hp k v H1 T hv=>?_⟩
  refine ⟨e1,T.rel,(Out.bind (k H1 T)).imp fun lo e2 _ k2 H2 T2=>?_⟩
  refine ⟨e2,T2.rel,(Out.bind (k2 H2 T2)).imp fun hi e3 _ k3 H3 T3=>?_⟩
  have T13:=(T.trans T2).trans T3
  obtain ⟨r,hr,k4⟩:=fin_put (k3 H3 T3) T13
  obtain ⟨d,g1,g2⟩:=get_some hr
  exact ⟨d,r,(((pk_is hp hv).mono T2.gr).mono T3.gr).rdb T3.rel g1,g2,k4⟩
def pairs : List D → Option (List (D × D))
  | []=>some []
  | .tuple [k,v] :: r=>(match isKey k with
    | some _=>(pairs r).map ((k,v) :: ·)
    | none=>none)
  | _=>none
def mergeD (kvs more : List (D × D)) : List (D × D):=more.foldl (fun acc kv=>putD acc kv.1 kv.2) kvs
def dictD : D → Option Xv
  | .list ds=>(pairs ds).map fun ps=>.o (.dict (mergeD [] ps))
  | .tuple ds=>(pairs ds).map fun ps=>.o (.dict (mergeD [] ps))
  | _=>none
theorem kv_merge {K : KW} {H : Hp} : ∀ {ms : List (Key × V)} {mds : List (D × D)} {ks : List (Key × V)} {kvs : List (D × D)},DenKV K H ms mds → DenKV K H ks kvs → DenKV K H (mergeK ks ms) (mergeD kvs mds)
  | _,_,_,_,.nil,h=>h
  | _,_,_,_,.cons q r,h=>by
    unfold mergeK mergeD
    rw [List.foldl_cons,List.foldl_cons]
    exact kv_merge r (kv_put q h)
theorem pairs_den {K : KW} {H : Hp} : ∀ {vs : List V} {ds : List D} {ps : List (D × D)},DenAll K H vs ds → pairs ds = some ps → ∃ (as : List Addr) (kvs : List (Key × V)),vs = as.map V.ref ∧ Paired (fun p kv=>SqT K H p [kV kv.1,kv.2]) as kvs ∧ DenKV K H kvs ps
  | _,_,ps,.nil,h=>by cases h; exact ⟨[],[],rfl,.nil,.nil⟩
  | v :: vs,d :: ds,ps,.cons q r,h=>by
    cases q with
    | tup g1 g2 =>
      cases g2 with
      | nil=>cases h
      | cons c1 c2 =>
        cases c2 with
        | nil=>cases h
        | cons c3 c4 =>
          cases c4 with
          | cons _ _=>cases h
          | nil =>
            dsimp only [pairs] at h
            split at h
            · next ky hk =>
              cases z : pairs ds with
              | none=>rw [z] at h; cases h
              | some qs =>
                rw [z] at h; cases h
                obtain ⟨as,kvs,e1,e2,e3⟩:=pairs_den r z
                subst e1
                have ek:=isKey_kD hk
                subst ek
                have:=key_v (Den.rdb c1)
                subst this
                exact ⟨_ :: as,(ky,_) :: kvs,rfl,.cons g1.sq e2,.cons c3 e3⟩
            · cases h
    | non=>cases h
    | bl _=>cases h
    | int _=>cases h
    | str _=>cases h
    | lst _ _=>cases h
    | dct _ _=>cases h
    | dcn _ _ _=>cases h
theorem new_dict {K : KW} {H : Hp} {p : Addr} {ks : List (Key × V)} {kvs : List (D × D)} {Q : VK} (k : ∀ v H',Same H H' → NewIs K H H' v (.o (.dict kvs)) → Q v H') (hp : H p = none) (h : DenKV K H ks kvs) : Q (.ref p) (upd H p (.dK ks)) :=
  k _ _ (same_new hp) ⟨p,rfl,hp,.inl ⟨ks,upd_same,h.mono (gsame (same_new hp))⟩⟩
theorem pairs_of2 {pins : List (Addr × Obj)} {σ : St} {H : Hp} {s : Shared} (I : Inv X pins σ H s) : ∀ {ps : List Addr} {kvs : List (Key × V)},Paired (fun p kv=>SqT X.kw H p [kV kv.1,kv.2]) ps kvs →
    ∃ (prs : List (Key × Value)) (uv : List (Value × Value)),KV kvs prs ∧ prs.length = ps.length ∧ uv.length = ps.length ∧ ∀ (j : Nat) (k v : Value),uv[j]? = some (k,v) → ∃ b ky,ps[j]? = some b ∧ IsTup s.heap b #[k,v] ∧ prs[j]? = some (ky,v) ∧ keyIs ky k = true
  | _,_,.nil=>⟨[],[],.nil,rfl,rfl,fun j k v e=>by simp at e⟩
  | _,_,.cons (a:=p) (b:=kv) h t=>by
    obtain ⟨prs,uv,r,hl,hl2,hp⟩:=pairs_of2 I t
    obtain ⟨its,rv,ht,_⟩:=I.tuple h
    obtain ⟨u,y,ei,ru,ry⟩:=vals2 rv
    subst ei
    refine ⟨(kv.1,y) :: prs,(u,y) :: uv,.cons ⟨rfl,ry⟩ r,by rw [List.length_cons,List.length_cons,hl],by rw [List.length_cons,List.length_cons,hl2],fun j k v e=>?_⟩
    cases j with
    | zero =>
      have e' : (u,y) = (k,v):=Option.some.inj e
      cases e'
      exact ⟨p,kv.1,rfl,ht,rfl,kV_is (P:=X.prog) (w:=X.w) ru⟩
    | succ j =>
      obtain ⟨b,ky,e1,e2,e3,e4⟩:=hp j k v (by simpa using e)
      exact ⟨b,ky,by simpa using e1,e2,by simpa using e3,e4⟩
theorem FzT.obj {pins : List (Addr × Obj)} {σ : St} {H : Hp} {s : Shared} {a : Addr} {xs : List V} (I : Inv X pins σ H s) (h : FzT X.kw H a xs) : ∃ (o : Obj) (its : List Value) (n : Nat),s.heap.get? a = some o ∧ o.cls = .type "tuple" ∧ o.dict = none ∧ o.data = .seq its.toArray n ∧ xs.length ≤ sizeLine ∧ Vals xs its:=by
  rcases h with ⟨o,hq,hod⟩ | ⟨o,its,n,h1,h2,h3,h4,h5,h6⟩
  · obtain ⟨ho,hz,its,rv,o',ho',hc,n,hdat⟩:=I.hok a _ hq
    rw [ho] at ho'
    cases ho'
    exact ⟨o,its,n,ho,hc,hod,hdat,hz,rv⟩
  · exact ⟨o,its.toList,n,I.kIn a o h1,h2,h3,by rw [h4,Array.toArray_toList],by rw [h6.length,Array.length_toList]; exact h5,h6⟩
theorem call_dictT (hcalm : X.calm = true) : CallR X (.type "dict") (fun xs H Q=>∃ (a : Addr) (ps : List Addr) (kvs : List (Key × V)),xs = [.ref a] ∧ FzT X.kw H a (ps.map V.ref) ∧ Paired (fun p kv=>SqT X.kw H p [kV kv.1,kv.2]) ps kvs ∧
    ∀ p,H p = none → Q (.ref p) (upd H p (.dK (mergeK [] kvs)))):=by
  intro pins s σ H xs us Q I r q
  obtain ⟨a,ps,kvs,ex,hq,hp,q⟩:=q
  subst ex
  obtain ⟨u,eu,rx⟩:=vals1 r
  subst eu
  cases rx
  obtain ⟨o,its,n,ho,hc,hod,hdat,hz,rv⟩:=FzT.obj I hq
  have ei:=refs_at rv
  subst ei
  rw [List.length_map] at hz
  obtain ⟨prs,uv,rel,hl,hl2,hpr⟩:=pairs_of2 I hp
  refine PySem.call_dict_pairs (knd:=mixKind X.prog X.w) (kvs:=prs) (PairArg.tuple a (ps.map Value.ref).toArray (fun j=>ps.getD j 0) uv) (I.ok.hd hcalm) ⟨⟨o,n,ho,hc,hod,hdat⟩,by simp [hl2],fun j k v e=>?_⟩ ⟨by rw [hl,hl2],fun j k v e=>?_⟩ (by rw [hl2]; exact hz) fun h' tk hd' k=>?_
  · obtain ⟨b,ky,e1,e2,e3,e4⟩:=hpr j k v e
    have eb : ps.getD j 0 = b:=by rw [List.getD_eq_getElem?_getD,e1]; rfl
    refine ⟨by simp [e1],.inl ?_⟩
    show s.heap.IsTuple (ps.getD j 0) #[k,v]
    rw [eb]
    exact e2
  · obtain ⟨b,ky,e1,e2,e3,e4⟩:=hpr j k v e
    exact ⟨ky,e3,e4⟩
  · have hm : (s.heap.objs.size == sysModules) = false:=beq_eq_false_iff_ne.mpr (Nat.ne_of_gt I.big)
    have hlen : (mergeK [] kvs).length ≤ sizeLine:=by
      refine Nat.le_trans (length_mergeK kvs []) ?_
      rw [List.length_nil,Nat.zero_add,rel.length,hl]
      exact hz
    exact ⟨.ref s.heap.objs.size,upd H s.heap.objs.size (.dK (mergeK [] kvs)),I.laid (t':=tk) (fun b o e=>k b o (by simp) e) (Nat.le_refl _) (show ObjOk X.prog X.w _ _ _ (.dK (mergeK [] kvs)) from ⟨hlen,hm,merged [] prs,KV.merge rel .nil,hd'⟩),rfl,q _ (I.hok.fresh (Nat.le_refl _))⟩
theorem ev_dict (hc : X.calm = true) (ha : EV X pa W a f) (hm : X.mg "dict" = none) (hg : Gl X "dict":=by rfl) (he : starEach [a] X.env = [(false,eval a X.env)]:=by rfl) : EV X pa W (.Call (.Name "dict" p) [a] [] pos) (op1 dictD f) :=
  ev_t1 (id:="dict") (CallR.or (call_dictP hc) (call_dictT hc)) (fun v H Q ⟨d,r,h1,h2,k⟩=>by
    unfold dictD at h2
    split at h2
    · next ds =>
      cases z : pairs ds with
      | none=>rw [z] at h2; cases h2
      | some ps =>
        rw [z] at h2; cases h2
        obtain ⟨a,vs,rfl,g1,g2⟩:=h1.lst
        obtain ⟨as,kvs,e1,e2,e3⟩:=pairs_den g2 z
        subst e1
        exact .inl ⟨a,as,kvs,rfl,.inl g1,e2,fun p hp=>new_dict k hp (kv_merge e3 .nil)⟩
    · next ds =>
      cases z : pairs ds with
      | none=>rw [z] at h2; cases h2
      | some ps =>
        rw [z] at h2; cases h2
        obtain ⟨a,vs,rfl,g1,g2⟩:=h1.tup
        obtain ⟨as,kvs,e1,e2,e3⟩:=pairs_den g2 z
        subst e1
        exact .inr ⟨a,as,kvs,rfl,g1,e2,fun p hp=>new_dict k hp (kv_merge e3 .nil)⟩
    · cases h2) ha hm hg (by decide +kernel) (by decide) (by decide) he
end
end DL
end L2
namespace L2
namespace DL
open PySem PySem.Spec PyProof.Rows
def isort : List D → List D
  | []=>[]
  | x :: r=>ins x (isort r)
theorem dLe_total : PySem.W.TotalLe dLe:=PySem.W.sortLe_total (listOrd itemOrd) false fun b : D=>PySem.W.keyToks b
theorem ins_mem {x z : D} : ∀ {l : List D},z ∈ ins x l → z = x ∨ z ∈ l
  | [],h=>by simp [ins] at h; exact .inl h
  | y :: r,h=>by
    unfold ins at h
    split at h
    · rcases List.mem_cons.mp h with h | h
      · exact .inl h
      · exact .inr h
    · rcases List.mem_cons.mp h with h | h
      · exact .inr (by simp [h])
      · rcases ins_mem h with h | h
        · exact .inl h
        · exact .inr (by simp [h])
theorem ins_sorted {x : D} : ∀ {l : List D},l.Pairwise (fun a b=>dLe a b = true) → (ins x l).Pairwise (fun a b=>dLe a b = true)
  | [],_=>by simp [ins]
  | y :: r,h=>by
    unfold ins
    have hp:=List.pairwise_cons.mp h
    split
    · next z =>
      refine List.pairwise_cons.mpr ⟨fun w hw=>?_,h⟩
      rcases List.mem_cons.mp hw with hw | hw
      · rw [hw]; exact z
      · exact dLe_total.trans x y w z (hp.1 w hw)
    · next z =>
      refine List.pairwise_cons.mpr ⟨fun w hw=>?_,ins_sorted hp.2⟩
      rcases ins_mem hw with hw | hw
      · rw [hw]
        rcases dLe_total.total x y with q | q
        · exact (z q).elim
        · exact q
      · exact hp.1 w hw
theorem isort_sorted : ∀ l : List D,(isort l).Pairwise (fun a b=>dLe a b = true)
  | []=>List.Pairwise.nil
  | x :: r=>ins_sorted (isort_sorted r)
theorem ins_filter {x c : D} : ∀ {l : List D},(ins x l).filter (PySem.W.sameRank dLe c) = (x :: l).filter (PySem.W.sameRank dLe c)
  | []=>rfl
  | y :: r=>by
    unfold ins
    split
    · rfl
    · next z =>
      rw [List.filter_cons,ins_filter,List.filter_cons,List.filter_cons,List.filter_cons]
      by_cases q1 : PySem.W.sameRank dLe c x = true
      · by_cases q2 : PySem.W.sameRank dLe c y = true
        · exfalso
          unfold PySem.W.sameRank at q1 q2
          rw [Bool.and_eq_true] at q1 q2
          first
            | exact z (dLe_total.trans x c y q1.2 q2.1)
            | exact z (dLe_total.trans x c y q1.1 q2.2)
        · rw [if_neg q2,if_neg q2]
      · rw [if_neg q1,if_neg q1]
theorem isort_filter (c : D) : ∀ l : List D,(isort l).filter (PySem.W.sameRank dLe c) = l.filter (PySem.W.sameRank dLe c)
  | []=>rfl
  | x :: r=>by
    show (ins x (isort r)).filter _ = _
    rw [ins_filter,List.filter_cons,List.filter_cons,isort_filter c r]
theorem isort_is (l : List D) : l.mergeSort (PySem.W.dataLe false id) = isort l :=
  (PySem.W.sort_unique (le:=dLe) dLe_total (isort_sorted l) fun c=>isort_filter c l).symm
theorem isort_len (l : List D) : (isort l).length = l.length:=by rw [← isort_is,List.length_mergeSort]
def tup1 : D → Bool
  | .tuple (_ :: _)=>true
  | _=>false
def notTN : D → Bool
  | .tuple _=>false
  | .none=>false
  | _=>true
def sortOk (ds : List D) : Bool:=(ds.all fun d=>ds.all fun d'=>PySem.W.alike d d') && ((ds.all tup1 || ds.all notTN) && ds.all SeqAt.shaped)
section
variable {K : KW} {H : Hp}
abbrev RD (K : KW) (H : Hp) (u : Value) (d : D) : Prop:=∃ x,RelV x u ∧ Den K H x d
theorem each_den : ∀ {xs : List V} {us : List Value} {ds : List D},Vals xs us → DenAll K H xs ds → PySem.W.EachIs (RD K H) us ds
  | _,_,_,.nil,.nil=>.nil
  | _,_,_,.cons r rs,.cons q qs=>.cons ⟨_,r,q⟩ (each_den rs qs)
theorem den_each : ∀ {us : List Value} {ds : List D},PySem.W.EachIs (RD K H) us ds → ∃ xs,Vals xs us ∧ DenAll K H xs ds
  | _,_,.nil=>⟨[],.nil,.nil⟩
  | _,_,.cons ⟨x,r,q⟩ t=>by
    obtain ⟨xs,h1,h2⟩:=den_each t
    exact ⟨x :: xs,.cons r h1,.cons q h2⟩
mutual
theorem reads_lt {h : Heap} {u : Value} {d : D} {as : List Addr} (r : Reads h u d as) : ∀ b ∈ as,b < h.objs.size:=match r with
  | .none=>fun _ z=>by simp at z
  | .bool _=>fun _ z=>by simp at z
  | .int _ _=>fun _ z=>by simp at z
  | .str _ _=>fun _ z=>by simp at z
  | .list e _ _ q=>fun b z=>by
    rcases List.mem_cons.mp z with z | z
    · rw [z]; exact Heap.lt_size e
    · exact readsAll_lt q b z
  | .tuple e _ _ q=>readsAll_lt q
  | .dict e _ _ q q'=>fun b z=>by
    rcases List.mem_append.mp z with z | z
    · rcases List.mem_cons.mp z with z | z
      · rw [z]; exact Heap.lt_size e
      · exact readsAll_lt q b z
    · exact readsAll_lt q' b z
theorem readsAll_lt {h : Heap} {us : List Value} {ds : List D} {as : List Addr} (r : ReadsAll h us ds as) : ∀ b ∈ as,b < h.objs.size:=match r with
  | .nil=>fun _ z=>by simp at z
  | .cons q q'=>fun b z=>by
    rcases List.mem_append.mp z with z | z
    · exact reads_lt q b z
    · exact readsAll_lt q' b z
end
theorem sort_all {ds : List D} (h : sortOk ds = true) : PySem.W.AllAlike (ds.map id) ∧ PySem.W.Sortable (ds.map id) ∧ ∀ d ∈ ds,SeqAt.shaped d = true:=by
  unfold sortOk at h
  rw [Bool.and_eq_true,Bool.and_eq_true] at h
  obtain ⟨h1,h2,h3⟩:=h
  rw [List.map_id]
  refine ⟨fun d hd d' hd'=>?_,?_,fun d hd=>List.all_eq_true.mp h3 d hd⟩
  · exact List.all_eq_true.mp (List.all_eq_true.mp h1 d hd) d' hd'
  · rcases Bool.or_eq_true_iff.mp h2 with q | q
    · refine .inl fun d hd=>?_
      have:=List.all_eq_true.mp q d hd
      unfold tup1 at this
      split at this
      · exact ⟨_,_,rfl⟩
      · cases this
    · refine .inr fun d hd=>?_
      have:=List.all_eq_true.mp q d hd
      unfold notTN at this
      split at this
      · cases this
      · cases this
      · next n1 n2=>exact ⟨n2,n1⟩
end
section
variable {X : Cx} {pins : List (Addr × Obj)} {σ : St} {H : Hp} {s : Shared}
theorem each_reads (I : Inv X pins σ H s) : ∀ {xs : List V} {us : List Value} {ds : List D},Vals xs us → DenAll X.kw H xs ds → (∀ d ∈ ds,SeqAt.shaped d = true) → PySem.W.EachIs (fun v b=>∃ as,Reads s.heap v (id b) as) us ds
  | _,_,_,.nil,.nil,_=>.nil
  | _,_,_,.cons r rs,.cons q qs,h=>.cons (Dp.reads I _ _ _ (q.dp (h _ (by simp))) r) (each_reads I rs qs fun d hd=>h d (by simp [hd]))
theorem cr_sortData (hu : X.A.units + 70 < cLine) : CallR X (.builtin "sorted") (fun vs H Q=>∃ (a : Addr) (xs : List V) (ds : List D),vs = [.ref a] ∧ Rd H a (.lst xs) ∧ DenAll X.kw H xs ds ∧ sortOk ds = true ∧
    ∀ p ys,H p = none → DenAll X.kw H ys (isort ds) → Q (.ref p) (upd H p (.lst ys))):=by
  intro pins s σ H vs us Q I r h
  obtain ⟨a,xs,ds,rfl,hq,hd,hok,q⟩:=h
  obtain ⟨z,its,n,rv,hl,e⟩:=rd_lst I hq
  rw [Vals.ref1 r]
  obtain ⟨al,so,sh⟩:=sort_all hok
  have hlen : ds.length = its.length:=by rw [← hd.length,hl]
  refine PySem.W.sorted_data (enc:=id) (R:=RD X.kw H) (show s.heap.IsList a its.toArray from ⟨_,e,rfl,_,rfl⟩) (each_den rv hd) (each_reads I rv hd sh) al so (by rw [hlen,← hl]; exact z) (fun d hd'=>?_) fun out hol ho=>?_
  · have:=SeqAt.depth_of_shaped (sh d hd')
    show X.A.units + 2 + (id d).depth < cLine
    simp only [id]
    omega
  · rw [isort_is] at ho
    obtain ⟨ys,h1,h2⟩:=den_each ho
    obtain ⟨ep,he'⟩:=PyProof.Rows.sortedAll_at s.heap its out.toArray
    have hlen2 : ys.length ≤ sizeLine:=by rw [h2.length,isort_len,hlen,← hl]; exact z
    exact ⟨.ref _,upd H (s.heap.objs.size + 1) (.lst ys),I.laid (t':=s.toks) (fun _ _=>PyProof.Rows.sortedAll_old) (Nat.le_succ _) ⟨hlen2,out,ep,h1,he'⟩,rfl,q _ _ (I.hok.fresh (Nat.le_succ _)) h2⟩
theorem sort_new {A : Around} {E : Value → Shared → Prop} {Q : Value → Shared → Prop} (hu : A.units + 70 < cLine) (I : Inv X pins σ H s) {xs : List V} {its : List Value} {ds : List D} (rv : Vals xs its) (hd : DenAll X.kw H xs ds) (hok : sortOk ds = true) (hz : xs.length ≤ sizeLine)
    (h : ∀ s' ys,Inv X pins σ (upd H s.heap.objs.size (.lst ys)) s' → DenAll X.kw H ys (isort ds) → Q .none s') :
    wpAny (model X.prog X.w) A (call (.builtin "list.sort") [.ref s.heap.objs.size]) Q E { s with heap:=s.heap.push (seqObj "list" its.toArray 0) }:=by
  obtain ⟨al,so,sh⟩:=sort_all hok
  have hoL : (s.heap.push (seqObj "list" its.toArray 0)).get? s.heap.objs.size = some (seqObj "list" its.toArray 0):=Heap.get?_push_size _ rfl
  have hlen : ds.length = its.length:=by rw [← hd.length,rv.length]
  have er:=(each_reads I rv hd sh)
  refine PySem.W.list_sort_data (s:={ s with heap:=s.heap.push (seqObj "list" its.toArray 0) }) (enc:=id) (R:=RD X.kw H) hoL (each_den rv hd) (er.mono fun v b ⟨as,r⟩=>⟨as,PyProof.Rows.Reads.keeps (fun b o e=>Heap.get?_push_of_some _ e) r,fun z=>Nat.lt_irrefl _ (reads_lt r _ z)⟩) al so (by rw [← hd.length]; exact hz) (fun d hd'=>?_) fun out hol ho=>?_
  · have:=SeqAt.depth_of_shaped (sh d hd')
    show A.units + 1 + (id d).depth < cLine
    simp only [id]
    omega
  · rw [isort_is] at ho
    obtain ⟨ys,h1,h2⟩:=den_each ho
    obtain ⟨ep,he'⟩:=PyProof.Rows.sortedHeap_at (vs:=its) (out:=out.toArray) hoL
    have hlen2 : ys.length ≤ sizeLine:=by rw [h2.length,isort_len,← hd.length]; exact hz
    refine h _ ys (I.laid (t':=s.toks) (fun b u e=>?_) (Nat.le_refl _) ⟨hlen2,out,ep,h1,he'⟩) h2
    have hb : b < s.heap.objs.size:=Heap.lt_size e
    rw [PyProof.Rows.sortedHeap_old (Nat.ne_of_lt hb) (by rw [size_push']; exact Nat.lt_succ_of_lt hb)]
    exact Heap.get?_push_of_some _ e
end
end DL
end L2
namespace L2
namespace DL
open PySem PySem.Spec PyProof.Rows
section
variable {X : Cx} {pa : Pa} {W : WX} {pos p apos cpos : Pos} {a : Expr} {f g : M Pv} {pins : List (Addr × Obj)} {σ : St} {H : Hp} {s : Shared}
theorem Inv.lay {b : Addr} {u : HO} (I : Inv X pins σ H s) (hf : FpOk X pins H b) (hb : X.s_0.heap.objs.size ≤ b) (new : ObjOk X.prog X.w (upd H b u) s.heap b u) : Inv X pins σ (upd H b u) s:=by
  obtain ⟨f0,f1,f2,f3,f4,f5⟩:=hf
  have sm : Same H (upd H b u):=same_new f0
  refine ⟨I.ok,I.os,I.bare,⟨I.base.keep,I.base.slot,fun c o q n hx=>?_,I.base.there,fun c xs q=>sm _ _ (I.base.tups c xs q),fun c o w q=>sm _ _ (I.base.frzs c o w q),fun c ps q=>?_⟩,I.loc,I.cell,?_,fun x c q=>?_,fun p hp=>?_,fun c w q=>?_,I.len⟩
  · rw [upd_ne]
    · exact I.base.free c o q n hx
    · rintro rfl; exact absurd (Nat.lt_of_lt_of_le (Heap.lt_size q) hb) (Nat.lt_irrefl _)
  · obtain ⟨more,e⟩:=I.base.tbls c ps q
    exact ⟨more,sm _ _ e⟩
  · rw [upd_ne (Ne.symm f1)]; exact I.free
  · rw [upd_ne (f4 x c q)]; exact I.freeC x c q
  · obtain ⟨e,n,r⟩:=I.pin p hp
    exact ⟨e,by rw [upd_ne (f5 p hp)]; exact n,r⟩
  · by_cases z : c = b
    · subst z
      rw [upd_same] at q
      cases q
      exact new
    · rw [upd_ne z] at q
      exact (I.hok c w q).stay (fun _ _ _ z=>z) (fun d z=>sm _ _ z) fun d xs z=>sm _ _ z
theorem relV_key {k : Key} {u : Value} (h : keyIs k u = true) : RelV (kV k) u:=by
  rcases keyIs_shape h with ⟨i,t,rfl,rfl⟩ | ⟨x,t,rfl,rfl⟩
  · exact ⟨t,rfl⟩
  · exact ⟨t,rfl⟩
theorem lay_pairs {s0 : Shared} {H0 : Hp} (I0 : Inv X pins σ H0 s0) : ∀ (as : List Addr) {H : Hp} {ks : List (Key × V)} {vs : List (Key × Value)} {kvs : List (D × D)},Inv X pins σ H s → as.Nodup → (∀ b ∈ as,s0.heap.objs.size ≤ b ∧ H b = none) → as.length = ks.length → KV ks vs → DenKV X.kw H ks kvs →
    (∀ (j : Nat) (b : Addr),as[j]? = some b → ∃ key k x,vs[j]? = some (k,x) ∧ keyIs k key = true ∧ s.heap.get? b = some { cls:=.type "tuple",data:=.seq #[key,x] }) →
    ∃ H',Inv X pins σ H' s ∧ Same H H' ∧ DenAll X.kw H' (as.map V.ref) (kvs.map fun p=>.tuple [p.1,p.2])
  | [],H,ks,vs,kvs,I,_,_,hl,_,dk,_=>by
    cases ks with
    | nil=>cases dk; exact ⟨H,I,Same.refl H,.nil⟩
    | cons _ _=>simp at hl
  | b :: as,H,[],_,_,_,_,_,hl,_,_,_=>by simp at hl
  | b :: as,H,(k,v) :: ks,vs,kvs,I,nd,hb,hl,kv,dk,hp=>by
    cases kv with
    | cons r rs =>
      cases dk with
      | cons q qs =>
        obtain ⟨key,k',x,e1,e2,e3⟩:=hp 0 b rfl
        have e1:=Option.some.inj e1
        rename_i kx _ _ _
        obtain ⟨r1,r2⟩:=r
        subst e1
        dsimp only at r1 r2
        subst r1
        obtain ⟨h1,h2⟩:=hb b (by simp)
        have rv : Vals [kV k,v] [key,x]:=.cons (relV_key e2) (.cons r2 .nil)
        have I1 : Inv X pins σ (upd H b (.frz { cls:=.type "tuple",data:=.seq #[key,x] } (.tup [kV k,v]))) s :=
          Inv.lay I (I0.fpOk h1 h2) (Nat.le_trans I0.sz h1) ⟨e3,by show 2 ≤ sizeLine; decide,[key,x],rv,⟨_,e3,rfl,_,rfl⟩⟩
        have sm:=same_new (H:=H) (o:=.frz { cls:=.type "tuple",data:=.seq #[key,x] } (.tup [kV k,v])) h2
        have nd':=List.nodup_cons.mp nd
        obtain ⟨H',I',sm',da⟩:=lay_pairs I0 as I1 nd'.2 (fun c hc=>⟨(hb c (by simp [hc])).1,by rw [upd_ne (by rintro rfl; exact nd'.1 hc)]; exact (hb c (by simp [hc])).2⟩) (by simpa using hl) rs (qs.mono (gsame sm)) (fun j c hc=>by simpa using hp (j + 1) c (by simpa using hc))
        refine ⟨H',I',fun c o z=>sm' _ _ (sm _ _ z),.cons (.tup (.inl ⟨_,sm' _ _ upd_same,rfl⟩) ?_) da⟩
        exact .cons ((den_key k).mono (gsame sm')) (.cons ((q.mono (gsame sm)).mono (gsame sm')) .nil)
theorem cr_sortDK (hcalm : X.calm = true) (hu : X.A.units + 72 < cLine) : CallR X (.builtin "sorted") (fun xs H Q=>∃ (a : Addr) (ks : List (Key × V)) (kvs : List (D × D)),xs = [.ref a] ∧ Rd H a (.dK ks) ∧ DenKV X.kw H ks kvs ∧ sortOk (kvs.map (·.1)) = true ∧
    ∀ p ys,H p = none → DenAll X.kw H ys (isort (kvs.map (·.1))) → Q (.ref p) (upd H p (.lst ys))):=by
  intro pins s σ H xs us Q I r q
  obtain ⟨a,ks,kvs,ex,hd,dk,hok,q⟩:=q
  subst ex
  obtain ⟨u,eu,rx⟩:=vals1 r
  subst eu
  cases rx
  obtain ⟨z,lo,vs,rel,dd⟩:=dk_rd I.hok hd
  obtain ⟨ep,hat⟩:=dd.dictAt
  have hl : ks.length = vs.length:=KV.length rel
  refine Calls.call_function_entry PyProof.Rows.kind_sorted PyProof.Rows.plain_sorted PyProof.Rows.entry_sorted (PyProof.Rows.args_sorted1 _) ?_
  unfold Builtin.«sorted»
  refine wpAny_bind (m:=checkCount "sorted" 1 1 _) (wpAny_pure ?_)
  refine wpAny_bind (PySem.W.kdu_collect (A:=X.A.in1) (PySem.W.kdl_dict (knd:=mixKind X.prog X.w) (kvs:=vs) (ep:=ep) lo) (I.ok.hd hcalm) hat (by rw [← hl]; exact z) fun h' tk acc hk hacc=>?_)
  have hal : acc.toList.length = vs.length:=by rw [Array.length_toList,hacc.1]
  have I1 : Inv X pins σ H { s with heap:=h',toks:=tk }:=I.kept hk
  obtain ⟨rv,rd⟩ : Vals (ks.map fun p=>kV p.1) acc.toList ∧ DenAll X.kw H (ks.map fun p=>kV p.1) (kvs.map (·.1)):=by
    have hit : ∀ (j : Nat) (v : Value),acc.toList[j]? = some v → ∃ k x,vs[j]? = some (k,x) ∧ keyIs k v = true:=fun j v e=>by
      obtain ⟨k,x,e1,e2⟩:=hacc.2 j v (by rw [← Array.getElem?_toList]; exact e)
      exact ⟨k,x,e1,e2⟩
    generalize acc.toList = l at hal hit
    clear hacc hat dd q hok hl z I1 hd
    induction l generalizing ks vs kvs with
    | nil =>
      cases rel with
      | nil=>cases dk; exact ⟨.nil,.nil⟩
      | cons _ _=>simp at hal
    | cons v l ih =>
      cases rel with
      | nil=>simp at hal
      | cons r1 rs =>
        cases dk with
        | cons q qs =>
          obtain ⟨k,x,e1,e2⟩:=hit 0 v rfl
          have e1:=Option.some.inj e1
          subst e1
          obtain ⟨r1,_⟩:=r1
          dsimp only at r1
          subst r1
          obtain ⟨h1,h2⟩:=ih _ _ qs _ rs (by simpa using hal) (fun j w e=>by simpa using hit (j + 1) w (by simpa using e))
          exact ⟨.cons (relV_key e2) h1,.cons (den_key _) h2⟩
  refine wpAny_bind (wpAny_newList ?_ (by rw [hal,← hl]; exact z))
  show wpAny _ _ _ _ _ { s with heap:=h'.push (seqObj "list" acc.toList.toArray 0),toks:=tk }
  refine wpAny_bind (wpAny_holding (sort_new (s:={ s with heap:=h',toks:=tk }) (by show X.A.units + 1 + 70 < cLine; omega) I1 rv rd hok (by rw [List.length_map]; exact z) fun s' ys I2 hy=>?_))
  exact wpAny_pure ⟨_,rfl,.ref h'.objs.size,upd H h'.objs.size (.lst ys),I2,rfl,q _ _ (I1.hok.fresh (Nat.le_refl _)) hy⟩
def sortD : D → Option Xv
  | .list ds=>if sortOk ds then some (.o (.list (isort ds))) else none
  | .dict kvs=>if !nkv kvs && sortOk (kvs.map (·.1)) then some (.o (.list (isort (kvs.map (·.1))))) else none
  | _=>none
theorem ev_sorted (hc : X.calm = true) (hu : X.A.units + 72 < cLine) (ha : EV X pa W a f) (hm : X.mg "sorted" = none) (hg : Gl X "sorted":=by rfl) (he : starEach [a] X.env = [(false,eval a X.env)]:=by rfl) : EV X pa W (.Call (.Name "sorted" p) [a] [] pos) (op1 sortD f) :=
  ev_b1 (id:="sorted") (CallR.or (cr_sortData (by omega)) (cr_sortDK hc hu)) (fun v H Q ⟨d,r,h1,h2,k⟩=>by
    unfold sortD at h2
    split at h2
    · split at h2
      · next hs =>
        cases h2
        obtain ⟨a,vs,rfl,g1,g2⟩:=h1.lst
        exact .inl ⟨a,vs,_,rfl,g1,g2,hs,fun p ys hp hy=>new_list k hp hy⟩
      · cases h2
    · split at h2
      · next hs =>
        rw [Bool.and_eq_true,Bool.not_eq_true'] at hs
        obtain ⟨nn,hs⟩:=hs
        cases h2
        obtain ⟨a,ks,rfl,g1,g2⟩:=h1.dct nn
        exact .inr ⟨a,ks,_,rfl,g1,g2,hs,fun p ys hp hy=>new_list k hp hy⟩
      · cases h2
    · cases h2) ha hm hg (by decide +kernel) (by decide) (by decide) he
def pairsOf (kvs : List (D × D)) : List D:=kvs.map fun p=>.tuple [p.1,p.2]
def sortI : D → Option Xv
  | .dict kvs=>if !nkv kvs && sortOk (pairsOf kvs) then some (.o (.list (isort (pairsOf kvs)))) else none
  | _=>none
theorem ev_sortItems (hc : X.calm = true) (hu : X.A.units + 72 < cLine) (ha : EV X pa W a f) (hm : X.mg "sorted" = none) (hg : Gl X "sorted":=by rfl) (hbase : attributeBase a "items" X.env (eval a X.env) = eval a X.env:=by rfl) (hline : (apos.endLine == cpos.line) = true:=by rfl)
    (he : starEach [.Call (.Attribute a "items" apos) [] [] cpos] X.env = [(false,eval (.Call (.Attribute a "items" apos) [] [] cpos) X.env)]:=by rfl) :
    EV X pa W (.Call (.Name "sorted" p) [.Call (.Attribute a "items" apos) [] [] cpos] [] pos) (op1 sortI f):=by
  refine ⟨fun pins s σ H Q I h=>?_⟩
  have h:=rd_op1 h
  refine wpAny_Call_Name_kw (ld_blt I hg hm (u:=.builtin "sorted") (by decide +kernel) ?_ (by decide) (by decide))
  refine PyProof.Rows.callWith_builtin1 ?_ he rfl
  rw [he]
  refine Calls.spliced_cons ?_
  refine wpAny_Call_method (T:="dict") (id:="dict.items") hbase rfl hline F.plainAttrs_dict F.slot_dict_items F.type_dict_items (thn ((ev_pk ha).run pins s σ H _ I h) fun u s1 ⟨x,H1,I1,rx,q⟩=>?_)
  obtain ⟨d,r,h1,h2,k⟩:=q
  unfold sortI at h2
  split at h2
  rotate_left
  · cases h2
  next kvs =>
  split at h2
  rotate_left
  · cases h2
  next hok =>
  rw [Bool.and_eq_true,Bool.not_eq_true'] at hok
  obtain ⟨nn,hok⟩:=hok
  cases h2
  obtain ⟨d,ks,rfl,hd,dk⟩:=h1.dct nn
  obtain rfl : u = Value.ref d:=rx
  obtain ⟨z,lo,vs,rel,dd⟩:=dk_rd I1.hok hd
  obtain ⟨ep,hat⟩:=dd.dictAt
  have hl : ks.length = vs.length:=KV.length rel
  refine ⟨dd.typeIs,dd.mapOf.noDict,?_⟩
  show wpAny _ _ (callWith cpos (.builtin "dict.items") [.ref d] [] []) _ X.xe s1
  refine method_meetsIn F.slot_dict_items F.entry_dict_items rfl (PySem.evalArgs_none ⟨rfl,dd.typeIs,F.args_dict_items_1 _,_,meets_dict_items (mixKind X.prog X.w) d lo,⟨vs,dd⟩,?_⟩)
  have I2 : Inv X pins σ H1 { s1 with heap:=s1.heap.push { cls:=.type "dict_items",data:=.fields #[.ref d] } }:=I1.kept (t':=s1.toks) fun b ob q=>Heap.get?_push_of_some _ q
  refine Calls.spliced_nil ?_
  refine Calls.call_function_entry PyProof.Rows.kind_sorted PyProof.Rows.plain_sorted PyProof.Rows.entry_sorted (PyProof.Rows.args_sorted1 _) ?_
  unfold Builtin.«sorted»
  refine wpAny_bind (m:=checkCount "sorted" 1 1 _) (wpAny_pure ?_)
  refine wpAny_bind (PySem.W.kdx_collect (A:=X.A.in1) (knd:=mixKind X.prog X.w) (kvs:=vs) (ep:=ep) (d:=d) (I2.ok.hd hc) ⟨_,Heap.get?_push_size _ rfl,rfl,rfl⟩ (hat.push _) (by rw [← hl]; exact z) fun h' tk as hk hal hG=>?_)
  have I3 : Inv X pins σ H1 { s1 with heap:=h',toks:=tk }:=I2.kept hk
  have nd : as.Nodup:=hG.rise.imp fun z=>Nat.ne_of_lt z
  obtain ⟨H2,I4,sm,da⟩:=lay_pairs (s:={ s1 with heap:=h',toks:=tk }) I2 as I3 nd (fun b hb=>⟨Nat.le_of_lt (hG.above b hb),I2.hok.fresh (Nat.le_of_lt (hG.above b hb))⟩) (by rw [hal,hl]) rel dk hG.pairs
  refine wpAny_bind (wpAny_newList ?_ (by rw [List.length_map,hal,← hl]; exact z))
  show wpAny _ _ _ _ _ { s1 with heap:=h'.push (seqObj "list" (as.map Value.ref).toArray 0),toks:=tk }
  have rv : Vals (as.map V.ref) (as.map Value.ref):=by
    clear hal hG I3 nd da
    induction as with
    | nil=>exact .nil
    | cons b as ih=>exact .cons rfl ih
  refine wpAny_bind (wpAny_holding (sort_new (s:={ s1 with heap:=h',toks:=tk }) (by show X.A.units + 1 + 70 < cLine; omega) I4 rv da hok (by rw [List.length_map,hal,← hl]; exact z) fun s' ys I5 hy=>?_))
  have hn:=I4.hok.fresh (a:=h'.objs.size) (Nat.le_refl _)
  have sm2:=same_new (o:=.lst ys) hn
  refine wpAny_pure ⟨_,rfl,.ref h'.objs.size,upd H2 h'.objs.size (.lst ys),I5,rfl,k _ _ (fun b o e=>sm2 _ _ (sm _ _ e)) ⟨_,rfl,sm.free hn,ys,upd_same,hy.mono (gsame sm2)⟩⟩
end
end DL
end L2
namespace L2
namespace DL
open PySem PySem.Spec PyProof.Rows
theorem er_upd {H : Hp} {D : Addr} {o : HO} : er (upd H D o) D = er H D:=by
  funext b
  by_cases z : b = D
  · subst z; rw [er_same,er_same]
  · rw [er_ne z,er_ne z,upd_ne z]
theorem er_none {H : Hp} {D : Addr} (h : H D = none) : er H D = H:=by
  funext b
  by_cases z : b = D
  · subst z; rw [er_same,h]
  · rw [er_ne z]
theorem nox_ok {α : Type} {r : Rs α} {a : α} {e : Ev} (h : nox r = .ok a e) : r = .ok a e:=by
  cases r with
  | ok _ _=>exact h
  | exc _ _=>cases h
  | bad=>cases h
theorem turns {J : It} {n : Nat} {G : Hp → Prop} {Y : Nat → Hp → V → Hp → Prop} (w : Walk J n G Y) {H1 : Hp} {Qd : Hp → Prop} {step : V → Hp → (Hp → Prop) → Prop} (Pv : Nat → Hp → Prop) (h0 : Pv 0 H1) (hG : ∀ i H,i ≤ n → Pv i H → G H)
    (hs : ∀ i x H H',i < n → Pv i H → Y i H x H' → step x H' (Pv (i + 1))) (hd : ∀ H,Pv n H → Qd H) :
    ∃ W : Nat → Nat → Hp → Prop,(∃ m,W 0 m H1) ∧ ∀ i m H,W i m H → (J.stop i H ∧ Qd H) ∨ (J.go i H ∧ ∃ Nx : Hp → Prop,(∀ H',Nx H' → ∃ m',m' < m ∧ W (i + 1) m' H') ∧ ∀ x H',J.yld i H x H' → step x H' Nx):=by
  refine ⟨fun i m H=>m = n - i ∧ i ≤ n ∧ Pv i H,⟨n,rfl,Nat.zero_le _,h0⟩,?_⟩
  rintro i m H ⟨rfl,hi,p⟩
  have q:=hG i H hi p
  by_cases hlt : i < n
  · exact .inr ⟨w.goes i H hlt q,Pv (i + 1),fun H' p'=>⟨n - (i + 1),by omega,rfl,hlt,p'⟩,fun x H' y=>hs i x H H' hlt p (w.yields i H x H' hlt q y)⟩
  · have e : i = n:=by omega
    subst e
    exact .inl ⟨w.stops H q,hd H p⟩
theorem drop_at {ds : List D} {i : Nat} {d : D} (hi : i < ds.length) (hd : ds[i]? = some d) : ds.drop i = d :: ds.drop (i + 1):=by
  rw [List.drop_eq_getElem_cons hi]
  congr 1
  rw [List.getElem?_eq_getElem hi] at hd
  exact Option.some.inj hd
section
variable {X : Cx} {pa : Pa} {W : WX} {pos : Pos}
abbrev TgW (X : Cx) (pa : Pa) (c : Bool) (own : List Nat) (tg : D → M Unit) (g : TG) : Prop:=∀ v σ H (Q : St → Hp → Prop),(∃ d e e',DenB c X.kw H v d ∧ Rel X.kw pa σ H e ∧ tg d e = .ok () e' ∧ ∀ σ',Tr X.kw pa σ H e σ' H e' → L2.wipe σ' own = L2.wipe σ own → Q σ' H) → g v σ H Q
theorem nD {σ' : St} {e'' : Ev} {H'' : Hp} {D : Addr} {K : KW} (r : Rel K pa σ' (er H'' D) e'') : ¬ Own σ' e'' D:=fun z=>(r.loose z).some er_same
def dcompL (own : List Nat) (tg : D → M Unit) (tt : M Bool) (tk tv : M D) : List D → List (D × D) → M (List (D × D))
  | [],acc=>fun e=>.ok acc e
  | d :: ds,acc=>fun e=>(tg d e).bind fun _ e1=>(nox (tt e1)).bind fun b e2=>match b with
    | true=>(nox (tk e2)).bind fun k e3=>(nox (tv e3)).bind fun v e4=>(match isKey k with
      | some _=>dcompL own tg tt tk tv ds (putD acc k v) (wipeE e4 own)
      | none=>.bad)
    | false=>dcompL own tg tt tk tv ds acc (wipeE e2 own)
def dcompM (own : List Nat) (it : M (List D)) (tg : D → M Unit) (tt : M Bool) (tk tv : M D) : M Pv:=fun e=>(it e).bind fun ds e1=>(nox (dcompL own tg tt tk tv ds [] (wipeE e1 own))).bind fun kvs e2=>.ok (.o (.dict kvs)) (backE e1 e2 own)
theorem rd_dcomp {c : Bool} {own : List Nat} {it : M (List D)} {tg : D → M Unit} {tt : M Bool} {tk tv : M D} {g : TG} {σ : St} {H : Hp} {Q : VK} (ho : tgOk tg)
    (hg : TgW X pa c own tg g) (q : tV (gd X pa W) (dcompM own it tg tt tk tv) σ H Q) : tDc (tI (gd X pa W) c it) g (tT (gd X pa W0) tt) (tD (gd X pa W0) tk) (tD (gd X pa W0) tv) own σ H Q:=by
  obtain ⟨en,R,q⟩:=q
  refine ⟨en,R,(Out.bind q).imp fun ds e1 _ k J H1 T ⟨⟨G,Y,w,hG,hY⟩,le⟩ A hA=>?_⟩
  have k:=k H1 T
  cases hc : dcompL own tg tt tk tv ds [] (wipeE e1 own) with
  | bad=>rw [hc] at k; exact k.elim
  | exc _ _=>rw [hc] at k; exact k.elim
  | ok res e2 =>
    rw [hc] at k
    dsimp only [nox,Rs.bind] at k
    have R1:=T.rel.wipe own
    refine turns w (H1:=upd H1 A (.dK [])) (step:=fun x H' Nx=>g x (L2.wipe σ own) H' fun σ2 H2=>L2.wipe σ2 own = L2.wipe σ own ∧ tT (gd X pa W0) tt σ2 H2 fun b H3 =>
        if b = true then tD (gd X pa W0) tk σ2 H3 fun y H4=>tD (gd X pa W0) tv σ2 H4 fun z H5=>∃ kvs k,y = kV k ∧ H5 A = some (.dK kvs) ∧ kvs.length < sizeLine ∧ Nx (upd H5 A (.dK (putK kvs k z))) else Nx H3)
      (fun i H'=>∃ e' ks kvs,Tr X.kw pa (L2.wipe σ own) H1 (wipeE e1 own) (L2.wipe σ own) (er H' A) (wipeE e' own) ∧ H' A = some (.dK ks) ∧ DenKV X.kw H' ks kvs ∧ ks.length ≤ i ∧ dcompL own tg tt tk tv (ds.drop i) kvs (wipeE e' own) = .ok res e2)
      ⟨e1,[],[],by rw [er_upd,er_none hA]; exact .refl R1,upd_same,.nil,Nat.zero_le _,hc⟩ (fun i H' _ ⟨_,_,_,T',_⟩=>hG H' (T'.gr.trans grow_er)) (fun i x H' H2 hi ⟨e',ks,kvs,T',hA',hZ,hle,q'⟩ y=>?_) fun H' ⟨e',ks,kvs,T',hA',hZ,hle,q'⟩=>?_
    · obtain ⟨sm,d,hd',hx⟩:=hY i H' x H2 (T'.gr.trans grow_er) y
      rw [drop_at hi hd'] at q'
      have R' : Rel X.kw pa (L2.wipe σ own) H' (wipeE e' own):=T'.rel.of_er
      have nD':=nD T'.rel
      have T2 : Tr X.kw pa (L2.wipe σ own) H' (wipeE e' own) (L2.wipe σ own) H2 (wipeE e' own):=Tr.same R' sm
      unfold dcompL at q'
      obtain ⟨_,e3,k1,q'⟩:=Rs.bind_ok q'
      obtain ⟨b,e4,k2,q'⟩:=Rs.bind_ok q'
      refine hg x _ H2 _ ⟨d,wipeE e' own,e3,hx,R'.same sm,k1,fun σ3 T3 w3=>⟨w3.trans wipe_wipe,e3,T3.rel,?_⟩⟩
      have w3':=w3.trans wipe_wipe
      have T3':=T2.trans T3
      rw [nox_ok k2]
      intro H4 T4
      have T4':=T3'.trans T4
      have hA4 : H4 A = some (.dK ks):=T4'.fr A _ hA' nD' nt_dK
      cases b with
      | false=>exact iteF ⟨e4,ks,kvs,T'.trans ((Tr.forget T4' w3').er (.inr (.inl ⟨_,hA'⟩)) nD' (.inr (.inl ⟨_,hA4⟩))),hA4,hZ.mono T4'.gr,Nat.le_succ_of_le hle,q'⟩
      | true =>
        dsimp only at q'
        obtain ⟨kd,e5,k3,q'⟩:=Rs.bind_ok q'
        obtain ⟨vd,e6,k4,q'⟩:=Rs.bind_ok q'
        refine iteT ⟨e4,T4.rel,?_⟩
        rw [nox_ok k3]
        intro u H5 T5 hu
        refine ⟨e5,T5.rel,?_⟩
        rw [nox_ok k4]
        intro v H6 T6 hv
        have T6':=T4'.trans (T5.trans T6)
        have hA6 : H6 A = some (.dK ks):=T6'.fr A _ hA' nD' nt_dK
        split at q'
        rotate_left
        · cases q'
        next ky hk =>
        have ek:=isKey_kD hk
        subst ek
        have eu:=key_v (Den.rdb hu)
        refine ⟨ks,ky,eu,hA6,by omega,e6,putK ks ky v,putD kvs (kD ky) vd,?_,upd_same,?_,?_,q'⟩
        · rw [er_upd]
          exact T'.trans ((Tr.forget T6' w3').er (.inr (.inl ⟨_,hA'⟩)) nD' (.inr (.inl ⟨_,hA6⟩)))
        · have gg : Grow H6 (upd H6 A (.dK (putK ks ky v))):=grow_frz hA6 (.inr (.inl ⟨_,rfl⟩))
          exact (kv_put hv (hZ.mono T6'.gr)).mono gg
        · have:=putK_len (ks:=ks) (k:=ky) (v:=v)
          omega
    · rw [List.drop_length] at q'
      have q' : Rs.ok kvs (wipeE e' own) = Rs.ok res e2:=q'
      cases q'
      have hLo : Loose H' A:=.inr (.inl ⟨_,hA'⟩)
      have TB:=Tr.backC (e2:=wipeE e' own) T.rel hA T' hLo
      refine k _ _ (T.trans TB) ⟨A,rfl,T.nn A hA,.inl ⟨ks,hA',hZ⟩,fun z=>?_⟩
      rcases own_back (by rw [wipeE_len]; have h1:=T'.rel.ln; rw [wipe_length,wipeE_len] at h1; rw [← h1]; exact T.rel.ln.symm) z with z | z
      · exact (T.rel.loose z).some hA
      · exact (T'.rel.loose z).some er_same
theorem ev_dcomp {c : Bool} {kx vx tg iter : Expr} {ifs : List Expr} {scope : Scope} {own : List (Str × Nat)} {it : M (List D)} {g : D → M Unit} {tt : M Bool} {tk tv : M D} (hc : X.calm = true) (hN : X.N.Nodup) (hi : EI X pa W c tg iter it) (ok : BlkOk X.N X.env.scope scope own) (ho : tgOk g)
    (hg : ∀ (s : Shared) (H : Hp) (C : Addr) (cl : List (Str × Addr)) (fp : List Addr),EGw (X.blk s H scope (compEnvC scope cl C X.env) fp) pa c (own.map (·.2)) tg g)
    (ht : ∀ (s : Shared) (H : Hp) (C : Addr) (cl : List (Str × Addr)) (fp : List Addr),ETs (X.blk s H scope (compEnvC scope cl C X.env) fp) pa W0 ifs tt)
    (hk : ∀ (s : Shared) (H : Hp) (C : Addr) (cl : List (Str × Addr)) (fp : List Addr),ED (X.blk s H scope (compEnvC scope cl C X.env) fp) pa W0 kx tk)
    (he : ∀ (s : Shared) (H : Hp) (C : Addr) (cl : List (Str × Addr)) (fp : List Addr),ED (X.blk s H scope (compEnvC scope cl C X.env) fp) pa W0 vx tv) (hs : ∀ x,foldedSetIterable iter X.env x = pure x:=by intro _; rfl) :
    EV X pa W (.DictComp kx vx [⟨tg,iter,ifs,0⟩] scope pos) (dcompM (own.map (·.2)) it g tt tk tv) :=
  PE.imp (pe_dc hc hN hi ok (fun s H C cl fp=>(hg s H C cl fp).run) ht hk he hs) fun σ H Q q=>rd_dcomp ho (fun v σ H Q h=>h) q
end
end DL
end L2
namespace L2
namespace DL
open PySem PySem.Spec PyProof.Rows
def Pv.look (p : Pv) (e : Ev) : Option D:=match p with
  | .o x=>some x
  | p=>p.get e
section
variable {X : Cx} {pa : Pa} {W : WX} {a b c : Expr} {f g : M Pv} {pos p : Pos} {rest : List Expr} {x : Str}
theorem DenAll.empty {K : KW} {H : Hp} {vs : List V} {ds : List D} (h : DenAll K H vs ds) : (!vs.isEmpty) = !ds.isEmpty:=by cases h <;> rfl
theorem DenKV.empty {K : KW} {H : Hp} {vs : List (Key × V)} {ds : List (D × D)} (h : DenKV K H vs ds) : (!vs.isEmpty) = !ds.isEmpty:=by cases h <;> rfl
theorem tru_rdb : TruR X (fun x H Q=>∃ d k,Rdb X.kw H x d ∧ truD d = some k ∧ Q k H):=by
  intro pins s σ H x v Q I rx ⟨d,k,h,hk,q⟩
  cases d with
  | none=>cases hk; cases h; exact tru_ok pins s σ H _ v Q I rx ⟨false,rfl,q⟩
  | bool b=>cases hk; cases h; exact tru_ok pins s σ H _ v Q I rx ⟨_,rfl,q⟩
  | int i=>cases hk; cases h; exact tru_ok pins s σ H _ v Q I rx ⟨_,rfl,q⟩
  | str y =>
    dsimp only [truD] at hk
    split at hk
    · next hy=>cases hk; cases h; exact tru_ok pins s σ H _ v Q I rx ⟨_,⟨by rw [sizeLine_eq]; exact hy,rfl⟩,q⟩
    · cases hk
  | list ds =>
    cases hk
    obtain ⟨a,xs,rfl,h1,h2⟩:=h
    exact tru_ok pins s σ H _ v Q I rx ⟨_,.inl ⟨xs,.inl h1,h2.empty.symm⟩,q⟩
  | tuple ds =>
    cases hk
    cases h with
    | tup h1 h2=>exact tru_ok pins s σ H _ v Q I rx ⟨_,.inr (.inl ⟨_,h1.sq,h2.empty.symm⟩),q⟩
  | dict kvs =>
    have hk : (if nkv kvs = true then none else some (!kvs.isEmpty)) = some k:=hk
    cases nn : nkv kvs with
    | true=>rw [nn,if_pos rfl] at hk; cases hk
    | false =>
    rw [nn,if_neg Bool.false_ne_true] at hk
    cases hk
    obtain ⟨a,ks,rfl,h1,h2⟩:=h.dct nn
    cases rx
    obtain ⟨hz,hS,vs,r,m⟩:=dk_rd I.hok h1
    have hlen : ks.length = vs.length:=Paired.length r
    have hl:=line63
    have hs : sizeLine = 16777216:=sizeLine_eq
    exact wpAny_truthy_dict hS m (by omega) ⟨H,I.tok _,by rw [isEmpty_kv r,h2.empty]; exact q⟩
def truM (f : M Pv) : M Bool:=fun e=>(pk f e).bind fun p e1=>match (p.get e1).bind truD with
  | some b=>.ok b e1
  | none=>.bad
theorem pt_truR {r : V → Hp → (Bool → Hp → Prop) → Prop} {ta : TE} (ha : PE X a ta) (hr : TruR X r) (he : ∀ whole,isTrue a X.env whole = (do let v ← whole; standAt a.pos; holding [v] (truthy v))) : PT X a (fun σ H Q=>ta σ H fun x H'=>r x H' Q):=by
  refine ⟨fun pins s σ H Q I h=>?_⟩
  exact isTrue_plain (thn (ha.run pins s σ H _ I h) fun v s1 ⟨x,H1,I1,r1,q1⟩=>hr pins s1 σ H1 x v Q I1 r1 q1) (he _)
theorem get_some2 {α β : Type} {o : Option α} {h : α → Option β} {r : β} (q : o.bind h = some r) : ∃ d,o = some d ∧ h d = some r:=by
  cases o with
  | none=>cases q
  | some d=>exact ⟨d,rfl,q⟩
theorem et_tru (h : EV X pa W a f) (he : ∀ whole,isTrue a X.env whole = (do let v ← whole; standAt a.pos; holding [v] (truthy v)):=by intro _; rfl) : ET X pa W a (truM f) :=
  PT.imp (pt_truR (ev_pk h) tru_rdb he) fun σ H Q ⟨en,R,q⟩=>⟨en,R,(Out.bind q).imp fun p e1 hp k v H1 T hv=>by
    have k:=k H1 T
    split at k
    · next b hb =>
      obtain ⟨d,h1,h2⟩:=get_some2 hb
      exact ⟨d,b,(pk_is hp hv).rdb T.rel h1,h2,k H1 T⟩
    · exact k.elim⟩
theorem PvIs.rdb {K : KW} {σ : St} {H H1 : Hp} {e1 : Ev} {v : V} {p : Pv} {d : D} (R : Rel K pa σ H1 e1) (hv : PvIs K σ H H1 e1 v p) (h : p.look e1 = some d) : Rdb K H1 v d:=by
  cases p with
  | d x=>exact PvK.rdb (p:=.d x) R hv h
  | r i=>exact PvK.rdb (p:=.r i) R hv h
  | o x=>cases h; obtain ⟨a,rfl,_,ho,_⟩:=hv; exact ho.rdb
def orX (f g : M Pv) : M Pv:=fun e=>(f e).bind fun p e1=>match (p.look e1).bind truD with
  | some true=>.ok p e1
  | some false=>g e1
  | none=>.bad
def andX (f g : M Pv) : M Pv:=fun e=>(f e).bind fun p e1=>match (p.look e1).bind truD with
  | some true=>g e1
  | some false=>.ok p e1
  | none=>.bad
def notX (f : M Pv) : M Pv:=fun e=>(truM f e).bind fun b e1=>.ok (.d (.bool (!b))) e1
theorem ev_orX (ha : EV X pa W a f) (hb : EV X pa W (.BoolOp .Or (b :: rest) pos) g) : EV X pa W (.BoolOp .Or (a :: b :: rest) pos) (orX f g):=by
  refine ⟨fun pins s σ H Q I ⟨en,R,q⟩=>?_⟩
  refine BoolOp_or (thn (ha.run pins s σ H (fun x H1=>∃ d k,Rdb X.kw H1 x d ∧ truD d = some k ∧ if k = true then Q x H1 else tV (gd X pa W) g σ H1 Q) I ⟨en,R,(Out.bind q).imp fun p e1 _ k v H1 T hv=>?_⟩) fun v s1 ⟨x,H1,I1,r1,d,k,h1,h2,q1⟩=>?_)
  · have k:=k H1 T
    split at k
    · next hb=>obtain ⟨d,h1,h2⟩:=get_some2 hb; exact ⟨d,true,PvIs.rdb T.rel hv h1,h2,iteT (k v H1 T hv)⟩
    · next hb=>obtain ⟨d,h1,h2⟩:=get_some2 hb; exact ⟨d,false,PvIs.rdb T.rel hv h1,h2,iteF (at_V T k)⟩
    · exact k.elim
  · refine thn (tru_rdb pins s1 σ H1 x v (fun c H2=>c = k ∧ H2 = H1) I1 r1 ⟨d,k,h1,h2,rfl,rfl⟩) fun c s2 hc=>?_
    obtain ⟨H2,I2,e1,e2⟩:=hc
    rw [e2] at I2
    rw [← e1] at q1
    cases c with
    | true=>exact ⟨x,H1,I2,r1,q1⟩
    | false=>exact hb.run pins s2 σ H1 Q I2 q1
theorem ev_andX (ha : EV X pa W a f) (hb : EV X pa W (.BoolOp .And (b :: rest) pos) g) : EV X pa W (.BoolOp .And (a :: b :: rest) pos) (andX f g):=by
  refine ⟨fun pins s σ H Q I ⟨en,R,q⟩=>?_⟩
  refine BoolOp_and (thn (ha.run pins s σ H (fun x H1=>∃ d k,Rdb X.kw H1 x d ∧ truD d = some k ∧ if k = true then tV (gd X pa W) g σ H1 Q else Q x H1) I ⟨en,R,(Out.bind q).imp fun p e1 _ k v H1 T hv=>?_⟩) fun v s1 ⟨x,H1,I1,r1,d,k,h1,h2,q1⟩=>?_)
  · have k:=k H1 T
    split at k
    · next hb=>obtain ⟨d,h1,h2⟩:=get_some2 hb; exact ⟨d,true,PvIs.rdb T.rel hv h1,h2,iteT (at_V T k)⟩
    · next hb=>obtain ⟨d,h1,h2⟩:=get_some2 hb; exact ⟨d,false,PvIs.rdb T.rel hv h1,h2,iteF (k v H1 T hv)⟩
    · exact k.elim
  · refine thn (tru_rdb pins s1 σ H1 x v (fun c H2=>c = k ∧ H2 = H1) I1 r1 ⟨d,k,h1,h2,rfl,rfl⟩) fun c s2 hc=>?_
    obtain ⟨H2,I2,e1,e2⟩:=hc
    rw [e2] at I2
    rw [← e1] at q1
    cases c with
    | true=>exact hb.run pins s2 σ H1 Q I2 q1
    | false=>exact ⟨x,H1,I2,r1,q1⟩
theorem ev_notX (ha : EV X pa W a f) : EV X pa W (.UnaryOp .Not a pos) (notX f):=by
  refine ⟨fun pins s σ H Q I ⟨en,R,q⟩=>?_⟩
  refine UnaryOp_ (thn ((ev_pk ha).run pins s σ H (fun x H1=>∃ d k,Rdb X.kw H1 x d ∧ truD d = some k ∧ Q (.bl (!k)) H1) I ⟨en,R,?_⟩) fun v s1 ⟨x,H1,I1,r1,d,k,h1,h2,q1⟩=>?_)
  · have q:=Out.bind (show Out _ σ H en ((truM f en).bind _) _ from q)
    refine (Out.bind (show Out _ σ H en ((pk f en).bind _) _ from q)).imp fun p e1 hp k v H1 T hv=>?_
    have k:=k H1 T
    split at k
    · next b hb =>
      obtain ⟨d,h1,h2⟩:=get_some2 hb
      exact ⟨d,b,(pk_is hp hv).rdb T.rel h1,h2,k H1 T _ H1 T (.bl _)⟩
    · exact k.elim
  · exact not_of (thn (tru_rdb pins s1 σ H1 x v (fun c H2=>Q (.bl (!c)) H2) I1 r1 ⟨d,k,h1,h2,q1⟩) fun c s2 ⟨H2,I2,q2⟩=>⟨.bl (!c),H2,I2,rfl,q2⟩)
theorem Out.step {α : Type} {G : Gd} {σ : St} {H H1 : Hp} {e e1 : Ev} {r : Rs α} {ok : α → Ev → Prop} (q : Out G σ H e r ok) (T : Tr G.K G.pa σ H e σ H1 e1) : Out G σ H1 e1 r ok:=by
  cases r with
  | ok a e'=>exact q
  | exc x e'=>exact fun c dx H' T' xd=>q c dx H' (T.trans T') xd
  | bad=>exact q
def pick {α : Type} (ix : List Nat) (us ws : List α) : List α:=ix.filterMap fun i=>(us ++ ws)[i]?
theorem vals_pick {ix : List Nat} {vs zs : List V} {us ws : List Value} (r : Vals vs us) (r' : Vals zs ws) : Vals (pick ix vs zs) (pick ix us ws):=by
  have rr:=r.append r'
  unfold pick
  generalize vs ++ zs = l at rr
  generalize us ++ ws = m at rr
  have at' : ∀ (i : Nat),(l[i]? = none ∧ m[i]? = none) ∨ ∃ v u,l[i]? = some v ∧ m[i]? = some u ∧ RelV v u:=by
    intro i
    clear r r'
    induction rr generalizing i with
    | nil=>exact .inl ⟨by simp,by simp⟩
    | cons h t ih =>
      cases i with
      | zero=>exact .inr ⟨_,_,rfl,rfl,h⟩
      | succ i=>simpa using ih i
  induction ix with
  | nil=>exact .nil
  | cons i ix ih =>
    rcases at' i with ⟨h1,h2⟩ | ⟨v,u,h1,h2,h3⟩
    · rw [List.filterMap_cons,List.filterMap_cons,h1,h2]; exact ih
    · rw [List.filterMap_cons,List.filterMap_cons,h1,h2]; exact .cons h3 ih
structure KwOk (K : PySem.W.Frag) (fd : FuncData) (ps : List Str) (n : Nat) (ks : List Str) (ix : List Nat) : Prop where
  to : ∀ (s : Shared) (us ws : List Value),K.In s.heap → us.length = n → ws.length = ks.length → BindsTo s fd ⟨us,ks.zip ws⟩ (ps.zip (pick ix us ws))
theorem kwOk {K : PySem.W.Frag} {x qual : Str} {params : Arguments} {body : List Stmt} {scope : Scope} {kws : List (Str × V)} {f : Addr} {fd : FuncData} {ps : List Str} {n : Nat} {ks : List Str} {ix : List Nat} (F : FunD K x qual params body scope [] kws f fd)
    (h : ∀ (kV doc pm : Value) (an : Option Addr) (cdv ct : Value) (us ws : List Value),us.length = n → ws.length = ks.length → bindArgs (PySem.W.fnOf x qual params body scope .none kV doc pm an cdv ct) ⟨us,ks.zip ws⟩ = pure (ps.zip (pick ix us ws))) : KwOk K fd ps n ks ix:=by
  obtain ⟨oc,od,dV,kV,doc,pm,an,cdv,ct,osl,rfl,lk,hcd,hD,hK⟩:=F.ex
  rcases hD with ⟨_,rfl⟩ | ⟨e,_⟩
  · exact ⟨fun s us ws _ l1 l2=>.of_eq (h kV doc pm an cdv ct us ws l1 l2)⟩
  · exact absurd rfl e
variable {k : Nat} {fa : Addr} {fd : FuncData} {ps ks : List Str} {m : List Sl → Rf} {e : Expr} {es : List Expr} {kws : List Keyword} {n : Nat} {ix : List Nat}
structure EK (X : Cx) (pa : Pa) (W : WX) (kws : List Keyword) (f : M (List D)) : Prop where
  run : PK X kws (tDs (gd X pa W) f)
  len : ∀ e ds e',f e = .ok ds e' → ds.length = kws.length
theorem PK.imp {t t' : TA} (h : PK X kws t) (f : ∀ σ H Q,t' σ H Q → t σ H Q) : PK X kws t':=⟨fun p pins s σ H Q I q=>h.run p pins s σ H Q I (f σ H Q q)⟩
theorem ek_nil : EK X pa W [] nilA:=⟨PK.imp pk_nil fun σ H Q ⟨en,R,q⟩=>q [] H (.refl R) .nil,fun e ds e' h=>by cases h; rfl⟩
theorem ek_cons {nm : Option Str} {kpos : Pos} {f : M D} {g : M (List D)} (ha : ED X pa W e f) (hr : EK X pa W kws g) : EK X pa W (⟨nm,e,kpos⟩ :: kws) (consA f g):=by
  refine ⟨PK.imp (pk_cons ha hr.run) fun σ H Q ⟨en,R,q⟩=>⟨en,R,(Out.bind q).imp fun d e1 _ k v H1 T hv=>?_⟩,fun e ds e' h=>?_⟩
  · refine ⟨e1,T.rel,(Out.bind (k H1 T)).imp fun ds e2 _ k2 vs H2 T2 hvs=>?_⟩
    exact k2 H2 T2 (v :: vs) H2 (T.trans T2) (.cons (hv.mono T2.gr) hvs)
  · obtain ⟨d,e1,_,h⟩:=Rs.bind_ok h
    obtain ⟨ds',e2,h1,h⟩:=Rs.bind_ok h
    cases h
    rw [List.length_cons,hr.len _ _ _ h1,List.length_cons]
theorem run_fnKS {E : St → XK} {sp : Sp} {pins : List (Addr × Obj)} {σ : St} {H : Hp} {s : Shared} {Q : VK} {us ws : List Value} {vs zs : List V} (F : FnOk X.prog X.w X.kw X.mg X.base (L2.CX X.prog X.w) k fa fd ps sp) (hr : Room k X.A) (hb : KwOk X.kw fd ps n ks ix) (hx : PassesAt (L2.CX X.prog X.w) X σ (E σ))
    (I : Inv X pins σ H s) (r : Vals vs us) (rz : Vals zs ws) (l1 : vs.length = n) (l2 : zs.length = ks.length) (h : sp (pick ix vs zs) H Q (E σ)) : wpAny (model X.prog X.w) X.A (call (.ref fa) us (ks.zip ws)) (EP X pins σ Q) X.xe s:=by
  refine wpAny_call (codeAny_mono (F.run X.A X.stack s H ⟨us,ks.zip ws⟩ (pick ix us ws) (pick ix vs zs) Q (E σ) hr I.env0 (hb.to s us ws I.kIn (r.length.symm.trans l1) (rz.length.symm.trans l2)) (vals_pick r rz) h) fun r s' hq=>?_)
  cases r with
  | error e=>exact hx pins H s e s' I hq
  | ok fl =>
    cases fl with
    | ret u=>exact I.after hq
    | next=>exact False.elim hq
    | brk=>exact False.elim hq
    | cont=>exact False.elim hq
def pickA (ix : List Nat) (f g : M (List D)) : M (List D):=fun e=>(f e).bind fun ds e1=>(g e1).bind fun ds' e2=>.ok (pick ix ds ds') e2
theorem den_pick {K : KW} {H : Hp} {ix : List Nat} {vs zs : List V} {ds es : List D} (r : DenAll K H vs ds) (r' : DenAll K H zs es) : DenAll K H (pick ix vs zs) (pick ix ds es):=by
  have rr:=r.append r'
  unfold pick
  generalize vs ++ zs = l at rr
  generalize ds ++ es = m at rr
  induction ix with
  | nil=>exact .nil
  | cons i ix ih =>
    cases h : l[i]? with
    | none =>
      have h2 : m[i]? = none:=by
        rw [List.getElem?_eq_none_iff] at h ⊢
        rw [← rr.length]; exact h
      rw [List.filterMap_cons,List.filterMap_cons,h,h2]; exact ih
    | some v =>
      obtain ⟨d,h1,h2⟩:=all_get rr h
      rw [List.filterMap_cons,List.filterMap_cons,h,h1]; exact .cons h2 ih
theorem rd_pick {f g : M (List D)} {σ : St} {H : Hp} {Q : VK} (hf : ∀ e ds e',f e = .ok ds e' → ds.length = n) (hg : ∀ e ds e',g e = .ok ds e' → ds.length = ks.length) (hix : ∀ ds es : List D,ds.length = n → es.length = ks.length → (pick ix ds es).length = ps.length)
    (q : tV (gd X pa W) (callD m (pickA ix f g)) σ H Q) : tDs (gd X pa W) f σ H fun vs H1=>tDs (gd X pa W) g σ H1 fun zs H2=>vs.length = n ∧ zs.length = ks.length ∧ spD X.kw pa.T X.mg m ps.length (pick ix vs zs) H2 Q (WE W σ):=by
  have q:=rd_call (n:=ps.length) (fun e ds e' h=>by
    obtain ⟨a,e1,h1,h⟩:=Rs.bind_ok h
    obtain ⟨b,e2,h2,h⟩:=Rs.bind_ok h
    cases h
    exact hix a b (hf _ _ _ h1) (hg _ _ _ h2)) q
  obtain ⟨en,R,q⟩:=q
  refine ⟨en,R,(Out.bind q).imp fun ds e1 h1 k vs H1 T hvs=>⟨e1,T.rel,(Out.bind (k H1 T)).imp fun es e2 h2 k2 zs H2 T2 hzs=>⟨?_,?_,?_⟩⟩⟩
  · rw [hvs.length]; exact hf _ _ _ h1
  · rw [hzs.length]; exact hg _ _ _ h2
  · exact k2 H2 T2 _ H2 (T.trans T2) (den_pick (hvs.mono T2.gr) hzs)
theorem ev_callK0 {g : M (List D)} (F : FnOk X.prog X.w X.kw X.mg X.base (L2.CX X.prog X.w) k fa fd ps (spD X.kw pa.T X.mg m ps.length)) (hr : Room k X.A) (tk : Takes X W) (hg : Gl X x) (hm : X.mg x = some (.ref fa)) (hk : PySem.W.keepIn X.kw (.ref fa) = true) (hb : KwOk X.kw fd ps 0 ks ix)
    (hkw : EK X pa W kws g) (hl : kws.length = ks.length:=by rfl) (hix : ∀ ds ws : List D,ds.length = 0 → ws.length = ks.length → (pick ix ds ws).length = ps.length) (hall : (backToKw pos (keywordEach kws X.env)).all (·.1.isSome) = true:=by rfl) (hks : (backToKw pos (keywordEach kws X.env)).filterMap (·.1) = ks:=by rfl)
    (hdb : (x == ("__debug__" : Str)) = false:=by decide) (hpl : ((backTo pos (starEach [] X.env)).any (·.1) || (backToKw pos (keywordEach kws X.env)).any (·.1.isNone)) = false:=by rfl) :
    EV X pa W (.Call (.Name x p) [] kws pos) (callD m (pickA ix nilA g)):=by
  refine ⟨fun pins s σ H Q I h=>?_⟩
  obtain ⟨en,R,h⟩:=rd_pick (n:=0) (ks:=ks) (ps:=ps) (fun e ds e' z=>by cases z; rfl) (fun e ds e' z=>(hkw.len e ds e' z).trans hl) hix h
  have h:=h [] H (.refl R) .nil
  refine wpAny_Call_Name_kw (ld_glob I hg hm ?_ hdb)
  refine PySem.W.callWith_KW0 (h₀:=X.base) I.ok.mod.kin hk hall (thn (hkw.run.run pos pins s σ H _ I h) fun ws s2 ⟨zs,H2,I2,rz,l1,l2,q2⟩=>⟨I2.kIn,?_⟩) hpl
  rw [hks]
  exact run_fnKS (us:=[]) F hr hb (passAt tk σ) I2 .nil rz l1 l2 q2
end
end DL
end L2
namespace L2
namespace DL
open PySem PySem.Spec PyProof.Rows
end DL
end L2
namespace L2
namespace DL
open PySem PySem.Spec PyProof.Rows
theorem un {k n : Nat} {A : Around} (r : Room k A) (h : n ≤ 200:=by decide) : A.units + n < cLine:=by have:=r.un; omega
section
variable {P : Program} {w : World} {K : PySem.W.Frag} {mg : Str → Option Value} {base : Heap}
theorem fn_bad {KK : KW} {K : PySem.W.Frag} {k : Nat} {f : Addr} {fd : FuncData} {ps : List Str} {T : List (Addr × Str)} : FnOk P w K mg base (L2.CX P w) k f fd ps (spD KK T mg (fun _=>.bad) ps.length) :=
  ⟨fun vs H Q E h=>h.1,fun A outer s H args us vs Q E _ _ _ _ ⟨_,_,_,_,h⟩=>h.elim⟩
variable {N : List Str} {qual : Str} {scope : Scope} {f : Addr} {cd : Value} {A : Around} {outer : List Env} {s : Shared} {H : Hp} {E : XK}
theorem tkx : Takes (cxOf (L2.CX P w) P w K mg base N qual scope f cd A outer s H E) (fun c d _ H=>E c d H):=takes_of rfl rfl rfl rfl
theorem psx : PassesOwn (model P w) (cxOf (L2.CX P w) P w K mg base N qual scope f cd A outer s H E).A (cxOf (L2.CX P w) P w K mg base N qual scope f cd A outer s H E).env (cxOf (L2.CX P w) P w K mg base N qual scope f cd A outer s H E).xe:=passes_of rfl
end
def isLoc : NameKind → Bool
  | .local=>true
  | .cell=>true
  | _=>false
def isFree : NameKind → Bool
  | .free=>true
  | _=>false
def isBox : Option NameKind → Bool
  | some .cell=>true
  | some .free=>true
  | _=>false
def blkB (N : List Str) (sc scope : Scope) (own : List (Str × Nat)) : Bool :=
  (scope.kind == .function) && ((scope.names.all fun y=>decide (scope.names.lookup y.1 = some y.2)) && ((own.all fun p=>decide (N[p.2]? = some p.1)) && ((scope.names.all fun y=>!isFree y.2 || isBox (sc.names.lookup y.1)) && (scope.names.all fun y=>!isLoc y.2 || (decide (y.1 ∈ own.map (·.1)) || decide (y.1 ∉ N))))))
theorem blk {N : List Str} {sc scope : Scope} {own : List (Str × Nat)} (h : blkB N sc scope own = true) (hk : scope.kind = .function:=by rfl) : BlkOk N sc scope own:=by
  unfold blkB at h
  rw [Bool.and_eq_true,Bool.and_eq_true,Bool.and_eq_true,Bool.and_eq_true] at h
  obtain ⟨_,h2,h3,h4,h5⟩:=h
  refine ⟨hk,fun y hy=>of_decide_eq_true (List.all_eq_true.mp h2 y hy),fun p hp=>of_decide_eq_true (List.all_eq_true.mp h3 p hp),fun y hy e=>?_,fun y hy e=>?_⟩
  · have q:=List.all_eq_true.mp h4 y hy
    rw [e] at q
    have q : isBox (sc.names.lookup y.1) = true:=q
    unfold isBox at q
    split at q
    · next z=>exact .inl z
    · next z=>exact .inr z
    · cases q
  · have q:=List.all_eq_true.mp h5 y hy
    have e2 : isLoc y.2 = true:=by rcases e with e | e <;> rw [e] <;> rfl
    rw [e2] at q
    rcases Bool.or_eq_true_iff.mp (show (decide (y.1 ∈ own.map (·.1)) || decide (y.1 ∉ N)) = true from q) with z | z
    · exact .inl (of_decide_eq_true z)
    · exact .inr (of_decide_eq_true z)
def isLstO (o : Obj) : Bool:=match o.data with
  | .seq _ _=>o.cls == .type "list"
  | _=>false
def noLst (K : PySem.W.Frag) : PySem.W.Frag:=K.filter fun p=>match K.lookup p.1 with
  | some o=>!isLstO o
  | none=>false
theorem lookup_filter {c : Addr → Bool} (a : Addr) : ∀ K : PySem.W.Frag,(K.filter fun p=>c p.1).lookup a = if c a then K.lookup a else none
  | []=>by simp
  | (b,o) :: K=>by
    rw [List.filter_cons]
    dsimp only
    by_cases hb : c b = true
    · rw [if_pos hb,List.lookup_cons,List.lookup_cons,lookup_filter a K]
      by_cases e : a == b
      · have : a = b:=by simpa using e
        subst this
        simp [hb]
      · simp [e]
    · rw [if_neg hb,lookup_filter a K,List.lookup_cons]
      by_cases e : a == b
      · have : a = b:=by simpa using e
        subst this
        simp [hb]
      · simp [e]
theorem noLst_at {K : PySem.W.Frag} {a : Addr} : (noLst K).lookup a = (match K.lookup a with
    | some o=>if isLstO o then none else some o
    | none=>none):=by
  unfold noLst
  rw [lookup_filter (c:=fun a=>match K.lookup a with
    | some o=>!isLstO o
    | none=>false)]
  cases K.lookup a with
  | none=>rfl
  | some o=>cases h : isLstO o <;> simp [h]
theorem noLst_keep {K : PySem.W.Frag} {a : Addr} {o : Obj} (h : K.lookup a = some o) (n : isLstO o = false) : (noLst K).lookup a = some o:=by
  rw [noLst_at,h]
  simp [n]
theorem noLst_in {K : PySem.W.Frag} {h : Heap} (x : K.In h) : (noLst K).In h:=fun a o e=>by
  rw [noLst_at] at e
  cases q : K.lookup a with
  | none=>rw [q] at e; cases e
  | some o' =>
    rw [q] at e
    dsimp only at e
    split at e
    · cases e
    · cases e; exact x a o q
theorem noLst_no {K : PySem.W.Frag} {a : Addr} {o : Obj} {its : Array Value} {n : Nat} (h : (noLst K).lookup a = some o) (hc : o.cls = .type "list") (hd : o.data = .seq its n) : False:=by
  rw [noLst_at] at h
  cases q : K.lookup a with
  | none=>rw [q] at h; cases h
  | some o' =>
    rw [q] at h
    dsimp only at h
    split at h
    · cases h
    · next z =>
      cases h
      apply z
      unfold isLstO
      rw [hd,hc]
      rfl
theorem FunD.noLst {K : PySem.W.Frag} {x qual : Str} {params : Arguments} {body : List Stmt} {scope : Scope} {f : Addr} {fd : FuncData} (F : FunD K x qual params body scope [] [] f fd) : FunD (DL.noLst K) x qual params body scope [] [] f fd:=by
  obtain ⟨oc,od,dV,kV,doc,pm,an,cdv,ct,osl,hf,lk,hcd,hD,hK⟩:=F.ex
  have lk' : (DL.noLst K).lookup f = some ⟨oc,od,.func fd,osl⟩:=noLst_keep lk rfl
  refine ⟨⟨oc,od,dV,kV,doc,pm,an,cdv,ct,osl,hf,lk',?_,?_,.inl rfl⟩,?_⟩
  · unfold PySem.W.codeIn at hcd ⊢
    split at hcd
    · next c =>
      split at hcd
      · next a1 a2 vs a3 hl=>rw [noLst_keep hl rfl]; exact hcd
      · cases hcd
    · cases hcd
  · rcases hD with hD | ⟨z,_⟩
    · exact .inl hD
    · exact absurd rfl z
  · unfold PySem.W.keepIn
    dsimp only
    rw [lk']
theorem den_ints {K : KW} {H : Hp} : ∀ ns : List Int,DenAll K H (ns.map V.int) (ns.map PyData.int)
  | []=>.nil
  | n :: ns=>.cons (.int n) (den_ints ns)
def spH (K : KW) (T : List (Addr × Str)) (mg : Str → Option Value) (m : List Sl → Rf) : Sp:=fun vs H Q E=>vs.length = 1 ∧ (∀ c d H',¬ E c d H') ∧
  (spD K T mg m 1 vs H Q E ∨ ∃ (a : Addr) (xs : List V),H a = some (.lst xs) ∧ ∀ o,spD K T mg m 1 vs (upd H a (.frz o (.lst xs))) Q E)
theorem FnOk.lock {P : Program} {w : World} {KK : KW} {K : PySem.W.Frag} {mg : Str → Option Value} {base : Heap} {k : Nat} {f : Addr} {fd : FuncData} {x : Str} {T : List (Addr × Str)} {m : List Sl → Rf} (F : FnOk P w K mg base (L2.CX P w) k f fd [x] (spD KK T mg m 1)) :
    FnOk P w K mg base (L2.CX P w) k f fd [x] (spH KK T mg m):=by
  refine ⟨fun vs H Q E h=>h.1,fun A outer s H args us vs Q E hr he hb hv hs=>?_⟩
  obtain ⟨_,hE,hs | ⟨a,xs,ha,hs⟩⟩:=hs
  · exact F.run A outer s H args us vs Q E hr he hb hv hs
  obtain ⟨o,ho⟩ : ∃ o,s.heap.get? a = some o:=by
    obtain ⟨_,_,_,_,e⟩:=he.hok a _ ha
    exact ⟨_,e⟩
  have nn : ∀ b,H b = none → b ≠ a:=fun b q z=>by subst z; rw [ha] at q; cases q
  have nown : ∀ b y,H b = some (.own y) → b ≠ a:=fun b y q z=>by subst z; rw [ha] at q; cases q
  have ntup : ∀ b ys,H b = some (.tup ys) → b ≠ a:=fun b ys q z=>by subst z; rw [ha] at q; cases q
  have nfrz : ∀ b o' u',H b = some (.frz o' u') → b ≠ a:=fun b o' u' q z=>by subst z; rw [ha] at q; cases q
  have ntbl : ∀ b ps,H b = some (.tbl ps) → b ≠ a:=fun b ps q z=>by subst z; rw [ha] at q; cases q
  have st : ∀ c w',H c = some w' → ObjOk P w (upd H a (.frz o (.lst xs))) s.heap c w':=fun c w' q' =>
    (he.hok c w' q').stay (fun _ _ _ z=>z) (fun d z=>by rw [upd_ne (nown d c z)]; exact z) fun d ys z=>by rw [upd_ne (ntup d ys z)]; exact z
  have hok' : HOk P w (upd H a (.frz o (.lst xs))) s.heap:=fun b u q=>by
    by_cases hb : b = a
    · subst hb
      rw [upd_same] at q
      cases q
      exact ⟨ho,st b _ ha⟩
    · rw [upd_ne hb] at q
      exact st b u q
  refine codeAny_mono (F.run A outer s (upd H a (.frz o (.lst xs))) args us vs Q E hr ⟨he.frames,he.mod,fun b ob e=>?_,he.bsz,he.funs,fun b hb=>?_,hok',he.bare⟩ hb hv (hs o)) fun r s' h=>?_
  · obtain ⟨h1,h2⟩:=he.bs b ob e
    exact ⟨h1,by rw [upd_ne (nn b h2)]; exact h2⟩
  · rw [upd_ne (nn b (he.frf b hb))]; exact he.frf b hb
  cases r with
  | error e =>
    obtain ⟨_,_,_,_,_,_,_,_,_,_,_,_,z⟩:=h
    exact (hE _ _ _ z).elim
  | ok fl =>
    cases fl with
    | next=>exact h
    | brk=>exact h
    | cont=>exact h
    | ret u =>
      obtain ⟨v,H',h1,h2,U,h3,h4,h5⟩:=h
      exact ⟨v,H',h1,h2,⟨fun b ob e q=>U.keep b ob e (by rw [upd_ne (nn b q)]; exact q),fun b ob e q=>U.slot b ob e (by rw [upd_ne (nn b q)]; exact q),fun b ob e q=>U.free b ob e (by rw [upd_ne (nn b q)]; exact q),U.there,
        fun b ys q=>U.tups b ys (by rw [upd_ne (ntup b ys q)]; exact q),fun b ob u q=>U.frzs b ob u (by rw [upd_ne (nfrz b ob u q)]; exact q),fun b ps q=>U.tbls b ps (by rw [upd_ne (ntbl b ps q)]; exact q)⟩,h3,h4,h5⟩
theorem law_end {P : Program} {w : World} {K : PySem.W.Frag} {T : List (Addr × Str)} {mg : Str → Option Value} {m : List Sl → Rf} {H : Hp} {a : Addr} {ns : List Int} (hT : ∀ t ∈ T,H t.1 = some (.tbl #[])) (hS : SqL (noLst K) H a (ns.map V.int)) (h : ∃ outs,m [.s (.list (ns.map .int))] = .ok (.s (.bool true)) outs) :
    spH ⟨noLst K,P,w⟩ T mg m [.ref a] H (fun v _=>v = .bl true) fun _ _ _=>False:=by
  obtain ⟨outs,h⟩:=h
  have go : ∀ H1 : Hp,(∀ t ∈ T,H1 t.1 = some (.tbl #[])) → Den ⟨noLst K,P,w⟩ H1 (.ref a) (.list (ns.map .int)) → spD ⟨noLst K,P,w⟩ T mg m 1 [.ref a] H1 (fun v _=>v = .bl true) fun _ _ _=>False:=fun H1 h1 hd=>by
    refine ⟨rfl,fun t ht=>LamX.TabS.nil (h1 t ht),[.s (.list (ns.map .int))],argsOk_data (ds:=[.list (ns.map .int)]) (.cons hd .nil),?_⟩
    rw [h]
    intro v H' _ nw
    have nw : Den ⟨noLst K,P,w⟩ H' v (.bool true):=nw
    cases nw
    rfl
  refine ⟨rfl,fun _ _ _ z=>z,?_⟩
  rcases hS with (h | ⟨o,h⟩) | ⟨o,its,n,h1,h2,_,h3,_⟩
  · refine .inr ⟨a,_,h,fun o=>go _ (fun t ht=>?_) (.lst ⟨o,upd_same⟩ (den_ints ns))⟩
    rw [upd_ne (fun z=>by have q:=hT t ht; rw [z,h] at q; cases q)]
    exact hT t ht
  · exact .inl (go H hT (.lst ⟨o,h⟩ (den_ints ns)))
  · exact (noLst_no h1 h2 h3).elim
end DL
end L2
namespace L2
namespace DL
open PySem PySem.Spec PyProof.Rows
theorem walk_mirror {l : PySem.W.OpenLaw} {q : Program} {loose : List Str} {XP : (Str → Option Value) → Heap → Prop} {YP : World → Heap → Prop} {d : DefRec} {k : Nat} {x : Str} {m : List Sl → Rf} (hm : l.most = some 63) (hdf : d.params.defaults = []) (hr : Room k callerA)
    (hF : ∀ (w : World) (mg : Str → Option Value) (fa : Addr) (h : Heap),YP w h → h.Ns mainGlobals mg → mg d.name = some (.ref fa) →
      ∃ (K : PySem.W.Frag) (fd : FuncData) (cs : List (Addr × Addr)) (T : List (Addr × Str)),K.In h ∧ (∀ p ∈ cs,h.get? p.2 = some { cls:=.none,data:=.fields #[] }) ∧ (∀ p ∈ cs,(noLst K).lookup p.2 = none) ∧ (∀ p ∈ cs,PySem.W.CodeHd h p.1 p.2) ∧ (∀ t ∈ T,∃ p ∈ cs,p.2 = t.1) ∧
        (∀ (s : Shared) (u : Value),BindsTo s fd ⟨[u],[]⟩ [(x,u)]) ∧ ∀ base : Heap,(∀ p ∈ cs,LamX.TabB base mg p.1 p.2) → FnOk l.prog w (noLst K) mg base (L2.CX l.prog w) k fa fd [x] (spD ⟨noLst K,l.prog,w⟩ T mg m 1))
    (hl : ∀ ns : List Int,ns.length ≤ 63 → ∃ outs,m [.s (.list (ns.map .int))] = .ok (.s (.bool true)) outs) : PySem.W.WalkO q loose XP YP l.row.toRowW d [] (fun f vs=>PySem.call f vs):=by
  refine Att.attach_callB hm hdf fun w s₀ s₁ mg mb fa o pm cd doc a vs ns G Y ho hd hcd hg0 hobj hints hlen hbits hg=>?_
  obtain ⟨K,fd,cs,T,KX,hT,nT,C,hTc,hb,hfn⟩:=hF w mg fa _ Y G.T.g hg0
  refine LamX.law_callTs (CX:=L2.CX l.prog w) (sp:=spH ⟨noLst K,l.prog,w⟩ T mg m) (noLst_in KX) G.T.g G.T.b G.T.builtins G.T.nolimit hg hT nT C G.T.bmain hobj hints (Nat.le_trans hlen (by decide)) hr (fun base _ _ TB=>FnOk.lock (hfn base TB)) hb (fun H hH hS=>law_end (fun t ht=>?_) hS (hl ns hlen)) fun H e s' z=>?_
  · obtain ⟨p,hp,e⟩:=hTc t ht
    rw [← e]
    exact hH p hp
  · obtain ⟨_,_,_,_,_,_,_,_,_,_,_,_,z⟩:=z
    exact z
end DL
end L2
namespace L2
namespace DL
open PySem PySem.Spec PyProof.Rows
section
variable {X : Cx} {pa : Pa} {W : WX} {a b c : Expr} {f g k : M Pv} {x : Str} {p pos : Pos}
theorem into_own {σ : St} {e e' : Ev} {i : Nat} {p : Pv} {v : V} {b : Addr} (h : into i p e = .ok .nx e') (o : Own (σ.set i (some v)) e' b) : Own σ e b ∨ ((∃ y,p = .o y) ∧ v = .ref b):=by
  obtain ⟨l,t,d,g1,g2⟩:=o
  unfold into at h
  split at h
  · cases h
  · cases h
  · cases h
  · cases p with
    | r _=>cases h
    | d y =>
      cases h
      rcases set_get g1 with ⟨_,z⟩ | ⟨n1,g1⟩
      · cases z
      · rw [List.getElem?_set_ne (Ne.symm n1)] at g2
        exact .inl ⟨l,t,d,g1,g2⟩
    | o y =>
      cases h
      rcases set_get g1 with ⟨e1,_⟩ | ⟨n1,g1⟩
      · rcases set_get g2 with ⟨_,c2⟩ | ⟨n2,_⟩
        · exact .inr ⟨⟨y,rfl⟩,Option.some.inj c2.symm⟩
        · exact (n2 e1).elim
      · rw [List.getElem?_set_ne (Ne.symm n1)] at g2
        exact .inl ⟨l,t,d,g1,g2⟩
theorem into_noexc {i : Nat} {q : Pv} {e e' : Ev} {x : Px} (h : into i q e = .exc x e') : False:=by
  unfold into at h
  split at h
  · cases h
  · cases h
  · cases h
  · unfold into2 at h
    split at h <;> cases h
theorem PvIs.there {K : KW} {σ : St} {H H1 : Hp} {e1 : Ev} {b : Addr} {y : D} (h : PvIs K σ H H1 e1 (.ref b) (.o y)) : ∃ u,H1 b = some u:=by
  obtain ⟨a',h1,_,h3,_⟩:=h
  cases h1
  rcases h3.loose with ⟨_,w⟩ | ⟨_,w⟩ | ⟨_,w⟩ <;> exact ⟨_,w⟩
abbrev EAs (X : Cx) (pa : Pa) (W : WX) (es : List Expr) (f : M (List D)) : Prop:=PA X es (tDs (gd X pa W) f)
def sqD : D → Option (List D)
  | .list xs=>some xs
  | .tuple xs=>some xs
  | _=>none
def starA (f : M D) (g : M (List D)) : M (List D):=fun e=>(f e).bind fun d e1=>match sqD d with
  | some xs=>(g e1).bind fun ds e2=>.ok (xs ++ ds) e2
  | none=>.bad
theorem eas_of {es : List Expr} {f : M (List D)} (h : EA X pa W es f) : EAs X pa W es f:=h.run
theorem eas_cons {e : Expr} {es : List Expr} {f : M D} {g : M (List D)} (ha : ED X pa W e f) (hr : EAs X pa W es g) (hs : starEach (e :: es) X.env = (false,eval e X.env) :: starEach es X.env:=by rfl) : EAs X pa W (e :: es) (consA f g) :=
  PA.imp (pa_cons ha hr hs) fun σ H Q ⟨en,R,q⟩=>⟨en,R,(Out.bind q).imp fun d e1 _ k v H1 T hv =>
    ⟨e1,T.rel,(Out.bind (k H1 T)).imp fun ds e2 _ k2 vs H2 T2 hvs=>k2 H2 T2 (v :: vs) H2 (T.trans T2) (.cons (hv.mono T2.gr) hvs)⟩⟩
theorem eas_star {e : Expr} {es : List Expr} {f : M D} {g : M (List D)} (ha : ED X pa W e f) (hr : EAs X pa W es g) (hs : starEach (.Starred e p :: es) X.env = (true,eval e X.env) :: starEach es X.env:=by rfl) : EAs X pa W (.Starred e p :: es) (starA f g) :=
  PA.imp (StX.pa_star ha hr hs) fun σ H Q ⟨en,R,q⟩=>⟨en,R,(Out.bind q).imp fun d e1 _ k v H1 T hv=>by
    have k1:=k H1 T
    have go : ∀ (xs : List D) (vs : List V) (pp : Addr),sqD d = some xs → v = .ref pp → (SqT X.kw H1 pp vs ∨ SqL X.kw H1 pp vs) → DenAll X.kw H1 vs xs → ∃ p' xs',v = V.ref p' ∧ (SqT X.kw H1 p' xs' ∨ SqL X.kw H1 p' xs') ∧ tDs (gd X pa W) g σ H1 fun ys H2=>Q (xs' ++ ys) H2:=fun xs vs pp hd ev hsq hda=>by
      rw [hd] at k1
      refine ⟨pp,vs,ev,hsq,e1,T.rel,(Out.bind k1).imp fun ds e2 _ k2 ys H2 T2 hys=>?_⟩
      exact k2 H2 T2 (vs ++ ys) H2 (T.trans T2) (DenAll.append (hda.mono T2.gr) hys)
    cases hv with
    | lst q r=>exact go _ _ _ rfl rfl (.inr q.sq) r
    | tup q r=>exact go _ _ _ rfl rfl (.inl q.sq) r
    | _=>exact k1.elim⟩
def tupS (f : M (List D)) : M Pv:=fun e=>(f e).bind fun ds e1=>if ds.length ≤ 16777216 then .ok (.d (.tuple ds)) e1 else .bad
theorem ev_tupS {es : List Expr} {x1} {f : M (List D)} (h : EAs X pa W es f) : EV X pa W (.Tuple es x1 pos) (tupS f):=by
  refine PE.imp (pe_tupX h) fun σ H Q ⟨en,R,q⟩=>⟨en,R,(Out.bind q).imp fun ds e1 hf k vs H1 T hvs=>?_⟩
  have k1:=k H1 T
  by_cases hz : ds.length ≤ 16777216
  · rw [if_pos hz] at k1
    refine ⟨by rw [hvs.length,sizeLine_eq]; exact hz,fun p o hp ho=>?_⟩
    have sm:=same_new (o:=.frz o (.tup vs)) hp
    exact k1 _ _ (T.then sm) (Den.tup (.inl ⟨o,upd_same,ho⟩) (hvs.mono (gsame sm)))
  · rw [if_neg hz] at k1
    exact k1.elim
def isStrD : D → Bool
  | .str _=>true
  | _=>false
def isIntD : D → Bool
  | .int _=>true
  | _=>false
abbrev allStr (ds : List D) : Bool:=ds.all isStrD
abbrev allInt (ds : List D) : Bool:=ds.all isIntD
def mmD (m : D → List D → D) (ds : List D) : Option Xv:=match ds with
  | x :: xs=>if (allStr (x :: xs) && (x :: xs).all SeqAt.shaped) || allInt (x :: xs) then some (.s (m x xs)) else none
  | []=>none
def min1D : D → Option Xv
  | .list ds=>mmD PySem.W.minD ds
  | .tuple ds=>mmD PySem.W.minD ds
  | _=>none
def max1D : D → Option Xv
  | .list ds=>mmD PySem.W.maxD ds
  | .tuple ds=>mmD PySem.W.maxD ds
  | _=>none
theorem minD_mem (x : D) (xs : List D) : PySem.W.minD x xs ∈ x :: xs:=by
  unfold PySem.W.minD
  have go : ∀ (xs : List D) (x : D),xs.foldl (fun a y=>if PySem.W.dataLt y a then y else a) x ∈ x :: xs:=by
    intro xs
    induction xs with
    | nil=>intro x; simp
    | cons y ys ih =>
      intro x
      rw [List.foldl_cons]
      have:=ih (if PySem.W.dataLt y x then y else x)
      rcases List.mem_cons.mp this with h | h
      · rw [h]
        split <;> simp
      · exact List.mem_cons_of_mem _ (List.mem_cons_of_mem _ h)
  exact go xs x
theorem maxD_mem (x : D) (xs : List D) : PySem.W.maxD x xs ∈ x :: xs:=by
  unfold PySem.W.maxD
  have go : ∀ (xs : List D) (x : D),xs.foldl (fun a y=>if PySem.W.dataLt a y then y else a) x ∈ x :: xs:=by
    intro xs
    induction xs with
    | nil=>intro x; simp
    | cons y ys ih =>
      intro x
      rw [List.foldl_cons]
      have:=ih (if PySem.W.dataLt x y then y else x)
      rcases List.mem_cons.mp this with h | h
      · rw [h]
        split <;> simp
      · exact List.mem_cons_of_mem _ (List.mem_cons_of_mem _ h)
  exact go xs x
structure MmOk (x : D) (xs : List D) : Prop where
  al : PySem.W.AlikeAll (x :: xs)
  sh : ∀ d ∈ x :: xs,SeqAt.shaped d = true
  rd : ∀ d ∈ x :: xs,∀ (K : KW) (H : Hp) (h : Heap) (u : Value) (bs : List Addr),Reads h u d bs → ∃ v,RelV v u ∧ Den K H v d
theorem mm_some {m : D → List D → D} {ds : List D} {r : Xv} (h : mmD m ds = some r) : ∃ x xs,ds = x :: xs ∧ r = .s (m x xs) ∧ MmOk x xs:=by
  cases ds with
  | nil=>cases h
  | cons x xs =>
    unfold mmD at h
    dsimp only at h
    split at h
    rotate_left
    · cases h
    next c =>
    cases h
    refine ⟨x,xs,rfl,rfl,?_⟩
    rcases Bool.or_eq_true_iff.mp c with c | c
    · rw [Bool.and_eq_true] at c
      have st : ∀ d ∈ x :: xs,∃ z,d = .str z:=fun d hd=>by
        have:=List.all_eq_true.mp c.1 d hd
        cases d <;> first | exact ⟨_,rfl⟩ | cases this
      refine ⟨⟨fun d hd d' hd'=>?_,fun d hd=>?_⟩,fun d hd=>List.all_eq_true.mp c.2 d hd,fun d hd K H h u bs r=>?_⟩
      · obtain ⟨z,rfl⟩:=st d hd
        obtain ⟨z',rfl⟩:=st d' hd'
        simp [PySem.W.alike]
      · obtain ⟨z,rfl⟩:=st d hd
        intro q; cases q
      · obtain ⟨z,rfl⟩:=st d hd
        cases r
        exact ⟨.str z,⟨_,rfl⟩,.str z⟩
    · have st : ∀ d ∈ x :: xs,∃ z,d = .int z:=fun d hd=>by
        have:=List.all_eq_true.mp c d hd
        cases d <;> first | exact ⟨_,rfl⟩ | cases this
      refine ⟨⟨fun d hd d' hd'=>?_,fun d hd=>?_⟩,fun d hd=>?_,fun d hd K H h u bs r=>?_⟩
      · obtain ⟨z,rfl⟩:=st d hd
        obtain ⟨z',rfl⟩:=st d' hd'
        simp [PySem.W.alike]
      · obtain ⟨z,rfl⟩:=st d hd
        intro q; cases q
      · obtain ⟨z,rfl⟩:=st d hd
        simp [SeqAt.shaped,PyData.canLay0,PyData.depth]
      · obtain ⟨z,rfl⟩:=st d hd
        cases r
        exact ⟨.int z,⟨_,rfl⟩,.int z⟩
theorem den_readsAll {pins : List (Addr × Obj)} {σ : St} {H : Hp} {s : Shared} (I : Inv X pins σ H s) : ∀ {xs : List V} {us : List Value} {ds : List D},Vals xs us → DenAll X.kw H xs ds → (∀ d ∈ ds,SeqAt.shaped d = true) → ∃ as,ReadsAll s.heap us ds as
  | _,_,_,.nil,.nil,_=>⟨_,.nil⟩
  | _,_,_,.cons r rs,.cons q qs,h=>by
    obtain ⟨as,h1⟩:=Dp.reads I _ _ _ (q.dp (h _ (by simp))) r
    obtain ⟨bs,h2⟩:=den_readsAll I rs qs fun d hd=>h d (by simp [hd])
    exact ⟨_,.cons h1 h2⟩
theorem shaped_depthAll {ds : List D} (h : ∀ d ∈ ds,SeqAt.shaped d = true) : PyData.depthAll ds ≤ 64:=by
  induction ds with
  | nil=>simp [PyData.depthAll]
  | cons d ds ih =>
    have h1:=SeqAt.depth_of_shaped (h d (by simp))
    have h2:=ih fun d' hd'=>h d' (by simp [hd'])
    simp only [PyData.depthAll]
    omega
theorem cr_min1 (hc : X.calm = true) (hu : X.A.units + 72 < cLine) : CallR X (.builtin "min") (fun vs H Q=>∃ v,vs = [v] ∧ r1 X.kw min1D v H Q):=by
  intro pins s σ H vs us Q I r h
  obtain ⟨v,rfl,d,rr,h1,h2,k⟩:=h
  obtain ⟨u,rfl,ru⟩:=vals1 r
  have fin : ∀ (x : D) (xs : List D),MmOk x xs → rr = .s (PySem.W.minD x xs) → ∀ u h' tk bs,Reads h' u (PySem.W.minD x xs) bs → (∀ b o,s.heap.get? b = some o → h'.get? b = some o) → EP X pins σ Q u { s with heap:=h',toks:=tk }:=fun x xs ok e u h' tk bs rd kp=>by
    subst e
    obtain ⟨y,g1,g2⟩:=ok.rd _ (minD_mem x xs) X.kw H h' u bs rd
    exact ⟨y,H,I.kept kp,g1,k y H (fun _ _ z=>z) g2⟩
  cases d <;> try cases h2
  · next ds =>
    obtain ⟨x,xs,rfl,e,ok⟩:=mm_some h2
    obtain ⟨a,ys,rfl,g1,g2⟩:=h1.lst
    obtain rfl : u = .ref a:=ru
    obtain ⟨its,rv,pl,hz⟩:=I.list (.inl g1)
    obtain ⟨as,hr⟩:=den_readsAll I rv g2 ok.sh
    have:=shaped_depthAll ok.sh
    exact PySem.W.min_list_data (I.ok.hd hc) pl.isList hr ok.al (by omega) fun i u h' tk bs _ rd kp=>fin x xs ok e u h' tk bs rd kp
  · next ds =>
    obtain ⟨x,xs,rfl,e,ok⟩:=mm_some h2
    obtain ⟨a,ys,rfl,g1,g2⟩:=h1.tup
    obtain rfl : u = .ref a:=ru
    obtain ⟨its,rv,pl,hz⟩:=I.tuple g1.sq
    obtain ⟨as,hr⟩:=den_readsAll I rv g2 ok.sh
    have:=shaped_depthAll ok.sh
    exact PySem.W.min_tuple_data (I.ok.hd hc) pl hr ok.al (by omega) fun i u h' tk bs _ rd kp=>fin x xs ok e u h' tk bs rd kp
theorem cr_max1 (hc : X.calm = true) (hu : X.A.units + 72 < cLine) : CallR X (.builtin "max") (fun vs H Q=>∃ v,vs = [v] ∧ r1 X.kw max1D v H Q):=by
  intro pins s σ H vs us Q I r h
  obtain ⟨v,rfl,d,rr,h1,h2,k⟩:=h
  obtain ⟨u,rfl,ru⟩:=vals1 r
  have fin : ∀ (x : D) (xs : List D),MmOk x xs → rr = .s (PySem.W.maxD x xs) → ∀ u h' tk bs,Reads h' u (PySem.W.maxD x xs) bs → (∀ b o,s.heap.get? b = some o → h'.get? b = some o) → EP X pins σ Q u { s with heap:=h',toks:=tk }:=fun x xs ok e u h' tk bs rd kp=>by
    subst e
    obtain ⟨y,g1,g2⟩:=ok.rd _ (maxD_mem x xs) X.kw H h' u bs rd
    exact ⟨y,H,I.kept kp,g1,k y H (fun _ _ z=>z) g2⟩
  cases d <;> try cases h2
  · next ds =>
    obtain ⟨x,xs,rfl,e,ok⟩:=mm_some h2
    obtain ⟨a,ys,rfl,g1,g2⟩:=h1.lst
    obtain rfl : u = .ref a:=ru
    obtain ⟨its,rv,pl,hz⟩:=I.list (.inl g1)
    obtain ⟨as,hr⟩:=den_readsAll I rv g2 ok.sh
    have:=shaped_depthAll ok.sh
    exact PySem.W.max_list_data (I.ok.hd hc) pl.isList hr ok.al (by omega) fun i u h' tk bs _ rd kp=>fin x xs ok e u h' tk bs rd kp
  · next ds =>
    obtain ⟨x,xs,rfl,e,ok⟩:=mm_some h2
    obtain ⟨a,ys,rfl,g1,g2⟩:=h1.tup
    obtain rfl : u = .ref a:=ru
    obtain ⟨its,rv,pl,hz⟩:=I.tuple g1.sq
    obtain ⟨as,hr⟩:=den_readsAll I rv g2 ok.sh
    have:=shaped_depthAll ok.sh
    exact PySem.W.max_tuple_data (I.ok.hd hc) pl hr ok.al (by omega) fun i u h' tk bs _ rd kp=>fin x xs ok e u h' tk bs rd kp
theorem ev_min1 (hc : X.calm = true) (hu : X.A.units + 72 < cLine) (ha : EV X pa W a f) (hm : X.mg "min" = none) (hg : Gl X "min":=by rfl) (he : starEach [a] X.env = [(false,eval a X.env)]:=by rfl) : EV X pa W (.Call (.Name "min" p) [a] [] pos) (op1 min1D f) :=
  ev_b1 (id:="min") (cr_min1 hc hu) (fun v H Q h=>⟨v,rfl,h⟩) ha hm hg (by decide +kernel) (by decide) (by decide) he
theorem ev_max1 (hc : X.calm = true) (hu : X.A.units + 72 < cLine) (ha : EV X pa W a f) (hm : X.mg "max" = none) (hg : Gl X "max":=by rfl) (he : starEach [a] X.env = [(false,eval a X.env)]:=by rfl) : EV X pa W (.Call (.Name "max" p) [a] [] pos) (op1 max1D f) :=
  ev_b1 (id:="max") (cr_max1 hc hu) (fun v H Q h=>⟨v,rfl,h⟩) ha hm hg (by decide +kernel) (by decide) (by decide) he
theorem op_noneD : OpR X (compareOp .In) (fun x y H Q=>∃ ad ks,x = .non ∧ y = .ref ad ∧ Rd H ad (.dK ks) ∧ Q (.bl false) H):=by
  intro pins s σ H x y v u Q I rx ry h
  obtain ⟨ad,ks,rfl,rfl,g,q⟩:=h
  obtain rfl : v = .none:=rx
  obtain rfl : u = .ref ad:=ry
  exact d_inNone I g fun s' I'=>⟨.bl false,H,I',rfl,q⟩
theorem op_notNoneD : OpR X (compareOp .NotIn) (fun x y H Q=>∃ ad ks,x = .non ∧ y = .ref ad ∧ Rd H ad (.dK ks) ∧ Q (.bl true) H):=by
  intro pins s σ H x y v u Q I rx ry h
  obtain ⟨ad,ks,rfl,rfl,g,q⟩:=h
  obtain rfl : v = .none:=rx
  obtain rfl : u = .ref ad:=ry
  exact d_notInNone I g fun s' I'=>⟨.bl true,H,I',rfl,q⟩
theorem o_inE (hu : X.A.units + 65 < cLine) : OpR X (compareOp .In) (r2 X.kw inE):=OpR.imp (OpR.or op_noneD (o_in hu)) fun x y H Q ⟨d,e,r,h1,h2,h3,k⟩=>by
  unfold inE at h3
  split at h3
  · split at h3
    · cases h3
    next nn =>
    cases h3
    obtain ⟨ad,ks,rfl,g1,_⟩:=h2.dct (Bool.not_eq_true _ ▸ nn)
    exact .inl ⟨ad,ks,h1.non,rfl,g1,k _ H (Same.refl H) (Den.bl _)⟩
  · exact .inr ⟨d,e,r,h1,h2,h3,k⟩
theorem o_notInE (hu : X.A.units + 65 < cLine) : OpR X (compareOp .NotIn) (r2 X.kw notInE):=OpR.imp (OpR.or op_notNoneD (o_notIn hu)) fun x y H Q ⟨d,e,r,h1,h2,h3,k⟩=>by
  unfold notInE at h3
  split at h3
  · split at h3
    · cases h3
    next nn =>
    cases h3
    obtain ⟨ad,ks,rfl,g1,_⟩:=h2.dct (Bool.not_eq_true _ ▸ nn)
    exact .inl ⟨ad,ks,h1.non,rfl,g1,k _ H (Same.refl H) (Den.bl _)⟩
  · exact .inr ⟨d,e,r,h1,h2,h3,k⟩
end
end DL
end L2
namespace L2
namespace DL
open PySem PySem.Spec PyProof.Rows
section
variable {X : Cx}
end
end DL
end L2
namespace L2
namespace DL
open PySem PySem.Spec PyProof.Rows
def AS.nt : AS → Bool
  | .t _=>false
  | .b _ _=>false
  | _=>true
theorem IsE.at {Γ : List AS} {e : Ev} (h : IsE Γ e) {i : Nat} {s : AS} (hs : Γ[i]? = some s) : ∃ l,e[i]? = some l ∧ IsS s l:=by
  induction Γ generalizing e i with
  | nil=>cases hs
  | cons c Γ ih =>
    cases e with
    | nil=>exact h.elim
    | cons l e =>
      cases i with
      | zero =>
        cases hs
        exact ⟨l,rfl,h.1⟩
      | succ i=>exact ih h.2 hs
theorem IsE.setL {Γ : List AS} {e : Ev} (h : IsE Γ e) {i : Nat} {s : AS} {l : Sl} (hl : e[i]? = some l) (hs : IsS s l) : IsE (Γ.set i s) e:=by
  induction Γ generalizing e i with
  | nil=>exact h
  | cons c Γ ih =>
    cases e with
    | nil=>exact h.elim
    | cons l' e =>
      cases i with
      | zero=>cases hl; exact ⟨hs,h.2⟩
      | succ i=>exact ⟨h.1,ih h.2 hl⟩
def AS.le : AS → AS → Prop
  | u,.x=>u.nt = true
  | .s d,.a d'=>d = d'
  | .o d,.a d'=>d = d'
  | u,v=>u = v
theorem IsS.le {s s' : AS} {l : Sl} (h : IsS s l) (g : s.le s') : IsS s' l:=by
  cases s' with
  | x=>cases s <;> cases l <;> simp_all [IsS,AS.le,AS.nt]
  | s d=>cases s <;> simp_all [AS.le]
  | a d=>cases s <;> cases l <;> simp_all [IsS,AS.le]
  | o d=>cases s <;> simp_all [AS.le]
  | t d=>cases s <;> simp_all [AS.le]
  | e p=>cases s <;> simp_all [AS.le]
  | b t d=>cases s <;> simp_all [AS.le]
def Le : List AS → List AS → Prop
  | [],[]=>True
  | s :: Γ,s' :: Γ'=>s.le s' ∧ Le Γ Γ'
  | _,_=>False
theorem IsE.le {Γ Γ' : List AS} {e : Ev} (h : IsE Γ e) (g : Le Γ Γ') : IsE Γ' e:=by
  induction Γ generalizing e Γ' with
  | nil=>cases Γ' with
    | nil=>exact h
    | cons c Γ'=>exact g.elim
  | cons c Γ ih=>cases Γ' with
    | nil=>exact g.elim
    | cons c' Γ'=>cases e with
      | nil=>exact h.elim
      | cons l e=>exact ⟨h.1.le g.1,ih h.2 g.2⟩
def datA (Γ : List AS) (i : Nat) : Option D:=match Γ[i]? with
  | some s=>s.dat
  | none=>none
def ntA (Γ : List AS) (i : Nat) : Bool:=match Γ[i]? with
  | some s=>s.nt
  | none=>false
theorem IsE.get {Γ : List AS} {e : Ev} {i : Nat} {d : D} (h : IsE Γ e) (q : datA Γ i = some d) : (e[i]? = some (.s d)) ∨ ∃ b,e[i]? = some (.o b d):=by
  unfold datA at q
  split at q
  · next s hs =>
    obtain ⟨l,h1,h2⟩:=h.at hs
    rw [h1]
    cases s <;> cases l <;> simp_all [IsS,AS.dat]
  · cases q
theorem IsE.getN {Γ : List AS} {e : Ev} {i : Nat} {d : D} (h : IsE Γ e) (q : datA Γ i = some d) (n : ntA Γ i = true) : (e[i]? = some (.s d)) ∨ e[i]? = some (.o false d):=by
  unfold datA at q
  unfold ntA at n
  split at q
  · next s hs =>
    rw [hs] at n
    obtain ⟨l,h1,h2⟩:=h.at hs
    rw [h1]
    cases s <;> cases l <;> simp_all [IsS,AS.dat,AS.nt]
  · cases q
inductive Wv where
  | d | f | n | i (k : Nat)
def RdP (Γ : List AS) (p : Pv) (d : D) : Wv → Prop
  | .d=>p = .d d
  | .f=>p = .o d
  | .n=>p = .d d ∨ p = .o d
  | .i k=>p = .d d ∨ p = .o d ∨ p = .r k
def Keep (Γ : List AS) (d : D) : Wv → Prop
  | .i k=>datA Γ k = some d
  | _=>True
def pkP : Pv → Pv
  | .o d=>.d d
  | p=>p
theorem RdP.get {Γ Γ2 : List AS} {p : Pv} {d : D} {w : Wv} {e : Ev} (h : RdP Γ p d w) (k : Keep Γ2 d w) (he : IsE Γ2 e) : (pkP p).get e = some d:=by
  cases w with
  | d=>cases h; rfl
  | f=>cases h; rfl
  | n=>rcases h with h | h <;> cases h <;> rfl
  | i j =>
    rcases h with h | h | h
    · cases h; rfl
    · cases h; rfl
    · cases h
      show (match e[j]? with | some (.s x)=>some x | some (.o _ x)=>some x | _=>none) = _
      rcases he.get k with h | ⟨b,h⟩ <;> rw [h]
theorem RdP.look {Γ Γ2 : List AS} {p : Pv} {d : D} {w : Wv} {e : Ev} (h : RdP Γ p d w) (k : Keep Γ2 d w) (he : IsE Γ2 e) : p.look e = some d:=by
  have:=h.get k he
  cases p <;> exact this
structure Qr (β γ : Type) where
  rel : R β → Rs γ → Prop
  bad : ∀ s,rel .bad s
  exc : ∀ x e,rel (.exc x) (.exc x e)
abbrev KJ {β γ : Type} (Q : Qr β γ) (Γ : List AS) (κ : Ev → Rs γ) (r : R β) : Prop:=∀ e,IsE Γ e → Q.rel r (κ e)
abbrev CJ {α β γ : Type} (Q : Qr β γ) (Γ : List AS) (m : M α) (κ : α → Ev → Rs γ) (r : R β) : Prop:=∀ e,IsE Γ e → Q.rel r ((m e).bind κ)
theorem bind_bind {α β γ : Type} (s : Rs α) (k : α → Ev → Rs β) (k' : β → Ev → Rs γ) : (s.bind k).bind k' = s.bind fun a e=>(k a e).bind k':=by cases s <;> rfl
section
variable {α β β' γ : Type} {Q : Qr β γ} {Γ Γ' Γ1 Γ2 : List AS} {r : R β} {i j : Nat} {d x y : D} {p q : Pv} {w w1 w2 : Wv}
theorem k_cv {κ : Ev → Rs γ} (hG : Γ = Γ') (k : KJ Q Γ' κ r) : KJ Q Γ κ r:=hG ▸ k
theorem rd_d : RdP [] (.d d) d .d:=rfl
theorem rd_f : RdP [] (.o d) d .f:=rfl
theorem rd_r : RdP [] (.r i) d (.i i):=.inr (.inr rfl)
theorem rd_dn (h : RdP Γ p d .d) : RdP Γ p d .n:=.inl h
theorem rd_fn (h : RdP Γ p d .f) : RdP Γ p d .n:=.inr h
theorem k_le {κ : Ev → Rs γ} (g : Le Γ Γ') (k : KJ Q Γ' κ r) : KJ Q Γ κ r:=fun e h=>k e (h.le g)
theorem c_pvd {f : M D} {κ : Pv → Ev → Rs γ} (h : CJ Q Γ f (fun d e=>κ (.d d) e) r) : CJ Q Γ (pvd f) κ r:=fun e he=>by
  have:=h e he
  unfold pvd
  cases hf : f e with
  | ok a e'=>rw [hf] at this; exact this
  | exc x e'=>rw [hf] at this; exact this
  | bad=>rw [hf] at this; exact this
theorem c_kst {κ : D → Ev → Rs γ} (h : KJ Q Γ (κ d) r) : CJ Q Γ (kst d) κ r:=h
theorem c_var {κ : Pv → Ev → Rs γ} (hd : datA Γ i = some d) (k : ∀ p,RdP Γ p d (.i i) → KJ Q Γ (κ p) r) : CJ Q Γ (var i) κ r:=fun e he=>by
  unfold var
  rcases he.get hd with h | ⟨b,h⟩ <;> rw [h]
  · exact k (.d d) (.inl rfl) e he
  · exact k (.r i) (.inr (.inr rfl)) e he
theorem c_varS {κ : Pv → Ev → Rs γ} (hd : Γ[i]? = some (.s d)) (k : KJ Q Γ (κ (.d d)) r) : CJ Q Γ (var i) κ r:=fun e he=>by
  unfold var
  obtain ⟨l,h1,h2⟩:=he.at hd
  rw [h1]
  cases l with
  | s d'=>cases h2; exact k e he
  | u=>exact h2.elim
  | x p=>exact h2.elim
  | b t p=>exact h2.elim
  | o b d'=>exact h2.elim
def datP (p : Pv) (e : Ev) : Rs D:=match p with
  | .d d=>.ok d e
  | .o d=>.ok d e
  | .r i=>(match e[i]? with
    | some (.s d)=>.ok d e
    | some (.o false d)=>.ok d (e.set i (.s d))
    | _=>.bad)
theorem dat_eq (f : M Pv) (e : Ev) : dat f e = (f e).bind datP:=by
  unfold dat datP
  cases f e with
  | ok a e'=>cases a <;> rfl
  | exc x e'=>rfl
  | bad=>rfl
theorem c_dat {f : M Pv} {κ : D → Ev → Rs γ} (h : CJ Q Γ f (fun p e=>(datP p e).bind κ) r) : CJ Q Γ (dat f) κ r:=fun e he=>by
  rw [dat_eq,bind_bind]
  exact h e he
theorem k_datN {κ : D → Ev → Rs γ} (hp : RdP Γ1 p d .n) (k : KJ Q Γ (κ d) r) : KJ Q Γ (fun e=>(datP p e).bind κ) r:=fun e he=>by
  rcases hp with hp | hp <;> cases hp <;> exact k e he
theorem c_datV {κ : D → Ev → Rs γ} (hk : datA Γ i = some d) (hn : ntA Γ i = true) (hG : Γ.set i (.s d) = Γ') (k : KJ Q Γ' (κ d) r) : CJ Q Γ (dat (var i)) κ r:=fun e he=>by
  subst hG
  rw [dat_eq]
  unfold var
  rcases he.getN hk hn with h | h <;> rw [h]
  · exact k e (he.setL h rfl)
  · show Q.rel r (((match e[i]? with | some (.s d)=>Rs.ok d e | some (.o false d)=>.ok d (e.set i (.s d)) | _=>.bad : Rs D)).bind κ)
    rw [h]
    exact k _ (he.set rfl)
theorem pk_eq (f : M Pv) (e : Ev) : pk f e = (f e).bind fun p e1=>.ok (pkP p) e1:=by
  unfold pk
  cases f e with
  | ok a e'=>cases a <;> rfl
  | exc x e'=>rfl
  | bad=>rfl
theorem c_op1 {h : D → Option Xv} {f : M Pv} {κ : Pv → Ev → Rs γ} (k : CJ Q Γ f (fun p e1=>(put (((pkP p).get e1).bind h) e1).bind κ) r) : CJ Q Γ (op1 h f) κ r:=fun e he=>by
  unfold op1
  rw [pk_eq,bind_bind,bind_bind]
  exact k e he
theorem k_op1 {h : D → Option Xv} {κ : Pv → Ev → Rs γ} {r' : D → R β} (hp : RdP Γ1 p x w) (hk : Keep Γ x w) (k : ∀ p z,RdP Γ p z .n → KJ Q Γ (κ p) (r' z)) : KJ Q Γ (fun e1=>(put (((pkP p).get e1).bind h) e1).bind κ) ((o1 h x).bind r'):=fun e he=>by
  dsimp only
  rw [hp.get hk he]
  dsimp only [Option.bind]
  unfold o1
  cases h x with
  | none=>exact Q.bad _
  | some v=>cases v with
    | s z=>exact k _ z (.inl rfl) e he
    | o z=>exact k _ z (.inr rfl) e he
def OwnOp (h : D → Option Xv) : Prop:=∀ x v,h x = some v → ∃ z,v = .o z
theorem ow_lst : OwnOp lstD:=fun x v h=>by cases x <;> cases h <;> exact ⟨_,rfl⟩
theorem ow_dict : OwnOp dictD:=fun x v h=>by
  cases x <;> first | cases h | skip
  all_goals
    unfold dictD at h
    dsimp only at h
    rw [Option.map_eq_some_iff] at h
    obtain ⟨a,_,rfl⟩:=h
    exact ⟨_,rfl⟩
theorem ow_sort : OwnOp sortD:=fun x v h=>by
  cases x <;> first | cases h | skip
  all_goals
    unfold sortD at h
    dsimp only at h
    split at h
    · cases h; exact ⟨_,rfl⟩
    · cases h
theorem ow_sortI : OwnOp sortI:=fun x v h=>by
  cases x <;> first | cases h | skip
  all_goals
    unfold sortI at h
    dsimp only at h
    split at h
    · cases h; exact ⟨_,rfl⟩
    · cases h
theorem k_op1f {h : D → Option Xv} {κ : Pv → Ev → Rs γ} {r' : D → R β} (ho : OwnOp h) (hp : RdP Γ1 p x w) (hk : Keep Γ x w) (k : ∀ z,KJ Q Γ (κ (.o z)) (r' z)) : KJ Q Γ (fun e1=>(put (((pkP p).get e1).bind h) e1).bind κ) ((o1 h x).bind r'):=fun e he=>by
  dsimp only
  rw [hp.get hk he]
  dsimp only [Option.bind]
  unfold o1
  cases hx : h x with
  | none=>exact Q.bad _
  | some v =>
    obtain ⟨z,rfl⟩:=ho _ _ hx
    exact k z e he
theorem c_op2 {h : D → D → Option Xv} {f g : M Pv} {κ : Pv → Ev → Rs γ} (k : CJ Q Γ f (fun p e1=>(g e1).bind fun q e2=>(put (((pkP p).get e2).bind fun x=>((pkP q).get e2).bind fun y=>h x y) e2).bind κ) r) : CJ Q Γ (op2 h f g) κ r:=fun e he=>by
  have e1 : (op2 h f g e).bind κ = (f e).bind (fun p e1=>(g e1).bind fun q e2=>(put (((pkP p).get e2).bind fun x=>((pkP q).get e2).bind fun y=>h x y) e2).bind κ):=by
    unfold op2
    rw [pk_eq,bind_bind,bind_bind]
    congr 1
    funext p e1
    show ((pk g e1).bind _).bind κ = _
    rw [pk_eq,bind_bind,bind_bind]
    rfl
  rw [e1]
  exact k e he
theorem k_op2 {h : D → D → Option Xv} {κ : Pv → Ev → Rs γ} {r' : D → R β} (hp : RdP Γ1 p x w1) (hk : Keep Γ x w1) (hq : RdP Γ2 q y w2) (hk2 : Keep Γ y w2) (k : ∀ p z,RdP Γ p z .n → KJ Q Γ (κ p) (r' z)) : KJ Q Γ (fun e2=>(put (((pkP p).get e2).bind fun x=>((pkP q).get e2).bind fun y=>h x y) e2).bind κ) ((o2 h x y).bind r'):=fun e he=>by
  dsimp only
  rw [hp.get hk he]
  dsimp only [Option.bind]
  rw [hq.get hk2 he]
  dsimp only [Option.bind]
  unfold o2
  cases h x y with
  | none=>exact Q.bad _
  | some v=>cases v with
    | s z=>exact k _ z (.inl rfl) e he
    | o z=>exact k _ z (.inr rfl) e he
def bolK (p : Pv) (e : Ev) : Rs Bool:=(datP p e).bind fun d e1=>match d with
  | .bool b=>.ok b e1
  | _=>.bad
theorem c_bol {f : M Pv} {κ : Bool → Ev → Rs γ} (k : CJ Q Γ f (fun p e1=>(bolK p e1).bind κ) r) : CJ Q Γ (bol f) κ r:=fun e he=>by
  have : (bol f e).bind κ = (f e).bind fun p e1=>(bolK p e1).bind κ:=by
    unfold bol bolK
    rw [dat_eq,bind_bind,bind_bind]
    congr 1
    funext p e1
    rw [bind_bind]
    all_goals congr 1
  rw [this]
  exact k e he
theorem k_bol {κ : Bool → Ev → Rs γ} {r' : Bool → R β} (hp : RdP Γ1 p x .n) (k : ∀ b,KJ Q Γ (κ b) (r' b)) : KJ Q Γ (fun e1=>(bolK p e1).bind κ) ((boR x).bind r'):=fun e he=>by
  rcases hp with hp | hp <;> cases hp <;> cases x <;> first | exact k _ e he | exact Q.bad _
def truK (p : Pv) (e : Ev) : Rs Bool:=match ((pkP p).get e).bind truD with
  | some b=>.ok b e
  | none=>.bad
theorem c_tru {f : M Pv} {κ : Bool → Ev → Rs γ} (k : CJ Q Γ f (fun p e1=>(truK p e1).bind κ) r) : CJ Q Γ (truM f) κ r:=fun e he=>by
  have : (truM f e).bind κ = (f e).bind fun p e1=>(truK p e1).bind κ:=by
    unfold truM
    rw [pk_eq,bind_bind,bind_bind]
    rfl
  rw [this]
  exact k e he
theorem k_tru {κ : Bool → Ev → Rs γ} {r' : Bool → R β} (hp : RdP Γ1 p x w) (hk : Keep Γ x w) (k : ∀ b,KJ Q Γ (κ b) (r' b)) : KJ Q Γ (fun e1=>(truK p e1).bind κ) ((truR x).bind r'):=fun e he=>by
  dsimp only
  unfold truK truR
  rw [hp.get hk he]
  dsimp only [Option.bind]
  cases truD x with
  | some b=>exact k b e he
  | none=>exact Q.bad _
theorem c_notT {f : M Bool} {κ : Bool → Ev → Rs γ} (k : CJ Q Γ f (fun b e1=>κ (!b) e1) r) : CJ Q Γ (notT f) κ r:=fun e he=>by
  unfold notT
  rw [bind_bind]
  exact k e he
theorem c_notX {f : M Pv} {κ : Pv → Ev → Rs γ} (k : CJ Q Γ f (fun p e1=>(truK p e1).bind fun b e2=>κ (.d (.bool (!b))) e2) r) : CJ Q Γ (notX f) κ r:=fun e he=>by
  unfold notX
  rw [bind_bind]
  exact c_tru (Q:=Q) (r:=r) k e he
def QA (val : β → α) (env : β → List AS) : Qr β α:=⟨fun r s=>match r with
  | .ok b=>∃ e',s = .ok (val b) e' ∧ IsE (env b) e'
  | .exc x=>∃ e',s = .exc x e'
  | .bad=>True,fun _=>trivial,fun x e=>⟨e,rfl⟩⟩
def QV (w : Wv) (val : β → D) (env : β → List AS) : Qr β Pv:=⟨fun r s=>match r with
  | .ok b=>∃ p e',s = .ok p e' ∧ IsE (env b) e' ∧ RdP (env b) p (val b) w
  | .exc x=>∃ e',s = .exc x e'
  | .bad=>True,fun _=>trivial,fun x e=>⟨e,rfl⟩⟩
theorem q_A {val : β → α} {env : β → List AS} {b : β} {Γ : List AS} (g : Le Γ (env b)) : KJ (QA val env) Γ (Rs.ok (val b)) (.ok b):=fun e he=>⟨e,rfl,he.le g⟩
def WkOk (Γ : List AS) (d : D) : Wv → Wv → Prop
  | .d,.d=>True | .f,.f=>True | .d,.n=>True | .f,.n=>True | .n,.n=>True | .d,.i _=>True | .f,.i _=>True | .n,.i _=>True
  | .i j,.i k=>j = k ∧ datA Γ j = some d
  | _,_=>False
theorem RdP.wk (hp : RdP Γ p d w) : (w2 : Wv) → (h : WkOk Γ2 d w w2) → RdP Γ2 p d w2:=by
  intro w2 h
  cases w <;> cases w2 <;> first | exact h.elim | skip
  · exact hp
  · exact .inl hp
  · exact .inl hp
  · exact hp
  · exact .inr hp
  · exact .inr (.inl hp)
  · exact hp
  · rcases hp with hp | hp
    · exact .inl hp
    · exact .inr (.inl hp)
  · obtain ⟨rfl,h⟩:=h
    rcases hp with hp | hp | hp
    · exact .inl hp
    · exact .inr (.inl hp)
    · exact .inr (.inr hp)
theorem q_V {val : β → D} {env : β → List AS} {b : β} {Γ : List AS} (hp : RdP Γ1 p (val b) w) (g : Le Γ (env b)) (h : WkOk (env b) (val b) w w2) : KJ (QV w2 val env) Γ (Rs.ok p) (.ok b):=fun e he=>⟨p,e,rfl,he.le g,hp.wk w2 h⟩
def ifK {α : Type} (b : Bool) (f g : M α) (e : Ev) : Rs α:=match b with
  | true=>f e
  | false=>g e
theorem c_ifX {s : M Bool} {f g : M Pv} {κ : Pv → Ev → Rs γ} (k : CJ Q Γ s (fun b e1=>(ifK b f g e1).bind κ) r) : CJ Q Γ (ifX s f g) κ r:=fun e he=>by
  have : (ifX s f g e).bind κ = (s e).bind fun b e1=>(ifK b f g e1).bind κ:=by
    unfold ifX
    rw [bind_bind]
    rfl
  rw [this]
  exact k e he
theorem k_ifX {b : Bool} {f g : M Pv} {κ : Pv → Ev → Rs γ} {val : β' → D} {env : β' → List AS} {rf rg : R β'} {r' : β' → R β} (hf : CJ (QV w val env) Γ f Rs.ok rf) (hg : CJ (QV w val env) Γ g Rs.ok rg) (k : ∀ b p,RdP (env b) p (val b) w → KJ Q (env b) (κ p) (r' b)) : KJ Q Γ (fun e1=>(ifK b f g e1).bind κ) ((if b = true then rf else rg).bind r'):=fun e he=>by
  have key : ∀ (m : M Pv) (rm : R β'),CJ (QV w val env) Γ m Rs.ok rm → Q.rel (rm.bind r') ((m e).bind κ):=fun m rm hm=>by
    have h:=hm e he
    rw [bind_ok] at h
    cases rm with
    | ok c =>
      obtain ⟨p,e',h1,h2,h3⟩:=h
      rw [h1]
      exact k c p h3 e' h2
    | exc x =>
      obtain ⟨e',h1⟩:=h
      rw [h1]
      exact Q.exc x e'
    | bad=>exact Q.bad _
  cases b with
  | true=>exact key f rf hf
  | false=>exact key g rg hg
theorem c_andT {f g : M Bool} {κ : Bool → Ev → Rs γ} (k : CJ Q Γ f (fun b e1=>(ifK b g (fun e=>.ok false e) e1).bind κ) r) : CJ Q Γ (andT f g) κ r:=fun e he=>by
  have : (andT f g e).bind κ = (f e).bind fun b e1=>(ifK b g (fun e=>.ok false e) e1).bind κ:=by
    unfold andT
    rw [bind_bind]
    rfl
  rw [this]
  exact k e he
theorem c_orT {f g : M Bool} {κ : Bool → Ev → Rs γ} (k : CJ Q Γ f (fun b e1=>(ifK b (fun e=>.ok true e) g e1).bind κ) r) : CJ Q Γ (orT f g) κ r:=fun e he=>by
  have : (orT f g e).bind κ = (f e).bind fun b e1=>(ifK b (fun e=>.ok true e) g e1).bind κ:=by
    unfold orT
    rw [bind_bind]
    rfl
  rw [this]
  exact k e he
theorem c_now {a : α} {κ : α → Ev → Rs γ} (k : KJ Q Γ (κ a) r) : CJ Q Γ (fun e=>.ok a e) κ r:=k
theorem k_ifT {b : Bool} {f g : M α} {κ : α → Ev → Rs γ} {val : β' → α} {env : β' → List AS} {rf rg : R β'} {r' : β' → R β} (hf : CJ (QA val env) Γ f Rs.ok rf) (hg : CJ (QA val env) Γ g Rs.ok rg) (k : ∀ b,KJ Q (env b) (κ (val b)) (r' b)) : KJ Q Γ (fun e1=>(ifK b f g e1).bind κ) ((if b = true then rf else rg).bind r'):=fun e he=>by
  have key : ∀ (m : M α) (rm : R β'),CJ (QA val env) Γ m Rs.ok rm → Q.rel (rm.bind r') ((m e).bind κ):=fun m rm hm=>by
    have h:=hm e he
    rw [bind_ok] at h
    cases rm with
    | ok c =>
      obtain ⟨e',h1,h2⟩:=h
      rw [h1]
      exact k c e' h2
    | exc x =>
      obtain ⟨e',h1⟩:=h
      rw [h1]
      exact Q.exc x e'
    | bad=>exact Q.bad _
  cases b with
  | true=>exact key f rf hf
  | false=>exact key g rg hg
theorem c_andX {f g : M Pv} {κ : Pv → Ev → Rs γ} (k : CJ Q Γ f (fun p e1=>(match (p.look e1).bind truD with | some b=>ifK b g (fun e=>.ok p e) e1 | none=>.bad : Rs Pv).bind κ) r) : CJ Q Γ (andX f g) κ r:=fun e he=>by
  have : (andX f g e).bind κ = (f e).bind (fun p e1=>(match (p.look e1).bind truD with | some b=>ifK b g (fun e=>.ok p e) e1 | none=>.bad : Rs Pv).bind κ):=by
    unfold andX
    rw [bind_bind]
    congr 1
    funext p e1
    cases (p.look e1).bind truD with
    | none=>rfl
    | some b=>cases b <;> rfl
  rw [this]
  exact k e he
theorem c_orX {f g : M Pv} {κ : Pv → Ev → Rs γ} (k : CJ Q Γ f (fun p e1=>(match (p.look e1).bind truD with | some b=>ifK b (fun e=>.ok p e) g e1 | none=>.bad : Rs Pv).bind κ) r) : CJ Q Γ (orX f g) κ r:=fun e he=>by
  have : (orX f g e).bind κ = (f e).bind (fun p e1=>(match (p.look e1).bind truD with | some b=>ifK b (fun e=>.ok p e) g e1 | none=>.bad : Rs Pv).bind κ):=by
    unfold orX
    rw [bind_bind]
    congr 1
    funext p e1
    cases (p.look e1).bind truD with
    | none=>rfl
    | some b=>cases b <;> rfl
  rw [this]
  exact k e he
theorem k_look {F G : M Pv} {κ : Pv → Ev → Rs γ} {r' : Bool → R β} (hp : RdP Γ1 p x w) (hk : Keep Γ x w) (k : ∀ b,KJ Q Γ (fun e1=>(ifK b F G e1).bind κ) (r' b)) : KJ Q Γ (fun e1=>(match (p.look e1).bind truD with | some b=>ifK b F G e1 | none=>.bad : Rs Pv).bind κ) ((truR x).bind r'):=fun e he=>by
  dsimp only
  unfold truR
  rw [hp.look hk he]
  dsimp only [Option.bind]
  cases truD x with
  | some b=>exact k b e he
  | none=>exact Q.bad _
theorem sc_lt {x y : D} : ∀ v,ltD x y = some v → ∃ z,v = .s z:=fun v h=>by
  unfold ltD at h
  split at h <;> cases h <;> exact ⟨_,rfl⟩
theorem sc_iI {f : Int → Int → D} {c : Int → Int → Bool} {x y : D} : ∀ v,iI f c x y = some v → ∃ z,v = .s z:=fun v h=>by
  unfold iI at h
  split at h
  · split at h
    · cases h; exact ⟨_,rfl⟩
    · cases h
  · cases h
theorem sc_eq {x y : D} : ∀ v,eqD x y = some v → ∃ z,v = .s z:=fun v h=>by
  unfold eqD at h
  rw [Option.map_eq_some_iff] at h
  obtain ⟨a,_,rfl⟩:=h
  exact ⟨_,rfl⟩
theorem sc_ne {x y : D} : ∀ v,neD x y = some v → ∃ z,v = .s z:=fun v h=>by
  unfold neD at h
  rw [Option.map_eq_some_iff] at h
  obtain ⟨a,_,rfl⟩:=h
  exact ⟨_,rfl⟩
theorem sc_ix {x y : D} : ∀ v,ixD x y = some v → ∃ z,v = .s z:=fun v h=>by
  have so : ∀ {o : Option D} {v : Xv},sOf o = some v → ∃ z,v = .s z:=fun {o v} h=>by
    unfold sOf at h
    rw [Option.map_eq_some_iff] at h
    obtain ⟨a,_,rfl⟩:=h
    exact ⟨a,rfl⟩
  unfold ixD at h
  split at h
  · unfold ixK at h
    dsimp only at h
    split at h
    · exact so h
    · cases h
  · unfold ixS at h
    split at h
    · exact so h
    · exact so h
    · split at h
      · exact so h
      · cases h
    · cases h
theorem sc_bX {o : Option Bool} : ∀ v,bX o = some v → ∃ z,v = .s z:=fun v h=>by
  unfold bX at h
  rw [Option.map_eq_some_iff] at h
  obtain ⟨a,_,rfl⟩:=h
  exact ⟨_,rfl⟩
theorem sc_nbX {o : Option Bool} : ∀ v,nbX o = some v → ∃ z,v = .s z:=fun v h=>by
  unfold nbX at h
  rw [Option.map_eq_some_iff] at h
  obtain ⟨a,_,rfl⟩:=h
  exact ⟨_,rfl⟩
theorem sc_isN {x y : D} : ∀ v,isND x y = some v → ∃ z,v = .s z:=fun v h=>by
  unfold isND at h
  split at h <;> cases h <;> exact ⟨_,rfl⟩
theorem sc_notN {x y : D} : ∀ v,notND x y = some v → ∃ z,v = .s z:=fun v h=>by
  unfold notND at h
  split at h <;> cases h <;> exact ⟨_,rfl⟩
theorem sc_min {x y : D} : ∀ v,min2D x y = some v → ∃ z,v = .s z:=fun v h=>by
  unfold min2D at h
  split at h <;> cases h <;> exact ⟨_,rfl⟩
theorem sc_max {x y : D} : ∀ v,max2D x y = some v → ∃ z,v = .s z:=fun v h=>by
  unfold max2D at h
  split at h <;> cases h <;> exact ⟨_,rfl⟩
theorem sc_len {x : D} : ∀ v,lenD x = some v → ∃ z,v = .s z:=fun v h=>by
  unfold lenD at h
  split at h
  · cases h; exact ⟨_,rfl⟩
  · cases h; exact ⟨_,rfl⟩
  · split at h
    · cases h; exact ⟨_,rfl⟩
    · cases h
  · cases h
theorem sc_tup {x : D} : ∀ v,tupD x = some v → ∃ z,v = .s z:=fun v h=>by
  unfold tupD at h
  split at h <;> cases h <;> exact ⟨_,rfl⟩
theorem sc_int {x : D} : ∀ v,intD x = some v → ∃ z,v = .s z:=fun v h=>by
  unfold intD at h
  split at h <;> cases h <;> exact ⟨_,rfl⟩
theorem sc_abs {x : D} : ∀ v,absD x = some v → ∃ z,v = .s z:=fun v h=>by
  unfold absD at h
  split at h <;> cases h <;> exact ⟨_,rfl⟩
theorem sc_all {x : D} : ∀ v,allD x = some v → ∃ z,v = .s z:=fun v h=>by
  unfold allD at h
  split at h
  · rw [Option.map_eq_some_iff] at h
    obtain ⟨a,_,rfl⟩:=h
    exact ⟨_,rfl⟩
  · cases h
theorem sc_isi {Ts : List Ty} {x : D} : ∀ v,isiD Ts x = some v → ∃ z,v = .s z:=fun v h=>by cases h; exact ⟨_,rfl⟩
theorem sc_neg {x : D} : ∀ v,negD x = some v → ∃ z,v = .s z:=fun v h=>by
  unfold negD at h
  split at h <;> cases h <;> exact ⟨_,rfl⟩
theorem k_op1d {h : D → Option Xv} {κ : Pv → Ev → Rs γ} {r' : D → R β} (hs : ∀ v,h x = some v → ∃ z,v = .s z) (hp : RdP Γ1 p x w) (hk : Keep Γ x w) (k : ∀ z,KJ Q Γ (κ (.d z)) (r' z)) : KJ Q Γ (fun e1=>(put (((pkP p).get e1).bind h) e1).bind κ) ((o1 h x).bind r'):=fun e he=>by
  dsimp only
  rw [hp.get hk he]
  dsimp only [Option.bind]
  unfold o1
  cases hx : h x with
  | none=>exact Q.bad _
  | some v =>
    obtain ⟨z,rfl⟩:=hs _ hx
    exact k z e he
theorem k_op2d {h : D → D → Option Xv} {κ : Pv → Ev → Rs γ} {r' : D → R β} (hs : ∀ v,h x y = some v → ∃ z,v = .s z) (hp : RdP Γ1 p x w1) (hk : Keep Γ x w1) (hq : RdP Γ2 q y w2) (hk2 : Keep Γ y w2) (k : ∀ z,KJ Q Γ (κ (.d z)) (r' z)) : KJ Q Γ (fun e2=>(put (((pkP p).get e2).bind fun x=>((pkP q).get e2).bind fun y=>h x y) e2).bind κ) ((o2 h x y).bind r'):=fun e he=>by
  dsimp only
  rw [hp.get hk he]
  dsimp only [Option.bind]
  rw [hq.get hk2 he]
  dsimp only [Option.bind]
  unfold o2
  cases hx : h x y with
  | none=>exact Q.bad _
  | some v =>
    obtain ⟨z,rfl⟩:=hs _ hx
    exact k z e he
theorem c_nilA {κ : List D → Ev → Rs γ} (k : KJ Q Γ (κ []) r) : CJ Q Γ nilA κ r:=k
theorem c_consA {f : M D} {g : M (List D)} {κ : List D → Ev → Rs γ} (k : CJ Q Γ f (fun d e1=>(g e1).bind fun ds e2=>κ (d :: ds) e2) r) : CJ Q Γ (consA f g) κ r:=fun e he=>by
  have : (consA f g e).bind κ = (f e).bind (fun d e1=>(g e1).bind fun ds e2=>κ (d :: ds) e2):=by
    unfold consA
    rw [bind_bind]
    congr 1
    funext d e1
    rw [bind_bind]
    rfl
  rw [this]
  exact k e he
theorem c_lstM {f : M (List D)} {κ : Pv → Ev → Rs γ} (k : CJ Q Γ f (fun ds e1=>κ (.o (.list ds)) e1) r) : CJ Q Γ (lstM f) κ r:=fun e he=>by
  unfold lstM
  rw [bind_bind]
  exact k e he
theorem c_tupM {f : M (List D)} {κ : Pv → Ev → Rs γ} (k : CJ Q Γ f (fun ds e1=>κ (.d (.tuple ds)) e1) r) : CJ Q Γ (tupM f) κ r:=fun e he=>by
  unfold tupM
  rw [bind_bind]
  exact k e he
theorem c_pickA {ix : List Nat} {f g : M (List D)} {κ : List D → Ev → Rs γ} (k : CJ Q Γ f (fun ds e1=>(g e1).bind fun ds' e2=>κ (pick ix ds ds') e2) r) : CJ Q Γ (pickA ix f g) κ r:=fun e he=>by
  have : (pickA ix f g e).bind κ = (f e).bind (fun ds e1=>(g e1).bind fun ds' e2=>κ (pick ix ds ds') e2):=by
    unfold pickA
    rw [bind_bind]
    congr 1
    funext d e1
    rw [bind_bind]
    rfl
  rw [this]
  exact k e he
def XvIs (w : Wv) (x : Xv) (d : D) : Prop:=match w with
  | .d=>x = .s d
  | .f=>x = .o d
  | _=>x.dat = d
theorem XvIs.n {w : Wv} {x : Xv} {d : D} (h : XvIs w x d) : XvIs .n x d:=by
  cases w with
  | d=>cases h; rfl
  | f=>cases h; rfl
  | n=>exact h
  | i _=>exact h
def FR (w : Wv) (rf : Rf) (r : R D) : Prop:=match r with
  | .ok d=>∃ x o,rf = .ok x o ∧ XvIs w x d
  | .exc x=>∃ o,rf = .exc x o
  | .bad=>True
def FT (w : Wv) (rf : Rf) (r : R (D × D)) : Prop:=match r with
  | .ok (d,t)=>∃ x,rf = .ok x [t] ∧ XvIs w x d
  | _=>True
theorem FR.n {w : Wv} {rf : Rf} {r : R D} (h : FR w rf r) : FR .n rf r:=by
  cases r with
  | ok d=>obtain ⟨x,o,h1,h2⟩:=h; exact ⟨x,o,h1,h2.n⟩
  | exc x=>exact h
  | bad=>trivial
theorem FT.n {w : Wv} {rf : Rf} {r : R (D × D)} (h : FT w rf r) : FT .n rf r:=by
  cases r with
  | ok z=>obtain ⟨x,h1,h2⟩:=h; exact ⟨x,h1,h2.n⟩
  | exc x=>trivial
  | bad=>trivial
def callK (m : List Sl → Rf) (ds : List D) (e1 : Ev) : Rs Pv:=match m (ds.map .s) with
  | .ok x _=>.ok x.pv e1
  | .exc x _=>.exc x e1
  | .bad=>.bad
theorem c_callD {m : List Sl → Rf} {g : M (List D)} {κ : Pv → Ev → Rs γ} (k : CJ Q Γ g (fun ds e1=>(callK m ds e1).bind κ) r) : CJ Q Γ (callD m g) κ r:=fun e he=>by
  have : (callD m g e).bind κ = (g e).bind (fun ds e1=>(callK m ds e1).bind κ):=by
    unfold callD
    rw [bind_bind]
    rfl
  rw [this]
  exact k e he
theorem k_callD {m : List Sl → Rf} {ds : List D} {rf : R D} {κ : Pv → Ev → Rs γ} {r' : D → R β} (hF : FR .n (m (ds.map .s)) rf) (k : ∀ p z,RdP Γ p z .n → KJ Q Γ (κ p) (r' z)) : KJ Q Γ (fun e1=>(callK m ds e1).bind κ) (rf.bind r'):=fun e he=>by
  dsimp only
  unfold callK
  cases rf with
  | ok d =>
    obtain ⟨x,o,h1,h2⟩:=hF
    rw [h1]
    have h2 : x.dat = d:=h2
    cases x with
    | s z=>cases h2; exact k _ _ (.inl rfl) e he
    | o z=>cases h2; exact k _ _ (.inr rfl) e he
  | exc x =>
    obtain ⟨o,h1⟩:=hF
    rw [h1]
    exact Q.exc x e
  | bad=>exact Q.bad _
theorem k_callDf {m : List Sl → Rf} {ds : List D} {rf : R D} {κ : Pv → Ev → Rs γ} {r' : D → R β} (hF : FR .f (m (ds.map .s)) rf) (k : ∀ z,KJ Q Γ (κ (.o z)) (r' z)) : KJ Q Γ (fun e1=>(callK m ds e1).bind κ) (rf.bind r'):=fun e he=>by
  dsimp only
  unfold callK
  cases rf with
  | ok d =>
    obtain ⟨x,o,h1,h2⟩:=hF
    have h2 : x = .o d:=h2
    rw [h1,h2]
    exact k _ e he
  | exc x =>
    obtain ⟨o,h1⟩:=hF
    rw [h1]
    exact Q.exc x e
  | bad=>exact Q.bad _
theorem k_callDd {m : List Sl → Rf} {ds : List D} {rf : R D} {κ : Pv → Ev → Rs γ} {r' : D → R β} (hF : FR .d (m (ds.map .s)) rf) (k : ∀ z,KJ Q Γ (κ (.d z)) (r' z)) : KJ Q Γ (fun e1=>(callK m ds e1).bind κ) (rf.bind r'):=fun e he=>by
  dsimp only
  unfold callK
  cases rf with
  | ok d =>
    obtain ⟨x,o,h1,h2⟩:=hF
    have h2 : x = .s d:=h2
    rw [h1,h2]
    exact k _ e he
  | exc x =>
    obtain ⟨o,h1⟩:=hF
    rw [h1]
    exact Q.exc x e
  | bad=>exact Q.bad _
def AS.own : AS → Option D
  | .o d=>some d
  | .t d=>some d
  | _=>none
def AS.wth (s : AS) (d : D) : AS:=match s with
  | .t _=>.t d
  | _=>.o d
def ownA (Γ : List AS) (i : Nat) : Option D:=match Γ[i]? with
  | some s=>s.own
  | none=>none
def setA (Γ : List AS) (i : Nat) (d : D) : List AS:=match Γ[i]? with
  | some s=>Γ.set i (s.wth d)
  | none=>Γ
theorem IsE.own {e : Ev} (he : IsE Γ e) (h : ownA Γ i = some d) : ∃ b,e[i]? = some (.o b d) ∧ ∀ d',IsE (setA Γ i d') (e.set i (.o b d')):=by
  unfold ownA at h
  split at h
  · next s hs =>
    obtain ⟨l,h1,h2⟩:=he.at hs
    cases s with
    | x=>cases h
    | e p=>cases h
    | b t p=>cases h
    | s d'=>cases h
    | a d'=>cases h
    | o d' =>
      cases h
      cases l with
      | o b d' =>
        obtain ⟨rfl,rfl⟩:=h2
        refine ⟨false,h1,fun d'=>?_⟩
        unfold setA
        rw [hs]
        exact he.set ⟨rfl,rfl⟩
      | u=>exact h2.elim
      | x p=>exact h2.elim
      | b t p=>exact h2.elim
      | s _=>exact h2.elim
    | t d' =>
      cases h
      cases l with
      | o b d' =>
        obtain ⟨rfl,rfl⟩:=h2
        refine ⟨true,h1,fun d'=>?_⟩
        unfold setA
        rw [hs]
        exact he.set ⟨rfl,rfl⟩
      | u=>exact h2.elim
      | x p=>exact h2.elim
      | b t p=>exact h2.elim
      | s _=>exact h2.elim
  · cases h
theorem c_varO {κ : Pv → Ev → Rs γ} (hd : ownA Γ i = some d) (k : KJ Q Γ (κ (.r i)) r) : CJ Q Γ (var i) κ r:=fun e he=>by
  obtain ⟨b,h,_⟩:=he.own hd
  unfold var
  rw [h]
  exact k e he
def callRK (m : List Sl → Rf) (p : Pv) (ds : List D) (e2 : Ev) : Rs Pv:=match p with
  | .d _=>.bad
  | .r i=>(match e2[i]? with
    | some (.o t d)=>(match m (.o true d :: ds.map .s) with
      | .ok x [d']=>.ok x.pv (e2.set i (.o t d'))
      | .exc x [d']=>.exc x (e2.set i (.o t d'))
      | _=>.bad)
    | _=>.bad)
  | .o d=>(match m (.o true d :: ds.map .s) with
    | .ok x [_]=>.ok x.pv e2
    | _=>.bad)
theorem c_callR {m : List Sl → Rf} {f : M Pv} {g : M (List D)} {κ : Pv → Ev → Rs γ} (k : CJ Q Γ f (fun p e1=>(g e1).bind fun ds e2=>(callRK m p ds e2).bind κ) r) : CJ Q Γ (callR m f g) κ r:=fun e he=>by
  have : (callR m f g e).bind κ = (f e).bind (fun p e1=>(g e1).bind fun ds e2=>(callRK m p ds e2).bind κ):=by
    unfold callR
    rw [bind_bind]
    congr 1
    funext p e1
    rw [bind_bind]
    rfl
  rw [this]
  exact k e he
theorem k_callRf {m : List Sl → Rf} {ds : List D} {rf : R (D × D)} {κ : Pv → Ev → Rs γ} {r' : D × D → R β} (ho : ownA Γ i = some d) (hF : FT .f (m (.o true d :: ds.map .s)) rf) (k : ∀ z : D × D,KJ Q (setA Γ i z.2) (κ (.o z.1)) (r' z)) : KJ Q Γ (fun e1=>(callRK m (.r i) ds e1).bind κ) (rf.bnx r'):=fun e he=>by
  obtain ⟨b,h,hs⟩:=he.own ho
  dsimp only
  unfold callRK
  dsimp only
  rw [h]
  dsimp only
  cases rf with
  | ok z =>
    obtain ⟨x,h1,h2⟩:=hF
    have h2 : x = .o z.1:=h2
    rw [h1,h2]
    exact k z _ (hs _)
  | exc x=>exact Q.bad _
  | bad=>exact Q.bad _
theorem k_callRn {m : List Sl → Rf} {ds : List D} {rf : R (D × D)} {κ : Pv → Ev → Rs γ} {r' : D × D → R β} (hF : FT .n (m (.o true d :: ds.map .s)) rf) (k : ∀ p (z : D × D),RdP Γ p z.1 .n → KJ Q Γ (κ p) (r' z)) : KJ Q Γ (fun e1=>(callRK m (.o d) ds e1).bind κ) (rf.bnx r'):=fun e he=>by
  dsimp only
  unfold callRK
  dsimp only
  cases rf with
  | ok z =>
    obtain ⟨x,h1,h2⟩:=hF
    rw [h1]
    have h2 : x.dat = z.1:=h2
    cases x with
    | s y=>cases h2; exact k _ z (.inl rfl) _ he
    | o y=>cases h2; exact k _ z (.inr rfl) _ he
  | exc x=>exact Q.bad _
  | bad=>exact Q.bad _
end
end DL
end L2
namespace L2
namespace DL
open PySem PySem.Spec PyProof.Rows
def liftK {α : Type} (ra : R α) (e : Ev) : Rs α:=match ra with
  | .ok a=>.ok a e
  | .exc x=>.exc x e
  | .bad=>.bad
def rngR : D → R (List D)
  | .int n=>if rngOk n then .ok (upTo 0 n.toNat) else .bad
  | _=>.bad
def apR (xs : List D) (d : D) : R D:=if xs.length < sizeLine then .ok (.list (xs ++ [d])) else .bad
def poR (xs : List D) (d : D) : R (D × D):=match d with
  | .int k=>(match ixN xs.length k with
    | some j=>(match xs[j]? with
      | some y=>.ok (y,.list (xs.eraseIdx j))
      | none=>.bad)
    | none=>.bad)
  | _=>.bad
def seR (c k d : D) : R D:=match c with
  | .list ds=>(match k with
    | .int n=>(match ixN ds.length n with
      | some j=>.ok (.list (ds.set j d))
      | none=>.bad)
    | _=>.bad)
  | .dict kvs=>(match keyIn kvs k with
    | some _=>if kvs.length < sizeLine then .ok (.dict (putD kvs k d)) else .bad
    | none=>.bad)
  | _=>.bad
def whileR {σ : Type} (f : σ → R (Fo σ)) : Nat → σ → R (Lo σ)
  | 0,_=>.bad
  | n + 1,s=>(f s).bind fun o=>match o with
    | .nx s'=>whileR f n s'
    | .bk s'=>.ok (.nx s')
    | .rt d t=>.ok (.rt d t)
def mapS {σ α β : Type} (f : σ → α → R (β × σ)) : σ → List α → R (List β × σ)
  | s,[]=>.ok ([],s)
  | s,d :: ds=>(f s d).bnx fun y=>(mapS f y.2 ds).bnx fun ys=>.ok (y.1 :: ys.1,ys.2)
section
variable {α β β' γ σ : Type} {Q : Qr β γ} {Γ Γ' Γ1 Γ2 Γc : List AS} {r : R β} {i j : Nat} {d x y c : D} {p q : Pv} {w w1 w2 : Wv}
theorem k_lift {ra : R α} {κ : α → Ev → Rs γ} {r' : α → R β} (k : ∀ a,KJ Q Γ (κ a) (r' a)) : KJ Q Γ (fun e1=>(liftK ra e1).bind κ) (ra.bind r'):=fun e he=>by
  cases ra with
  | ok a=>exact k a e he
  | exc x=>exact Q.exc x e
  | bad=>exact Q.bad _
theorem c_it {f : M D} {κ : List D → Ev → Rs γ} (k : CJ Q Γ f (fun d e1=>(liftK (itR d) e1).bind κ) r) : CJ Q Γ (itM f) κ r:=fun e he=>by
  have h:=k e he
  unfold itM
  rw [bind_bind]
  cases hf : f e with
  | ok d e1 =>
    rw [hf] at h
    show Q.rel r (Rs.bind (match items d with | some ds=>Rs.ok ds e1 | none=>.bad) κ)
    have h : Q.rel r ((liftK (itR d) e1).bind κ):=h
    unfold itR at h
    cases hi : items d <;> (rw [hi] at h; exact h)
  | exc x e1=>rw [hf] at h; exact h
  | bad=>rw [hf] at h; exact h
theorem c_rng1 {f : M D} {κ : List D → Ev → Rs γ} (k : CJ Q Γ f (fun d e1=>(liftK (rngR d) e1).bind κ) r) : CJ Q Γ (rng1 f) κ r:=fun e he=>by
  have h:=k e he
  unfold rng1
  rw [bind_bind]
  cases hf : f e with
  | ok d e1 =>
    rw [hf] at h
    revert h
    cases d with
    | int n =>
      show Q.rel r ((liftK (if rngOk n = true then _ else _) e1).bind κ) → Q.rel r (Rs.bind (if rngOk n = true then _ else _) κ)
      cases rngOk n <;> exact id
    | _=>exact id
  | exc x e1=>rw [hf] at h; exact h
  | bad=>rw [hf] at h; exact h
theorem c_enum {f : M D} {κ : List D → Ev → Rs γ} (k : CJ Q Γ f (fun d e1=>(liftK (enumR d) e1).bind κ) r) : CJ Q Γ (enumM f) κ r:=fun e he=>by
  have h:=k e he
  unfold enumM
  rw [bind_bind]
  cases hf : f e with
  | ok d e1=>rw [hf] at h; revert h; cases d <;> exact id
  | exc x e1=>rw [hf] at h; exact h
  | bad=>rw [hf] at h; exact h
theorem c_values {f : M D} {κ : List D → Ev → Rs γ} (k : CJ Q Γ f (fun d e1=>(liftK (valuesR d) e1).bind κ) r) : CJ Q Γ (valuesM f) κ r:=fun e he=>by
  have h:=k e he
  unfold valuesM
  rw [bind_bind]
  cases hf : f e with
  | ok d e1 =>
                rw [hf] at h; revert h; cases d <;> first | exact id | skip
                next kvs =>
                show Q.rel r ((liftK (if nkv kvs = true then .bad else .ok (kvs.map fun p=>p.2)) e1).bind κ) → Q.rel r (Rs.bind (if nkv kvs = true then .bad else .ok (kvs.map fun p=>p.2) e1) κ)
                cases nkv kvs <;> exact id
  | exc x e1=>rw [hf] at h; exact h
  | bad=>rw [hf] at h; exact h
theorem c_zip {f g : M D} {κ : List D → Ev → Rs γ} (k : CJ Q Γ f (fun d e1=>(g e1).bind fun d' e2=>(liftK (zipR d d') e2).bind κ) r) : CJ Q Γ (zipM f g) κ r:=fun e he=>by
  have h:=k e he
  unfold zipM
  rw [bind_bind]
  cases hf : f e with
  | ok d e1 =>
    rw [hf] at h
    show Q.rel r (Rs.bind ((g e1).bind _) κ)
    have h : Q.rel r ((g e1).bind fun d' e2=>(liftK (zipR d d') e2).bind κ):=h
    rw [bind_bind]
    cases hg : g e1 with
    | ok d' e2 =>
      rw [hg] at h
      revert h
      cases d <;> first | exact id | skip
      all_goals cases d' <;> exact id
    | exc x e1=>rw [hg] at h; exact h
    | bad=>rw [hg] at h; exact h
  | exc x e1=>rw [hf] at h; exact h
  | bad=>rw [hf] at h; exact h
theorem c_part {f : M D} {κ : Option Int → Ev → Rs γ} (k : CJ Q Γ f (fun d e1=>(liftK (prtR d) e1).bind fun i e=>κ (some i) e) r) : CJ Q Γ (part f) κ r:=fun e he=>by
  have h:=k e he
  unfold part
  rw [bind_bind]
  cases hf : f e with
  | ok d e1=>rw [hf] at h; revert h; cases d <;> exact id
  | exc x e1=>rw [hf] at h; exact h
  | bad=>rw [hf] at h; exact h
theorem c_nopart {κ : Option Int → Ev → Rs γ} (k : KJ Q Γ (κ none) r) : CJ Q Γ nopart κ r:=k
theorem c_slc {f : M Pv} {lo hi : M (Option Int)} {κ : Pv → Ev → Rs γ} (k : CJ Q Γ f (fun p e1=>(lo e1).bind fun l e2=>(hi e2).bind fun h e3=>(put (((pkP p).get e3).bind fun d=>cutD d l h) e3).bind κ) r) : CJ Q Γ (slcM f lo hi) κ r:=fun e he=>by
  have : (slcM f lo hi e).bind κ = (f e).bind (fun p e1=>(lo e1).bind fun l e2=>(hi e2).bind fun h e3=>(put (((pkP p).get e3).bind fun d=>cutD d l h) e3).bind κ):=by
    unfold slcM
    rw [pk_eq,bind_bind,bind_bind]
    congr 1
    funext p e1
    show ((lo e1).bind _).bind κ = _
    rw [bind_bind]
    congr 1
    funext l e2
    rw [bind_bind]
  rw [this]
  exact k e he
def seqK (g : M Fl) (κ : Fl → Ev → Rs γ) : Fl → Ev → Rs γ
  | .nx,e=>(g e).bind κ
  | fl,e=>κ fl e
theorem c_seq {f g : M Fl} {κ : Fl → Ev → Rs γ} (k : CJ Q Γ f (seqK g κ) r) : CJ Q Γ (seqM f g) κ r:=fun e he=>by
  have h:=k e he
  unfold seqM
  cases hf : f e with
  | ok fl e1=>rw [hf] at h; cases fl <;> exact h
  | exc x e1=>rw [hf] at h; exact h
  | bad=>rw [hf] at h; exact h
theorem k_seq {g : M Fl} {κ : Fl → Ev → Rs γ} (k : CJ Q Γ g κ r) : KJ Q Γ (seqK g κ .nx) r:=k
theorem c_skip {κ : Fl → Ev → Rs γ} (k : KJ Q Γ (κ .nx) r) : CJ Q Γ skip κ r:=k
theorem c_drop {f : M Pv} {κ : Fl → Ev → Rs γ} (k : CJ Q Γ f (fun _ e1=>κ .nx e1) r) : CJ Q Γ (drop f) κ r:=fun e he=>by
  unfold drop
  rw [bind_bind]
  exact k e he
theorem c_asg {f : M Pv} {κ : Fl → Ev → Rs γ} (k : CJ Q Γ f (fun p e1=>(into i p e1).bind κ) r) : CJ Q Γ (asg i f) κ r:=fun e he=>by
  unfold asg
  rw [bind_bind]
  exact k e he
theorem IsE.into {e : Ev} (he : IsE Γ e) (hn : ntA Γ i = true) : into i p e = into2 i p e:=by
  unfold ntA at hn
  split at hn
  · next s hs =>
    obtain ⟨l,h1,h2⟩:=he.at hs
    unfold DL.into
    rw [h1]
    cases l with
    | u=>rfl
    | x p=>rfl
    | b t d=>cases s <;> simp_all [IsS,AS.nt]
    | s d=>rfl
    | o b d =>
      cases b with
      | false=>rfl
      | true=>cases s <;> simp_all [IsS,AS.nt]
  · cases hn
theorem k_intoD {κ : Fl → Ev → Rs γ} (hp : RdP Γ1 p d .d) (hn : ntA Γ i = true) (hG : Γ.set i (.s d) = Γ') (k : KJ Q Γ' (κ .nx) r) : KJ Q Γ (fun e=>(into i p e).bind κ) r:=fun e he=>by
  subst hG
  dsimp only
  rw [he.into hn]
  cases hp
  exact k _ (he.set rfl)
theorem k_intoF {κ : Fl → Ev → Rs γ} (hp : RdP Γ1 p d .f) (hn : ntA Γ i = true) (hG : Γ.set i (.o d) = Γ') (k : KJ Q Γ' (κ .nx) r) : KJ Q Γ (fun e=>(into i p e).bind κ) r:=fun e he=>by
  subst hG
  dsimp only
  rw [he.into hn]
  cases hp
  exact k _ (he.set ⟨rfl,rfl⟩)
theorem k_intoN {κ : Fl → Ev → Rs γ} (hp : RdP Γ1 p d .n) (hn : ntA Γ i = true) (hG : Γ.set i (.a d) = Γ') (k : KJ Q Γ' (κ .nx) r) : KJ Q Γ (fun e=>(into i p e).bind κ) r:=fun e he=>by
  subst hG
  dsimp only
  rw [he.into hn]
  rcases hp with hp | hp <;> cases hp
  · exact k _ (he.set rfl)
  · exact k _ (he.set ⟨rfl,rfl⟩)
theorem k_intoU {κ : Unit → Ev → Rs γ} (k : KJ Q Γ (fun e=>(into i p e).bind fun _ e1=>κ () e1) r) (hp : RdP Γ1 p d .n) : KJ Q Γ (fun e=>(intoU i p e).bind κ) r:=fun e he=>by
  have h:=k e he
  dsimp only at h ⊢
  unfold intoU
  cases hi : into i p e with
  | ok fl e1=>rw [hi] at h; exact h
  | bad=>rw [hi] at h; exact h
  | exc x e1 =>
    exfalso
    unfold DL.into at hi
    rcases hp with hp | hp <;> cases hp <;> (split at hi <;> cases hi)
theorem c_par2 {f g : M Pv} {κ : Fl → Ev → Rs γ} (k : CJ Q Γ f (fun p e1=>(g e1).bind fun q e2=>(intoU i p e2).bind fun _ e3=>(into j q e3).bind κ) r) : CJ Q Γ (par2 i j f g) κ r:=fun e he=>by
  have : (par2 i j f g e).bind κ = (f e).bind (fun p e1=>(g e1).bind fun q e2=>(intoU i p e2).bind fun _ e3=>(into j q e3).bind κ):=by
    unfold par2
    rw [bind_bind]
    congr 1
    funext p e1
    rw [bind_bind]
    congr 1
    funext q e2
    rw [bind_bind]
  rw [this]
  exact k e he
def retK (p : Pv) (e1 : Ev) : Rs Fl:=match p with
  | .d x=>.ok (.rt (.s x)) e1
  | .o x=>.ok (.rt (.o x)) e1
  | .r i=>(match e1[i]? with
    | some (.s x)=>.ok (.rt (.s x)) e1
    | some (.o false x)=>.ok (.rt (.o x)) (e1.set i .u)
    | _=>.bad)
theorem c_ret {f : M Pv} {κ : Fl → Ev → Rs γ} (k : CJ Q Γ f (fun p e1=>(retK p e1).bind κ) r) : CJ Q Γ (ret f) κ r:=fun e he=>by
  have : (ret f e).bind κ = (f e).bind (fun p e1=>(retK p e1).bind κ):=by
    unfold ret
    rw [bind_bind]
    rfl
  rw [this]
  exact k e he
theorem k_retN {κ : Fl → Ev → Rs γ} (hp : RdP Γ1 p d .n) (k : ∀ x,XvIs .n x d → KJ Q Γ (κ (.rt x)) r) : KJ Q Γ (fun e=>(retK p e).bind κ) r:=fun e he=>by
  rcases hp with hp | hp <;> cases hp
  · exact k (.s d) rfl e he
  · exact k (.o d) rfl e he
theorem k_retD {κ : Fl → Ev → Rs γ} (hp : RdP Γ1 p d .d) (k : ∀ x,XvIs .d x d → KJ Q Γ (κ (.rt x)) r) : KJ Q Γ (fun e=>(retK p e).bind κ) r:=fun e he=>by
  cases hp
  exact k _ rfl e he
theorem k_retF {κ : Fl → Ev → Rs γ} (hp : RdP Γ1 p d .f) (k : ∀ x,XvIs .f x d → KJ Q Γ (κ (.rt x)) r) : KJ Q Γ (fun e=>(retK p e).bind κ) r:=fun e he=>by
  cases hp
  exact k _ rfl e he
theorem k_retO {κ : Fl → Ev → Rs γ} (hk : Γ[i]? = some (.o d)) (hG : Γ.set i .x = Γ') (k : ∀ x,XvIs .f x d → KJ Q Γ' (κ (.rt x)) r) : KJ Q Γ (fun e=>(retK (.r i) e).bind κ) r:=fun e he=>by
  subst hG
  obtain ⟨l,h1,h2⟩:=he.at hk
  cases l with
  | o b d' =>
    obtain ⟨rfl,rfl⟩:=h2
    show Q.rel r (Rs.bind (match e[i]? with
    | some (.s x)=>Rs.ok (.rt (.s x)) e
    | some (.o false x)=>.ok (.rt (.o x)) (e.set i .u)
    | _=>.bad) κ)
    rw [h1]
    exact k _ rfl _ (he.set trivial)
  | u=>exact h2.elim
  | x p=>exact h2.elim
  | b t p=>exact h2.elim
  | s _=>exact h2.elim
theorem c_ifS {s : M Bool} {f g : M Fl} {κ : Fl → Ev → Rs γ} (k : CJ Q Γ s (fun b e1=>(ifK b f g e1).bind κ) r) : CJ Q Γ (ifS s f g) κ r:=fun e he=>by
  have : (ifS s f g e).bind κ = (s e).bind fun b e1=>(ifK b f g e1).bind κ:=by
    unfold ifS
    rw [bind_bind]
    rfl
  rw [this]
  exact k e he
theorem k_if2 {b : Bool} {f g : M Fl} {κ : Fl → Ev → Rs γ} {rf rg : R β} (hf : CJ Q Γ f κ rf) (hg : CJ Q Γ g κ rg) : KJ Q Γ (fun e1=>(ifK b f g e1).bind κ) (if b = true then rf else rg):=fun e he=>by
  cases b with
  | true=>exact hf e he
  | false=>exact hg e he
theorem c_tgN {κ : Unit → Ev → Rs γ} (hn : ntA Γ i = true) (hG : Γ.set i (.s d) = Γ') (k : KJ Q Γ' (κ ()) r) : CJ Q Γ (tgN i d) κ r:=fun e he=>by
  subst hG
  have h:=he.into (p:=.d d) hn
  unfold tgN
  unfold ntA at hn
  split at hn
  · next s hs =>
    obtain ⟨l,h1,h2⟩:=he.at hs
    rw [h1]
    cases l with
    | u=>exact k _ (he.set rfl)
    | x p=>exact k _ (he.set rfl)
    | b t d=>cases s <;> simp_all [IsS,AS.nt]
    | s _=>exact k _ (he.set rfl)
    | o b d' =>
      cases b with
      | false=>exact k _ (he.set rfl)
      | true=>cases s <;> simp_all [IsS,AS.nt]
  · cases hn
theorem c_nilG {κ : Unit → Ev → Rs γ} (k : KJ Q Γ (κ ()) r) : CJ Q Γ (nilG []) κ r:=k
theorem c_consG {g : D → M Unit} {gs : List D → M Unit} {ds : List D} {κ : Unit → Ev → Rs γ} (k : CJ Q Γ (g d) (fun _ e1=>(gs ds e1).bind κ) r) : CJ Q Γ (consG g gs (d :: ds)) κ r:=fun e he=>by
  have : (consG g gs (d :: ds) e).bind κ = (g d e).bind (fun _ e1=>(gs ds e1).bind κ):=by
    unfold consG
    rw [bind_bind]
  rw [this]
  exact k e he
theorem c_tg2 {gs : List D → M Unit} {κ : Unit → Ev → Rs γ} {r' : D × D → R β} (k : ∀ z : D × D,CJ Q Γ (gs [z.1,z.2]) κ (r' z)) : CJ Q Γ (tgT gs d) κ ((un2 d).bind r'):=fun e he=>by
  unfold un2
  split
  · exact k (_,_) e he
  · exact k (_,_) e he
  · exact Q.bad _
theorem c_asgT {f : M D} {g : D → M Unit} {κ : Fl → Ev → Rs γ} (k : CJ Q Γ f (fun d e1=>(g d e1).bind fun _ e2=>κ .nx e2) r) : CJ Q Γ (asgT f g) κ r:=fun e he=>by
  have : (asgT f g e).bind κ = (f e).bind (fun d e1=>(g d e1).bind fun _ e2=>κ .nx e2):=by
    unfold asgT
    rw [bind_bind]
    congr 1
    funext d e1
    rw [bind_bind]
    rfl
  rw [this]
  exact k e he
def appK (i : Nat) (d : D) (e1 : Ev) : Rs Pv:=match selfL i e1 with
  | some (t,ds)=>if ds.length < sizeLine then .ok (.d .none) (e1.set i (.o t (.list (ds ++ [d])))) else .bad
  | none=>.bad
theorem c_app {f : M D} {κ : Pv → Ev → Rs γ} {r' : List D → R β} (ho : ownA Γ i = some c) (k : ∀ xs,c = .list xs → CJ Q Γ f (fun d e1=>(appK i d e1).bind κ) (r' xs)) : CJ Q Γ (appM i f) κ ((lsR c).bind r'):=fun e he=>by
  cases c with
  | list xs =>
    obtain ⟨b,h1,_⟩:=he.own ho
    have h2 : selfL i e = some (b,xs):=by unfold selfL; rw [h1]
    have h:=k xs rfl e he
    unfold appM
    rw [h2]
    dsimp only
    rw [bind_bind]
    exact h
  | _=>exact Q.bad _
theorem k_app {xs : List D} {κ : Pv → Ev → Rs γ} {r' : D → R β} (hc : c = .list xs) (ho : ownA Γ i = some c) (k : ∀ c',KJ Q (setA Γ i c') (κ (.d .none)) (r' c')) : KJ Q Γ (fun e1=>(appK i d e1).bind κ) ((apR xs d).bind r'):=fun e he=>by
  subst hc
  obtain ⟨b,h1,h3⟩:=he.own ho
  have h2 : selfL i e = some (b,xs):=by unfold selfL; rw [h1]
  dsimp only
  unfold appK apR
  rw [h2]
  dsimp only
  split
  · exact k _ _ (h3 _)
  · exact Q.bad _
def popK (i : Nat) (d : D) (e1 : Ev) : Rs Pv:=match selfL i e1,d with
    | some (t,ds),.int k=>(match ixN ds.length k with
      | some j=>(match ds[j]? with
        | some y=>.ok (.d y) (e1.set i (.o t (.list (ds.eraseIdx j))))
        | none=>.bad)
      | none=>.bad)
    | _,_=>.bad
theorem c_pop {f : M Pv} {κ : Pv → Ev → Rs γ} {r' : List D → R β} (ho : ownA Γ i = some c) (k : ∀ xs,c = .list xs → CJ Q Γ (dat f) (fun d e1=>(popK i d e1).bind κ) (r' xs)) : CJ Q Γ (popM i f) κ ((lsR c).bind r'):=fun e he=>by
  cases c with
  | list xs =>
    obtain ⟨b,h1,_⟩:=he.own ho
    have h2 : selfL i e = some (b,xs):=by unfold selfL; rw [h1]
    have h:=k xs rfl e he
    unfold popM
    rw [h2]
    dsimp only
    rw [bind_bind]
    exact h
  | _=>exact Q.bad _
theorem k_pop {xs : List D} {κ : Pv → Ev → Rs γ} {r' : D × D → R β} (hc : c = .list xs) (ho : ownA Γ i = some c) (k : ∀ z : D × D,KJ Q (setA Γ i z.2) (κ (.d z.1)) (r' z)) : KJ Q Γ (fun e1=>(popK i d e1).bind κ) ((poR xs d).bind r'):=fun e he=>by
  subst hc
  obtain ⟨b,h1,h3⟩:=he.own ho
  have h2 : selfL i e = some (b,xs):=by unfold selfL; rw [h1]
  dsimp only
  unfold popK poR
  rw [h2]
  cases d <;> first | exact Q.bad _ | skip
  next n =>
  dsimp only
  cases ixN xs.length n with
  | none=>exact Q.bad _
  | some j =>
    dsimp only
    cases xs[j]? with
    | none=>exact Q.bad _
    | some y=>exact k (_,_) _ (h3 _)
def setK2 (i : Nat) (d k : D) (e2 : Ev) : Rs Fl:=match e2[i]? with
    | some (.o t (.list ds))=>(match k with
      | .int n=>(match ixN ds.length n with
        | some j=>.ok .nx (e2.set i (.o t (.list (ds.set j d))))
        | none=>.bad)
      | _=>.bad)
    | some (.o t (.dict kvs))=>(match keyIn kvs k with
      | some _=>if kvs.length < sizeLine then .ok .nx (e2.set i (.o t (.dict (putD kvs k d)))) else .bad
      | none=>.bad)
    | _=>.bad
def setK1 (i : Nat) (g : M Pv) (d : D) (e1 : Ev) : Rs Fl:=match e1[i]? with
  | some (.o _ _)=>(dat g e1).bind fun k e2=>setK2 i d k e2
  | _=>.bad
theorem c_set {f : M D} {g : M Pv} {κ : Fl → Ev → Rs γ} (k : CJ Q Γ f (fun d e1=>(setK1 i g d e1).bind κ) r) : CJ Q Γ (setM i f g) κ r:=fun e he=>by
  have : (setM i f g e).bind κ = (f e).bind (fun d e1=>(setK1 i g d e1).bind κ):=by
    unfold setM
    rw [bind_bind]
    rfl
  rw [this]
  exact k e he
theorem k_set1 {g : M Pv} {κ : Fl → Ev → Rs γ} (ho : ownA Γ i = some c) (k : CJ Q Γ (dat g) (fun kk e2=>(setK2 i d kk e2).bind κ) r) : KJ Q Γ (fun e1=>(setK1 i g d e1).bind κ) r:=fun e he=>by
  obtain ⟨b,h1,h3⟩:=he.own ho
  have h:=k e he
  dsimp only
  unfold setK1
  rw [h1]
  dsimp only
  rw [bind_bind]
  exact h
theorem k_set2 {kk : D} {κ : Fl → Ev → Rs γ} {r' : D → R β} (ho : ownA Γ i = some c) (k : ∀ c',KJ Q (setA Γ i c') (κ .nx) (r' c')) : KJ Q Γ (fun e2=>(setK2 i d kk e2).bind κ) ((seR c kk d).bind r'):=fun e he=>by
  obtain ⟨b,h1,h3⟩:=he.own ho
  dsimp only
  unfold setK2 seR
  rw [h1]
  cases c with
  | list ds =>
    cases kk <;> first | exact Q.bad _ | skip
    next n =>
    dsimp only
    cases ixN ds.length n with
    | none=>exact Q.bad _
    | some j=>exact k _ _ (h3 _)
  | dict kvs =>
    dsimp only
    cases keyIn kvs kk with
    | none=>exact Q.bad _
    | some _ =>
      dsimp only
      split
      · exact k _ _ (h3 _)
      · exact Q.bad _
  | _=>exact Q.bad _
end
end DL
end L2
namespace L2
namespace DL
open PySem PySem.Spec PyProof.Rows
def outA : List AS → List D
  | []=>[]
  | .t d :: Γ=>d :: outA Γ
  | .b true d :: Γ=>d :: outA Γ
  | _ :: Γ=>outA Γ
theorem IsE.outs : ∀ {Γ : List AS} {e : Ev} (n : Nat),IsE Γ e → outsOf (e.take n) = outA (Γ.take n)
  | [],[],n,_=>by simp [outsOf,outA]
  | [],l :: e,n,h=>h.elim
  | s :: Γ,[],n,h=>h.elim
  | s :: Γ,l :: e,0,h=>rfl
  | s :: Γ,l :: e,n + 1,h=>by
    have ih:=IsE.outs (Γ:=Γ) (e:=e) n h.2
    have h1 : IsS s l:=h.1
    rw [List.take_succ_cons,List.take_succ_cons]
    cases s <;> cases l <;> first | exact h1.elim | exact ih | skip
    · have h1 : _ = false:=h1
      subst h1
      exact ih
    · obtain ⟨rfl,_⟩:=h1
      exact ih
    · obtain ⟨rfl,_⟩:=h1
      exact ih
    · obtain ⟨rfl,rfl⟩:=h1
      exact congrArg _ ih
    · obtain ⟨rfl,rfl⟩:=h1
      rename_i t d
      cases t with
      | true=>exact congrArg _ ih
      | false=>exact ih
def RtOk (n : Option Nat) (Γ : List AS) (t : D) : Prop:=match n with
  | none=>True
  | some k=>outA (Γ.take k) = [t]
def FlIs (own : Wv) (fl : Fl) (d : D) : Prop:=match fl with
  | .rt x=>XvIs own x d
  | .nx=>own = .n ∧ d = .none
  | _=>False
def QF (own : Wv) : Qr D Fl:=⟨fun r s=>match r with
  | .ok d=>∃ fl e',s = .ok fl e' ∧ FlIs own fl d
  | .exc x=>∃ e',s = .exc x e'
  | .bad=>True,fun _=>trivial,fun x e=>⟨e,rfl⟩⟩
def QT (own : Wv) (n : Nat) : Qr (D × D) Fl:=⟨fun r s=>match r with
  | .ok z=>∃ fl e' Γ,s = .ok fl e' ∧ FlIs own fl z.1 ∧ IsE Γ e' ∧ outA (Γ.take n) = [z.2]
  | .exc x=>∃ e',s = .exc x e'
  | .bad=>True,fun _=>trivial,fun x e=>⟨e,rfl⟩⟩
def QL {σ : Type} (own : Wv) (n : Option Nat) (env : σ → List AS) : Qr (Fo σ) Fl:=⟨fun r s=>match r with
  | .ok (.nx a)=>∃ fl e',(fl = .nx ∨ fl = .ct) ∧ s = .ok fl e' ∧ IsE (env a) e'
  | .ok (.bk a)=>∃ e',s = .ok .bk e' ∧ IsE (env a) e'
  | .ok (.rt d t)=>∃ x e' Γ,s = .ok (.rt x) e' ∧ XvIs own x d ∧ IsE Γ e' ∧ RtOk n Γ t
  | .exc x=>∃ e',s = .exc x e'
  | .bad=>True,fun _=>trivial,fun x e=>⟨e,rfl⟩⟩
def QN {σ : Type} (env : σ → List AS) : Qr σ Fl:=⟨fun r s=>match r with
  | .ok a=>∃ fl e',(fl = .nx ∨ fl = .ct) ∧ s = .ok fl e' ∧ IsE (env a) e'
  | .exc x=>∃ e',s = .exc x e'
  | .bad=>True,fun _=>trivial,fun x e=>⟨e,rfl⟩⟩
section
variable {α β β' γ σ : Type} {Q : Qr β γ} {Γ Γ' Γ1 Γ2 Γc : List AS} {r : R β} {i j : Nat} {d x y c t : D} {p q : Pv} {w w1 w2 : Wv} {own : Wv} {n : Option Nat}
theorem q_ret {v : Xv} (h : XvIs own v d) : KJ (QF own) Γ (Rs.ok (.rt v)) (.ok d):=fun e he=>⟨_,e,rfl,h⟩
theorem q_end : KJ (QF .n) Γ (Rs.ok .nx) (.ok .none):=fun e he=>⟨_,e,rfl,rfl,rfl⟩
theorem q_retT {k : Nat} {v : Xv} (h : XvIs own v d) (ho : outA (Γ.take k) = [t]) : KJ (QT own k) Γ (Rs.ok (.rt v)) (.ok (d,t)):=fun e he=>⟨_,e,Γ,rfl,h,he,ho⟩
theorem q_lnx {env : σ → List AS} {s : σ} (g : Le Γ (env s)) : KJ (QL own n env) Γ (Rs.ok .nx) (.ok (.nx s)):=fun e he=>⟨_,e,.inl rfl,rfl,he.le g⟩
theorem q_lbk {env : σ → List AS} {s : σ} (g : Le Γ (env s)) : KJ (QL own n env) Γ (Rs.ok .bk) (.ok (.bk s)):=fun e he=>⟨e,rfl,he.le g⟩
theorem q_lrt {env : σ → List AS} {v : Xv} (h : XvIs own v d) (ho : RtOk n Γ t) : KJ (QL own n env) Γ (Rs.ok (.rt v)) (.ok (.rt d t)):=fun e he=>⟨_,e,Γ,rfl,h,he,ho⟩
theorem q_nnx {env : σ → List AS} {s : σ} (g : Le Γ (env s)) : KJ (QN env) Γ (Rs.ok .nx) (.ok s):=fun e he=>⟨_,e,.inl rfl,rfl,he.le g⟩
theorem fr_fn {k : Nat} {b : M Fl} {as : List Sl} {r : R D} (he : IsE Γ (as ++ List.replicate (k - as.length) .u)) (h : CJ (QF own) Γ b Rs.ok r) : FR own (fnM k b as) r:=by
  have h:=h _ he
  rw [bind_ok] at h
  unfold fnM
  cases r with
  | ok d =>
    obtain ⟨fl,e',h1,h2⟩:=h
    rw [h1]
    cases fl with
    | nx =>
      obtain ⟨rfl,rfl⟩:=h2
      exact ⟨_,_,rfl,rfl⟩
    | rt x=>exact ⟨_,_,rfl,h2⟩
    | bk=>exact h2.elim
    | ct=>exact h2.elim
  | exc x =>
    obtain ⟨e',h1⟩:=h
    rw [h1]
    exact ⟨_,rfl⟩
  | bad=>trivial
theorem ft_fn {k : Nat} {b : M Fl} {as : List Sl} {r : R (D × D)} (he : IsE Γ (as ++ List.replicate (k - as.length) .u)) (h : CJ (QT own as.length) Γ b Rs.ok r) : FT own (fnM k b as) r:=by
  have h:=h _ he
  rw [bind_ok] at h
  unfold fnM
  cases r with
  | ok z =>
    obtain ⟨fl,e',Γ1,h1,h2,h3,h4⟩:=h
    rw [h1]
    have:=h3.outs as.length
    cases fl with
    | nx =>
      obtain ⟨rfl,h2⟩:=h2
      exact ⟨.s .none,by dsimp only; rw [this,h4],h2.symm⟩
    | rt x=>exact ⟨x,by dsimp only; rw [this,h4],h2⟩
    | bk=>exact h2.elim
    | ct=>exact h2.elim
  | exc x=>trivial
  | bad=>trivial
theorem c_for {it : M (List D)} {tg : D → M Unit} {b : M Fl} {κ : Fl → Ev → Rs γ} (k : CJ Q Γ it (fun ds e1=>(forL tg b ds e1).bind κ) r) : CJ Q Γ (forM it tg b) κ r:=fun e he=>by
  unfold forM
  rw [bind_bind]
  exact k e he
theorem forL_cons (tg : D → M Unit) (b : M Fl) (d : D) (ds : List D) (e : Ev) : forL tg b (d :: ds) e = (match ((tg d e).bind fun _ e1=>b e1) with
    | .ok .nx e2=>forL tg b ds e2
    | .ok .ct e2=>forL tg b ds e2
    | .ok .bk e2=>.ok .nx e2
    | r=>r):=by
  show (tg d e).bind _ = _
  cases tg d e with
  | ok u e1 =>
    show (match b e1 with | .ok .nx e2=>_ | .ok .ct e2=>_ | .ok .bk e2=>_ | r=>r) = (match b e1 with | .ok .nx e2=>_ | .ok .ct e2=>_ | .ok .bk e2=>_ | r=>r)
    rfl
  | exc x e1=>rfl
  | bad=>rfl
theorem fold_sim {tg : D → M Unit} {b : M Fl} {env : σ → List AS} {f : σ → D → R σ} (hb : ∀ s d,CJ (QN env) (env s) (tg d) (fun _ e1=>b e1) (f s d)) : ∀ (ds : List D) (s : σ),∀ e,IsE (env s) e → (QA (fun _=>Fl.nx) env).rel (foldR f s ds) (forL tg b ds e)
  | [],s,e,he=>⟨e,rfl,he⟩
  | d :: ds,s,e,he=>by
    have h:=hb s d e he
    rw [forL_cons]
    unfold foldR
    revert h
    cases f s d with
    | bad=>intro _; trivial
    | exc x =>
      rintro ⟨e',h⟩
      rw [h]
      exact ⟨e',rfl⟩
    | ok s' =>
      rintro ⟨fl,e',h1,h2,h3⟩
      rw [h2]
      have ih:=fold_sim hb ds s' e' h3
      rcases h1 with rfl | rfl <;> exact ih
theorem k_fold {tg : D → M Unit} {b : M Fl} {κ : Fl → Ev → Rs γ} {ds : List D} (env : σ → List AS) (s : σ) {f : σ → D → R σ} {r' : σ → R β} (g : Le Γ (env s)) (hb : ∀ s d,CJ (QN env) (env s) (tg d) (fun _ e1=>b e1) (f s d)) (k : ∀ s,KJ Q (env s) (κ .nx) (r' s)) : KJ Q Γ (fun e1=>(forL tg b ds e1).bind κ) ((foldR f s ds).bind r'):=fun e he=>by
  have h:=fold_sim hb ds s e (he.le g)
  dsimp only
  revert h
  cases foldR f s ds with
  | bad=>intro _; exact Q.bad _
  | exc x =>
    rintro ⟨e',h⟩
    rw [h]
    exact Q.exc x e'
  | ok s' =>
    rintro ⟨e',h1,h2⟩
    rw [h1]
    exact k s' e' h2
def QO {σ : Type} (own : Wv) (n : Option Nat) (env : σ → List AS) : Qr (Lo σ) Fl:=⟨fun r s=>match r with
  | .ok (.nx a)=>∃ e',s = .ok .nx e' ∧ IsE (env a) e'
  | .ok (.rt d t)=>∃ x e' Γ,s = .ok (.rt x) e' ∧ XvIs own x d ∧ IsE Γ e' ∧ RtOk n Γ t
  | .exc x=>∃ e',s = .exc x e'
  | .bad=>True,fun _=>trivial,fun x e=>⟨e,rfl⟩⟩
theorem for_sim {tg : D → M Unit} {b : M Fl} {env : σ → List AS} {f : σ → D → R (Fo σ)} (hb : ∀ s d,CJ (QL own n env) (env s) (tg d) (fun _ e1=>b e1) (f s d)) : ∀ (ds : List D) (s : σ),∀ e,IsE (env s) e → (QO own n env).rel (forR f s ds) (forL tg b ds e)
  | [],s,e,he=>⟨e,rfl,he⟩
  | d :: ds,s,e,he=>by
    have h:=hb s d e he
    rw [forL_cons]
    unfold forR
    revert h
    cases f s d with
    | bad=>intro _; trivial
    | exc x =>
      rintro ⟨e',h⟩
      rw [h]
      exact ⟨e',rfl⟩
    | ok o =>
      cases o with
      | nx s' =>
        rintro ⟨fl,e',h1,h2,h3⟩
        rw [h2]
        have ih:=for_sim hb ds s' e' h3
        rcases h1 with rfl | rfl <;> exact ih
      | bk s' =>
        rintro ⟨e',h2,h3⟩
        rw [h2]
        exact ⟨e',rfl,h3⟩
      | rt d t =>
        rintro ⟨x,e',Γ,h1,h2⟩
        rw [h1]
        exact ⟨x,e',Γ,rfl,h2⟩
theorem k_lo {κ : Fl → Ev → Rs γ} {env : σ → List AS} {rl : R (Lo σ)} {m : M Fl} {r' : Lo σ → R β} (own : Wv) (n : Option Nat) (h : ∀ e,IsE Γ e → (QO own n env).rel rl (m e)) (k1 : ∀ s,KJ Q (env s) (κ .nx) (r' (.nx s))) (k2 : ∀ d t Γ v,XvIs own v d → RtOk n Γ t → KJ Q Γ (κ (.rt v)) (r' (.rt d t))) : KJ Q Γ (fun e1=>(m e1).bind κ) (rl.bind r'):=fun e he=>by
  have h:=h e he
  dsimp only
  revert h
  cases rl with
  | bad=>intro _; exact Q.bad _
  | exc x =>
    rintro ⟨e',h⟩
    rw [h]
    exact Q.exc x e'
  | ok o =>
    cases o with
    | nx s' =>
      rintro ⟨e',h1,h2⟩
      rw [h1]
      exact k1 s' e' h2
    | rt d t =>
      rintro ⟨x,e',Γ',h1,h2,h3,h4⟩
      rw [h1]
      exact k2 d t Γ' x h2 h4 e' h3
theorem k_for {tg : D → M Unit} {b : M Fl} {κ : Fl → Ev → Rs γ} {ds : List D} (own : Wv) (n : Option Nat) (env : σ → List AS) (s : σ) {f : σ → D → R (Fo σ)} {r' : Lo σ → R β} (g : Le Γ (env s)) (hb : ∀ s d,CJ (QL own n env) (env s) (tg d) (fun _ e1=>b e1) (f s d)) (k1 : ∀ s,KJ Q (env s) (κ .nx) (r' (.nx s))) (k2 : ∀ d t Γ v,XvIs own v d → RtOk n Γ t → KJ Q Γ (κ (.rt v)) (r' (.rt d t))) : KJ Q Γ (fun e1=>(forL tg b ds e1).bind κ) ((forR f s ds).bind r') :=
  k_lo own n (fun e he=>for_sim hb ds s e (he.le g)) k1 k2
def stepW (c : M Bool) (b : M Fl) : M Fl:=fun e=>(c e).bind fun t e1=>ifK t b (fun e=>.ok .bk e) e1
theorem whileL_succ (c : M Bool) (b : M Fl) (k : Nat) (e : Ev) : whileL c b (k + 1) e = (match stepW c b e with
    | .ok .nx e2=>whileL c b k e2
    | .ok .ct e2=>whileL c b k e2
    | .ok .bk e2=>.ok .nx e2
    | r=>r):=by
  show (c e).bind _ = _
  unfold stepW
  cases c e with
  | ok u e1=>cases u <;> rfl
  | exc x e1=>rfl
  | bad=>rfl
theorem while_sim {cc : M Bool} {b : M Fl} {env : σ → List AS} {f : σ → R (Fo σ)} (hb : ∀ s,CJ (QL own n env) (env s) cc (fun t e1=>ifK t b (fun e=>.ok .bk e) e1) (f s)) : ∀ (k : Nat) (s : σ),∀ e,IsE (env s) e → (QO own n env).rel (whileR f k s) (whileL cc b k e)
  | 0,s,e,he=>trivial
  | k + 1,s,e,he=>by
    have h : (QL own n env).rel (f s) (stepW cc b e):=hb s e he
    rw [whileL_succ]
    unfold whileR
    revert h
    cases f s with
    | bad=>intro _; trivial
    | exc x =>
      rintro ⟨e',h⟩
      rw [h]
      exact ⟨e',rfl⟩
    | ok o =>
      cases o with
      | nx s' =>
        rintro ⟨fl,e',h1,h2,h3⟩
        rw [h2]
        have ih:=while_sim hb k s' e' h3
        rcases h1 with rfl | rfl <;> exact ih
      | bk s' =>
        rintro ⟨e',h2,h3⟩
        rw [h2]
        exact ⟨e',rfl,h3⟩
      | rt d t =>
        rintro ⟨x,e',Γ,h1,h2⟩
        rw [h1]
        exact ⟨x,e',Γ,rfl,h2⟩
theorem c_while {cc : M Bool} {b : M Fl} {κ : Fl → Ev → Rs γ} {k : Nat} (own : Wv) (n : Option Nat) (env : σ → List AS) (s : σ) {f : σ → R (Fo σ)} {r' : Lo σ → R β} (g : Le Γ (env s)) (hb : ∀ s,CJ (QL own n env) (env s) cc (fun t e1=>ifK t b (fun e=>.ok .bk e) e1) (f s)) (k1 : ∀ s,KJ Q (env s) (κ .nx) (r' (.nx s))) (k2 : ∀ d t Γ v,XvIs own v d → RtOk n Γ t → KJ Q Γ (κ (.rt v)) (r' (.rt d t))) : CJ Q Γ (whileL cc b k) κ ((whileR f k s).bind r') :=
  k_lo own n (fun e he=>while_sim hb k s e (he.le g)) k1 k2
theorem k_wif0 {b : Bool} {f g : M Fl} {Q : Qr β Fl} {rf rg : R β} (hf : CJ Q Γ f Rs.ok rf) (hg : CJ Q Γ g Rs.ok rg) : KJ Q Γ (fun e1=>ifK b f g e1) (if b = true then rf else rg):=fun e he=>by
  have:=k_if2 (b:=b) hf hg e he
  dsimp only at this
  rwa [bind_ok] at this
theorem k_body {b : M Fl} {Q : Qr β Fl} (h : CJ Q Γ b Rs.ok r) : KJ Q Γ (fun e1=>b e1) r:=fun e he=>by
  have:=h e he
  rwa [bind_ok] at this
theorem k_join {b : Bool} {f g : M Fl} {κ : Fl → Ev → Rs γ} {env : β' → List AS} {rf rg : R β'} {r' : β' → R β} (hf : CJ (QA (fun _=>Fl.nx) env) Γ f Rs.ok rf) (hg : CJ (QA (fun _=>Fl.nx) env) Γ g Rs.ok rg) (k : ∀ b,KJ Q (env b) (κ .nx) (r' b)) : KJ Q Γ (fun e1=>(ifK b f g e1).bind κ) ((if b = true then rf else rg).bind r'):=k_ifT hf hg k
def wA (Γ : List AS) : List Nat → List AS
  | []=>Γ
  | i :: r=>(wA Γ r).set i .x
def isX (Γ : List AS) (i : Nat) : Bool:=match Γ[i]? with
  | some .x=>true
  | _=>false
def allX (Γ : List AS) (is : List Nat) : Bool:=is.all (isX Γ)
def bA (Γ0 Γ : List AS) : List Nat → List AS
  | []=>Γ
  | i :: r=>(match Γ0[i]? with
    | some s=>(bA Γ0 Γ r).set i s
    | none=>bA Γ0 Γ r)
theorem IsE.wipe {e : Ev} (h : IsE Γ e) : ∀ is : List Nat,IsE (wA Γ is) (wipeE e is)
  | []=>h
  | i :: r=>(h.wipe r).set trivial
theorem IsE.wipeX {e : Ev} (h : IsE Γ e) : ∀ is : List Nat,allX Γ is = true → IsE Γ (wipeE e is)
  | [],_=>h
  | i :: r,q=>by
    have q : (isX Γ i && allX Γ r) = true:=q
    rw [Bool.and_eq_true] at q
    have h1:=h.wipeX r q.2
    have h2:=h1.set (i:=i) (s:=.x) (l:=.u) trivial
    have h3 : Γ.set i .x = Γ:=by
      have : Γ[i]? = some .x:=by
        have:=q.1
        unfold isX at this
        split at this
        · assumption
        · cases this
      exact List.ext_getElem? fun j=>by
        rw [List.getElem?_set]
        split
        · next hj =>
          subst hj
          split
          · exact this.symm
          · next hl=>rw [List.getElem?_eq_none (by omega)] at this; cases this
        · rfl
    rwa [h3] at h2
theorem IsE.back {e0 e : Ev} (h0 : IsE Γ1 e0) (h : IsE Γ e) : ∀ is : List Nat,IsE (bA Γ1 Γ is) (backE e0 e is)
  | []=>h
  | i :: r=>by
    have ih:=h0.back h r
    unfold bA backE
    cases hs : Γ1[i]? with
    | some s =>
      obtain ⟨l,h1,h2⟩:=h0.at hs
      rw [h1]
      exact ih.set h2
    | none =>
      have : e0[i]? = none:=by
        have hl : ∀ (Γ : List AS) (e : Ev),IsE Γ e → e.length = Γ.length:=by
          intro Γ
          induction Γ with
          | nil=>intro e h; cases e with
            | nil=>rfl
            | cons _ _=>exact h.elim
          | cons s Γ ih=>intro e h; cases e with
            | nil=>exact h.elim
            | cons l e=>simp [ih e h.2]
        rw [List.getElem?_eq_none_iff] at hs ⊢
        rw [hl _ _ h0]
        exact hs
      rw [this]
      exact ih
theorem bind_split {α β : Type} {s : Rs α} {k : α → Ev → Rs β} {y : β} {e' : Ev} (h : s.bind k = .ok y e') : ∃ a e1,s = .ok a e1 ∧ k a e1 = .ok y e':=by
  cases s with
  | ok a e1=>exact ⟨a,e1,rfl,h⟩
  | exc x e1=>cases h
  | bad=>cases h
def elF (tt : M Bool) (te : M D) : M (Option D):=fun e1=>(tt e1).bind fun b e2=>ifK b (fun e=>(te e).bind fun y e3=>.ok (some y) e3) (fun e=>.ok none e) e2
theorem compL_some {own : List Nat} {tg : D → M Unit} {tt : M Bool} {te : M D} {d y : D} {ds : List D} {e e' : Ev} (h : ((tg d e).bind fun _ e1=>elF tt te e1) = .ok (some y) e') : compL own tg tt te (d :: ds) e = (compL own tg tt te ds (wipeE e' own)).bind fun ys e4=>.ok (y :: ys) e4:=by
  obtain ⟨u,e1,h1,h2⟩:=bind_split h
  obtain ⟨b,e2,h3,h4⟩:=bind_split h2
  show (tg d e).bind _ = _
  rw [h1]
  dsimp only [Rs.bind]
  rw [h3]
  dsimp only [nox,Rs.bind]
  cases b with
  | true =>
    obtain ⟨y',e3,h5,h6⟩:=bind_split h4
    cases h6
    rw [h5]
  | false=>cases h4
theorem compL_none {own : List Nat} {tg : D → M Unit} {tt : M Bool} {te : M D} {d : D} {ds : List D} {e e' : Ev} (h : ((tg d e).bind fun _ e1=>elF tt te e1) = .ok none e') : compL own tg tt te (d :: ds) e = compL own tg tt te ds (wipeE e' own):=by
  obtain ⟨u,e1,h1,h2⟩:=bind_split h
  obtain ⟨b,e2,h3,h4⟩:=bind_split h2
  show (tg d e).bind _ = _
  rw [h1]
  dsimp only [Rs.bind]
  rw [h3]
  dsimp only [nox,Rs.bind]
  cases b with
  | true =>
    obtain ⟨y',e3,h5,h6⟩:=bind_split h4
    cases h6
  | false=>cases h4; rfl
theorem compL_yes {own : List Nat} {tg : D → M Unit} {te : M D} {d y : D} {ds : List D} {e e' : Ev} (h : ((tg d e).bind fun _ e1=>te e1) = .ok y e') : compL own tg yesT te (d :: ds) e = (compL own tg yesT te ds (wipeE e' own)).bind fun ys e4=>.ok (y :: ys) e4:=by
  obtain ⟨u,e1,h1,h2⟩:=bind_split h
  refine compL_some (e':=e') ?_
  rw [h1]
  show elF yesT te e1 = _
  show (te e1).bind _ = _
  rw [h2]
  rfl
theorem mapS_sim {own : List Nat} {tg : D → M Unit} {te : M D} {env : σ → List AS} {f : σ → D → R (D × σ)} (hx : ∀ s,allX (env s) own = true) (hb : ∀ s d,CJ (QA (fun z : D × σ=>z.1) fun z=>env z.2) (env s) (tg d) (fun _ e1=>te e1) (f s d)) : ∀ (ds : List D) (s : σ),∀ e,IsE (env s) e → (QA (fun z : List D × σ=>z.1) fun z=>env z.2).rel (mapS f s ds) (compL own tg yesT te ds e)
  | [],s,e,he=>⟨e,rfl,he⟩
  | d :: ds,s,e,he=>by
    have h:=hb s d e he
    unfold mapS
    revert h
    cases f s d with
    | bad=>intro _; trivial
    | exc x=>intro _; trivial
    | ok y =>
      rintro ⟨e',h1,h2⟩
      rw [compL_yes h1]
      have ih:=mapS_sim hx hb ds y.2 (wipeE e' own) (h2.wipeX own (hx _))
      show (QA (fun z : List D × σ=>z.1) fun z=>env z.2).rel ((mapS f y.2 ds).bnx _) _
      revert ih
      cases mapS f y.2 ds with
      | bad=>intro _; trivial
      | exc x=>intro _; trivial
      | ok ys =>
        rintro ⟨e'',h3,h4⟩
        rw [h3]
        exact ⟨e'',rfl,h4⟩
theorem map_sim {own : List Nat} {tg : D → M Unit} {te : M D} {f : D → R D} (hx : allX Γc own = true) (hb : ∀ d,CJ (QA (fun z : D=>z) fun _=>Γc) Γc (tg d) (fun _ e1=>te e1) (f d)) : ∀ (ds : List D),∀ e,IsE Γc e → (QA (fun z : List D=>z) fun _=>Γc).rel (mapR f ds) (compL own tg yesT te ds e)
  | [],e,he=>⟨e,rfl,he⟩
  | d :: ds,e,he=>by
    have h:=hb d e he
    unfold mapR
    revert h
    cases f d with
    | bad=>intro _; trivial
    | exc x=>intro _; trivial
    | ok y =>
      rintro ⟨e',h1,h2⟩
      rw [compL_yes h1]
      have ih:=map_sim hx hb ds (wipeE e' own) (h2.wipeX own hx)
      show (QA (fun z : List D=>z) fun _=>Γc).rel ((mapR f ds).bnx _) _
      revert ih
      cases mapR f ds with
      | bad=>intro _; trivial
      | exc x=>intro _; trivial
      | ok ys =>
        rintro ⟨e'',h3,h4⟩
        rw [h3]
        exact ⟨e'',rfl,h4⟩
theorem fc_sim {own : List Nat} {tg : D → M Unit} {tt : M Bool} {te : M D} {f : D → R (Option D)} (hx : allX Γc own = true) (hb : ∀ d,CJ (QA (fun z : Option D=>z) fun _=>Γc) Γc (tg d) (fun _ e1=>elF tt te e1) (f d)) : ∀ (ds : List D),∀ e,IsE Γc e → (QA (fun z : List D=>z) fun _=>Γc).rel (fcR f ds) (compL own tg tt te ds e)
  | [],e,he=>⟨e,rfl,he⟩
  | d :: ds,e,he=>by
    have h:=hb d e he
    unfold fcR
    revert h
    cases f d with
    | bad=>intro _; trivial
    | exc x=>intro _; trivial
    | ok y =>
      rintro ⟨e',h1,h2⟩
      have ih:=fc_sim hx hb ds (wipeE e' own) (h2.wipeX own hx)
      show (QA (fun z : List D=>z) fun _=>Γc).rel ((fcR f ds).bnx _) _
      cases y with
      | some y =>
        rw [compL_some h1]
        revert ih
        cases fcR f ds with
        | bad=>intro _; trivial
        | exc x=>intro _; trivial
        | ok ys =>
          rintro ⟨e'',h3,h4⟩
          rw [h3]
          exact ⟨e'',rfl,h4⟩
      | none =>
        rw [compL_none h1]
        revert ih
        cases fcR f ds with
        | bad=>intro _; trivial
        | exc x=>intro _; trivial
        | ok ys =>
          rintro ⟨e'',h3,h4⟩
          rw [h3]
          exact ⟨e'',rfl,h4⟩
theorem c_elF {tt : M Bool} {te : M D} {κ : Option D → Ev → Rs γ} (k : CJ Q Γ tt (fun b e2=>(ifK b (fun e=>(te e).bind fun y e3=>.ok (some y) e3) (fun e=>.ok none e) e2).bind κ) r) : CJ Q Γ (elF tt te) κ r:=fun e he=>by
  unfold elF
  rw [bind_bind]
  exact k e he
theorem k_elF {b : Bool} {te : M D} {Q : Qr β (Option D)} {rt rn : R β} (ht : CJ Q Γ te (fun y e3=>.ok (some y) e3) rt) (hn : KJ Q Γ (Rs.ok none) rn) : KJ Q Γ (fun e2=>(ifK b (fun e=>(te e).bind fun y e3=>.ok (some y) e3) (fun e=>.ok none e) e2).bind Rs.ok) (if b = true then rt else rn):=fun e he=>by
  dsimp only
  rw [bind_ok]
  cases b with
  | true=>exact ht e he
  | false=>exact hn e he
theorem k_el {m : M α} {Q : Qr β α} (h : CJ Q Γ m Rs.ok r) : KJ Q Γ (fun e1=>m e1) r:=fun e he=>by
  have:=h e he
  rwa [bind_ok] at this
def compK (own : List Nat) (tg : D → M Unit) (tt : M Bool) (te : M D) (ds : List D) (e1 : Ev) : Rs Pv:=(compL own tg tt te ds (wipeE e1 own)).bind fun ys e2=>.ok (.o (.list ys)) (backE e1 e2 own)
theorem c_comp {own : List Nat} {it : M (List D)} {tg : D → M Unit} {tt : M Bool} {te : M D} {κ : Pv → Ev → Rs γ} (k : CJ Q Γ it (fun ds e1=>(compK own tg tt te ds e1).bind κ) r) : CJ Q Γ (compM own it tg tt te) κ r:=fun e he=>by
  unfold compM
  rw [bind_bind]
  exact k e he
theorem k_compG {own : List Nat} {tg : D → M Unit} {tt : M Bool} {te : M D} {ds : List D} {κ : Pv → Ev → Rs γ} {val : β' → List D} {env : β' → List AS} {rc : R β'} {r' : β' → R β} (h : ∀ e,IsE (wA Γ own) e → (QA val env).rel rc (compL own tg tt te ds e)) (k : ∀ b,KJ Q (bA Γ (env b) own) (κ (.o (.list (val b)))) (r' b)) : KJ Q Γ (fun e1=>(compK own tg tt te ds e1).bind κ) (rc.bind r'):=fun e he=>by
  have h:=h (wipeE e own) (he.wipe own)
  dsimp only
  unfold compK
  rw [bind_bind]
  revert h
  cases rc with
  | bad=>intro _; exact Q.bad _
  | exc x =>
    rintro ⟨e',h⟩
    rw [h]
    exact Q.exc x e'
  | ok b =>
    rintro ⟨e',h1,h2⟩
    rw [h1]
    exact k b _ (he.back h2 own)
theorem k_map {own : List Nat} {tg : D → M Unit} {te : M D} {ds : List D} {κ : Pv → Ev → Rs γ} {f : D → R D} {r' : List D → R β} (Γc Γ' : List AS) (hc : wA Γ own = Γc) (hx : allX Γc own = true) (hG : bA Γ Γc own = Γ') (hb : ∀ d,CJ (QA (fun z : D=>z) fun _=>Γc) Γc (tg d) (fun _ e1=>te e1) (f d)) (k : ∀ ys,KJ Q Γ' (κ (.o (.list ys))) (r' ys)) : KJ Q Γ (fun e1=>(compK own tg yesT te ds e1).bind κ) ((mapR f ds).bind r'):=by
  subst hc hG
  exact k_compG (fun e he=>map_sim hx hb ds e he) k
theorem k_fc {own : List Nat} {tg : D → M Unit} {tt : M Bool} {te : M D} {ds : List D} {κ : Pv → Ev → Rs γ} {f : D → R (Option D)} {r' : List D → R β} (Γc Γ' : List AS) (hc : wA Γ own = Γc) (hx : allX Γc own = true) (hG : bA Γ Γc own = Γ') (hb : ∀ d,CJ (QA (fun z : Option D=>z) fun _=>Γc) Γc (tg d) (fun _ e1=>elF tt te e1) (f d)) (k : ∀ ys,KJ Q Γ' (κ (.o (.list ys))) (r' ys)) : KJ Q Γ (fun e1=>(compK own tg tt te ds e1).bind κ) ((fcR f ds).bind r'):=by
  subst hc hG
  exact k_compG (fun e he=>fc_sim hx hb ds e he) k
theorem k_mapS {own : List Nat} {tg : D → M Unit} {te : M D} {ds : List D} {κ : Pv → Ev → Rs γ} (env : σ → List AS) (s : σ) {f : σ → D → R (D × σ)} {r' : List D × σ → R β} (env' : σ → List AS) (hc : wA Γ own = env s) (hx : ∀ s,allX (env s) own = true) (hG : ∀ s,bA Γ (env s) own = env' s) (hb : ∀ s d,CJ (QA (fun z : D × σ=>z.1) fun z=>env z.2) (env s) (tg d) (fun _ e1=>te e1) (f s d)) (k : ∀ z : List D × σ,KJ Q (env' z.2) (κ (.o (.list z.1))) (r' z)) : KJ Q Γ (fun e1=>(compK own tg yesT te ds e1).bind κ) ((mapS f s ds).bind r'):=by
  refine k_compG (val:=fun z=>z.1) (env:=fun z=>env z.2) (fun e he=>mapS_sim hx hb ds s e (hc ▸ he)) fun b=>?_
  rw [hG]
  exact k b
def elD (tt : M Bool) (tk tv : M D) : M (Option (D × D)):=fun e1=>(tt e1).bind fun b e2=>ifK b (fun e=>(tk e).bind fun k e3=>(tv e3).bind fun v e4=>.ok (some (k,v)) e4) (fun e=>.ok none e) e2
theorem dcompL_some {own : List Nat} {tg : D → M Unit} {tt : M Bool} {tk tv : M D} {d k v : D} {ds : List D} {acc : List (D × D)} {e e' : Ev} (h : ((tg d e).bind fun _ e1=>elD tt tk tv e1) = .ok (some (k,v)) e') : dcompL own tg tt tk tv (d :: ds) acc e = (match isKey k with
      | some _=>dcompL own tg tt tk tv ds (putD acc k v) (wipeE e' own)
      | none=>.bad):=by
  obtain ⟨u,e1,h1,h2⟩:=bind_split h
  obtain ⟨b,e2,h3,h4⟩:=bind_split h2
  show (tg d e).bind _ = _
  rw [h1]
  dsimp only [Rs.bind]
  rw [h3]
  dsimp only [nox,Rs.bind]
  cases b with
  | true =>
    obtain ⟨k',e3,h5,h6⟩:=bind_split h4
    obtain ⟨v',e4,h7,h8⟩:=bind_split h6
    cases h8
    dsimp only
    rw [h5]
    dsimp only [nox,Rs.bind]
    rw [h7]
    all_goals rfl
  | false=>cases h4
theorem dcompL_none {own : List Nat} {tg : D → M Unit} {tt : M Bool} {tk tv : M D} {d : D} {ds : List D} {acc : List (D × D)} {e e' : Ev} (h : ((tg d e).bind fun _ e1=>elD tt tk tv e1) = .ok none e') : dcompL own tg tt tk tv (d :: ds) acc e = dcompL own tg tt tk tv ds acc (wipeE e' own):=by
  obtain ⟨u,e1,h1,h2⟩:=bind_split h
  obtain ⟨b,e2,h3,h4⟩:=bind_split h2
  show (tg d e).bind _ = _
  rw [h1]
  dsimp only [Rs.bind]
  rw [h3]
  dsimp only [nox,Rs.bind]
  cases b with
  | true =>
    obtain ⟨k',e3,h5,h6⟩:=bind_split h4
    obtain ⟨v',e4,h7,h8⟩:=bind_split h6
    cases h8
  | false=>cases h4; rfl
theorem dc_sim {own : List Nat} {tg : D → M Unit} {tt : M Bool} {tk tv : M D} {f : D → R (Option (D × D))} (hx : allX Γc own = true) (hb : ∀ d,CJ (QA (fun z : Option (D × D)=>z) fun _=>Γc) Γc (tg d) (fun _ e1=>elD tt tk tv e1) (f d)) : ∀ (ds : List D) (acc : List (D × D)),∀ e,IsE Γc e → (QA (fun z : List (D × D)=>z) fun _=>Γc).rel (dcR f acc ds) (dcompL own tg tt tk tv ds acc e)
  | [],acc,e,he=>⟨e,rfl,he⟩
  | d :: ds,acc,e,he=>by
    have h:=hb d e he
    unfold dcR
    revert h
    cases f d with
    | bad=>intro _; trivial
    | exc x=>intro _; trivial
    | ok y =>
      rintro ⟨e',h1,h2⟩
      have h3:=h2.wipeX own hx
      cases y with
      | some kv =>
        obtain ⟨kk,v⟩:=kv
        rw [dcompL_some h1]
        show (QA (fun z : List (D × D)=>z) fun _=>Γc).rel (match isKey kk with | some _=>_ | none=>_) _
        cases isKey kk with
        | none=>trivial
        | some _=>exact dc_sim hx hb ds _ _ h3
      | none =>
        rw [dcompL_none h1]
        exact dc_sim hx hb ds _ _ h3
def dcompK (own : List Nat) (tg : D → M Unit) (tt : M Bool) (tk tv : M D) (ds : List D) (e1 : Ev) : Rs Pv:=(nox (dcompL own tg tt tk tv ds [] (wipeE e1 own))).bind fun kvs e2=>.ok (.o (.dict kvs)) (backE e1 e2 own)
theorem c_dcomp {own : List Nat} {it : M (List D)} {tg : D → M Unit} {tt : M Bool} {tk tv : M D} {κ : Pv → Ev → Rs γ} (k : CJ Q Γ it (fun ds e1=>(dcompK own tg tt tk tv ds e1).bind κ) r) : CJ Q Γ (dcompM own it tg tt tk tv) κ r:=fun e he=>by
  unfold dcompM
  rw [bind_bind]
  exact k e he
theorem k_dc {own : List Nat} {tg : D → M Unit} {tt : M Bool} {tk tv : M D} {ds : List D} {κ : Pv → Ev → Rs γ} {f : D → R (Option (D × D))} {r' : List (D × D) → R β} (Γc Γ' : List AS) (hc : wA Γ own = Γc) (hx : allX Γc own = true) (hG : bA Γ Γc own = Γ') (hb : ∀ d,CJ (QA (fun z : Option (D × D)=>z) fun _=>Γc) Γc (tg d) (fun _ e1=>elD tt tk tv e1) (f d)) (k : ∀ ys,KJ Q Γ' (κ (.o (.dict ys))) (r' ys)) : KJ Q Γ (fun e1=>(dcompK own tg tt tk tv ds e1).bind κ) ((dcR f [] ds).bnx r'):=fun e he=>by
  subst hc hG
  have h:=dc_sim hx hb ds [] (wipeE e own) (he.wipe own)
  dsimp only
  unfold dcompK
  rw [bind_bind]
  revert h
  cases dcR f [] ds with
  | bad=>intro _; exact Q.bad _
  | exc x=>intro _; exact Q.bad _
  | ok ys =>
    rintro ⟨e',h1,h2⟩
    rw [h1]
    exact k _ _ (he.back h2 own)
theorem c_elDy {tk tv : M D} {Q : Qr β (Option (D × D))} (k : CJ Q Γ tk (fun k e3=>(tv e3).bind fun v e4=>.ok (some (k,v)) e4) r) : CJ Q Γ (elD yesT tk tv) Rs.ok r:=fun e he=>by
  rw [bind_ok]
  exact k e he
end
end DL
end L2
namespace L2
namespace DL
open PySem PySem.Spec PyProof.Rows
def TxAt (P : Program) (w : World) (h : Heap) (a : Addr) (l : List Str) : Prop :=
  ∃ Dt : PySem.Froz.SD,h.get? a = some (PySem.Froz.sObj "set" Dt) ∧ PySem.Froz.TxOk P w Dt l ∧ Ris Dt.2.2.place.toList ∧ (w.params.followText "set-order" = true ∨ Dt.2.2.led = true)
theorem TxAt.at {P : Program} {w : World} {h h' : Heap} {a : Addr} {l : List Str} (T : TxAt P w h a l) (k : ∀ o,h.get? a = some o → h'.get? a = some o) : TxAt P w h' a l:=by
  obtain ⟨Dt,e,r⟩:=T
  exact ⟨Dt,k _ e,r⟩
theorem tailTx_ris {ep : Nat} {es : Array (Int × Value)} {t : SetTable} {wd : Bool} (r : Ris t.place.toList) : Ris (PySem.Froz.tailTx ep es t wd).2.2.place.toList:=by
  unfold PySem.Froz.tailTx
  split
  · exact relayAll_ris _ _ _
  · exact r
theorem tailTx_led {ep : Nat} {es : Array (Int × Value)} {t : SetTable} {wd : Bool} : (PySem.Froz.tailTx ep es t wd).2.2.led = t.led:=by
  unfold PySem.Froz.tailTx
  split
  · exact relayAll_led _ _ _
  · rfl
theorem addTx_ris (w : World) (k : Str) (u : Tok) (Dt : PySem.Froz.SD) (r : Ris Dt.2.2.place.toList) : Ris (PySem.Froz.addTx (hashStr w k) (.str k u) Dt).2.2.place.toList:=by
  have q:=layNew_ris Dt.2.2 Dt.1 (hashStr w k) (.str k u) r
  refine tailTx_ris ?_
  split <;> exact q
theorem addTx_led (w : World) (k : Str) (u : Tok) (Dt : PySem.Froz.SD) : (PySem.Froz.addTx (hashStr w k) (.str k u) Dt).2.2.led = Dt.2.2.led:=by
  have q:=layNew_led Dt.2.2 Dt.1 (hashStr w k) (.str k u)
  refine tailTx_led.trans ?_
  split <;> exact q
section
variable {P : Program} {w : World} {A : Around} {E : Value → Shared → Prop} {s : Shared} {a : Addr} {l : List Str}
theorem tx_add {k : Str} {u : Tok} {Q : Bool → Shared → Prop} (T : TxAt P w s.heap a l) (hb : l.length + 1 < scanBound)
    (h : ∀ b h',Heap.SameBut a s.heap h' → TxAt P w h' a (if k ∈ l then l else k :: l) → Q b { s with heap:=h' }) : wpAny (model P w) A (setAddHashed a (.str k u) (hashStr w k)) Q E s:=by
  obtain ⟨Dt,ho,F,r,hl⟩:=T
  by_cases hk : k ∈ l
  · rw [if_pos hk] at h
    have fin:=h false s.heap (Heap.SameBut.refl a s.heap) ⟨Dt,ho,F,r,hl⟩
    have hsz : Dt.1.size < scanBound:=by have:=F.sz; omega
    have hkey : (PySem.strKind P w).is k (.str k u) = true:=PySem.Froz.is_str k u
    obtain ⟨j,hj⟩ : ∃ j,List.findIdx? (fun e=>(PySem.strKind P w).is k e.2) Dt.1.toList = some j:=by
      obtain ⟨e,he,q⟩:=(F.mem k).mp hk
      cases c : List.findIdx? (fun e=>(PySem.strKind P w).is k e.2) Dt.1.toList with
      | some j=>exact ⟨j,rfl⟩
      | none =>
        have:=List.findIdx?_eq_none_iff.mp c e he
        rw [q] at this
        cases this
    unfold setAddHashed setAddHashedIn
    apply wpAny_holding
    apply wpAny_bind
    refine wpAny_setState_of (o:=PySem.Froz.sObj "set" Dt) ho rfl F.fit ?_
    have e1 : byScan (.str k u) Dt.1 = true:=byScan_of rfl hsz F.el
    simp only [e1,↓reduceIte]
    unfold setAddByScan
    apply wpAny_bind
    apply wpAny_bind
    apply wpAny_rule
    apply wpAny_bind
    refine wpAny_setScan_of (knd:=PySem.strKind P w) (o:=PySem.Froz.sObj "set" Dt) hkey ho rfl F.fit F.el ?_
    rw [hj]
    exact wpAny_pure (wpAny_pure fin)
  · rw [if_neg hk] at h
    refine PySem.Froz.add_x ho F hk hb (h true _ (Heap.SameBut.update s.heap a _) ?_)
    exact ⟨_,PySem.Froz.get_upd _ ho rfl,PySem.Froz.add_ok u F,addTx_ris w k u Dt r,hl.imp id fun z=>by rw [addTx_led]; exact z⟩
def metS : List Str → List Str → List Str
  | acc,[]=>acc
  | acc,x :: xs=>metS (if x ∈ acc then acc else x :: acc) xs
theorem metS_len : ∀ (xs acc : List Str),(metS acc xs).length ≤ acc.length + xs.length
  | [],acc=>by simp [metS]
  | x :: xs,acc=>by
    unfold metS
    split
    · have:=metS_len xs acc
      rw [List.length_cons]
      omega
    · have:=metS_len xs (x :: acc)
      rw [List.length_cons] at this ⊢
      omega
theorem metS_mem {y : Str} : ∀ (xs acc : List Str),y ∈ metS acc xs ↔ y ∈ acc ∨ y ∈ xs
  | [],acc=>by simp [metS]
  | x :: xs,acc=>by
    unfold metS
    rw [metS_mem xs]
    split
    · next h =>
      simp only [List.mem_cons]
      constructor
      · rintro (q | q)
        · exact .inl q
        · exact .inr (.inr q)
      · rintro (q | rfl | q)
        · exact .inl q
        · exact .inl h
        · exact .inr q
    · simp only [List.mem_cons]
      constructor
      · rintro ((q | q) | q)
        · exact .inr (.inl q)
        · exact .inl q
        · exact .inr (.inr q)
      · rintro (q | q | q)
        · exact .inl (.inr q)
        · exact .inl (.inl q)
        · exact .inr q
theorem metS_nodup : ∀ (xs acc : List Str),acc.Nodup → (metS acc xs).Nodup
  | [],acc,h=>h
  | x :: xs,acc,h=>by
    unfold metS
    apply metS_nodup xs
    split
    · exact h
    · next q=>exact List.nodup_cons.mpr ⟨q,h⟩
theorem metS_append : ∀ (xs ys acc : List Str),metS acc (xs ++ ys) = metS (metS acc xs) ys
  | [],ys,acc=>rfl
  | x :: xs,ys,acc=>metS_append xs ys _
theorem tx_loop {I : Addr} {fp wr : List Addr} {G : Array GenState → Array GenState → Prop} {n : Nat} {Pv : Nat → Value → Prop} {St : Nat → Shared → Prop} {R : Result → Shared → Prop}
    (W : WalksS P w A.in1 I fp wr G n Pv St) (S : Addr) (hSf : S ∉ fp) (xs : List Str) (hn : n = xs.length) (hb : xs.length + 1 < scanBound) (hv : ∀ i v,Pv i v → ∃ x t,xs[i]? = some x ∧ v = .str x t) :
    ∀ (k i : Nat) (s : Shared),i + k = n → St i s → TxAt P w s.heap S (metS [] (xs.take i)) →
      (∀ s',Moved (S :: wr) G s s' → TxAt P w s'.heap S (metS [] xs) → R (.ok (.ret .none)) s') → codeAny (model P w) A (.builtin "set.update.loop" ⟨[.ref S,.ref I],[]⟩) R s
  | 0,i,s,hk,st,T,hR=>by
    obtain rfl : i = n:=by omega
    rw [List.take_of_length_le (by omega)] at T
    have hSw : S ∉ wr:=fun q=>hSf (W.sub S q)
    apply codeAny_builtin PyProof.Rows.F.entry_set_update_loop
    rw [Around.under_plainId PyProof.Rows.F.plain_set_update_loop]
    apply wpAny_bind
    refine W.done s _ _ st fun s' hm=>?_
    exact wpAny_pure (hR s' (hm.mono fun b q=>List.mem_cons_of_mem S q) (T.at fun o=>hm.heap S o hSw))
  | k + 1,i,s,hk,st,T,hR=>by
    have hSw : S ∉ wr:=fun q=>hSf (W.sub S q)
    apply codeAny_builtin PyProof.Rows.F.entry_set_update_loop
    rw [Around.under_plainId PyProof.Rows.F.plain_set_update_loop]
    apply wpAny_bind
    refine W.item i s _ _ (by omega) st fun v s1 pv st1 hm=>?_
    obtain ⟨x,t,hx,rfl⟩:=hv i v pv
    have T1:=T.at fun o=>hm.heap S o hSw
    have hlen : (metS [] (xs.take i)).length + 1 < scanBound:=by
      have:=metS_len (xs.take i) []
      rw [List.length_take] at this
      simp at this
      omega
    dsimp only
    apply wpAny_bind
    apply wpAny_holding
    unfold setAdd
    apply wpAny_holding
    apply wpAny_bind
    refine (PySem.strKind P w).pyHash (k:=x) (PySem.Froz.is_str x t) ?_
    refine tx_add (s:={ s1 with toks:=s1.toks + 1 }) T1 hlen fun b h' hsb T2=>?_
    have T3 : TxAt P w h' S (metS [] (xs.take (i + 1))):=by
      rw [List.take_add_one,hx,metS_append]
      exact T2
    refine wpAny_pure ⟨plainId_quiet PyProof.Rows.F.plain_set_update_loop _,tx_loop W S hSf xs hn hb hv k (i + 1) _ (by omega) ?_ T3 fun s2 hm2 T4=>hR s2 ?_ T4⟩
    · exact W.frame _ s1 _ _ st1 (Nat.le_succ _) fun c hc o e=>by
        rw [hsb.2 c fun q=>hSf (q ▸ hc)]
        exact e
    · refine Moved.trans W.gtrans ((hm.mono fun c q=>List.mem_cons_of_mem S q).then_heap (Nat.le_succ _) fun c o hc e=>?_) hm2
      rw [hsb.2 c fun q=>hc (q ▸ List.mem_cons_self)]
      exact e
end
end DL
end L2
namespace L2
namespace DL
open PySem PySem.Spec PyProof.Rows
abbrev newSet (w : World) : Obj:={ cls:=.type "set",dict:=none,data:=.set #[] 0 (.fresh 0 0 (!w.params.followText "set-order")) }
theorem tx_new {P : Program} {w : World} {h : Heap} {a : Addr} (ho : h.get? a = some (newSet w)) : TxAt P w h a []:=by
  refine ⟨(#[],0,.fresh 0 0 (!w.params.followText "set-order")),ho,PySem.Froz.TxOk.nil rfl,List.Pairwise.nil,?_⟩
  show _ ∨ (!w.params.followText "set-order") = true
  cases w.params.followText "set-order" <;> simp
section
variable {P : Program} {w : World} {A : Around} {E : Value → Shared → Prop} {s : Shared}
def InitOk (P : Program) (w : World) (s : Shared) (xs : List Str) (r : Value) (s2 : Shared) : Prop:=r = .none ∧ ∃ h' tk,s2 = { s with heap:=h',toks:=tk } ∧ TxAt P w h' s.heap.objs.size (metS [] xs) ∧ ∀ b o,s.heap.get? b = some o → h'.get? b = some o
theorem set_call {l : Addr} {xs : List Str} {Q : Value → Shared → Prop}
    (hi : wpAny (model P w) A.in1.in1 (Builtin.«set.__init__» ⟨[.ref s.heap.objs.size,.ref l],[]⟩) (fun fl s2=>∃ r,fl = .done (.ret r) ∧ InitOk P w s xs r s2) E { s with heap:=s.heap.push (newSet w) })
    (h : ∀ (h' : Heap) (tk : Nat),TxAt P w h' s.heap.objs.size (metS [] xs) → (∀ b o,s.heap.get? b = some o → h'.get? b = some o) → Q (.ref s.heap.objs.size) { s with heap:=h',toks:=tk }) :
    wpAny (model P w) A (call (.type "set") [.ref l]) Q E s:=by
  have ⟨c,tl,hmro⟩:=PySem.F.called_set.mro
  have hmade:=PySem.F.called_set.made; have hsub:=PySem.F.called_set.sub
  apply wpAny_call; apply codeAny_of_tree
  show wpAny _ _ (callAny (.type "set") _) _ _ _
  refine wpAny_pure ⟨Code.quiet_builtin _ (by decide +kernel),?_⟩
  apply codeAny_builtin PySem.F.entry_type_call
  rw [Around.under_plain (weight_type_call_type "set" [.ref l] []) (by rfl)]
  have h1:=PySem.F.called_set.notType; have h2:=PySem.F.called_set.canCreate; have hct:=PySem.F.typeCall_set_1 (.ref l)
  repeat (any_goals (first | assumption | wp_step))
  refine codeAny_mono (code_set_led1 (.ref l) (E:=E) (Q₁:=fun ob s1=>ob = .ref s.heap.objs.size ∧ s1 = { s with heap:=s.heap.push (newSet w) }) ⟨rfl,rfl⟩) fun r s1 hr=>?_
  rcases r with e | fl
  · exact hr
  cases fl <;> try exact hr.elim
  obtain ⟨rfl,rfl⟩:=hr
  have hT : Shared.TypeIs { s with heap:=s.heap.push (newSet w) } (.ref s.heap.objs.size) "set":=⟨newSet w,Heap.get?_push_size _ rfl,rfl⟩
  have hli:=PySem.F.called_set.init.lookup; have hbi:=PySem.F.called_set.init.bind (.ref s.heap.objs.size)
  repeat (any_goals (first | assumption | wp_step))
  refine codeAny_mono (codeAny_call_builtin (R:=wants (InitOk P w s xs) E) PySem.F.called_set.init.plain PySem.F.entry_set_init (check_set_init_1 hT ?_)) fun r2 s2 hr2=>?_
  · refine wpAny_mono hi (fun fl s2 q=>?_) fun _ _ z=>z
    obtain ⟨r,rfl,q⟩:=q
    exact q
  · rcases r2 with e | fl
    · exact hr2
    cases fl <;> try exact hr2.elim
    obtain ⟨rfl,h',tk,rfl,T,hk⟩:=hr2
    repeat (any_goals (first | assumption | wp_step))
    exact h h' tk T hk
end
end DL
end L2
namespace L2
namespace DL
open PySem PySem.Spec PyProof.Rows
theorem perm_of_sub : ∀ (l ys : List Str),l.Nodup → (∀ x ∈ l,x ∈ ys) → ys.length ≤ l.length → l.Perm ys
  | [],ys,_,_,h=>by
    obtain rfl:=List.eq_nil_of_length_eq_zero (Nat.le_zero.mp h)
    exact .refl _
  | x :: l,ys,nd,sub,h=>by
    have hx:=sub x (by simp)
    have nd2:=List.nodup_cons.mp nd
    refine .trans (.cons x (perm_of_sub l (ys.erase x) nd2.2 (fun y hy=>?_) ?_)) (List.perm_cons_erase hx).symm
    · exact (List.mem_erase_of_ne (fun e : y = x=>nd2.1 (e ▸ hy))).mpr (sub y (by simp [hy]))
    · have:=List.length_erase_of_mem hx
      rw [List.length_cons] at h
      omega
section
variable {P : Program} {w : World} {A : Around} {E : Value → Shared → Prop} {s : Shared}
theorem strs_ix {items : Array Value} {xs : List Str} (hi : StrsAre items.toList xs) (i : Nat) (v : Value) (e : items[i]? = some v) : ∃ x t,xs[i]? = some x ∧ v = .str x t:=by
  have hl : xs.length = items.size:=by rw [← StrsAre.len_eq hi,Array.length_toList]
  have hlt : i < xs.length:=by rw [hl]; exact (Array.getElem?_eq_some_iff.mp e).1
  obtain ⟨t,q⟩:=SS.strs_at hi i v (by rw [Array.getElem?_toList]; exact e)
  refine ⟨xs[i],t,List.getElem?_eq_getElem hlt,?_⟩
  rw [q,List.getD_eq_getElem?_getD,List.getElem?_eq_getElem hlt]
  rfl
theorem init_end {l I : Addr} {xs : List Str} {o2 : Obj} {s' : Shared} (hI : I = (s.heap.push (newSet w)).objs.size) (hm : Moved (s.heap.objs.size :: [I]) (fun a b=>b = a) { s with heap:=(s.heap.push (newSet w)).push o2 } s') (T : TxAt P w s'.heap s.heap.objs.size (metS [] xs)) :
    InitOk P w s xs .none s':=by
  obtain ⟨h',g',d',tk',os'⟩:=s'
  have eg : g' = s.gens:=hm.gens
  have ed : d' = s.drawn:=hm.drawn
  have eo : os' = s.os:=hm.os
  subst eg ed eo
  refine ⟨rfl,h',tk',rfl,T,fun b o e=>hm.heap b o ?_ (Heap.get?_push_of_some _ (Heap.get?_push_of_some _ e))⟩
  have hb : b < s.heap.objs.size:=Heap.lt_size e
  rw [hI,Heap.size_push]
  intro q
  rcases List.mem_cons.mp q with q | q
  · exact Nat.ne_of_lt hb q
  · exact Nat.ne_of_lt (Nat.lt_succ_of_lt hb) (List.mem_singleton.mp q)
theorem init_list {l : Addr} {items : Array Value} {xs : List Str} (hh : A.handled = none) (hl : s.heap.IsList l items) (hi : StrsAre items.toList xs) (hb : xs.length + 1 < scanBound) :
    wpAny (model P w) A (Builtin.«set.__init__» ⟨[.ref s.heap.objs.size,.ref l],[]⟩) (fun fl s2=>∃ r,fl = .done (.ret r) ∧ InitOk P w s xs r s2) E { s with heap:=s.heap.push (newSet w) }:=by
  have hsz : items.size = xs.length:=by rw [← StrsAre.len_eq hi,Array.length_toList]
  have hlS : l < s.heap.objs.size:=by obtain ⟨o,e,_⟩:=hl; exact Heap.lt_size e
  have hl1 : (s.heap.push (newSet w)).IsList l items:=hl.push _
  obtain ⟨⟨oc,od,odt,osl⟩,hol',hcl,nl,hdl⟩:=id hl1
  simp only at hcl hdl
  subst hcl hdl
  have hsls:=PySem.F.sub_list_set; have hslf:=PySem.F.sub_list_frozenset
  have hne : (Value.type "list" == Value.type "dict") = false:=by decide
  unfold Builtin.«set.__init__» noKeywords Builtin.Frozenset.updateFrom
  generalize hPI : pyIter = PI
  wp_walk
  subst hPI
  apply wpAny_pyIter_list hl1
  apply wpAny_bind; apply wpAny_runValue
  have hneI : l ≠ (s.heap.push (newSet w)).objs.size:=by rw [Heap.size_push]; exact Nat.ne_of_lt (Nat.lt_succ_of_lt hlS)
  refine tx_loop (P:=P) (w:=w) (Walks.list (by simp [hh]) _ l hneI items).toS s.heap.objs.size ?_ xs hsz hb (strs_ix hi) items.size 0 _ (by omega) ⟨⟨_,Heap.get?_push_size _ rfl,rfl,rfl⟩,hl1.push _⟩ ?_ fun s' hm T=>?_
  · rw [Heap.size_push]
    intro q
    rcases List.mem_cons.mp q with q | q
    · exact Nat.ne_of_lt (Nat.lt_succ_self _) q
    · exact Nat.ne_of_lt hlS (List.mem_singleton.mp q).symm
  · exact tx_new (Heap.get?_push_of_some _ (Heap.get?_push_size _ rfl))
  · refine wpAny_pure ?_
    exact wpAny_pure ⟨_,rfl,init_end (l:=l) rfl hm T⟩
theorem init_tup {l : Addr} {items : Array Value} {xs : List Str} (hh : A.handled = none) (hl : s.heap.IsTuple l items) (hi : StrsAre items.toList xs) (hb : xs.length + 1 < scanBound) :
    wpAny (model P w) A (Builtin.«set.__init__» ⟨[.ref s.heap.objs.size,.ref l],[]⟩) (fun fl s2=>∃ r,fl = .done (.ret r) ∧ InitOk P w s xs r s2) E { s with heap:=s.heap.push (newSet w) }:=by
  have hsz : items.size = xs.length:=by rw [← StrsAre.len_eq hi,Array.length_toList]
  have hlS : l < s.heap.objs.size:=by obtain ⟨o,e,_⟩:=hl; exact Heap.lt_size e
  have hl1 : (s.heap.push (newSet w)).IsTuple l items:=hl.push _
  obtain ⟨⟨oc,od,odt,osl⟩,hol',hcl,nl,hdl⟩:=id hl1
  simp only at hcl hdl
  subst hcl hdl
  have hsls:=PySem.F.sub_tuple_set; have hslf:=PySem.F.sub_tuple_frozenset
  have hne : (Value.type "tuple" == Value.type "dict") = false:=by decide
  unfold Builtin.«set.__init__» noKeywords Builtin.Frozenset.updateFrom
  generalize hPI : pyIter = PI
  wp_walk
  subst hPI
  apply wpAny_pyIter_tuple hl1
  apply wpAny_bind; apply wpAny_runValue
  have hneI : l ≠ (s.heap.push (newSet w)).objs.size:=by rw [Heap.size_push]; exact Nat.ne_of_lt (Nat.lt_succ_of_lt hlS)
  refine tx_loop (P:=P) (w:=w) (Walks.tuple (by simp [hh]) _ l hneI items).toS s.heap.objs.size ?_ xs hsz hb (strs_ix hi) items.size 0 _ (by omega) ⟨⟨_,Heap.get?_push_size _ rfl,rfl,rfl⟩,hl1.push _⟩ ?_ fun s' hm T=>?_
  · rw [Heap.size_push]
    intro q
    rcases List.mem_cons.mp q with q | q
    · exact Nat.ne_of_lt (Nat.lt_succ_self _) q
    · exact Nat.ne_of_lt hlS (List.mem_singleton.mp q).symm
  · exact tx_new (Heap.get?_push_of_some _ (Heap.get?_push_size _ rfl))
  · refine wpAny_pure ?_
    exact wpAny_pure ⟨_,rfl,init_end (l:=l) rfl hm T⟩
theorem tx_collect {a : Addr} {l : List Str} {Q : List Value → Shared → Prop} (hh : A.handled = none) (T : TxAt P w s.heap a l) (nd : l.Nodup) (hb : l.length < scanBound)
    (h : ∀ s' out ys,(∀ b o,s.heap.get? b = some o → s'.heap.get? b = some o) → s.heap.objs.size ≤ s'.heap.objs.size → s'.gens = s.gens → s'.os = s.os → StrsAre out ys → ys.Perm l → Q out s') : wpAny (model P w) A (collect (.ref a)) Q E s:=by
  obtain ⟨Dt,ho,F,r,hl⟩:=T
  have e:=F.sz
  refine collect_set hh ⟨_,ho,rfl,rfl⟩ F.fit (by omega) r hl fun s' out k1 k2 k3 k4 pm=>?_
  have str : ∀ v ∈ out,∃ x t,v = .str x t:=fun v hv=>by
    obtain ⟨en,he,q⟩:=List.mem_map.mp (pm.mem_iff.mp hv)
    obtain ⟨⟨k,hk,_⟩,_⟩:=F.el en he
    have hk : Value.isStrOf k en.2 = true:=hk
    rw [q] at hk
    obtain ⟨t,e⟩:=Value.isStrOf_shape hk
    exact ⟨k,t,e⟩
  have mk : ∀ out : List Value,(∀ v ∈ out,∃ x t,v = Value.str x t) → ∃ ys,StrsAre out ys:=fun out=>by
    induction out with
    | nil=>exact fun _=>⟨[],.nil⟩
    | cons v out ih =>
      intro q
      obtain ⟨x,t,rfl⟩:=q v (by simp)
      obtain ⟨ys,hy⟩:=ih fun u hu=>q u (by simp [hu])
      exact ⟨x :: ys,.cons x t hy⟩
  obtain ⟨ys,hy⟩:=mk out str
  refine h s' out ys k1 k2 k3 k4 hy ?_
  have hlen : ys.length = l.length:=by rw [← StrsAre.len_eq hy,pm.length_eq,List.length_map,Array.length_toList,e]
  have memv : ∀ {out : List Value} {ys : List Str},StrsAre out ys → ∀ y ∈ ys,∃ t,Value.str y t ∈ out:=fun {out ys} q=>by
    induction q with
    | nil=>intro y hy; cases hy
    | cons x t _ ih =>
      intro y hy
      rcases List.mem_cons.mp hy with rfl | hy
      · exact ⟨t,by simp⟩
      · obtain ⟨t',q⟩:=ih y hy
        exact ⟨t',by simp [q]⟩
  have sub : ∀ y ∈ l,y ∈ ys:=fun y hyl=>by
    obtain ⟨en,he,q⟩:=(F.mem y).mp hyl
    have hv : en.2 ∈ out:=pm.mem_iff.mpr (List.mem_map.mpr ⟨en,he,rfl⟩)
    have q : Value.isStrOf y en.2 = true:=q
    have back : ∀ {out : List Value} {ys : List Str},StrsAre out ys → ∀ v ∈ out,Value.isStrOf y v = true → y ∈ ys:=fun {out ys} z=>by
      induction z with
      | nil=>intro v hv; cases hv
      | cons x t _ ih =>
        intro v hv hs
        rcases List.mem_cons.mp hv with rfl | hv
        · obtain ⟨t2,e⟩:=Value.isStrOf_shape hs
          cases e
          exact List.mem_cons_self
        · exact List.mem_cons_of_mem _ (ih v hv hs)
    exact back hy _ hv q
  exact (perm_of_sub l ys nd sub (by omega)).symm
end
end DL
end L2
namespace L2
namespace DL
open PySem PySem.Spec PyProof.Rows
section
variable {α β γ σ : Type}
theorem o1_some {h : D → Option Xv} {x : D} {v : Xv} (e : h x = some v) : o1 h x = .ok v.dat:=by unfold o1; rw [e]
theorem iI_ok {f : Int → Int → D} {c : Int → Int → Bool} {i j : Int} (h : c i j = true) : iI f c (.int i) (.int j) = some (.s (f i j)):=by
  show (if c i j = true then _ else _) = _
  rw [if_pos h]
theorem o2_mod {i j : Int} (h : 0 < j) : o2 modD (.int i) (.int j) = .ok (.int (i % j)):=o2_some (iI_ok (decide_eq_true h))
theorem o2_fdiv {i j : Int} (h : 0 < j) (h1 : j < 1073741824) : o2 fdivD (.int i) (.int j) = .ok (.int (i / j)):=o2_some (iI_ok (by unfold divOk; simp [h,h1]))
theorem o2_mulr {i j : Int} (h : -(2 ^ 64) < j ∧ j < 2 ^ 64) : o2 mulD (.int i) (.int j) = .ok (.int (i * j)):=by
  refine o2_some (v:=.s (.int (i * j))) ?_
  show (if mulOk i j = true then _ else _) = _
  rw [if_pos]
  unfold mulOk
  rw [decide_eq_true h,Bool.or_true]
theorem o2_mull {i j : Int} (h : -(2 ^ 64) < i ∧ i < 2 ^ 64) : o2 mulD (.int i) (.int j) = .ok (.int (i * j)):=by
  refine o2_some (v:=.s (.int (i * j))) ?_
  show (if mulOk i j = true then _ else _) = _
  rw [if_pos]
  unfold mulOk
  rw [decide_eq_true h,Bool.true_or]
theorem o2_pow18 : o2 powD (.int 10) (.int 18) = .ok (.int 1000000000000000000):=by
  refine o2_some (v:=.s (.int 1000000000000000000)) ?_
  show iI _ _ _ _ = _
  rw [iI_ok (by decide)]
  rfl
theorem o2_addl {xs ys : List D} (h : xs.length + ys.length ≤ 16777216) : o2 addD (.list xs) (.list ys) = .ok (.list (xs ++ ys)):=by
  refine o2_some (v:=.o (.list (xs ++ ys))) ?_
  show (if _ then _ else _) = _
  rw [if_pos]
  rw [sizeLine_eq]
  exact h
theorem o2_addt {xs ys : List D} (h : xs.length + ys.length ≤ 16777216) : o2 addD (.tuple xs) (.tuple ys) = .ok (.tuple (xs ++ ys)):=by
  refine o2_some (v:=.s (.tuple (xs ++ ys))) ?_
  show (if _ then _ else _) = _
  rw [if_pos]
  rw [sizeLine_eq]
  exact h
theorem apR_ok {xs : List D} {d : D} (h : xs.length < 16777216) : apR xs d = .ok (.list (xs ++ [d])):=by
  unfold apR
  rw [if_pos (by rw [sizeLine_eq]; exact h)]
theorem rngR_ok {n : Nat} (h : n ≤ 16777216) : rngR (.int n) = .ok (upTo 0 n):=by
  unfold rngR
  have : rngOk (n : Int) = true:=by
    unfold rngOk
    rw [decide_eq_true (show -(2 ^ 62) ≤ (n : Int) by omega),decide_eq_true (show (n : Int) ≤ 16777216 by omega)]
    rfl
  dsimp only
  rw [if_pos this,Int.toNat_natCast]
theorem ixN_nat {n j : Nat} (h : j < n) : ixN n (j : Int) = some j:=by
  unfold ixN
  rw [if_pos (by omega),if_pos (by omega)]
  rfl
theorem atI_nat {xs : List α} {j : Nat} {x : α} (h : xs[j]? = some x) : atI xs (j : Int) = some x:=by
  have hj : j < xs.length:=(List.getElem?_eq_some_iff.mp h).1
  unfold atI
  rw [ixN_nat hj]
  exact h
theorem o2_ixl {xs : List D} {i : Int} {x : D} (h0 : 0 ≤ i) (h : xs[i.toNat]? = some x) : o2 ixD (.list xs) (.int i) = .ok x:=by
  have e : atI xs i = some x:=by
    have:=atI_nat h
    rwa [Int.toNat_of_nonneg h0] at this
  show (match sOf (atI xs i) with | some v=>R.ok v.dat | none=>.bad) = _
  rw [e]; rfl
theorem o2_ixm1 {xs : List D} {x : D} : o2 ixD (.list (xs ++ [x])) (.int (-1)) = .ok x:=by
  have e : atI (xs ++ [x]) (-1) = some x:=by
    unfold atI ixN
    rw [if_neg (by decide),List.length_append,List.length_singleton,if_pos (by omega)]
    show (xs ++ [x])[(-1 + ((xs.length + 1 : Nat) : Int)).toNat]? = _
    rw [show (-1 + ((xs.length + 1 : Nat) : Int)).toNat = xs.length by omega]
    simp
  show (match sOf (atI (xs ++ [x]) (-1)) with | some v=>R.ok v.dat | none=>.bad) = _
  rw [e]; rfl
theorem seR_l {xs : List D} {i : Int} {d : D} (h0 : 0 ≤ i) (h : i < xs.length) : seR (.list xs) (.int i) d = .ok (.list (xs.set i.toNat d)):=by
  have e : ixN xs.length i = some i.toNat:=by
    have:=ixN_nat (n:=xs.length) (j:=i.toNat) (by omega)
    rwa [Int.toNat_of_nonneg h0] at this
  show (match ixN xs.length i with | some j=>R.ok (PyData.list (xs.set j d)) | none=>.bad) = _
  rw [e]
theorem poR_ok {xs : List D} {i : Int} {x : D} (h0 : 0 ≤ i) (h : xs[i.toNat]? = some x) : poR xs (.int i) = .ok (x,.list (xs.eraseIdx i.toNat)):=by
  have hj : i.toNat < xs.length:=(List.getElem?_eq_some_iff.mp h).1
  have e : ixN xs.length i = some i.toNat:=by
    have:=ixN_nat (n:=xs.length) (j:=i.toNat) hj
    rwa [Int.toNat_of_nonneg h0] at this
  unfold poR
  dsimp only
  rw [e]
  dsimp only
  rw [h]
theorem upTo_succ (lo : Int) (n : Nat) : upTo lo (n + 1) = .int lo :: upTo (lo + 1) n:=rfl
theorem upTo_map : ∀ (n : Nat) (lo : Int),upTo lo n = (List.range n).map fun j=>.int (lo + j)
  | 0,lo=>rfl
  | n + 1,lo=>by
    rw [upTo_succ,upTo_map n,List.range_succ_eq_map,List.map_cons,List.map_map]
    simp [Function.comp_def]
    intro a _
    omega
theorem upTo0_map (n : Nat) : upTo 0 n = (List.range n).map fun j=>.int (j : Int):=by
  rw [upTo_map]
  simp
end
theorem boolsD_all : ∀ (l : List Bool),boolsD (l.map .bool) = some l
  | []=>rfl
  | b :: l=>by
    show (boolsD (l.map .bool)).map _ = _
    rw [boolsD_all l]; rfl
theorem o1_all (l : List Bool) : o1 allD (.list (l.map .bool)) = .ok (.bool (l.all id)):=by
  refine o1_some (v:=.s (.bool (l.all id))) ?_
  show (boolsD _).map _ = _
  rw [boolsD_all]; rfl
theorem o1_allT {l : List D} (h : ∀ d ∈ l,d = .bool true) : o1 allD (.list l) = .ok (.bool true):=by
  have : l = (List.replicate l.length true).map .bool:=by
    rw [List.map_replicate]
    exact List.eq_replicate_iff.mpr ⟨rfl,h⟩
  rw [this,o1_all]
  simp
theorem erase_perm {α : Type} : ∀ (l : List α) (i : Nat) (h : i < l.length),(l[i] :: l.eraseIdx i).Perm l
  | a :: l,0,_=>List.Perm.refl _
  | a :: l,i + 1,h=>by
    rw [List.getElem_cons_succ,List.eraseIdx_cons_succ]
    exact (List.Perm.swap a _ _).trans ((erase_perm l i (by simpa using h)).cons a)
section
variable {α : Type} (enc : α → D)
def insE (x : α) : List α → List α
  | []=>[x]
  | y :: r=>if dLe (enc x) (enc y) then x :: y :: r else y :: insE x r
def sortE : List α → List α
  | []=>[]
  | x :: r=>insE enc x (sortE r)
theorem ins_map (x : α) : ∀ l : List α,ins (enc x) (l.map enc) = (insE enc x l).map enc
  | []=>rfl
  | y :: r=>by
    show (if dLe (enc x) (enc y) = true then _ else _) = List.map enc (if dLe (enc x) (enc y) = true then _ else _)
    split
    · rfl
    · show _ :: ins (enc x) (r.map enc) = _
      rw [ins_map x r]
      rfl
theorem isort_map : ∀ l : List α,isort (l.map enc) = (sortE enc l).map enc
  | []=>rfl
  | x :: r=>by
    show ins (enc x) (isort (r.map enc)) = _
    rw [isort_map r,ins_map]
    rfl
theorem insE_perm (x : α) : ∀ l : List α,(insE enc x l).Perm (x :: l)
  | []=>List.Perm.refl _
  | y :: r=>by
    unfold insE
    split
    · exact List.Perm.refl _
    · exact ((insE_perm x r).cons y).trans (List.Perm.swap x y r)
theorem sortE_perm : ∀ l : List α,(sortE enc l).Perm l
  | []=>List.Perm.refl _
  | x :: r=>(insE_perm enc x (sortE enc r)).trans ((sortE_perm r).cons x)
theorem sortE_sorted (l : List α) : (sortE enc l).Pairwise (fun a b=>dLe (enc a) (enc b) = true):=by
  have h:=isort_sorted (l.map enc)
  rw [isort_map] at h
  rw [List.pairwise_map] at h
  exact h
def InjK : Prop:=∀ a b,PySem.W.keyToks (enc a) = PySem.W.keyToks (enc b) → a = b
theorem dLe_anti {x y : D} (h1 : dLe x y = true) (h2 : dLe y x = true) : PySem.W.keyToks x = PySem.W.keyToks y:=by
  unfold dLe PySem.W.dataLt at h1 h2
  rw [Bool.not_eq_true'] at h1 h2
  exact lex_total _ _ h2 h1
variable {enc}
theorem sorted_unique (inj : InjK enc) {l l' : List α} (p : l.Perm l') (h : l.Pairwise fun a b=>dLe (enc a) (enc b) = true) (h' : l'.Pairwise fun a b=>dLe (enc a) (enc b) = true) : l = l' :=
  List.Perm.eq_of_pairwise (le:=fun a b=>dLe (enc a) (enc b) = true) (fun a b _ _ h1 h2=>inj a b (dLe_anti h1 h2)) h h' p
theorem sortE_eq (inj : InjK enc) {l l' : List α} (p : l.Perm l') : sortE enc l = sortE enc l' :=
  sorted_unique inj ((sortE_perm enc l).trans (p.trans (sortE_perm enc l').symm)) (sortE_sorted enc l) (sortE_sorted enc l')
theorem sortE_self (inj : InjK enc) {l : List α} (h : l.Pairwise fun a b=>dLe (enc a) (enc b) = true) : sortE enc l = l :=
  sorted_unique inj (sortE_perm enc l) (sortE_sorted enc l) h
end
def sLe (a b : Str) : Bool:=dLe (.str a) (.str b)
abbrev sortS : List Str → List Str:=sortE PyData.str
theorem inj_str : InjK PyData.str:=fun a b h=>by
  simp only [PySem.W.keyToks,List.cons.injEq,Sum.inr.injEq,and_true] at h
  exact PySem.W.str_of_cps h
theorem isort_strs (l : List Str) : isort (sts l) = sts (sortS l):=isort_map _ l
theorem sortS_perm (l : List Str) : (sortS l).Perm l:=sortE_perm _ l
theorem sortS_sorted (l : List Str) : (sortS l).Pairwise (fun a b=>sLe a b = true):=sortE_sorted _ l
theorem shaped_str {x : Str} (h : PyData.strOk x = true) : SeqAt.shaped (.str x) = true:=by simp [SeqAt.shaped,PyData.canLay0,PyData.depth,h]
abbrev OkS (l : List Str) : Prop:=∀ x ∈ l,PyData.strOk x = true
theorem sortOk_strs {l : List Str} (ok : OkS l) : sortOk (sts l) = true:=by
  unfold sortOk
  rw [Bool.and_eq_true,Bool.and_eq_true]
  refine ⟨List.all_eq_true.mpr fun d hd=>List.all_eq_true.mpr fun d' hd'=>?_,Bool.or_eq_true_iff.mpr (.inr (List.all_eq_true.mpr fun d hd=>?_)),List.all_eq_true.mpr fun d hd=>?_⟩
  · obtain ⟨x,rfl,_⟩:=mem_strs hd
    obtain ⟨y,rfl,_⟩:=mem_strs hd'
    rfl
  · obtain ⟨x,rfl,_⟩:=mem_strs hd
    rfl
  · obtain ⟨x,rfl,hx⟩:=mem_strs hd
    exact shaped_str (ok x hx)
theorem o1_sortl {l : List Str} (ok : OkS l) : o1 sortD (.list (sts l)) = .ok (.list (sts (sortS l))):=by
  refine o1_some (v:=.o (.list (sts (sortS l)))) ?_
  show (if sortOk (sts l) = true then _ else _) = _
  rw [if_pos (sortOk_strs ok),isort_strs]
theorem perm_strs {ds : List D} {l : List Str} (h : ds.Perm (sts l)) : ∃ l',ds = sts l' ∧ l'.Perm l:=by
  have all : ∀ ds : List D,(∀ d ∈ ds,∃ x,d = .str x) → ∃ l',ds = sts l':=by
    intro ds
    induction ds with
    | nil=>intro _; exact ⟨[],rfl⟩
    | cons d ds ih =>
      intro h
      obtain ⟨x,rfl⟩:=h d (by simp)
      obtain ⟨l',rfl⟩:=ih fun y hy=>h y (by simp [hy])
      exact ⟨x :: l',rfl⟩
  obtain ⟨l',rfl⟩:=all ds fun d hd=>by
    obtain ⟨x,e,_⟩:=mem_strs (h.mem_iff.mp hd)
    exact ⟨x,e⟩
  refine ⟨l',rfl,?_⟩
  have h2:=h.filterMap fun d=>match d with
    | .str x=>some x
    | _=>none
  have e : ∀ l : List Str,(sts l).filterMap (fun d=>match d with
    | .str x=>some x
    | _=>none) = l:=by
    intro l
    induction l with
    | nil=>rfl
    | cons x l ih=>exact congrArg (x :: ·) ih
  rw [e,e] at h2
  exact h2
theorem strs_split {a b : List D} {l : List Str} (h : a ++ b = sts l) : ∃ x y,a = sts x ∧ b = sts y ∧ l = x ++ y:=by
  obtain ⟨x,y,h1,h2,h3⟩:=List.map_eq_append_iff.mp h.symm
  exact ⟨x,y,h2.symm,h3.symm,h1⟩
theorem cut_take {l : List Str} {j : Int} (h : 0 ≤ j) : o1 (fun d=>cutD d none (some j)) (.list (sts l)) = .ok (.list (sts (l.take j.toNat))):=by
  have : cutL (sts l) none (some j) = sts (l.take j.toNat):=by
    unfold cutL
    rw [HT.sIx_none,show j = ((j.toNat : Nat) : Int) by omega,HT.sIx_nat,List.drop_zero,Nat.sub_zero,Int.toNat_natCast]
    show _ = (l.take j.toNat).map _
    rw [List.map_take]
    exact List.take_eq_take_iff.mpr (by simp)
  show R.ok (PyData.list (cutL (sts l) none (some j))) = _
  rw [this]
section
variable {α : Type} {g : α → D}
theorem kv_noany {y : List (Str × α)} {a : Str} (h : a ∉ y.map (·.1)) : ((kvD g y).any fun p=>kEq p.1 (.str a)) = false:=by
  unfold kvD
  rw [List.any_map]
  apply Bool.eq_false_iff.mpr
  intro q
  obtain ⟨p,hp,e⟩:=List.any_eq_true.mp q
  have e : (p.1 == a) = true:=e
  exact h (List.mem_map.mpr ⟨p,hp,eq_of_beq e⟩)
theorem putD_new {y : List (Str × α)} {a : Str} {x : α} (h : a ∉ y.map (·.1)) : putD (kvD g y) (.str a) (g x) = kvD g (y ++ [(a,x)]):=by
  unfold putD
  rw [kv_noany h]
  unfold kvD
  rw [List.map_append]
  rfl
theorem mergeD_new : ∀ (z y : List (Str × α)),((y ++ z).map (·.1)).Nodup → mergeD (kvD g y) (kvD g z) = kvD g (y ++ z)
  | [],y,_=>by rw [List.append_nil]; rfl
  | (a,x) :: z,y,h=>by
    have ha : a ∉ y.map (·.1):=fun q=>by
      rw [List.map_append,List.map_cons] at h
      have:=(List.nodup_append.mp h).2.2 a q a (by simp)
      exact this rfl
    show mergeD (putD (kvD g y) (.str a) (g x)) (kvD g z) = _
    rw [putD_new ha,mergeD_new z (y ++ [(a,x)]) (by rw [List.append_assoc]; exact h),List.append_assoc]
    rfl
theorem pairs_kv : ∀ y : List (Str × α),pairs (y.map fun p=>.tuple [.str p.1,g p.2]) = some (kvD g y)
  | []=>rfl
  | (a,x) :: y=>by
    show (pairs (y.map fun p=>.tuple [.str p.1,g p.2])).map _ = _
    rw [pairs_kv y]
    rfl
theorem o1_dictl {y : List (Str × α)} (h : (y.map (·.1)).Nodup) : o1 dictD (.list (y.map fun p=>.tuple [.str p.1,g p.2])) = .ok (.dict (kvD g y)):=by
  refine o1_some (v:=.o (.dict (kvD g y))) ?_
  show (pairs _).map _ = _
  rw [pairs_kv]
  show some (Xv.o (.dict (mergeD (kvD g []) (kvD g y)))) = _
  rw [mergeD_new y [] (by simpa using h)]
  rfl
theorem o1_dictt {y : List (Str × α)} (h : (y.map (·.1)).Nodup) : o1 dictD (.tuple (y.map fun p=>.tuple [.str p.1,g p.2])) = .ok (.dict (kvD g y)):=by
  refine o1_some (v:=.o (.dict (kvD g y))) ?_
  show (pairs _).map _ = _
  rw [pairs_kv]
  show some (Xv.o (.dict (mergeD (kvD g []) (kvD g y)))) = _
  rw [mergeD_new y [] (by simpa using h)]
  rfl
theorem dcR_new {β : Type} {f : β → R (Option (D × D))} {ky : β → Str} {vl : β → α} : ∀ (l : List β) (acc : List (Str × α)),(∀ x ∈ l,f x = .ok (some (.str (ky x),g (vl x)))) → ((acc ++ l.map fun x=>(ky x,vl x)).map (·.1)).Nodup → dcR f (kvD g acc) l = .ok (kvD g (acc ++ l.map fun x=>(ky x,vl x)))
  | [],acc,_,_=>by simp [dcR]
  | x :: l,acc,h,nd=>by
    have ha : ky x ∉ acc.map (·.1):=fun q=>by
      rw [List.map_append,List.map_cons] at nd
      have:=(List.nodup_append.mp nd).2.2 (ky x) q (ky x) (by simp)
      exact this rfl
    rw [dcR,h x (by simp)]
    show dcR f (putD (kvD g acc) (.str (ky x)) (g (vl x))) l = _
    rw [putD_new ha,dcR_new l (acc ++ [(ky x,vl x)]) (fun y hy=>h y (by simp [hy])) (by rw [List.append_assoc]; exact nd),List.append_assoc]
    rfl
theorem dcR_kv {β : Type} {f : β → R (Option (D × D))} {ky : β → Str} {vl : β → α} {l : List β} (h : ∀ x ∈ l,f x = .ok (some (.str (ky x),g (vl x)))) (nd : (l.map ky).Nodup) : dcR f [] l = .ok (kvD g (l.map fun x=>(ky x,vl x))):=by
  have:=dcR_new (g:=g) l [] h (by simpa [List.map_map,Function.comp_def] using nd)
  simpa [kvD] using this
theorem o1_sortkv {y : List (Str × α)} (ok : OkS (y.map (·.1))) : o1 sortD (.dict (kvD g y)) = .ok (.list (sts (sortS (y.map (·.1))))):=by
  refine o1_some (v:=.o (.list (sts (sortS (y.map (·.1)))))) ?_
  show (if (!nkv (kvD g y) && sortOk ((kvD g y).map (·.1))) = true then some (Xv.o (.list (isort ((kvD g y).map (·.1))))) else _) = _
  rw [kv_keys,nkv_kv,Bool.not_false,Bool.true_and,if_pos (sortOk_strs ok),isort_strs]
end
section
variable {α : Type}
theorem lk_some {y : List (Str × α)} {a : Str} {v : α} (h : lk y a = some v) : (a,v) ∈ y:=by
  unfold lk at h
  cases q : y.find? fun p=>p.1 == a with
  | none=>rw [q] at h; cases h
  | some p =>
    rw [q] at h
    cases h
    have h1:=List.find?_some q
    have h2:=List.mem_of_find?_eq_some q
    have h1 : (p.1 == a) = true:=h1
    rw [← eq_of_beq h1]
    exact h2
theorem lk_mem {y : List (Str × α)} {a : Str} {v : α} (nd : (y.map (·.1)).Nodup) (h : (a,v) ∈ y) : lk y a = some v:=by
  induction y with
  | nil=>cases h
  | cons p y ih =>
    rw [List.map_cons,List.nodup_cons] at nd
    unfold lk
    rw [List.find?_cons]
    rcases List.mem_cons.mp h with h | h
    · rw [← h]
      simp
    · have : (p.1 == a) = false:=by
        apply Bool.eq_false_iff.mpr
        intro e
        have e:=eq_of_beq e
        exact nd.1 (List.mem_map.mpr ⟨(a,v),h,e.symm⟩)
      rw [this]
      exact ih nd.2 h
theorem lk_isSome {y : List (Str × α)} {a : Str} : (lk y a).isSome = decide (a ∈ y.map (·.1)):=by
  apply Bool.eq_iff_iff.mpr
  rw [decide_eq_true_iff]
  constructor
  · intro h
    obtain ⟨v,hv⟩:=Option.isSome_iff_exists.mp h
    exact List.mem_map.mpr ⟨_,lk_some hv,rfl⟩
  · intro h
    obtain ⟨p,hp,rfl⟩:=List.mem_map.mp h
    unfold lk
    rw [Option.isSome_map,List.find?_isSome]
    exact ⟨p,hp,by simp⟩
end
abbrev wayD (w : Str × Option Str) : D:=.tuple [.str w.1,oD w.2]
def jobD (sp : List Str) (ways : List (Str × Option Str)) : D:=.tuple [.tuple (sts sp),.tuple (ways.map wayD)]
end DL
end L2
namespace L2
namespace DL
open PySem PySem.Spec PyProof.Rows
theorem strsD_some : ∀ {ds : List D} {xs : List Str},strsD ds = some xs → ds = sts xs
  | [],xs,h=>by cases h; rfl
  | .str x :: r,xs,h=>by
    have h : (strsD r).map (x :: ·) = some xs:=h
    rw [Option.map_eq_some_iff] at h
    obtain ⟨ys,h1,rfl⟩:=h
    rw [strsD_some h1]
    rfl
  | .none :: r,xs,h=>by cases h
  | .bool _ :: r,xs,h=>by cases h
  | .int _ :: r,xs,h=>by cases h
  | .list _ :: r,xs,h=>by cases h
  | .tuple _ :: r,xs,h=>by cases h
  | .dict _ :: r,xs,h=>by cases h
def seqD : D → Option (List D)
  | .list ds=>some ds
  | .tuple ds=>some ds
  | _=>none
def setD (d : D) : Option (List Str):=(seqD d).bind fun ds=>(strsD ds).bind fun xs=>if xs.length < 4000 ∧ xs.all PyData.strOk = true then some (metS [] xs) else none
def sortSetD (d : D) : Option Xv:=(setD d).map fun l=>.o (.list (sts (sortS l)))
section
variable {X : Cx} {pins : List (Addr × Obj)} {σ : St} {H : Hp} {s : Shared} {pa : Pa} {W : WX} {a : Expr} {f : M Pv} {p p2 q pos : Pos}
theorem den_strs {K : KW} {H : Hp} : ∀ {vs : List V} {xs : List Str},DenAll K H vs (sts xs) → vs = xs.map V.str
  | [],[],_=>rfl
  | v :: vs,x :: xs,.cons h r=>by
    cases h
    rw [den_strs r]
    rfl
theorem strs_den {K : KW} {H : Hp} : ∀ xs : List Str,DenAll K H (xs.map V.str) (sts xs)
  | []=>.nil
  | x :: xs=>.cons (.str x) (strs_den xs)
theorem set_some {d : D} {l : List Str} (h : setD d = some l) : ∃ xs : List Str,(d = .list (sts xs) ∨ d = .tuple (sts xs)) ∧ xs.length < 4000 ∧ OkS xs ∧ l = metS [] xs:=by
  unfold setD at h
  cases hd : seqD d with
  | none=>rw [hd] at h; cases h
  | some ds =>
    rw [hd] at h
    cases hs : strsD ds with
    | none=>rw [Option.bind_some,hs] at h; cases h
    | some xs =>
      rw [Option.bind_some,hs,Option.bind_some] at h
      split at h
      · next c =>
        cases h
        refine ⟨xs,?_,c.1,fun x hx=>List.all_eq_true.mp c.2 x hx,rfl⟩
        have e:=strsD_some hs
        subst e
        cases d <;> cases hd
        · exact .inl rfl
        · exact .inr rfl
      · cases h
theorem set_run {A : Around} {E : Value → Shared → Prop} {Q : Value → Shared → Prop} {v : V} {u : Value} {d : D} {l : List Str} (hh : A.handled = none) (I : Inv X pins σ H s) (hr : Rdb X.kw H v d) (hu : RelV v u) (hs : setD d = some l)
    (h : ∀ (a : Addr) (h' : Heap) (tk : Nat),Inv X pins σ H { s with heap:=h',toks:=tk } → TxAt X.prog X.w h' a l → l.Nodup → l.length < 4000 → OkS l → Q (.ref a) { s with heap:=h',toks:=tk }) :
    wpAny (model X.prog X.w) A (call (.type "set") [u]) Q E s:=by
  obtain ⟨xs,hd,hlen,ok,rfl⟩:=set_some hs
  have hb : xs.length + 1 < scanBound:=by unfold scanBound; omega
  have ml:=metS_len xs []
  have fin : ∀ (h' : Heap) (tk : Nat),TxAt X.prog X.w h' s.heap.objs.size (metS [] xs) → (∀ b o,s.heap.get? b = some o → h'.get? b = some o) → Q (.ref s.heap.objs.size) { s with heap:=h',toks:=tk }:=fun h' tk T k =>
    h _ h' tk (I.kept k) T (metS_nodup xs [] List.nodup_nil) (by simp at ml; omega) fun x hx=>ok x (((metS_mem xs []).mp hx).resolve_left fun z=>by cases z)
  rcases hd with rfl | rfl
  · obtain ⟨b,vs,rfl,g1,g2⟩:=hr.lst
    obtain rfl:=den_strs g2
    obtain rfl : u = .ref b:=hu
    obtain ⟨its,r,pl,hz⟩:=I.list (.inl g1)
    exact set_call (init_list (by simp [hh]) pl.isList (by simpa using strsAre_of r) hb) fin
  · obtain ⟨b,vs,rfl,g1,g2⟩:=hr.tup
    obtain rfl:=den_strs g2
    obtain rfl : u = .ref b:=hu
    obtain ⟨its,r,pl,hz⟩:=I.tuple g1.sq
    exact set_call (init_tup (by simp [hh]) pl (by simpa using strsAre_of r) hb) fin
theorem ev_sortSet (hc : X.calm = true) (hu : X.A.units + 72 < cLine) (ha : EV X pa W a f) (hm : X.mg "sorted" = none) (hm2 : X.mg "set" = none) (hg : Gl X "sorted":=by rfl) (hg2 : Gl X "set":=by rfl) (na : starEach [a] X.env = (false,eval a X.env) :: starEach [] X.env:=by rfl)
    (he : starEach [.Call (.Name "set" p2) [a] [] q] X.env = [(false,eval (.Call (.Name "set" p2) [a] [] q) X.env)]:=by rfl) :
    EV X pa W (.Call (.Name "sorted" p) [.Call (.Name "set" p2) [a] [] q] [] pos) (op1 sortSetD f):=by
  refine ⟨fun pins s σ H Q I h=>?_⟩
  have h:=rd_op1 h
  refine wpAny_Call_Name_kw (ld_blt I hg hm (u:=.builtin "sorted") (by decide +kernel) ?_ (by decide) (by decide))
  refine callWith_builtin1 ?_ he (by rfl)
  rw [he]
  apply Calls.spliced_cons
  refine Call_ (he:=by rfl) (ld_blt I hg2 hm2 boot_set ?_)
  refine callWith_type1 (args_cons (thn ((ev_pk ha).run pins s σ H _ I h) fun v s1 ⟨x,H1,I1,r1,q1⟩=>args_nil ?_) na) na (by rfl)
  obtain ⟨d,r,h1,h2,k⟩:=q1
  unfold sortSetD at h2
  rw [Option.map_eq_some_iff] at h2
  obtain ⟨l,h2,rfl⟩:=h2
  refine set_run (I1.ok.hd hc) I1 h1 r1 h2 fun b h' tk I2 T nd hl ok=>?_
  apply Calls.spliced_nil
  refine Calls.call_function_entry kind_sorted plain_sorted entry_sorted (args_sorted1 _) ?_
  unfold Builtin.«sorted»
  refine wpAny_bind (m:=checkCount "sorted" 1 1 _) (wpAny_pure ?_)
  apply wpAny_bind
  refine tx_collect (A:=X.A.in1) (s:={ s1 with heap:=h',toks:=tk }) (I2.ok.hd hc) T nd (by unfold scanBound; omega) fun s2 out ys k1 k2 k3 k4 hy pm=>?_
  have I3 : Inv X pins σ H1 s2:=by
    have J : Inv X pins σ H1 { ({ s1 with heap:=h',toks:=tk } : Shared) with heap:=s2.heap,gens:=s2.gens,drawn:=s2.drawn,toks:=s2.toks } :=
      I2.call (ch:=[]) (Un.kept k1) (I2.hok.kept k1) (by rw [k3]; exact I2.bare) (fun _ z=>nomatch z)
    cases s2
    cases k4
    exact J
  have rv : Vals (ys.map V.str) out:=by
    clear pm k1 k2 k3 k4 I3
    induction hy with
    | nil=>exact .nil
    | cons x t _ ih=>exact .cons ⟨t,rfl⟩ ih
  have hyl : ys.length = l.length:=pm.length_eq
  have okY : OkS ys:=fun x hx=>ok x (pm.mem_iff.mp hx)
  have hol : out.length = ys.length:=StrsAre.len_eq hy
  refine wpAny_bind (wpAny_newList ?_ (by rw [hol,sizeLine_eq]; omega))
  refine wpAny_bind (wpAny_holding (sort_new (s:=s2) (by show X.A.units + 1 + 70 < cLine; omega) I3 rv (strs_den ys) (sortOk_strs okY) (by rw [List.length_map,sizeLine_eq]; omega) fun s3 zs I4 hz=>?_))
  have hn : H1 s2.heap.objs.size = none:=I3.hok.fresh (Nat.le_refl _)
  rw [isort_strs,show sortS ys = sortS l from sortE_eq inj_str pm] at hz
  exact wpAny_pure ⟨_,rfl,.ref s2.heap.objs.size,upd H1 s2.heap.objs.size (.lst zs),I4,rfl,new_list k hn hz⟩
end
end DL
end L2
namespace L2
namespace DL
open PySem PySem.Spec PyProof.Rows
def sqR (d : D) : R (List D):=match sqD d with
  | some xs=>.ok xs
  | none=>.bad
def szT (ys : List D) : R D:=if ys.length ≤ 16777216 then .ok (.tuple ys) else .bad
section
variable {α β β' γ σ : Type} {Q : Qr β γ} {Γ Γ' Γ1 Γ2 Γc : List AS} {r : R β} {i j l : Nat} {d x y c : D} {p q : Pv} {w w1 w2 : Wv}
theorem k_bad {κ : Ev → Rs γ} : KJ Q Γ κ (.bad : R β):=fun _ _=>Q.bad _
theorem k_callRd {m : List Sl → Rf} {ds : List D} {rf : R (D × D)} {κ : Pv → Ev → Rs γ} {r' : D × D → R β} (ho : ownA Γ i = some d) (hF : FT .d (m (.o true d :: ds.map .s)) rf) (k : ∀ z : D × D,KJ Q (setA Γ i z.2) (κ (.d z.1)) (r' z)) : KJ Q Γ (fun e1=>(callRK m (.r i) ds e1).bind κ) (rf.bnx r'):=fun e he=>by
  obtain ⟨b,h,hs⟩:=he.own ho
  dsimp only
  unfold callRK
  dsimp only
  rw [h]
  dsimp only
  cases rf with
  | ok z =>
    obtain ⟨x,h1,h2⟩:=hF
    have h2 : x = .s z.1:=h2
    rw [h1,h2]
    exact k z _ (hs _)
  | exc x=>exact Q.bad _
  | bad=>exact Q.bad _
def starK (d : D) (g : M (List D)) (e1 : Ev) : Rs (List D):=match sqD d with
  | some xs=>(g e1).bind fun ds e2=>.ok (xs ++ ds) e2
  | none=>.bad
theorem c_star {f : M D} {g : M (List D)} {κ : List D → Ev → Rs γ} (k : CJ Q Γ f (fun d e1=>(starK d g e1).bind κ) r) : CJ Q Γ (starA f g) κ r:=fun e he=>by
  have : (starA f g e).bind κ = (f e).bind (fun d e1=>(starK d g e1).bind κ):=by
    unfold starA
    rw [bind_bind]
    rfl
  rw [this]
  exact k e he
theorem k_star {g : M (List D)} {κ : List D → Ev → Rs γ} {r' : List D → R β} (k : ∀ xs,CJ Q Γ g (fun ds e2=>κ (xs ++ ds) e2) (r' xs)) : KJ Q Γ (fun e1=>(starK d g e1).bind κ) ((sqR d).bind r'):=fun e he=>by
  dsimp only
  unfold starK sqR
  cases sqD d with
  | none=>exact Q.bad _
  | some xs =>
    dsimp only
    rw [bind_bind]
    exact k xs e he
theorem c_tupS {f : M (List D)} {κ : Pv → Ev → Rs γ} (k : CJ Q Γ f (fun ds e1=>(liftK (szT ds) e1).bind fun y e2=>κ (.d y) e2) r) : CJ Q Γ (tupS f) κ r:=fun e he=>by
  have h:=k e he
  unfold tupS
  rw [bind_bind]
  cases hf : f e with
  | ok ds e1 =>
    rw [hf] at h
    have h : Q.rel r ((liftK (szT ds) e1).bind fun y e2=>κ (.d y) e2):=h
    show Q.rel r (Rs.bind (if ds.length ≤ 16777216 then _ else _) κ)
    unfold szT at h
    split
    · next c=>rw [if_pos c] at h; exact h
    · next c=>rw [if_neg c] at h; exact h
  | exc x e1=>rw [hf] at h; exact h
  | bad=>rw [hf] at h; exact h
theorem ow_sortSet : OwnOp sortSetD:=fun x v h=>by
  unfold sortSetD at h
  rw [Option.map_eq_some_iff] at h
  obtain ⟨a,_,rfl⟩:=h
  exact ⟨_,rfl⟩
theorem sc_mm {m : D → List D → D} {ds : List D} : ∀ v,mmD m ds = some v → ∃ z,v = .s z:=fun v h=>by
  obtain ⟨x,xs,_,rfl,_⟩:=mm_some h
  exact ⟨_,rfl⟩
theorem sc_min1 {x : D} : ∀ v,min1D x = some v → ∃ z,v = .s z:=fun v h=>by
  unfold min1D at h
  split at h
  · exact sc_mm v h
  · exact sc_mm v h
  · cases h
theorem sc_max1 {x : D} : ∀ v,max1D x = some v → ∃ z,v = .s z:=fun v h=>by
  unfold max1D at h
  split at h
  · exact sc_mm v h
  · exact sc_mm v h
  · cases h
theorem sc_inE {x y : D} : ∀ v,inE x y = some v → ∃ z,v = .s z:=fun v h=>by
  unfold inE at h
  split at h
  · split at h
    · cases h
    · cases h; exact ⟨_,rfl⟩
  · exact sc_bX v h
theorem sc_notInE {x y : D} : ∀ v,notInE x y = some v → ∃ z,v = .s z:=fun v h=>by
  unfold notInE at h
  split at h
  · split at h
    · cases h
    · cases h; exact ⟨_,rfl⟩
  · exact sc_nbX v h
end
end DL
end L2
namespace L2
namespace DL
open PySem PySem.Spec PyProof.Rows
theorem deps_mem : ∀ {xs : List D} {x : D},x ∈ xs → dep x ≤ deps xs
  | y :: ys,x,h=>by
    simp only [deps]
    rcases List.mem_cons.mp h with rfl | h
    · omega
    · have:=deps_mem h
      omega
theorem deps_le : ∀ {xs : List D} {n : Nat},(∀ x ∈ xs,dep x ≤ n) → deps xs ≤ n
  | [],n,_=>by simp [deps]
  | y :: ys,n,h=>by
    simp only [deps]
    have h1:=h y (by simp)
    have h2:=deps_le (xs:=ys) fun x hx=>h x (by simp [hx])
    omega
theorem dep_t {xs : List D} {n : Nat} (h : ∀ x ∈ xs,dep x ≤ n) : dep (.tuple xs) ≤ n + 1:=by
  have:=deps_le h
  simp only [dep]
  omega
theorem dep_l {xs : List D} {n : Nat} (h : ∀ x ∈ xs,dep x ≤ n) : dep (.list xs) ≤ n + 1:=by
  have:=deps_le h
  simp only [dep]
  omega
theorem canLayAll_all : ∀ {xs : List D},PyData.canLayAll0 xs = true ↔ ∀ x ∈ xs,PyData.canLay0 x = true
  | []=>by simp [PyData.canLayAll0]
  | x :: xs=>by simp [PyData.canLayAll0,canLayAll_all (xs:=xs)]
theorem depthAll_le : ∀ {xs : List D} {n : Nat},(∀ x ∈ xs,PyData.depth x ≤ n) → PyData.depthAll xs ≤ n
  | [],n,_=>by simp [PyData.depthAll]
  | x :: xs,n,h=>by
    simp only [PyData.depthAll]
    have h1:=h x (by simp)
    have h2:=depthAll_le (xs:=xs) fun y hy=>h y (by simp [hy])
    omega
theorem sh_str {x : Str} (h : PyData.strOk x = true) : Sh 0 (.str x):=⟨by simp [PyData.canLay0,h],by simp [PyData.depth]⟩
theorem sh_int {b : Int} : Sh 0 (.int b):=⟨by simp [PyData.canLay0],by simp [PyData.depth]⟩
theorem sh_tup {n : Nat} {xs : List D} (h : ∀ x ∈ xs,Sh n x) : Sh (n + 1) (.tuple xs):=by
  refine ⟨?_,?_⟩
  · simp only [PyData.canLay0]
    exact canLayAll_all.mpr fun x hx=>(h x hx).1
  · simp only [PyData.depth]
    have:=depthAll_le fun x hx=>(h x hx).2
    omega
end DL
end L2
namespace L2
namespace DL
open PySem PySem.Spec PyProof.Rows
end DL
end L2
namespace L2
namespace DL
open PySem PySem.Spec PyProof.Rows
def sameKV (xs ys : List (Str × Str)) : Bool:=xs.length == ys.length && xs.all fun p=>decide (p ∈ ys)
def txKV : List (D × D) → Option (List (Str × Str))
  | []=>some []
  | (.str a,.str b) :: r=>(txKV r).map ((a,b) :: ·)
  | _=>none
def eqE (d e : D) : Option Xv:=match d,e with
  | .dict x,.dict y=>(txKV x).bind fun xs=>(txKV y).map fun ys=>.s (.bool (sameKV xs ys))
  | d,e=>eqD d e
end DL
end L2
namespace L2
namespace DL
open PySem PySem.Spec PyProof.Rows
end DL
end L2
namespace L2
namespace DL
open PySem PySem.Spec PyProof.Rows
end DL
end L2
namespace L2
namespace DL
open PySem PySem.Spec PyProof.Rows
end DL
end L2
namespace L2
namespace DL
open PySem PySem.Spec PyProof.Rows
end DL
end L2
namespace L2
namespace DL
open PySem PySem.Spec PyProof.Rows
end DL
end L2
namespace L2
namespace DL
open PySem PySem.Spec PyProof.Rows
end DL
end L2
namespace L2
namespace DL
open PySem PySem.Spec PyProof.Rows
end DL
end L2
namespace L2
namespace DL
namespace G
open PySem PySem.Spec PyProof.Rows
namespace H1
end H1
end G
end DL
end L2
namespace L2
namespace DL
open PySem PySem.Spec PyProof.Rows
end DL
end L2
namespace L2
namespace DL
open PySem PySem.Spec PyProof.Rows
def hR {γ : Type} (tb : List (Str × Bool)) (x : Px) (r : R γ) : R γ:=match tb.lookup x.cls with
  | none=>.bad
  | some false=>.exc x
  | some true=>r
theorem txKV_kv : ∀ xs : List (Str × Str),txKV (kvD PyData.str xs) = some xs
  | []=>rfl
  | (a,b) :: r=>by
    show (txKV (kvD PyData.str r)).map ((a,b) :: ·) = _
    rw [txKV_kv r]
    rfl
@[simp] theorem o2_eqkv (xs ys : List (Str × Str)) : o2 eqE (.dict (kvD PyData.str xs)) (.dict (kvD PyData.str ys)) = .ok (.bool (sameKV xs ys)):=by
  refine o2_some (v:=.s (.bool (sameKV xs ys))) ?_
  unfold eqE
  simp only [txKV_kv,Option.bind_some,Option.map_some]
section
variable {α β β' γ : Type} {Q : Qr β γ} {Γ Γ' : List AS} {r : R β} {i j : Nat} {d : D} {p : Px}
theorem ow_addL {x : D} {ys : List D} : ∀ v,addD x (.list ys) = some v → ∃ z,v = .o z:=fun v h=>by
  cases x with
  | list u =>
    unfold addD at h
    dsimp only at h
    split at h
    · exact ⟨_,(Option.some.inj h).symm⟩
    · cases h
  | _=>cases h
theorem k_op2f {Γ1 Γ2 : List AS} {w1 w2 : Wv} {x y : D} {p q : Pv} {h : D → D → Option Xv} {κ : Pv → Ev → Rs γ} {r' : D → R β} (hs : ∀ v,h x y = some v → ∃ z,v = .o z) (hp : RdP Γ1 p x w1) (hk : Keep Γ x w1) (hq : RdP Γ2 q y w2) (hk2 : Keep Γ y w2) (k : ∀ z,KJ Q Γ (κ (.o z)) (r' z)) : KJ Q Γ (fun e2=>(put (((pkP p).get e2).bind fun x=>((pkP q).get e2).bind fun y=>h x y) e2).bind κ) ((o2 h x y).bind r'):=fun e he=>by
  dsimp only
  rw [hp.get hk he]
  dsimp only [Option.bind]
  rw [hq.get hk2 he]
  dsimp only [Option.bind]
  unfold o2
  cases hx : h x y with
  | none=>exact Q.bad _
  | some v =>
    obtain ⟨z,rfl⟩:=hs _ hx
    exact k z e he
end
end DL
end L2
namespace L2
namespace DL
open PySem PySem.Spec PyProof.Rows
section
variable {X : Cx} {pa : Pa} {W : WX} {pos p pos2 p2 : Pos} {tg a b c : Expr} {f g h : M D}
def newD : M Pv:=fun e=>.ok (.o (.dict [])) e
theorem ev_newD : EV X pa W (.Dict [] [] pos) newD :=
  PE.imp pe_dnewK fun σ H Q ⟨en,R,q⟩ p hp =>
    have sm:=same_new (o:=.dK []) hp
    q _ _ ((Tr.refl R).then sm) ⟨p,rfl,hp,.inl ⟨[],upd_same,.nil⟩,fun z=>(R.loose z).some hp⟩
end
end DL
end L2
namespace L2
namespace DL
open PySem PySem.Spec PyProof.Rows
section
variable {X : Cx} {pa : Pa} {W : WX} {pos p apos cpos : Pos} {a b c : Expr} {f g k : M Pv} {x : Str}
def extM (i : Nat) (f : M Pv) : M Pv:=fun e=>match selfL i e with
  | none=>.bad
  | some _=>(f e).bind fun p e1=>match selfL i e1,p with
    | some (t,ds),.o (.list ys)=>if ds.length + ys.length ≤ sizeLine then .ok (.d .none) (e1.set i (.o t (.list (ds ++ ys)))) else .bad
    | _,_=>.bad
theorem ev_extend (i : Nat) (hb : EV X pa W b f) {xpos : Pos} (hN : X.N[i]? = some x:=by rfl) (hv : Vis X.env.scope x:=by first | exact Or.inl rfl | exact Or.inr (Or.inl rfl) | exact Or.inr (Or.inr rfl)) (hd : (x == ("__debug__" : Str)) = false:=by decide) (hcd : (x == ("__classdict__" : Str)) = false:=by decide)
    (hbase : attributeBase (.Name x xpos) "extend" X.env (eval (.Name x xpos) X.env) = eval (.Name x xpos) X.env:=by rfl)
    (hfew : ((backTo cpos (starEach [b] X.env)).all (fun x=>!x.1) && (backToKw cpos (keywordEach [] X.env)).all (fun x=>x.1.isSome) && decide ([b].length + ([] : List Keyword).length + (if ([] : List Keyword).isEmpty then 0 else 1) < 30)) = true:=by rfl)
    (hline : (apos.endLine == cpos.line) = true:=by rfl) (hs : starEach [b] X.env = [(false,eval b X.env)]:=by rfl) (hplain : (backTo cpos (starEach [] X.env)).any (·.1) = false:=by rfl) :
    EV X pa W (.Call (.Attribute (.Name x xpos) "extend" apos) [b] [] cpos) (extM i f):=by
  refine PE.imp (pe_bm PySem.F.plainAttrs_list PySem.F.slot_list_extend PySem.F.type_list_extend mt_extend (pe_var hN hv hd hcd) (pa_cons hb pa_nil hs) hbase hfew hline hs hplain) fun σ H Q ⟨en,R,q⟩=>?_
  unfold extM at q
  cases h0 : selfL i en with
  | none=>rw [h0] at q; exact q.elim
  | some td =>
    rw [h0] at q
    obtain ⟨t0,ds0⟩:=td
    obtain ⟨a0,vs0,g1,g2,g3⟩:=R.lst (selfL_some h0)
    refine ⟨_,g1,.inl ⟨rfl,_,.inl (.inl g2)⟩,en,R,(Out.bind q).imp fun p e1 _ k v H1 T hv=>?_⟩
    have k:=k H1 T
    cases h1 : selfL i e1 with
    | none=>rw [h1] at k; cases p <;> exact k.elim
    | some td =>
      obtain ⟨t,ds⟩:=td
      rw [h1] at k
      cases p with
      | r j=>exact k.elim
      | d y=>cases y <;> exact k.elim
      | o y =>
        cases y with
        | list ys =>
          dsimp only at k
          split at k
          · next hz =>
            have hi:=selfL_some h1
            obtain ⟨a1,vs,w1,w2,w3⟩:=T.rel.lst hi
            rw [g1] at w1; cases w1
            obtain ⟨b0,rfl,hn,⟨ws,hw,dw⟩,_⟩:=hv
            exact ⟨a0,b0,vs,ws,rfl,rfl,w2,hw,by rw [w3.length,dw.length]; exact hz,k _ _ (T.trans (Tr.upd T.rel hi g1 w2 (.inl ⟨_,rfl⟩) (own_lst w2 (w3.append dw)))) Den.non⟩
          · exact k.elim
        | none=>exact k.elim
        | int i=>exact k.elim
        | str x=>exact k.elim
        | bool _=>exact k.elim
        | tuple _=>exact k.elim
        | dict _=>exact k.elim
end
end DL
end L2
namespace L2
namespace DL
open PySem PySem.Spec PyProof.Rows
def exR (xs : List D) (d : D) : R D:=match d with
  | .list ys=>if xs.length + ys.length ≤ sizeLine then .ok (.list (xs ++ ys)) else .bad
  | _=>.bad
section
variable {α β β' γ : Type} {Q : Qr β γ} {Γ Γ1 : List AS} {r : R β} {i : Nat} {c x : D} {p : Pv}
theorem c_newD {κ : Pv → Ev → Rs γ} (k : KJ Q Γ (κ (.o (.dict []))) r) : CJ Q Γ newD κ r:=k
def extK (i : Nat) (p : Pv) (e1 : Ev) : Rs Pv:=match selfL i e1,p with
    | some (t,ds),.o (.list ys)=>if ds.length + ys.length ≤ sizeLine then .ok (.d .none) (e1.set i (.o t (.list (ds ++ ys)))) else .bad
    | _,_=>.bad
theorem c_ext {f : M Pv} {κ : Pv → Ev → Rs γ} {r' : List D → R β} (ho : ownA Γ i = some c) (k : ∀ xs,c = .list xs → CJ Q Γ f (fun p e1=>(extK i p e1).bind κ) (r' xs)) : CJ Q Γ (extM i f) κ ((lsR c).bind r'):=fun e he=>by
  cases c with
  | list xs =>
    obtain ⟨b,h1,_⟩:=he.own ho
    have h2 : selfL i e = some (b,xs):=by unfold selfL; rw [h1]
    have h:=k xs rfl e he
    unfold extM
    rw [h2]
    dsimp only
    rw [bind_bind]
    exact h
  | _=>exact Q.bad _
theorem k_ext {xs : List D} {κ : Pv → Ev → Rs γ} {r' : D → R β} (hp : RdP Γ1 p x .f) (hc : c = .list xs) (ho : ownA Γ i = some c) (k : ∀ c',KJ Q (setA Γ i c') (κ (.d .none)) (r' c')) : KJ Q Γ (fun e1=>(extK i p e1).bind κ) ((exR xs x).bind r'):=fun e he=>by
  subst hc
  have hp : p = .o x:=hp
  subst hp
  obtain ⟨b,h1,h3⟩:=he.own ho
  have h2 : selfL i e = some (b,xs):=by unfold selfL; rw [h1]
  dsimp only
  unfold extK exR
  rw [h2]
  cases x <;> first | exact Q.bad _ | skip
  dsimp only
  split
  · exact k _ _ (h3 _)
  · exact Q.bad _
end
end DL
end L2
namespace L2
namespace DL
open PySem PySem.Spec PyProof.Rows
end DL
end L2
namespace L2
namespace DL
open PySem PySem.Spec PyProof.Rows
end DL
end L2
namespace L2
namespace DL
open PySem PySem.Spec PyProof.Rows
def nilV : M (List Pv):=fun e=>.ok [] e
def consV (f : M Pv) (g : M (List Pv)) : M (List Pv):=fun e=>(f e).bind fun p e1=>(g e1).bind fun ps e2=>.ok (p :: ps) e2
def intoAll : List Nat → List Pv → Ev → Rs Fl
  | [],[],e=>.ok .nx e
  | i :: is,p :: ps,e=>(intoU i p e).bind fun _ e1=>intoAll is ps e1
  | _,_,_=>.bad
def parN (is : List Nat) (f : M (List Pv)) : M Fl:=fun e=>(f e).bind fun ps e1=>intoAll is ps e1
def PvJ (K : KW) (σ : St) (H H1 : Hp) (e1 : Ev) (v : V) (p : Pv) : Prop:=match p with
  | .r _=>True
  | p=>PvIs K σ H H1 e1 v p
theorem PvIs.j {K : KW} {σ : St} {H H1 : Hp} {e1 : Ev} {v : V} {p : Pv} (h : PvIs K σ H H1 e1 v p) : PvJ K σ H H1 e1 v p:=by
  cases p with
  | r i=>exact True.intro
  | d x=>exact h
  | o x=>exact h
def PvsIs (K : KW) (σ : St) (H H1 : Hp) (e1 : Ev) : List V → List Pv → Prop
  | [],[]=>True
  | v :: vs,p :: ps=>PvJ K σ H H1 e1 v p ∧ PvsIs K σ H H1 e1 vs ps ∧ ∀ y,p = .o y → ∀ (j : Nat) (z : D),ps[j]? = some (.o z) → vs[j]? ≠ some v
  | _,_=>False
theorem PvsIs.len {K : KW} {σ : St} {H H1 : Hp} {e1 : Ev} : ∀ {vs : List V} {ps : List Pv},PvsIs K σ H H1 e1 vs ps → vs.length = ps.length
  | [],[],_=>rfl
  | v :: vs,p :: ps,h=>by rw [List.length_cons,List.length_cons,PvsIs.len h.2.1]
  | [],_ :: _,h=>h.elim
  | _ :: _,[],h=>h.elim
theorem PvsIs.map {K K' : KW} {σ σ' : St} {H H' H1 H1' : Hp} {e1 e1' : Ev} : ∀ {vs : List V} {ps : List Pv},PvsIs K σ H H1 e1 vs ps → (∀ (j : Nat) (v : V) (p : Pv),vs[j]? = some v → ps[j]? = some p → PvJ K σ H H1 e1 v p → PvJ K' σ' H' H1' e1' v p) → PvsIs K' σ' H' H1' e1' vs ps
  | [],[],_,_=>trivial
  | v :: vs,p :: ps,h,f=>⟨f 0 v p rfl rfl h.1,PvsIs.map h.2.1 fun j v p h1 h2=>f (j + 1) v p (by simpa using h1) (by simpa using h2),h.2.2⟩
  | [],_ :: _,h,_=>h.elim
  | _ :: _,[],h,_=>h.elim
theorem PvsIs.get {K : KW} {σ : St} {H H1 : Hp} {e1 : Ev} : ∀ {vs : List V} {ps : List Pv},PvsIs K σ H H1 e1 vs ps → ∀ (j : Nat) (v : V) (p : Pv),vs[j]? = some v → ps[j]? = some p → PvJ K σ H H1 e1 v p
  | [],[],_,j,v,p,h1,_=>by simp at h1
  | v :: vs,p :: ps,h,0,v',p',h1,h2=>by
    simp at h1 h2
    subst h1 h2
    exact h.1
  | v :: vs,p :: ps,h,j + 1,v',p',h1,h2=>PvsIs.get h.2.1 j v' p' (by simpa using h1) (by simpa using h2)
  | [],_ :: _,h,_,_,_,_,_=>h.elim
  | _ :: _,[],h,_,_,_,_,_=>h.elim
structure EVs (X : Cx) (pa : Pa) (W : WX) (es : List Expr) (f : M (List Pv)) : Prop where
  run : PA X es (fun σ H Q=>∃ en,Rel X.kw pa σ H en ∧ Out (gd X pa W) σ H en (f en) fun ps e1=>∀ vs H1,Tr X.kw pa σ H en σ H1 e1 → PvsIs X.kw σ H H1 e1 vs ps → Q vs H1)
  len : ∀ e ps e',f e = .ok ps e' → ps.length = es.length
def gNames : List Nat → TGs
  | []=>gNil
  | i :: is=>gCons (gName i) (gNames is)
section
variable {X : Cx} {pa : Pa} {W : WX} {a : Expr} {es tgs : List Expr} {f : M Pv} {g : M (List Pv)} {x : Str} {p pos pt pt2 : Pos} {is : List Nat} {kt k2 : Nat}
theorem evs_nil : EVs X pa W [] nilV:=⟨PA.imp pa_nil fun σ H Q ⟨en,R,q⟩=>q [] H (.refl R) trivial,fun e ds e' h=>by cases h; rfl⟩
theorem evs_cons (ha : EV X pa W a f) (hr : EVs X pa W es g) (hs : starEach (a :: es) X.env = (false,eval a X.env) :: starEach es X.env:=by rfl) : EVs X pa W (a :: es) (consV f g):=by
  refine ⟨PA.imp (pa_cons ha hr.run hs) fun σ H Q ⟨en,R,q⟩=>⟨en,R,(Out.bind q).imp fun p e1 _ k v H1 T hv=>?_⟩,fun e ds e' h=>?_⟩
  · refine ⟨e1,T.rel,(Out.bind (k H1 T)).imp fun ps e2 _ k2 vs H2 T2 hvs=>?_⟩
    refine k2 H2 T2 (v :: vs) H2 (T.trans T2) ⟨(hv.step T2).j,hvs.map fun j v' p' _ _ h=>?_,fun y hy j z hz hv'=>?_⟩
    · cases p' with
      | d x=>exact h
      | r i=>exact h
      | o x =>
        obtain ⟨b,h1,h2,h3,h4⟩:=h
        exact ⟨b,h1,T.nn b h2,h3,h4⟩
    · subst hy
      obtain ⟨b,h1,h2,_⟩:=hvs.get j v (.o z) hv' hz
      subst h1
      obtain ⟨u,hu⟩:=hv.there
      rw [h2] at hu
      cases hu
  · obtain ⟨d,e1,_,h⟩:=Rs.bind_ok h
    obtain ⟨ds',e2,h1,h⟩:=Rs.bind_ok h
    cases h
    rw [List.length_cons,hr.len _ _ _ h1,List.length_cons]
theorem pgn_nil : PGs X [] (gNames []):=pgs_nil
theorem pgn_cons (i : Nat) (hN : X.N.Nodup) (r : PGs X tgs (gNames is)) (hi : X.N[i]? = some x:=by rfl) (hx : Loc X.env.scope x:=by first | exact Or.inl rfl | exact Or.inr rfl) (hf : X.fn x = true ∨ X.env.scope.names.lookup x = some .local:=by first | exact .inl rfl | exact .inr rfl)
    (hs : (assignEach (.Name x p :: tgs) X.env).map (·.2) = assign (.Name x p) X.env :: (assignEach tgs X.env).map (·.2):=by rfl) : PGs X (.Name x p :: tgs) (gNames (i :: is)):=pgs_cons (pg_name hN hi hx hf) r hs
theorem into_all {σ : St} {H H1 : Hp} {en : Ev} {D : Ends} : ∀ (is : List Nat) (ps : List Pv) (vs : List V) (σ1 : St) (e1 : Ev),Tr X.kw pa σ H en σ1 H1 e1 → PvsIs X.kw σ1 H H1 e1 vs ps → OutS (gd X pa W) σ H en (intoAll is ps e1) D → gNames is vs σ1 H1 D.nx
  | [],[],vs,σ1,e1,T,h,q=>by
    cases vs with
    | nil=>exact ⟨rfl,q σ1 H1 T⟩
    | cons _ _=>exact h.elim
  | [],_ :: _,vs,σ1,e1,T,h,q=>q.elim
  | _ :: _,[],vs,σ1,e1,T,h,q=>q.elim
  | i :: is,p :: ps,vs,σ1,e1,T,h,q=>by
    cases vs with
    | nil=>exact h.elim
    | cons v vs =>
      obtain ⟨h1,h2,h3⟩:=h
      unfold intoAll intoU at q
      cases hI : into i p e1 with
      | bad=>rw [hI] at q; exact q.elim
      | exc x e2=>exact (into_noexc hI).elim
      | ok fl e2 =>
        rw [hI] at q
        obtain rfl:=into_nx hI
        have T2 : Tr X.kw pa σ H en (σ1.set i (some v)) H1 e2:=into_tr T (fun x hx=>by subst hx; exact h1) (fun x hx=>by subst hx; exact h1) hI
        refine ⟨v,vs,rfl,into_all is ps vs _ e2 T2 (h2.map fun j v' p' g1 g2 h=>?_) q⟩
        cases p' with
        | d x=>exact h
        | r i=>exact True.intro
        | o x =>
          obtain ⟨b,z1,z2,z3,z4⟩:=h
          refine ⟨b,z1,z2,z3,fun z=>?_⟩
          rcases into_own hI z with w | ⟨⟨y,hy⟩,w⟩
          · exact z4 w
          · exact h3 y hy j x g2 (by rw [g1,z1,w])
theorem es_parN (is : List Nat) (hc : X.calm = true) (h : EVs X pa W es g) (hg : PGs X tgs (gNames is)) (hz : es.length ≤ sizeLine:=by decide) (hn : (assignEach tgs X.env).length = es.length:=by rfl) (hst : (assignEach tgs X.env).findIdx? (·.1) = none:=by rfl)
    (hs : swapsWithSole [.Tuple tgs kt pt] (.Tuple es k2 pt2) pos.line X.env = pure false:=by rfl) (hw : swappedStores [.Tuple tgs kt pt] (.Tuple es k2 pt2) X.env = pure none:=by rfl) (h1 : (assignEach [.Tuple tgs kt pt] X.env).map (·.2) = [assign (.Tuple tgs kt pt) X.env]:=by rfl) :
    ES X pa W (.Assign [.Tuple tgs kt pt] (.Tuple es k2 pt2) pos) (parN is g) :=
  PS.imp (ps_asg (pe_tupX h.run) (pg_tup hc hg hn hst) hs hw h1) fun D σ H ⟨en,R,q⟩=>⟨en,R,outS_of q fun ps e1 hf k vs H1 T hvs=>by
    have hl:=hvs.len
    have hl2:=h.len _ _ _ hf
    refine ⟨by omega,fun p o hp ho=>?_⟩
    have sm:=same_new (o:=.frz o (.tup vs)) hp
    have T2 : Tr X.kw pa σ H1 e1 σ (upd H1 p (.frz o (.tup vs))) e1:=Tr.same T.rel sm
    have fz : FzT X.kw (upd H1 p (.frz o (.tup vs))) p vs:=.inl ⟨o,upd_same,ho⟩
    exact ⟨p,vs,rfl,fz.sq,by omega,into_all is ps vs σ e1 (T.trans T2) (hvs.map fun j v p' _ _ h=>by
      cases p' with
      | r i=>exact True.intro
      | d x=>exact (PvIs.step (q:=.d x) h T2).j
      | o x=>exact (PvIs.step (q:=.o x) h T2).j) k⟩⟩
end
end DL
end L2
namespace L2
namespace DL
open PySem PySem.Spec PyProof.Rows
section
variable {α β β' γ : Type} {Q : Qr β γ} {Γ Γ' : List AS} {r : R β} {i : Nat} {is : List Nat} {p : Pv} {ps : List Pv}
theorem c_parN {f : M (List Pv)} {κ : Fl → Ev → Rs γ} (k : CJ Q Γ f (fun ps e1=>(intoAll is ps e1).bind κ) r) : CJ Q Γ (parN is f) κ r:=fun e he=>by
  unfold parN
  rw [bind_bind]
  exact k e he
theorem c_nilV {κ : List Pv → Ev → Rs γ} (k : KJ Q Γ (κ []) r) : CJ Q Γ nilV κ r:=k
theorem c_consV {f : M Pv} {g : M (List Pv)} {κ : List Pv → Ev → Rs γ} (k : CJ Q Γ f (fun p e1=>(g e1).bind fun ps e2=>κ (p :: ps) e2) r) : CJ Q Γ (consV f g) κ r:=fun e he=>by
  have : (consV f g e).bind κ = (f e).bind (fun p e1=>(g e1).bind fun ps e2=>κ (p :: ps) e2):=by
    unfold consV
    rw [bind_bind]
    congr 1
    funext d e1
    rw [bind_bind]
    rfl
  rw [this]
  exact k e he
theorem k_allN {κ : Fl → Ev → Rs γ} (k : KJ Q Γ (κ .nx) r) : KJ Q Γ (fun e=>(intoAll [] [] e).bind κ) r:=k
theorem k_allC {κ : Fl → Ev → Rs γ} (k : KJ Q Γ (fun e=>(intoU i p e).bind fun _ e1=>(intoAll is ps e1).bind κ) r) : KJ Q Γ (fun e=>(intoAll (i :: is) (p :: ps) e).bind κ) r:=fun e he=>by
  have z:=k e he
  dsimp only at z ⊢
  rw [intoAll,bind_bind]
  exact z
end
end DL
end L2
namespace L2
namespace DL
open PySem PySem.Spec PyProof.Rows
def rmOk (ds : List D) (d : D) : Bool:=(ds.all SeqAt.shaped && SeqAt.shaped d) && (PyData.plainAll ds && d.plain)
theorem rmOk_all {ds : List D} {d : D} (h : rmOk ds d = true) : (∀ x ∈ ds,SeqAt.shaped x = true) ∧ SeqAt.shaped d = true ∧ PyData.plainAll ds = true ∧ d.plain = true:=by
  unfold rmOk at h
  simp only [Bool.and_eq_true,List.all_eq_true] at h
  exact ⟨h.1.1,h.1.2,h.2.1,h.2.2⟩
section
variable {X : Cx} {pa : Pa} {W : WX} {pos p apos cpos : Pos} {b : Expr} {f : M D} {x : Str}
theorem mt_removeD (hu : X.A.units + 70 < cLine) : MtM X "list.remove" (fun x vs H Q=>∃ (l : Addr) (xs : List V) (y : V) (ds : List D) (d : D) (j : Nat),x = .ref l ∧ vs = [y] ∧ H l = some (.lst xs) ∧ DenAll X.kw H xs ds ∧ Den X.kw H y d ∧ rmOk ds d = true ∧ SeqAt.dataPlace ds d = some j ∧ Q .non (upd H l (.lst (xs.eraseIdx j)))):=by
  intro pins s σ H x vs v us Q I rx rv h
  obtain ⟨l,xs,y,ds,d,j,rfl,rfl,hH,hd,hy,ok,hp,q⟩:=h
  cases rx
  obtain ⟨u,rfl,ru⟩:=rv.one
  obtain ⟨z,its,n,r,hl,e⟩:=I.lstM hH
  obtain ⟨s1,s2,p1,p2⟩:=rmOk_all ok
  obtain ⟨as,rs⟩:=den_readsAll I r hd s1
  obtain ⟨bs,r2⟩:=Dp.reads I _ _ _ (hy.dp s2) ru
  have dd:=SeqAt.depth_of_shaped s2
  refine SeqAt.remove_list_data (vs:=its.toArray) (show s.heap.IsList l its.toArray from ⟨_,e,rfl,_,rfl⟩) (by simpa using rs) r2 p1 p2 ?_ hp (by rw [List.size_toArray,← hl]; exact z) ?_
  · have : min (PyData.depthAll ds) d.depth ≤ d.depth:=Nat.min_le_right _ _
    omega
  · refine ⟨.non,_,I.lset (t':=s.toks) (its':=its.eraseIdx j) hH e ?_ (r.eraseIdx j) ?_,rfl,q⟩
    · show its.toArray.eraseIdxIfInBounds j = (its.eraseIdx j).toArray
      rw [List.eraseIdxIfInBounds_toArray]
    · have:=len_erase xs j
      omega
def rmM (i : Nat) (f : M D) : M Pv:=fun e=>match selfL i e with
  | none=>.bad
  | some _=>(f e).bind fun d e1=>match selfL i e1 with
    | some (t,ds)=>if rmOk ds d = true then (match SeqAt.dataPlace ds d with
      | some j=>.ok (.d .none) (e1.set i (.o t (.list (ds.eraseIdx j))))
      | none=>.bad) else .bad
    | none=>.bad
theorem ev_remove (i : Nat) (hu : X.A.units + 70 < cLine) (hb : ED X pa W b f) {xpos : Pos} (hN : X.N[i]? = some x:=by rfl) (hv : Vis X.env.scope x:=by first | exact Or.inl rfl | exact Or.inr (Or.inl rfl) | exact Or.inr (Or.inr rfl)) (hd : (x == ("__debug__" : Str)) = false:=by decide) (hcd : (x == ("__classdict__" : Str)) = false:=by decide)
    (hbase : attributeBase (.Name x xpos) "remove" X.env (eval (.Name x xpos) X.env) = eval (.Name x xpos) X.env:=by rfl)
    (hfew : ((backTo cpos (starEach [b] X.env)).all (fun x=>!x.1) && (backToKw cpos (keywordEach [] X.env)).all (fun x=>x.1.isSome) && decide ([b].length + ([] : List Keyword).length + (if ([] : List Keyword).isEmpty then 0 else 1) < 30)) = true:=by rfl)
    (hline : (apos.endLine == cpos.line) = true:=by rfl) (hs : starEach [b] X.env = [(false,eval b X.env)]:=by rfl) (hplain : (backTo cpos (starEach [] X.env)).any (·.1) = false:=by rfl) :
    EV X pa W (.Call (.Attribute (.Name x xpos) "remove" apos) [b] [] cpos) (rmM i f):=by
  refine PE.imp (pe_bm PySem.F.plainAttrs_list PySem.F.slot_list_remove PySem.F.type_list_remove (mt_removeD hu) (pe_var hN hv hd hcd) (pa_cons hb pa_nil hs) hbase hfew hline hs hplain) fun σ H Q ⟨en,R,q⟩=>?_
  unfold rmM at q
  cases h0 : selfL i en with
  | none=>rw [h0] at q; exact q.elim
  | some td =>
    rw [h0] at q
    obtain ⟨t0,ds0⟩:=td
    obtain ⟨a0,vs0,g1,g2,g3⟩:=R.lst (selfL_some h0)
    refine ⟨_,g1,.inl ⟨rfl,_,.inl (.inl g2)⟩,en,R,(Out.bind q).imp fun d e1 _ k v H1 T hv=>?_⟩
    have k:=k H1 T
    cases h1 : selfL i e1 with
    | none=>rw [h1] at k; exact k.elim
    | some td =>
      obtain ⟨t,ds⟩:=td
      rw [h1] at k
      dsimp only at k
      split at k
      · next ok =>
        split at k
        · next j hj =>
          have hi:=selfL_some h1
          obtain ⟨a1,vs,w1,w2,w3⟩:=T.rel.lst hi
          rw [g1] at w1; cases w1
          exact ⟨a0,vs,v,ds,d,j,rfl,rfl,w2,w3,hv,ok,hj,k _ _ (T.trans (Tr.upd T.rel hi g1 w2 (.inl ⟨_,rfl⟩) (own_lst w2 (DenAll.erase j w3)))) Den.non⟩
        · exact k.elim
      · exact k.elim
end
def maxND : D → Option Xv
  | .list []=>some (.s .none)
  | .list (x :: xs)=>mmD PySem.W.maxD (x :: xs)
  | _=>none
section
variable {X : Cx} {pa : Pa} {W : WX} {pos p p2 kp : Pos} {a : Expr} {f : M Pv} {kc : Nat}
theorem cr_maxN (hc : X.calm = true) (hu : X.A.units + 72 < cLine) : CallRK X (.builtin "max") [Str.ofString "default"] (fun vs zs H Q=>∃ v,vs = [v] ∧ zs = [.non] ∧ r1 X.kw maxND v H Q):=by
  intro pins s σ H vs zs us ws Q I r rz h
  obtain ⟨v,rfl,rfl,d,rr,h1,h2,k⟩:=h
  obtain ⟨u,rfl,ru⟩:=vals1 r
  obtain ⟨w1,rfl,e1⟩:=vals1 rz
  obtain rfl : w1 = Value.none:=e1
  cases d <;> try cases h2
  next ds =>
  obtain ⟨a,ys,rfl,g1,g2⟩:=h1.lst
  obtain rfl : u = .ref a:=ru
  obtain ⟨its,rv,pl,hz⟩:=I.list (.inl g1)
  cases ds with
  | nil =>
    cases h2
    cases g2
    cases rv
    exact PySem.W.max_list_default (xs:=[]) (I.ok.hd hc) pl.isList (by simpa using ReadsAll.nil) (by first | exact (fun x hx=>by cases hx) | exact rfl | simp [PySem.W.AlikeAll]) (by simp only [PyData.depthAll]; omega) (fun _ h' tk kp=>⟨.non,H,I.kept kp,rfl,k _ H (fun _ _ z=>z) .non⟩) fun y ys i v h' tk bs e=>by cases e
  | cons x xs =>
    have h2 : mmD PySem.W.maxD (x :: xs) = some rr:=h2
    obtain ⟨x',xs',e,rfl,ok⟩:=mm_some (m:=PySem.W.maxD) h2
    cases e
    obtain ⟨as,hr⟩:=den_readsAll I rv g2 ok.sh
    have:=shaped_depthAll ok.sh
    refine PySem.W.max_list_default (I.ok.hd hc) pl.isList (by simpa using hr) ok.al (by omega) (fun e=>by cases e) fun y ys i v h' tk bs e _ rd kp=>?_
    cases e
    obtain ⟨z,w1,w2⟩:=ok.rd _ (maxD_mem x xs) X.kw H h' v bs rd
    exact ⟨z,H,I.kept kp,w1,k z H (fun _ _ z=>z) w2⟩
theorem ev_maxN (hc : X.calm = true) (hu : X.A.units + 72 < cLine) (ha : EV X pa W a f) (hm : X.mg "max" = none) (hg : Gl X "max":=by rfl) (hs : starEach [a] X.env = [(false,eval a X.env)]:=by rfl)
    (he : backTo pos (starEach [a] X.env) = (false,eval a X.env) :: backTo pos (starEach [] X.env):=by rfl) (hpl : (backTo pos (starEach [a] X.env)).any (·.1) = false:=by rfl)
    (hall : (backToKw pos (keywordEach [⟨some "default",.Constant .none kc p2,kp⟩] X.env)).all (·.1.isSome) = true:=by rfl) (hnone : (backToKw pos (keywordEach [⟨some "default",.Constant .none kc p2,kp⟩] X.env)).any (·.1.isNone) = false:=by rfl)
    (hks : (backToKw pos (keywordEach [⟨some "default",.Constant .none kc p2,kp⟩] X.env)).filterMap (·.1) = [Str.ofString "default"]:=by rfl) :
    EV X pa W (.Call (.Name "max" p) [a] [⟨some "default",.Constant .none kc p2,kp⟩] pos) (op1 maxND f) :=
  PE.imp (pe_callBK (id:="max") (cr_maxN hc hu) hg hm (by decide +kernel) (pa_cons (ev_pk ha) pa_nil hs) (pk_cons pe_non pk_nil) (by decide) (by decide) he hpl hall hnone hks) fun σ H Q q=>by
    obtain ⟨en,R,q⟩:=rd_op1 q
    exact ⟨en,R,q.imp fun p e1 _ k v H1 T hv=>⟨v,rfl,rfl,k v H1 T hv⟩⟩
end
end DL
end L2
namespace L2
namespace DL
open PySem PySem.Spec PyProof.Rows
def rmR (xs : List D) (d : D) : R D:=if rmOk xs d = true then (match SeqAt.dataPlace xs d with
  | some j=>.ok (.list (xs.eraseIdx j))
  | none=>.bad) else .bad
theorem sc_maxN {x : D} : ∀ v,maxND x = some v → ∃ z,v = .s z:=fun v h=>by
  unfold maxND at h
  split at h
  · cases h; exact ⟨_,rfl⟩
  · obtain ⟨x,xs,_,e,_⟩:=mm_some h
    exact ⟨_,e⟩
  · cases h
section
variable {α β β' γ : Type} {Q : Qr β γ} {Γ Γ1 : List AS} {r : R β} {i : Nat} {c d : D} {p : Pv}
def rmK (i : Nat) (d : D) (e1 : Ev) : Rs Pv:=match selfL i e1 with
    | some (t,ds)=>if rmOk ds d = true then (match SeqAt.dataPlace ds d with
      | some j=>.ok (.d .none) (e1.set i (.o t (.list (ds.eraseIdx j))))
      | none=>.bad) else .bad
    | none=>.bad
theorem c_rm {f : M D} {κ : Pv → Ev → Rs γ} {r' : List D → R β} (ho : ownA Γ i = some c) (k : ∀ xs,c = .list xs → CJ Q Γ f (fun d e1=>(rmK i d e1).bind κ) (r' xs)) : CJ Q Γ (rmM i f) κ ((lsR c).bind r'):=fun e he=>by
  cases c with
  | list xs =>
    obtain ⟨b,h1,_⟩:=he.own ho
    have h2 : selfL i e = some (b,xs):=by unfold selfL; rw [h1]
    have h:=k xs rfl e he
    unfold rmM
    rw [h2]
    dsimp only
    rw [bind_bind]
    exact h
  | _=>exact Q.bad _
theorem k_rm {xs : List D} {κ : Pv → Ev → Rs γ} {r' : D → R β} (hc : c = .list xs) (ho : ownA Γ i = some c) (k : ∀ c',KJ Q (setA Γ i c') (κ (.d .none)) (r' c')) : KJ Q Γ (fun e1=>(rmK i d e1).bind κ) ((rmR xs d).bind r'):=fun e he=>by
  subst hc
  obtain ⟨b,h1,h3⟩:=he.own ho
  have h2 : selfL i e = some (b,xs):=by unfold selfL; rw [h1]
  dsimp only
  unfold rmK rmR
  rw [h2]
  dsimp only
  split
  · split
    · exact k _ _ (h3 _)
    · exact Q.bad _
  · exact Q.bad _
end
end DL
end L2
namespace L2
namespace DL
open PySem PySem.Spec PyProof.Rows
end DL
end L2
namespace L2
namespace DL
open PySem PySem.Spec PyProof.Rows
end DL
end L2
namespace L2
namespace DL
open PySem PySem.Spec PyProof.Rows
end DL
end L2
namespace L2
namespace DL
open PySem PySem.Spec PyProof.Rows
end DL
end L2
namespace L2
namespace DL
open PySem PySem.Spec PyProof.Rows
inductive DenPs (K : KW) (H : Hp) : List (V × V) → List (D × D) → Prop
  | nil : DenPs K H [] []
  | cons {x y : V} {k v : D} {ps : List (V × V)} {kvs : List (D × D)} : Den K H x k → Den K H y v → DenPs K H ps kvs → DenPs K H ((x,y) :: ps) ((k,v) :: kvs)
theorem DenPs.mono {K : KW} {H H' : Hp} (g : Grow H H') {ps : List (V × V)} {kvs : List (D × D)} (h : DenPs K H ps kvs) : DenPs K H' ps kvs:=by
  induction h with
  | nil=>exact .nil
  | cons a b _ ih=>exact .cons (a.mono g) (b.mono g) ih
end DL
end L2
namespace L2
namespace DL
open PySem PySem.Spec PyProof.Rows
end DL
end L2
namespace L2
namespace DL
open PySem PySem.Spec PyProof.Rows
abbrev stLt (x y : Str) : Bool:=decide (x.cps.toList < y.cps.toList)
def max2E (d e : D) : Option Xv:=match d,e with
  | .str x,.str y=>some (.s (.str (if stLt x y = true then y else x)))
  | d,e=>max2D d e
section
variable {prog : Program} {w : World} {A : Around} {E : Value → Shared → Prop} {s : Shared}
theorem cmp_strGt {A : Around} {Pv : Nat → Value → Prop} (val : Nat → Str) (hval : ∀ i v,Pv i v → ∃ t,v = .str (val i) t) : CmpOf prog w A .Gt Pv (fun i j=>stLt (val j) (val i)):=fun i j vi vj s Q E hi hj h=>by
  obtain ⟨t,rfl⟩:=hval i vi hi
  obtain ⟨u,rfl⟩:=hval j vj hj
  exact richCompare_gives (op:=.Gt) (typeIs_str s _ t) (typeIs_str s _ u) PySem.F.slot_str_gt PySem.F.entry_str_gt (PySem.F.args_str_gt_2 _ _) (gives_str_gt _ _ t u) (fun x=>nomatch x) h
abbrev two (x y : Str) (i : Nat) : Str:=if i = 1 then y else x
theorem two_at {x y : Str} {t u : Tok} {i : Nat} {v : Value} (h : (#[Value.str x t,Value.str y u] : Array Value)[i]? = some v) : ∃ k,v = .str (two x y i) k:=by
  match i with
  | 0=>exact ⟨t,by simpa [two] using h.symm⟩
  | 1=>exact ⟨u,by simpa [two] using h.symm⟩
  | i + 2=>simp at h
theorem walk_two {x y : Str} {t u : Tok} {Q : Value → Shared → Prop} (hh : A.handled = none)
    (h : ∀ s₂ I,(∃ fp wr St,Walks prog w A I fp wr 2 (fun i v=>(#[Value.str x t,Value.str y u] : Array Value)[i]? = some v) St ∧ St 0 s₂.heap ∧ (∀ b ∈ fp,b < s₂.heap.objs.size) ∧ ∀ h' tk,(∀ b o,b ∉ wr → s₂.heap.get? b = some o → h'.get? b = some o) → (∀ c o,s.heap.get? c = some o → h'.get? c = some o) ∧ ({ s₂ with heap:=h',toks:=tk } : Shared) = { s with heap:=h',toks:=tk }) → Q (.ref I) s₂) :
    wpAny (model prog w) A (pyIter (.ref s.heap.objs.size)) Q E { s with heap:=s.heap.push { cls:=.type "tuple",data:=.seq #[.str x t,.str y u] } }:=by
  have hT : (s.heap.push { cls:=.type "tuple",data:=.seq #[.str x t,.str y u] }).IsTuple s.heap.objs.size #[.str x t,.str y u]:=⟨_,Heap.get?_push_size _ rfl,rfl,0,rfl⟩
  have z1 : (s.heap.push { cls:=.type "tuple",data:=.seq #[.str x t,.str y u] }).objs.size = s.heap.objs.size + 1:=Heap.size_push ..
  refine wpAny_pyIter_tuple hT (h _ _ ⟨[_,s.heap.objs.size],[_],_,Walks.tuple hh _ s.heap.objs.size (by rw [z1]; exact Nat.ne_of_lt (Nat.lt_succ_self _)) #[.str x t,.str y u],⟨⟨_,Heap.get?_push_size _ rfl,rfl,rfl⟩,hT.push _⟩,fun c hc=>?_,fun h' tk hk=>⟨fun c o e=>?_,rfl⟩⟩)
  · show c < ((s.heap.push _).push _).objs.size
    rw [Heap.size_push,z1]
    simp only [List.mem_cons,List.not_mem_nil,or_false] at hc
    rcases hc with rfl | rfl
    · rw [z1]; exact Nat.lt_succ_self _
    · exact Nat.lt_succ_of_lt (Nat.lt_succ_self _)
  · refine hk c o (fun q=>?_) (Heap.get?_push_of_some _ (Heap.get?_push_of_some _ e))
    have:=Heap.lt_size e
    rw [List.mem_singleton.mp q,z1] at this
    exact Nat.lt_irrefl _ (Nat.lt_of_succ_lt this)
theorem max_texts {x y : Str} {t u : Tok} {Q : Value → Shared → Prop} (hh : A.handled = none) (h : ∀ h' tk k,(∀ c o,s.heap.get? c = some o → h'.get? c = some o) → Q (.str (if stLt x y = true then y else x) k) { s with heap:=h',toks:=tk }) :
    wpAny (model prog w) A (call (.builtin "max") [.str x t,.str y u]) Q E s:=by
  refine call_max_two (walk_two (A:=A.in1) hh fun s₂ I ⟨fp,wr,St,W,st,hf,hk⟩=>⟨I,fp,wr,2,_,St,_,rfl,W,st,hf,by omega,cmp_strGt (two x y) (fun _ _=>two_at),fun v h' tk hP q=>?_⟩)
  obtain ⟨a,e⟩:=hk h' tk q
  rw [e]
  obtain ⟨k,rfl⟩:=two_at hP
  have:=h h' tk k a
  have eb : two x y (argBest (fun i j=>stLt (two x y j) (two x y i)) (2 - 1)) = if stLt x y = true then y else x:=by
    show two x y (if stLt x y = true then 1 else 0) = _
    split <;> rfl
  rw [eb]
  exact this
end
section
variable {X : Cx} {pa : Pa} {W : WX} {pos p : Pos} {a b : Expr} {f g : M Pv}
theorem cr_maxE (hc : X.calm = true) : CallR X (.builtin "max") (fun xs H Q=>(∃ i j,xs = [.int i,.int j] ∧ Q (.int (if j > i then j else i)) H) ∨ ∃ i j,xs = [.str i,.str j] ∧ Q (.str (if stLt i j = true then j else i)) H):=by
  intro pins s σ H vs us Q I r h
  rcases h with h | ⟨i,j,rfl,q⟩
  · exact call_max2 hc pins s σ H vs us Q I r h
  · obtain ⟨u1,u2,rfl,ri,rj⟩:=vals2 r
    obtain ⟨t,rfl⟩:=ri
    obtain ⟨u,rfl⟩:=rj
    exact max_texts (I.ok.hd hc) fun h' tk k kp=>⟨.str _,H,I.kept kp,⟨k,rfl⟩,q⟩
theorem ev_max2E (hc : X.calm = true) (ha : EV X pa W a f) (hb : EV X pa W b g) (hm : X.mg "max" = none) (hg : Gl X "max":=by rfl) (he : starEach [a,b] X.env = (false,eval a X.env) :: starEach [b] X.env:=by rfl) (he2 : starEach [b] X.env = [(false,eval b X.env)]:=by rfl) (hpl : (backTo pos (starEach [b] X.env)).any (·.1) = false:=by rfl) : EV X pa W (.Call (.Name "max" p) [a,b] [] pos) (op2 max2E f g) :=
  ev_b2 (id:="max") (cr_maxE hc) (fun v w H Q ⟨d,e,r,h1,h2,h3,k⟩=>by
    unfold max2E at h3
    split at h3
    · cases h3; exact .inr ⟨_,_,by rw [h1.str,h2.str],k _ H (Same.refl H) (Den.str _)⟩
    · unfold max2D at h3
      split at h3
      · cases h3; exact .inl ⟨_,_,by rw [h1.int,h2.int],k _ H (Same.refl H) (Den.int _)⟩
      · cases h3) ha hb hm hg (by decide +kernel) (by decide) (by decide) he he2 hpl
end
theorem sc_maxE {x y : D} : ∀ v,max2E x y = some v → ∃ z,v = .s z:=fun v h=>by
  unfold max2E at h
  split at h
  · cases h; exact ⟨_,rfl⟩
  · unfold max2D at h
    split at h
    · cases h; exact ⟨_,rfl⟩
    · cases h
end DL
end L2
namespace L2
namespace DL
open PySem PySem.Spec PyProof.Rows
section
variable {prog : Program} {w : World} {A : Around} {E : Value → Shared → Prop} {s : Shared} {z TI TO i1 i2 T : Addr} {fp1 fp2 : List Addr} {n1 n2 i : Nat} {P1 P2 : Nat → Value → Prop} {St1 St2 : Nat → Heap → Prop} {f : Bool} {oT : Obj}
variable {S0 : Addr}
structure Got (b : Nat) (P1 P2 : Nat → Value → Prop) (h : Heap) (as : List Addr) : Prop where
  nd : as.Nodup
  at_ : ∀ (j : Nat) (a : Addr),as[j]? = some a → b ≤ a ∧ ∃ x y,P1 j x ∧ P2 j y ∧ IsTupOf2 h a x y
theorem Got.keep {b : Nat} {h h' : Heap} {as : List Addr} (g : Got b P1 P2 h as) (k : ∀ c o,b ≤ c → h.get? c = some o → h'.get? c = some o) : Got b P1 P2 h' as :=
  ⟨g.nd,fun j a e=>by
    obtain ⟨l,x,y,h1,h2,h3⟩:=g.at_ j a e
    exact ⟨l,x,y,h1,h2,k _ _ l h3⟩⟩
theorem Got.snoc {b : Nat} {h : Heap} {as : List Addr} {c : Addr} {x y : Value} (g : Got b P1 P2 h as) (hb : b ≤ c) (hn : c ∉ as) (hx : P1 as.length x) (hy : P2 as.length y) (ht : IsTupOf2 h c x y) : Got b P1 P2 h (as ++ [c]):=by
  refine ⟨List.nodup_append.mpr ⟨g.nd,by simp,fun a ha d hd=>?_⟩,fun j a e=>?_⟩
  · rw [List.mem_singleton.mp hd]
    exact fun q=>hn (q ▸ ha)
  · rw [List.getElem?_append] at e
    split at e
    · exact g.at_ j a e
    · next hj =>
      have : j - as.length = 0:=by
        cases q : j - as.length with
        | zero=>rfl
        | succ m=>rw [q] at e; cases e
      rw [this] at e
      cases e
      obtain rfl : j = as.length:=by omega
      exact ⟨hb,x,y,hx,hy,ht⟩
end
end DL
end L2
namespace L2
namespace DL
open PySem PySem.Spec PyProof.Rows
def zipTR (d d' : D) : R (List D):=match d,d' with
  | .tuple xs,.tuple ys=>.ok (zipP xs ys)
  | _,_=>.bad
@[simp] theorem zipTR_t (xs ys : List D) : zipTR (.tuple xs) (.tuple ys) = .ok (zipP xs ys):=id rfl
end DL
end L2
namespace L2
namespace DL
open PySem PySem.Spec PyProof.Rows
def compLO (j : Nat) (own : List Nat) (tg : D → M Unit) (tt : M Bool) (te : M D) : Nat → Nat → M (List D)
  | 0,i=>fun e=>match e[j]? with
    | some (.o _ (.list ds))=>if ds.length = i then .ok [] e else .bad
    | _=>.bad
  | k + 1,i=>fun e=>match e[j]? with
    | some (.o _ (.list ds))=>if ds.length = i + (k + 1) then (match ds[i]? with
      | some d=>(tg d e).bind fun _ e1=>(nox (tt e1)).bind fun b e2=>(match b with
        | true=>(nox (te e2)).bind fun y e3=>(compLO j own tg tt te k (i + 1) (wipeE e3 own)).bind fun ys e4=>.ok (y :: ys) e4
        | false=>compLO j own tg tt te k (i + 1) (wipeE e2 own) : Rs (List D))
      | none=>.bad) else .bad
    | _=>.bad
def compO (j : Nat) (own : List Nat) (tg : D → M Unit) (tt : M Bool) (te : M D) : M Pv:=fun e=>match e[j]? with
  | some (.o _ (.list ds))=>(compLO j own tg tt te ds.length 0 (wipeE e own)).bind fun ys e2=>.ok (.o (.list ys)) (backE e e2 own)
  | _=>.bad
theorem compLO_sees {j : Nat} {own : List Nat} {tg : D → M Unit} {tt : M Bool} {te : M D} : ∀ {k i : Nat} {e : Ev},compLO j own tg tt te k i e ≠ .bad → ∃ t ds,e[j]? = some (.o t (.list ds)) ∧ ds.length = i + k
  | 0,i,e,h=>by
    unfold compLO at h
    split at h
    · next t ds he =>
      split at h
      · next hl=>exact ⟨t,ds,he,hl⟩
      · exact absurd rfl h
    · exact absurd rfl h
  | k + 1,i,e,h=>by
    unfold compLO at h
    split at h
    · next t ds he =>
      split at h
      · next hl=>exact ⟨t,ds,he,hl⟩
      · exact absurd rfl h
    · exact absurd rfl h
theorem walk_own {K : KW} {a : Addr} {n : Nat} : Walk (Itl K a) n (fun H=>∃ xs,SqL K H a xs ∧ xs.length = n) (fun i H x H'=>H' = H ∧ ∀ xs,SqL K H a xs → xs[i]? = some x) :=
  ⟨fun i _ hi ⟨xs,q,e⟩=>⟨xs,xs[i]'(by omega),q,List.getElem?_eq_getElem (by omega)⟩,fun _ ⟨xs,q,e⟩=>⟨xs,q,by omega⟩,fun _ _ _ _ _ _ y=>y⟩
def tIo (G : Gd) (j : Nat) : TI:=fun σ H R=>∃ en,Rel G.K G.pa σ H en ∧ ∃ t ds,en[j]? = some (.o t (.list ds)) ∧ ∀ H1 a,Tr G.K G.pa σ H en σ H1 en → σ[j]? = some (some (.ref a)) → (∀ vs,H1 a = some (.lst vs) → vs.length ≤ sizeLine) → R (Itl G.K a) H1
section
variable {X : Cx} {pa : Pa} {W : WX} {pos : Pos}
theorem pi_own (j : Nat) {tg : Expr} {x : Str} (hN : X.N[j]? = some x:=by rfl) (hv : Vis X.env.scope x:=by first | exact Or.inl rfl | exact Or.inr (Or.inl rfl) | exact Or.inr (Or.inr rfl)) (hd : (x == ("__debug__" : Str)) = false:=by decide)
    (hcd : (x == ("__classdict__" : Str)) = false:=by decide) : PI X tg (.Name x pos) (tIo (gd X pa W) j):=by
  refine PI.imp (PI.sized (pi_list (ev_var (pa:=pa) (W:=W) j hN hv hd hcd))) fun σ H R ⟨en,Re,t,ds,ej,k⟩=>⟨en,Re,?_⟩
  unfold var
  rw [ej]
  intro v H1 T hv
  obtain ⟨a,h1,⟨vs,h2,h3⟩,_⟩:=T.rel.ow j t _ ej
  have hv : σ[j]? = some (some v):=hv
  rw [h1] at hv
  cases hv
  exact ⟨a,rfl,⟨vs,.inl (.inl h2)⟩,fun z=>k H1 a T h1 fun ws hw=>z.l a ws (.inl (.inl hw))⟩
theorem rd_compO {j : Nat} {own : List Nat} {tg : D → M Unit} {tt : M Bool} {te : M D} {g : TG} {σ : St} {H : Hp} {Q : VK} (ho : tgOk tg) (hj : j ∉ own)
    (hg : ∀ v σ H (Q : St → Hp → Prop),(∃ d e e',DenB false X.kw H v d ∧ Rel X.kw pa σ H e ∧ tg d e = .ok () e' ∧ ∀ σ',Tr X.kw pa σ H e σ' H e' → L2.wipe σ' own = L2.wipe σ own → Q σ' H) → g v σ H Q)
    (q : tV (gd X pa W) (compO j own tg tt te) σ H Q) : tLc (tIo (gd X pa W) j) g (tT (gd X pa W0) tt) (tD (gd X pa W0) te) own σ H Q:=by
  obtain ⟨en,R,q⟩:=q
  unfold compO at q
  split at q
  rotate_left
  · exact q.elim
  next t ds ej =>
  refine ⟨en,R,t,ds,ej,fun H1 a T sa hlen D hD=>?_⟩
  have q0 : Out (gd X pa W) σ H en ((Rs.ok ds en : Rs (List DL.D)).bind fun ds e1=>(compLO j own tg tt te ds.length 0 (wipeE e1 own)).bind fun ys e2=>.ok (Pv.o (.list ys)) (backE e1 e2 own)) fun p e'=>∀ v H',Tr X.kw pa σ H en σ H' e' → PvIs X.kw σ H H' e' v p → Q v H':=q
  have k:=(Out.bind q0 : _) H1 T
  have R1:=T.rel.wipe own
  have le : ds.length ≤ sizeLine:=by
    obtain ⟨a0,h1,⟨vs,h2,h3⟩,_⟩:=T.rel.ow j t _ ej
    rw [sa] at h1
    cases h1
    rw [← h3.length]
    exact hlen vs h2
  have sees : ∀ {i : Nat} {H' : Hp} {e' : Ev} {zs : List DL.D},i ≤ ds.length → Tr X.kw pa (L2.wipe σ own) H1 (wipeE en own) (L2.wipe σ own) (er H' D) (wipeE e' own) →
      Out (gd X pa W) σ H1 en ((compLO j own tg tt te (ds.length - i) i (wipeE e' own)).bind fun ys e2=>.ok (Pv.o (.list (zs ++ ys))) (backE en e2 own)) (fun p e'=>∀ v H',Tr X.kw pa σ H en σ H' e' → PvIs X.kw σ H H' e' v p → Q v H') →
      ∃ t' ds' vs,(wipeE e' own)[j]? = some (.o t' (.list ds')) ∧ ds'.length = ds.length ∧ H' a = some (.lst vs) ∧ DenAll X.kw H' vs ds':=fun {i H' e' zs} hi T' q'=>by
    obtain ⟨t',ds',h1,h2⟩:=compLO_sees (j:=j) (own:=own) (tg:=tg) (tt:=tt) (te:=te) (k:=ds.length - i) (i:=i) (e:=wipeE e' own) fun z=>by
      rw [z] at q'
      exact q'
    obtain ⟨a',g1,⟨vs,g2,g3⟩,_⟩:=T'.rel.ow j t' _ h1
    rw [wipe_get hj,sa] at g1
    cases g1
    have nD : a ≠ D:=fun z=>by rw [z,er_same] at g2; cases g2
    rw [er_ne nD] at g2
    exact ⟨t',ds',vs,h1,by omega,g2,g3.mono grow_er⟩
  refine lc_it (walk_own (n:=ds.length)) (fun i H'=>∃ e' acc zs,Tr X.kw pa (L2.wipe σ own) H1 (wipeE en own) (L2.wipe σ own) (er H' D) (wipeE e' own) ∧ H' D = some (.lst acc) ∧ DenAll X.kw H' acc zs ∧ acc.length ≤ i ∧
      Out (gd X pa W) σ H1 en ((compLO j own tg tt te (ds.length - i) i (wipeE e' own)).bind fun ys e2=>.ok (Pv.o (.list (zs ++ ys))) (backE en e2 own)) fun p e'=>∀ v H',Tr X.kw pa σ H en σ H' e' → PvIs X.kw σ H H' e' v p → Q v H')
    ⟨en,[],[],?_,upd_same,.nil,Nat.zero_le _,k⟩ (fun i H' hi ⟨e',acc,zs,T',hA,hZ,hle,q'⟩=>?_) (fun i x H' H2 hi ⟨e',acc,zs,T',hA,hZ,hle,q'⟩ y=>?_) fun H' ⟨e',acc,zs,T',hA,hZ,hle,q'⟩=>?_
  · have : er (upd H1 D (.lst [])) D = H1:=by
      funext b
      by_cases z : b = D
      · subst z; rw [er_same,hD]
      · rw [er_ne z,upd_ne z]
    rw [this]
    exact .refl R1
  · obtain ⟨t',ds',vs,h1,h2,h3,h4⟩:=sees hi T' q'
    exact ⟨vs,.inl (.inl h3),by rw [h4.length,h2]⟩
  · obtain ⟨t',ds',vs,h1,h2,h3,h4⟩:=sees (Nat.le_of_lt hi) T' q'
    have sm : Same H' H2:=by rw [y.1]; exact Same.refl H'
    obtain ⟨d,hd,hx0⟩:=all_get h4 (y.2 vs (.inl (.inl h3)))
    have hx : DenB false X.kw H2 x d:=by rw [y.1]; exact .inl hx0
    obtain ⟨kk,hk⟩ : ∃ kk,ds.length - i = kk + 1:=⟨ds.length - i - 1,by omega⟩
    have hk2 : ds.length - (i + 1) = kk:=by omega
    rw [hk] at q'
    have R' : Rel X.kw pa (L2.wipe σ own) H' (wipeE e' own):=T'.rel.of_er
    have nD : ∀ {σ' : St} {e'' : Ev} {H'' : Hp},Rel X.kw pa σ' (er H'' D) e'' → ¬ Own σ' e'' D:=fun r z=>(r.loose z).some er_same
    have nD':=nD T'.rel
    have R2:=R'.same sm
    have T2 : Tr X.kw pa (L2.wipe σ own) H' (wipeE e' own) (L2.wipe σ own) H2 (wipeE e' own):=Tr.same R' sm
    have hA2 : H2 D = some (.lst acc):=sm _ _ hA
    rcases ho d (wipeE e' own) with ⟨e2,z⟩ | z
    · refine hg x _ H2 _ ⟨d,wipeE e' own,e2,hx,R2,z,fun σ3 T3 w3=>⟨w3.trans wipe_wipe,?_⟩⟩
      have w3':=w3.trans wipe_wipe
      have T3':=T2.trans T3
      have q2 : Out (gd X pa W) σ H1 en ((nox (tt e2)).bind fun b e3=>(match b with
        | true=>(nox (te e3)).bind fun y e4=>(compLO j own tg tt te kk (i + 1) (wipeE e4 own)).bind fun ys e5=>.ok (y :: ys) e5
        | false=>compLO j own tg tt te kk (i + 1) (wipeE e3 own) : Rs (List DL.D)).bind fun ys e2=>.ok (Pv.o (.list (zs ++ ys))) (backE en e2 own)) fun p e'=>∀ v H',Tr X.kw pa σ H en σ H' e' → PvIs X.kw σ H H' e' v p → Q v H':=by
        unfold compLO at q'
        rw [h1] at q'
        dsimp only at q'
        rw [if_pos (by omega),hd] at q'
        dsimp only at q'
        rw [z] at q'
        dsimp only [Rs.bind] at q'
        cases ht : tt e2 with
        | bad=>rw [ht] at q'; exact q'
        | exc _ _=>rw [ht] at q'; exact q'
        | ok b e3=>rw [ht] at q'; exact q'
      refine ⟨e2,T3.rel,?_⟩
      cases ht : tt e2 with
      | bad=>rw [ht] at q2; exact q2.elim
      | exc xx e3=>rw [ht] at q2; exact q2.elim
      | ok b e3 =>
        rw [ht] at q2
        intro H4 T4
        have T4':=T3'.trans T4
        have hA4 : H4 D = some (.lst acc):=T4'.fr D _ hA nD' nt_lst
        cases b with
        | false =>
          refine iteF ⟨e3,acc,zs,?_,hA4,hZ.mono T4'.gr,Nat.le_succ_of_le hle,by rw [hk2]; exact q2⟩
          exact T'.trans ((Tr.forget T4' w3').er (.inl ⟨_,hA⟩) nD' (.inl ⟨_,hA4⟩))
        | true =>
          refine iteT ⟨e3,T4.rel,?_⟩
          have q2 : Out (gd X pa W) σ H1 en (((nox (te e3)).bind fun y e4=>(compLO j own tg tt te kk (i + 1) (wipeE e4 own)).bind fun ys e5=>.ok (y :: ys) e5).bind fun ys e2=>.ok (Pv.o (.list (zs ++ ys))) (backE en e2 own)) fun p e'=>∀ v H',Tr X.kw pa σ H en σ H' e' → PvIs X.kw σ H H' e' v p → Q v H':=q2
          cases hy : te e3 with
          | bad=>rw [hy] at q2; exact q2.elim
          | exc xx e4=>rw [hy] at q2; exact q2.elim
          | ok yd e4 =>
            rw [hy] at q2
            intro v H5 T5 hv
            have T5':=T4'.trans T5
            have hA5 : H5 D = some (.lst acc):=T5'.fr D _ hA nD' nt_lst
            have hlt : i < ds.length:=hi
            refine ⟨acc,hA5,by omega,e4,acc ++ [v],zs ++ [yd],?_,upd_same,?_,by rw [List.length_append]; simp; omega,?_⟩
            · have : er (upd H5 D (.lst (acc ++ [v]))) D = er H5 D:=by
                funext b
                by_cases z : b = D
                · subst z; rw [er_same,er_same]
                · rw [er_ne z,er_ne z,upd_ne z]
              rw [this]
              exact T'.trans ((Tr.forget T5' w3').er (.inl ⟨_,hA⟩) nD' (.inl ⟨_,hA5⟩))
            · have g : Grow H5 (upd H5 D (.lst (acc ++ [v]))):=grow_frz hA5 (.inl ⟨_,rfl⟩)
              exact ((hZ.mono T5'.gr).snoc hv).mono g
            · rw [hk2]
              have q2 : Out (gd X pa W) σ H1 en (((compLO j own tg tt te kk (i + 1) (wipeE e4 own)).bind fun ys e5=>.ok (yd :: ys) e5).bind fun ys e2=>.ok (Pv.o (.list (zs ++ ys))) (backE en e2 own)) fun p e'=>∀ v H',Tr X.kw pa σ H en σ H' e' → PvIs X.kw σ H H' e' v p → Q v H':=q2
              cases hc : compLO j own tg tt te kk (i + 1) (wipeE e4 own) with
              | bad=>rw [hc] at q2; exact q2
              | exc _ _=>rw [hc] at q2; exact q2
              | ok ys e5 =>
                rw [hc] at q2
                dsimp only [Rs.bind] at q2 ⊢
                rw [List.append_assoc]
                exact q2
    · unfold compLO at q'
      rw [h1] at q'
      dsimp only at q'
      rw [if_pos (by omega),hd] at q'
      dsimp only at q'
      rw [z] at q'
      exact q'.elim
  · obtain ⟨t',ds',vs,h1,h2,h3,h4⟩:=sees (Nat.le_refl _) T' q'
    rw [Nat.sub_self] at q'
    unfold compLO at q'
    rw [h1] at q'
    dsimp only at q'
    rw [if_pos h2] at q'
    dsimp only [Rs.bind] at q'
    rw [List.append_nil] at q'
    have hLo : Loose H' D:=.inl ⟨_,hA⟩
    have TB:=Tr.backC (e2:=wipeE e' own) T.rel hD T' hLo
    refine q' _ _ (T.trans TB) ⟨D,rfl,T.nn D hD,⟨acc,hA,hZ⟩,fun z=>?_⟩
    rcases own_back (by rw [wipeE_len]; have h1:=T'.rel.ln; rw [wipe_length,wipeE_len] at h1; rw [← h1]; exact T.rel.ln.symm) z with z | z
    · exact (T.rel.loose z).some hD
    · exact (T'.rel.loose z).some er_same
theorem es_compO (j i : Nat) {y : Str} {py spos : Pos} {elt tg : Expr} {ifs : List Expr} {x : Str} {p : Pos} {scope : Scope} {own : List (Str × Nat)} {g : D → M Unit} {tt : M Bool} {te : M D} (hc : X.calm = true) (hN : X.N.Nodup) (ok : BlkOk X.N X.env.scope scope own) (ho : tgOk g)
    (hg : ∀ (s : Shared) (H : Hp) (C : Addr) (cl : List (Str × Addr)) (fp : List Addr),EGw (X.blk s H scope (compEnvC scope cl C X.env) fp) pa false (own.map (·.2)) tg g)
    (ht : ∀ (s : Shared) (H : Hp) (C : Addr) (cl : List (Str × Addr)) (fp : List Addr),ETs (X.blk s H scope (compEnvC scope cl C X.env) fp) pa W0 ifs tt)
    (he : ∀ (s : Shared) (H : Hp) (C : Addr) (cl : List (Str × Addr)) (fp : List Addr),ED (X.blk s H scope (compEnvC scope cl C X.env) fp) pa W0 elt te)
    (hsw : swapsWith (.ListComp elt [⟨tg,.Name x p,ifs,0⟩] scope pos) (some (.Name y py)) spos.line X.env = pure true) (hyl : X.env.scope.names.lookup y = some .local:=by rfl) (hy : X.N[i]? = some y:=by rfl) (hs : ∀ z,foldedSetIterable (.Name x p) X.env z = pure z:=by intro _; rfl)
    (hj : j ∉ own.map (·.2):=by decide) (hxN : X.N[j]? = some x:=by rfl) (hv : Vis X.env.scope x:=by first | exact Or.inl rfl | exact Or.inr (Or.inl rfl) | exact Or.inr (Or.inr rfl)) (hd : (x == ("__debug__" : Str)) = false:=by decide)
    (hcd : (x == ("__classdict__" : Str)) = false:=by decide) :
    ES X pa W (.Assign [.Name y py] (.ListComp elt [⟨tg,.Name x p,ifs,0⟩] scope pos) spos) (asg i (compO j (own.map (·.2)) g tt te)) :=
  PS.imp (ps_setLc hc hN hy hyl hsw (pi_own (pa:=pa) (W:=W) j hxN hv hd hcd) ok (fun s H C cl fp=>(hg s H C cl fp).run) ht he hs) fun D σ H ⟨en,R,q⟩ =>
    rd_compO (Q:=fun v H1=>gName i v σ H1 D.nx) ho hj (fun v σ H Q h=>h) ⟨en,R,outS_of q fun p e1 _ k v H1 T hv=>into_ok (D:=D) T hv k⟩
end
end DL
end L2
namespace L2
namespace DL
open PySem PySem.Spec PyProof.Rows
section
variable {α β β' γ : Type} {Q : Qr β γ} {Γ Γ1 Γc : List AS} {r : R β} {i j l : Nat} {d : D}
theorem fcO_sim {ds0 : List D} {own : List Nat} {tg : D → M Unit} {tt : M Bool} {te : M D} {f : D → R (Option D)} (hx : allX Γc own = true) (hv : ∀ e,IsE Γc e → ∃ t,e[j]? = some (.o t (.list ds0)))
    (hb : ∀ d,CJ (QA (fun z : Option D=>z) fun _=>Γc) Γc (tg d) (fun _ e1=>elF tt te e1) (f d)) : ∀ (k i : Nat),i + k = ds0.length → ∀ e,IsE Γc e → (QA (fun z : List D=>z) fun _=>Γc).rel (fcR f (ds0.drop i)) (compLO j own tg tt te k i e)
  | 0,i,hk,e,he=>by
    obtain ⟨t,ht⟩:=hv e he
    rw [List.drop_eq_nil_of_le (by omega)]
    refine ⟨e,?_,he⟩
    unfold compLO
    rw [ht]
    dsimp only
    rw [if_pos (by omega)]
  | k + 1,i,hk,e,he=>by
    obtain ⟨t,ht⟩:=hv e he
    have hlt : i < ds0.length:=by omega
    rw [List.drop_eq_getElem_cons hlt]
    have h:=hb ds0[i] e he
    have un : compLO j own tg tt te (k + 1) i e = (tg ds0[i] e).bind fun _ e1=>(nox (tt e1)).bind fun b e2=>(match b with
        | true=>(nox (te e2)).bind fun y e3=>(compLO j own tg tt te k (i + 1) (wipeE e3 own)).bind fun ys e4=>.ok (y :: ys) e4
        | false=>compLO j own tg tt te k (i + 1) (wipeE e2 own) : Rs (List D)):=by
      rw [compLO]
      dsimp only
      rw [ht]
      dsimp only
      rw [if_pos (by omega),List.getElem?_eq_getElem hlt]
      all_goals rfl
    unfold fcR
    revert h
    cases f ds0[i] with
    | bad=>intro _; trivial
    | exc x=>intro _; trivial
    | ok y =>
      rintro ⟨e',h1,h2⟩
      have ih:=fcO_sim hx hv hb k (i + 1) (by omega) (wipeE e' own) (h2.wipeX own hx)
      show (QA (fun z : List D=>z) fun _=>Γc).rel ((fcR f (ds0.drop (i + 1))).bnx _) _
      obtain ⟨u,e1,g1,g2⟩:=bind_split h1
      obtain ⟨b,e2,g3,g4⟩:=bind_split g2
      rw [un,g1]
      dsimp only [Rs.bind]
      rw [g3]
      dsimp only [nox,Rs.bind]
      cases b with
      | true =>
        obtain ⟨y',e3,g5,g6⟩:=bind_split g4
        cases g6
        dsimp only
        rw [g5]
        dsimp only [nox,Rs.bind]
        revert ih
        cases fcR f (ds0.drop (i + 1)) with
        | bad=>intro _; trivial
        | exc x=>intro _; trivial
        | ok ys =>
          rintro ⟨e'',h3,h4⟩
          rw [h3]
          exact ⟨e'',rfl,h4⟩
      | false =>
        cases g4
        dsimp only
        revert ih
        cases fcR f (ds0.drop (i + 1)) with
        | bad=>intro _; trivial
        | exc x=>intro _; trivial
        | ok ys =>
          rintro ⟨e'',h3,h4⟩
          rw [h3]
          exact ⟨e'',rfl,h4⟩
theorem at_o {e : Ev} {d : D} (he : IsE Γ e) (h : Γ[j]? = some (.o d)) : e[j]? = some (.o false d):=by
  obtain ⟨l,h1,h2⟩:=he.at h
  rw [h1]
  cases l with
  | o t d'=>cases t <;> simp_all [IsS]
  | u=>cases h2
  | s _=>cases h2
  | x _=>cases h2
  | b _ _=>cases h2
theorem k_fcO {own : List Nat} {tg : D → M Unit} {tt : M Bool} {te : M D} {κ : Pv → Ev → Rs γ} {f : D → R (Option D)} {r' : List D → R β} (hd : Γ[j]? = some (.o d)) (Γc Γ' : List AS) (hc : wA Γ own = Γc) (hx : allX Γc own = true) (hdc : Γc[j]? = some (.o d)) (hG : bA Γ Γc own = Γ')
    (hb : ∀ d,CJ (QA (fun z : Option D=>z) fun _=>Γc) Γc (tg d) (fun _ e1=>elF tt te e1) (f d)) (k : ∀ ys,KJ Q Γ' (κ (.o (.list ys))) (r' ys)) : CJ Q Γ (compO j own tg tt te) κ ((lsR d).bind fun l=>(fcR f l).bind r'):=fun e he=>by
  subst hc hG
  have ej:=at_o he hd
  cases d with
  | list ds =>
    have h:=fcO_sim (ds0:=ds) hx (fun e he=>⟨false,at_o he hdc⟩) hb ds.length 0 (by omega) (wipeE e own) (he.wipe own)
    show Q.rel ((fcR f ds).bind r') _
    unfold compO
    rw [ej]
    dsimp only
    rw [bind_bind]
    rw [List.drop_zero] at h
    revert h
    cases fcR f ds with
    | bad=>intro _; exact Q.bad _
    | exc x =>
      rintro ⟨e',h⟩
      rw [h]
      exact Q.exc x e'
    | ok b =>
      rintro ⟨e',h1,h2⟩
      rw [h1]
      exact k b _ (he.back h2 own)
  | none=>exact Q.bad _
  | bool _=>exact Q.bad _
  | int _=>exact Q.bad _
  | str _=>exact Q.bad _
  | tuple _=>exact Q.bad _
  | dict _=>exact Q.bad _
end
end DL
end L2
namespace L2
namespace DL
open PySem PySem.Spec PyProof.Rows
abbrev NIs (h : Heap) (k : NestedKey) (a : Addr) : Prop:=NestedIs h k (.ref a) ∧ k.depth ≤ 8
theorem NIs.keep {h h' : Heap} {k : NestedKey} {a : Addr} (x : NIs h k a) (kp : ∀ b o,h.get? b = some o → h'.get? b = some o) : NIs h' k a :=
  ⟨NestedIs.at (fun b o _ _ e _=>kp b o e) k _ x.1,x.2⟩
theorem NIs.same {h h' : Heap} {k : NestedKey} {a b : Addr} {o : Obj} {es : Array (Int × Value)} {ep : Nat} {t : SetTable} (x : NIs h k b) (ho : h.get? a = some o) (hd : o.data = .set es ep t) (sb : Heap.SameBut a h h') : NIs h' k b:=by
  refine ⟨NestedIs.at (fun c u vs n e e2=>?_) k _ x.1,x.2⟩
  rw [sb.2 c,e]
  rintro rfl
  rw [ho] at e
  cases e
  rw [hd] at e2
  cases e2
section
variable {P : Program} {w : World} {E : Value → Shared → Prop}
def ClsA (P : Program) (w : World) (n : Nat) (s : Shared) (v : Value) : Prop:=∀ (A : Around) (E : Value → Shared → Prop) (Q : Bool → Shared → Prop),Q false s → wpAny (model P w) A (ofAClassStatement n v) Q E s
def HbvA (P : Program) (w : World) (n : Nat) (s : Shared) (v : Value) : Prop:=∀ (A : Around) (E : Value → Shared → Prop) (Q : Bool → Shared → Prop),(∀ b,Q b s) → wpAny (model P w) A (hashByValue n v) Q E s
theorem ClsA.tup {n m : Nat} {s : Shared} {a : Addr} {o : Obj} {vs : Array Value} (ho : s.heap.get? a = some o) (hc : o.cls = .type "tuple") (hd : o.data = .seq vs m) (hq : ∀ v ∈ vs.toList,ClsA P w n s v) : ClsA P w (n + 1) s (.ref a):=fun A E Q q=>by
  have ty : s.TypeIs (.ref a) "tuple":=⟨o,ho,hc⟩
  have e : (("tuple" : String) == "tuple") = true:=rfl
  unfold ofAClassStatement
  refine wpAny_bind (wpAny_typeOf ty ?_)
  simp only [e,if_true,Bool.not_true,Bool.false_eq_true,if_false,pure_bind]
  try refine wpAny_bind (wpAny_pure ?_)
  try simp only [Bool.not_true,Bool.false_eq_true,if_false]
  refine wpAny_bind (wpAny_seqItems ho hd ?_)
  dsimp only
  refine wpAny_bind (?_ : wpAny _ _ (forIn vs _ _) _ _ s)
  rw [← Array.forIn_toList]
  refine wpAny_forIn_list _ (fun l r s1=>r.1 = none ∧ s1 = s ∧ ∀ v ∈ l,ClsA P w n s v) _ (fun v l r s1=>?_) (fun r s1=>?_) _ _ ⟨rfl,rfl,hq⟩
  · rintro ⟨_,rfl,all⟩
    refine wpAny_bind (all v (by simp) _ _ _ ?_)
    simp only [Bool.false_eq_true,if_false]
    exact wpAny_pure ⟨rfl,rfl,fun u hu=>all u (by simp [hu])⟩
  · obtain ⟨r1,r2⟩:=r
    rintro ⟨z,rfl,_⟩
    simp only at z
    subst z
    exact wpAny_pure q
theorem HbvA.tup {n m : Nat} {s : Shared} {a : Addr} {o : Obj} {vs : Array Value} (ho : s.heap.get? a = some o) (hc : o.cls = .type "tuple") (hd : o.data = .seq vs m) (hq : ∀ v ∈ vs.toList,HbvA P w n s v) : HbvA P w (n + 1) s (.ref a):=fun A E Q q=>by
  have ty : s.TypeIs (.ref a) "tuple":=⟨o,ho,hc⟩
  unfold hashByValue
  refine wpAny_bind (wpAny_specialOf ty PySem.F.slot_tuple_hash.lookup ?_)
  refine wpAny_bind (?_ : wpAny _ _ (seqItems? (.ref a)) _ _ s)
  refine wpAny_seqItems ho hd ?_
  refine wpAny_bind (?_ : wpAny _ _ (forIn vs _ _) _ _ s)
  rw [← Array.forIn_toList]
  refine wpAny_forIn_list _ (fun l r s1=>(r.1 = none ∨ r.1 = some false) ∧ s1 = s ∧ ∀ v ∈ l,HbvA P w n s v) _ (fun v l r s1=>?_) (fun r s1=>?_) _ _ ⟨.inl rfl,rfl,hq⟩
  · rintro ⟨_,rfl,all⟩
    refine wpAny_bind (all v (by simp) _ _ _ fun b=>?_)
    cases b with
    | true =>
      simp only [Bool.not_true,Bool.false_eq_true,if_false]
      exact wpAny_pure ⟨.inl rfl,rfl,fun u hu=>all u (by simp [hu])⟩
    | false =>
      simp only [Bool.not_false,if_true]
      exact wpAny_pure (wpAny_pure (q false))
  · obtain ⟨r1,r2⟩:=r
    rintro ⟨z,rfl,_⟩
    simp only at z
    rcases z with rfl | rfl
    · exact wpAny_pure (q true)
    · exact wpAny_pure (q false)
end
end DL
end L2
namespace L2
namespace DL
open PySem PySem.Spec PyProof.Rows
structure Rnd (q : Nat) : Prop where
  all : ∀ x,x ≤ q → ∃ c,c ≤ q ∧ lcgN q c = x
  rnd : lcgN q (q + 1) = 0
def orb (q : Nat) : Nat → Nat → Nat → Nat
  | 0,_,acc=>acc
  | n + 1,x,acc=>orb q n ((x * 5 + 1) % (q + 1)) (acc ||| (1 <<< x))
theorem lcgI_next (q : Nat) : ∀ (n x : Nat),lcgI q x (n + 1) = lcgI q ((x * 5 + 1) % (q + 1)) n
  | 0,_=>rfl
  | n + 1,x=>by
    rw [lcgI,lcgI_next q n x]
    rfl
theorem orb_bit (q : Nat) : ∀ (n x acc y : Nat),(orb q n x acc).testBit y = true → acc.testBit y = true ∨ ∃ c,c < n ∧ lcgI q x c = y
  | 0,_,acc,y,h=>.inl h
  | n + 1,x,acc,y,h=>by
    rcases orb_bit q n _ _ y h with z | ⟨c,hc,e⟩
    · rw [Nat.testBit_or,Bool.or_eq_true] at z
      rcases z with z | z
      · exact .inl z
      · refine .inr ⟨0,Nat.succ_pos _,?_⟩
        rw [Nat.one_shiftLeft,Nat.testBit_two_pow] at z
        exact of_decide_eq_true z
    · exact .inr ⟨c + 1,Nat.succ_lt_succ hc,by rw [lcgI_next]; exact e⟩
theorem rnd_of {q : Nat} (h : orb q (q + 1) 0 0 = 2 ^ (q + 1) - 1) (r : lcgN q (q + 1) = 0) : Rnd q:=⟨fun x hx=>by
  have b : (orb q (q + 1) 0 0).testBit x = true:=by
    rw [h,Nat.testBit_two_pow_sub_one]
    exact decide_eq_true (Nat.lt_succ_of_le hx)
  rcases orb_bit q _ _ _ x b with z | ⟨c,hc,e⟩
  · rw [Nat.zero_testBit] at z; cases z
  · refine ⟨c,Nat.le_of_lt_succ hc,?_⟩
    have:=lcgN_add q 0 c
    rw [Nat.zero_add] at this
    rw [← this]
    exact e,r⟩
def MaskK (q : Nat) : Prop:=q = 7 ∨ q = 31 ∨ q = 127 ∨ q = 511 ∨ q = 2047
theorem MaskK.rnd {q : Nat} (h : MaskK q) : Rnd q:=by
  rcases h with rfl | rfl | rfl | rfl | rfl
  · exact rnd_of (by decide +kernel) (by decide +kernel)
  · exact rnd_of (by decide +kernel) (by decide +kernel)
  · exact rnd_of (by decide +kernel) (by decide +kernel)
  · exact rnd_of (by decide +kernel) (by decide +kernel)
  · exact rnd_of (by decide +kernel) (by decide +kernel)
theorem Rnd.again {q : Nat} (h : Rnd q) (c : Nat) : lcgN q (q + 1 + c) = lcgN q c:=by
  induction c with
  | zero=>exact h.rnd
  | succ c ih =>
    have e : lcgN q (q + 1 + (c + 1)) = (lcgN q (q + 1 + c) * 5 + 1) % (q + 1):=rfl
    rw [e,ih]
    rfl
theorem Rnd.meet {q : Nat} (h : Rnd q) {x y : Nat} (hx : x ≤ q) (hy : y ≤ q) : ∃ c,c ≤ q ∧ lcgI q x c = y:=by
  obtain ⟨a,ha,rfl⟩:=h.all x hx
  obtain ⟨b,hb,rfl⟩:=h.all y hy
  by_cases g : a ≤ b
  · exact ⟨b - a,by omega,by rw [lcgN_add,show a + (b - a) = b from by omega]⟩
  · exact ⟨q + 1 + b - a,by omega,by rw [lcgN_add,show a + (q + 1 + b - a) = q + 1 + b from by omega,h.again]⟩
theorem Rnd.run {q : Nat} (r : Rnd q) (g : Int) {y : Nat} (hy : y ≤ q) : ∃ n,n ≤ q + 12 ∧ runI q (SetTable.bits g) n = y:=by
  obtain ⟨c,hc,e⟩:=r.meet (runI_le q (SetTable.bits g) 12) hy
  refine ⟨12 + c,by omega,?_⟩
  rw [runI_tail (bits_lt g),e]
structure TabK (t : SetTable) (gs : List Int) : Prop where
  ris : Ris t.place.toList
  dm : t.dummies = #[]
  sz : t.place.size = gs.length
  mo : MaskK t.mask
  bd : ∀ y ∈ t.place.toList,y ≤ t.mask
  reach : ∀ (i : Nat) (g : Int) (y : Nat),gs[i]? = some g → t.place.toList[i]? = some y → ∃ c,way t.mask g c = y ∧ ∀ d,d < c → way t.mask g d ∈ t.place.toList
end DL
end L2
namespace L2
namespace DL
open PySem PySem.Spec PyProof.Rows
abbrev NRow:=Addr × NestedKey
def nrows (w : World) (L : List NRow) : List (Int × Value):=L.map fun p=>(p.2.hash w,Value.ref p.1)
def nhs (w : World) (L : List NRow) : List Int:=L.map fun p=>p.2.hash w
structure NSet (w : World) (h : Heap) (a : Addr) (L : List NRow) (es : Array (Int × Value)) (ep : Nat) (t : SetTable) : Prop where
  ob : ∃ o,h.get? a = some o ∧ o.ExactSet ∧ o.data = .set es ep t
  rows : es.toList = nrows w L
  tab : TabK t (nhs w L)
  nd : (L.map (·.2)).Nodup
  key : ∀ p ∈ L,NIs h p.2 p.1
  led : w.params.followText "set-order" = true ∨ t.led = true
  room : L.length * 5 < t.mask * 3
  few : L.length < 1200
end DL
end L2
namespace L2
namespace DL
open PySem PySem.Spec PyProof.Rows
end DL
end L2
namespace L2
namespace DL
open PySem PySem.Spec PyProof.Rows
section
variable {α : Type} [DecidableEq α]
def metG : List α → List α → List α
  | acc,[]=>acc
  | acc,x :: xs=>metG (if x ∈ acc then acc else x :: acc) xs
end
def NAt (w : World) (ks : List NRow) (h : Heap) (a : Addr) (m : List NestedKey) : Prop:=∃ L es ep t,NSet w h a L es ep t ∧ (∀ p ∈ L,p ∈ ks) ∧ (L.map (·.2)).Perm m
theorem NAt.keep {w : World} {ks : List NRow} {h h' : Heap} {a : Addr} {m : List NestedKey} (T : NAt w ks h a m) (k : ∀ o,h.get? a = some o → h'.get? a = some o) (q : ∀ p ∈ ks,NIs h' p.2 p.1) : NAt w ks h' a m:=by
  obtain ⟨L,es,ep,t,R,sub,pm⟩:=T
  obtain ⟨o,ho,r⟩:=R.ob
  exact ⟨L,es,ep,t,{ R with ob:=⟨o,k o ho,r⟩,key:=fun p hp=>q p (sub p hp) },sub,pm⟩
theorem NAt.new {w : World} {ks : List NRow} {h : Heap} {a : Addr} (ho : h.get? a = some (newSet w)) : NAt w ks h a []:=by
  refine ⟨[],#[],0,.fresh 0 0 (!w.params.followText "set-order"),⟨⟨_,ho,⟨rfl,rfl,rfl⟩,rfl⟩,rfl,⟨List.Pairwise.nil,rfl,rfl,.inl rfl,(fun x hx=>nomatch hx),(fun i h j hi=>by simp [nhs] at hi)⟩,List.nodup_nil,(fun p hp=>nomatch hp),?_,(by show 0 * 5 < 7 * 3; decide),(by show 0 < 1200; decide)⟩,(fun p hp=>nomatch hp),.refl _⟩
  show _ ∨ (!w.params.followText "set-order") = true
  cases w.params.followText "set-order" <;> simp
end DL
end L2
namespace L2
namespace DL
open PySem PySem.Spec PyProof.Rows PySem.Calls PySem.SeqAt PySem.W
end DL
end L2
namespace L2
namespace DL
open PySem PySem.Spec PyProof.Rows
mutual
def keyOf : D → Option NestedKey
  | .none=>some .none
  | .int i=>some (.num i)
  | .str x=>some (.text x)
  | .tuple ds=>(keysOf ds).map .tup
  | .bool _=>none
  | .list _=>none
  | .dict _=>none
def keysOf : List D → Option (List NestedKey)
  | []=>some []
  | d :: ds=>(keyOf d).bind fun k=>(keysOf ds).map (k :: ·)
end
def isTupK : NestedKey → Bool
  | .tup _=>true
  | _=>false
def kOk (ks : List NestedKey) : Bool:=decide (ks.length < 20000) && (decide ((metG [] ks).length < 1100) && (ks.all isTupK && ks.all fun k=>decide (k.depth ≤ 8)))
def setK (d : D) : Option (List NestedKey):=(seqD d).bind fun ds=>(keysOf ds).bind fun ks=>if kOk ks = true then some (metG [] ks) else none
def strictB : List D → Bool
  | []=>true
  | x :: xs=>(xs.all fun y=>!dLe y x) && strictB xs
def tupQ : D → Bool
  | .tuple _=>true
  | _=>false
def oneT (ds : List D) : Bool:=(ds.all fun d=>ds.all fun d'=>PySem.W.alike d d') && (ds.all tupQ && ds.all SeqAt.shaped)
def sortSetE (d : D) : Option Xv:=match sortSetD d with
  | some v=>some v
  | none=>(setK d).bind fun l=>if ((sortOk (NestedKey.datas l) || oneT (NestedKey.datas l)) && strictB (isort (NestedKey.datas l))) = true then some (.o (.list (isort (NestedKey.datas l)))) else none
end DL
end L2
namespace L2
namespace DL
open PySem PySem.Spec PyProof.Rows PySem.Calls
end DL
end L2
namespace L2
namespace DL
open PySem PySem.Spec PyProof.Rows
end DL
end L2
namespace L2
namespace DL
open PySem PySem.Spec PyProof.Rows
end DL
end L2
namespace L2
namespace DL
open PySem PySem.Spec PyProof.Rows
def enumER : D → R (List D)
  | .list ds=>.ok (numbered 0 ds)
  | .tuple ds=>.ok (numbered 0 ds)
  | _=>.bad
@[simp] theorem enumER_l (xs : List D) : enumER (.list xs) = .ok (numbered 0 xs):=id rfl
@[simp] theorem enumER_t (xs : List D) : enumER (.tuple xs) = .ok (numbered 0 xs):=id rfl
end DL
end L2
namespace L2
namespace DL
open PySem PySem.Spec PyProof.Rows
end DL
end L2
namespace L2
namespace DL
open PySem PySem.Spec PyProof.Rows
def isTupD : Option D → Bool
  | some (.tuple _)=>true
  | _=>false
def isLisD : Option D → Bool
  | some (.list _)=>true
  | _=>false
section
variable {X : Cx} {pa : Pa} {W : WX} {a b : Expr} {f g : M Pv} {apos cpos : Pos}
theorem FzT.is {pins : List (Addr × Obj)} {s : Shared} {σ : St} {H : Hp} {p : Addr} {xs : List V} (I : Inv X pins σ H s) (h : FzT X.kw H p xs) : s.TypeIs (.ref p) "tuple" ∧ ∃ ob,s.heap.get? p = some ob ∧ ob.dict = none:=by
  obtain ⟨its,rv,⟨o,e1,e2,_⟩,_⟩:=I.tuple h.sq
  refine ⟨⟨o,e1,e2⟩,o,e1,?_⟩
  rcases h with ⟨ob,h1,h2⟩ | ⟨ob,_,_,h1,h2,h3,_⟩
  · have:=(I.hok p _ h1).1
    rw [e1] at this
    cases this
    exact h2
  · have:=I.kIn _ _ h1
    rw [e1] at this
    cases this
    exact h3
end
end DL
end L2
namespace L2
namespace DL
open PySem PySem.Spec PyProof.Rows
def tupR (d : D) : R Unit:=if isTupD (some d) then .ok () else .bad
def lisR (d : D) : R Unit:=if isLisD (some d) then .ok () else .bad
@[simp] theorem tupR_t (xs : List D) : tupR (.tuple xs) = .ok ():=id rfl
@[simp] theorem lisR_l (xs : List D) : lisR (.list xs) = .ok ():=id rfl
end DL
end L2
namespace L2
namespace DL
open PySem PySem.Spec PyProof.Rows
end DL
end L2
namespace L2
namespace DL
open PySem PySem.Spec PyProof.Rows
theorem o1_sortE {d x : D} (h : o1 sortSetD d = .ok x) : o1 sortSetE d = .ok x:=by
  unfold o1 at h ⊢
  unfold sortSetE
  cases q : sortSetD d with
  | none=>rw [q] at h; cases h
  | some v=>rw [q] at h; exact h
end DL
end L2
namespace L2
namespace DL
open PySem PySem.Spec PyProof.Rows
section
variable {prog : Program} {w : World} {A : Around} {E : Value → Shared → Prop} {s : Shared} {z TI TO i1 i2 T : Addr} {fp1 fp2 : List Addr} {n1 n2 i : Nat} {P1 P2 : Nat → Value → Prop} {St1 St2 : Nat → Heap → Prop} {f : Bool} {a1 a2 : Value}
def ZG (z TI TO i1 i2 : Addr) (h : Heap) : Prop :=
  IsTupOf2 h TI (.ref i1) (.ref i2) ∧ (∃ a b,IsTupOf2 h TO a b) ∧ (IsZip h z TI TO .none ∨ ∃ (T : Addr) (f : Bool),IsZipHeld h z TI TO T f)
theorem ZG.ty {x : Shared} (h : ZG z TI TO i1 i2 x.heap) : x.TypeIs (.ref z) "zip":=by
  obtain ⟨_,_,g | ⟨T,f,g⟩⟩:=h
  · exact ⟨_,g,rfl⟩
  · exact ⟨_,g,rfl⟩
end
end DL
end L2
namespace L2
namespace DL
open PySem PySem.Spec PyProof.Rows
def enumZR (d d' : D) : R (List D):=match d,d' with
  | .list xs,.list ys=>.ok (numbered 0 (zipP xs ys))
  | _,_=>.bad
@[simp] theorem enumZR_l (xs ys : List D) : enumZR (.list xs) (.list ys) = .ok (numbered 0 (zipP xs ys)):=id rfl
end DL
end L2
namespace L2
namespace DL
open PySem PySem.Spec PyProof.Rows
end DL
end L2
namespace L2
namespace DL
open PySem PySem.Spec PyProof.Rows
end DL
end L2
namespace L2
namespace DL
open PySem PySem.Spec PyProof.Rows
end DL
end L2
namespace L2
namespace DL
open PySem PySem.Spec PyProof.Rows
end DL
end L2
namespace L2
namespace DL
open PySem PySem.Spec PyProof.Rows
section
variable {X : Cx}
def notBE (d e : D) : Option Xv:=match d,e with
  | .none,.bool _=>some (.s (.bool true))
  | d,e=>notBD d e
end
end DL
end L2
namespace L2
namespace DL
open PySem PySem.Spec PyProof.Rows
@[simp] theorem o2_notBE (b c : Bool) : o2 notBE (.bool b) (.bool c) = .ok (.bool (!(b == c))):=id rfl
@[simp] theorem o2_notBEn (c : Bool) : o2 notBE .none (.bool c) = .ok (.bool true):=id rfl
end DL
end L2
namespace L2
namespace DL
open PySem PySem.Spec PyProof.Rows
section
variable {K : KW} {pa : Pa} {σ0 σ σ' : St} {H0 H H' : Hp} {e0 e : Ev} {i : Nat}
theorem Tr.fresh (R : Rel K pa σ H e) (hi : e[i]? = some .u) (hs : ∀ j,j ≠ i → σ'[j]? = σ[j]?) (hl : σ'.length = σ.length) (hh : Same H H') : Tr K pa σ H e σ' H' e:=by
  have ni : ∀ {j : Nat} {x : Sl},e[j]? = some x → x ≠ .u → j ≠ i:=fun h n z=>by
    subst z; rw [hi] at h; cases h; exact n rfl
  have g : Grow H H':=gsame hh
  have bn : BNe σ H e σ' H' e:=⟨fun j t d h=>⟨h,hs j (ni h (by intro z; cases z))⟩,fun _ _ h=>h,hk_same hh⟩
  have own : ∀ b,Own σ' e b → Own σ e b:=fun b ⟨j,t,d,h1,h2⟩=>⟨j,t,d,h1,by rw [← hs j (ni h1 (by intro z; cases z))]; exact h2⟩
  refine ⟨⟨fun j d h=>?_,fun j t d h=>?_,fun j k t t' d d' b h1 h2 h3 h4=>?_,hl.trans R.ln,fun j p h=>?_,tsame hh R.tb,bn.rel g R.bd⟩,fun b x h _ _=>hh b x h,fun b h=>hh.free h,fun b h=>.inl (own b h),g,fun _=>Iff.rfl,hl,bn.tr R.bd⟩
  · obtain ⟨v,h1,h2⟩:=R.sh j d h
    exact ⟨v,by rw [hs j (ni h (by intro z; cases z))]; exact h1,h2.mono g⟩
  · obtain ⟨a,h1,h2,h3⟩:=R.ow j t d h
    refine ⟨a,by rw [hs j (ni h (by intro z; cases z))]; exact h1,h2.keep g ?_,h3⟩
    rcases h2.loose with ⟨vs,q⟩ | ⟨ks,q⟩ | ⟨φ,q⟩ <;> rw [q,hh _ _ q]
  · exact R.ap j k t t' d d' b h1 h2 (by rw [← hs j (ni h1 (by intro z; cases z))]; exact h3) (by rw [← hs k (ni h2 (by intro z; cases z))]; exact h4)
  · obtain ⟨a,h1,h2⟩:=R.xc j p h
    exact ⟨a,by rw [hs j (ni h (by intro z; cases z))]; exact h1,h2.mono g⟩
def NL (K : KW) (i : Nat) (H0 : Hp) (σ : St) (H : Hp) (e : Ev) (dss ds : List D) : Prop :=
  ∃ a vs b ws,σ[i]? = some (some (.ref a)) ∧ H a = some (.lst (vs ++ [.ref b])) ∧ DenAll K H vs dss ∧ H b = some (.lst ws) ∧ DenAll K H ws ds ∧ a ≠ b ∧ ¬ Own σ e a ∧ ¬ Own σ e b ∧ H0 a = none ∧ H0 b = none
theorem NL.tr {e' : Ev} {dss ds : List D} (N : NL K i H0 σ H e dss ds) (T : Tr K pa σ H e σ' H' e') (hs : σ'[i]? = σ[i]?) : NL K i H0 σ' H' e' dss ds:=by
  obtain ⟨a,vs,b,ws,h1,h2,h3,h4,h5,h6,h7,h8,h9,h10⟩:=N
  refine ⟨a,vs,b,ws,hs.trans h1,T.fr _ _ h2 h7 nt_lst,h3.mono T.gr,T.fr _ _ h4 h8 nt_lst,h5.mono T.gr,h6,fun z=>?_,fun z=>?_,h9,h10⟩
  · rcases T.ow _ z with q | q
    · exact h7 q
    · rw [h2] at q; cases q
  · rcases T.ow _ z with q | q
    · exact h8 q
    · rw [h4] at q; cases q
end
end DL
end L2
namespace L2
namespace DL
open PySem PySem.Spec PyProof.Rows
end DL
end L2
namespace L2
namespace DL
open PySem PySem.Spec PyProof.Rows
end DL
end L2
namespace L2
namespace DL
open PySem PySem.Spec PyProof.Rows
end DL
end L2
namespace L2
namespace DL
open PySem PySem.Spec PyProof.Rows
end DL
end L2
namespace L2
namespace DL
open PySem PySem.Spec PyProof.Rows
end DL
end L2
namespace L2
namespace DL
open PySem PySem.Spec PyProof.Rows
end DL
end L2
namespace L2
namespace DL
open PySem PySem.Spec PyProof.Rows
def NTb (u : HO) : Prop:=∀ ps,u ≠ .tbl ps
structure StepT (T : List (Addr × Str)) (H H' : Hp) : Prop where
  fr : ∀ b x,H b = some x → NTb x → H' b = some x
  nn : ∀ b,H' b = none → H b = none
  tb : LamX.Tabs T H'
theorem StepT.grow {T : List (Addr × Str)} {H H' : Hp} (s : StepT T H H') : Grow H H':=⟨fun b u h st=>s.fr b u h st.2.2.1⟩
theorem StepT.tr {K : KW} {pa : Pa} {σ : St} {H H' : Hp} {e : Ev} (R : Rel K pa σ H e) (s : StepT pa.T H H') : Tr K pa σ H e σ H' e :=
  have hk : ∀ b x,H b = some x → BK x → H' b = some x:=fun b x h k=>s.fr b x h k.ntb
  ⟨callTr_keep R s.grow s.tb (fun b x h _ nt=>s.fr b x h nt.1) hk,fun b x h _ nt=>s.fr b x h nt.1,s.nn,fun b h=>.inl h,s.grow,fun _=>Iff.rfl,rfl,(BNe.hp hk).tr R.bd⟩
end DL
end L2
namespace L2
namespace DL
open PySem PySem.Spec PyProof.Rows
end DL
end L2
namespace L2
namespace DL
open PySem PySem.Spec PyProof.Rows
end DL
end L2
namespace L2
namespace DL
open PySem PySem.Spec PyProof.Rows
inductive ZK where
  | tup | lst
def ZK.is : ZK → Heap → Addr → List Value → Prop
  | .tup,h,a,us=>h.IsTuple a us.toArray
  | .lst,h,a,us=>h.IsList a us.toArray
def ZK.st : ZK → Addr → Addr → List Value → Nat → Heap → Prop
  | .tup,i,a,us,n,h=>h.IsTupleIter i a n ∧ h.IsTuple a us.toArray
  | .lst,i,a,us,n,h=>h.IsListIter i a n ∧ h.IsList a us.toArray
theorem ZK.keep (k : ZK) {h h' : Heap} {a : Addr} {us : List Value} (g : k.is h a us) (kp : ∀ o,h.get? a = some o → h'.get? a = some o) : k.is h' a us:=by
  cases k
  · exact (show h.IsTuple a us.toArray from g).at fun o e=>kp o e
  · exact (show h.IsList a us.toArray from g).at fun o e=>kp o e
theorem ZK.lt (k : ZK) {h : Heap} {a : Addr} {us : List Value} (g : k.is h a us) : a < h.objs.size:=by
  cases k
  · obtain ⟨_,e,_⟩:=(show h.IsTuple a us.toArray from g); exact Heap.lt_size e
  · obtain ⟨_,e,_⟩:=(show h.IsList a us.toArray from g); exact Heap.lt_size e
end DL
end L2
namespace L2
namespace DL
open PySem PySem.Spec PyProof.Rows
def SeqR (K : KW) (H : Hp) (a : Addr) (xs : List V) : Prop:=SqT K H a xs ∨ SqL K H a xs
def zseqD : D → Option (List D)
  | .tuple ds=>some ds
  | .list ds=>some ds
  | _=>none
section
variable {X : Cx} {pins : List (Addr × Obj)} {σ : St} {H : Hp} {s : Shared}
theorem SeqR.val (I : Inv X pins σ H s) {a : Addr} {xs : List V} (h : SeqR X.kw H a xs) : ∃ (k : ZK) (us : List Value),Vals xs us ∧ k.is s.heap a us ∧ us.length ≤ sizeLine:=by
  rcases h with h | h
  · obtain ⟨us,rv,p,z⟩:=I.tuple h
    exact ⟨.tup,us,rv,p,by have:=rv.length; omega⟩
  · obtain ⟨us,rv,p,z⟩:=I.list h
    exact ⟨.lst,us,rv,p.isList,by have:=rv.length; omega⟩
theorem Rdb.seq {K : KW} {v : V} {d : D} {ds : List D} (h : Rdb K H v d) (e : zseqD d = some ds) : ∃ a xs,v = .ref a ∧ SeqR K H a xs ∧ DenAll K H xs ds:=by
  cases d <;> try cases e
  · obtain ⟨a,xs,rfl,h1,h2⟩:=h.lst
    exact ⟨a,xs,rfl,.inr (.inl h1),h2⟩
  · obtain ⟨a,xs,rfl,h1,h2⟩:=h.tup
    exact ⟨a,xs,rfl,.inl h1.sq,h2⟩
end
end DL
end L2
namespace L2
namespace DL
open PySem PySem.Spec PyProof.Rows PySem.Calls PySem.SeqAt PySem.W
end DL
end L2
namespace L2
namespace DL
open PySem PySem.Spec PyProof.Rows PySem.Calls PySem.SeqAt PySem.W
end DL
end L2
namespace L2
namespace DL
open PySem PySem.Spec PyProof.Rows
end DL
end L2
namespace L2
namespace DL
open PySem PySem.Spec PyProof.Rows
end DL
end L2
namespace L2
namespace DL
open PySem PySem.Spec PyProof.Rows
end DL
end L2
namespace L2
namespace DL
open PySem PySem.Spec PyProof.Rows
def getN : List (D × D) → NestedKey → Option D
  | [],_=>none
  | (a,d) :: kvs,k=>if keyOf a = some k then some d else getN kvs k
def tupK (d : D) : Option NestedKey:=match keyOf d with
  | some (.tup js)=>if (NestedKey.tup js).depth ≤ 8 then some (.tup js) else none
  | _=>none
theorem tupK_some {d : D} {k : NestedKey} (h : tupK d = some k) : keyOf d = some k ∧ k.depth ≤ 8:=by
  unfold tupK at h
  split at h
  · next js e =>
    split at h
    · next z=>cases h; exact ⟨e,z⟩
    · cases h
  · cases h
section
variable {X : Cx} {pins : List (Addr × Obj)} {σ : St} {H : Hp} {s : Shared}
def ntb (kvs : List (D × D)) : Bool:=nkv kvs || kvs.isEmpty
end
end DL
end L2
namespace L2
namespace DL
open PySem PySem.Spec PyProof.Rows
end DL
end L2
namespace L2
namespace DL
open PySem PySem.Spec PyProof.Rows
end DL
end L2
namespace L2
namespace DL
open PySem PySem.Spec PyProof.Rows
end DL
end L2
namespace L2
namespace DL
open PySem PySem.Spec PyProof.Rows
end DL
end L2
namespace L2
namespace DL
open PySem PySem.Spec PyProof.Rows
end DL
end L2
namespace L2
namespace DL
open PySem PySem.Spec PyProof.Rows PySem.Calls PySem.SeqAt PySem.W
def palT : D → D → Bool
  | .tuple (x :: xs),.tuple (y :: ys)=>PySem.W.alike x y && (!PyData.eqv x y || PySem.W.alikeAll xs ys)
  | _,_=>false
end DL
end L2
namespace L2
namespace DL
open PySem PySem.Spec PyProof.Rows
def sortOkQ (ds : List D) : Bool:=(ds.all fun d=>ds.all fun d'=>palT d d') && ds.all SeqAt.shaped
def sortAny (ds : List D) : Bool:=(sortOk ds || oneT ds) || sortOkQ ds
end DL
end L2
namespace L2
namespace DL
open PySem PySem.Spec PyProof.Rows
end DL
end L2
namespace L2
namespace DL
open PySem PySem.Spec PyProof.Rows
end DL
end L2
namespace L2
namespace DL
open PySem PySem.Spec PyProof.Rows
end DL
end L2
namespace L2
namespace DL
open PySem PySem.Spec PyProof.Rows
end DL
end L2
namespace L2
namespace DL
open PySem PySem.Spec PyProof.Rows
end DL
end L2
namespace L2
namespace DL
open PySem PySem.Spec PyProof.Rows
end DL
end L2
namespace L2
namespace DL
open PySem PySem.Spec PyProof.Rows
end DL
end L2
namespace L2
namespace DL
open PySem PySem.Spec PyProof.Rows
def NhA (X : Cx) (A : Addr) (H : Hp) (xs : List (NestedKey × Addr × V)) (kvs : List (D × D)) : Prop:=(H A = some (NHO X.prog X.w A xs) ∧ nkv kvs = true) ∨ (H A = some (.dK []) ∧ xs = [])
section
variable {X : Cx} {A : Addr} {H H' : Hp} {xs : List (NestedKey × Addr × V)} {kvs : List (D × D)}
theorem NhA.frame (h : NhA X A H xs kvs) (f : ∀ u,H A = some u → NT u → H' A = some u) : NhA X A H' xs kvs:=h.imp (fun ⟨q,n⟩=>⟨f _ q nt_nhX,n⟩) fun ⟨q,e⟩=>⟨f _ q nt_dK,e⟩
theorem NhA.loose (h : NhA X A H xs kvs) : Loose H A:=by
  rcases h with ⟨q,_⟩ | ⟨q,_⟩
  · exact .inr (.inr ⟨nhoX X.prog X.w A xs,q⟩)
  · exact .inr (.inl ⟨_,q⟩)
theorem NhA.ntb (h : NhA X A H xs kvs) (d : DenN X.kw H xs kvs) : DL.ntb kvs = true:=by
  rcases h with ⟨_,n⟩ | ⟨_,e⟩
  · unfold DL.ntb
    rw [n]
    rfl
  · subst e
    cases d
    rfl
theorem NhA.grow {w : HO} (h : NhA X A H xs kvs) : Grow H (upd H A w):=by
  rcases h with ⟨q,_⟩ | ⟨q,_⟩
  · exact grow_frz q (.inr (.inr ⟨nhoX X.prog X.w A xs,rfl⟩))
  · exact grow_frz q (.inr (.inl ⟨_,rfl⟩))
theorem NhA.own (h : NhA X A H xs kvs) (d : DenN X.kw H xs kvs) : OwnAt X.kw H A (.dict kvs):=by
  rcases h with ⟨q,n⟩ | ⟨q,e⟩
  · exact .inr ⟨n,xs,q,d⟩
  · subst e
    cases d
    exact .inl ⟨[],q,.nil⟩
end
end DL
end L2
namespace L2
namespace DL
open PySem PySem.Spec PyProof.Rows
end DL
end L2
namespace L2
namespace DL
open PySem PySem.Spec PyProof.Rows
end DL
end L2
namespace L2
namespace DL
open PySem PySem.Spec PyProof.Rows
end DL
end L2
namespace L2
namespace DL
open PySem PySem.Spec PyProof.Rows
end DL
end L2
namespace L2
namespace DL
open PySem PySem.Spec PyProof.Rows
def nilB (d e : D) : Option Bool:=match d,e with
  | .list xs,.list ys=>if ys.isEmpty = true then some xs.isEmpty else none
  | _,_=>none
def eqL (d e : D) : Option Xv:=match nilB d e with
  | some b=>some (.s (.bool b))
  | none=>eqE d e
def neL (d e : D) : Option Xv:=match nilB d e with
  | some b=>some (.s (.bool (!b)))
  | none=>neD d e
@[simp] theorem o2_eqL (xs : List D) : o2 eqL (.list xs) (.list []) = .ok (.bool xs.isEmpty):=id rfl
@[simp] theorem o2_neL (xs : List D) : o2 neL (.list xs) (.list []) = .ok (.bool (!xs.isEmpty)):=id rfl
end DL
end L2
namespace L2
namespace DL
open PySem PySem.Spec PyProof.Rows
end DL
end L2
namespace L2
namespace DL
open PySem PySem.Spec PyProof.Rows
end DL
end L2
namespace L2
namespace DL
open PySem PySem.Spec PyProof.Rows
end DL
end L2
namespace L2
namespace DL
open PySem PySem.Spec PyProof.Rows
def lenN : D → Nat
  | .tuple ds=>ds.length
  | .list ds=>ds.length
  | _=>0
def keyL (d : D) : D:=.int (lenN d)
end DL
end L2
namespace L2
namespace DL
open PySem PySem.Spec PyProof.Rows
section
variable {X : Cx} {pins : List (Addr × Obj)} {σ : St} {H : Hp} {s : Shared} {d : Addr} {o : Obj}
theorem DenN.length {K : KW} {H : Hp} : ∀ {xs : List (NestedKey × Addr × V)} {kvs : List (D × D)},DenN K H xs kvs → xs.length = kvs.length
  | _,_,.nil=>rfl
  | _,_,.cons _ _ _ r=>by rw [List.length_cons,List.length_cons,DenN.length r]
end
end DL
end L2
namespace L2
namespace DL
open PySem PySem.Spec PyProof.Rows
structure Rw where
  k : NestedKey
  c : Addr
  b : Addr
  ws : List V
  kd : D
  ds : List D
abbrev rwX (r : Rw) : NestedKey × Addr × V:=(r.k,r.c,.ref r.b)
structure RwOk (K : KW) (H0 H : Hp) (r : Rw) : Prop where
  tk : tupK r.kd = some r.k
  kn : Den K H (.ref r.c) r.kd
  ls : H r.b = some (.lst r.ws)
  al : DenAll K H r.ws r.ds
  fr : H0 r.b = none
structure BKd (K : KW) (H0 H : Hp) (a : Addr) (rows : List Rw) : Prop where
  ob : H a = some (NHO K.prog K.w a (rows.map rwX))
  fr : H0 a = none
  rw_ : ∀ r ∈ rows,RwOk K H0 H r
  nb : (rows.map (·.b)).Nodup
  nk : (rows.map (·.k)).Nodup
end DL
end L2
namespace L2
namespace DL
open PySem PySem.Spec PyProof.Rows
section
variable {X : Cx} {pa : Pa} {W : WX} {σ : St} {H : Hp}
theorem RwOk.mono {K : KW} {H0 H H' : Hp} {r : Rw} (o : RwOk K H0 H r) (g : Grow H H') (l : H' r.b = H r.b) : RwOk K H0 H' r:=⟨o.tk,o.kn.mono g,l.trans o.ls,o.al.mono g,o.fr⟩
theorem BKd.keep {K : KW} {H0 H H' : Hp} {a : Addr} {rows : List Rw} (B : BKd K H0 H a rows) (sm : Same H H') : BKd K H0 H' a rows :=
  ⟨sm _ _ B.ob,B.fr,fun r hr=>(B.rw_ r hr).mono (gsame sm) ((sm _ _ (B.rw_ r hr).ls).trans (B.rw_ r hr).ls.symm),B.nb,B.nk⟩
end
end DL
end L2
namespace L2
namespace DL
open PySem PySem.Spec PyProof.Rows
theorem set_self_eq {α : Type} {l : List α} {n : Nat} {a : α} (h : l[n]? = some a) : l.set n a = l:=by
  apply List.ext_getElem?
  intro m
  by_cases z : n = m
  · subst z
    rw [List.getElem?_set_self (List.getElem?_eq_some_iff.mp h).1,h]
  · rw [List.getElem?_set_ne z]
theorem BKd.base {K : KW} {H0 H1 H : Hp} {a : Addr} {rows : List Rw} (B : BKd K H1 H a rows) (h : ∀ b,H1 b = none → H0 b = none) : BKd K H0 H a rows :=
  ⟨B.ob,h _ B.fr,fun r hr=>⟨(B.rw_ r hr).tk,(B.rw_ r hr).kn,(B.rw_ r hr).ls,(B.rw_ r hr).al,h _ (B.rw_ r hr).fr⟩,B.nb,B.nk⟩
def psh (r : Rw) (v : V) (x : D) : Rw:={ r with ws:=r.ws ++ [v],ds:=r.ds ++ [x] }
theorem nodup_at {α : Type} : ∀ {l : List α} {i j : Nat} {a : α},l.Nodup → l[i]? = some a → l[j]? = some a → i = j
  | [],i,_,_,_,h,_=>by simp at h
  | b :: l,0,0,_,_,_,_=>rfl
  | b :: l,0,j + 1,a,nd,h1,h2=>by
    simp at h1 h2
    subst h1
    rw [List.nodup_cons] at nd
    exact (nd.1 (List.mem_of_getElem? h2)).elim
  | b :: l,i + 1,0,a,nd,h1,h2=>by
    simp at h1 h2
    subst h2
    rw [List.nodup_cons] at nd
    exact (nd.1 (List.mem_of_getElem? h1)).elim
  | b :: l,i + 1,j + 1,a,nd,h1,h2=>by
    simp at h1 h2
    rw [List.nodup_cons] at nd
    rw [nodup_at nd.2 h1 h2]
theorem BKd.push {K : KW} {H0 H : Hp} {a : Addr} {rows : List Rw} {n : Nat} {r : Rw} {v : V} {x : D} (B : BKd K H0 H a rows) (hr : rows[n]? = some r) (g : Grow H (upd H r.b (.lst (r.ws ++ [v])))) (hv : Den K H v x) : BKd K H0 (upd H r.b (.lst (r.ws ++ [v]))) a (rows.set n (psh r v x)):=by
  have R:=B.rw_ r (List.mem_of_getElem? hr)
  have ab : a ≠ r.b:=fun z=>by have:=B.ob; rw [z,R.ls] at this; cases this
  have em : ∀ {α : Type} (f : Rw → α),f (psh r v x) = f r → (rows.set n (psh r v x)).map f = rows.map f:=fun f e=>by
    rw [List.map_set,e]
    exact set_self_eq (by rw [List.getElem?_map,hr]; rfl)
  refine ⟨by rw [upd_ne ab,B.ob,em rwX rfl],B.fr,fun y hy=>?_,by rw [em (·.b) rfl]; exact B.nb,by rw [em (·.k) rfl]; exact B.nk⟩
  obtain ⟨m,hm⟩:=List.mem_iff_getElem?.mp hy
  by_cases z : n = m
  · subst z
    rw [List.getElem?_set_self (List.getElem?_eq_some_iff.mp hr).1] at hm
    cases hm
    exact ⟨R.tk,R.kn.mono g,upd_same,(R.al.mono g).snoc (hv.mono g),R.fr⟩
  · rw [List.getElem?_set_ne z] at hm
    have Y:=B.rw_ y (List.mem_of_getElem? hm)
    refine Y.mono g (upd_ne fun e=>z ?_)
    exact nodup_at B.nb (by rw [List.getElem?_map,hr]; rfl) (by rw [List.getElem?_map,hm,Option.map_some,e])
section
variable {K : KW} {pa : Pa} {σ0 σ σ' : St} {H0 H H' : Hp} {e0 e e' : Ev} {i : Nat}
def NB (K : KW) (i : Nat) (H0 : Hp) (σ : St) (H : Hp) (e : Ev) (dr : List (D × List D)) : Prop :=
  ∃ a rows,σ[i]? = some (some (.ref a)) ∧ BKd K H0 H a rows ∧ ¬ Own σ e a ∧ (∀ r ∈ rows,¬ Own σ e r.b) ∧ rows.map (fun r=>(r.kd,r.ds)) = dr
theorem nt_nho {P : Program} {w : World} {a : Addr} {xs : List (NestedKey × Addr × V)} : NT (NHO P w a xs):=nt_nhX
theorem NB.tr {dr : List (D × List D)} (N : NB K i H0 σ H e dr) (T : Tr K pa σ H e σ' H' e') (hs : σ'[i]? = σ[i]?) : NB K i H0 σ' H' e' dr:=by
  obtain ⟨a,rows,h1,B,h2,h3,h4⟩:=N
  have ls : ∀ r ∈ rows,H' r.b = H r.b:=fun r hr=>by
    rw [(B.rw_ r hr).ls]
    exact T.fr _ _ (B.rw_ r hr).ls (h3 r hr) nt_lst
  refine ⟨a,rows,hs.trans h1,⟨T.fr _ _ B.ob h2 nt_nho,B.fr,fun r hr=>(B.rw_ r hr).mono T.gr (ls r hr),B.nb,B.nk⟩,fun z=>?_,fun r hr z=>?_,h4⟩
  · rcases T.ow _ z with q | q
    · exact h2 q
    · rw [B.ob] at q; cases q
  · rcases T.ow _ z with q | q
    · exact h3 r hr q
    · rw [(B.rw_ r hr).ls] at q; cases q
end
end DL
end L2
namespace L2
namespace DL
open PySem PySem.Spec PyProof.Rows
end DL
end L2
namespace L2
namespace DL
open PySem PySem.Spec PyProof.Rows
end DL
end L2
namespace L2
namespace DL
open PySem PySem.Spec PyProof.Rows
end DL
end L2
namespace L2
namespace DL
open PySem PySem.Spec PyProof.Rows
end DL
end L2
namespace L2
namespace DL
open PySem PySem.Spec PyProof.Rows PySem.Calls
def sortSetX (d : D) : Option Xv:=match sortSetD d with
  | some v=>some v
  | none=>(setK d).bind fun l=>if (sortAny (NestedKey.datas l) && strictB (isort (NestedKey.datas l))) = true then some (.o (.list (isort (NestedKey.datas l)))) else none
end DL
end L2
namespace L2
namespace DL
open PySem PySem.Spec PyProof.Rows
end DL
end L2
namespace L2
namespace DL
open PySem PySem.Spec PyProof.Rows
end DL
end L2
namespace L2
namespace DL
open PySem PySem.Spec PyProof.Rows
end DL
end L2
namespace L2
namespace DL
open PySem PySem.Spec PyProof.Rows
end DL
end L2
namespace L2
namespace DL
open PySem PySem.Spec PyProof.Rows
section
variable {X : Cx}
def isBE (d e : D) : Option Xv:=match d,e with
  | .none,.bool _=>some (.s (.bool false))
  | d,e=>isBD d e
end
@[simp] theorem o2_isBE (b c : Bool) : o2 isBE (.bool b) (.bool c) = .ok (.bool (b == c)):=id rfl
@[simp] theorem o2_isBEn (c : Bool) : o2 isBE .none (.bool c) = .ok (.bool false):=id rfl
end DL
end L2
namespace L2
namespace DL
open PySem PySem.Spec PyProof.Rows
end DL
end L2
namespace L2
namespace DL
open PySem PySem.Spec PyProof.Rows
end DL
end L2
namespace L2
namespace DL
open PySem PySem.Spec PyProof.Rows
end DL
end L2
namespace L2
namespace DL
open PySem PySem.Spec PyProof.Rows
end DL
end L2
namespace L2
namespace DL
open PySem PySem.Spec PyProof.Rows
end DL
end L2
namespace L2
namespace DL
open PySem PySem.Spec PyProof.Rows
end DL
end L2
namespace L2
namespace DL
open PySem PySem.Spec PyProof.Rows
end DL
end L2
namespace L2
namespace DL
open PySem PySem.Spec PyProof.Rows
end DL
end L2
namespace L2
namespace DL
open PySem PySem.Spec PyProof.Rows
end DL
end L2
namespace L2
namespace DL
open PySem PySem.Spec PyProof.Rows
end DL
end L2
namespace L2
namespace DL
open PySem PySem.Spec PyProof.Rows
end DL
end L2
namespace L2
namespace DL
open PySem PySem.Spec PyProof.Rows
end DL
end L2
namespace L2
namespace DL
open PySem PySem.Spec PyProof.Rows
end DL
end L2
namespace L2
namespace DL
open PySem PySem.Spec PyProof.Rows
end DL
end L2
namespace L2
namespace DL
open PySem PySem.Spec PyProof.Rows
end DL
end L2
namespace L2
namespace DL
open PySem PySem.Spec PyProof.Rows
end DL
end L2
namespace L2
namespace DL
open PySem PySem.Spec PyProof.Rows
end DL
end L2
namespace L2
namespace DL
open PySem PySem.Spec PyProof.Rows
end DL
end L2
namespace L2
namespace DL
open PySem PySem.Spec PyProof.Rows
end DL
end L2
namespace L2
namespace DL
open PySem PySem.Spec PyProof.Rows
end DL
end L2
namespace L2
namespace DL
open PySem PySem.Spec PyProof.Rows
end DL
end L2
namespace L2
namespace DL
open PySem PySem.Spec PyProof.Rows
section
variable {X : Cx} {pa : Pa} {W : WX} {pos p1 p2 p3 p4 : Pos} {x y : Str}
theorem at0 {α : Type} (v : α) (vs : List α) : atI (v :: vs) 0 = some v:=by
  unfold atI
  have : ixN (v :: vs).length 0 = some 0:=by
    unfold ixN
    simp
  rw [this]
  rfl
end
end DL
end L2
namespace L2
namespace DL
open PySem PySem.Spec PyProof.Rows
end DL
end L2
namespace L2
namespace DL
open PySem PySem.Spec PyProof.Rows
end DL
end L2
namespace L2
namespace DL
open PySem PySem.Spec PyProof.Rows
end DL
end L2
namespace PySem.SeqAt
open AutoSeq1 (wpAny_loadPart')
open MeetsSeq MeetsSeq2 MeetsSeq3 SeqRoads2
end PySem.SeqAt
namespace L2
namespace DL
open PySem PySem.Spec PyProof.Rows
end DL
end L2
namespace L2
namespace DL
open PySem PySem.Spec PyProof.Rows
section
variable {X : Cx} {pa : Pa} {W : WX} {pos : Pos}
def PAK (X : Cx) (es : List Expr) (t : TA) : Prop:=∀ (pos : Pos) (pins : List (Addr × Obj)) (s : Shared) (σ : St) (H : Hp) (Q : List V → Hp → Prop),Inv X pins σ H s → t σ H Q → wpAny (model X.prog X.w) X.A (spliced (backTo pos (starEach es X.env))) (fun us s1=>1 ≤ s1.toks ∧ AP X pins σ Q us s1) X.xe s
def PEK (X : Cx) (e : Expr) (t : TE) : Prop:=∀ (pins : List (Addr × Obj)) (s : Shared) (σ : St) (H : Hp) (Q : VK),Inv X pins σ H s → t σ H Q → wpAny (model X.prog X.w) X.A (eval e X.env) (fun v s1=>1 ≤ s1.toks ∧ EP X pins σ Q v s1) X.xe s
def PSK (X : Cx) (st : Stmt) (t : TS) : Prop:=∀ (pins : List (Addr × Obj)) (s : Shared) (σ : St) (H : Hp) (D : Ends),Inv X pins σ H s → t D σ H → wpAny (model X.prog X.w) X.A (exec st X.env) (fun f s1=>1 ≤ s1.toks ∧ SP X pins D f s1) X.xe s
theorem PAK.imp {es : List Expr} {t t' : TA} (h : PAK X es t) (f : ∀ σ H Q,t' σ H Q → t σ H Q) : PAK X es t':=fun p pins s σ H Q I q=>h p pins s σ H Q I (f σ H Q q)
theorem PEK.imp {e : Expr} {t t' : TE} (h : PEK X e t) (f : ∀ σ H Q,t' σ H Q → t σ H Q) : PEK X e t':=fun pins s σ H Q I q=>h pins s σ H Q I (f σ H Q q)
theorem PSK.imp {st : Stmt} {t t' : TS} (h : PSK X st t) (f : ∀ D σ H,t' D σ H → t D σ H) : PSK X st t':=fun pins s σ H D I q=>h pins s σ H D I (f D σ H q)
theorem PET.imp {e : Expr} {t t' : TE} (h : PET X e t) (f : ∀ σ H Q,t' σ H Q → t σ H Q) : PET X e t':=fun pins s σ H Q k I q=>h pins s σ H Q k I (f σ H Q q)
theorem PAT.imp {es : List Expr} {t t' : TA} (h : PAT X es t) (f : ∀ σ H Q,t' σ H Q → t σ H Q) : PAT X es t':=fun p pins s σ H Q k I q=>h p pins s σ H Q k I (f σ H Q q)
theorem PST.imp {st : Stmt} {t t' : TS} (h : PST X st t) (f : ∀ D σ H,t' D σ H → t D σ H) : PST X st t':=fun pins s σ H D k I q=>h pins s σ H D k I (f D σ H q)
theorem PSsT.imp {st : List Stmt} {t t' : TS} (h : PSsT X st t) (f : ∀ D σ H,t' D σ H → t D σ H) : PSsT X st t':=fun pins s σ H D k I q=>h pins s σ H D k I (f D σ H q)
theorem PAT.of {es : List Expr} {t : TA} (h : PA X es t) : PAT X es t:=fun p pins s σ H Q _ I q=>h.run p pins s σ H Q I q
end
end DL
end L2
namespace L2
namespace DL
open PySem PySem.Spec PyProof.Rows
end DL
end L2
namespace L2
namespace DL
open PySem PySem.Spec PyProof.Rows PySem.Calls
end DL
end L2
namespace L2
namespace DL
open PySem PySem.Spec PyProof.Rows
end DL
end L2
namespace L2
namespace DL
open PySem PySem.Spec PyProof.Rows
end DL
end L2
namespace L2
namespace DL
open PySem PySem.Spec PyProof.Rows
end DL
end L2
namespace L2
namespace DL
open PySem PySem.Spec PyProof.Rows
end DL
end L2
namespace L2
namespace DL
namespace G
open PySem PySem.Spec PyProof.Rows
def m__law_box : List Sl → Rf:=fnM 3 <| seqM (asg 2 (ifX (bol (op2 ltD (var 1) (op1 lenD (var 0)))) (op2 ixD (var 0) (var 1)) (pvd (kst (.int (0))))))
        (ret (lstM (consA (dat (op2 mulD (op1 absD (var 2)) (op1 intD (op2 geD (op1 absD (var 2)) (op2 powD (pvd (kst (.int (10)))) (pvd (kst (.int (18))))))))) (consA (dat (op2 addD (op2 addD (op2 modD (op1 intD (var 2)) (pvd (kst (.int (2305843009213693951))))) (op2 mulD (pvd (kst (.int (39373)))) (var 1))) (pvd (kst (.int (2556)))))) (consA (kst (.int (0))) (nilA))))))
def m__law_lists : Nat → List Sl → Rf
  | 0=>fun _=>.bad
  | k + 1=>fnM 2 <| ret (ifX (truM (op1 (isiD [.list,.tuple]) (var 0))) (compM [1] (itM (dat (var 0))) (tgN 1) (yesT) (dat (callD (m__law_lists k) (consA (dat (var 1)) (nilA))))) (var 0))
def m__law_with : List Sl → Rf:=fnM 4 <| seqM (asg 3 (tupM (consA (dat (op2 addD (op2 ixD (var 0) (pvd (kst (.int (0))))) (tupM (consA (kst (.str "zz")) (nilA))))) (consA (dat (op2 ixD (var 0) (pvd (kst (.int (1)))))) (nilA)))))
        (ret (tupM (consA (dat (var 3)) (consA (dat (tupM (consA (dat (op2 addD (op2 ixD (var 1) (pvd (kst (.int (0))))) (tupM (consA (dat (tupM (consA (kst (.str "zz")) (consA (dat (var 2)) (nilA))))) (nilA))))) (consA (dat (op2 ixD (var 1) (pvd (kst (.int (1)))))) (nilA))))) (nilA)))))
def m_tupled : Nat → List Sl → Rf
  | 0=>fun _=>.bad
  | k + 1=>fnM 2 <| ret (ifX (truM (op1 (isiD [.list,.tuple]) (var 0))) (op1 tupD (compM [1] (itM (dat (var 0))) (tgN 1) (yesT) (dat (callD (m_tupled k) (consA (dat (var 1)) (nilA)))))) (var 0))
def m_goal_of : List Sl → Rf:=fnM 3 <| ret (dcompM [1,2] (itM (dat (op2 ixD (callD (m_tupled 60) (consA (dat (var 0)) (nilA))) (pvd (kst (.int (1))))))) (tgT (consG (tgN 1) (consG (tgN 2) (nilG)))) (yesT) (dat (var 1)) (dat (var 2)))
def m_row_from : List Sl → Rf:=fnM 3 <| seqM (asg 2 (lstM (consA (dat (var 1)) (nilA))))
        (seqM (whileL (andT (bol (op2 inE (op2 ixD (var 0) (op2 ixD (var 2) (op1 negD (pvd (kst (.int (1))))))) (var 0))) (bol (op2 neD (op2 ixD (var 0) (op2 ixD (var 2) (op1 negD (pvd (kst (.int (1))))))) (var 1)))) (drop (appM 2 (dat (op2 ixD (var 0) (op2 ixD (var 2) (op1 negD (pvd (kst (.int (1)))))))))) 200)
        (ret (var 2)))
def m_set_of : List Sl → Rf:=fnM 1 <| ret (op1 tupD (op1 sortSetD (var 0)))
def m_chains : List Sl → Rf:=fnM 6 <| seqM (par2 1 2 (callD m_goal_of (consA (dat (var 0)) (nilA))) (lstM (nilA)))
        (seqM (asg 3 (callD m_set_of (consA (dat (compM [5] (valuesM (dat (var 1))) (tgN 5) (bol (op2 notND (var 5) (pvd (kst .none)))) (dat (var 5)))) (nilA))))
        (seqM (forM (itM (dat (op1 sortD (var 1)))) (tgN 4) (ifS (bol (op2 notInE (var 4) (var 3))) (drop (appM 2 (dat (op1 tupD (callD m_row_from (consA (dat (var 1)) (consA (dat (var 4)) (nilA)))))))) (skip)))
        (ret (op1 tupD (var 2)))))
def m_free_places : List Sl → Rf:=fnM 6 <| seqM (asgT (dat (callD (m_tupled 60) (consA (dat (var 0)) (nilA)))) (tgT (consG (tgN 1) (consG (tgN 2) (nilG)))))
        (seqM (asg 3 (compM [4,5] (itM (dat (var 2))) (tgT (consG (tgN 4) (consG (tgN 5) (nilG)))) (yesT) (dat (var 4))))
        (ret (op1 tupD (compM [4] (itM (dat (var 1))) (tgN 4) (bol (op2 notInE (var 4) (var 3))) (dat (var 4))))))
def m_tables_of : List Sl → Rf:=fnM 3 <| seqM (asgT (dat (callD (m_tupled 60) (consA (dat (var 0)) (nilA)))) (tgT (consG (tgN 1) (consG (tgN 2) (nilG)))))
        (ret (tupM (consA (dat (op1 dictD (var 1))) (consA (dat (op1 dictD (var 2))) (nilA)))))
def m_hole_of : List Sl → Rf:=fnM 7 <| seqM (parN [2,3] (consV (op2 ixD (callD m_tables_of (consA (dat (var 1)) (nilA))) (pvd (kst (.int (0))))) (consV (callD m_goal_of (consA (dat (var 0)) (nilA))) (nilV))))
        (seqM (asg 4 (op1 lstD (callD m_free_places (consA (dat (var 0)) (nilA)))))
        (seqM (forM (itM (dat (callD m_chains (consA (dat (var 0)) (nilA))))) (tgN 5) (drop (extM 4 (compM [6] (itM (dat (tupS (starA (dat (var 5)) (consA (dat (op2 ixD (var 3) (op2 ixD (var 5) (op1 negD (pvd (kst (.int (1)))))))) (nilA)))))) (tgN 6) (bol (op2 notND (var 6) (pvd (kst .none)))) (dat (var 6))))))
        (ret (op1 maxND (compM [6] (itM (dat (var 4))) (tgN 6) (yesT) (dat (op2 ixD (var 2) (var 6))))))))
def m_row_from_safe : List Sl → Rf:=fnM 3 <| seqM (asg 2 (lstM (consA (dat (var 1)) (nilA))))
        (seqM (whileL (bol (op2 neD (op2 ixD (var 0) (op2 ixD (var 2) (op1 negD (pvd (kst (.int (1))))))) (var 1))) (seqM (ifS (bol (op2 notInE (op2 ixD (var 0) (op2 ixD (var 2) (op1 negD (pvd (kst (.int (1))))))) (var 0))) (ret (pvd (kst .none))) (skip))
        (drop (appM 2 (dat (op2 ixD (var 0) (op2 ixD (var 2) (op1 negD (pvd (kst (.int (1))))))))))) 200)
        (ret (var 2)))
def m_rings : List Sl → Rf:=fnM 5 <| seqM (par2 1 2 (callD m_goal_of (consA (dat (var 0)) (nilA))) (lstM (nilA)))
        (seqM (forM (itM (dat (op1 sortD (var 1)))) (tgN 3) (seqM (asg 4 (callD m_row_from_safe (consA (dat (var 1)) (consA (dat (var 3)) (nilA)))))
        (ifS (andT (bol (op2 notND (var 4) (pvd (kst .none)))) (andT (bol (op2 gtD (op1 lenD (var 4)) (pvd (kst (.int (1)))))) (bol (op2 eqD (var 3) (op1 min1D (var 4)))))) (drop (appM 2 (dat (op1 tupD (var 4))))) (skip))))
        (ret (op1 tupD (var 2))))
def m_opened_by : List Sl → Rf:=fnM 12 <| seqM (asgT (dat (callD m_tables_of (consA (dat (var 1)) (nilA)))) (tgT (consG (tgN 3) (consG (tgN 4) (nilG)))))
        (seqM (parN [5,6,7] (consV (op1 lstD (callD m_rings (consA (dat (var 0)) (nilA)))) (consV (lstM (nilA)) (consV (pvd (dat (var 2))) (nilV)))))
        (whileL (truM (pvd (kst (.bool true)))) (seqM (asg 8 (compO 5 [9] (tgN 9) (andT (bol (op2 notND (var 7) (pvd (kst .none)))) (bol (op2 leD (op1 min1D (compM [10] (itM (dat (var 9))) (tgN 10) (yesT) (dat (op2 ixD (var 4) (var 10))))) (var 7)))) (dat (var 9))))
        (seqM (ifS (bol (op2 eqD (op1 lenD (var 8)) (pvd (kst (.int (0)))))) (ret (tupM (consA (dat (op1 tupD (var 6))) (consA (dat (op1 tupD (var 5))) (nilA))))) (skip))
        (seqM (asg 7 (op2 max2D (var 7) (op1 max1D (compM [11] (itM (dat (op2 ixD (var 8) (pvd (kst (.int (0))))))) (tgN 11) (yesT) (dat (op2 ixD (var 3) (var 11)))))))
        (seqM (drop (appM 6 (dat (tupM (consA (dat (op2 ixD (var 8) (pvd (kst (.int (0)))))) (consA (dat (var 7)) (nilA)))))))
        (drop (rmM 5 (dat (op2 ixD (var 8) (pvd (kst (.int (0)))))))))))) 200))
def m_shut_rings : List Sl → Rf:=fnM 2 <| ret (op2 ixD (callD m_opened_by (consA (dat (var 0)) (consA (dat (var 1)) (consA (dat (callD m_hole_of (consA (dat (var 0)) (consA (dat (var 1)) (nilA))))) (nilA))))) (pvd (kst (.int (1)))))
def m_can_be_done_by : List Sl → Rf:=fnM 2 <| ret (op2 eqD (op1 lenD (callD m_shut_rings (consA (dat (var 0)) (consA (dat (var 1)) (nilA))))) (pvd (kst (.int (0)))))
def m_boxes : List Sl → Rf:=fnM 3 <| ret (op1 tupD (compM [1,2] (itM (dat (op2 ixD (callD (m_tupled 60) (consA (dat (var 0)) (nilA))) (pvd (kst (.int (1))))))) (tgT (consG (tgN 1) (consG (tgN 2) (nilG)))) (yesT) (dat (var 1))))
def m_place_needed : List Sl → Rf:=fnM 6 <| seqM (parN [2,3] (consV (callD m_hole_of (consA (dat (var 0)) (consA (dat (var 1)) (nilA)))) (consV (op2 ixD (callD m_tables_of (consA (dat (var 1)) (nilA))) (pvd (kst (.int (1))))) (nilV))))
        (seqM (ifS (truM (callD m_can_be_done_by (consA (dat (var 0)) (consA (dat (var 1)) (nilA))))) (ret (pvd (kst (.int (0))))) (skip))
        (seqM (forM (itM (dat (op1 sortD (compM [5] (itM (dat (callD m_boxes (consA (dat (var 0)) (nilA))))) (tgN 5) (yesT) (dat (op2 ixD (var 3) (var 5))))))) (tgN 4) (ifS (bol (op2 eqD (op1 lenD (op2 ixD (callD m_opened_by (consA (dat (var 0)) (consA (dat (var 1)) (consA (dat (ifX (bol (op2 isND (var 2) (pvd (kst .none)))) (var 4) (op2 max2E (var 2) (var 4)))) (nilA))))) (pvd (kst (.int (1)))))) (pvd (kst (.int (0)))))) (ret (var 4)) (skip)))
        (ret (pvd (kst .none)))))
def m__law_least_right : List Sl → Rf:=fnM 5 <| seqM (asg 2 (callD m_place_needed (consA (dat (var 0)) (consA (dat (var 1)) (nilA)))))
        (seqM (ifS (orT (notT (truM (op1 (isiD [.int]) (var 2)))) (orT (truM (op1 (isiD [.bool]) (var 2))) (bol (op2 ltD (var 2) (pvd (kst (.int (0)))))))) (ret (pvd (kst (.bool false)))) (skip))
        (seqM (ifS (bol (op2 neD (callD m_place_needed (consA (dat (callD (m__law_lists 60) (consA (dat (var 0)) (nilA)))) (consA (dat (callD (m__law_lists 60) (consA (dat (var 1)) (nilA)))) (nilA)))) (var 2))) (ret (pvd (kst (.bool false)))) (skip))
        (seqM (ifS (truM (callD m_can_be_done_by (consA (dat (var 0)) (consA (dat (var 1)) (nilA))))) (ret (op2 eqD (var 2) (pvd (kst (.int (0)))))) (skip))
        (seqM (asgT (dat (callD m__law_with (consA (dat (var 0)) (consA (dat (var 1)) (consA (dat (var 2)) (nilA)))))) (tgT (consG (tgN 3) (consG (tgN 4) (nilG)))))
        (seqM (ifS (notT (truM (callD m_can_be_done_by (consA (dat (var 3)) (consA (dat (var 4)) (nilA)))))) (ret (pvd (kst (.bool false)))) (skip))
        (seqM (ifS (bol (op2 eqD (var 2) (pvd (kst (.int (0)))))) (ret (pvd (kst (.bool true)))) (skip))
        (seqM (asgT (dat (callD m__law_with (consA (dat (var 0)) (consA (dat (var 1)) (consA (dat (op2 subD (var 2) (pvd (kst (.int (1)))))) (nilA)))))) (tgT (consG (tgN 3) (consG (tgN 4) (nilG)))))
        (ret (notX (callD m_can_be_done_by (consA (dat (var 3)) (consA (dat (var 4)) (nilA)))))))))))))
def m__law_same : Nat → List Sl → Rf
  | 0=>fun _=>.bad
  | k + 1=>fnM 5 <| seqM (ifS (truM (op1 (isiD [.list,.tuple]) (var 1))) (seqM (ifS (orT (bol (op2 neD (op1 (isiD [.list]) (var 0)) (op1 (isiD [.list]) (var 1)))) (bol (op2 neD (op1 (isiD [.tuple]) (var 0)) (op1 (isiD [.tuple]) (var 1))))) (ret (pvd (kst (.bool false)))) (skip))
        (ret (andX (op2 eqD (op1 lenD (var 0)) (op1 lenD (var 1))) (op1 allD (compM [2,3] (zipM (dat (var 0)) (dat (var 1))) (tgT (consG (tgN 2) (consG (tgN 3) (nilG)))) (yesT) (dat (callD (m__law_same k) (consA (dat (var 2)) (consA (dat (var 3)) (nilA)))))))))) (skip))
        (seqM (ifS (truM (op1 (isiD [.dict]) (var 1))) (seqM (ifS (orT (notT (truM (op1 (isiD [.dict]) (var 0)))) (bol (op2 neD (op1 sortD (var 0)) (op1 sortD (var 1))))) (ret (pvd (kst (.bool false)))) (skip))
        (ret (op1 allD (compM [4] (itM (dat (var 1))) (tgN 4) (yesT) (dat (callD (m__law_same k) (consA (dat (op2 ixD (var 0) (var 4))) (consA (dat (op2 ixD (var 1) (var 4))) (nilA))))))))) (skip))
        (seqM (ifS (orT (bol (op2 isND (var 1) (pvd (kst .none)))) (truM (op1 (isiD [.bool,.str]) (var 1)))) (ret (andX (op2 eqD (var 0) (var 1)) (andX (op2 eqD (op1 (isiD [.bool]) (var 0)) (op1 (isiD [.bool]) (var 1))) (op2 eqD (op2 isND (var 0) (pvd (kst .none))) (op2 isND (var 1) (pvd (kst .none))))))) (skip))
        (ret (andX (op1 (isiD [.int]) (var 0)) (andX (notX (op1 (isiD [.bool]) (var 0))) (op2 eqD (var 0) (var 1)))))))
def m__law_by_hand_right : List Sl → Rf:=fnM 16 <| seqM (asg 0 (tupM (consA (dat (tupM (consA (kst (.str "c")) (consA (kst (.str "d")) (consA (kst (.str "e")) (consA (kst (.str "f")) (consA (kst (.str "t")) (nilA)))))))) (consA (dat (tupM (consA (dat (tupM (consA (kst (.str "c")) (consA (kst (.str "d")) (nilA))))) (consA (dat (tupM (consA (kst (.str "d")) (consA (kst (.str "c")) (nilA))))) (consA (dat (tupM (consA (kst (.str "e")) (consA (kst (.str "f")) (nilA))))) (consA (dat (tupM (consA (kst (.str "f")) (consA (kst (.str "e")) (nilA))))) (nilA))))))) (nilA)))))
        (seqM (asgT (dat (tupM (consA (dat (tupM (consA (dat (tupM (consA (kst (.str "c")) (consA (kst (.int (2))) (nilA))))) (consA (dat (tupM (consA (kst (.str "d")) (consA (kst (.int (2))) (nilA))))) (consA (dat (tupM (consA (kst (.str "e")) (consA (kst (.int (3))) (nilA))))) (consA (dat (tupM (consA (kst (.str "f")) (consA (kst (.int (3))) (nilA))))) (consA (dat (tupM (consA (kst (.str "t")) (consA (kst (.int (1))) (nilA))))) (nilA)))))))) (consA (dat (tupM (consA (dat (tupM (consA (kst (.str "c")) (consA (kst (.int (1))) (nilA))))) (consA (dat (tupM (consA (kst (.str "d")) (consA (kst (.int (2))) (nilA))))) (consA (dat (tupM (consA (kst (.str "e")) (consA (kst (.int (2))) (nilA))))) (consA (dat (tupM (consA (kst (.str "f")) (consA (kst (.int (3))) (nilA))))) (nilA))))))) (nilA))))) (tgT (consG (tgN 1) (consG (tgN 2) (nilG)))))
        (seqM (asg 3 (tupM (consA (dat (op2 addD (slcM (var 1) (nopart) (part (kst (.int (2))))) (tupM (consA (dat (tupM (consA (kst (.str "e")) (consA (kst (.int (5))) (nilA))))) (consA (dat (tupM (consA (kst (.str "f")) (consA (kst (.int (5))) (nilA))))) (consA (dat (tupM (consA (kst (.str "t")) (consA (kst (.int (1))) (nilA))))) (nilA))))))) (consA (dat (op2 addD (slcM (var 2) (nopart) (part (kst (.int (2))))) (tupM (consA (dat (tupM (consA (kst (.str "e")) (consA (kst (.int (4))) (nilA))))) (consA (dat (tupM (consA (kst (.str "f")) (consA (kst (.int (5))) (nilA))))) (nilA)))))) (nilA)))))
        (seqM (asg 4 (lstM (consA (dat (callD m_place_needed (consA (dat (var 0)) (consA (dat (tupM (consA (dat (var 1)) (consA (dat (var 2)) (nilA))))) (nilA))))) (consA (dat (callD m_place_needed (consA (dat (var 0)) (consA (dat (var 3)) (nilA))))) (nilA)))))
        (seqM (asg 4 (op2 addD (var 4) (lstM (consA (dat (callD m_place_needed (consA (dat (var 0)) (consA (dat (tupM (consA (dat (op2 addD (slcM (var 1) (nopart) (part (kst (.int (4))))) (tupM (consA (dat (tupM (consA (kst (.str "t")) (consA (kst (.int (0))) (nilA))))) (nilA))))) (consA (dat (var 2)) (nilA))))) (nilA))))) (nilA)))))
        (seqM (asg 4 (op2 addD (var 4) (lstM (consA (dat (callD m_place_needed (consA (dat (var 0)) (consA (dat (tupM (consA (dat (var 1)) (consA (dat (op2 addD (slcM (var 2) (nopart) (part (kst (.int (2))))) (tupM (consA (dat (tupM (consA (kst (.str "e")) (consA (kst (.int (3))) (nilA))))) (consA (dat (tupM (consA (kst (.str "f")) (consA (kst (.int (3))) (nilA))))) (nilA)))))) (nilA))))) (nilA))))) (nilA)))))
        (seqM (asg 5 (lstM (consA (kst (.int (0))) (consA (kst (.int (4))) (consA (kst (.int (1))) (consA (kst (.int (3))) (nilA)))))))
        (seqM (asg 6 (tupM (consA (dat (tupM (consA (kst (.str "c")) (consA (kst (.str "d")) (nilA))))) (consA (dat (tupM (consA (dat (tupM (consA (kst (.str "c")) (consA (kst (.str "d")) (nilA))))) (consA (dat (tupM (consA (kst (.str "d")) (consA (kst (.str "c")) (nilA))))) (nilA))))) (nilA)))))
        (seqM (asg 4 (op2 addD (var 4) (lstM (consA (dat (callD m_place_needed (consA (dat (var 6)) (consA (dat (tupM (consA (dat (tupM (consA (dat (tupM (consA (kst (.str "c")) (consA (kst (.int (9))) (nilA))))) (consA (dat (tupM (consA (kst (.str "d")) (consA (kst (.int (9))) (nilA))))) (nilA))))) (consA (dat (tupM (consA (dat (tupM (consA (kst (.str "c")) (consA (kst (.int (7))) (nilA))))) (consA (dat (tupM (consA (kst (.str "d")) (consA (kst (.int (4))) (nilA))))) (nilA))))) (nilA))))) (nilA))))) (nilA)))))
        (seqM (asg 4 (op2 addD (var 4) (lstM (consA (dat (callD m_place_needed (consA (dat (var 6)) (consA (dat (tupM (consA (dat (tupM (consA (dat (tupM (consA (kst (.str "c")) (consA (kst (.int (9))) (nilA))))) (consA (dat (tupM (consA (kst (.str "d")) (consA (kst (.int (9))) (nilA))))) (nilA))))) (consA (dat (tupM (consA (dat (tupM (consA (kst (.str "c")) (consA (kst (.int (0))) (nilA))))) (consA (dat (tupM (consA (kst (.str "d")) (consA (kst (.int (4))) (nilA))))) (nilA))))) (nilA))))) (nilA))))) (nilA)))))
        (seqM (asg 4 (op2 addD (var 4) (lstM (consA (dat (callD m_place_needed (consA (dat (tupM (consA (dat (tupM (consA (kst (.str "a")) (nilA)))) (consA (dat (tupM (nilA))) (nilA))))) (consA (dat (tupM (consA (dat (tupM (consA (dat (tupM (consA (kst (.str "a")) (consA (kst (.int (0))) (nilA))))) (nilA)))) (consA (dat (tupM (nilA))) (nilA))))) (nilA))))) (nilA)))))
        (seqM (asg 4 (op2 addD (var 4) (lstM (consA (dat (callD m_place_needed (consA (dat (tupM (consA (dat (tupM (consA (kst (.str "a")) (consA (kst (.str "t")) (nilA))))) (consA (dat (tupM (consA (dat (tupM (consA (kst (.str "a")) (consA (kst (.str "t")) (nilA))))) (nilA)))) (nilA))))) (consA (dat (tupM (consA (dat (tupM (consA (dat (tupM (consA (kst (.str "a")) (consA (kst (.int (1))) (nilA))))) (consA (dat (tupM (consA (kst (.str "t")) (consA (kst (.int (1))) (nilA))))) (nilA))))) (consA (dat (tupM (consA (dat (tupM (consA (kst (.str "a")) (consA (kst (.int (1))) (nilA))))) (nilA)))) (nilA))))) (nilA))))) (nilA)))))
        (seqM (asg 5 (op2 addD (var 5) (lstM (consA (kst (.int (4))) (consA (kst (.int (0))) (consA (kst (.int (0))) (consA (kst (.int (0))) (nilA))))))))
        (seqM (asgT (dat (tupM (consA (dat (op1 tupD (op2 addD (compM [13] (itM (kst (.str "abcdefghijklmnopqrstuvwxyz"))) (tgN 13) (yesT) (dat (op2 addD (pvd (kst (.str "p"))) (var 13)))) (compM [13] (itM (kst (.str "abcdefghijklm"))) (tgN 13) (yesT) (dat (op2 addD (pvd (kst (.str "q"))) (var 13))))))) (consA (dat (op2 powD (pvd (kst (.int (10)))) (pvd (kst (.int (40)))))) (nilA))))) (tgT (consG (tgN 7) (consG (tgN 8) (nilG)))))
        (seqM (asg 9 (op1 tupD (compM [14] (rng1 (kst (.int (38)))) (tgN 14) (yesT) (dat (tupM (consA (dat (op2 ixD (var 7) (var 14))) (consA (dat (op2 ixD (var 7) (op2 subD (op2 addD (var 14) (pvd (kst (.int (1))))) (op2 mulD (pvd (kst (.int (2)))) (op2 modD (op1 intD (var 14)) (pvd (kst (.int (2))))))))) (nilA))))))))
        (seqM (asg 10 (tupM (consA (dat (op1 tupD (compM [14] (rng1 (kst (.int (39)))) (tgN 14) (yesT) (dat (tupM (consA (dat (op2 ixD (var 7) (var 14))) (consA (dat (ifX (bol (op2 ltD (var 14) (pvd (kst (.int (38)))))) (op2 addD (op2 fdivD (var 14) (pvd (kst (.int (2))))) (pvd (kst (.int (2))))) (pvd (kst (.int (0)))))) (nilA)))))))) (consA (dat (op1 tupD (compM [14] (rng1 (kst (.int (38)))) (tgN 14) (yesT) (dat (tupM (consA (dat (op2 ixD (var 7) (var 14))) (consA (dat (op2 addD (op2 fdivD (var 14) (pvd (kst (.int (2))))) (pvd (kst (.int (1)))))) (nilA)))))))) (nilA)))))
        (seqM (asg 11 (tupM (consA (dat (op1 tupD (compM [14] (rng1 (kst (.int (39)))) (tgN 14) (yesT) (dat (tupM (consA (dat (op2 ixD (var 7) (var 14))) (consA (dat (ifX (bol (op2 ltD (var 14) (pvd (kst (.int (38)))))) (op2 addD (op2 fdivD (var 14) (pvd (kst (.int (2))))) (pvd (kst (.int (1))))) (pvd (kst (.int (0)))))) (nilA)))))))) (consA (dat (op1 tupD (compM [14] (rng1 (kst (.int (38)))) (tgN 14) (yesT) (dat (tupM (consA (dat (op2 ixD (var 7) (var 14))) (consA (dat (op2 addD (op2 fdivD (var 14) (pvd (kst (.int (2))))) (pvd (kst (.int (1)))))) (nilA)))))))) (nilA)))))
        (seqM (asg 12 (tupM (consA (dat (op1 tupD (compM [14] (rng1 (kst (.int (39)))) (tgN 14) (yesT) (dat (tupM (consA (dat (op2 ixD (var 7) (var 14))) (consA (dat (ifX (bol (op2 ltD (var 14) (pvd (kst (.int (38)))))) (var 8) (op2 subD (var 8) (pvd (kst (.int (1))))))) (nilA)))))))) (consA (dat (op1 tupD (compM [14] (rng1 (kst (.int (38)))) (tgN 14) (yesT) (dat (tupM (consA (dat (op2 ixD (var 7) (var 14))) (consA (dat (var 8)) (nilA)))))))) (nilA)))))
        (seqM (asg 4 (op2 addD (var 4) (lstM (consA (dat (callD m_place_needed (consA (dat (tupM (consA (dat (var 7)) (consA (dat (var 9)) (nilA))))) (consA (dat (var 10)) (nilA))))) (consA (dat (callD m_place_needed (consA (dat (tupM (consA (dat (var 7)) (consA (dat (var 9)) (nilA))))) (consA (dat (var 11)) (nilA))))) (nilA))))))
        (seqM (asg 4 (op2 addD (var 4) (lstM (consA (dat (callD m_place_needed (consA (dat (tupM (consA (dat (var 7)) (consA (dat (var 9)) (nilA))))) (consA (dat (var 12)) (nilA))))) (nilA)))))
        (seqM (asg 4 (op2 addD (var 4) (lstM (consA (dat (callD m_place_needed (pickA [1,0] nilA (consA (dat (callD (m__law_lists 60) (consA (dat (var 3)) (nilA)))) (consA (dat (callD (m__law_lists 60) (consA (dat (var 0)) (nilA)))) (nilA)))))) (nilA)))))
        (seqM (ifS (notT (truM (callD (m__law_same 60) (consA (dat (var 4)) (consA (dat (op2 addD (var 5) (lstM (consA (kst (.int (1))) (consA (kst (.int (19))) (consA (dat (var 8)) (consA (kst (.int (4))) (nilA)))))))) (nilA)))))) (ret (pvd (kst (.bool false)))) (skip))
        (seqM (ifS (notT (truM (callD m__law_least_right (consA (dat (var 0)) (consA (dat (var 3)) (nilA)))))) (ret (pvd (kst (.bool false)))) (skip))
        (ret (op1 allD (compM [15] (itM (dat (tupM (consA (dat (var 10)) (consA (dat (var 11)) (consA (dat (var 12)) (nilA))))))) (tgN 15) (yesT) (dat (callD m__law_least_right (consA (dat (tupM (consA (dat (var 7)) (consA (dat (var 9)) (nilA))))) (consA (dat (var 15)) (nilA))))))))))))))))))))))))))))))
def m__law_cells : List Sl → Rf:=fnM 6 <| seqM (asg 2 (orX (op1 lstD (slcM (var 0) (nopart) (part (dat (var 1))))) (lstM (consA (kst (.int (0))) (nilA)))))
        (seqM (forM (enumM (dat (slcM (var 0) (part (dat (var 1))) (part (kst (.int (63))))))) (tgT (consG (tgN 3) (consG (tgN 4) (nilG)))) (seqM (asg 5 (op2 modD (op1 intD (var 3)) (var 1)))
        (setM 2 (dat (op2 addD (op2 ixD (var 2) (var 5)) (op2 mulD (var 4) (op2 addD (var 3) (pvd (kst (.int (2)))))))) (var 5))))
        (ret (var 2)))
def m__law_take : List Sl → Rf:=fnM 6 <| seqM (ifS (bol (op2 gtD (op2 ixD (var 0) (pvd (kst (.int (0))))) (pvd (kst (.int (0)))))) (seqM (asg 2 (op2 modD (op1 intD (op2 ixD (var 0) (pvd (kst (.int (0)))))) (var 1)))
        (seqM (setM 0 (dat (op2 fdivD (op2 ixD (var 0) (pvd (kst (.int (0))))) (var 1))) (pvd (kst (.int (0)))))
        (ret (var 2)))) (skip))
        (seqM (setM 0 (dat (op2 addD (op2 ixD (var 0) (pvd (kst (.int (2))))) (pvd (kst (.int (1)))))) (pvd (kst (.int (2)))))
        (seqM (asg 3 (op2 modD (op1 intD (op2 mulD (op2 addD (op2 ixD (var 0) (pvd (kst (.int (1))))) (op2 mulD (pvd (kst (.int (48271)))) (op2 ixD (var 0) (pvd (kst (.int (2))))))) (op2 addD (pvd (kst (.int (39373)))) (op2 ixD (var 0) (pvd (kst (.int (2)))))))) (pvd (kst (.int (2147483647))))))
        (seqM (asg 4 (op2 addD (op2 modD (op1 intD (var 3)) (pvd (kst (.int (40009))))) (pvd (kst (.int (7))))))
        (seqM (asg 5 (op2 modD (op1 intD (op2 mulD (op2 addD (op2 addD (var 3) (op2 ixD (var 0) (pvd (kst (.int (2)))))) (op2 fdivD (op2 ixD (var 0) (pvd (kst (.int (1))))) (pvd (kst (.int (1000003)))))) (var 4))) (pvd (kst (.int (2147483629))))))
        (ret (op2 modD (op1 intD (op2 fdivD (op2 modD (op1 intD (op2 addD (op2 mulD (var 5) (pvd (kst (.int (48271))))) (var 3))) (pvd (kst (.int (2147483587))))) (pvd (kst (.int (64)))))) (var 1)))))))
def m__law_of : List Sl → Rf:=fnM 2 <| ret (op2 ixD (var 1) (callR m__law_take (var 0) (consA (dat (op1 lenD (var 1))) (nilA))))
def m__law_sorts : List Sl → Rf:=fnM 9 <| seqM (asg 4 (op1 dictD (compM [3,7] (itM (dat (op2 ixD (var 1) (pvd (kst (.int (1))))))) (tgT (consG (tgN 3) (consG (tgN 7) (nilG)))) (yesT) (dat (tupM (consA (dat (var 3)) (consA (dat (callR m__law_take (var 0) (consA (dat (op2 addD (var 2) (pvd (kst (.int (1)))))) (nilA)))) (nilA))))))))
        (seqM (asg 5 (newD))
        (seqM (forM (itM (dat (op2 ixD (var 1) (pvd (kst (.int (0))))))) (tgN 3) (seqM (asg 6 (compM [8,7] (itM (dat (op2 ixD (var 1) (pvd (kst (.int (1))))))) (tgT (consG (tgN 8) (consG (tgN 7) (nilG)))) (bol (op2 inE (var 3) (tupM (consA (dat (var 8)) (consA (dat (var 7)) (nilA)))))) (dat (op2 ixD (var 4) (var 8)))))
        (setM 5 (dat (op2 addD (op1 max1D (op2 addD (var 6) (lstM (consA (kst (.int (0))) (nilA))))) (callR m__law_of (var 0) (consA (dat (lstM (consA (kst (.int (0))) (consA (kst (.int (0))) (consA (kst (.int (0))) (consA (kst (.int (1))) (consA (dat (var 2)) (nilA)))))))) (nilA))))) (var 3))))
        (ret (tupM (consA (dat (op1 tupD (op1 sortI (var 5)))) (consA (dat (op1 tupD (op1 sortI (var 4)))) (nilA)))))))
def m__law_pick : List Sl → Rf:=fnM 6 <| seqM (par2 3 4 (op1 lstD (var 1)) (lstM (nilA)))
        (seqM (forM (rng1 (dat (op2 min2D (var 2) (op1 lenD (var 3))))) (tgN 5) (drop (appM 4 (dat (popM 3 (callR m__law_take (var 0) (consA (dat (op1 lenD (var 3))) (nilA))))))))
        (ret (var 4)))
def m__law_task : List Sl → Rf:=fnM 11 <| seqM (asg 3 (compM [9] (itM (kst (.str "abcdefghijklmnopqrstuvwxyz"))) (tgN 9) (yesT) (dat (op2 addD (pvd (kst (.str "p"))) (var 9)))))
        (seqM (asg 3 (op2 addD (var 3) (compM [9] (itM (kst (.str "abcdefghijklmn"))) (tgN 9) (yesT) (dat (op2 addD (pvd (kst (.str "q"))) (var 9))))))
        (seqM (asg 4 (slcM (var 3) (nopart) (part (dat (op2 addD (pvd (kst (.int (1)))) (callR m__law_take (var 0) (consA (dat (var 1)) (nilA))))))))
        (seqM (asg 5 (op1 sortD (callR m__law_pick (var 0) (consA (dat (var 4)) (consA (dat (op2 min2D (op1 lenD (var 4)) (callR m__law_take (var 0) (consA (dat (op2 addD (var 2) (pvd (kst (.int (1)))))) (nilA))))) (nilA))))))
        (seqM (asg 6 (callR m__law_pick (var 0) (consA (dat (var 4)) (consA (dat (op1 lenD (var 5))) (nilA)))))
        (seqM (asg 7 (callR m__law_take (var 0) (consA (kst (.int (3))) (nilA))))
        (seqM (ifS (andT (bol (op2 eqD (var 7) (pvd (kst (.int (0)))))) (bol (op2 gtD (op1 lenD (var 5)) (pvd (kst (.int (1))))))) (asg 6 (callR m__law_pick (var 0) (consA (dat (var 5)) (consA (dat (op1 lenD (var 5))) (nilA))))) (skip))
        (seqM (asg 8 (compM [10] (rng1 (dat (op1 lenD (var 5)))) (tgN 10) (yesT) (dat (tupM (consA (dat (op2 ixD (var 5) (var 10))) (consA (dat (ifX (bol (op2 gtD (callR m__law_take (var 0) (consA (kst (.int (8))) (nilA))) (pvd (kst (.int (0)))))) (op2 ixD (var 6) (var 10)) (pvd (kst .none)))) (nilA)))))))
        (ret (tupM (consA (dat (op1 tupD (var 4))) (consA (dat (op1 tupD (var 8))) (nilA))))))))))))
def m__law_case_right : List Sl → Rf:=fnM 2 <| seqM (asg 1 (callR m__law_task (var 0) (consA (kst (.int (10))) (consA (kst (.int (10))) (nilA)))))
        (ret (callD m__law_least_right (consA (dat (var 1)) (consA (dat (callR m__law_sorts (var 0) (consA (dat (var 1)) (consA (dat (callR m__law_of (var 0) (consA (dat (lstM (consA (kst (.int (1))) (consA (kst (.int (3))) (consA (kst (.int (20))) (nilA)))))) (nilA)))) (nilA))))) (nilA)))))
def m__law_right : List Sl → Rf:=fnM 2 <| ret (op1 allD (compM [1] (rng1 (kst (.int (8)))) (tgN 1) (yesT) (dat (callR m__law_case_right (var 0) (nilA)))))
def m_law : List Sl → Rf:=fnM 3 <| seqM (ifS (notT (truM (callD m__law_by_hand_right nilA))) (ret (pvd (kst (.bool false)))) (skip))
        (seqM (asg 1 (callD m__law_cells (consA (dat (var 0)) (consA (kst (.int (3))) (nilA)))))
        (ret (op1 allD (compM [2] (rng1 (dat (op1 lenD (var 1)))) (tgN 2) (yesT) (dat (callR m__law_right (callD m__law_box (consA (dat (var 1)) (consA (dat (var 2)) (nilA)))) (nilA)))))))
structure Fs (P : Program) (K : PySem.W.Frag) (mg : Str → Option Value) where
  f__law_box : Addr
  d__law_box : FuncData
  F__law_box : FunD K "_law_box" "_law_box" (defArgs (top 19)) (defBody (top 19)) (defScope (top 19)) [] [] f__law_box d__law_box
  g__law_box : mg "_law_box" = some (.ref f__law_box)
  f__law_lists : Addr
  d__law_lists : FuncData
  F__law_lists : FunD K "_law_lists" "_law_lists" (defArgs (top 24)) (defBody (top 24)) (defScope (top 24)) [] [] f__law_lists d__law_lists
  g__law_lists : mg "_law_lists" = some (.ref f__law_lists)
  f__law_with : Addr
  d__law_with : FuncData
  F__law_with : FunD K "_law_with" "_law_with" (defArgs (top 28)) (defBody (top 28)) (defScope (top 28)) [] [] f__law_with d__law_with
  g__law_with : mg "_law_with" = some (.ref f__law_with)
  f_tupled : Addr
  d_tupled : FuncData
  F_tupled : FunD K "tupled" "tupled" (defArgs (top 1)) (defBody (top 1)) (defScope (top 1)) [] [] f_tupled d_tupled
  g_tupled : mg "tupled" = some (.ref f_tupled)
  f_goal_of : Addr
  d_goal_of : FuncData
  F_goal_of : FunD K "goal_of" "goal_of" (defArgs (top 4)) (defBody (top 4)) (defScope (top 4)) [] [] f_goal_of d_goal_of
  g_goal_of : mg "goal_of" = some (.ref f_goal_of)
  f_row_from : Addr
  d_row_from : FuncData
  F_row_from : FunD K "row_from" "row_from" (defArgs (top 7)) (defBody (top 7)) (defScope (top 7)) [] [] f_row_from d_row_from
  g_row_from : mg "row_from" = some (.ref f_row_from)
  f_set_of : Addr
  d_set_of : FuncData
  F_set_of : FunD K "set_of" "set_of" (defArgs (top 2)) (defBody (top 2)) (defScope (top 2)) [] [] f_set_of d_set_of
  g_set_of : mg "set_of" = some (.ref f_set_of)
  f_chains : Addr
  d_chains : FuncData
  F_chains : FunD K "chains" "chains" (defArgs (top 10)) (defBody (top 10)) (defScope (top 10)) [] [] f_chains d_chains
  g_chains : mg "chains" = some (.ref f_chains)
  f_free_places : Addr
  d_free_places : FuncData
  F_free_places : FunD K "free_places" "free_places" (defArgs (top 6)) (defBody (top 6)) (defScope (top 6)) [] [] f_free_places d_free_places
  g_free_places : mg "free_places" = some (.ref f_free_places)
  f_tables_of : Addr
  d_tables_of : FuncData
  F_tables_of : FunD K "tables_of" "tables_of" (defArgs (top 12)) (defBody (top 12)) (defScope (top 12)) [] [] f_tables_of d_tables_of
  g_tables_of : mg "tables_of" = some (.ref f_tables_of)
  f_hole_of : Addr
  d_hole_of : FuncData
  F_hole_of : FunD K "hole_of" "hole_of" (defArgs (top 13)) (defBody (top 13)) (defScope (top 13)) [] [] f_hole_of d_hole_of
  g_hole_of : mg "hole_of" = some (.ref f_hole_of)
  f_row_from_safe : Addr
  d_row_from_safe : FuncData
  F_row_from_safe : FunD K "row_from_safe" "row_from_safe" (defArgs (top 9)) (defBody (top 9)) (defScope (top 9)) [] [] f_row_from_safe d_row_from_safe
  g_row_from_safe : mg "row_from_safe" = some (.ref f_row_from_safe)
  f_rings : Addr
  d_rings : FuncData
  F_rings : FunD K "rings" "rings" (defArgs (top 8)) (defBody (top 8)) (defScope (top 8)) [] [] f_rings d_rings
  g_rings : mg "rings" = some (.ref f_rings)
  f_opened_by : Addr
  d_opened_by : FuncData
  F_opened_by : FunD K "opened_by" "opened_by" (defArgs (top 14)) (defBody (top 14)) (defScope (top 14)) [] [] f_opened_by d_opened_by
  g_opened_by : mg "opened_by" = some (.ref f_opened_by)
  f_shut_rings : Addr
  d_shut_rings : FuncData
  F_shut_rings : FunD K "shut_rings" "shut_rings" (defArgs (top 15)) (defBody (top 15)) (defScope (top 15)) [] [] f_shut_rings d_shut_rings
  g_shut_rings : mg "shut_rings" = some (.ref f_shut_rings)
  f_can_be_done_by : Addr
  d_can_be_done_by : FuncData
  F_can_be_done_by : FunD K "can_be_done_by" "can_be_done_by" (defArgs (top 16)) (defBody (top 16)) (defScope (top 16)) [] [] f_can_be_done_by d_can_be_done_by
  g_can_be_done_by : mg "can_be_done_by" = some (.ref f_can_be_done_by)
  f_boxes : Addr
  d_boxes : FuncData
  F_boxes : FunD K "boxes" "boxes" (defArgs (top 5)) (defBody (top 5)) (defScope (top 5)) [] [] f_boxes d_boxes
  g_boxes : mg "boxes" = some (.ref f_boxes)
  f_place_needed : Addr
  d_place_needed : FuncData
  F_place_needed : FunD K "place_needed" "place_needed" (defArgs (top 17)) (defBody (top 17)) (defScope (top 17)) [] [] f_place_needed d_place_needed
  g_place_needed : mg "place_needed" = some (.ref f_place_needed)
  f__law_least_right : Addr
  d__law_least_right : FuncData
  F__law_least_right : FunD K "_law_least_right" "_law_least_right" (defArgs (top 29)) (defBody (top 29)) (defScope (top 29)) [] [] f__law_least_right d__law_least_right
  g__law_least_right : mg "_law_least_right" = some (.ref f__law_least_right)
  f__law_same : Addr
  d__law_same : FuncData
  F__law_same : FunD K "_law_same" "_law_same" (defArgs (top 25)) (defBody (top 25)) (defScope (top 25)) [] [] f__law_same d__law_same
  g__law_same : mg "_law_same" = some (.ref f__law_same)
  f__law_by_hand_right : Addr
  d__law_by_hand_right : FuncData
  F__law_by_hand_right : FunD K "_law_by_hand_right" "_law_by_hand_right" (defArgs (top 30)) (defBody (top 30)) (defScope (top 30)) [] [] f__law_by_hand_right d__law_by_hand_right
  g__law_by_hand_right : mg "_law_by_hand_right" = some (.ref f__law_by_hand_right)
  f__law_cells : Addr
  d__law_cells : FuncData
  F__law_cells : FunD K "_law_cells" "_law_cells" (defArgs (top 21)) (defBody (top 21)) (defScope (top 21)) [] [] f__law_cells d__law_cells
  g__law_cells : mg "_law_cells" = some (.ref f__law_cells)
  f__law_take : Addr
  d__law_take : FuncData
  F__law_take : FunD K "_law_take" "_law_take" (defArgs (top 20)) (defBody (top 20)) (defScope (top 20)) [] [] f__law_take d__law_take
  g__law_take : mg "_law_take" = some (.ref f__law_take)
  f__law_of : Addr
  d__law_of : FuncData
  F__law_of : FunD K "_law_of" "_law_of" (defArgs (top 22)) (defBody (top 22)) (defScope (top 22)) [] [] f__law_of d__law_of
  g__law_of : mg "_law_of" = some (.ref f__law_of)
  f__law_sorts : Addr
  d__law_sorts : FuncData
  F__law_sorts : FunD K "_law_sorts" "_law_sorts" (defArgs (top 27)) (defBody (top 27)) (defScope (top 27)) [] [] f__law_sorts d__law_sorts
  g__law_sorts : mg "_law_sorts" = some (.ref f__law_sorts)
  f__law_pick : Addr
  d__law_pick : FuncData
  F__law_pick : FunD K "_law_pick" "_law_pick" (defArgs (top 23)) (defBody (top 23)) (defScope (top 23)) [] [] f__law_pick d__law_pick
  g__law_pick : mg "_law_pick" = some (.ref f__law_pick)
  f__law_task : Addr
  d__law_task : FuncData
  F__law_task : FunD K "_law_task" "_law_task" (defArgs (top 26)) (defBody (top 26)) (defScope (top 26)) [] [] f__law_task d__law_task
  g__law_task : mg "_law_task" = some (.ref f__law_task)
  f__law_case_right : Addr
  d__law_case_right : FuncData
  F__law_case_right : FunD K "_law_case_right" "_law_case_right" (defArgs (top 31)) (defBody (top 31)) (defScope (top 31)) [] [] f__law_case_right d__law_case_right
  g__law_case_right : mg "_law_case_right" = some (.ref f__law_case_right)
  f__law_right : Addr
  d__law_right : FuncData
  F__law_right : FunD K "_law_right" "_law_right" (defArgs (top 32)) (defBody (top 32)) (defScope (top 32)) [] [] f__law_right d__law_right
  g__law_right : mg "_law_right" = some (.ref f__law_right)
  f_law : Addr
  d_law : FuncData
  F_law : FunD K "law" "law" (defArgs (top 33)) (defBody (top 33)) (defScope (top 33)) [] [] f_law d_law
  g_law : mg "law" = some (.ref f_law)
  n_abs : mg "abs" = none
  n_all : mg "all" = none
  n_bool : mg "bool" = none
  n_dict : mg "dict" = none
  n_enumerate : mg "enumerate" = none
  n_int : mg "int" = none
  n_isinstance : mg "isinstance" = none
  n_len : mg "len" = none
  n_list : mg "list" = none
  n_max : mg "max" = none
  n_min : mg "min" = none
  n_range : mg "range" = none
  n_set : mg "set" = none
  n_sorted : mg "sorted" = none
  n_str : mg "str" = none
  n_tuple : mg "tuple" = none
  n_zip : mg "zip" = none
section
variable {P : Program} {w : World} {K : PySem.W.Frag} {mg : Str → Option Value} {base : Heap} {T : List (Addr × Str)}
theorem b__law_box (c : Fs P K mg) : Binds K c.d__law_box ["_law_script","_law_k"] []:=FunD.bindsN c.F__law_box fun _ _ _ _ _ _ us hl=>match us,hl with | [_,_],_=>rfl
theorem b__law_lists (c : Fs P K mg) : Binds K c.d__law_lists ["_law_matter"] []:=FunD.bindsN c.F__law_lists fun _ _ _ _ _ _ us hl=>match us,hl with | [_],_=>rfl
theorem b__law_with (c : Fs P K mg) : Binds K c.d__law_with ["_law_task_here","_law_sorts_so","_law_much"] []:=FunD.bindsN c.F__law_with fun _ _ _ _ _ _ us hl=>match us,hl with | [_,_,_],_=>rfl
theorem b_tupled (c : Fs P K mg) : Binds K c.d_tupled ["thing"] []:=FunD.bindsN c.F_tupled fun _ _ _ _ _ _ us hl=>match us,hl with | [_],_=>rfl
theorem b_goal_of (c : Fs P K mg) : Binds K c.d_goal_of ["job"] []:=FunD.bindsN c.F_goal_of fun _ _ _ _ _ _ us hl=>match us,hl with | [_],_=>rfl
theorem b_row_from (c : Fs P K mg) : Binds K c.d_row_from ["goal","box"] []:=FunD.bindsN c.F_row_from fun _ _ _ _ _ _ us hl=>match us,hl with | [_,_],_=>rfl
theorem b_set_of (c : Fs P K mg) : Binds K c.d_set_of ["things"] []:=FunD.bindsN c.F_set_of fun _ _ _ _ _ _ us hl=>match us,hl with | [_],_=>rfl
theorem b_chains (c : Fs P K mg) : Binds K c.d_chains ["job"] []:=FunD.bindsN c.F_chains fun _ _ _ _ _ _ us hl=>match us,hl with | [_],_=>rfl
theorem b_free_places (c : Fs P K mg) : Binds K c.d_free_places ["job"] []:=FunD.bindsN c.F_free_places fun _ _ _ _ _ _ us hl=>match us,hl with | [_],_=>rfl
theorem b_tables_of (c : Fs P K mg) : Binds K c.d_tables_of ["sizes"] []:=FunD.bindsN c.F_tables_of fun _ _ _ _ _ _ us hl=>match us,hl with | [_],_=>rfl
theorem b_hole_of (c : Fs P K mg) : Binds K c.d_hole_of ["job","sizes"] []:=FunD.bindsN c.F_hole_of fun _ _ _ _ _ _ us hl=>match us,hl with | [_,_],_=>rfl
theorem b_row_from_safe (c : Fs P K mg) : Binds K c.d_row_from_safe ["goal","box"] []:=FunD.bindsN c.F_row_from_safe fun _ _ _ _ _ _ us hl=>match us,hl with | [_,_],_=>rfl
theorem b_rings (c : Fs P K mg) : Binds K c.d_rings ["job"] []:=FunD.bindsN c.F_rings fun _ _ _ _ _ _ us hl=>match us,hl with | [_],_=>rfl
theorem b_opened_by (c : Fs P K mg) : Binds K c.d_opened_by ["job","sizes","hole"] []:=FunD.bindsN c.F_opened_by fun _ _ _ _ _ _ us hl=>match us,hl with | [_,_,_],_=>rfl
theorem b_shut_rings (c : Fs P K mg) : Binds K c.d_shut_rings ["job","sizes"] []:=FunD.bindsN c.F_shut_rings fun _ _ _ _ _ _ us hl=>match us,hl with | [_,_],_=>rfl
theorem b_can_be_done_by (c : Fs P K mg) : Binds K c.d_can_be_done_by ["job","sizes"] []:=FunD.bindsN c.F_can_be_done_by fun _ _ _ _ _ _ us hl=>match us,hl with | [_,_],_=>rfl
theorem b_boxes (c : Fs P K mg) : Binds K c.d_boxes ["job"] []:=FunD.bindsN c.F_boxes fun _ _ _ _ _ _ us hl=>match us,hl with | [_],_=>rfl
theorem b_place_needed (c : Fs P K mg) : Binds K c.d_place_needed ["job","sizes"] []:=FunD.bindsN c.F_place_needed fun _ _ _ _ _ _ us hl=>match us,hl with | [_,_],_=>rfl
theorem b__law_least_right (c : Fs P K mg) : Binds K c.d__law_least_right ["_law_task_here","_law_sorts_so"] []:=FunD.bindsN c.F__law_least_right fun _ _ _ _ _ _ us hl=>match us,hl with | [_,_],_=>rfl
theorem b__law_same (c : Fs P K mg) : Binds K c.d__law_same ["_law_got","_law_due"] []:=FunD.bindsN c.F__law_same fun _ _ _ _ _ _ us hl=>match us,hl with | [_,_],_=>rfl
theorem b__law_by_hand_right (c : Fs P K mg) : Binds K c.d__law_by_hand_right [] []:=FunD.bindsN c.F__law_by_hand_right fun _ _ _ _ _ _ us hl=>match us,hl with | [],_=>rfl
theorem b__law_cells (c : Fs P K mg) : Binds K c.d__law_cells ["_law_script","_law_most"] []:=FunD.bindsN c.F__law_cells fun _ _ _ _ _ _ us hl=>match us,hl with | [_,_],_=>rfl
theorem b__law_take (c : Fs P K mg) : Binds K c.d__law_take ["_law_tin","_law_top_so"] []:=FunD.bindsN c.F__law_take fun _ _ _ _ _ _ us hl=>match us,hl with | [_,_],_=>rfl
theorem b__law_of (c : Fs P K mg) : Binds K c.d__law_of ["_law_tin","_law_some"] []:=FunD.bindsN c.F__law_of fun _ _ _ _ _ _ us hl=>match us,hl with | [_,_],_=>rfl
theorem b__law_sorts (c : Fs P K mg) : Binds K c.d__law_sorts ["_law_tin","_law_task_here","_law_most"] []:=FunD.bindsN c.F__law_sorts fun _ _ _ _ _ _ us hl=>match us,hl with | [_,_,_],_=>rfl
theorem b__law_pick (c : Fs P K mg) : Binds K c.d__law_pick ["_law_tin","_law_pool","_law_size_so"] []:=FunD.bindsN c.F__law_pick fun _ _ _ _ _ _ us hl=>match us,hl with | [_,_,_],_=>rfl
theorem b__law_task (c : Fs P K mg) : Binds K c.d__law_task ["_law_tin","_law_many","_law_full"] []:=FunD.bindsN c.F__law_task fun _ _ _ _ _ _ us hl=>match us,hl with | [_,_,_],_=>rfl
theorem b__law_case_right (c : Fs P K mg) : Binds K c.d__law_case_right ["_law_tin"] []:=FunD.bindsN c.F__law_case_right fun _ _ _ _ _ _ us hl=>match us,hl with | [_],_=>rfl
theorem b__law_right (c : Fs P K mg) : Binds K c.d__law_right ["_law_tin"] []:=FunD.bindsN c.F__law_right fun _ _ _ _ _ _ us hl=>match us,hl with | [_],_=>rfl
theorem kw_place_needed_0 (c : Fs P K mg) : KwOk K c.d_place_needed ["job","sizes"] 0 ["sizes","job"] [1,0]:=kwOk c.F_place_needed fun _ _ _ _ _ _ us ws h1 h2=>match us,ws,h1,h2 with | [],[_,_],_,_=>rfl
abbrev N__law_box : List Str:=["_law_script","_law_k","_law_great_so"]
theorem sc__law_box : FnScope N__law_box ["_law_script","_law_k"] (defScope (top 19)):=⟨rfl,rfl,rfl,by decide +kernel,rfl,by decide +kernel,by decide +kernel⟩
theorem ok__law_box (c : Fs P K mg) : FnOk P w K mg base (L2.CX P w) 1 c.f__law_box c.d__law_box ["_law_script","_law_k"] (spD ⟨K,P,w⟩ T mg m__law_box 2):=by
  have hN:=sc__law_box.nd
  exact fn_ok c.F__law_box sc__law_box fun cdv A outer s H E pa hr =>
        eb_cons (es_asg 2 (ev_if (et_cmp o_lt (ev_var 1) (ev_len (ev_var 0) c.n_len)) (ev_ix (un hr) (ev_var 0) (ev_var 1)) (ev_pvd (ed_int))) hN)
        (eb_one (es_ret (ev_lst (ea_cons (ed_dat (ev_bin o_mul (ev_abs (ev_var 2) c.n_abs) (ev_int (ev_cmp o_ge (ev_abs (ev_var 2) c.n_abs) (ev_bin o_pow (ev_pvd (ed_int)) (ev_pvd (ed_int)))) c.n_int))) (ea_cons (ed_dat (ev_bin o_add (ev_bin o_add (ev_bin o_mod (ev_int (ev_var 2) c.n_int) (ev_pvd (ed_int))) (ev_bin o_mul (ev_pvd (ed_int)) (ev_var 1))) (ev_pvd (ed_int)))) (ea_cons (ed_int) (ea_nil)))))))
abbrev N__law_lists : List Str:=["_law_matter","_law_bit"]
theorem sc__law_lists : FnScope N__law_lists ["_law_matter"] (defScope (top 24)):=⟨rfl,rfl,rfl,by decide +kernel,rfl,by decide +kernel,by decide +kernel⟩
theorem ok__law_lists (c : Fs P K mg) : ∀ k : Nat,FnOk P w K mg base (L2.CX P w) (1 + k) c.f__law_lists c.d__law_lists ["_law_matter"] (spD ⟨K,P,w⟩ T mg (m__law_lists k) 1)
  | 0=>fn_bad (ps:=["_law_matter"])
  | k + 1=>by
    have ih:=ok__law_lists c k
    have hN:=sc__law_lists.nd
    refine FnOk.mono (j:=1 + k + 1) (fn_ok (k:=1 + k) c.F__law_lists sc__law_lists fun cdv A outer s H E pa hr =>
        eb_one (es_ret (ev_if (et_tru (ev_isi2 .list .tuple (ev_var 0) c.n_isinstance c.n_list c.n_tuple)) (ev_comp (own:=[("_law_bit",1)]) (by rfl) hN (ei_any (ed_dat (ev_var 0))) (blk (N:=N__law_lists) (sc:=defScope (top 24)) (by decide +kernel)) (tgN_tgOk 1) (fun _ _ _ _ _=>egw_name 1 hN) (fun _ _ _ _ _=>ets_nil) (fun _ _ _ _ _=>ed_dat (ev_call (pa:=⟨pa,_⟩) ih (hr.mono (by omega)) takes0 (by rfl) c.g__law_lists c.F__law_lists.kp (b__law_lists c) (ea_cons (ed_dat (ev_var 1)) (ea_nil))))) (ev_var 0)))) (by omega)
abbrev N__law_with : List Str:=["_law_task_here","_law_sorts_so","_law_much","_law_wide"]
theorem sc__law_with : FnScope N__law_with ["_law_task_here","_law_sorts_so","_law_much"] (defScope (top 28)):=⟨rfl,rfl,rfl,by decide +kernel,rfl,by decide +kernel,by decide +kernel⟩
theorem ok__law_with (c : Fs P K mg) : FnOk P w K mg base (L2.CX P w) 1 c.f__law_with c.d__law_with ["_law_task_here","_law_sorts_so","_law_much"] (spD ⟨K,P,w⟩ T mg m__law_with 3):=by
  have hN:=sc__law_with.nd
  exact fn_ok c.F__law_with sc__law_with fun cdv A outer s H E pa hr =>
        eb_cons (es_asg 3 (ev_tup (ea_cons (ed_dat (ev_bin o_add (ev_ix (un hr) (ev_var 0) (ev_pvd (ed_int))) (ev_tup (ea_cons (ed_str) (ea_nil))))) (ea_cons (ed_dat (ev_ix (un hr) (ev_var 0) (ev_pvd (ed_int)))) (ea_nil)))) hN)
        (eb_one (es_ret (ev_tup (ea_cons (ed_dat (ev_var 3)) (ea_cons (ed_dat (ev_tup (ea_cons (ed_dat (ev_bin o_add (ev_ix (un hr) (ev_var 1) (ev_pvd (ed_int))) (ev_tup (ea_cons (ed_dat (ev_tup (ea_cons (ed_str) (ea_cons (ed_dat (ev_var 2)) (ea_nil))))) (ea_nil))))) (ea_cons (ed_dat (ev_ix (un hr) (ev_var 1) (ev_pvd (ed_int)))) (ea_nil))))) (ea_nil))))))
abbrev N_tupled : List Str:=["thing","part"]
theorem sc_tupled : FnScope N_tupled ["thing"] (defScope (top 1)):=⟨rfl,rfl,rfl,by decide +kernel,rfl,by decide +kernel,by decide +kernel⟩
theorem ok_tupled (c : Fs P K mg) : ∀ k : Nat,FnOk P w K mg base (L2.CX P w) (1 + k) c.f_tupled c.d_tupled ["thing"] (spD ⟨K,P,w⟩ T mg (m_tupled k) 1)
  | 0=>fn_bad (ps:=["thing"])
  | k + 1=>by
    have ih:=ok_tupled c k
    have hN:=sc_tupled.nd
    refine FnOk.mono (j:=1 + k + 1) (fn_ok (k:=1 + k) c.F_tupled sc_tupled fun cdv A outer s H E pa hr =>
        eb_one (es_ret (ev_if (et_tru (ev_isi2 .list .tuple (ev_var 0) c.n_isinstance c.n_list c.n_tuple)) (ev_tuple (ev_comp (own:=[("part",1)]) (by rfl) hN (ei_any (ed_dat (ev_var 0))) (blk (N:=N_tupled) (sc:=defScope (top 1)) (by decide +kernel)) (tgN_tgOk 1) (fun _ _ _ _ _=>egw_name 1 hN) (fun _ _ _ _ _=>ets_nil) (fun _ _ _ _ _=>ed_dat (ev_call (pa:=⟨pa,_⟩) ih (hr.mono (by omega)) takes0 (by rfl) c.g_tupled c.F_tupled.kp (b_tupled c) (ea_cons (ed_dat (ev_var 1)) (ea_nil))))) c.n_tuple) (ev_var 0)))) (by omega)
abbrev N_goal_of : List Str:=["job","place","other"]
theorem sc_goal_of : FnScope N_goal_of ["job"] (defScope (top 4)):=⟨rfl,rfl,rfl,by decide +kernel,rfl,by decide +kernel,by decide +kernel⟩
theorem ok_goal_of (c : Fs P K mg) : FnOk P w K mg base (L2.CX P w) 62 c.f_goal_of c.d_goal_of ["job"] (spD ⟨K,P,w⟩ T mg m_goal_of 1):=by
  have hN:=sc_goal_of.nd
  exact fn_ok c.F_goal_of sc_goal_of fun cdv A outer s H E pa hr =>
        eb_one (es_ret (ev_dcomp (own:=[("place",1),("other",2)]) (by rfl) hN (ei_any (ed_dat (ev_ix (un hr) (ev_call (pa:=⟨pa,_⟩) (ok_tupled c 60) (hr.mono (by decide)) tkx (by rfl) c.g_tupled c.F_tupled.kp (b_tupled c) (ea_cons (ed_dat (ev_var 0)) (ea_nil))) (ev_pvd (ed_int))))) (blk (N:=N_goal_of) (sc:=defScope (top 4)) (by decide +kernel)) (tgT_ok (consG_ok (tgN_tgOk 1) (consG_ok (tgN_tgOk 2) (nilG_ok)))) (fun _ _ _ _ _=>egw_tup (by rfl) (egws_cons (egw_name 1 hN) (egws_cons (egw_name 2 hN) (egws_nil))) (consG_len (consG_len (nilG_len)))) (fun _ _ _ _ _=>ets_nil) (fun _ _ _ _ _=>ed_dat (ev_var 1)) (fun _ _ _ _ _=>ed_dat (ev_var 2))))
abbrev N_row_from : List Str:=["goal","box","row"]
theorem sc_row_from : FnScope N_row_from ["goal","box"] (defScope (top 7)):=⟨rfl,rfl,rfl,by decide +kernel,rfl,by decide +kernel,by decide +kernel⟩
theorem ok_row_from (c : Fs P K mg) : FnOk P w K mg base (L2.CX P w) 1 c.f_row_from c.d_row_from ["goal","box"] (spD ⟨K,P,w⟩ T mg m_row_from 2):=by
  have hN:=sc_row_from.nd
  exact fn_ok c.F_row_from sc_row_from fun cdv A outer s H E pa hr =>
        eb_cons (es_asg 2 (ev_lst (ea_cons (ed_dat (ev_var 1)) (ea_nil))) hN)
        (eb_cons (es_while 200 psx (et_w (ew_and (et_cmp (o_inE (un hr)) (ev_ix (un hr) (ev_var 0) (ev_ix (un hr) (ev_var 2) (ev_un u_neg (ev_pvd (ed_int))))) (ev_var 0)) (ew_and1 (et_cmp (o_ne (un hr)) (ev_ix (un hr) (ev_var 0) (ev_ix (un hr) (ev_var 2) (ev_un u_neg (ev_pvd (ed_int))))) (ev_var 1))))) (eb_one (es_expr (ev_append 2 (ed_dat (ev_ix (un hr) (ev_var 0) (ev_ix (un hr) (ev_var 2) (ev_un u_neg (ev_pvd (ed_int))))))))))
        (eb_one (es_ret (ev_var 2))))
abbrev N_set_of : List Str:=["things"]
theorem sc_set_of : FnScope N_set_of ["things"] (defScope (top 2)):=⟨rfl,rfl,rfl,by decide +kernel,rfl,by decide +kernel,by decide +kernel⟩
theorem ok_set_of (c : Fs P K mg) : FnOk P w K mg base (L2.CX P w) 1 c.f_set_of c.d_set_of ["things"] (spD ⟨K,P,w⟩ T mg m_set_of 1):=by
  have hN:=sc_set_of.nd
  exact fn_ok c.F_set_of sc_set_of fun cdv A outer s H E pa hr =>
        eb_one (es_ret (ev_tuple (ev_sortSet (by rfl) (un hr) (ev_var 0) c.n_sorted c.n_set) c.n_tuple))
abbrev N_chains : List Str:=["job","goal","found","ends","box","other"]
theorem sc_chains : FnScope N_chains ["job"] (defScope (top 10)):=⟨rfl,rfl,rfl,by decide +kernel,rfl,by decide +kernel,by decide +kernel⟩
theorem ok_chains (c : Fs P K mg) : FnOk P w K mg base (L2.CX P w) 63 c.f_chains c.d_chains ["job"] (spD ⟨K,P,w⟩ T mg m_chains 1):=by
  have hN:=sc_chains.nd
  exact fn_ok c.F_chains sc_chains fun cdv A outer s H E pa hr =>
        eb_cons (es_par2 1 2 (by rfl) hN (ev_call (pa:=⟨pa,_⟩) (ok_goal_of c) (hr.mono (by decide)) tkx (by rfl) c.g_goal_of c.F_goal_of.kp (b_goal_of c) (ea_cons (ed_dat (ev_var 0)) (ea_nil))) (ev_lst (ea_nil)) (by rfl))
        (eb_cons (es_asg 3 (ev_call (pa:=⟨pa,_⟩) (ok_set_of c) (hr.mono (by decide)) tkx (by rfl) c.g_set_of c.F_set_of.kp (b_set_of c) (ea_cons (ed_dat (ev_comp (own:=[("other",5)]) (by rfl) hN (ei_values (ed_dat (ev_var 1))) (blk (N:=N_chains) (sc:=defScope (top 10)) (by decide +kernel)) (tgN_tgOk 5) (fun _ _ _ _ _=>egw_name 5 hN) (fun _ _ _ _ _=>ets_one (et_cmp o_notN (ev_var 5) (ev_pvd (ed_non)))) (fun _ _ _ _ _=>ed_dat (ev_var 5)))) (ea_nil))) hN)
        (eb_cons (es_for psx (by rfl) (ei_any (ed_dat (ev_sorted (by rfl) (un hr) (ev_var 1) c.n_sorted))) (eg_name 4 hN) (tgN_tgOk 4) (eb_one (es_if (et_cmp (o_notInE (un hr)) (ev_var 4) (ev_var 3)) (eb_one (es_expr (ev_append 2 (ed_dat (ev_tuple (ev_call (pa:=⟨pa,_⟩) (ok_row_from c) (hr.mono (by decide)) tkx (by rfl) c.g_row_from c.F_row_from.kp (b_row_from c) (ea_cons (ed_dat (ev_var 1)) (ea_cons (ed_dat (ev_var 4)) (ea_nil)))) c.n_tuple))))) (eb_nil))))
        (eb_one (es_ret (ev_tuple (ev_var 2) c.n_tuple)))))
abbrev N_free_places : List Str:=["job","places","goal","full","place","other"]
theorem sc_free_places : FnScope N_free_places ["job"] (defScope (top 6)):=⟨rfl,rfl,rfl,by decide +kernel,rfl,by decide +kernel,by decide +kernel⟩
theorem ok_free_places (c : Fs P K mg) : FnOk P w K mg base (L2.CX P w) 62 c.f_free_places c.d_free_places ["job"] (spD ⟨K,P,w⟩ T mg m_free_places 1):=by
  have hN:=sc_free_places.nd
  exact fn_ok c.F_free_places sc_free_places fun cdv A outer s H E pa hr =>
        eb_cons (es_asgT (ed_dat (ev_call (pa:=⟨pa,_⟩) (ok_tupled c 60) (hr.mono (by decide)) tkx (by rfl) c.g_tupled c.F_tupled.kp (b_tupled c) (ea_cons (ed_dat (ev_var 0)) (ea_nil)))) (eg_tup (by rfl) (egs_cons (eg_name 1 hN) (egs_cons (eg_name 2 hN) (egs_nil))) (consG_len (consG_len (nilG_len)))) (tgT_ok (consG_ok (tgN_tgOk 1) (consG_ok (tgN_tgOk 2) (nilG_ok)))))
        (eb_cons (es_asg 3 (ev_comp (own:=[("place",4),("other",5)]) (by rfl) hN (ei_any (ed_dat (ev_var 2))) (blk (N:=N_free_places) (sc:=defScope (top 6)) (by decide +kernel)) (tgT_ok (consG_ok (tgN_tgOk 4) (consG_ok (tgN_tgOk 5) (nilG_ok)))) (fun _ _ _ _ _=>egw_tup (by rfl) (egws_cons (egw_name 4 hN) (egws_cons (egw_name 5 hN) (egws_nil))) (consG_len (consG_len (nilG_len)))) (fun _ _ _ _ _=>ets_nil) (fun _ _ _ _ _=>ed_dat (ev_var 4))) hN)
        (eb_one (es_ret (ev_tuple (ev_comp (own:=[("place",4)]) (by rfl) hN (ei_any (ed_dat (ev_var 1))) (blk (N:=N_free_places) (sc:=defScope (top 6)) (by decide +kernel)) (tgN_tgOk 4) (fun _ _ _ _ _=>egw_name 4 hN) (fun _ _ _ _ _=>ets_one (et_cmp (o_notInE (un hr)) (ev_var 4) (ev_var 3))) (fun _ _ _ _ _=>ed_dat (ev_var 4))) c.n_tuple))))
abbrev N_tables_of : List Str:=["sizes","wide","thick"]
theorem sc_tables_of : FnScope N_tables_of ["sizes"] (defScope (top 12)):=⟨rfl,rfl,rfl,by decide +kernel,rfl,by decide +kernel,by decide +kernel⟩
theorem ok_tables_of (c : Fs P K mg) : FnOk P w K mg base (L2.CX P w) 62 c.f_tables_of c.d_tables_of ["sizes"] (spD ⟨K,P,w⟩ T mg m_tables_of 1):=by
  have hN:=sc_tables_of.nd
  exact fn_ok c.F_tables_of sc_tables_of fun cdv A outer s H E pa hr =>
        eb_cons (es_asgT (ed_dat (ev_call (pa:=⟨pa,_⟩) (ok_tupled c 60) (hr.mono (by decide)) tkx (by rfl) c.g_tupled c.F_tupled.kp (b_tupled c) (ea_cons (ed_dat (ev_var 0)) (ea_nil)))) (eg_tup (by rfl) (egs_cons (eg_name 1 hN) (egs_cons (eg_name 2 hN) (egs_nil))) (consG_len (consG_len (nilG_len)))) (tgT_ok (consG_ok (tgN_tgOk 1) (consG_ok (tgN_tgOk 2) (nilG_ok)))))
        (eb_one (es_ret (ev_tup (ea_cons (ed_dat (ev_dict (by rfl) (ev_var 1) c.n_dict)) (ea_cons (ed_dat (ev_dict (by rfl) (ev_var 2) c.n_dict)) (ea_nil))))))
abbrev N_hole_of : List Str:=["job","sizes","wide","goal","spots","chain","place"]
theorem sc_hole_of : FnScope N_hole_of ["job","sizes"] (defScope (top 13)):=⟨rfl,rfl,rfl,by decide +kernel,rfl,by decide +kernel,by decide +kernel⟩
theorem ok_hole_of (c : Fs P K mg) : FnOk P w K mg base (L2.CX P w) 64 c.f_hole_of c.d_hole_of ["job","sizes"] (spD ⟨K,P,w⟩ T mg m_hole_of 2):=by
  have hN:=sc_hole_of.nd
  exact fn_ok c.F_hole_of sc_hole_of fun cdv A outer s H E pa hr =>
        eb_cons (es_parN [2,3] (by rfl) (evs_cons (ev_ix (un hr) (ev_call (pa:=⟨pa,_⟩) (ok_tables_of c) (hr.mono (by decide)) tkx (by rfl) c.g_tables_of c.F_tables_of.kp (b_tables_of c) (ea_cons (ed_dat (ev_var 1)) (ea_nil))) (ev_pvd (ed_int))) (evs_cons (ev_call (pa:=⟨pa,_⟩) (ok_goal_of c) (hr.mono (by decide)) tkx (by rfl) c.g_goal_of c.F_goal_of.kp (b_goal_of c) (ea_cons (ed_dat (ev_var 0)) (ea_nil))) (evs_nil))) (pgn_cons 2 hN (pgn_cons 3 hN (pgn_nil))))
        (eb_cons (es_asg 4 (ev_list (ev_call (pa:=⟨pa,_⟩) (ok_free_places c) (hr.mono (by decide)) tkx (by rfl) c.g_free_places c.F_free_places.kp (b_free_places c) (ea_cons (ed_dat (ev_var 0)) (ea_nil))) c.n_list) hN)
        (eb_cons (es_for psx (by rfl) (ei_any (ed_dat (ev_call (pa:=⟨pa,_⟩) (ok_chains c) (hr.mono (by decide)) tkx (by rfl) c.g_chains c.F_chains.kp (b_chains c) (ea_cons (ed_dat (ev_var 0)) (ea_nil))))) (eg_name 5 hN) (tgN_tgOk 5) (eb_one (es_expr (ev_extend 4 (ev_comp (own:=[("place",6)]) (by rfl) hN (ei_any (ed_dat (ev_tupS (eas_star (ed_dat (ev_var 5)) (eas_cons (ed_dat (ev_ix (un hr) (ev_var 3) (ev_ix (un hr) (ev_var 5) (ev_un u_neg (ev_pvd (ed_int)))))) (eas_of ea_nil)))))) (blk (N:=N_hole_of) (sc:=defScope (top 13)) (by decide +kernel)) (tgN_tgOk 6) (fun _ _ _ _ _=>egw_name 6 hN) (fun _ _ _ _ _=>ets_one (et_cmp o_notN (ev_var 6) (ev_pvd (ed_non)))) (fun _ _ _ _ _=>ed_dat (ev_var 6)))))))
        (eb_one (es_ret (ev_maxN (by rfl) (un hr) (ev_comp (own:=[("place",6)]) (by rfl) hN (ei_any (ed_dat (ev_var 4))) (blk (N:=N_hole_of) (sc:=defScope (top 13)) (by decide +kernel)) (tgN_tgOk 6) (fun _ _ _ _ _=>egw_name 6 hN) (fun _ _ _ _ _=>ets_nil) (fun _ _ _ _ _=>ed_dat (ev_ix (un hr) (ev_var 2) (ev_var 6)))) c.n_max)))))
abbrev N_row_from_safe : List Str:=["goal","box","row"]
theorem sc_row_from_safe : FnScope N_row_from_safe ["goal","box"] (defScope (top 9)):=⟨rfl,rfl,rfl,by decide +kernel,rfl,by decide +kernel,by decide +kernel⟩
theorem ok_row_from_safe (c : Fs P K mg) : FnOk P w K mg base (L2.CX P w) 1 c.f_row_from_safe c.d_row_from_safe ["goal","box"] (spD ⟨K,P,w⟩ T mg m_row_from_safe 2):=by
  have hN:=sc_row_from_safe.nd
  exact fn_ok c.F_row_from_safe sc_row_from_safe fun cdv A outer s H E pa hr =>
        eb_cons (es_asg 2 (ev_lst (ea_cons (ed_dat (ev_var 1)) (ea_nil))) hN)
        (eb_cons (es_while 200 psx (et_cmp (o_ne (un hr)) (ev_ix (un hr) (ev_var 0) (ev_ix (un hr) (ev_var 2) (ev_un u_neg (ev_pvd (ed_int))))) (ev_var 1)) (eb_cons (es_if (et_cmp (o_notInE (un hr)) (ev_ix (un hr) (ev_var 0) (ev_ix (un hr) (ev_var 2) (ev_un u_neg (ev_pvd (ed_int))))) (ev_var 0)) (eb_one (es_ret (ev_pvd (ed_non)))) (eb_nil))
        (eb_one (es_expr (ev_append 2 (ed_dat (ev_ix (un hr) (ev_var 0) (ev_ix (un hr) (ev_var 2) (ev_un u_neg (ev_pvd (ed_int)))))))))))
        (eb_one (es_ret (ev_var 2))))
abbrev N_rings : List Str:=["job","goal","found","box","row"]
theorem sc_rings : FnScope N_rings ["job"] (defScope (top 8)):=⟨rfl,rfl,rfl,by decide +kernel,rfl,by decide +kernel,by decide +kernel⟩
theorem ok_rings (c : Fs P K mg) : FnOk P w K mg base (L2.CX P w) 63 c.f_rings c.d_rings ["job"] (spD ⟨K,P,w⟩ T mg m_rings 1):=by
  have hN:=sc_rings.nd
  exact fn_ok c.F_rings sc_rings fun cdv A outer s H E pa hr =>
        eb_cons (es_par2 1 2 (by rfl) hN (ev_call (pa:=⟨pa,_⟩) (ok_goal_of c) (hr.mono (by decide)) tkx (by rfl) c.g_goal_of c.F_goal_of.kp (b_goal_of c) (ea_cons (ed_dat (ev_var 0)) (ea_nil))) (ev_lst (ea_nil)) (by rfl))
        (eb_cons (es_for psx (by rfl) (ei_any (ed_dat (ev_sorted (by rfl) (un hr) (ev_var 1) c.n_sorted))) (eg_name 3 hN) (tgN_tgOk 3) (eb_cons (es_asg 4 (ev_call (pa:=⟨pa,_⟩) (ok_row_from_safe c) (hr.mono (by decide)) tkx (by rfl) c.g_row_from_safe c.F_row_from_safe.kp (b_row_from_safe c) (ea_cons (ed_dat (ev_var 1)) (ea_cons (ed_dat (ev_var 3)) (ea_nil)))) hN)
        (eb_one (es_if (et_w (ew_and (et_cmp o_notN (ev_var 4) (ev_pvd (ed_non))) (ew_and (et_cmp o_gt (ev_len (ev_var 4) c.n_len) (ev_pvd (ed_int))) (ew_and1 (et_cmp (o_eq (un hr)) (ev_var 3) (ev_min1 (by rfl) (un hr) (ev_var 4) c.n_min)))))) (eb_one (es_expr (ev_append 2 (ed_dat (ev_tuple (ev_var 4) c.n_tuple))))) (eb_nil)))))
        (eb_one (es_ret (ev_tuple (ev_var 2) c.n_tuple))))
abbrev N_opened_by : List Str:=["job","sizes","hole","wide","thick","left","found","here","fine","ring","box","place"]
theorem sc_opened_by : FnScope N_opened_by ["job","sizes","hole"] (defScope (top 14)):=⟨rfl,rfl,rfl,by decide +kernel,rfl,by decide +kernel,by decide +kernel⟩
theorem ok_opened_by (c : Fs P K mg) : FnOk P w K mg base (L2.CX P w) 64 c.f_opened_by c.d_opened_by ["job","sizes","hole"] (spD ⟨K,P,w⟩ T mg m_opened_by 3):=by
  have hN:=sc_opened_by.nd
  exact fn_ok c.F_opened_by sc_opened_by fun cdv A outer s H E pa hr =>
        eb_cons (es_asgT (ed_dat (ev_call (pa:=⟨pa,_⟩) (ok_tables_of c) (hr.mono (by decide)) tkx (by rfl) c.g_tables_of c.F_tables_of.kp (b_tables_of c) (ea_cons (ed_dat (ev_var 1)) (ea_nil)))) (eg_tup (by rfl) (egs_cons (eg_name 3 hN) (egs_cons (eg_name 4 hN) (egs_nil))) (consG_len (consG_len (nilG_len)))) (tgT_ok (consG_ok (tgN_tgOk 3) (consG_ok (tgN_tgOk 4) (nilG_ok)))))
        (eb_cons (es_parN [5,6,7] (by rfl) (evs_cons (ev_list (ev_call (pa:=⟨pa,_⟩) (ok_rings c) (hr.mono (by decide)) tkx (by rfl) c.g_rings c.F_rings.kp (b_rings c) (ea_cons (ed_dat (ev_var 0)) (ea_nil))) c.n_list) (evs_cons (ev_lst (ea_nil)) (evs_cons (ev_pvd (ed_dat (ev_var 2))) (evs_nil)))) (pgn_cons 5 hN (pgn_cons 6 hN (pgn_cons 7 hN (pgn_nil)))))
        (eb_one (es_while 200 psx (et_tru (ev_pvd (ed_bl))) (eb_cons (es_compO 5 8 (own:=[("ring",9)]) (by rfl) hN (blk (N:=N_opened_by) (sc:=defScope (top 14)) (by decide +kernel)) (tgN_tgOk 9) (fun _ _ _ _ _=>egw_name 9 hN) (fun _ _ _ _ _=>ets_one (et_w (ew_and (et_cmp o_notN (ev_var 7) (ev_pvd (ed_non))) (ew_and1 (et_cmp o_le (ev_min1 (by rfl) (un hr) (ev_comp (own:=[("box",10)]) (by rfl) hN (ei_any (ed_dat (ev_var 9))) (blk (N:=N_opened_by) (by rfl)) (tgN_tgOk 10) (fun _ _ _ _ _=>egw_name 10 hN) (fun _ _ _ _ _=>ets_nil) (fun _ _ _ _ _=>ed_dat (ev_ix (un hr) (ev_var 4) (ev_var 10)))) c.n_min) (ev_var 7)))))) (fun _ _ _ _ _=>ed_dat (ev_var 9)) (sw_true rfl rfl rfl (by decide +kernel)))
        (eb_cons (es_if (et_cmp (o_eq (un hr)) (ev_len (ev_var 8) c.n_len) (ev_pvd (ed_int))) (eb_one (es_ret (ev_tup (ea_cons (ed_dat (ev_tuple (ev_var 6) c.n_tuple)) (ea_cons (ed_dat (ev_tuple (ev_var 5) c.n_tuple)) (ea_nil)))))) (eb_nil))
        (eb_cons (es_asg 7 (ev_max2 (by rfl) (ev_var 7) (ev_max1 (by rfl) (un hr) (ev_comp (own:=[("place",11)]) (by rfl) hN (ei_any (ed_dat (ev_ix (un hr) (ev_var 8) (ev_pvd (ed_int))))) (blk (N:=N_opened_by) (sc:=defScope (top 14)) (by decide +kernel)) (tgN_tgOk 11) (fun _ _ _ _ _=>egw_name 11 hN) (fun _ _ _ _ _=>ets_nil) (fun _ _ _ _ _=>ed_dat (ev_ix (un hr) (ev_var 3) (ev_var 11)))) c.n_max) c.n_max) hN)
        (eb_cons (es_expr (ev_append 6 (ed_dat (ev_tup (ea_cons (ed_dat (ev_ix (un hr) (ev_var 8) (ev_pvd (ed_int)))) (ea_cons (ed_dat (ev_var 7)) (ea_nil)))))))
        (eb_one (es_expr (ev_remove 5 (un hr) (ed_dat (ev_ix (un hr) (ev_var 8) (ev_pvd (ed_int))))))))))))))
abbrev N_shut_rings : List Str:=["job","sizes"]
theorem sc_shut_rings : FnScope N_shut_rings ["job","sizes"] (defScope (top 15)):=⟨rfl,rfl,rfl,by decide +kernel,rfl,by decide +kernel,by decide +kernel⟩
theorem ok_shut_rings (c : Fs P K mg) : FnOk P w K mg base (L2.CX P w) 65 c.f_shut_rings c.d_shut_rings ["job","sizes"] (spD ⟨K,P,w⟩ T mg m_shut_rings 2):=by
  have hN:=sc_shut_rings.nd
  exact fn_ok c.F_shut_rings sc_shut_rings fun cdv A outer s H E pa hr =>
        eb_one (es_ret (ev_ix (un hr) (ev_call (pa:=⟨pa,_⟩) (ok_opened_by c) (hr.mono (by decide)) tkx (by rfl) c.g_opened_by c.F_opened_by.kp (b_opened_by c) (ea_cons (ed_dat (ev_var 0)) (ea_cons (ed_dat (ev_var 1)) (ea_cons (ed_dat (ev_call (pa:=⟨pa,_⟩) (ok_hole_of c) (hr.mono (by decide)) tkx (by rfl) c.g_hole_of c.F_hole_of.kp (b_hole_of c) (ea_cons (ed_dat (ev_var 0)) (ea_cons (ed_dat (ev_var 1)) (ea_nil))))) (ea_nil))))) (ev_pvd (ed_int))))
abbrev N_can_be_done_by : List Str:=["job","sizes"]
theorem sc_can_be_done_by : FnScope N_can_be_done_by ["job","sizes"] (defScope (top 16)):=⟨rfl,rfl,rfl,by decide +kernel,rfl,by decide +kernel,by decide +kernel⟩
theorem ok_can_be_done_by (c : Fs P K mg) : FnOk P w K mg base (L2.CX P w) 66 c.f_can_be_done_by c.d_can_be_done_by ["job","sizes"] (spD ⟨K,P,w⟩ T mg m_can_be_done_by 2):=by
  have hN:=sc_can_be_done_by.nd
  exact fn_ok c.F_can_be_done_by sc_can_be_done_by fun cdv A outer s H E pa hr =>
        eb_one (es_ret (ev_cmp (o_eq (un hr)) (ev_len (ev_call (pa:=⟨pa,_⟩) (ok_shut_rings c) (hr.mono (by decide)) tkx (by rfl) c.g_shut_rings c.F_shut_rings.kp (b_shut_rings c) (ea_cons (ed_dat (ev_var 0)) (ea_cons (ed_dat (ev_var 1)) (ea_nil)))) c.n_len) (ev_pvd (ed_int))))
abbrev N_boxes : List Str:=["job","place","other"]
theorem sc_boxes : FnScope N_boxes ["job"] (defScope (top 5)):=⟨rfl,rfl,rfl,by decide +kernel,rfl,by decide +kernel,by decide +kernel⟩
theorem ok_boxes (c : Fs P K mg) : FnOk P w K mg base (L2.CX P w) 62 c.f_boxes c.d_boxes ["job"] (spD ⟨K,P,w⟩ T mg m_boxes 1):=by
  have hN:=sc_boxes.nd
  exact fn_ok c.F_boxes sc_boxes fun cdv A outer s H E pa hr =>
        eb_one (es_ret (ev_tuple (ev_comp (own:=[("place",1),("other",2)]) (by rfl) hN (ei_any (ed_dat (ev_ix (un hr) (ev_call (pa:=⟨pa,_⟩) (ok_tupled c 60) (hr.mono (by decide)) tkx (by rfl) c.g_tupled c.F_tupled.kp (b_tupled c) (ea_cons (ed_dat (ev_var 0)) (ea_nil))) (ev_pvd (ed_int))))) (blk (N:=N_boxes) (sc:=defScope (top 5)) (by decide +kernel)) (tgT_ok (consG_ok (tgN_tgOk 1) (consG_ok (tgN_tgOk 2) (nilG_ok)))) (fun _ _ _ _ _=>egw_tup (by rfl) (egws_cons (egw_name 1 hN) (egws_cons (egw_name 2 hN) (egws_nil))) (consG_len (consG_len (nilG_len)))) (fun _ _ _ _ _=>ets_nil) (fun _ _ _ _ _=>ed_dat (ev_var 1))) c.n_tuple))
abbrev N_place_needed : List Str:=["job","sizes","hole","thick","number","box"]
theorem sc_place_needed : FnScope N_place_needed ["job","sizes"] (defScope (top 17)):=⟨rfl,rfl,rfl,by decide +kernel,rfl,by decide +kernel,by decide +kernel⟩
theorem ok_place_needed (c : Fs P K mg) : FnOk P w K mg base (L2.CX P w) 67 c.f_place_needed c.d_place_needed ["job","sizes"] (spD ⟨K,P,w⟩ T mg m_place_needed 2):=by
  have hN:=sc_place_needed.nd
  exact fn_ok c.F_place_needed sc_place_needed fun cdv A outer s H E pa hr =>
        eb_cons (es_parN [2,3] (by rfl) (evs_cons (ev_call (pa:=⟨pa,_⟩) (ok_hole_of c) (hr.mono (by decide)) tkx (by rfl) c.g_hole_of c.F_hole_of.kp (b_hole_of c) (ea_cons (ed_dat (ev_var 0)) (ea_cons (ed_dat (ev_var 1)) (ea_nil)))) (evs_cons (ev_ix (un hr) (ev_call (pa:=⟨pa,_⟩) (ok_tables_of c) (hr.mono (by decide)) tkx (by rfl) c.g_tables_of c.F_tables_of.kp (b_tables_of c) (ea_cons (ed_dat (ev_var 1)) (ea_nil))) (ev_pvd (ed_int))) (evs_nil))) (pgn_cons 2 hN (pgn_cons 3 hN (pgn_nil))))
        (eb_cons (es_if (et_tru (ev_call (pa:=⟨pa,_⟩) (ok_can_be_done_by c) (hr.mono (by decide)) tkx (by rfl) c.g_can_be_done_by c.F_can_be_done_by.kp (b_can_be_done_by c) (ea_cons (ed_dat (ev_var 0)) (ea_cons (ed_dat (ev_var 1)) (ea_nil))))) (eb_one (es_ret (ev_pvd (ed_int)))) (eb_nil))
        (eb_cons (es_for psx (by rfl) (ei_any (ed_dat (ev_sorted (by rfl) (un hr) (ev_comp (own:=[("box",5)]) (by rfl) hN (ei_any (ed_dat (ev_call (pa:=⟨pa,_⟩) (ok_boxes c) (hr.mono (by decide)) tkx (by rfl) c.g_boxes c.F_boxes.kp (b_boxes c) (ea_cons (ed_dat (ev_var 0)) (ea_nil))))) (blk (N:=N_place_needed) (sc:=defScope (top 17)) (by decide +kernel)) (tgN_tgOk 5) (fun _ _ _ _ _=>egw_name 5 hN) (fun _ _ _ _ _=>ets_nil) (fun _ _ _ _ _=>ed_dat (ev_ix (un hr) (ev_var 3) (ev_var 5)))) c.n_sorted))) (eg_name 4 hN) (tgN_tgOk 4) (eb_one (es_if (et_cmp (o_eq (un hr)) (ev_len (ev_ix (un hr) (ev_call (pa:=⟨pa,_⟩) (ok_opened_by c) (hr.mono (by decide)) tkx (by rfl) c.g_opened_by c.F_opened_by.kp (b_opened_by c) (ea_cons (ed_dat (ev_var 0)) (ea_cons (ed_dat (ev_var 1)) (ea_cons (ed_dat (ev_if (et_cmp o_isN (ev_var 2) (ev_pvd (ed_non))) (ev_var 4) (ev_max2E (by rfl) (ev_var 2) (ev_var 4) c.n_max))) (ea_nil))))) (ev_pvd (ed_int))) c.n_len) (ev_pvd (ed_int))) (eb_one (es_ret (ev_var 4))) (eb_nil))))
        (eb_one (es_ret (ev_pvd (ed_non))))))
abbrev N__law_least_right : List Str:=["_law_task_here","_law_sorts_so","_law_much","_law_wide","_law_more"]
theorem sc__law_least_right : FnScope N__law_least_right ["_law_task_here","_law_sorts_so"] (defScope (top 29)):=⟨rfl,rfl,rfl,by decide +kernel,rfl,by decide +kernel,by decide +kernel⟩
theorem ok__law_least_right (c : Fs P K mg) : FnOk P w K mg base (L2.CX P w) 68 c.f__law_least_right c.d__law_least_right ["_law_task_here","_law_sorts_so"] (spD ⟨K,P,w⟩ T mg m__law_least_right 2):=by
  have hN:=sc__law_least_right.nd
  exact fn_ok c.F__law_least_right sc__law_least_right fun cdv A outer s H E pa hr =>
        eb_cons (es_asg 2 (ev_call (pa:=⟨pa,_⟩) (ok_place_needed c) (hr.mono (by decide)) tkx (by rfl) c.g_place_needed c.F_place_needed.kp (b_place_needed c) (ea_cons (ed_dat (ev_var 0)) (ea_cons (ed_dat (ev_var 1)) (ea_nil)))) hN)
        (eb_cons (es_if (et_w (ew_or (et_not (et_tru (ev_isi1 .int (ev_var 2) c.n_isinstance c.n_int))) (ew_or (et_tru (ev_isi1 .bool (ev_var 2) c.n_isinstance c.n_bool)) (ew_or1 (et_cmp o_lt (ev_var 2) (ev_pvd (ed_int))))))) (eb_one (es_ret (ev_pvd (ed_bl)))) (eb_nil))
        (eb_cons (es_if (et_cmp (o_ne (un hr)) (ev_call (pa:=⟨pa,_⟩) (ok_place_needed c) (hr.mono (by decide)) tkx (by rfl) c.g_place_needed c.F_place_needed.kp (b_place_needed c) (ea_cons (ed_dat (ev_call (pa:=⟨pa,_⟩) (ok__law_lists c 60) (hr.mono (by decide)) tkx (by rfl) c.g__law_lists c.F__law_lists.kp (b__law_lists c) (ea_cons (ed_dat (ev_var 0)) (ea_nil)))) (ea_cons (ed_dat (ev_call (pa:=⟨pa,_⟩) (ok__law_lists c 60) (hr.mono (by decide)) tkx (by rfl) c.g__law_lists c.F__law_lists.kp (b__law_lists c) (ea_cons (ed_dat (ev_var 1)) (ea_nil)))) (ea_nil)))) (ev_var 2)) (eb_one (es_ret (ev_pvd (ed_bl)))) (eb_nil))
        (eb_cons (es_if (et_tru (ev_call (pa:=⟨pa,_⟩) (ok_can_be_done_by c) (hr.mono (by decide)) tkx (by rfl) c.g_can_be_done_by c.F_can_be_done_by.kp (b_can_be_done_by c) (ea_cons (ed_dat (ev_var 0)) (ea_cons (ed_dat (ev_var 1)) (ea_nil))))) (eb_one (es_ret (ev_cmp (o_eq (un hr)) (ev_var 2) (ev_pvd (ed_int))))) (eb_nil))
        (eb_cons (es_asgT (ed_dat (ev_call (pa:=⟨pa,_⟩) (ok__law_with c) (hr.mono (by decide)) tkx (by rfl) c.g__law_with c.F__law_with.kp (b__law_with c) (ea_cons (ed_dat (ev_var 0)) (ea_cons (ed_dat (ev_var 1)) (ea_cons (ed_dat (ev_var 2)) (ea_nil)))))) (eg_tup (by rfl) (egs_cons (eg_name 3 hN) (egs_cons (eg_name 4 hN) (egs_nil))) (consG_len (consG_len (nilG_len)))) (tgT_ok (consG_ok (tgN_tgOk 3) (consG_ok (tgN_tgOk 4) (nilG_ok)))))
        (eb_cons (es_if (et_not (et_tru (ev_call (pa:=⟨pa,_⟩) (ok_can_be_done_by c) (hr.mono (by decide)) tkx (by rfl) c.g_can_be_done_by c.F_can_be_done_by.kp (b_can_be_done_by c) (ea_cons (ed_dat (ev_var 3)) (ea_cons (ed_dat (ev_var 4)) (ea_nil)))))) (eb_one (es_ret (ev_pvd (ed_bl)))) (eb_nil))
        (eb_cons (es_if (et_cmp (o_eq (un hr)) (ev_var 2) (ev_pvd (ed_int))) (eb_one (es_ret (ev_pvd (ed_bl)))) (eb_nil))
        (eb_cons (es_asgT (ed_dat (ev_call (pa:=⟨pa,_⟩) (ok__law_with c) (hr.mono (by decide)) tkx (by rfl) c.g__law_with c.F__law_with.kp (b__law_with c) (ea_cons (ed_dat (ev_var 0)) (ea_cons (ed_dat (ev_var 1)) (ea_cons (ed_dat (ev_bin o_sub (ev_var 2) (ev_pvd (ed_int)))) (ea_nil)))))) (eg_tup (by rfl) (egs_cons (eg_name 3 hN) (egs_cons (eg_name 4 hN) (egs_nil))) (consG_len (consG_len (nilG_len)))) (tgT_ok (consG_ok (tgN_tgOk 3) (consG_ok (tgN_tgOk 4) (nilG_ok)))))
        (eb_one (es_ret (ev_notX (ev_call (pa:=⟨pa,_⟩) (ok_can_be_done_by c) (hr.mono (by decide)) tkx (by rfl) c.g_can_be_done_by c.F_can_be_done_by.kp (b_can_be_done_by c) (ea_cons (ed_dat (ev_var 3)) (ea_cons (ed_dat (ev_var 4)) (ea_nil))))))))))))))
abbrev N__law_same : List Str:=["_law_got","_law_due","_law_mine","_law_its","_law_lot_so"]
theorem sc__law_same : FnScope N__law_same ["_law_got","_law_due"] (defScope (top 25)):=⟨rfl,rfl,rfl,by decide +kernel,rfl,by decide +kernel,by decide +kernel⟩
theorem ok__law_same (c : Fs P K mg) : ∀ k : Nat,FnOk P w K mg base (L2.CX P w) (1 + k) c.f__law_same c.d__law_same ["_law_got","_law_due"] (spD ⟨K,P,w⟩ T mg (m__law_same k) 2)
  | 0=>fn_bad (ps:=["_law_got","_law_due"])
  | k + 1=>by
    have ih:=ok__law_same c k
    have hN:=sc__law_same.nd
    refine FnOk.mono (j:=1 + k + 1) (fn_ok (k:=1 + k) c.F__law_same sc__law_same fun cdv A outer s H E pa hr =>
        eb_cons (es_if (et_tru (ev_isi2 .list .tuple (ev_var 1) c.n_isinstance c.n_list c.n_tuple)) (eb_cons (es_if (et_w (ew_or (et_cmp (o_ne (un hr)) (ev_isi1 .list (ev_var 0) c.n_isinstance c.n_list) (ev_isi1 .list (ev_var 1) c.n_isinstance c.n_list)) (ew_or1 (et_cmp (o_ne (un hr)) (ev_isi1 .tuple (ev_var 0) c.n_isinstance c.n_tuple) (ev_isi1 .tuple (ev_var 1) c.n_isinstance c.n_tuple))))) (eb_one (es_ret (ev_pvd (ed_bl)))) (eb_nil))
        (eb_one (es_ret (ev_andX (ev_cmp (o_eq (un hr)) (ev_len (ev_var 0) c.n_len) (ev_len (ev_var 1) c.n_len)) (ev_one (ev_all (by rfl) (ev_comp (own:=[("_law_mine",2),("_law_its",3)]) (by rfl) hN (ei_zip (ed_dat (ev_var 0)) (ed_dat (ev_var 1)) c.n_zip) (blk (N:=N__law_same) (sc:=defScope (top 25)) (by decide +kernel)) (tgT_ok (consG_ok (tgN_tgOk 2) (consG_ok (tgN_tgOk 3) (nilG_ok)))) (fun _ _ _ _ _=>egw_tup (by rfl) (egws_cons (egw_name 2 hN) (egws_cons (egw_name 3 hN) (egws_nil))) (consG_len (consG_len (nilG_len)))) (fun _ _ _ _ _=>ets_nil) (fun _ _ _ _ _=>ed_dat (ev_call (pa:=⟨pa,_⟩) ih (hr.mono (by omega)) takes0 (by rfl) c.g__law_same c.F__law_same.kp (b__law_same c) (ea_cons (ed_dat (ev_var 2)) (ea_cons (ed_dat (ev_var 3)) (ea_nil)))))) c.n_all)))))) (eb_nil))
        (eb_cons (es_if (et_tru (ev_isi1 .dict (ev_var 1) c.n_isinstance c.n_dict)) (eb_cons (es_if (et_w (ew_or (et_not (et_tru (ev_isi1 .dict (ev_var 0) c.n_isinstance c.n_dict))) (ew_or1 (et_cmp (o_ne (un hr)) (ev_sorted (by rfl) (un hr) (ev_var 0) c.n_sorted) (ev_sorted (by rfl) (un hr) (ev_var 1) c.n_sorted))))) (eb_one (es_ret (ev_pvd (ed_bl)))) (eb_nil))
        (eb_one (es_ret (ev_all (by rfl) (ev_comp (own:=[("_law_lot_so",4)]) (by rfl) hN (ei_any (ed_dat (ev_var 1))) (blk (N:=N__law_same) (sc:=defScope (top 25)) (by decide +kernel)) (tgN_tgOk 4) (fun _ _ _ _ _=>egw_name 4 hN) (fun _ _ _ _ _=>ets_nil) (fun _ _ _ _ _=>ed_dat (ev_call (pa:=⟨pa,_⟩) ih (hr.mono (by omega)) takes0 (by rfl) c.g__law_same c.F__law_same.kp (b__law_same c) (ea_cons (ed_dat (ev_ix (un hr) (ev_var 0) (ev_var 4))) (ea_cons (ed_dat (ev_ix (un hr) (ev_var 1) (ev_var 4))) (ea_nil)))))) c.n_all)))) (eb_nil))
        (eb_cons (es_if (et_w (ew_or (et_cmp o_isN (ev_var 1) (ev_pvd (ed_non))) (ew_or1 (et_tru (ev_isi2 .bool .str (ev_var 1) c.n_isinstance c.n_bool c.n_str))))) (eb_one (es_ret (ev_andX (ev_cmp (o_eq (un hr)) (ev_var 0) (ev_var 1)) (ev_andX (ev_cmp (o_eq (un hr)) (ev_isi1 .bool (ev_var 0) c.n_isinstance c.n_bool) (ev_isi1 .bool (ev_var 1) c.n_isinstance c.n_bool)) (ev_one (ev_cmp (o_eq (un hr)) (ev_cmp o_isN (ev_var 0) (ev_pvd (ed_non))) (ev_cmp o_isN (ev_var 1) (ev_pvd (ed_non))))))))) (eb_nil))
        (eb_one (es_ret (ev_andX (ev_isi1 .int (ev_var 0) c.n_isinstance c.n_int) (ev_andX (ev_notX (ev_isi1 .bool (ev_var 0) c.n_isinstance c.n_bool)) (ev_one (ev_cmp (o_eq (un hr)) (ev_var 0) (ev_var 1)))))))))) (by omega)
abbrev N__law_by_hand_right : List Str:=["_law_task_here","_law_wide","_law_thick","_law_tight","_law_got","_law_due","_law_full_so","_law_tags","_law_far","_law_ways","_law_many","_law_apart","_law_great","_law_letter","_law_k","_law_own_so"]
theorem sc__law_by_hand_right : FnScope N__law_by_hand_right [] (defScope (top 30)):=⟨rfl,rfl,rfl,by decide +kernel,rfl,by decide +kernel,by decide +kernel⟩
theorem ok__law_by_hand_right (c : Fs P K mg) : FnOk P w K mg base (L2.CX P w) 69 c.f__law_by_hand_right c.d__law_by_hand_right [] (spD ⟨K,P,w⟩ T mg m__law_by_hand_right 0):=by
  have hN:=sc__law_by_hand_right.nd
  exact fn_ok c.F__law_by_hand_right sc__law_by_hand_right fun cdv A outer s H E pa hr =>
        eb_cons (es_asg 0 (ev_tup (ea_cons (ed_dat (ev_tup (ea_cons (ed_str) (ea_cons (ed_str) (ea_cons (ed_str) (ea_cons (ed_str) (ea_cons (ed_str) (ea_nil)))))))) (ea_cons (ed_dat (ev_tup (ea_cons (ed_dat (ev_tup (ea_cons (ed_str) (ea_cons (ed_str) (ea_nil))))) (ea_cons (ed_dat (ev_tup (ea_cons (ed_str) (ea_cons (ed_str) (ea_nil))))) (ea_cons (ed_dat (ev_tup (ea_cons (ed_str) (ea_cons (ed_str) (ea_nil))))) (ea_cons (ed_dat (ev_tup (ea_cons (ed_str) (ea_cons (ed_str) (ea_nil))))) (ea_nil))))))) (ea_nil)))) hN)
        (eb_cons (es_asgT (ed_dat (ev_tup (ea_cons (ed_dat (ev_tup (ea_cons (ed_dat (ev_tup (ea_cons (ed_str) (ea_cons (ed_int) (ea_nil))))) (ea_cons (ed_dat (ev_tup (ea_cons (ed_str) (ea_cons (ed_int) (ea_nil))))) (ea_cons (ed_dat (ev_tup (ea_cons (ed_str) (ea_cons (ed_int) (ea_nil))))) (ea_cons (ed_dat (ev_tup (ea_cons (ed_str) (ea_cons (ed_int) (ea_nil))))) (ea_cons (ed_dat (ev_tup (ea_cons (ed_str) (ea_cons (ed_int) (ea_nil))))) (ea_nil)))))))) (ea_cons (ed_dat (ev_tup (ea_cons (ed_dat (ev_tup (ea_cons (ed_str) (ea_cons (ed_int) (ea_nil))))) (ea_cons (ed_dat (ev_tup (ea_cons (ed_str) (ea_cons (ed_int) (ea_nil))))) (ea_cons (ed_dat (ev_tup (ea_cons (ed_str) (ea_cons (ed_int) (ea_nil))))) (ea_cons (ed_dat (ev_tup (ea_cons (ed_str) (ea_cons (ed_int) (ea_nil))))) (ea_nil))))))) (ea_nil))))) (eg_tup (by rfl) (egs_cons (eg_name 1 hN) (egs_cons (eg_name 2 hN) (egs_nil))) (consG_len (consG_len (nilG_len)))) (tgT_ok (consG_ok (tgN_tgOk 1) (consG_ok (tgN_tgOk 2) (nilG_ok)))))
        (eb_cons (es_asg 3 (ev_tup (ea_cons (ed_dat (ev_bin o_add (ev_slice (ev_var 1) (eo_none) (eo_some (ed_int))) (ev_tup (ea_cons (ed_dat (ev_tup (ea_cons (ed_str) (ea_cons (ed_int) (ea_nil))))) (ea_cons (ed_dat (ev_tup (ea_cons (ed_str) (ea_cons (ed_int) (ea_nil))))) (ea_cons (ed_dat (ev_tup (ea_cons (ed_str) (ea_cons (ed_int) (ea_nil))))) (ea_nil))))))) (ea_cons (ed_dat (ev_bin o_add (ev_slice (ev_var 2) (eo_none) (eo_some (ed_int))) (ev_tup (ea_cons (ed_dat (ev_tup (ea_cons (ed_str) (ea_cons (ed_int) (ea_nil))))) (ea_cons (ed_dat (ev_tup (ea_cons (ed_str) (ea_cons (ed_int) (ea_nil))))) (ea_nil)))))) (ea_nil)))) hN)
        (eb_cons (es_asg 4 (ev_lst (ea_cons (ed_dat (ev_call (pa:=⟨pa,_⟩) (ok_place_needed c) (hr.mono (by decide)) tkx (by rfl) c.g_place_needed c.F_place_needed.kp (b_place_needed c) (ea_cons (ed_dat (ev_var 0)) (ea_cons (ed_dat (ev_tup (ea_cons (ed_dat (ev_var 1)) (ea_cons (ed_dat (ev_var 2)) (ea_nil))))) (ea_nil))))) (ea_cons (ed_dat (ev_call (pa:=⟨pa,_⟩) (ok_place_needed c) (hr.mono (by decide)) tkx (by rfl) c.g_place_needed c.F_place_needed.kp (b_place_needed c) (ea_cons (ed_dat (ev_var 0)) (ea_cons (ed_dat (ev_var 3)) (ea_nil))))) (ea_nil)))) hN)
        (eb_cons (es_asg 4 (ev_bin o_add (ev_var 4) (ev_lst (ea_cons (ed_dat (ev_call (pa:=⟨pa,_⟩) (ok_place_needed c) (hr.mono (by decide)) tkx (by rfl) c.g_place_needed c.F_place_needed.kp (b_place_needed c) (ea_cons (ed_dat (ev_var 0)) (ea_cons (ed_dat (ev_tup (ea_cons (ed_dat (ev_bin o_add (ev_slice (ev_var 1) (eo_none) (eo_some (ed_int))) (ev_tup (ea_cons (ed_dat (ev_tup (ea_cons (ed_str) (ea_cons (ed_int) (ea_nil))))) (ea_nil))))) (ea_cons (ed_dat (ev_var 2)) (ea_nil))))) (ea_nil))))) (ea_nil)))) hN)
        (eb_cons (es_asg 4 (ev_bin o_add (ev_var 4) (ev_lst (ea_cons (ed_dat (ev_call (pa:=⟨pa,_⟩) (ok_place_needed c) (hr.mono (by decide)) tkx (by rfl) c.g_place_needed c.F_place_needed.kp (b_place_needed c) (ea_cons (ed_dat (ev_var 0)) (ea_cons (ed_dat (ev_tup (ea_cons (ed_dat (ev_var 1)) (ea_cons (ed_dat (ev_bin o_add (ev_slice (ev_var 2) (eo_none) (eo_some (ed_int))) (ev_tup (ea_cons (ed_dat (ev_tup (ea_cons (ed_str) (ea_cons (ed_int) (ea_nil))))) (ea_cons (ed_dat (ev_tup (ea_cons (ed_str) (ea_cons (ed_int) (ea_nil))))) (ea_nil)))))) (ea_nil))))) (ea_nil))))) (ea_nil)))) hN)
        (eb_cons (es_asg 5 (ev_lst (ea_cons (ed_int) (ea_cons (ed_int) (ea_cons (ed_int) (ea_cons (ed_int) (ea_nil)))))) hN)
        (eb_cons (es_asg 6 (ev_tup (ea_cons (ed_dat (ev_tup (ea_cons (ed_str) (ea_cons (ed_str) (ea_nil))))) (ea_cons (ed_dat (ev_tup (ea_cons (ed_dat (ev_tup (ea_cons (ed_str) (ea_cons (ed_str) (ea_nil))))) (ea_cons (ed_dat (ev_tup (ea_cons (ed_str) (ea_cons (ed_str) (ea_nil))))) (ea_nil))))) (ea_nil)))) hN)
        (eb_cons (es_asg 4 (ev_bin o_add (ev_var 4) (ev_lst (ea_cons (ed_dat (ev_call (pa:=⟨pa,_⟩) (ok_place_needed c) (hr.mono (by decide)) tkx (by rfl) c.g_place_needed c.F_place_needed.kp (b_place_needed c) (ea_cons (ed_dat (ev_var 6)) (ea_cons (ed_dat (ev_tup (ea_cons (ed_dat (ev_tup (ea_cons (ed_dat (ev_tup (ea_cons (ed_str) (ea_cons (ed_int) (ea_nil))))) (ea_cons (ed_dat (ev_tup (ea_cons (ed_str) (ea_cons (ed_int) (ea_nil))))) (ea_nil))))) (ea_cons (ed_dat (ev_tup (ea_cons (ed_dat (ev_tup (ea_cons (ed_str) (ea_cons (ed_int) (ea_nil))))) (ea_cons (ed_dat (ev_tup (ea_cons (ed_str) (ea_cons (ed_int) (ea_nil))))) (ea_nil))))) (ea_nil))))) (ea_nil))))) (ea_nil)))) hN)
        (eb_cons (es_asg 4 (ev_bin o_add (ev_var 4) (ev_lst (ea_cons (ed_dat (ev_call (pa:=⟨pa,_⟩) (ok_place_needed c) (hr.mono (by decide)) tkx (by rfl) c.g_place_needed c.F_place_needed.kp (b_place_needed c) (ea_cons (ed_dat (ev_var 6)) (ea_cons (ed_dat (ev_tup (ea_cons (ed_dat (ev_tup (ea_cons (ed_dat (ev_tup (ea_cons (ed_str) (ea_cons (ed_int) (ea_nil))))) (ea_cons (ed_dat (ev_tup (ea_cons (ed_str) (ea_cons (ed_int) (ea_nil))))) (ea_nil))))) (ea_cons (ed_dat (ev_tup (ea_cons (ed_dat (ev_tup (ea_cons (ed_str) (ea_cons (ed_int) (ea_nil))))) (ea_cons (ed_dat (ev_tup (ea_cons (ed_str) (ea_cons (ed_int) (ea_nil))))) (ea_nil))))) (ea_nil))))) (ea_nil))))) (ea_nil)))) hN)
        (eb_cons (es_asg 4 (ev_bin o_add (ev_var 4) (ev_lst (ea_cons (ed_dat (ev_call (pa:=⟨pa,_⟩) (ok_place_needed c) (hr.mono (by decide)) tkx (by rfl) c.g_place_needed c.F_place_needed.kp (b_place_needed c) (ea_cons (ed_dat (ev_tup (ea_cons (ed_dat (ev_tup (ea_cons (ed_str) (ea_nil)))) (ea_cons (ed_dat (ev_tup (ea_nil))) (ea_nil))))) (ea_cons (ed_dat (ev_tup (ea_cons (ed_dat (ev_tup (ea_cons (ed_dat (ev_tup (ea_cons (ed_str) (ea_cons (ed_int) (ea_nil))))) (ea_nil)))) (ea_cons (ed_dat (ev_tup (ea_nil))) (ea_nil))))) (ea_nil))))) (ea_nil)))) hN)
        (eb_cons (es_asg 4 (ev_bin o_add (ev_var 4) (ev_lst (ea_cons (ed_dat (ev_call (pa:=⟨pa,_⟩) (ok_place_needed c) (hr.mono (by decide)) tkx (by rfl) c.g_place_needed c.F_place_needed.kp (b_place_needed c) (ea_cons (ed_dat (ev_tup (ea_cons (ed_dat (ev_tup (ea_cons (ed_str) (ea_cons (ed_str) (ea_nil))))) (ea_cons (ed_dat (ev_tup (ea_cons (ed_dat (ev_tup (ea_cons (ed_str) (ea_cons (ed_str) (ea_nil))))) (ea_nil)))) (ea_nil))))) (ea_cons (ed_dat (ev_tup (ea_cons (ed_dat (ev_tup (ea_cons (ed_dat (ev_tup (ea_cons (ed_str) (ea_cons (ed_int) (ea_nil))))) (ea_cons (ed_dat (ev_tup (ea_cons (ed_str) (ea_cons (ed_int) (ea_nil))))) (ea_nil))))) (ea_cons (ed_dat (ev_tup (ea_cons (ed_dat (ev_tup (ea_cons (ed_str) (ea_cons (ed_int) (ea_nil))))) (ea_nil)))) (ea_nil))))) (ea_nil))))) (ea_nil)))) hN)
        (eb_cons (es_asg 5 (ev_bin o_add (ev_var 5) (ev_lst (ea_cons (ed_int) (ea_cons (ed_int) (ea_cons (ed_int) (ea_cons (ed_int) (ea_nil))))))) hN)
        (eb_cons (es_asgT (ed_dat (ev_tup (ea_cons (ed_dat (ev_tuple (ev_bin o_add (ev_comp (own:=[("_law_letter",13)]) (by rfl) hN (ei_any (ed_str)) (blk (N:=N__law_by_hand_right) (sc:=defScope (top 30)) (by decide +kernel)) (tgN_tgOk 13) (fun _ _ _ _ _=>egw_name 13 hN) (fun _ _ _ _ _=>ets_nil) (fun _ _ _ _ _=>ed_dat (ev_bin o_add (ev_pvd (ed_str)) (ev_var 13)))) (ev_comp (own:=[("_law_letter",13)]) (by rfl) hN (ei_any (ed_str)) (blk (N:=N__law_by_hand_right) (sc:=defScope (top 30)) (by decide +kernel)) (tgN_tgOk 13) (fun _ _ _ _ _=>egw_name 13 hN) (fun _ _ _ _ _=>ets_nil) (fun _ _ _ _ _=>ed_dat (ev_bin o_add (ev_pvd (ed_str)) (ev_var 13))))) c.n_tuple)) (ea_cons (ed_dat (ev_bin o_pow (ev_pvd (ed_int)) (ev_pvd (ed_int)))) (ea_nil))))) (eg_tup (by rfl) (egs_cons (eg_name 7 hN) (egs_cons (eg_name 8 hN) (egs_nil))) (consG_len (consG_len (nilG_len)))) (tgT_ok (consG_ok (tgN_tgOk 7) (consG_ok (tgN_tgOk 8) (nilG_ok)))))
        (eb_cons (es_asg 9 (ev_tuple (ev_comp (own:=[("_law_k",14)]) (by rfl) hN (ei_range1 (ed_int) c.n_range) (blk (N:=N__law_by_hand_right) (sc:=defScope (top 30)) (by decide +kernel)) (tgN_tgOk 14) (fun _ _ _ _ _=>egw_name 14 hN) (fun _ _ _ _ _=>ets_nil) (fun _ _ _ _ _=>ed_dat (ev_tup (ea_cons (ed_dat (ev_ix (un hr) (ev_var 7) (ev_var 14))) (ea_cons (ed_dat (ev_ix (un hr) (ev_var 7) (ev_bin o_sub (ev_bin o_add (ev_var 14) (ev_pvd (ed_int))) (ev_bin o_mul (ev_pvd (ed_int)) (ev_bin o_mod (ev_int (ev_var 14) c.n_int) (ev_pvd (ed_int))))))) (ea_nil)))))) c.n_tuple) hN)
        (eb_cons (es_asg 10 (ev_tup (ea_cons (ed_dat (ev_tuple (ev_comp (own:=[("_law_k",14)]) (by rfl) hN (ei_range1 (ed_int) c.n_range) (blk (N:=N__law_by_hand_right) (sc:=defScope (top 30)) (by decide +kernel)) (tgN_tgOk 14) (fun _ _ _ _ _=>egw_name 14 hN) (fun _ _ _ _ _=>ets_nil) (fun _ _ _ _ _=>ed_dat (ev_tup (ea_cons (ed_dat (ev_ix (un hr) (ev_var 7) (ev_var 14))) (ea_cons (ed_dat (ev_if (et_cmp o_lt (ev_var 14) (ev_pvd (ed_int))) (ev_bin o_add (ev_bin o_fdiv (ev_var 14) (ev_pvd (ed_int))) (ev_pvd (ed_int))) (ev_pvd (ed_int)))) (ea_nil)))))) c.n_tuple)) (ea_cons (ed_dat (ev_tuple (ev_comp (own:=[("_law_k",14)]) (by rfl) hN (ei_range1 (ed_int) c.n_range) (blk (N:=N__law_by_hand_right) (sc:=defScope (top 30)) (by decide +kernel)) (tgN_tgOk 14) (fun _ _ _ _ _=>egw_name 14 hN) (fun _ _ _ _ _=>ets_nil) (fun _ _ _ _ _=>ed_dat (ev_tup (ea_cons (ed_dat (ev_ix (un hr) (ev_var 7) (ev_var 14))) (ea_cons (ed_dat (ev_bin o_add (ev_bin o_fdiv (ev_var 14) (ev_pvd (ed_int))) (ev_pvd (ed_int)))) (ea_nil)))))) c.n_tuple)) (ea_nil)))) hN)
        (eb_cons (es_asg 11 (ev_tup (ea_cons (ed_dat (ev_tuple (ev_comp (own:=[("_law_k",14)]) (by rfl) hN (ei_range1 (ed_int) c.n_range) (blk (N:=N__law_by_hand_right) (sc:=defScope (top 30)) (by decide +kernel)) (tgN_tgOk 14) (fun _ _ _ _ _=>egw_name 14 hN) (fun _ _ _ _ _=>ets_nil) (fun _ _ _ _ _=>ed_dat (ev_tup (ea_cons (ed_dat (ev_ix (un hr) (ev_var 7) (ev_var 14))) (ea_cons (ed_dat (ev_if (et_cmp o_lt (ev_var 14) (ev_pvd (ed_int))) (ev_bin o_add (ev_bin o_fdiv (ev_var 14) (ev_pvd (ed_int))) (ev_pvd (ed_int))) (ev_pvd (ed_int)))) (ea_nil)))))) c.n_tuple)) (ea_cons (ed_dat (ev_tuple (ev_comp (own:=[("_law_k",14)]) (by rfl) hN (ei_range1 (ed_int) c.n_range) (blk (N:=N__law_by_hand_right) (sc:=defScope (top 30)) (by decide +kernel)) (tgN_tgOk 14) (fun _ _ _ _ _=>egw_name 14 hN) (fun _ _ _ _ _=>ets_nil) (fun _ _ _ _ _=>ed_dat (ev_tup (ea_cons (ed_dat (ev_ix (un hr) (ev_var 7) (ev_var 14))) (ea_cons (ed_dat (ev_bin o_add (ev_bin o_fdiv (ev_var 14) (ev_pvd (ed_int))) (ev_pvd (ed_int)))) (ea_nil)))))) c.n_tuple)) (ea_nil)))) hN)
        (eb_cons (es_asg 12 (ev_tup (ea_cons (ed_dat (ev_tuple (ev_comp (own:=[("_law_k",14)]) (by rfl) hN (ei_range1 (ed_int) c.n_range) (blk (N:=N__law_by_hand_right) (sc:=defScope (top 30)) (by decide +kernel)) (tgN_tgOk 14) (fun _ _ _ _ _=>egw_name 14 hN) (fun _ _ _ _ _=>ets_nil) (fun _ _ _ _ _=>ed_dat (ev_tup (ea_cons (ed_dat (ev_ix (un hr) (ev_var 7) (ev_var 14))) (ea_cons (ed_dat (ev_if (et_cmp o_lt (ev_var 14) (ev_pvd (ed_int))) (ev_var 8) (ev_bin o_sub (ev_var 8) (ev_pvd (ed_int))))) (ea_nil)))))) c.n_tuple)) (ea_cons (ed_dat (ev_tuple (ev_comp (own:=[("_law_k",14)]) (by rfl) hN (ei_range1 (ed_int) c.n_range) (blk (N:=N__law_by_hand_right) (sc:=defScope (top 30)) (by decide +kernel)) (tgN_tgOk 14) (fun _ _ _ _ _=>egw_name 14 hN) (fun _ _ _ _ _=>ets_nil) (fun _ _ _ _ _=>ed_dat (ev_tup (ea_cons (ed_dat (ev_ix (un hr) (ev_var 7) (ev_var 14))) (ea_cons (ed_dat (ev_var 8)) (ea_nil)))))) c.n_tuple)) (ea_nil)))) hN)
        (eb_cons (es_asg 4 (ev_bin o_add (ev_var 4) (ev_lst (ea_cons (ed_dat (ev_call (pa:=⟨pa,_⟩) (ok_place_needed c) (hr.mono (by decide)) tkx (by rfl) c.g_place_needed c.F_place_needed.kp (b_place_needed c) (ea_cons (ed_dat (ev_tup (ea_cons (ed_dat (ev_var 7)) (ea_cons (ed_dat (ev_var 9)) (ea_nil))))) (ea_cons (ed_dat (ev_var 10)) (ea_nil))))) (ea_cons (ed_dat (ev_call (pa:=⟨pa,_⟩) (ok_place_needed c) (hr.mono (by decide)) tkx (by rfl) c.g_place_needed c.F_place_needed.kp (b_place_needed c) (ea_cons (ed_dat (ev_tup (ea_cons (ed_dat (ev_var 7)) (ea_cons (ed_dat (ev_var 9)) (ea_nil))))) (ea_cons (ed_dat (ev_var 11)) (ea_nil))))) (ea_nil))))) hN)
        (eb_cons (es_asg 4 (ev_bin o_add (ev_var 4) (ev_lst (ea_cons (ed_dat (ev_call (pa:=⟨pa,_⟩) (ok_place_needed c) (hr.mono (by decide)) tkx (by rfl) c.g_place_needed c.F_place_needed.kp (b_place_needed c) (ea_cons (ed_dat (ev_tup (ea_cons (ed_dat (ev_var 7)) (ea_cons (ed_dat (ev_var 9)) (ea_nil))))) (ea_cons (ed_dat (ev_var 12)) (ea_nil))))) (ea_nil)))) hN)
        (eb_cons (es_asg 4 (ev_bin o_add (ev_var 4) (ev_lst (ea_cons (ed_dat (ev_callK0 (pa:=⟨pa,_⟩) (ok_place_needed c) (hr.mono (by decide)) tkx (by rfl) c.g_place_needed c.F_place_needed.kp (kw_place_needed_0 c) (ek_cons (ed_dat (ev_call (pa:=⟨pa,_⟩) (ok__law_lists c 60) (hr.mono (by decide)) tkx (by rfl) c.g__law_lists c.F__law_lists.kp (b__law_lists c) (ea_cons (ed_dat (ev_var 3)) (ea_nil)))) (ek_cons (ed_dat (ev_call (pa:=⟨pa,_⟩) (ok__law_lists c 60) (hr.mono (by decide)) tkx (by rfl) c.g__law_lists c.F__law_lists.kp (b__law_lists c) (ea_cons (ed_dat (ev_var 0)) (ea_nil)))) (ek_nil))) rfl (fun ds ws h1 h2=>match ds,ws,h1,h2 with | [],[_,_],_,_=>rfl))) (ea_nil)))) hN)
        (eb_cons (es_if (et_not (et_tru (ev_call (pa:=⟨pa,_⟩) (ok__law_same c 60) (hr.mono (by decide)) tkx (by rfl) c.g__law_same c.F__law_same.kp (b__law_same c) (ea_cons (ed_dat (ev_var 4)) (ea_cons (ed_dat (ev_bin o_add (ev_var 5) (ev_lst (ea_cons (ed_int) (ea_cons (ed_int) (ea_cons (ed_dat (ev_var 8)) (ea_cons (ed_int) (ea_nil)))))))) (ea_nil)))))) (eb_one (es_ret (ev_pvd (ed_bl)))) (eb_nil))
        (eb_cons (es_if (et_not (et_tru (ev_call (pa:=⟨pa,_⟩) (ok__law_least_right c) (hr.mono (by decide)) tkx (by rfl) c.g__law_least_right c.F__law_least_right.kp (b__law_least_right c) (ea_cons (ed_dat (ev_var 0)) (ea_cons (ed_dat (ev_var 3)) (ea_nil)))))) (eb_one (es_ret (ev_pvd (ed_bl)))) (eb_nil))
        (eb_one (es_ret (ev_all (by rfl) (ev_comp (own:=[("_law_own_so",15)]) (by rfl) hN (ei_any (ed_dat (ev_tup (ea_cons (ed_dat (ev_var 10)) (ea_cons (ed_dat (ev_var 11)) (ea_cons (ed_dat (ev_var 12)) (ea_nil))))))) (blk (N:=N__law_by_hand_right) (sc:=defScope (top 30)) (by decide +kernel)) (tgN_tgOk 15) (fun _ _ _ _ _=>egw_name 15 hN) (fun _ _ _ _ _=>ets_nil) (fun _ _ _ _ _=>ed_dat (ev_call (pa:=⟨pa,_⟩) (ok__law_least_right c) (hr.mono (by decide)) takes0 (by rfl) c.g__law_least_right c.F__law_least_right.kp (b__law_least_right c) (ea_cons (ed_dat (ev_tup (ea_cons (ed_dat (ev_var 7)) (ea_cons (ed_dat (ev_var 9)) (ea_nil))))) (ea_cons (ed_dat (ev_var 15)) (ea_nil)))))) c.n_all)))))))))))))))))))))))))
abbrev N__law_cells : List Str:=["_law_script","_law_most","_law_cells_here","_law_k","_law_great_so","_law_at_so"]
theorem sc__law_cells : FnScope N__law_cells ["_law_script","_law_most"] (defScope (top 21)):=⟨rfl,rfl,rfl,by decide +kernel,rfl,by decide +kernel,by decide +kernel⟩
theorem ok__law_cells (c : Fs P K mg) : FnOk P w K mg base (L2.CX P w) 1 c.f__law_cells c.d__law_cells ["_law_script","_law_most"] (spD ⟨K,P,w⟩ T mg m__law_cells 2):=by
  have hN:=sc__law_cells.nd
  exact fn_ok c.F__law_cells sc__law_cells fun cdv A outer s H E pa hr =>
        eb_cons (es_asg 2 (ev_orX (ev_list (ev_slice (ev_var 0) (eo_none) (eo_some (ed_dat (ev_var 1)))) c.n_list) (ev_one (ev_lst (ea_cons (ed_int) (ea_nil))))) hN)
        (eb_cons (es_for psx (by rfl) (ei_enum (ed_dat (ev_slice (ev_var 0) (eo_some (ed_dat (ev_var 1))) (eo_some (ed_int)))) c.n_enumerate) (eg_tup (by rfl) (egs_cons (eg_name 3 hN) (egs_cons (eg_name 4 hN) (egs_nil))) (consG_len (consG_len (nilG_len)))) (tgT_ok (consG_ok (tgN_tgOk 3) (consG_ok (tgN_tgOk 4) (nilG_ok)))) (eb_cons (es_asg 5 (ev_bin o_mod (ev_int (ev_var 3) c.n_int) (ev_var 1)) hN)
        (eb_one (es_set 2 (un hr) (ed_dat (ev_bin o_add (ev_ix (un hr) (ev_var 2) (ev_var 5)) (ev_bin o_mul (ev_var 4) (ev_bin o_add (ev_var 3) (ev_pvd (ed_int)))))) (ev_var 5)))))
        (eb_one (es_ret (ev_var 2))))
abbrev N__law_take : List Str:=["_law_tin","_law_top_so","_law_digit_so","_law_once","_law_far","_law_twice"]
theorem sc__law_take : FnScope N__law_take ["_law_tin","_law_top_so"] (defScope (top 20)):=⟨rfl,rfl,rfl,by decide +kernel,rfl,by decide +kernel,by decide +kernel⟩
theorem ok__law_take (c : Fs P K mg) : FnOk P w K mg base (L2.CX P w) 1 c.f__law_take c.d__law_take ["_law_tin","_law_top_so"] (spD ⟨K,P,w⟩ T mg m__law_take 2):=by
  have hN:=sc__law_take.nd
  exact fn_ok c.F__law_take sc__law_take fun cdv A outer s H E pa hr =>
        eb_cons (es_if (et_cmp o_gt (ev_ix (un hr) (ev_var 0) (ev_pvd (ed_int))) (ev_pvd (ed_int))) (eb_cons (es_asg 2 (ev_bin o_mod (ev_int (ev_ix (un hr) (ev_var 0) (ev_pvd (ed_int))) c.n_int) (ev_var 1)) hN)
        (eb_cons (es_set 0 (un hr) (ed_dat (ev_bin o_fdiv (ev_ix (un hr) (ev_var 0) (ev_pvd (ed_int))) (ev_var 1))) (ev_pvd (ed_int)))
        (eb_one (es_ret (ev_var 2))))) (eb_nil))
        (eb_cons (es_set 0 (un hr) (ed_dat (ev_bin o_add (ev_ix (un hr) (ev_var 0) (ev_pvd (ed_int))) (ev_pvd (ed_int)))) (ev_pvd (ed_int)))
        (eb_cons (es_asg 3 (ev_bin o_mod (ev_int (ev_bin o_mul (ev_bin o_add (ev_ix (un hr) (ev_var 0) (ev_pvd (ed_int))) (ev_bin o_mul (ev_pvd (ed_int)) (ev_ix (un hr) (ev_var 0) (ev_pvd (ed_int))))) (ev_bin o_add (ev_pvd (ed_int)) (ev_ix (un hr) (ev_var 0) (ev_pvd (ed_int))))) c.n_int) (ev_pvd (ed_int))) hN)
        (eb_cons (es_asg 4 (ev_bin o_add (ev_bin o_mod (ev_int (ev_var 3) c.n_int) (ev_pvd (ed_int))) (ev_pvd (ed_int))) hN)
        (eb_cons (es_asg 5 (ev_bin o_mod (ev_int (ev_bin o_mul (ev_bin o_add (ev_bin o_add (ev_var 3) (ev_ix (un hr) (ev_var 0) (ev_pvd (ed_int)))) (ev_bin o_fdiv (ev_ix (un hr) (ev_var 0) (ev_pvd (ed_int))) (ev_pvd (ed_int)))) (ev_var 4)) c.n_int) (ev_pvd (ed_int))) hN)
        (eb_one (es_ret (ev_bin o_mod (ev_int (ev_bin o_fdiv (ev_bin o_mod (ev_int (ev_bin o_add (ev_bin o_mul (ev_var 5) (ev_pvd (ed_int))) (ev_var 3)) c.n_int) (ev_pvd (ed_int))) (ev_pvd (ed_int))) c.n_int) (ev_var 1))))))))
abbrev N__law_of : List Str:=["_law_tin","_law_some"]
theorem sc__law_of : FnScope N__law_of ["_law_tin","_law_some"] (defScope (top 22)):=⟨rfl,rfl,rfl,by decide +kernel,rfl,by decide +kernel,by decide +kernel⟩
theorem ok__law_of (c : Fs P K mg) : FnOk P w K mg base (L2.CX P w) 2 c.f__law_of c.d__law_of ["_law_tin","_law_some"] (spD ⟨K,P,w⟩ T mg m__law_of 2):=by
  have hN:=sc__law_of.nd
  exact fn_ok c.F__law_of sc__law_of fun cdv A outer s H E pa hr =>
        eb_one (es_ret (ev_ix (un hr) (ev_var 1) (ev_callR (pa:=⟨pa,_⟩) (ok__law_take c) (hr.mono (by decide)) tkx (by rfl) c.g__law_take c.F__law_take.kp (b__law_take c) (ev_var 0) (ea_cons (ed_dat (ev_len (ev_var 1) c.n_len)) (ea_nil)))))
abbrev N__law_sorts : List Str:=["_law_tin","_law_task_here","_law_most","_law_spot","_law_thick","_law_wide","_law_here","_law_goal_so","_law_mate"]
theorem sc__law_sorts : FnScope N__law_sorts ["_law_tin","_law_task_here","_law_most"] (defScope (top 27)):=⟨rfl,rfl,rfl,by decide +kernel,rfl,by decide +kernel,by decide +kernel⟩
theorem ok__law_sorts (c : Fs P K mg) : FnOk P w K mg base (L2.CX P w) 3 c.f__law_sorts c.d__law_sorts ["_law_tin","_law_task_here","_law_most"] (spD ⟨K,P,w⟩ T mg m__law_sorts 3):=by
  have hN:=sc__law_sorts.nd
  exact fn_ok c.F__law_sorts sc__law_sorts fun cdv A outer s H E pa hr =>
        eb_cons (es_asg 4 (ev_dict (by rfl) (ev_comp (own:=[("_law_spot",3),("_law_goal_so",7)]) (by rfl) hN (ei_any (ed_dat (ev_ix (un hr) (ev_var 1) (ev_pvd (ed_int))))) (blk (N:=N__law_sorts) (sc:=defScope (top 27)) (by decide +kernel)) (tgT_ok (consG_ok (tgN_tgOk 3) (consG_ok (tgN_tgOk 7) (nilG_ok)))) (fun _ _ _ _ _=>egw_tup (by rfl) (egws_cons (egw_name 3 hN) (egws_cons (egw_name 7 hN) (egws_nil))) (consG_len (consG_len (nilG_len)))) (fun _ _ _ _ _=>ets_nil) (fun _ _ _ _ _=>ed_dat (ev_tup (ea_cons (ed_dat (ev_var 3)) (ea_cons (ed_dat (ev_callR (pa:=⟨pa,_⟩) (ok__law_take c) (hr.mono (by decide)) takes0 (by rfl) c.g__law_take c.F__law_take.kp (b__law_take c) (ev_var 0) (ea_cons (ed_dat (ev_bin o_add (ev_var 2) (ev_pvd (ed_int)))) (ea_nil)))) (ea_nil)))))) c.n_dict) hN)
        (eb_cons (es_asg 5 (ev_newD) hN)
        (eb_cons (es_for psx (by rfl) (ei_any (ed_dat (ev_ix (un hr) (ev_var 1) (ev_pvd (ed_int))))) (eg_name 3 hN) (tgN_tgOk 3) (eb_cons (es_comp 6 (own:=[("_law_mate",8),("_law_goal_so",7)]) (by rfl) hN (ei_any (ed_dat (ev_ix (un hr) (ev_var 1) (ev_pvd (ed_int))))) (blk (N:=N__law_sorts) (sc:=defScope (top 27)) (by decide +kernel)) (tgT_ok (consG_ok (tgN_tgOk 8) (consG_ok (tgN_tgOk 7) (nilG_ok)))) (fun _ _ _ _ _=>egw_tup (by rfl) (egws_cons (egw_name 8 hN) (egws_cons (egw_name 7 hN) (egws_nil))) (consG_len (consG_len (nilG_len)))) (fun _ _ _ _ _=>ets_one (et_cmp (o_inE (un hr)) (ev_var 3) (ev_tup (ea_cons (ed_dat (ev_var 8)) (ea_cons (ed_dat (ev_var 7)) (ea_nil)))))) (fun _ _ _ _ _=>ed_dat (ev_ix (un hr) (ev_var 4) (ev_var 8))) (sw_true rfl rfl rfl (by decide +kernel)))
        (eb_one (es_set 5 (un hr) (ed_dat (ev_bin o_add (ev_max1 (by rfl) (un hr) (ev_bin o_add (ev_var 6) (ev_lst (ea_cons (ed_int) (ea_nil)))) c.n_max) (ev_callR (pa:=⟨pa,_⟩) (ok__law_of c) (hr.mono (by decide)) tkx (by rfl) c.g__law_of c.F__law_of.kp (b__law_of c) (ev_var 0) (ea_cons (ed_dat (ev_lst (ea_cons (ed_int) (ea_cons (ed_int) (ea_cons (ed_int) (ea_cons (ed_int) (ea_cons (ed_dat (ev_var 2)) (ea_nil)))))))) (ea_nil))))) (ev_var 3)))))
        (eb_one (es_ret (ev_tup (ea_cons (ed_dat (ev_tuple (ev_sortItems (by rfl) (un hr) (ev_var 5) c.n_sorted) c.n_tuple)) (ea_cons (ed_dat (ev_tuple (ev_sortItems (by rfl) (un hr) (ev_var 4) c.n_sorted) c.n_tuple)) (ea_nil))))))))
abbrev N__law_pick : List Str:=["_law_tin","_law_pool","_law_size_so","_law_rest","_law_some","_law_turn"]
theorem sc__law_pick : FnScope N__law_pick ["_law_tin","_law_pool","_law_size_so"] (defScope (top 23)):=⟨rfl,rfl,rfl,by decide +kernel,rfl,by decide +kernel,by decide +kernel⟩
theorem ok__law_pick (c : Fs P K mg) : FnOk P w K mg base (L2.CX P w) 2 c.f__law_pick c.d__law_pick ["_law_tin","_law_pool","_law_size_so"] (spD ⟨K,P,w⟩ T mg m__law_pick 3):=by
  have hN:=sc__law_pick.nd
  exact fn_ok c.F__law_pick sc__law_pick fun cdv A outer s H E pa hr =>
        eb_cons (es_par2 3 4 (by rfl) hN (ev_list (ev_var 1) c.n_list) (ev_lst (ea_nil)) (by rfl))
        (eb_cons (es_for psx (by rfl) (ei_range1 (ed_dat (ev_min2 (by rfl) (ev_var 2) (ev_len (ev_var 3) c.n_len) c.n_min)) c.n_range) (eg_name 5 hN) (tgN_tgOk 5) (eb_one (es_expr (ev_append 4 (ed_dat (ev_pop 3 (ev_callR (pa:=⟨pa,_⟩) (ok__law_take c) (hr.mono (by decide)) tkx (by rfl) c.g__law_take c.F__law_take.kp (b__law_take c) (ev_var 0) (ea_cons (ed_dat (ev_len (ev_var 3) c.n_len)) (ea_nil)))))))))
        (eb_one (es_ret (ev_var 4))))
abbrev N__law_task : List Str:=["_law_tin","_law_many","_law_full","_law_tags","_law_spots","_law_first","_law_ends","_law_way_so","_law_ways","_law_letter","_law_k"]
theorem sc__law_task : FnScope N__law_task ["_law_tin","_law_many","_law_full"] (defScope (top 26)):=⟨rfl,rfl,rfl,by decide +kernel,rfl,by decide +kernel,by decide +kernel⟩
theorem ok__law_task (c : Fs P K mg) : FnOk P w K mg base (L2.CX P w) 3 c.f__law_task c.d__law_task ["_law_tin","_law_many","_law_full"] (spD ⟨K,P,w⟩ T mg m__law_task 3):=by
  have hN:=sc__law_task.nd
  exact fn_ok c.F__law_task sc__law_task fun cdv A outer s H E pa hr =>
        eb_cons (es_comp 3 (own:=[("_law_letter",9)]) (by rfl) hN (ei_any (ed_str)) (blk (N:=N__law_task) (sc:=defScope (top 26)) (by decide +kernel)) (tgN_tgOk 9) (fun _ _ _ _ _=>egw_name 9 hN) (fun _ _ _ _ _=>ets_nil) (fun _ _ _ _ _=>ed_dat (ev_bin o_add (ev_pvd (ed_str)) (ev_var 9))) (sw_true rfl rfl rfl (by decide +kernel)))
        (eb_cons (es_asg 3 (ev_bin o_add (ev_var 3) (ev_comp (own:=[("_law_letter",9)]) (by rfl) hN (ei_any (ed_str)) (blk (N:=N__law_task) (sc:=defScope (top 26)) (by decide +kernel)) (tgN_tgOk 9) (fun _ _ _ _ _=>egw_name 9 hN) (fun _ _ _ _ _=>ets_nil) (fun _ _ _ _ _=>ed_dat (ev_bin o_add (ev_pvd (ed_str)) (ev_var 9))))) hN)
        (eb_cons (es_asg 4 (ev_slice (ev_var 3) (eo_none) (eo_some (ed_dat (ev_bin o_add (ev_pvd (ed_int)) (ev_callR (pa:=⟨pa,_⟩) (ok__law_take c) (hr.mono (by decide)) tkx (by rfl) c.g__law_take c.F__law_take.kp (b__law_take c) (ev_var 0) (ea_cons (ed_dat (ev_var 1)) (ea_nil))))))) hN)
        (eb_cons (es_asg 5 (ev_sorted (by rfl) (un hr) (ev_callR (pa:=⟨pa,_⟩) (ok__law_pick c) (hr.mono (by decide)) tkx (by rfl) c.g__law_pick c.F__law_pick.kp (b__law_pick c) (ev_var 0) (ea_cons (ed_dat (ev_var 4)) (ea_cons (ed_dat (ev_min2 (by rfl) (ev_len (ev_var 4) c.n_len) (ev_callR (pa:=⟨pa,_⟩) (ok__law_take c) (hr.mono (by decide)) tkx (by rfl) c.g__law_take c.F__law_take.kp (b__law_take c) (ev_var 0) (ea_cons (ed_dat (ev_bin o_add (ev_var 2) (ev_pvd (ed_int)))) (ea_nil))) c.n_min)) (ea_nil)))) c.n_sorted) hN)
        (eb_cons (es_asg 6 (ev_callR (pa:=⟨pa,_⟩) (ok__law_pick c) (hr.mono (by decide)) tkx (by rfl) c.g__law_pick c.F__law_pick.kp (b__law_pick c) (ev_var 0) (ea_cons (ed_dat (ev_var 4)) (ea_cons (ed_dat (ev_len (ev_var 5) c.n_len)) (ea_nil)))) hN)
        (eb_cons (es_asg 7 (ev_callR (pa:=⟨pa,_⟩) (ok__law_take c) (hr.mono (by decide)) tkx (by rfl) c.g__law_take c.F__law_take.kp (b__law_take c) (ev_var 0) (ea_cons (ed_int) (ea_nil))) hN)
        (eb_cons (es_if (et_w (ew_and (et_cmp (o_eq (un hr)) (ev_var 7) (ev_pvd (ed_int))) (ew_and1 (et_cmp o_gt (ev_len (ev_var 5) c.n_len) (ev_pvd (ed_int)))))) (eb_one (es_asg 6 (ev_callR (pa:=⟨pa,_⟩) (ok__law_pick c) (hr.mono (by decide)) tkx (by rfl) c.g__law_pick c.F__law_pick.kp (b__law_pick c) (ev_var 0) (ea_cons (ed_dat (ev_var 5)) (ea_cons (ed_dat (ev_len (ev_var 5) c.n_len)) (ea_nil)))) hN)) (eb_nil))
        (eb_cons (es_comp 8 (own:=[("_law_k",10)]) (by rfl) hN (ei_range1 (ed_dat (ev_len (ev_var 5) c.n_len)) c.n_range) (blk (N:=N__law_task) (sc:=defScope (top 26)) (by decide +kernel)) (tgN_tgOk 10) (fun _ _ _ _ _=>egw_name 10 hN) (fun _ _ _ _ _=>ets_nil) (fun _ _ _ _ _=>ed_dat (ev_tup (ea_cons (ed_dat (ev_ix (un hr) (ev_var 5) (ev_var 10))) (ea_cons (ed_dat (ev_if (et_cmp o_gt (ev_callR (pa:=⟨pa,_⟩) (ok__law_take c) (hr.mono (by decide)) takes0 (by rfl) c.g__law_take c.F__law_take.kp (b__law_take c) (ev_var 0) (ea_cons (ed_int) (ea_nil))) (ev_pvd (ed_int))) (ev_ix (un hr) (ev_var 6) (ev_var 10)) (ev_pvd (ed_non)))) (ea_nil))))) (sw_true rfl rfl rfl (by decide +kernel)))
        (eb_one (es_ret (ev_tup (ea_cons (ed_dat (ev_tuple (ev_var 4) c.n_tuple)) (ea_cons (ed_dat (ev_tuple (ev_var 8) c.n_tuple)) (ea_nil)))))))))))))
abbrev N__law_case_right : List Str:=["_law_tin","_law_task_here"]
theorem sc__law_case_right : FnScope N__law_case_right ["_law_tin"] (defScope (top 31)):=⟨rfl,rfl,rfl,by decide +kernel,rfl,by decide +kernel,by decide +kernel⟩
theorem ok__law_case_right (c : Fs P K mg) : FnOk P w K mg base (L2.CX P w) 69 c.f__law_case_right c.d__law_case_right ["_law_tin"] (spD ⟨K,P,w⟩ T mg m__law_case_right 1):=by
  have hN:=sc__law_case_right.nd
  exact fn_ok c.F__law_case_right sc__law_case_right fun cdv A outer s H E pa hr =>
        eb_cons (es_asg 1 (ev_callR (pa:=⟨pa,_⟩) (ok__law_task c) (hr.mono (by decide)) tkx (by rfl) c.g__law_task c.F__law_task.kp (b__law_task c) (ev_var 0) (ea_cons (ed_int) (ea_cons (ed_int) (ea_nil)))) hN)
        (eb_one (es_ret (ev_call (pa:=⟨pa,_⟩) (ok__law_least_right c) (hr.mono (by decide)) tkx (by rfl) c.g__law_least_right c.F__law_least_right.kp (b__law_least_right c) (ea_cons (ed_dat (ev_var 1)) (ea_cons (ed_dat (ev_callR (pa:=⟨pa,_⟩) (ok__law_sorts c) (hr.mono (by decide)) tkx (by rfl) c.g__law_sorts c.F__law_sorts.kp (b__law_sorts c) (ev_var 0) (ea_cons (ed_dat (ev_var 1)) (ea_cons (ed_dat (ev_callR (pa:=⟨pa,_⟩) (ok__law_of c) (hr.mono (by decide)) tkx (by rfl) c.g__law_of c.F__law_of.kp (b__law_of c) (ev_var 0) (ea_cons (ed_dat (ev_lst (ea_cons (ed_int) (ea_cons (ed_int) (ea_cons (ed_int) (ea_nil)))))) (ea_nil)))) (ea_nil))))) (ea_nil))))))
abbrev N__law_right : List Str:=["_law_tin","_law_turn"]
theorem sc__law_right : FnScope N__law_right ["_law_tin"] (defScope (top 32)):=⟨rfl,rfl,rfl,by decide +kernel,rfl,by decide +kernel,by decide +kernel⟩
theorem ok__law_right (c : Fs P K mg) : FnOk P w K mg base (L2.CX P w) 70 c.f__law_right c.d__law_right ["_law_tin"] (spD ⟨K,P,w⟩ T mg m__law_right 1):=by
  have hN:=sc__law_right.nd
  exact fn_ok c.F__law_right sc__law_right fun cdv A outer s H E pa hr =>
        eb_one (es_ret (ev_all (by rfl) (ev_comp (own:=[("_law_turn",1)]) (by rfl) hN (ei_range1 (ed_int) c.n_range) (blk (N:=N__law_right) (sc:=defScope (top 32)) (by decide +kernel)) (tgN_tgOk 1) (fun _ _ _ _ _=>egw_name 1 hN) (fun _ _ _ _ _=>ets_nil) (fun _ _ _ _ _=>ed_dat (ev_callR (pa:=⟨pa,_⟩) (ok__law_case_right c) (hr.mono (by decide)) takes0 (by rfl) c.g__law_case_right c.F__law_case_right.kp (b__law_case_right c) (ev_var 0) (ea_nil)))) c.n_all))
abbrev N_law : List Str:=["_law_script","_law_lots_so","_law_k"]
theorem sc_law : FnScope N_law ["_law_script"] (defScope (top 33)):=⟨rfl,rfl,rfl,by decide +kernel,rfl,by decide +kernel,by decide +kernel⟩
theorem ok_law (c : Fs P K mg) : FnOk P w K mg base (L2.CX P w) 71 c.f_law c.d_law ["_law_script"] (spD ⟨K,P,w⟩ T mg m_law 1):=by
  have hN:=sc_law.nd
  exact fn_ok c.F_law sc_law fun cdv A outer s H E pa hr =>
        eb_cons (es_if (et_not (et_tru (ev_call0 (pa:=⟨pa,_⟩) (ok__law_by_hand_right c) (hr.mono (by decide)) tkx (by rfl) c.g__law_by_hand_right c.F__law_by_hand_right.kp (b__law_by_hand_right c)))) (eb_one (es_ret (ev_pvd (ed_bl)))) (eb_nil))
        (eb_cons (es_asg 1 (ev_call (pa:=⟨pa,_⟩) (ok__law_cells c) (hr.mono (by decide)) tkx (by rfl) c.g__law_cells c.F__law_cells.kp (b__law_cells c) (ea_cons (ed_dat (ev_var 0)) (ea_cons (ed_int) (ea_nil)))) hN)
        (eb_one (es_ret (ev_all (by rfl) (ev_comp (own:=[("_law_k",2)]) (by rfl) hN (ei_range1 (ed_dat (ev_len (ev_var 1) c.n_len)) c.n_range) (blk (N:=N_law) (sc:=defScope (top 33)) (by decide +kernel)) (tgN_tgOk 2) (fun _ _ _ _ _=>egw_name 2 hN) (fun _ _ _ _ _=>ets_nil) (fun _ _ _ _ _=>ed_dat (ev_callR (pa:=⟨pa,_⟩) (ok__law_right c) (hr.mono (by decide)) takes0 (by rfl) c.g__law_right c.F__law_right.kp (b__law_right c) (ev_call (pa:=⟨pa,_⟩) (ok__law_box c) (hr.mono (by decide)) takes0 (by rfl) c.g__law_box c.F__law_box.kp (b__law_box c) (ea_cons (ed_dat (ev_var 1)) (ea_cons (ed_dat (ev_var 2)) (ea_nil)))) (ea_nil)))) c.n_all))))
end
end G
end DL
end L2
namespace L2
namespace DL
namespace G
open PySem PySem.Spec PyProof.Rows
def p__law_box (v_script v_k : D) : R D :=
  (o1 lenD v_script).bind fun z1 =>
  (o2 ltD v_k z1).bind fun z2 =>
  (boR z2).bind fun b3 =>
  ((if b3 = true then (o2 ixD v_script v_k).bind fun z5 =>
  .ok z5 else .ok (.int (0))) : R (D)).bind fun z4 =>
  (o1 absD z4).bind fun z6 =>
  (o1 absD z4).bind fun z7 =>
  (o2 powD (.int (10)) (.int (18))).bind fun z8 =>
  (o2 geD z7 z8).bind fun z9 =>
  (o1 intD z9).bind fun z10 =>
  (o2 mulD z6 z10).bind fun z11 =>
  (o1 intD z4).bind fun z12 =>
  (o2 modD z12 (.int (2305843009213693951))).bind fun z13 =>
  (o2 mulD (.int (39373)) v_k).bind fun z14 =>
  (o2 addD z13 z14).bind fun z15 =>
  (o2 addD z15 (.int (2556))).bind fun z16 =>
  .ok (.list [z11,z16,(.int (0))])
theorem pf__law_box (v_script v_k : D) : FR .f (m__law_box [.s v_script,.s v_k]) (p__law_box v_script v_k) :=
  fr_fn (Γ:=[.s v_script,.s v_k,.x]) ⟨rfl,rfl,trivial,trivial⟩ (c_seq (c_asg (c_ifX (c_bol (c_op2 (c_varS rfl (c_op1 (c_varS rfl (k_op1d sc_len rd_d trivial fun z1=>k_op2d sc_lt rd_d trivial rd_d trivial fun z2=>k_bol (rd_dn rd_d) fun b3=>k_ifX (w:=.d) (val:=fun z4 : D=>z4) (env:=fun z4 : D=>[.s v_script,.s v_k,.x]) (c_op2 (c_varS rfl (c_varS rfl (k_op2d sc_ix rd_d trivial rd_d trivial fun z5=>q_V rd_d ⟨rfl,rfl,rfl,trivial⟩ trivial)))) (c_pvd (c_kst (q_V rd_d ⟨rfl,rfl,rfl,trivial⟩ trivial))) fun z4 pz4 hz4=>k_intoD hz4 rfl rfl (k_cv (Γ':=[.s v_script,.s v_k,.s z4]) rfl (k_seq (c_ret (c_lstM (c_consA (c_dat (c_op2 (c_op1 (c_varS rfl (k_op1d sc_abs rd_d trivial fun z6=>c_op1 (c_op2 (c_op1 (c_varS rfl (k_op1d sc_abs rd_d trivial fun z7=>c_op2 (c_pvd (c_kst (c_pvd (c_kst (k_op2d sc_iI rd_d trivial rd_d trivial fun z8=>k_op2d sc_iI rd_d trivial rd_d trivial fun z9=>k_op1d sc_int rd_d trivial fun z10=>k_op2 rd_d trivial rd_d trivial fun pz11 z11 hz11=>k_datN hz11 (c_consA (c_dat (c_op2 (c_op2 (c_op2 (c_op1 (c_varS rfl (k_op1d sc_int rd_d trivial fun z12=>c_pvd (c_kst (k_op2d sc_iI rd_d trivial rd_d trivial fun z13=>c_op2 (c_pvd (c_kst (c_varS rfl (k_op2 rd_d trivial rd_d trivial fun pz14 z14 hz14=>k_op2 rd_d trivial hz14 trivial fun pz15 z15 hz15=>c_pvd (c_kst (k_op2 hz15 trivial rd_d trivial fun pz16 z16 hz16=>k_datN hz16 (c_consA (c_kst (c_nilA (k_retF rd_f fun v17 hv17=>q_ret hv17))))))))))))))))))))))))))))))))))))))))))))))))
def p__law_lists : Nat → D → R D
  | 0,_=>.bad
  | k + 1,v_matter =>
  (o1 (isiD [.list,.tuple]) v_matter).bind fun z1 =>
  (truR z1).bind fun b2 =>
  ((if b2 = true then (itR v_matter).bind fun l4 =>
  (mapR (fun d5=>(p__law_lists k d5).bind fun z6 =>
  .ok z6) l4).bind fun l7 =>
  .ok (.list l7) else .ok v_matter) : R (D)).bind fun z3 =>
  .ok z3
theorem pf__law_lists : ∀ (k : Nat) (v_matter : D),FR .n (m__law_lists k [.s v_matter]) (p__law_lists k v_matter)
  | 0,_=>trivial
  | k + 1,v_matter=>by
    have ih:=pf__law_lists k
    exact fr_fn (Γ:=[.s v_matter,.x]) ⟨rfl,trivial,trivial⟩ (c_ret (c_ifX (c_tru (c_op1 (c_varS rfl (k_op1d sc_isi rd_d trivial fun z1=>k_tru rd_d trivial fun b2=>k_ifX (w:=.n) (val:=fun z3 : D=>z3) (env:=fun z3 : D=>[.s v_matter,.x]) (c_comp (c_it (c_datV rfl rfl rfl (k_lift fun l4=>k_map [.s v_matter,.x] [.s v_matter,.x] rfl rfl rfl (fun d5=>c_tgN rfl rfl (k_el (c_dat (c_callD (c_consA (c_datV rfl rfl rfl (c_nilA (k_callD (FR.n <| ih d5) fun pz6 z6 hz6=>k_datN hz6 (q_A ⟨rfl,rfl,trivial⟩))))))))) fun l7=>q_V rd_f ⟨rfl,rfl,trivial⟩ trivial)))) (c_varS rfl (q_V rd_d ⟨rfl,rfl,trivial⟩ trivial)) fun z3 pz3 hz3=>k_retN hz3 fun v8 hv8=>q_ret hv8))))))
def p__law_with (v_task_here v_sorts_so v_much : D) : R D :=
  (o2 ixD v_task_here (.int (0))).bind fun z1 =>
  (o2 addD z1 (.tuple [(.str "zz")])).bind fun z2 =>
  (o2 ixD v_task_here (.int (1))).bind fun z3 =>
  (o2 ixD v_sorts_so (.int (0))).bind fun z4 =>
  (o2 addD z4 (.tuple [(.tuple [(.str "zz"),v_much])])).bind fun z5 =>
  (o2 ixD v_sorts_so (.int (1))).bind fun z6 =>
  .ok (.tuple [(.tuple [z2,z3]),(.tuple [z5,z6])])
theorem pf__law_with (v_task_here v_sorts_so v_much : D) : FR .d (m__law_with [.s v_task_here,.s v_sorts_so,.s v_much]) (p__law_with v_task_here v_sorts_so v_much) :=
  fr_fn (Γ:=[.s v_task_here,.s v_sorts_so,.s v_much,.x]) ⟨rfl,rfl,rfl,trivial,trivial⟩ (c_seq (c_asg (c_tupM (c_consA (c_dat (c_op2 (c_op2 (c_varS rfl (c_pvd (c_kst (k_op2d sc_ix rd_d trivial rd_d trivial fun z1=>c_tupM (c_consA (c_kst (c_nilA (k_op2 rd_d trivial rd_d trivial fun pz2 z2 hz2=>k_datN hz2 (c_consA (c_dat (c_op2 (c_varS rfl (c_pvd (c_kst (k_op2d sc_ix rd_d trivial rd_d trivial fun z3=>k_datN (rd_dn rd_d) (c_nilA (k_intoD rd_d rfl rfl (k_cv (Γ':=[.s v_task_here,.s v_sorts_so,.s v_much,.s ((.tuple [z2,z3]))]) rfl (k_seq (c_ret (c_tupM (c_consA (c_datV rfl rfl rfl (c_consA (c_dat (c_tupM (c_consA (c_dat (c_op2 (c_op2 (c_varS rfl (c_pvd (c_kst (k_op2d sc_ix rd_d trivial rd_d trivial fun z4=>c_tupM (c_consA (c_dat (c_tupM (c_consA (c_kst (c_consA (c_datV rfl rfl rfl (c_nilA (k_datN (rd_dn rd_d) (c_nilA (k_op2 rd_d trivial rd_d trivial fun pz5 z5 hz5=>k_datN hz5 (c_consA (c_dat (c_op2 (c_varS rfl (c_pvd (c_kst (k_op2d sc_ix rd_d trivial rd_d trivial fun z6=>k_datN (rd_dn rd_d) (c_nilA (k_datN (rd_dn rd_d) (c_nilA (k_retD rd_d fun v7 hv7=>q_ret hv7)))))))))))))))))))))))))))))))))))))))))))))))))))))))))))))))
def p_tupled : Nat → D → R D
  | 0,_=>.bad
  | k + 1,v_thing =>
  (o1 (isiD [.list,.tuple]) v_thing).bind fun z1 =>
  (truR z1).bind fun b2 =>
  ((if b2 = true then (itR v_thing).bind fun l4 =>
  (mapR (fun d5=>(p_tupled k d5).bind fun z6 =>
  .ok z6) l4).bind fun l7 =>
  (o1 tupD (.list l7)).bind fun z8 =>
  .ok z8 else .ok v_thing) : R (D)).bind fun z3 =>
  .ok z3
theorem pf_tupled : ∀ (k : Nat) (v_thing : D),FR .d (m_tupled k [.s v_thing]) (p_tupled k v_thing)
  | 0,_=>trivial
  | k + 1,v_thing=>by
    have ih:=pf_tupled k
    exact fr_fn (Γ:=[.s v_thing,.x]) ⟨rfl,trivial,trivial⟩ (c_ret (c_ifX (c_tru (c_op1 (c_varS rfl (k_op1d sc_isi rd_d trivial fun z1=>k_tru rd_d trivial fun b2=>k_ifX (w:=.d) (val:=fun z3 : D=>z3) (env:=fun z3 : D=>[.s v_thing,.x]) (c_op1 (c_comp (c_it (c_datV rfl rfl rfl (k_lift fun l4=>k_map [.s v_thing,.x] [.s v_thing,.x] rfl rfl rfl (fun d5=>c_tgN rfl rfl (k_el (c_dat (c_callD (c_consA (c_datV rfl rfl rfl (c_nilA (k_callD (FR.n <| ih d5) fun pz6 z6 hz6=>k_datN hz6 (q_A ⟨rfl,rfl,trivial⟩))))))))) fun l7=>k_op1d sc_tup rd_f trivial fun z8=>q_V rd_d ⟨rfl,rfl,trivial⟩ trivial))))) (c_varS rfl (q_V rd_d ⟨rfl,rfl,trivial⟩ trivial)) fun z3 pz3 hz3=>k_retD hz3 fun v9 hv9=>q_ret hv9))))))
def p_goal_of (v_job : D) : R D :=
  (p_tupled 60 v_job).bind fun z1 =>
  (o2 ixD z1 (.int (1))).bind fun z2 =>
  (itR z2).bind fun l3 =>
  (dcR (fun d4=>(un2 d4).bind fun z5 =>
  .ok (some (z5.1,z5.2))) [] l3).bnx fun l6 =>
  .ok (.dict l6)
theorem pf_goal_of (v_job : D) : FR .f (m_goal_of [.s v_job]) (p_goal_of v_job) :=
  fr_fn (Γ:=[.s v_job,.x,.x]) ⟨rfl,trivial,trivial,trivial⟩ (c_ret (c_dcomp (c_it (c_dat (c_op2 (c_callD (c_consA (c_datV rfl rfl rfl (c_nilA (k_callDd (pf_tupled 60 v_job) fun z1=>c_pvd (c_kst (k_op2d sc_ix rd_d trivial rd_d trivial fun z2=>k_datN (rd_dn rd_d) (k_lift fun l3=>k_dc [.s v_job,.x,.x] [.s v_job,.x,.x] rfl rfl rfl (fun d4=>c_tg2 fun z5=>c_consG (c_tgN rfl rfl (c_consG (c_tgN rfl rfl (c_nilG (k_el (c_elDy (c_datV rfl rfl rfl (c_datV rfl rfl rfl (q_A ⟨rfl,rfl,rfl,trivial⟩)))))))))) fun l6=>k_retF rd_f fun v7 hv7=>q_ret hv7)))))))))))))
def p_row_from (v_goal v_box : D) : R D :=
  (whileR (fun (s1 : D)=>(o1 negD (.int (1))).bind fun z4 =>
  (o2 ixD s1 z4).bind fun z5 =>
  (o2 ixD v_goal z5).bind fun z6 =>
  (o2 inE z6 v_goal).bind fun z7 =>
  (boR z7).bind fun b8 =>
  ((if b8 = true then (o1 negD (.int (1))).bind fun z10 =>
  (o2 ixD s1 z10).bind fun z11 =>
  (o2 ixD v_goal z11).bind fun z12 =>
  (o2 neD z12 v_box).bind fun z13 =>
  (boR z13).bind fun b14 =>
  .ok b14 else .ok false) : R (Bool)).bind fun b9 =>
  if b9 = true then
  (lsR s1).bind fun l15 =>
  (o1 negD (.int (1))).bind fun z17 =>
  (o2 ixD s1 z17).bind fun z18 =>
  (o2 ixD v_goal z18).bind fun z19 =>
  (apR l15 z19).bind fun z16 =>
  .ok (.nx z16)
  else
  .ok (.bk s1)) 200 (.list [v_box])).bind fun os3 =>
  (match os3 with
  | .nx s3=>.ok s3
  | .rt _ _=>.bad)
theorem pf_row_from (v_goal v_box : D) : FR .f (m_row_from [.s v_goal,.s v_box]) (p_row_from v_goal v_box) :=
  fr_fn (Γ:=[.s v_goal,.s v_box,.x]) ⟨rfl,rfl,trivial,trivial⟩ (c_seq (c_asg (c_lstM (c_consA (c_datV rfl rfl rfl (c_nilA (k_intoF rd_f rfl rfl (k_cv (Γ':=[.s v_goal,.s v_box,.o ((.list [v_box]))]) rfl (k_seq (c_seq (c_while .f none (fun s1 : D=>[.s v_goal,.s v_box,.o s1]) (.list [v_box]) ⟨rfl,rfl,rfl,trivial⟩ (fun s1=>c_andT (c_bol (c_op2 (c_op2 (c_varS rfl (c_op2 (c_varO rfl (c_op1 (c_pvd (c_kst (k_op1d sc_neg rd_d trivial fun z4=>k_op2d sc_ix rd_r rfl rd_d trivial fun z5=>k_op2d sc_ix rd_d trivial rd_d trivial fun z6=>c_varS rfl (k_op2d sc_inE rd_d trivial rd_d trivial fun z7=>k_bol (rd_dn rd_d) fun b8=>k_ifT (val:=fun b9 : Bool=>b9) (env:=fun b9 : Bool=>[.s v_goal,.s v_box,.o s1]) (c_bol (c_op2 (c_op2 (c_varS rfl (c_op2 (c_varO rfl (c_op1 (c_pvd (c_kst (k_op1d sc_neg rd_d trivial fun z10=>k_op2d sc_ix rd_r rfl rd_d trivial fun z11=>k_op2d sc_ix rd_d trivial rd_d trivial fun z12=>c_varS rfl (k_op2d sc_ne rd_d trivial rd_d trivial fun z13=>k_bol (rd_dn rd_d) fun b14=>q_A ⟨rfl,rfl,rfl,trivial⟩))))))))))) (c_now (q_A ⟨rfl,rfl,rfl,trivial⟩)) fun b9=>k_wif0 (c_drop (c_app rfl fun l15 hl15=>c_dat (c_op2 (c_varS rfl (c_op2 (c_varO rfl (c_op1 (c_pvd (c_kst (k_op1d sc_neg rd_d trivial fun z17=>k_op2d sc_ix rd_r rfl rd_d trivial fun z18=>k_op2d sc_ix rd_d trivial rd_d trivial fun z19=>k_datN (rd_dn rd_d) (k_app hl15 rfl fun z16=>k_cv (Γ':=[.s v_goal,.s v_box,.o z16]) rfl (q_lnx ⟨rfl,rfl,rfl,trivial⟩)))))))))))) (c_now (q_lbk ⟨rfl,rfl,rfl,trivial⟩)))))))))))))) (fun s3=>k_seq (c_ret (c_varO rfl (k_retO rfl rfl fun v20 hv20=>q_ret hv20)))) (fun _ _ _ _ _ _=>k_bad))))))))))))
def p_set_of (v_things : D) : R D :=
  (o1 sortSetD v_things).bind fun z1 =>
  (o1 tupD z1).bind fun z2 =>
  .ok z2
theorem pf_set_of (v_things : D) : FR .d (m_set_of [.s v_things]) (p_set_of v_things) :=
  fr_fn (Γ:=[.s v_things]) ⟨rfl,trivial⟩ (c_ret (c_op1 (c_op1 (c_varS rfl (k_op1f ow_sortSet rd_d trivial fun z1=>k_op1d sc_tup rd_f trivial fun z2=>k_retD rd_d fun v3 hv3=>q_ret hv3)))))
def p_chains (v_job : D) : R D :=
  (p_goal_of v_job).bind fun z1 =>
  (valuesR z1).bind fun l2 =>
  (fcR (fun d3=>(o2 notND d3 (.none)).bind fun z4 =>
  (boR z4).bind fun b5 =>
  if b5 = true then .ok (some d3) else .ok none) l2).bind fun l6 =>
  (p_set_of (.list l6)).bind fun z7 =>
  (o1 sortD z1).bind fun z8 =>
  (itR z8).bind fun l9 =>
  (foldR (fun (s10 : D) d11=>(o2 notInE d11 z7).bind fun z13 =>
  (boR z13).bind fun b14 =>
  ((if b14 = true then (lsR s10).bind fun l16 =>
  (p_row_from z1 d11).bind fun z18 =>
  (o1 tupD z18).bind fun z19 =>
  (apR l16 z19).bind fun z17 =>
  .ok z17 else .ok s10) : R (D)).bind fun (s15 : D) =>
  .ok s15) (.list []) l9).bind fun (s12 : D) =>
  (o1 tupD s12).bind fun z20 =>
  .ok z20
theorem pf_chains (v_job : D) : FR .d (m_chains [.s v_job]) (p_chains v_job) :=
  fr_fn (Γ:=[.s v_job,.x,.x,.x,.x,.x]) ⟨rfl,trivial,trivial,trivial,trivial,trivial,trivial⟩ (c_seq (c_par2 (c_callD (c_consA (c_datV rfl rfl rfl (c_nilA (k_callDf (pf_goal_of v_job) fun z1=>c_lstM (c_nilA (k_intoU (k_intoF rd_f rfl rfl (k_cv (Γ':=[.s v_job,.o z1,.x,.x,.x,.x]) rfl (k_intoF rd_f rfl rfl (k_cv (Γ':=[.s v_job,.o z1,.o ((.list [])),.x,.x,.x]) rfl (k_seq (c_seq (c_asg (c_callD (c_consA (c_dat (c_comp (c_values (c_datV rfl rfl rfl (k_lift fun l2=>k_fc [.s v_job,.s z1,.o ((.list [])),.x,.x,.x] [.s v_job,.s z1,.o ((.list [])),.x,.x,.x] rfl rfl rfl (fun d3=>c_tgN rfl rfl (k_el (c_elF (c_bol (c_op2 (c_varS rfl (c_pvd (c_kst (k_op2d sc_notN rd_d trivial rd_d trivial fun z4=>k_bol (rd_dn rd_d) fun b5=>k_elF (c_datV rfl rfl rfl (q_A ⟨rfl,rfl,rfl,rfl,rfl,rfl,trivial⟩)) (q_A ⟨rfl,rfl,rfl,rfl,rfl,rfl,trivial⟩)))))))))) fun l6=>k_datN (rd_fn rd_f) (c_nilA (k_callDd (pf_set_of (.list l6)) fun z7=>k_intoD rd_d rfl rfl (k_cv (Γ':=[.s v_job,.s z1,.o ((.list [])),.s z7,.x,.x]) rfl (k_seq (c_seq (c_for (c_it (c_dat (c_op1 (c_varS rfl (k_op1f ow_sort rd_d trivial fun z8=>k_datN (rd_fn rd_f) (k_lift fun l9=>k_fold (fun s10 : D=>[.s v_job,.s z1,.o s10,.s z7,.x,.x]) (.list []) ⟨rfl,rfl,rfl,rfl,rfl,rfl,trivial⟩ (fun s10 d11=>c_tgN rfl rfl (k_body (c_ifS (c_bol (c_op2 (c_varS rfl (c_varS rfl (k_op2d sc_notInE rd_d trivial rd_d trivial fun z13=>k_bol (rd_dn rd_d) fun b14=>k_join (env:=fun s15 : D=>[.s v_job,.s z1,.o s15,.s z7,.s d11,.x]) (c_drop (c_app rfl fun l16 hl16=>c_dat (c_op1 (c_callD (c_consA (c_datV rfl rfl rfl (c_consA (c_datV rfl rfl rfl (c_nilA (k_callDf (pf_row_from z1 d11) fun z18=>k_op1d sc_tup rd_f trivial fun z19=>k_datN (rd_dn rd_d) (k_app hl16 rfl fun z17=>k_cv (Γ':=[.s v_job,.s z1,.o z17,.s z7,.s d11,.x]) rfl (q_A ⟨rfl,rfl,rfl,rfl,rfl,rfl,trivial⟩)))))))))))) (c_skip (q_A ⟨rfl,rfl,rfl,rfl,rfl,rfl,trivial⟩)) fun s15=>q_nnx ⟨rfl,rfl,rfl,rfl,rfl,rfl,trivial⟩)))))))) fun s12=>k_seq (c_ret (c_op1 (c_varO rfl (k_op1d sc_tup rd_r rfl fun z20=>k_retD rd_d fun v21 hv21=>q_ret hv21)))))))))))))))))))))))))))))) (rd_fn rd_f))))))))))
def p_free_places (v_job : D) : R D :=
  (p_tupled 60 v_job).bind fun z1 =>
  (un2 z1).bind fun z2 =>
  (itR z2.2).bind fun l3 =>
  (mapR (fun d4=>(un2 d4).bind fun z5 =>
  .ok z5.1) l3).bind fun l6 =>
  (itR z2.1).bind fun l7 =>
  (fcR (fun d8=>(o2 notInE d8 (.list l6)).bind fun z9 =>
  (boR z9).bind fun b10 =>
  if b10 = true then .ok (some d8) else .ok none) l7).bind fun l11 =>
  (o1 tupD (.list l11)).bind fun z12 =>
  .ok z12
theorem pf_free_places (v_job : D) : FR .d (m_free_places [.s v_job]) (p_free_places v_job) :=
  fr_fn (Γ:=[.s v_job,.x,.x,.x,.x,.x]) ⟨rfl,trivial,trivial,trivial,trivial,trivial,trivial⟩ (c_seq (c_asgT (c_dat (c_callD (c_consA (c_datV rfl rfl rfl (c_nilA (k_callDd (pf_tupled 60 v_job) fun z1=>k_datN (rd_dn rd_d) (c_tg2 fun z2=>c_consG (c_tgN rfl rfl (c_consG (c_tgN rfl rfl (c_nilG (k_seq (c_seq (c_asg (c_comp (c_it (c_datV rfl rfl rfl (k_lift fun l3=>k_map [.s v_job,.s z2.1,.s z2.2,.x,.x,.x] [.s v_job,.s z2.1,.s z2.2,.x,.x,.x] rfl rfl rfl (fun d4=>c_tg2 fun z5=>c_consG (c_tgN rfl rfl (c_consG (c_tgN rfl rfl (c_nilG (k_el (c_datV rfl rfl rfl (q_A ⟨rfl,rfl,rfl,rfl,rfl,rfl,trivial⟩)))))))) fun l6=>k_intoF rd_f rfl rfl (k_cv (Γ':=[.s v_job,.s z2.1,.s z2.2,.o ((.list l6)),.x,.x]) rfl (k_seq (c_ret (c_op1 (c_comp (c_it (c_datV rfl rfl rfl (k_lift fun l7=>k_fc [.s v_job,.s z2.1,.s z2.2,.o ((.list l6)),.x,.x] [.s v_job,.s z2.1,.s z2.2,.o ((.list l6)),.x,.x] rfl rfl rfl (fun d8=>c_tgN rfl rfl (k_el (c_elF (c_bol (c_op2 (c_varS rfl (c_varO rfl (k_op2d sc_notInE rd_d trivial rd_r rfl fun z9=>k_bol (rd_dn rd_d) fun b10=>k_elF (c_datV rfl rfl rfl (q_A ⟨rfl,rfl,rfl,rfl,rfl,rfl,trivial⟩)) (q_A ⟨rfl,rfl,rfl,rfl,rfl,rfl,trivial⟩))))))))) fun l11=>k_op1d sc_tup rd_f trivial fun z12=>k_retD rd_d fun v13 hv13=>q_ret hv13))))))))))))))))))))))))))))
def p_tables_of (v_sizes : D) : R D :=
  (p_tupled 60 v_sizes).bind fun z1 =>
  (un2 z1).bind fun z2 =>
  (o1 dictD z2.1).bind fun z3 =>
  (o1 dictD z2.2).bind fun z4 =>
  .ok (.tuple [z3,z4])
theorem pf_tables_of (v_sizes : D) : FR .d (m_tables_of [.s v_sizes]) (p_tables_of v_sizes) :=
  fr_fn (Γ:=[.s v_sizes,.x,.x]) ⟨rfl,trivial,trivial,trivial⟩ (c_seq (c_asgT (c_dat (c_callD (c_consA (c_datV rfl rfl rfl (c_nilA (k_callDd (pf_tupled 60 v_sizes) fun z1=>k_datN (rd_dn rd_d) (c_tg2 fun z2=>c_consG (c_tgN rfl rfl (c_consG (c_tgN rfl rfl (c_nilG (k_seq (c_ret (c_tupM (c_consA (c_dat (c_op1 (c_varS rfl (k_op1f ow_dict rd_d trivial fun z3=>k_datN (rd_fn rd_f) (c_consA (c_dat (c_op1 (c_varS rfl (k_op1f ow_dict rd_d trivial fun z4=>k_datN (rd_fn rd_f) (c_nilA (k_retD rd_d fun v5 hv5=>q_ret hv5))))))))))))))))))))))))))))
def p_hole_of (v_job v_sizes : D) : R D :=
  (p_tables_of v_sizes).bind fun z1 =>
  (o2 ixD z1 (.int (0))).bind fun z2 =>
  (p_goal_of v_job).bind fun z3 =>
  (p_free_places v_job).bind fun z4 =>
  (o1 lstD z4).bind fun z5 =>
  (p_chains v_job).bind fun z6 =>
  (itR z6).bind fun l7 =>
  (foldR (fun (s8 : D) d9=>(lsR s8).bind fun l11 =>
  (sqR d9).bind fun l13 =>
  (o1 negD (.int (1))).bind fun z14 =>
  (o2 ixD d9 z14).bind fun z15 =>
  (o2 ixD z3 z15).bind fun z16 =>
  (szT (l13 ++ (z16 :: []))).bind fun z17 =>
  (itR z17).bind fun l18 =>
  (fcR (fun d19=>(o2 notND d19 (.none)).bind fun z20 =>
  (boR z20).bind fun b21 =>
  if b21 = true then .ok (some d19) else .ok none) l18).bind fun l22 =>
  (exR l11 (.list l22)).bind fun z12 =>
  .ok z12) z5 l7).bind fun (s10 : D) =>
  (itR s10).bind fun l23 =>
  (mapR (fun d24=>(o2 ixD z2 d24).bind fun z25 =>
  .ok z25) l23).bind fun l26 =>
  (o1 maxND (.list l26)).bind fun z27 =>
  .ok z27
theorem pf_hole_of (v_job v_sizes : D) : FR .d (m_hole_of [.s v_job,.s v_sizes]) (p_hole_of v_job v_sizes) :=
  fr_fn (Γ:=[.s v_job,.s v_sizes,.x,.x,.x,.x,.x]) ⟨rfl,rfl,trivial,trivial,trivial,trivial,trivial,trivial⟩ (c_seq (c_parN (c_consV (c_op2 (c_callD (c_consA (c_datV rfl rfl rfl (c_nilA (k_callDd (pf_tables_of v_sizes) fun z1=>c_pvd (c_kst (k_op2d sc_ix rd_d trivial rd_d trivial fun z2=>c_consV (c_callD (c_consA (c_datV rfl rfl rfl (c_nilA (k_callDf (pf_goal_of v_job) fun z3=>c_nilV (k_allC (k_intoU (k_intoD rd_d rfl rfl (k_cv (Γ':=[.s v_job,.s v_sizes,.s z2,.x,.x,.x,.x]) rfl (k_allC (k_intoU (k_intoF rd_f rfl rfl (k_cv (Γ':=[.s v_job,.s v_sizes,.s z2,.o z3,.x,.x,.x]) rfl (k_allN (k_seq (c_seq (c_asg (c_op1 (c_callD (c_consA (c_datV rfl rfl rfl (c_nilA (k_callDd (pf_free_places v_job) fun z4=>k_op1f ow_lst rd_d trivial fun z5=>k_intoF rd_f rfl rfl (k_cv (Γ':=[.s v_job,.s v_sizes,.s z2,.o z3,.o z5,.x,.x]) rfl (k_seq (c_seq (c_for (c_it (c_dat (c_callD (c_consA (c_datV rfl rfl rfl (c_nilA (k_callDd (pf_chains v_job) fun z6=>k_datN (rd_dn rd_d) (k_lift fun l7=>k_fold (fun s8 : D=>[.s v_job,.s v_sizes,.s z2,.o z3,.o s8,.x,.x]) z5 ⟨rfl,rfl,rfl,rfl,rfl,rfl,rfl,trivial⟩ (fun s8 d9=>c_tgN rfl rfl (k_body (c_drop (c_ext rfl fun l11 hl11=>c_comp (c_it (c_dat (c_tupS (c_star (c_datV rfl rfl rfl (k_star fun l13=>c_consA (c_dat (c_op2 (c_varO rfl (c_op2 (c_varS rfl (c_op1 (c_pvd (c_kst (k_op1d sc_neg rd_d trivial fun z14=>k_op2d sc_ix rd_d trivial rd_d trivial fun z15=>k_op2d sc_ix rd_r rfl rd_d trivial fun z16=>k_datN (rd_dn rd_d) (c_nilA (k_lift fun z17=>k_datN (rd_dn rd_d) (k_lift fun l18=>k_fc [.s v_job,.s v_sizes,.s z2,.o z3,.o s8,.s d9,.x] [.s v_job,.s v_sizes,.s z2,.o z3,.o s8,.s d9,.x] rfl rfl rfl (fun d19=>c_tgN rfl rfl (k_el (c_elF (c_bol (c_op2 (c_varS rfl (c_pvd (c_kst (k_op2d sc_notN rd_d trivial rd_d trivial fun z20=>k_bol (rd_dn rd_d) fun b21=>k_elF (c_datV rfl rfl rfl (q_A ⟨rfl,rfl,rfl,rfl,rfl,rfl,rfl,trivial⟩)) (q_A ⟨rfl,rfl,rfl,rfl,rfl,rfl,rfl,trivial⟩)))))))))) fun l22=>k_ext rd_f hl11 rfl fun z12=>k_cv (Γ':=[.s v_job,.s v_sizes,.s z2,.o z3,.o z12,.s d9,.x]) rfl (q_nnx ⟨rfl,rfl,rfl,rfl,rfl,rfl,rfl,trivial⟩))))))))))))))))))))))) fun s10=>k_seq (c_ret (c_op1 (c_comp (c_it (c_datV rfl rfl rfl (k_lift fun l23=>k_map [.s v_job,.s v_sizes,.s z2,.o z3,.s s10,.x,.x] [.s v_job,.s v_sizes,.s z2,.o z3,.s s10,.x,.x] rfl rfl rfl (fun d24=>c_tgN rfl rfl (k_el (c_dat (c_op2 (c_varS rfl (c_varS rfl (k_op2d sc_ix rd_d trivial rd_d trivial fun z25=>k_datN (rd_dn rd_d) (q_A ⟨rfl,rfl,rfl,rfl,rfl,rfl,rfl,trivial⟩)))))))) fun l26=>k_op1d sc_maxN rd_f trivial fun z27=>k_retD rd_d fun v28 hv28=>q_ret hv28)))))))))))))))))))))))))))))) (rd_fn rd_f))))) (rd_dn rd_d)))))))))))))))))))
def p_row_from_safe (v_goal v_box : D) : R D :=
  (whileR (fun (s1 : D)=>(o1 negD (.int (1))).bind fun z4 =>
  (o2 ixD s1 z4).bind fun z5 =>
  (o2 ixD v_goal z5).bind fun z6 =>
  (o2 neD z6 v_box).bind fun z7 =>
  (boR z7).bind fun b8 =>
  if b8 = true then
  (o1 negD (.int (1))).bind fun z9 =>
  (o2 ixD s1 z9).bind fun z10 =>
  (o2 ixD v_goal z10).bind fun z11 =>
  (o2 notInE z11 v_goal).bind fun z12 =>
  (boR z12).bind fun b13 =>
  if b13 = true then
  .ok (.rt (.none) .none)
  else
  (lsR s1).bind fun l15 =>
  (o1 negD (.int (1))).bind fun z17 =>
  (o2 ixD s1 z17).bind fun z18 =>
  (o2 ixD v_goal z18).bind fun z19 =>
  (apR l15 z19).bind fun z16 =>
  .ok (.nx z16)
  else
  .ok (.bk s1)) 200 (.list [v_box])).bind fun os3 =>
  (match os3 with
  | .nx s3=>.ok s3
  | .rt dhx21 thx21=>.ok dhx21)
theorem pf_row_from_safe (v_goal v_box : D) : FR .n (m_row_from_safe [.s v_goal,.s v_box]) (p_row_from_safe v_goal v_box) :=
  fr_fn (Γ:=[.s v_goal,.s v_box,.x]) ⟨rfl,rfl,trivial,trivial⟩ (c_seq (c_asg (c_lstM (c_consA (c_datV rfl rfl rfl (c_nilA (k_intoF rd_f rfl rfl (k_cv (Γ':=[.s v_goal,.s v_box,.o ((.list [v_box]))]) rfl (k_seq (c_seq (c_while .n none (fun s1 : D=>[.s v_goal,.s v_box,.o s1]) (.list [v_box]) ⟨rfl,rfl,rfl,trivial⟩ (fun s1=>c_bol (c_op2 (c_op2 (c_varS rfl (c_op2 (c_varO rfl (c_op1 (c_pvd (c_kst (k_op1d sc_neg rd_d trivial fun z4=>k_op2d sc_ix rd_r rfl rd_d trivial fun z5=>k_op2d sc_ix rd_d trivial rd_d trivial fun z6=>c_varS rfl (k_op2d sc_ne rd_d trivial rd_d trivial fun z7=>k_bol (rd_dn rd_d) fun b8=>k_wif0 (c_seq (c_ifS (c_bol (c_op2 (c_op2 (c_varS rfl (c_op2 (c_varO rfl (c_op1 (c_pvd (c_kst (k_op1d sc_neg rd_d trivial fun z9=>k_op2d sc_ix rd_r rfl rd_d trivial fun z10=>k_op2d sc_ix rd_d trivial rd_d trivial fun z11=>c_varS rfl (k_op2d sc_notInE rd_d trivial rd_d trivial fun z12=>k_bol (rd_dn rd_d) fun b13=>k_if2 (c_ret (c_pvd (c_kst (k_retD rd_d fun v14 hv14=>q_lrt (XvIs.n hv14) trivial)))) (c_skip (k_seq (c_drop (c_app rfl fun l15 hl15=>c_dat (c_op2 (c_varS rfl (c_op2 (c_varO rfl (c_op1 (c_pvd (c_kst (k_op1d sc_neg rd_d trivial fun z17=>k_op2d sc_ix rd_r rfl rd_d trivial fun z18=>k_op2d sc_ix rd_d trivial rd_d trivial fun z19=>k_datN (rd_dn rd_d) (k_app hl15 rfl fun z16=>k_cv (Γ':=[.s v_goal,.s v_box,.o z16]) rfl (q_lnx ⟨rfl,rfl,rfl,trivial⟩))))))))))))))))))))))))))) (c_now (q_lbk ⟨rfl,rfl,rfl,trivial⟩))))))))))))) (fun s3=>k_seq (c_ret (c_varO rfl (k_retO rfl rfl fun v20 hv20=>q_ret (XvIs.n hv20))))) (fun dhx21 thx21 _ vhx21 hx21 hthx21=>q_ret hx21))))))))))))
def p_rings (v_job : D) : R D :=
  (p_goal_of v_job).bind fun z1 =>
  (o1 sortD z1).bind fun z2 =>
  (itR z2).bind fun l3 =>
  (foldR (fun (s4 : D) d5=>(p_row_from_safe z1 d5).bind fun z7 =>
  (o2 notND z7 (.none)).bind fun z9 =>
  (boR z9).bind fun b10 =>
  ((if b10 = true then (o1 lenD z7).bind fun z13 =>
  (o2 gtD z13 (.int (1))).bind fun z14 =>
  (boR z14).bind fun b15 =>
  ((if b15 = true then (o1 min1D z7).bind fun z18 =>
  (o2 eqD d5 z18).bind fun z19 =>
  (boR z19).bind fun b20 =>
  .ok b20 else .ok false) : R (Bool)).bind fun b16 =>
  .ok b16 else .ok false) : R (Bool)).bind fun b11 =>
  ((if b11 = true then (lsR s4).bind fun l22 =>
  (o1 tupD z7).bind fun z25 =>
  (apR l22 z25).bind fun z23 =>
  .ok z23 else .ok s4) : R (D)).bind fun (s21 : D) =>
  .ok s21) (.list []) l3).bind fun (s6 : D) =>
  (o1 tupD s6).bind fun z26 =>
  .ok z26
theorem pf_rings (v_job : D) : FR .d (m_rings [.s v_job]) (p_rings v_job) :=
  fr_fn (Γ:=[.s v_job,.x,.x,.x,.x]) ⟨rfl,trivial,trivial,trivial,trivial,trivial⟩ (c_seq (c_par2 (c_callD (c_consA (c_datV rfl rfl rfl (c_nilA (k_callDf (pf_goal_of v_job) fun z1=>c_lstM (c_nilA (k_intoU (k_intoF rd_f rfl rfl (k_cv (Γ':=[.s v_job,.o z1,.x,.x,.x]) rfl (k_intoF rd_f rfl rfl (k_cv (Γ':=[.s v_job,.o z1,.o ((.list [])),.x,.x]) rfl (k_seq (c_seq (c_for (c_it (c_dat (c_op1 (c_varO rfl (k_op1f ow_sort rd_r rfl fun z2=>k_datN (rd_fn rd_f) (k_lift fun l3=>k_fold (fun s4 : D=>[.s v_job,.a z1,.o s4,.x,.x]) (.list []) ⟨rfl,rfl,rfl,rfl,rfl,trivial⟩ (fun s4 d5=>c_tgN rfl rfl (k_body (c_seq (c_asg (c_callD (c_consA (c_datV rfl rfl rfl (c_consA (c_datV rfl rfl rfl (c_nilA (k_callD (pf_row_from_safe z1 d5) fun pz7 z7 hz7=>k_intoN hz7 rfl rfl (k_cv (Γ':=[.s v_job,.s z1,.o s4,.s d5,.a z7]) rfl (k_seq (c_ifS (c_andT (c_bol (c_op2 (c_var rfl fun p8 hp8=>c_pvd (c_kst (k_op2d sc_notN hp8 rfl rd_d trivial fun z9=>k_bol (rd_dn rd_d) fun b10=>k_ifT (val:=fun b11 : Bool=>b11) (env:=fun b11 : Bool=>[.s v_job,.s z1,.o s4,.s d5,.a z7]) (c_andT (c_bol (c_op2 (c_op1 (c_var rfl fun p12 hp12=>k_op1d sc_len hp12 rfl fun z13=>c_pvd (c_kst (k_op2d sc_iI rd_d trivial rd_d trivial fun z14=>k_bol (rd_dn rd_d) fun b15=>k_ifT (val:=fun b16 : Bool=>b16) (env:=fun b16 : Bool=>[.s v_job,.s z1,.o s4,.s d5,.a z7]) (c_bol (c_op2 (c_varS rfl (c_op1 (c_var rfl fun p17 hp17=>k_op1d sc_min1 hp17 rfl fun z18=>k_op2d sc_eq rd_d trivial rd_d trivial fun z19=>k_bol (rd_dn rd_d) fun b20=>q_A ⟨rfl,rfl,rfl,rfl,rfl,trivial⟩))))) (c_now (q_A ⟨rfl,rfl,rfl,rfl,rfl,trivial⟩)) fun b16=>q_A ⟨rfl,rfl,rfl,rfl,rfl,trivial⟩))))))) (c_now (q_A ⟨rfl,rfl,rfl,rfl,rfl,trivial⟩)) fun b11=>k_join (env:=fun s21 : D=>[.s v_job,.s z1,.o s21,.s d5,.a z7]) (c_drop (c_app rfl fun l22 hl22=>c_dat (c_op1 (c_var rfl fun p24 hp24=>k_op1d sc_tup hp24 rfl fun z25=>k_datN (rd_dn rd_d) (k_app hl22 rfl fun z23=>k_cv (Γ':=[.s v_job,.s z1,.o z23,.s d5,.a z7]) rfl (q_A ⟨rfl,rfl,rfl,rfl,rfl,trivial⟩)))))) (c_skip (q_A ⟨rfl,rfl,rfl,rfl,rfl,trivial⟩)) fun s21=>q_nnx ⟨rfl,rfl,rfl,rfl,rfl,trivial⟩)))))))))))))))))))) fun s6=>k_seq (c_ret (c_op1 (c_varO rfl (k_op1d sc_tup rd_r rfl fun z26=>k_retD rd_d fun v27 hv27=>q_ret hv27))))))))))))))))) (rd_fn rd_f))))))))))
def p_opened_by (v_job v_sizes v_hole : D) : R D :=
  (p_tables_of v_sizes).bind fun z1 =>
  (un2 z1).bind fun z2 =>
  (p_rings v_job).bind fun z3 =>
  (o1 lstD z3).bind fun z4 =>
  (whileR (fun (s5 : D × D × D)=>(truR (.bool true)).bind fun b8 =>
  if b8 = true then
  (lsR s5.1).bind fun l10 =>
  (fcR (fun d9=>(o2 notND s5.2.2 (.none)).bind fun z11 =>
  (boR z11).bind fun b12 =>
  ((if b12 = true then (itR d9).bind fun l14 =>
  (mapR (fun d15=>(o2 ixD z2.2 d15).bind fun z16 =>
  .ok z16) l14).bind fun l17 =>
  (o1 min1D (.list l17)).bind fun z18 =>
  (o2 leD z18 s5.2.2).bind fun z19 =>
  (boR z19).bind fun b20 =>
  .ok b20 else .ok false) : R (Bool)).bind fun b13 =>
  if b13 = true then .ok (some d9) else .ok none) l10).bind fun l21 =>
  (o1 lenD (.list l21)).bind fun z22 =>
  (o2 eqD z22 (.int (0))).bind fun z23 =>
  (boR z23).bind fun b24 =>
  if b24 = true then
  (o1 tupD s5.2.1).bind fun z25 =>
  (o1 tupD s5.1).bind fun z26 =>
  .ok (.rt (.tuple [z25,z26]) .none)
  else
  (o2 ixD (.list l21) (.int (0))).bind fun z28 =>
  (itR z28).bind fun l29 =>
  (mapR (fun d30=>(o2 ixD z2.1 d30).bind fun z31 =>
  .ok z31) l29).bind fun l32 =>
  (o1 max1D (.list l32)).bind fun z33 =>
  (o2 max2D s5.2.2 z33).bind fun z34 =>
  (lsR s5.2.1).bind fun l35 =>
  (o2 ixD (.list l21) (.int (0))).bind fun z37 =>
  (apR l35 (.tuple [z37,z34])).bind fun z36 =>
  (lsR s5.1).bind fun l38 =>
  (o2 ixD (.list l21) (.int (0))).bind fun z40 =>
  (rmR l38 z40).bind fun z39 =>
  .ok (.nx (z39,z36,z34))
  else
  .ok (.bk (s5.1,s5.2.1,s5.2.2))) 200 (z4,(.list []),v_hole)).bind fun os7 =>
  (match os7 with
  | .nx s7=>.ok .none
  | .rt dhx41 thx41=>.ok dhx41)
theorem pf_opened_by (v_job v_sizes v_hole : D) : FR .n (m_opened_by [.s v_job,.s v_sizes,.s v_hole]) (p_opened_by v_job v_sizes v_hole) :=
  fr_fn (Γ:=[.s v_job,.s v_sizes,.s v_hole,.x,.x,.x,.x,.x,.x,.x,.x,.x]) ⟨rfl,rfl,rfl,trivial,trivial,trivial,trivial,trivial,trivial,trivial,trivial,trivial,trivial⟩ (c_seq (c_asgT (c_dat (c_callD (c_consA (c_datV rfl rfl rfl (c_nilA (k_callDd (pf_tables_of v_sizes) fun z1=>k_datN (rd_dn rd_d) (c_tg2 fun z2=>c_consG (c_tgN rfl rfl (c_consG (c_tgN rfl rfl (c_nilG (k_seq (c_seq (c_parN (c_consV (c_op1 (c_callD (c_consA (c_datV rfl rfl rfl (c_nilA (k_callDd (pf_rings v_job) fun z3=>k_op1f ow_lst rd_d trivial fun z4=>c_consV (c_lstM (c_nilA (c_consV (c_pvd (c_datV rfl rfl rfl (c_nilV (k_allC (k_intoU (k_intoF rd_f rfl rfl (k_cv (Γ':=[.s v_job,.s v_sizes,.s v_hole,.s z2.1,.s z2.2,.o z4,.x,.x,.x,.x,.x,.x]) rfl (k_allC (k_intoU (k_intoF rd_f rfl rfl (k_cv (Γ':=[.s v_job,.s v_sizes,.s v_hole,.s z2.1,.s z2.2,.o z4,.o ((.list [])),.x,.x,.x,.x,.x]) rfl (k_allC (k_intoU (k_intoD rd_d rfl rfl (k_cv (Γ':=[.s v_job,.s v_sizes,.s v_hole,.s z2.1,.s z2.2,.o z4,.o ((.list [])),.s v_hole,.x,.x,.x,.x]) rfl (k_allN (k_seq (c_while .n none (fun s5 : D × D × D=>[.s v_job,.s v_sizes,.s v_hole,.s z2.1,.s z2.2,.o s5.1,.o s5.2.1,.s s5.2.2,.x,.x,.x,.x]) (z4,(.list []),v_hole) ⟨rfl,rfl,rfl,rfl,rfl,rfl,rfl,rfl,rfl,rfl,rfl,rfl,trivial⟩ (fun s5=>c_tru (c_pvd (c_kst (k_tru rd_d trivial fun b8=>k_wif0 (c_seq (c_asg (k_fcO rfl [.s v_job,.s v_sizes,.s v_hole,.s z2.1,.s z2.2,.o s5.1,.o s5.2.1,.s s5.2.2,.x,.x,.x,.x] [.s v_job,.s v_sizes,.s v_hole,.s z2.1,.s z2.2,.o s5.1,.o s5.2.1,.s s5.2.2,.x,.x,.x,.x] rfl rfl rfl rfl (fun d9=>c_tgN rfl rfl (k_el (c_elF (c_andT (c_bol (c_op2 (c_varS rfl (c_pvd (c_kst (k_op2d sc_notN rd_d trivial rd_d trivial fun z11=>k_bol (rd_dn rd_d) fun b12=>k_ifT (val:=fun b13 : Bool=>b13) (env:=fun b13 : Bool=>[.s v_job,.s v_sizes,.s v_hole,.s z2.1,.s z2.2,.o s5.1,.o s5.2.1,.s s5.2.2,.x,.s d9,.x,.x]) (c_bol (c_op2 (c_op1 (c_comp (c_it (c_datV rfl rfl rfl (k_lift fun l14=>k_map [.s v_job,.s v_sizes,.s v_hole,.s z2.1,.s z2.2,.o s5.1,.o s5.2.1,.s s5.2.2,.x,.s d9,.x,.x] [.s v_job,.s v_sizes,.s v_hole,.s z2.1,.s z2.2,.o s5.1,.o s5.2.1,.s s5.2.2,.x,.s d9,.x,.x] rfl rfl rfl (fun d15=>c_tgN rfl rfl (k_el (c_dat (c_op2 (c_varS rfl (c_varS rfl (k_op2d sc_ix rd_d trivial rd_d trivial fun z16=>k_datN (rd_dn rd_d) (q_A ⟨rfl,rfl,rfl,rfl,rfl,rfl,rfl,rfl,rfl,rfl,rfl,rfl,trivial⟩)))))))) fun l17=>k_op1d sc_min1 rd_f trivial fun z18=>c_varS rfl (k_op2d sc_iI rd_d trivial rd_d trivial fun z19=>k_bol (rd_dn rd_d) fun b20=>q_A ⟨rfl,rfl,rfl,rfl,rfl,rfl,rfl,rfl,rfl,rfl,rfl,rfl,trivial⟩)))))))) (c_now (q_A ⟨rfl,rfl,rfl,rfl,rfl,rfl,rfl,rfl,rfl,rfl,rfl,rfl,trivial⟩)) fun b13=>k_elF (c_datV rfl rfl rfl (q_A ⟨rfl,rfl,rfl,rfl,rfl,rfl,rfl,rfl,rfl,rfl,rfl,rfl,trivial⟩)) (q_A ⟨rfl,rfl,rfl,rfl,rfl,rfl,rfl,rfl,rfl,rfl,rfl,rfl,trivial⟩))))))))))) fun l21=>k_intoF rd_f rfl rfl (k_cv (Γ':=[.s v_job,.s v_sizes,.s v_hole,.s z2.1,.s z2.2,.o s5.1,.o s5.2.1,.s s5.2.2,.o ((.list l21)),.x,.x,.x]) rfl (k_seq (c_seq (c_ifS (c_bol (c_op2 (c_op1 (c_varO rfl (k_op1d sc_len rd_r rfl fun z22=>c_pvd (c_kst (k_op2d sc_eq rd_d trivial rd_d trivial fun z23=>k_bol (rd_dn rd_d) fun b24=>k_if2 (c_ret (c_tupM (c_consA (c_dat (c_op1 (c_varO rfl (k_op1d sc_tup rd_r rfl fun z25=>k_datN (rd_dn rd_d) (c_consA (c_dat (c_op1 (c_varO rfl (k_op1d sc_tup rd_r rfl fun z26=>k_datN (rd_dn rd_d) (c_nilA (k_retD rd_d fun v27 hv27=>q_lrt (XvIs.n hv27) trivial)))))))))))))) (c_skip (k_seq (c_seq (c_asg (c_op2 (c_varS rfl (c_op1 (c_comp (c_it (c_dat (c_op2 (c_varO rfl (c_pvd (c_kst (k_op2d sc_ix rd_r rfl rd_d trivial fun z28=>k_datN (rd_dn rd_d) (k_lift fun l29=>k_map [.s v_job,.s v_sizes,.s v_hole,.s z2.1,.s z2.2,.o s5.1,.o s5.2.1,.s s5.2.2,.o ((.list l21)),.x,.x,.x] [.s v_job,.s v_sizes,.s v_hole,.s z2.1,.s z2.2,.o s5.1,.o s5.2.1,.s s5.2.2,.o ((.list l21)),.x,.x,.x] rfl rfl rfl (fun d30=>c_tgN rfl rfl (k_el (c_dat (c_op2 (c_varS rfl (c_varS rfl (k_op2d sc_ix rd_d trivial rd_d trivial fun z31=>k_datN (rd_dn rd_d) (q_A ⟨rfl,rfl,rfl,rfl,rfl,rfl,rfl,rfl,rfl,rfl,rfl,rfl,trivial⟩)))))))) fun l32=>k_op1d sc_max1 rd_f trivial fun z33=>k_op2d sc_max rd_d trivial rd_d trivial fun z34=>k_intoD rd_d rfl rfl (k_cv (Γ':=[.s v_job,.s v_sizes,.s v_hole,.s z2.1,.s z2.2,.o s5.1,.o s5.2.1,.s z34,.o ((.list l21)),.x,.x,.x]) rfl (k_seq (c_seq (c_drop (c_app rfl fun l35 hl35=>c_dat (c_tupM (c_consA (c_dat (c_op2 (c_varO rfl (c_pvd (c_kst (k_op2d sc_ix rd_r rfl rd_d trivial fun z37=>k_datN (rd_dn rd_d) (c_consA (c_datV rfl rfl rfl (c_nilA (k_datN (rd_dn rd_d) (k_app hl35 rfl fun z36=>k_cv (Γ':=[.s v_job,.s v_sizes,.s v_hole,.s z2.1,.s z2.2,.o s5.1,.o z36,.s z34,.o ((.list l21)),.x,.x,.x]) rfl (k_seq (c_drop (c_rm rfl fun l38 hl38=>c_dat (c_op2 (c_varO rfl (c_pvd (c_kst (k_op2d sc_ix rd_r rfl rd_d trivial fun z40=>k_datN (rd_dn rd_d) (k_rm hl38 rfl fun z39=>k_cv (Γ':=[.s v_job,.s v_sizes,.s v_hole,.s z2.1,.s z2.2,.o z39,.o z36,.s z34,.o ((.list l21)),.x,.x,.x]) rfl (q_lnx ⟨rfl,rfl,rfl,rfl,rfl,rfl,rfl,rfl,rfl,rfl,rfl,rfl,trivial⟩)))))))))))))))))))))))))))))))))))))))))))))))))))))))))) (c_now (q_lbk ⟨rfl,rfl,rfl,rfl,rfl,rfl,rfl,rfl,rfl,rfl,rfl,rfl,trivial⟩)))))) (fun s7=>q_end) (fun dhx41 thx41 _ vhx41 hx41 hthx41=>q_ret hx41)))))) (rd_dn rd_d))))) (rd_fn rd_f))))) (rd_fn rd_f))))))))))))))))))))))))))))))))
def p_shut_rings (v_job v_sizes : D) : R D :=
  (p_hole_of v_job v_sizes).bind fun z1 =>
  (p_opened_by v_job v_sizes z1).bind fun z2 =>
  (o2 ixD z2 (.int (1))).bind fun z3 =>
  .ok z3
theorem pf_shut_rings (v_job v_sizes : D) : FR .d (m_shut_rings [.s v_job,.s v_sizes]) (p_shut_rings v_job v_sizes) :=
  fr_fn (Γ:=[.s v_job,.s v_sizes]) ⟨rfl,rfl,trivial⟩ (c_ret (c_op2 (c_callD (c_consA (c_datV rfl rfl rfl (c_consA (c_datV rfl rfl rfl (c_consA (c_dat (c_callD (c_consA (c_datV rfl rfl rfl (c_consA (c_datV rfl rfl rfl (c_nilA (k_callDd (pf_hole_of v_job v_sizes) fun z1=>k_datN (rd_dn rd_d) (c_nilA (k_callD (pf_opened_by v_job v_sizes z1) fun pz2 z2 hz2=>c_pvd (c_kst (k_op2d sc_ix hz2 trivial rd_d trivial fun z3=>k_retD rd_d fun v4 hv4=>q_ret hv4))))))))))))))))))))
def p_can_be_done_by (v_job v_sizes : D) : R D :=
  (p_shut_rings v_job v_sizes).bind fun z1 =>
  (o1 lenD z1).bind fun z2 =>
  (o2 eqD z2 (.int (0))).bind fun z3 =>
  .ok z3
theorem pf_can_be_done_by (v_job v_sizes : D) : FR .d (m_can_be_done_by [.s v_job,.s v_sizes]) (p_can_be_done_by v_job v_sizes) :=
  fr_fn (Γ:=[.s v_job,.s v_sizes]) ⟨rfl,rfl,trivial⟩ (c_ret (c_op2 (c_op1 (c_callD (c_consA (c_datV rfl rfl rfl (c_consA (c_datV rfl rfl rfl (c_nilA (k_callDd (pf_shut_rings v_job v_sizes) fun z1=>k_op1d sc_len rd_d trivial fun z2=>c_pvd (c_kst (k_op2d sc_eq rd_d trivial rd_d trivial fun z3=>k_retD rd_d fun v4 hv4=>q_ret hv4))))))))))))
def p_boxes (v_job : D) : R D :=
  (p_tupled 60 v_job).bind fun z1 =>
  (o2 ixD z1 (.int (1))).bind fun z2 =>
  (itR z2).bind fun l3 =>
  (mapR (fun d4=>(un2 d4).bind fun z5 =>
  .ok z5.1) l3).bind fun l6 =>
  (o1 tupD (.list l6)).bind fun z7 =>
  .ok z7
theorem pf_boxes (v_job : D) : FR .d (m_boxes [.s v_job]) (p_boxes v_job) :=
  fr_fn (Γ:=[.s v_job,.x,.x]) ⟨rfl,trivial,trivial,trivial⟩ (c_ret (c_op1 (c_comp (c_it (c_dat (c_op2 (c_callD (c_consA (c_datV rfl rfl rfl (c_nilA (k_callDd (pf_tupled 60 v_job) fun z1=>c_pvd (c_kst (k_op2d sc_ix rd_d trivial rd_d trivial fun z2=>k_datN (rd_dn rd_d) (k_lift fun l3=>k_map [.s v_job,.x,.x] [.s v_job,.x,.x] rfl rfl rfl (fun d4=>c_tg2 fun z5=>c_consG (c_tgN rfl rfl (c_consG (c_tgN rfl rfl (c_nilG (k_el (c_datV rfl rfl rfl (q_A ⟨rfl,rfl,rfl,trivial⟩)))))))) fun l6=>k_op1d sc_tup rd_f trivial fun z7=>k_retD rd_d fun v8 hv8=>q_ret hv8))))))))))))))
def p_place_needed (v_job v_sizes : D) : R D :=
  (p_hole_of v_job v_sizes).bind fun z1 =>
  (p_tables_of v_sizes).bind fun z2 =>
  (o2 ixD z2 (.int (1))).bind fun z3 =>
  (p_can_be_done_by v_job v_sizes).bind fun z4 =>
  (truR z4).bind fun b5 =>
  if b5 = true then
  .ok (.int (0))
  else
  (p_boxes v_job).bind fun z7 =>
  (itR z7).bind fun l8 =>
  (mapR (fun d9=>(o2 ixD z3 d9).bind fun z10 =>
  .ok z10) l8).bind fun l11 =>
  (o1 sortD (.list l11)).bind fun z12 =>
  (itR z12).bind fun l13 =>
  (forR (fun (s14 : Unit) d15=>(o2 isND z1 (.none)).bind fun z17 =>
  (boR z17).bind fun b18 =>
  ((if b18 = true then .ok d15 else (o2 max2E z1 d15).bind fun z20 =>
  .ok z20) : R (D)).bind fun z19 =>
  (p_opened_by v_job v_sizes z19).bind fun z21 =>
  (o2 ixD z21 (.int (1))).bind fun z22 =>
  (o1 lenD z22).bind fun z23 =>
  (o2 eqD z23 (.int (0))).bind fun z24 =>
  (boR z24).bind fun b25 =>
  if b25 = true then
  .ok (.rt d15 .none)
  else
  .ok (.nx ())) () l13).bind fun os16 =>
  (match os16 with
  | .nx s16=>.ok (.none)
  | .rt dhx28 thx28=>.ok dhx28)
theorem pf_place_needed (v_job v_sizes : D) : FR .d (m_place_needed [.s v_job,.s v_sizes]) (p_place_needed v_job v_sizes) :=
  fr_fn (Γ:=[.s v_job,.s v_sizes,.x,.x,.x,.x]) ⟨rfl,rfl,trivial,trivial,trivial,trivial,trivial⟩ (c_seq (c_parN (c_consV (c_callD (c_consA (c_datV rfl rfl rfl (c_consA (c_datV rfl rfl rfl (c_nilA (k_callDd (pf_hole_of v_job v_sizes) fun z1=>c_consV (c_op2 (c_callD (c_consA (c_datV rfl rfl rfl (c_nilA (k_callDd (pf_tables_of v_sizes) fun z2=>c_pvd (c_kst (k_op2d sc_ix rd_d trivial rd_d trivial fun z3=>c_nilV (k_allC (k_intoU (k_intoD rd_d rfl rfl (k_cv (Γ':=[.s v_job,.s v_sizes,.s z1,.x,.x,.x]) rfl (k_allC (k_intoU (k_intoD rd_d rfl rfl (k_cv (Γ':=[.s v_job,.s v_sizes,.s z1,.s z3,.x,.x]) rfl (k_allN (k_seq (c_seq (c_ifS (c_tru (c_callD (c_consA (c_datV rfl rfl rfl (c_consA (c_datV rfl rfl rfl (c_nilA (k_callDd (pf_can_be_done_by v_job v_sizes) fun z4=>k_tru rd_d trivial fun b5=>k_if2 (c_ret (c_pvd (c_kst (k_retD rd_d fun v6 hv6=>q_ret hv6)))) (c_skip (k_seq (c_seq (c_for (c_it (c_dat (c_op1 (c_comp (c_it (c_dat (c_callD (c_consA (c_datV rfl rfl rfl (c_nilA (k_callDd (pf_boxes v_job) fun z7=>k_datN (rd_dn rd_d) (k_lift fun l8=>k_map [.s v_job,.s v_sizes,.s z1,.s z3,.x,.x] [.s v_job,.s v_sizes,.s z1,.s z3,.x,.x] rfl rfl rfl (fun d9=>c_tgN rfl rfl (k_el (c_dat (c_op2 (c_varS rfl (c_varS rfl (k_op2d sc_ix rd_d trivial rd_d trivial fun z10=>k_datN (rd_dn rd_d) (q_A ⟨rfl,rfl,rfl,rfl,rfl,rfl,trivial⟩)))))))) fun l11=>k_op1f ow_sort rd_f trivial fun z12=>k_datN (rd_fn rd_f) (k_lift fun l13=>k_for .d none (fun s14 : Unit=>[.s v_job,.s v_sizes,.s z1,.s z3,.x,.x]) () ⟨rfl,rfl,rfl,rfl,rfl,rfl,trivial⟩ (fun s14 d15=>c_tgN rfl rfl (k_body (c_ifS (c_bol (c_op2 (c_op1 (c_op2 (c_callD (c_consA (c_datV rfl rfl rfl (c_consA (c_datV rfl rfl rfl (c_consA (c_dat (c_ifX (c_bol (c_op2 (c_varS rfl (c_pvd (c_kst (k_op2d sc_isN rd_d trivial rd_d trivial fun z17=>k_bol (rd_dn rd_d) fun b18=>k_ifX (w:=.d) (val:=fun z19 : D=>z19) (env:=fun z19 : D=>[.s v_job,.s v_sizes,.s z1,.s z3,.s d15,.x]) (c_varS rfl (q_V rd_d ⟨rfl,rfl,rfl,rfl,rfl,rfl,trivial⟩ trivial)) (c_op2 (c_varS rfl (c_varS rfl (k_op2d sc_maxE rd_d trivial rd_d trivial fun z20=>q_V rd_d ⟨rfl,rfl,rfl,rfl,rfl,rfl,trivial⟩ trivial)))) fun z19 pz19 hz19=>k_datN (rd_dn hz19) (c_nilA (k_callD (pf_opened_by v_job v_sizes z19) fun pz21 z21 hz21=>c_pvd (c_kst (k_op2d sc_ix hz21 trivial rd_d trivial fun z22=>k_op1d sc_len rd_d trivial fun z23=>c_pvd (c_kst (k_op2d sc_eq rd_d trivial rd_d trivial fun z24=>k_bol (rd_dn rd_d) fun b25=>k_if2 (c_ret (c_varS rfl (k_retD rd_d fun v26 hv26=>q_lrt hv26 trivial))) (c_skip (q_lnx ⟨rfl,rfl,rfl,rfl,rfl,rfl,trivial⟩))))))))))))))))))))))))))))) (fun s16=>k_seq (c_ret (c_pvd (c_kst (k_retD rd_d fun v27 hv27=>q_ret hv27))))) (fun dhx28 thx28 _ vhx28 hx28 hthx28=>q_ret hx28)))))))))))))))))))))))))))))))) (rd_dn rd_d))))) (rd_dn rd_d)))))))))))))))))))))
def p__law_least_right (v_task_here v_sorts_so : D) : R D :=
  (p_place_needed v_task_here v_sorts_so).bind fun z1 =>
  (o1 (isiD [.int]) z1).bind fun z2 =>
  (truR z2).bind fun b3 =>
  ((if (!b3) = true then .ok true else (o1 (isiD [.bool]) z1).bind fun z5 =>
  (truR z5).bind fun b6 =>
  ((if b6 = true then .ok true else (o2 ltD z1 (.int (0))).bind fun z8 =>
  (boR z8).bind fun b9 =>
  .ok b9) : R (Bool)).bind fun b7 =>
  .ok b7) : R (Bool)).bind fun b4 =>
  if b4 = true then
  .ok (.bool false)
  else
  (p__law_lists 60 v_task_here).bind fun z11 =>
  (p__law_lists 60 v_sorts_so).bind fun z12 =>
  (p_place_needed z11 z12).bind fun z13 =>
  (o2 neD z13 z1).bind fun z14 =>
  (boR z14).bind fun b15 =>
  if b15 = true then
  .ok (.bool false)
  else
  (p_can_be_done_by v_task_here v_sorts_so).bind fun z17 =>
  (truR z17).bind fun b18 =>
  if b18 = true then
  (o2 eqD z1 (.int (0))).bind fun z19 =>
  .ok z19
  else
  (p__law_with v_task_here v_sorts_so z1).bind fun z21 =>
  (un2 z21).bind fun z22 =>
  (p_can_be_done_by z22.1 z22.2).bind fun z23 =>
  (truR z23).bind fun b24 =>
  if (!b24) = true then
  .ok (.bool false)
  else
  (o2 eqD z1 (.int (0))).bind fun z26 =>
  (boR z26).bind fun b27 =>
  if b27 = true then
  .ok (.bool true)
  else
  (o2 subD z1 (.int (1))).bind fun z29 =>
  (p__law_with v_task_here v_sorts_so z29).bind fun z30 =>
  (un2 z30).bind fun z31 =>
  (p_can_be_done_by z31.1 z31.2).bind fun z32 =>
  (truR z32).bind fun b33 =>
  .ok (.bool (!b33))
theorem pf__law_least_right (v_task_here v_sorts_so : D) : FR .d (m__law_least_right [.s v_task_here,.s v_sorts_so]) (p__law_least_right v_task_here v_sorts_so) :=
  fr_fn (Γ:=[.s v_task_here,.s v_sorts_so,.x,.x,.x]) ⟨rfl,rfl,trivial,trivial,trivial,trivial⟩ (c_seq (c_asg (c_callD (c_consA (c_datV rfl rfl rfl (c_consA (c_datV rfl rfl rfl (c_nilA (k_callDd (pf_place_needed v_task_here v_sorts_so) fun z1=>k_intoD rd_d rfl rfl (k_cv (Γ':=[.s v_task_here,.s v_sorts_so,.s z1,.x,.x]) rfl (k_seq (c_seq (c_ifS (c_orT (c_notT (c_tru (c_op1 (c_varS rfl (k_op1d sc_isi rd_d trivial fun z2=>k_tru rd_d trivial fun b3=>k_ifT (val:=fun b4 : Bool=>b4) (env:=fun b4 : Bool=>[.s v_task_here,.s v_sorts_so,.s z1,.x,.x]) (c_now (q_A ⟨rfl,rfl,rfl,rfl,rfl,trivial⟩)) (c_orT (c_tru (c_op1 (c_varS rfl (k_op1d sc_isi rd_d trivial fun z5=>k_tru rd_d trivial fun b6=>k_ifT (val:=fun b7 : Bool=>b7) (env:=fun b7 : Bool=>[.s v_task_here,.s v_sorts_so,.s z1,.x,.x]) (c_now (q_A ⟨rfl,rfl,rfl,rfl,rfl,trivial⟩)) (c_bol (c_op2 (c_varS rfl (c_pvd (c_kst (k_op2d sc_lt rd_d trivial rd_d trivial fun z8=>k_bol (rd_dn rd_d) fun b9=>q_A ⟨rfl,rfl,rfl,rfl,rfl,trivial⟩)))))) fun b7=>q_A ⟨rfl,rfl,rfl,rfl,rfl,trivial⟩))))) fun b4=>k_if2 (c_ret (c_pvd (c_kst (k_retD rd_d fun v10 hv10=>q_ret hv10)))) (c_skip (k_seq (c_seq (c_ifS (c_bol (c_op2 (c_callD (c_consA (c_dat (c_callD (c_consA (c_datV rfl rfl rfl (c_nilA (k_callD (pf__law_lists 60 v_task_here) fun pz11 z11 hz11=>k_datN hz11 (c_consA (c_dat (c_callD (c_consA (c_datV rfl rfl rfl (c_nilA (k_callD (pf__law_lists 60 v_sorts_so) fun pz12 z12 hz12=>k_datN hz12 (c_nilA (k_callDd (pf_place_needed z11 z12) fun z13=>c_varS rfl (k_op2d sc_ne rd_d trivial rd_d trivial fun z14=>k_bol (rd_dn rd_d) fun b15=>k_if2 (c_ret (c_pvd (c_kst (k_retD rd_d fun v16 hv16=>q_ret hv16)))) (c_skip (k_seq (c_seq (c_ifS (c_tru (c_callD (c_consA (c_datV rfl rfl rfl (c_consA (c_datV rfl rfl rfl (c_nilA (k_callDd (pf_can_be_done_by v_task_here v_sorts_so) fun z17=>k_tru rd_d trivial fun b18=>k_if2 (c_ret (c_op2 (c_varS rfl (c_pvd (c_kst (k_op2d sc_eq rd_d trivial rd_d trivial fun z19=>k_retD rd_d fun v20 hv20=>q_ret hv20)))))) (c_skip (k_seq (c_seq (c_asgT (c_dat (c_callD (c_consA (c_datV rfl rfl rfl (c_consA (c_datV rfl rfl rfl (c_consA (c_datV rfl rfl rfl (c_nilA (k_callDd (pf__law_with v_task_here v_sorts_so z1) fun z21=>k_datN (rd_dn rd_d) (c_tg2 fun z22=>c_consG (c_tgN rfl rfl (c_consG (c_tgN rfl rfl (c_nilG (k_seq (c_seq (c_ifS (c_notT (c_tru (c_callD (c_consA (c_datV rfl rfl rfl (c_consA (c_datV rfl rfl rfl (c_nilA (k_callDd (pf_can_be_done_by z22.1 z22.2) fun z23=>k_tru rd_d trivial fun b24=>k_if2 (c_ret (c_pvd (c_kst (k_retD rd_d fun v25 hv25=>q_ret hv25)))) (c_skip (k_seq (c_seq (c_ifS (c_bol (c_op2 (c_varS rfl (c_pvd (c_kst (k_op2d sc_eq rd_d trivial rd_d trivial fun z26=>k_bol (rd_dn rd_d) fun b27=>k_if2 (c_ret (c_pvd (c_kst (k_retD rd_d fun v28 hv28=>q_ret hv28)))) (c_skip (k_seq (c_seq (c_asgT (c_dat (c_callD (c_consA (c_datV rfl rfl rfl (c_consA (c_datV rfl rfl rfl (c_consA (c_dat (c_op2 (c_varS rfl (c_pvd (c_kst (k_op2d sc_iI rd_d trivial rd_d trivial fun z29=>k_datN (rd_dn rd_d) (c_nilA (k_callDd (pf__law_with v_task_here v_sorts_so z29) fun z30=>k_datN (rd_dn rd_d) (c_tg2 fun z31=>c_consG (c_tgN rfl rfl (c_consG (c_tgN rfl rfl (c_nilG (k_seq (c_ret (c_notX (c_callD (c_consA (c_datV rfl rfl rfl (c_consA (c_datV rfl rfl rfl (c_nilA (k_callDd (pf_can_be_done_by z31.1 z31.2) fun z32=>k_tru rd_d trivial fun b33=>k_retD rd_d fun v34 hv34=>q_ret hv34))))))))))))))))))))))))))))))))))))))))))))))))))))))))))))))))))))))))))))))))))))))))))))))))))))))))))))))))))))))))))))))))))
def p__law_same : Nat → D → D → R D
  | 0,_,_=>.bad
  | k + 1,v_got,v_due =>
  (o1 (isiD [.list,.tuple]) v_due).bind fun z1 =>
  (truR z1).bind fun b2 =>
  if b2 = true then
  (o1 (isiD [.list]) v_got).bind fun z3 =>
  (o1 (isiD [.list]) v_due).bind fun z4 =>
  (o2 neD z3 z4).bind fun z5 =>
  (boR z5).bind fun b6 =>
  ((if b6 = true then .ok true else (o1 (isiD [.tuple]) v_got).bind fun z8 =>
  (o1 (isiD [.tuple]) v_due).bind fun z9 =>
  (o2 neD z8 z9).bind fun z10 =>
  (boR z10).bind fun b11 =>
  .ok b11) : R (Bool)).bind fun b7 =>
  if b7 = true then
  .ok (.bool false)
  else
  (o1 lenD v_got).bind fun z13 =>
  (o1 lenD v_due).bind fun z14 =>
  (o2 eqD z13 z14).bind fun z15 =>
  (truR z15).bind fun b16 =>
  ((if b16 = true then (zipR v_got v_due).bind fun l18 =>
  (mapR (fun d19=>(un2 d19).bind fun z20 =>
  (p__law_same k z20.1 z20.2).bind fun z21 =>
  .ok z21) l18).bind fun l22 =>
  (o1 allD (.list l22)).bind fun z23 =>
  .ok z23 else .ok z15) : R (D)).bind fun z17 =>
  .ok z17
  else
  (o1 (isiD [.dict]) v_due).bind fun z25 =>
  (truR z25).bind fun b26 =>
  if b26 = true then
  (o1 (isiD [.dict]) v_got).bind fun z27 =>
  (truR z27).bind fun b28 =>
  ((if (!b28) = true then .ok true else (o1 sortD v_got).bind fun z30 =>
  (o1 sortD v_due).bind fun z31 =>
  (o2 neD z30 z31).bind fun z32 =>
  (boR z32).bind fun b33 =>
  .ok b33) : R (Bool)).bind fun b29 =>
  if b29 = true then
  .ok (.bool false)
  else
  (itR v_due).bind fun l35 =>
  (mapR (fun d36=>(o2 ixD v_got d36).bind fun z37 =>
  (o2 ixD v_due d36).bind fun z38 =>
  (p__law_same k z37 z38).bind fun z39 =>
  .ok z39) l35).bind fun l40 =>
  (o1 allD (.list l40)).bind fun z41 =>
  .ok z41
  else
  (o2 isND v_due (.none)).bind fun z43 =>
  (boR z43).bind fun b44 =>
  ((if b44 = true then .ok true else (o1 (isiD [.bool,.str]) v_due).bind fun z46 =>
  (truR z46).bind fun b47 =>
  .ok b47) : R (Bool)).bind fun b45 =>
  if b45 = true then
  (o2 eqD v_got v_due).bind fun z48 =>
  (truR z48).bind fun b49 =>
  ((if b49 = true then (o1 (isiD [.bool]) v_got).bind fun z51 =>
  (o1 (isiD [.bool]) v_due).bind fun z52 =>
  (o2 eqD z51 z52).bind fun z53 =>
  (truR z53).bind fun b54 =>
  ((if b54 = true then (o2 isND v_got (.none)).bind fun z56 =>
  (o2 isND v_due (.none)).bind fun z57 =>
  (o2 eqD z56 z57).bind fun z58 =>
  .ok z58 else .ok z53) : R (D)).bind fun z55 =>
  .ok z55 else .ok z48) : R (D)).bind fun z50 =>
  .ok z50
  else
  (o1 (isiD [.int]) v_got).bind fun z60 =>
  (truR z60).bind fun b61 =>
  ((if b61 = true then (o1 (isiD [.bool]) v_got).bind fun z63 =>
  (truR z63).bind fun b64 =>
  (truR (.bool (!b64))).bind fun b65 =>
  ((if b65 = true then (o2 eqD v_got v_due).bind fun z67 =>
  .ok z67 else .ok (.bool (!b64))) : R (D)).bind fun z66 =>
  .ok z66 else .ok z60) : R (D)).bind fun z62 =>
  .ok z62
theorem pf__law_same : ∀ (k : Nat) (v_got v_due : D),FR .d (m__law_same k [.s v_got,.s v_due]) (p__law_same k v_got v_due)
  | 0,_,_=>trivial
  | k + 1,v_got,v_due=>by
    have ih:=pf__law_same k
    exact fr_fn (Γ:=[.s v_got,.s v_due,.x,.x,.x]) ⟨rfl,rfl,trivial,trivial,trivial,trivial⟩ (c_seq (c_ifS (c_tru (c_op1 (c_varS rfl (k_op1d sc_isi rd_d trivial fun z1=>k_tru rd_d trivial fun b2=>k_if2 (c_seq (c_ifS (c_orT (c_bol (c_op2 (c_op1 (c_varS rfl (k_op1d sc_isi rd_d trivial fun z3=>c_op1 (c_varS rfl (k_op1d sc_isi rd_d trivial fun z4=>k_op2d sc_ne rd_d trivial rd_d trivial fun z5=>k_bol (rd_dn rd_d) fun b6=>k_ifT (val:=fun b7 : Bool=>b7) (env:=fun b7 : Bool=>[.s v_got,.s v_due,.x,.x,.x]) (c_now (q_A ⟨rfl,rfl,rfl,rfl,rfl,trivial⟩)) (c_bol (c_op2 (c_op1 (c_varS rfl (k_op1d sc_isi rd_d trivial fun z8=>c_op1 (c_varS rfl (k_op1d sc_isi rd_d trivial fun z9=>k_op2d sc_ne rd_d trivial rd_d trivial fun z10=>k_bol (rd_dn rd_d) fun b11=>q_A ⟨rfl,rfl,rfl,rfl,rfl,trivial⟩))))))) fun b7=>k_if2 (c_ret (c_pvd (c_kst (k_retD rd_d fun v12 hv12=>q_ret hv12)))) (c_skip (k_seq (c_ret (c_andX (c_op2 (c_op1 (c_varS rfl (k_op1d sc_len rd_d trivial fun z13=>c_op1 (c_varS rfl (k_op1d sc_len rd_d trivial fun z14=>k_op2d sc_eq rd_d trivial rd_d trivial fun z15=>k_look rd_d trivial fun b16=>k_ifX (w:=.d) (val:=fun z17 : D=>z17) (env:=fun z17 : D=>[.s v_got,.s v_due,.x,.x,.x]) (c_op1 (c_comp (c_zip (c_datV rfl rfl rfl (c_datV rfl rfl rfl (k_lift fun l18=>k_map [.s v_got,.s v_due,.x,.x,.x] [.s v_got,.s v_due,.x,.x,.x] rfl rfl rfl (fun d19=>c_tg2 fun z20=>c_consG (c_tgN rfl rfl (c_consG (c_tgN rfl rfl (c_nilG (k_el (c_dat (c_callD (c_consA (c_datV rfl rfl rfl (c_consA (c_datV rfl rfl rfl (c_nilA (k_callD (FR.n <| ih z20.1 z20.2) fun pz21 z21 hz21=>k_datN hz21 (q_A ⟨rfl,rfl,rfl,rfl,rfl,trivial⟩))))))))))))))) fun l22=>k_op1d sc_all rd_f trivial fun z23=>q_V rd_d ⟨rfl,rfl,rfl,rfl,rfl,trivial⟩ trivial)))))) (c_now (q_V rd_d ⟨rfl,rfl,rfl,rfl,rfl,trivial⟩ trivial)) fun z17 pz17 hz17=>k_retD hz17 fun v24 hv24=>q_ret hv24)))))))))))))))))))) (c_skip (k_seq (c_seq (c_ifS (c_tru (c_op1 (c_varS rfl (k_op1d sc_isi rd_d trivial fun z25=>k_tru rd_d trivial fun b26=>k_if2 (c_seq (c_ifS (c_orT (c_notT (c_tru (c_op1 (c_varS rfl (k_op1d sc_isi rd_d trivial fun z27=>k_tru rd_d trivial fun b28=>k_ifT (val:=fun b29 : Bool=>b29) (env:=fun b29 : Bool=>[.s v_got,.s v_due,.x,.x,.x]) (c_now (q_A ⟨rfl,rfl,rfl,rfl,rfl,trivial⟩)) (c_bol (c_op2 (c_op1 (c_varS rfl (k_op1f ow_sort rd_d trivial fun z30=>c_op1 (c_varS rfl (k_op1f ow_sort rd_d trivial fun z31=>k_op2d sc_ne rd_f trivial rd_f trivial fun z32=>k_bol (rd_dn rd_d) fun b33=>q_A ⟨rfl,rfl,rfl,rfl,rfl,trivial⟩))))))) fun b29=>k_if2 (c_ret (c_pvd (c_kst (k_retD rd_d fun v34 hv34=>q_ret hv34)))) (c_skip (k_seq (c_ret (c_op1 (c_comp (c_it (c_datV rfl rfl rfl (k_lift fun l35=>k_map [.s v_got,.s v_due,.x,.x,.x] [.s v_got,.s v_due,.x,.x,.x] rfl rfl rfl (fun d36=>c_tgN rfl rfl (k_el (c_dat (c_callD (c_consA (c_dat (c_op2 (c_varS rfl (c_varS rfl (k_op2d sc_ix rd_d trivial rd_d trivial fun z37=>k_datN (rd_dn rd_d) (c_consA (c_dat (c_op2 (c_varS rfl (c_varS rfl (k_op2d sc_ix rd_d trivial rd_d trivial fun z38=>k_datN (rd_dn rd_d) (c_nilA (k_callD (FR.n <| ih z37 z38) fun pz39 z39 hz39=>k_datN hz39 (q_A ⟨rfl,rfl,rfl,rfl,rfl,trivial⟩))))))))))))))))))) fun l40=>k_op1d sc_all rd_f trivial fun z41=>k_retD rd_d fun v42 hv42=>q_ret hv42)))))))))))))))) (c_skip (k_seq (c_seq (c_ifS (c_orT (c_bol (c_op2 (c_varS rfl (c_pvd (c_kst (k_op2d sc_isN rd_d trivial rd_d trivial fun z43=>k_bol (rd_dn rd_d) fun b44=>k_ifT (val:=fun b45 : Bool=>b45) (env:=fun b45 : Bool=>[.s v_got,.s v_due,.x,.x,.x]) (c_now (q_A ⟨rfl,rfl,rfl,rfl,rfl,trivial⟩)) (c_tru (c_op1 (c_varS rfl (k_op1d sc_isi rd_d trivial fun z46=>k_tru rd_d trivial fun b47=>q_A ⟨rfl,rfl,rfl,rfl,rfl,trivial⟩)))) fun b45=>k_if2 (c_ret (c_andX (c_op2 (c_varS rfl (c_varS rfl (k_op2d sc_eq rd_d trivial rd_d trivial fun z48=>k_look rd_d trivial fun b49=>k_ifX (w:=.d) (val:=fun z50 : D=>z50) (env:=fun z50 : D=>[.s v_got,.s v_due,.x,.x,.x]) (c_andX (c_op2 (c_op1 (c_varS rfl (k_op1d sc_isi rd_d trivial fun z51=>c_op1 (c_varS rfl (k_op1d sc_isi rd_d trivial fun z52=>k_op2d sc_eq rd_d trivial rd_d trivial fun z53=>k_look rd_d trivial fun b54=>k_ifX (w:=.d) (val:=fun z55 : D=>z55) (env:=fun z55 : D=>[.s v_got,.s v_due,.x,.x,.x]) (c_op2 (c_op2 (c_varS rfl (c_pvd (c_kst (k_op2d sc_isN rd_d trivial rd_d trivial fun z56=>c_op2 (c_varS rfl (c_pvd (c_kst (k_op2d sc_isN rd_d trivial rd_d trivial fun z57=>k_op2d sc_eq rd_d trivial rd_d trivial fun z58=>q_V rd_d ⟨rfl,rfl,rfl,rfl,rfl,trivial⟩ trivial)))))))))) (c_now (q_V rd_d ⟨rfl,rfl,rfl,rfl,rfl,trivial⟩ trivial)) fun z55 pz55 hz55=>q_V hz55 ⟨rfl,rfl,rfl,rfl,rfl,trivial⟩ trivial))))))) (c_now (q_V rd_d ⟨rfl,rfl,rfl,rfl,rfl,trivial⟩ trivial)) fun z50 pz50 hz50=>k_retD hz50 fun v59 hv59=>q_ret hv59)))))) (c_skip (k_seq (c_ret (c_andX (c_op1 (c_varS rfl (k_op1d sc_isi rd_d trivial fun z60=>k_look rd_d trivial fun b61=>k_ifX (w:=.d) (val:=fun z62 : D=>z62) (env:=fun z62 : D=>[.s v_got,.s v_due,.x,.x,.x]) (c_andX (c_notX (c_op1 (c_varS rfl (k_op1d sc_isi rd_d trivial fun z63=>k_tru rd_d trivial fun b64=>k_look rd_d trivial fun b65=>k_ifX (w:=.d) (val:=fun z66 : D=>z66) (env:=fun z66 : D=>[.s v_got,.s v_due,.x,.x,.x]) (c_op2 (c_varS rfl (c_varS rfl (k_op2d sc_eq rd_d trivial rd_d trivial fun z67=>q_V rd_d ⟨rfl,rfl,rfl,rfl,rfl,trivial⟩ trivial)))) (c_now (q_V rd_d ⟨rfl,rfl,rfl,rfl,rfl,trivial⟩ trivial)) fun z66 pz66 hz66=>q_V hz66 ⟨rfl,rfl,rfl,rfl,rfl,trivial⟩ trivial))))) (c_now (q_V rd_d ⟨rfl,rfl,rfl,rfl,rfl,trivial⟩ trivial)) fun z62 pz62 hz62=>k_retD hz62 fun v68 hv68=>q_ret hv68))))))))))))))))))))))))))))))))
def p__law_cells (v_script v_most : D) : R D :=
  (prtR v_most).bind fun i1 =>
  (o1 (fun d=>cutD d none (some i1)) v_script).bind fun z2 =>
  (o1 lstD z2).bind fun z3 =>
  (truR z3).bind fun b4 =>
  ((if b4 = true then .ok z3 else .ok (.list [(.int (0))])) : R (D)).bind fun z5 =>
  (prtR v_most).bind fun i6 =>
  (prtR (.int (63))).bind fun i7 =>
  (o1 (fun d=>cutD d (some i6) (some i7)) v_script).bind fun z8 =>
  (enumR z8).bind fun l9 =>
  (foldR (fun (s10 : D) d11=>(un2 d11).bind fun z13 =>
  (o1 intD z13.1).bind fun z14 =>
  (o2 modD z14 v_most).bind fun z15 =>
  (o2 ixD s10 z15).bind fun z16 =>
  (o2 addD z13.1 (.int (2))).bind fun z17 =>
  (o2 mulD z13.2 z17).bind fun z18 =>
  (o2 addD z16 z18).bind fun z19 =>
  (seR s10 z15 z19).bind fun z20 =>
  .ok z20) z5 l9).bind fun (s12 : D) =>
  .ok s12
theorem pf__law_cells (v_script v_most : D) : FR .f (m__law_cells [.s v_script,.s v_most]) (p__law_cells v_script v_most) :=
  fr_fn (Γ:=[.s v_script,.s v_most,.x,.x,.x,.x]) ⟨rfl,rfl,trivial,trivial,trivial,trivial,trivial⟩ (c_seq (c_asg (c_orX (c_op1 (c_slc (c_varS rfl (c_nopart (c_part (c_datV rfl rfl rfl (k_lift fun i1=>k_op1 rd_d trivial fun pz2 z2 hz2=>k_op1f ow_lst hz2 trivial fun z3=>k_look rd_f trivial fun b4=>k_ifX (w:=.f) (val:=fun z5 : D=>z5) (env:=fun z5 : D=>[.s v_script,.s v_most,.x,.x,.x,.x]) (c_now (q_V rd_f ⟨rfl,rfl,rfl,rfl,rfl,rfl,trivial⟩ trivial)) (c_lstM (c_consA (c_kst (c_nilA (q_V rd_f ⟨rfl,rfl,rfl,rfl,rfl,rfl,trivial⟩ trivial))))) fun z5 pz5 hz5=>k_intoF hz5 rfl rfl (k_cv (Γ':=[.s v_script,.s v_most,.o z5,.x,.x,.x]) rfl (k_seq (c_seq (c_for (c_enum (c_dat (c_slc (c_varS rfl (c_part (c_datV rfl rfl rfl (k_lift fun i6=>c_part (c_kst (k_lift fun i7=>k_op1 rd_d trivial fun pz8 z8 hz8=>k_datN hz8 (k_lift fun l9=>k_fold (fun s10 : D=>[.s v_script,.s v_most,.o s10,.x,.x,.x]) z5 ⟨rfl,rfl,rfl,rfl,rfl,rfl,trivial⟩ (fun s10 d11=>c_tg2 fun z13=>c_consG (c_tgN rfl rfl (c_consG (c_tgN rfl rfl (c_nilG (k_body (c_seq (c_asg (c_op2 (c_op1 (c_varS rfl (k_op1d sc_int rd_d trivial fun z14=>c_varS rfl (k_op2d sc_iI rd_d trivial rd_d trivial fun z15=>k_intoD rd_d rfl rfl (k_cv (Γ':=[.s v_script,.s v_most,.o s10,.s z13.1,.s z13.2,.s z15]) rfl (k_seq (c_set (c_dat (c_op2 (c_op2 (c_varO rfl (c_varS rfl (k_op2d sc_ix rd_r rfl rd_d trivial fun z16=>c_op2 (c_varS rfl (c_op2 (c_varS rfl (c_pvd (c_kst (k_op2 rd_d trivial rd_d trivial fun pz17 z17 hz17=>k_op2 rd_d trivial hz17 trivial fun pz18 z18 hz18=>k_op2 rd_d trivial hz18 trivial fun pz19 z19 hz19=>k_datN hz19 (k_set1 rfl (c_datV rfl rfl rfl (k_set2 rfl fun z20=>k_cv (Γ':=[.s v_script,.s v_most,.o z20,.s z13.1,.s z13.2,.s z15]) rfl (q_nnx ⟨rfl,rfl,rfl,rfl,rfl,rfl,trivial⟩)))))))))))))))))))))))))))))))) fun s12=>k_seq (c_ret (c_varO rfl (k_retO rfl rfl fun v21 hv21=>q_ret hv21)))))))))))))))))))))))))))
def p__law_take (v_tin v_top_so : D) : R (D × D) :=
  (o2 ixD v_tin (.int (0))).bind fun z1 =>
  (o2 gtD z1 (.int (0))).bind fun z2 =>
  (boR z2).bind fun b3 =>
  if b3 = true then
  (o2 ixD v_tin (.int (0))).bind fun z4 =>
  (o1 intD z4).bind fun z5 =>
  (o2 modD z5 v_top_so).bind fun z6 =>
  (o2 ixD v_tin (.int (0))).bind fun z7 =>
  (o2 fdivD z7 v_top_so).bind fun z8 =>
  (seR v_tin (.int (0)) z8).bind fun z9 =>
  .ok (z6,z9)
  else
  (o2 ixD v_tin (.int (2))).bind fun z11 =>
  (o2 addD z11 (.int (1))).bind fun z12 =>
  (seR v_tin (.int (2)) z12).bind fun z13 =>
  (o2 ixD z13 (.int (1))).bind fun z14 =>
  (o2 ixD z13 (.int (2))).bind fun z15 =>
  (o2 mulD (.int (48271)) z15).bind fun z16 =>
  (o2 addD z14 z16).bind fun z17 =>
  (o2 ixD z13 (.int (2))).bind fun z18 =>
  (o2 addD (.int (39373)) z18).bind fun z19 =>
  (o2 mulD z17 z19).bind fun z20 =>
  (o1 intD z20).bind fun z21 =>
  (o2 modD z21 (.int (2147483647))).bind fun z22 =>
  (o1 intD z22).bind fun z23 =>
  (o2 modD z23 (.int (40009))).bind fun z24 =>
  (o2 addD z24 (.int (7))).bind fun z25 =>
  (o2 ixD z13 (.int (2))).bind fun z26 =>
  (o2 addD z22 z26).bind fun z27 =>
  (o2 ixD z13 (.int (1))).bind fun z28 =>
  (o2 fdivD z28 (.int (1000003))).bind fun z29 =>
  (o2 addD z27 z29).bind fun z30 =>
  (o2 mulD z30 z25).bind fun z32 =>
  (o1 intD z32).bind fun z33 =>
  (o2 modD z33 (.int (2147483629))).bind fun z34 =>
  (o2 mulD z34 (.int (48271))).bind fun z35 =>
  (o2 addD z35 z22).bind fun z36 =>
  (o1 intD z36).bind fun z37 =>
  (o2 modD z37 (.int (2147483587))).bind fun z38 =>
  (o2 fdivD z38 (.int (64))).bind fun z39 =>
  (o1 intD z39).bind fun z40 =>
  (o2 modD z40 v_top_so).bind fun z41 =>
  .ok (z41,z13)
theorem pf__law_take (v_tin v_top_so : D) : FT .d (m__law_take [.o true v_tin,.s v_top_so]) (p__law_take v_tin v_top_so) :=
  ft_fn (Γ:=[.t v_tin,.s v_top_so,.x,.x,.x,.x]) ⟨⟨rfl,rfl⟩,rfl,trivial,trivial,trivial,trivial,trivial⟩ (c_seq (c_ifS (c_bol (c_op2 (c_op2 (c_varO rfl (c_pvd (c_kst (k_op2d sc_ix rd_r rfl rd_d trivial fun z1=>c_pvd (c_kst (k_op2d sc_iI rd_d trivial rd_d trivial fun z2=>k_bol (rd_dn rd_d) fun b3=>k_if2 (c_seq (c_asg (c_op2 (c_op1 (c_op2 (c_varO rfl (c_pvd (c_kst (k_op2d sc_ix rd_r rfl rd_d trivial fun z4=>k_op1d sc_int rd_d trivial fun z5=>c_varS rfl (k_op2d sc_iI rd_d trivial rd_d trivial fun z6=>k_intoD rd_d rfl rfl (k_cv (Γ':=[.t v_tin,.s v_top_so,.s z6,.x,.x,.x]) rfl (k_seq (c_seq (c_set (c_dat (c_op2 (c_op2 (c_varO rfl (c_pvd (c_kst (k_op2d sc_ix rd_r rfl rd_d trivial fun z7=>c_varS rfl (k_op2d sc_iI rd_d trivial rd_d trivial fun z8=>k_datN (rd_dn rd_d) (k_set1 rfl (c_dat (c_pvd (c_kst (k_datN (rd_dn rd_d) (k_set2 rfl fun z9=>k_cv (Γ':=[.t z9,.s v_top_so,.s z6,.x,.x,.x]) rfl (k_seq (c_ret (c_varS rfl (k_retD rd_d fun v10 hv10=>q_retT hv10 rfl)))))))))))))))))))))))))))))))) (c_skip (k_seq (c_seq (c_set (c_dat (c_op2 (c_op2 (c_varO rfl (c_pvd (c_kst (k_op2d sc_ix rd_r rfl rd_d trivial fun z11=>c_pvd (c_kst (k_op2 rd_d trivial rd_d trivial fun pz12 z12 hz12=>k_datN hz12 (k_set1 rfl (c_dat (c_pvd (c_kst (k_datN (rd_dn rd_d) (k_set2 rfl fun z13=>k_cv (Γ':=[.t z13,.s v_top_so,.x,.x,.x,.x]) rfl (k_seq (c_seq (c_asg (c_op2 (c_op1 (c_op2 (c_op2 (c_op2 (c_varO rfl (c_pvd (c_kst (k_op2d sc_ix rd_r rfl rd_d trivial fun z14=>c_op2 (c_pvd (c_kst (c_op2 (c_varO rfl (c_pvd (c_kst (k_op2d sc_ix rd_r rfl rd_d trivial fun z15=>k_op2 rd_d trivial rd_d trivial fun pz16 z16 hz16=>k_op2 rd_d trivial hz16 trivial fun pz17 z17 hz17=>c_op2 (c_pvd (c_kst (c_op2 (c_varO rfl (c_pvd (c_kst (k_op2d sc_ix rd_r rfl rd_d trivial fun z18=>k_op2 rd_d trivial rd_d trivial fun pz19 z19 hz19=>k_op2 hz17 trivial hz19 trivial fun pz20 z20 hz20=>k_op1d sc_int hz20 trivial fun z21=>c_pvd (c_kst (k_op2d sc_iI rd_d trivial rd_d trivial fun z22=>k_intoD rd_d rfl rfl (k_cv (Γ':=[.t z13,.s v_top_so,.x,.s z22,.x,.x]) rfl (k_seq (c_seq (c_asg (c_op2 (c_op2 (c_op1 (c_varS rfl (k_op1d sc_int rd_d trivial fun z23=>c_pvd (c_kst (k_op2d sc_iI rd_d trivial rd_d trivial fun z24=>c_pvd (c_kst (k_op2 rd_d trivial rd_d trivial fun pz25 z25 hz25=>k_intoN hz25 rfl rfl (k_cv (Γ':=[.t z13,.s v_top_so,.x,.s z22,.a z25,.x]) rfl (k_seq (c_seq (c_asg (c_op2 (c_op1 (c_op2 (c_op2 (c_op2 (c_varS rfl (c_op2 (c_varO rfl (c_pvd (c_kst (k_op2d sc_ix rd_r rfl rd_d trivial fun z26=>k_op2 rd_d trivial rd_d trivial fun pz27 z27 hz27=>c_op2 (c_op2 (c_varO rfl (c_pvd (c_kst (k_op2d sc_ix rd_r rfl rd_d trivial fun z28=>c_pvd (c_kst (k_op2d sc_iI rd_d trivial rd_d trivial fun z29=>k_op2 hz27 trivial rd_d trivial fun pz30 z30 hz30=>c_var rfl fun p31 hp31=>k_op2 hz30 trivial hp31 rfl fun pz32 z32 hz32=>k_op1d sc_int hz32 trivial fun z33=>c_pvd (c_kst (k_op2d sc_iI rd_d trivial rd_d trivial fun z34=>k_intoD rd_d rfl rfl (k_cv (Γ':=[.t z13,.s v_top_so,.x,.s z22,.a z25,.s z34]) rfl (k_seq (c_ret (c_op2 (c_op1 (c_op2 (c_op2 (c_op1 (c_op2 (c_op2 (c_varS rfl (c_pvd (c_kst (k_op2 rd_d trivial rd_d trivial fun pz35 z35 hz35=>c_varS rfl (k_op2 hz35 trivial rd_d trivial fun pz36 z36 hz36=>k_op1d sc_int hz36 trivial fun z37=>c_pvd (c_kst (k_op2d sc_iI rd_d trivial rd_d trivial fun z38=>c_pvd (c_kst (k_op2d sc_iI rd_d trivial rd_d trivial fun z39=>k_op1d sc_int rd_d trivial fun z40=>c_varS rfl (k_op2d sc_iI rd_d trivial rd_d trivial fun z41=>k_retD rd_d fun v42 hv42=>q_retT hv42 rfl)))))))))))))))))))))))))))))))))))))))))))))))))))))))))))))))))))))))))))))))))))))))))))))))))))))))))))))))))))
def p__law_of (v_tin v_some : D) : R (D × D) :=
  (o1 lenD v_some).bind fun z1 =>
  (p__law_take v_tin z1).bnx fun z2 =>
  (o2 ixD v_some z2.1).bind fun z3 =>
  .ok (z3,z2.2)
theorem pf__law_of (v_tin v_some : D) : FT .d (m__law_of [.o true v_tin,.s v_some]) (p__law_of v_tin v_some) :=
  ft_fn (Γ:=[.t v_tin,.s v_some]) ⟨⟨rfl,rfl⟩,rfl,trivial⟩ (c_ret (c_op2 (c_varS rfl (c_callR (c_varO rfl (c_consA (c_dat (c_op1 (c_varS rfl (k_op1d sc_len rd_d trivial fun z1=>k_datN (rd_dn rd_d) (c_nilA (k_callRd rfl (pf__law_take v_tin z1) fun z2=>k_cv (Γ':=[.t z2.2,.s v_some]) rfl (k_op2d sc_ix rd_d trivial rd_d trivial fun z3=>k_retD rd_d fun v4 hv4=>q_retT hv4 rfl)))))))))))))
def p__law_sorts (v_tin v_task_here v_most : D) : R (D × D) :=
  (o2 ixD v_task_here (.int (1))).bind fun z1 =>
  (itR z1).bind fun l2 =>
  (mapS (fun (s4 : D) d3=>(un2 d3).bind fun z5 =>
  (o2 addD v_most (.int (1))).bind fun z6 =>
  (p__law_take s4 z6).bnx fun z7 =>
  .ok ((.tuple [z5.1,z7.1]),z7.2)) v_tin l2).bind fun z8 =>
  (o1 dictD (.list z8.1)).bind fun z9 =>
  (o2 ixD v_task_here (.int (0))).bind fun z10 =>
  (itR z10).bind fun l11 =>
  (foldR (fun (s12 : D × D) d13=>(o2 ixD v_task_here (.int (1))).bind fun z15 =>
  (itR z15).bind fun l16 =>
  (fcR (fun d17=>(un2 d17).bind fun z18 =>
  (o2 inE d13 (.tuple [z18.1,z18.2])).bind fun z19 =>
  (boR z19).bind fun b20 =>
  if b20 = true then (o2 ixD z9 z18.1).bind fun z21 =>
  .ok (some z21) else .ok none) l16).bind fun l22 =>
  (o2 addD (.list l22) (.list [(.int (0))])).bind fun z23 =>
  (o1 max1D z23).bind fun z24 =>
  (p__law_of s12.1 (.list [(.int (0)),(.int (0)),(.int (0)),(.int (1)),v_most])).bnx fun z25 =>
  (o2 addD z24 z25.1).bind fun z26 =>
  (seR s12.2 d13 z26).bind fun z27 =>
  .ok (z25.2,z27)) (z8.2,(.dict [])) l11).bind fun (s14 : D × D) =>
  (o1 sortI s14.2).bind fun z28 =>
  (o1 tupD z28).bind fun z29 =>
  (o1 sortI z9).bind fun z30 =>
  (o1 tupD z30).bind fun z31 =>
  .ok ((.tuple [z29,z31]),s14.1)
theorem pf__law_sorts (v_tin v_task_here v_most : D) : FT .d (m__law_sorts [.o true v_tin,.s v_task_here,.s v_most]) (p__law_sorts v_tin v_task_here v_most) :=
  ft_fn (Γ:=[.t v_tin,.s v_task_here,.s v_most,.x,.x,.x,.x,.x,.x]) ⟨⟨rfl,rfl⟩,rfl,rfl,trivial,trivial,trivial,trivial,trivial,trivial,trivial⟩ (c_seq (c_asg (c_op1 (c_comp (c_it (c_dat (c_op2 (c_varS rfl (c_pvd (c_kst (k_op2d sc_ix rd_d trivial rd_d trivial fun z1=>k_datN (rd_dn rd_d) (k_lift fun l2=>k_mapS (fun s4 : D=>[.t s4,.s v_task_here,.s v_most,.x,.x,.x,.x,.x,.x]) v_tin (fun s4 : D=>[.t s4,.s v_task_here,.s v_most,.x,.x,.x,.x,.x,.x]) rfl (fun _=>rfl) (fun _=>rfl) (fun s4 d3=>c_tg2 fun z5=>c_consG (c_tgN rfl rfl (c_consG (c_tgN rfl rfl (c_nilG (k_el (c_dat (c_tupM (c_consA (c_datV rfl rfl rfl (c_consA (c_dat (c_callR (c_varO rfl (c_consA (c_dat (c_op2 (c_varS rfl (c_pvd (c_kst (k_op2 rd_d trivial rd_d trivial fun pz6 z6 hz6=>k_datN hz6 (c_nilA (k_callRd rfl (pf__law_take s4 z6) fun z7=>k_cv (Γ':=[.t z7.2,.s v_task_here,.s v_most,.s z5.1,.x,.x,.x,.s z5.2,.x]) rfl (k_datN (rd_dn rd_d) (c_nilA (k_datN (rd_dn rd_d) (q_A ⟨rfl,rfl,rfl,rfl,rfl,rfl,rfl,rfl,rfl,trivial⟩))))))))))))))))))))))))))) fun z8=>k_op1f ow_dict rd_f trivial fun z9=>k_intoF rd_f rfl rfl (k_cv (Γ':=[.t z8.2,.s v_task_here,.s v_most,.x,.o z9,.x,.x,.x,.x]) rfl (k_seq (c_seq (c_asg (c_newD (k_intoF rd_f rfl rfl (k_cv (Γ':=[.t z8.2,.s v_task_here,.s v_most,.x,.o z9,.o ((.dict [])),.x,.x,.x]) rfl (k_seq (c_seq (c_for (c_it (c_dat (c_op2 (c_varS rfl (c_pvd (c_kst (k_op2d sc_ix rd_d trivial rd_d trivial fun z10=>k_datN (rd_dn rd_d) (k_lift fun l11=>k_fold (fun s12 : D × D=>[.t s12.1,.s v_task_here,.s v_most,.x,.o z9,.o s12.2,.x,.x,.x]) (z8.2,(.dict [])) ⟨rfl,rfl,rfl,rfl,rfl,rfl,rfl,rfl,rfl,trivial⟩ (fun s12 d13=>c_tgN rfl rfl (k_body (c_seq (c_asg (c_comp (c_it (c_dat (c_op2 (c_varS rfl (c_pvd (c_kst (k_op2d sc_ix rd_d trivial rd_d trivial fun z15=>k_datN (rd_dn rd_d) (k_lift fun l16=>k_fc [.t s12.1,.s v_task_here,.s v_most,.s d13,.o z9,.o s12.2,.x,.x,.x] [.t s12.1,.s v_task_here,.s v_most,.s d13,.o z9,.o s12.2,.x,.x,.x] rfl rfl rfl (fun d17=>c_tg2 fun z18=>c_consG (c_tgN rfl rfl (c_consG (c_tgN rfl rfl (c_nilG (k_el (c_elF (c_bol (c_op2 (c_varS rfl (c_tupM (c_consA (c_datV rfl rfl rfl (c_consA (c_datV rfl rfl rfl (c_nilA (k_op2d sc_inE rd_d trivial rd_d trivial fun z19=>k_bol (rd_dn rd_d) fun b20=>k_elF (c_dat (c_op2 (c_varO rfl (c_varS rfl (k_op2d sc_ix rd_r rfl rd_d trivial fun z21=>k_datN (rd_dn rd_d) (q_A ⟨rfl,rfl,rfl,rfl,rfl,rfl,rfl,rfl,rfl,trivial⟩)))))) (q_A ⟨rfl,rfl,rfl,rfl,rfl,rfl,rfl,rfl,rfl,trivial⟩)))))))))))))))))) fun l22=>k_intoF rd_f rfl rfl (k_cv (Γ':=[.t s12.1,.s v_task_here,.s v_most,.s d13,.o z9,.o s12.2,.o ((.list l22)),.x,.x]) rfl (k_seq (c_set (c_dat (c_op2 (c_op1 (c_op2 (c_varO rfl (c_lstM (c_consA (c_kst (c_nilA (k_op2f ow_addL rd_r rfl rd_f trivial fun z23=>k_op1d sc_max1 rd_f trivial fun z24=>c_callR (c_varO rfl (c_consA (c_dat (c_lstM (c_consA (c_kst (c_consA (c_kst (c_consA (c_kst (c_consA (c_kst (c_consA (c_datV rfl rfl rfl (c_nilA (k_datN (rd_fn rd_f) (c_nilA (k_callRd rfl (pf__law_of s12.1 (.list [(.int (0)),(.int (0)),(.int (0)),(.int (1)),v_most])) fun z25=>k_cv (Γ':=[.t z25.2,.s v_task_here,.s v_most,.s d13,.o z9,.o s12.2,.o ((.list l22)),.x,.x]) rfl (k_op2 rd_d trivial rd_d trivial fun pz26 z26 hz26=>k_datN hz26 (k_set1 rfl (c_datV rfl rfl rfl (k_set2 rfl fun z27=>k_cv (Γ':=[.t z25.2,.s v_task_here,.s v_most,.s d13,.o z9,.o z27,.o ((.list l22)),.x,.x]) rfl (q_nnx ⟨rfl,rfl,rfl,rfl,rfl,rfl,rfl,rfl,rfl,trivial⟩))))))))))))))))))))))))))))))))))))))))))))))))) fun s14=>k_seq (c_ret (c_tupM (c_consA (c_dat (c_op1 (c_op1 (c_varO rfl (k_op1f ow_sortI rd_r rfl fun z28=>k_op1d sc_tup rd_f trivial fun z29=>k_datN (rd_dn rd_d) (c_consA (c_dat (c_op1 (c_op1 (c_varO rfl (k_op1f ow_sortI rd_r rfl fun z30=>k_op1d sc_tup rd_f trivial fun z31=>k_datN (rd_dn rd_d) (c_nilA (k_retD rd_d fun v32 hv32=>q_retT hv32 rfl))))))))))))))))))))))))))))))))))))))))))))))
def p__law_pick (v_tin v_pool v_size_so : D) : R (D × D) :=
  (o1 lstD v_pool).bind fun z1 =>
  (o1 lenD z1).bind fun z2 =>
  (o2 min2D v_size_so z2).bind fun z3 =>
  (rngR z3).bind fun l4 =>
  (foldR (fun (s5 : D × D × D) d6=>(lsR s5.2.2).bind fun l8 =>
  (lsR s5.2.1).bind fun l10 =>
  (o1 lenD s5.2.1).bind fun z12 =>
  (p__law_take s5.1 z12).bnx fun z13 =>
  (poR l10 z13.1).bind fun z11 =>
  (apR l8 z11.1).bind fun z9 =>
  .ok (z13.2,z11.2,z9)) (v_tin,z1,(.list [])) l4).bind fun (s7 : D × D × D) =>
  .ok (s7.2.2,s7.1)
theorem pf__law_pick (v_tin v_pool v_size_so : D) : FT .f (m__law_pick [.o true v_tin,.s v_pool,.s v_size_so]) (p__law_pick v_tin v_pool v_size_so) :=
  ft_fn (Γ:=[.t v_tin,.s v_pool,.s v_size_so,.x,.x,.x]) ⟨⟨rfl,rfl⟩,rfl,rfl,trivial,trivial,trivial,trivial⟩ (c_seq (c_par2 (c_op1 (c_varS rfl (k_op1f ow_lst rd_d trivial fun z1=>c_lstM (c_nilA (k_intoU (k_intoF rd_f rfl rfl (k_cv (Γ':=[.t v_tin,.s v_pool,.s v_size_so,.o z1,.x,.x]) rfl (k_intoF rd_f rfl rfl (k_cv (Γ':=[.t v_tin,.s v_pool,.s v_size_so,.o z1,.o ((.list [])),.x]) rfl (k_seq (c_seq (c_for (c_rng1 (c_dat (c_op2 (c_varS rfl (c_op1 (c_varO rfl (k_op1d sc_len rd_r rfl fun z2=>k_op2d sc_min rd_d trivial rd_d trivial fun z3=>k_datN (rd_dn rd_d) (k_lift fun l4=>k_fold (fun s5 : D × D × D=>[.t s5.1,.s v_pool,.s v_size_so,.o s5.2.1,.o s5.2.2,.x]) (v_tin,z1,(.list [])) ⟨rfl,rfl,rfl,rfl,rfl,rfl,trivial⟩ (fun s5 d6=>c_tgN rfl rfl (k_body (c_drop (c_app rfl fun l8 hl8=>c_dat (c_pop rfl fun l10 hl10=>c_dat (c_callR (c_varO rfl (c_consA (c_dat (c_op1 (c_varO rfl (k_op1d sc_len rd_r rfl fun z12=>k_datN (rd_dn rd_d) (c_nilA (k_callRd rfl (pf__law_take s5.1 z12) fun z13=>k_cv (Γ':=[.t z13.2,.s v_pool,.s v_size_so,.o s5.2.1,.o s5.2.2,.s d6]) rfl (k_datN (rd_dn rd_d) (k_pop hl10 rfl fun z11=>k_cv (Γ':=[.t z13.2,.s v_pool,.s v_size_so,.o z11.2,.o s5.2.2,.s d6]) rfl (k_datN (rd_dn rd_d) (k_app hl8 rfl fun z9=>k_cv (Γ':=[.t z13.2,.s v_pool,.s v_size_so,.o z11.2,.o z9,.s d6]) rfl (q_nnx ⟨rfl,rfl,rfl,rfl,rfl,rfl,trivial⟩))))))))))))))))))) fun s7=>k_seq (c_ret (c_varO rfl (k_retO rfl rfl fun v14 hv14=>q_retT hv14 rfl)))))))))))))))))) (rd_fn rd_f))))))))
def p__law_task (v_tin v_many v_full : D) : R (D × D) :=
  (itR (.str "abcdefghijklmnopqrstuvwxyz")).bind fun l1 =>
  (mapR (fun d2=>(o2 addD (.str "p") d2).bind fun z3 =>
  .ok z3) l1).bind fun l4 =>
  (itR (.str "abcdefghijklmn")).bind fun l5 =>
  (mapR (fun d6=>(o2 addD (.str "q") d6).bind fun z7 =>
  .ok z7) l5).bind fun l8 =>
  (o2 addD (.list l4) (.list l8)).bind fun z9 =>
  (p__law_take v_tin v_many).bnx fun z10 =>
  (o2 addD (.int (1)) z10.1).bind fun z11 =>
  (prtR z11).bind fun i12 =>
  (o1 (fun d=>cutD d none (some i12)) z9).bind fun z13 =>
  (o1 lenD z13).bind fun z14 =>
  (o2 addD v_full (.int (1))).bind fun z15 =>
  (p__law_take z10.2 z15).bnx fun z16 =>
  (o2 min2D z14 z16.1).bind fun z17 =>
  (p__law_pick z16.2 z13 z17).bnx fun z18 =>
  (o1 sortD z18.1).bind fun z19 =>
  (o1 lenD z19).bind fun z20 =>
  (p__law_pick z18.2 z13 z20).bnx fun z21 =>
  (p__law_take z21.2 (.int (3))).bnx fun z22 =>
  (o2 eqD z22.1 (.int (0))).bind fun z23 =>
  (boR z23).bind fun b24 =>
  ((if b24 = true then (o1 lenD z19).bind fun z26 =>
  (o2 gtD z26 (.int (1))).bind fun z27 =>
  (boR z27).bind fun b28 =>
  .ok b28 else .ok false) : R (Bool)).bind fun b25 =>
  ((if b25 = true then (o1 lenD z19).bind fun z30 =>
  (p__law_pick z22.2 z19 z30).bnx fun z31 =>
  .ok (z31.2,z31.1) else .ok (z22.2,z21.1)) : R (D × D)).bind fun (s29 : D × D) =>
  (o1 lenD z19).bind fun z33 =>
  (rngR z33).bind fun l34 =>
  (mapS (fun (s36 : D) d35=>(o2 ixD z19 d35).bind fun z38 =>
  (p__law_take s36 (.int (8))).bnx fun z39 =>
  (o2 gtD z39.1 (.int (0))).bind fun z40 =>
  (boR z40).bind fun b41 =>
  ((if b41 = true then (o2 ixD s29.2 d35).bind fun z43 =>
  .ok z43 else .ok (.none)) : R (D)).bind fun z42 =>
  .ok ((.tuple [z38,z42]),z39.2)) s29.1 l34).bind fun z44 =>
  (o1 tupD z13).bind fun z45 =>
  (o1 tupD (.list z44.1)).bind fun z46 =>
  .ok ((.tuple [z45,z46]),z44.2)
theorem pf__law_task (v_tin v_many v_full : D) : FT .d (m__law_task [.o true v_tin,.s v_many,.s v_full]) (p__law_task v_tin v_many v_full) :=
  ft_fn (Γ:=[.t v_tin,.s v_many,.s v_full,.x,.x,.x,.x,.x,.x,.x,.x]) ⟨⟨rfl,rfl⟩,rfl,rfl,trivial,trivial,trivial,trivial,trivial,trivial,trivial,trivial,trivial⟩ (c_seq (c_asg (c_comp (c_it (c_kst (k_lift fun l1=>k_map [.t v_tin,.s v_many,.s v_full,.x,.x,.x,.x,.x,.x,.x,.x] [.t v_tin,.s v_many,.s v_full,.x,.x,.x,.x,.x,.x,.x,.x] rfl rfl rfl (fun d2=>c_tgN rfl rfl (k_el (c_dat (c_op2 (c_pvd (c_kst (c_varS rfl (k_op2 rd_d trivial rd_d trivial fun pz3 z3 hz3=>k_datN hz3 (q_A ⟨rfl,rfl,rfl,rfl,rfl,rfl,rfl,rfl,rfl,rfl,rfl,trivial⟩))))))))) fun l4=>k_intoF rd_f rfl rfl (k_cv (Γ':=[.t v_tin,.s v_many,.s v_full,.o ((.list l4)),.x,.x,.x,.x,.x,.x,.x]) rfl (k_seq (c_seq (c_asg (c_op2 (c_varO rfl (c_comp (c_it (c_kst (k_lift fun l5=>k_map [.t v_tin,.s v_many,.s v_full,.o ((.list l4)),.x,.x,.x,.x,.x,.x,.x] [.t v_tin,.s v_many,.s v_full,.o ((.list l4)),.x,.x,.x,.x,.x,.x,.x] rfl rfl rfl (fun d6=>c_tgN rfl rfl (k_el (c_dat (c_op2 (c_pvd (c_kst (c_varS rfl (k_op2 rd_d trivial rd_d trivial fun pz7 z7 hz7=>k_datN hz7 (q_A ⟨rfl,rfl,rfl,rfl,rfl,rfl,rfl,rfl,rfl,rfl,rfl,trivial⟩))))))))) fun l8=>k_op2f ow_addL rd_r rfl rd_f trivial fun z9=>k_intoF rd_f rfl rfl (k_cv (Γ':=[.t v_tin,.s v_many,.s v_full,.o z9,.x,.x,.x,.x,.x,.x,.x]) rfl (k_seq (c_seq (c_asg (c_slc (c_varO rfl (c_nopart (c_part (c_dat (c_op2 (c_pvd (c_kst (c_callR (c_varO rfl (c_consA (c_datV rfl rfl rfl (c_nilA (k_callRd rfl (pf__law_take v_tin v_many) fun z10=>k_cv (Γ':=[.t z10.2,.s v_many,.s v_full,.o z9,.x,.x,.x,.x,.x,.x,.x]) rfl (k_op2 rd_d trivial rd_d trivial fun pz11 z11 hz11=>k_datN hz11 (k_lift fun i12=>k_op1 rd_r rfl fun pz13 z13 hz13=>k_intoN hz13 rfl rfl (k_cv (Γ':=[.t z10.2,.s v_many,.s v_full,.o z9,.a z13,.x,.x,.x,.x,.x,.x]) rfl (k_seq (c_seq (c_asg (c_op1 (c_callR (c_varO rfl (c_consA (c_datV rfl rfl rfl (c_consA (c_dat (c_op2 (c_op1 (c_varS rfl (k_op1d sc_len rd_d trivial fun z14=>c_callR (c_varO rfl (c_consA (c_dat (c_op2 (c_varS rfl (c_pvd (c_kst (k_op2 rd_d trivial rd_d trivial fun pz15 z15 hz15=>k_datN hz15 (c_nilA (k_callRd rfl (pf__law_take z10.2 z15) fun z16=>k_cv (Γ':=[.t z16.2,.s v_many,.s v_full,.o z9,.s z13,.x,.x,.x,.x,.x,.x]) rfl (k_op2d sc_min rd_d trivial rd_d trivial fun z17=>k_datN (rd_dn rd_d) (c_nilA (k_callRf rfl (pf__law_pick z16.2 z13 z17) fun z18=>k_cv (Γ':=[.t z18.2,.s v_many,.s v_full,.o z9,.s z13,.x,.x,.x,.x,.x,.x]) rfl (k_op1f ow_sort rd_f trivial fun z19=>k_intoF rd_f rfl rfl (k_cv (Γ':=[.t z18.2,.s v_many,.s v_full,.o z9,.s z13,.o z19,.x,.x,.x,.x,.x]) rfl (k_seq (c_seq (c_asg (c_callR (c_varO rfl (c_consA (c_datV rfl rfl rfl (c_consA (c_dat (c_op1 (c_varO rfl (k_op1d sc_len rd_r rfl fun z20=>k_datN (rd_dn rd_d) (c_nilA (k_callRf rfl (pf__law_pick z18.2 z13 z20) fun z21=>k_cv (Γ':=[.t z21.2,.s v_many,.s v_full,.o z9,.s z13,.o z19,.x,.x,.x,.x,.x]) rfl (k_intoF rd_f rfl rfl (k_cv (Γ':=[.t z21.2,.s v_many,.s v_full,.o z9,.s z13,.o z19,.o z21.1,.x,.x,.x,.x]) rfl (k_seq (c_seq (c_asg (c_callR (c_varO rfl (c_consA (c_kst (c_nilA (k_callRd rfl (pf__law_take z21.2 (.int (3))) fun z22=>k_cv (Γ':=[.t z22.2,.s v_many,.s v_full,.o z9,.s z13,.o z19,.o z21.1,.x,.x,.x,.x]) rfl (k_intoD rd_d rfl rfl (k_cv (Γ':=[.t z22.2,.s v_many,.s v_full,.o z9,.s z13,.o z19,.o z21.1,.s z22.1,.x,.x,.x]) rfl (k_seq (c_seq (c_ifS (c_andT (c_bol (c_op2 (c_varS rfl (c_pvd (c_kst (k_op2d sc_eq rd_d trivial rd_d trivial fun z23=>k_bol (rd_dn rd_d) fun b24=>k_ifT (val:=fun b25 : Bool=>b25) (env:=fun b25 : Bool=>[.t z22.2,.s v_many,.s v_full,.o z9,.s z13,.o z19,.o z21.1,.s z22.1,.x,.x,.x]) (c_bol (c_op2 (c_op1 (c_varO rfl (k_op1d sc_len rd_r rfl fun z26=>c_pvd (c_kst (k_op2d sc_iI rd_d trivial rd_d trivial fun z27=>k_bol (rd_dn rd_d) fun b28=>q_A ⟨rfl,rfl,rfl,rfl,rfl,rfl,rfl,rfl,rfl,rfl,rfl,trivial⟩))))))) (c_now (q_A ⟨rfl,rfl,rfl,rfl,rfl,rfl,rfl,rfl,rfl,rfl,rfl,trivial⟩)) fun b25=>k_join (env:=fun s29 : D × D=>[.t s29.1,.s v_many,.s v_full,.o z9,.s z13,.a z19,.o s29.2,.s z22.1,.x,.x,.x]) (c_asg (c_callR (c_varO rfl (c_consA (c_datV rfl rfl rfl (c_consA (c_dat (c_op1 (c_varS rfl (k_op1d sc_len rd_d trivial fun z30=>k_datN (rd_dn rd_d) (c_nilA (k_callRf rfl (pf__law_pick z22.2 z19 z30) fun z31=>k_cv (Γ':=[.t z31.2,.s v_many,.s v_full,.o z9,.s z13,.s z19,.o z21.1,.s z22.1,.x,.x,.x]) rfl (k_intoF rd_f rfl rfl (k_cv (Γ':=[.t z31.2,.s v_many,.s v_full,.o z9,.s z13,.s z19,.o z31.1,.s z22.1,.x,.x,.x]) rfl (q_A ⟨rfl,rfl,rfl,rfl,rfl,rfl,rfl,rfl,rfl,rfl,rfl,trivial⟩))))))))))))))) (c_skip (q_A ⟨rfl,rfl,rfl,rfl,rfl,rfl,rfl,rfl,rfl,rfl,rfl,trivial⟩)) fun s29=>k_seq (c_seq (c_asg (c_comp (c_rng1 (c_dat (c_op1 (c_var rfl fun p32 hp32=>k_op1d sc_len hp32 rfl fun z33=>k_datN (rd_dn rd_d) (k_lift fun l34=>k_mapS (fun s36 : D=>[.t s36,.s v_many,.s v_full,.o z9,.s z13,.a z19,.o s29.2,.s z22.1,.x,.x,.x]) s29.1 (fun s36 : D=>[.t s36,.s v_many,.s v_full,.o z9,.s z13,.a z19,.o s29.2,.s z22.1,.x,.x,.x]) rfl (fun _=>rfl) (fun _=>rfl) (fun s36 d35=>c_tgN rfl rfl (k_el (c_dat (c_tupM (c_consA (c_dat (c_op2 (c_var rfl fun p37 hp37=>c_varS rfl (k_op2d sc_ix hp37 rfl rd_d trivial fun z38=>k_datN (rd_dn rd_d) (c_consA (c_dat (c_ifX (c_bol (c_op2 (c_callR (c_varO rfl (c_consA (c_kst (c_nilA (k_callRd rfl (pf__law_take s36 (.int (8))) fun z39=>k_cv (Γ':=[.t z39.2,.s v_many,.s v_full,.o z9,.s z13,.a z19,.o s29.2,.s z22.1,.x,.x,.s d35]) rfl (c_pvd (c_kst (k_op2d sc_iI rd_d trivial rd_d trivial fun z40=>k_bol (rd_dn rd_d) fun b41=>k_ifX (w:=.d) (val:=fun z42 : D=>z42) (env:=fun z42 : D=>[.t z39.2,.s v_many,.s v_full,.o z9,.s z13,.a z19,.o s29.2,.s z22.1,.x,.x,.s d35]) (c_op2 (c_varO rfl (c_varS rfl (k_op2d sc_ix rd_r rfl rd_d trivial fun z43=>q_V rd_d ⟨rfl,rfl,rfl,rfl,rfl,rfl,rfl,rfl,rfl,rfl,rfl,trivial⟩ trivial)))) (c_pvd (c_kst (q_V rd_d ⟨rfl,rfl,rfl,rfl,rfl,rfl,rfl,rfl,rfl,rfl,rfl,trivial⟩ trivial))) fun z42 pz42 hz42=>k_datN (rd_dn hz42) (c_nilA (k_datN (rd_dn rd_d) (q_A ⟨rfl,rfl,rfl,rfl,rfl,rfl,rfl,rfl,rfl,rfl,rfl,trivial⟩)))))))))))))))))))))))))) fun z44=>k_intoF rd_f rfl rfl (k_cv (Γ':=[.t z44.2,.s v_many,.s v_full,.o z9,.s z13,.a z19,.o s29.2,.s z22.1,.o ((.list z44.1)),.x,.x]) rfl (k_seq (c_ret (c_tupM (c_consA (c_dat (c_op1 (c_varS rfl (k_op1d sc_tup rd_d trivial fun z45=>k_datN (rd_dn rd_d) (c_consA (c_dat (c_op1 (c_varO rfl (k_op1d sc_tup rd_r rfl fun z46=>k_datN (rd_dn rd_d) (c_nilA (k_retD rd_d fun v47 hv47=>q_retT hv47 rfl)))))))))))))))))))))))))))))))))))))))))))))))))))))))))))))))))))))))))))))))))))))))))))))))))))))))))))))))))))))))))))))))
def p__law_case_right (v_tin : D) : R (D × D) :=
  (p__law_task v_tin (.int (10)) (.int (10))).bnx fun z1 =>
  (p__law_of z1.2 (.list [(.int (1)),(.int (3)),(.int (20))])).bnx fun z2 =>
  (p__law_sorts z2.2 z1.1 z2.1).bnx fun z3 =>
  (p__law_least_right z1.1 z3.1).bind fun z4 =>
  .ok (z4,z3.2)
theorem pf__law_case_right (v_tin : D) : FT .d (m__law_case_right [.o true v_tin]) (p__law_case_right v_tin) :=
  ft_fn (Γ:=[.t v_tin,.x]) ⟨⟨rfl,rfl⟩,trivial,trivial⟩ (c_seq (c_asg (c_callR (c_varO rfl (c_consA (c_kst (c_consA (c_kst (c_nilA (k_callRd rfl (pf__law_task v_tin (.int (10)) (.int (10))) fun z1=>k_cv (Γ':=[.t z1.2,.x]) rfl (k_intoD rd_d rfl rfl (k_cv (Γ':=[.t z1.2,.s z1.1]) rfl (k_seq (c_ret (c_callD (c_consA (c_datV rfl rfl rfl (c_consA (c_dat (c_callR (c_varO rfl (c_consA (c_datV rfl rfl rfl (c_consA (c_dat (c_callR (c_varO rfl (c_consA (c_dat (c_lstM (c_consA (c_kst (c_consA (c_kst (c_consA (c_kst (c_nilA (k_datN (rd_fn rd_f) (c_nilA (k_callRd rfl (pf__law_of z1.2 (.list [(.int (1)),(.int (3)),(.int (20))])) fun z2=>k_cv (Γ':=[.t z2.2,.s z1.1]) rfl (k_datN (rd_dn rd_d) (c_nilA (k_callRd rfl (pf__law_sorts z2.2 z1.1 z2.1) fun z3=>k_cv (Γ':=[.t z3.2,.s z1.1]) rfl (k_datN (rd_dn rd_d) (c_nilA (k_callDd (pf__law_least_right z1.1 z3.1) fun z4=>k_retD rd_d fun v5 hv5=>q_retT hv5 rfl))))))))))))))))))))))))))))))))))))))))))))))
def p__law_right (v_tin : D) : R (D × D) :=
  (rngR (.int (8))).bind fun l1 =>
  (mapS (fun (s3 : D) d2=>(p__law_case_right s3).bnx fun z4 =>
  .ok (z4.1,z4.2)) v_tin l1).bind fun z5 =>
  (o1 allD (.list z5.1)).bind fun z6 =>
  .ok (z6,z5.2)
theorem pf__law_right (v_tin : D) : FT .d (m__law_right [.o true v_tin]) (p__law_right v_tin) :=
  ft_fn (Γ:=[.t v_tin,.x]) ⟨⟨rfl,rfl⟩,trivial,trivial⟩ (c_ret (c_op1 (c_comp (c_rng1 (c_kst (k_lift fun l1=>k_mapS (fun s3 : D=>[.t s3,.x]) v_tin (fun s3 : D=>[.t s3,.x]) rfl (fun _=>rfl) (fun _=>rfl) (fun s3 d2=>c_tgN rfl rfl (k_el (c_dat (c_callR (c_varO rfl (c_nilA (k_callRd rfl (pf__law_case_right s3) fun z4=>k_cv (Γ':=[.t z4.2,.s d2]) rfl (k_datN (rd_dn rd_d) (q_A ⟨rfl,rfl,trivial⟩))))))))) fun z5=>k_op1d sc_all rd_f trivial fun z6=>k_retD rd_d fun v7 hv7=>q_retT hv7 rfl))))))
end G
end DL
end L2
namespace L2
namespace DL
namespace G
open PySem PySem.Spec PyProof.Rows
theorem take_ok {n : Nat} {t : D} {top : Int} (hn : n < 2 ^ 60) (T : TinOk n t) (h0 : 0 < top) (h1 : top < 1073741824) :
    ∃ d t',p__law_take t (.int top) = .ok (.int d,t') ∧ TinOk (n + 1) t' ∧ 0 ≤ d ∧ d < top:=by
  obtain ⟨a,b,k,rfl,ha,hb,hb2,hk,hkn⟩:=T
  have s0 : ∀ x y z v : Int,seR (tin x y z) (.int 0) (.int v) = .ok (tin v y z):=fun x y z v=>seR_l (by decide) (by simp)
  have s2 : ∀ x y z v : Int,seR (tin x y z) (.int 2) (.int v) = .ok (tin x y v):=fun x y z v=>seR_l (by decide) (by simp)
  have i0 : ∀ x y z : Int,o2 ixD (tin x y z) (.int 0) = .ok (.int x):=fun x y z=>o2_ixl (by decide) rfl
  have i1 : ∀ x y z : Int,o2 ixD (tin x y z) (.int 1) = .ok (.int y):=fun x y z=>o2_ixl (by decide) rfl
  have i2 : ∀ x y z : Int,o2 ixD (tin x y z) (.int 2) = .ok (.int z):=fun x y z=>o2_ixl (by decide) rfl
  by_cases h : 0 < a
  · refine ⟨a % top,tin (a / top) b k,?_,⟨_,_,_,rfl,Int.ediv_nonneg ha (by omega),hb,hb2,hk,by omega⟩,Int.emod_nonneg _ (by omega),Int.emod_lt_of_pos _ h0⟩
    have e3 : decide (0 < a) = true:=decide_eq_true h
    simp only [p__law_take,R.bind_ok,boR_b,o2_gti,e3,if_true,o1_int,i0,o2_mod h0,o2_fdiv h0 h1,s0]
  · let on:=(b + 48271 * (k + 1)) * (39373 + (k + 1)) % 2147483647
    have f1 : 0 ≤ on % 40009:=Int.emod_nonneg _ (by decide)
    have f2 : on % 40009 < 40009:=Int.emod_lt_of_pos _ (by decide)
    have d1 : ∀ i : Int,o2 modD (.int i) (.int 2147483647) = .ok (.int (i % 2147483647)):=fun i=>o2_mod (by decide)
    have d2 : ∀ i : Int,o2 modD (.int i) (.int 40009) = .ok (.int (i % 40009)):=fun i=>o2_mod (by decide)
    have d3 : ∀ i : Int,o2 modD (.int i) (.int 2147483629) = .ok (.int (i % 2147483629)):=fun i=>o2_mod (by decide)
    have d4 : ∀ i : Int,o2 modD (.int i) (.int 2147483587) = .ok (.int (i % 2147483587)):=fun i=>o2_mod (by decide)
    have d5 : ∀ i : Int,o2 fdivD (.int i) (.int 64) = .ok (.int (i / 64)):=fun i=>o2_fdiv (by decide) (by decide)
    have d6 : ∀ i : Int,o2 fdivD (.int i) (.int 1000003) = .ok (.int (i / 1000003)):=fun i=>o2_fdiv (by decide) (by decide)
    have m1 : ∀ i : Int,o2 mulD (.int 48271) (.int i) = .ok (.int (48271 * i)):=fun i=>o2_mull (by decide)
    have m2 : ∀ i : Int,o2 mulD (.int i) (.int (39373 + (k + 1))) = .ok (.int (i * (39373 + (k + 1)))):=fun i=>o2_mulr (by omega)
    have m3 : ∀ i : Int,o2 mulD (.int i) (.int (on % 40009 + 7)) = .ok (.int (i * (on % 40009 + 7))):=fun i=>o2_mulr (by omega)
    have m4 : ∀ i : Int,o2 mulD (.int i) (.int 48271) = .ok (.int (i * 48271)):=fun i=>o2_mulr (by decide)
    simp only [on] at m3
    refine ⟨((on + (k + 1) + b / 1000003) * (on % 40009 + 7) % 2147483629 * 48271 + on) % 2147483587 / 64 % top,tin a b (k + 1),?_,⟨_,_,_,rfl,ha,hb,hb2,by omega,by omega⟩,Int.emod_nonneg _ (by omega),Int.emod_lt_of_pos _ h0⟩
    have e3 : decide (0 < a) = false:=decide_eq_false h
    simp only [p__law_take,R.bind_ok,boR_b,o2_gti,e3,Bool.false_eq_true,if_false,o1_int,o2_addi,i0,i1,i2,o2_mod h0,s2,d1,d2,d3,d4,d5,d6,m1,m2,m3,m4,on]
abbrev inl (is : List Int) : List D:=is.map .int
theorem box_ok {is : List Int} {k : Nat} (h1 : k < is.length) (h2 : is.length ≤ 3) : ∃ t,p__law_box (.list (inl is)) (.int k) = .ok t ∧ TinOk 0 t:=by
  have hx : (inl is)[((k : Nat) : Int).toNat]? = some (.int is[k]):=by
    rw [Int.toNat_natCast,List.getElem?_map,List.getElem?_eq_getElem h1]; rfl
  generalize is[k] = x at hx
  have c1 : 0 ≤ x % 2305843009213693951:=Int.emod_nonneg _ (by decide)
  have c2 : x % 2305843009213693951 < 2305843009213693951:=Int.emod_lt_of_pos _ (by decide)
  have m1 : ∀ (i : Int) (b : Bool),o2 mulD (.int i) (.int (if b = true then 1 else 0)) = .ok (.int (i * if b = true then 1 else 0)):=fun i b=>o2_mulr (by cases b <;> decide)
  have m2 : o2 mulD (.int 39373) (.int (k : Int)) = .ok (.int (39373 * (k : Int))):=o2_mull (by decide)
  have m3 : o2 modD (.int x) (.int 2305843009213693951) = .ok (.int (x % 2305843009213693951)):=o2_mod (by decide)
  have hix : o2 ixD (.list (inl is)) (.int (k : Int)) = .ok (.int x):=o2_ixl (by omega) hx
  have hl : ((inl is).length : Int) = is.length:=by rw [List.length_map]
  refine ⟨tin ((if x < 0 then -x else x) * (if decide (1000000000000000000 ≤ (if x < 0 then -x else x)) = true then 1 else 0)) (x % 2305843009213693951 + 39373 * (k : Int) + 2556) 0,?_,⟨_,_,_,rfl,?_,by omega,by omega,by omega,by omega⟩⟩
  · have hlt : decide ((k : Int) < (is.length : Int)) = true:=decide_eq_true (by omega)
    simp only [p__law_box,o1_lenl,hl,R.bind_ok,o2_lti,hlt,boR_b,if_true,hix,o1_abs,o2_pow18,o2_gei,o1_intb,m1,o1_int,m3,m2,o2_addi,tin]
  · refine Int.mul_nonneg ?_ ?_
    · split <;> omega
    · generalize decide (1000000000000000000 ≤ (if x < 0 then -x else x)) = b
      cases b <;> decide
theorem inl_set (is : List Int) (j : Nat) (y : Int) : (inl is).set j (.int y) = inl (is.set j y):=by unfold inl; rw [List.map_set]
theorem cells_loop {n most : Nat} (hm : 0 < most) (hm2 : most < 1000) : ∀ (gs : List Int) (n : Nat) (cs : List Int),cs.length = most → n + gs.length ≤ 63 →
    ∃ cs' : List Int,cs'.length = most ∧ foldR (fun (s10 : D) d11=>(un2 d11).bind fun z13 =>
  (o1 intD z13.1).bind fun z14 =>
  (o2 modD z14 (.int most)).bind fun z15 =>
  (o2 ixD s10 z15).bind fun z16 =>
  (o2 addD z13.1 (.int (2))).bind fun z17 =>
  (o2 mulD z13.2 z17).bind fun z18 =>
  (o2 addD z16 z18).bind fun z19 =>
  (seR s10 z15 z19).bind fun z20 =>
  .ok z20) (.list (inl cs)) (numbered n (inl gs)) = .ok (.list (inl cs'))
  | [],n,cs,hc,_=>⟨cs,hc,rfl⟩
  | g :: gs,n,cs,hc,hn=>by
    rw [List.length_cons] at hn
    have c0 : 0 ≤ (n : Int) % most:=Int.emod_nonneg _ (by omega)
    have c1 : (n : Int) % most < most:=Int.emod_lt_of_pos _ (by omega)
    have hj : ((n : Int) % most).toNat < cs.length:=by omega
    have hx : (inl cs)[((n : Int) % most).toNat]? = some (.int cs[((n : Int) % most).toNat]):=by
      rw [List.getElem?_map,List.getElem?_eq_getElem hj]; rfl
    obtain ⟨cs',h1,h2⟩:=cells_loop (n:=n) hm hm2 gs (n + 1) (cs.set ((n : Int) % most).toNat (cs[((n : Int) % most).toNat] + g * ((n : Int) + 2))) (by rw [List.length_set]; exact hc) (by omega)
    refine ⟨cs',h1,?_⟩
    show foldR _ _ (PyData.tuple [.int n,.int g] :: numbered (n + 1) (inl gs)) = _
    rw [foldR]
    have m2 : o2 mulD (.int g) (.int ((n : Int) + 2)) = .ok (.int (g * ((n : Int) + 2))):=o2_mulr (by omega)
    have se : ∀ v,seR (.list (inl cs)) (.int ((n : Int) % most)) v = .ok (.list ((inl cs).set ((n : Int) % most).toNat v)):=fun v=>seR_l c0 (by rw [List.length_map]; omega)
    simp only [un2_t,R.bind_ok,o1_int,o2_mod (show 0 < (most : Int) by omega),o2_ixl c0 hx,o2_addi,m2,se,inl_set]
    exact h2
theorem cells_ok {most : Nat} (hm : 0 < most) (hm2 : most ≤ 63) {ns : List Int} (hn : ns.length ≤ 63) : ∃ cs : List Int,1 ≤ cs.length ∧ cs.length ≤ most ∧ p__law_cells (.list (inl ns)) (.int most) = .ok (.list (inl cs)):=by
  have l0 : (inl ns).length = ns.length:=List.length_map ..
  have t1 : cutL (inl ns) none (some (most : Int)) = inl (ns.take most):=by
    unfold cutL
    rw [HT.sIx_none,HT.sIx_nat,l0,List.drop_zero,Nat.sub_zero]
    show _ = (ns.take most).map _
    rw [List.map_take]
    exact List.take_eq_take_iff.mpr (by simp)
  have t2 : cutL (inl ns) (some (most : Int)) (some 63) = inl (ns.drop most):=by
    unfold cutL
    rw [show (63 : Int) = ((63 : Nat) : Int) from rfl,HT.sIx_nat,HT.sIx_nat,l0]
    show _ = (ns.drop most).map _
    rw [List.map_drop,List.take_of_length_le (by rw [List.length_drop,List.length_map]; omega)]
    by_cases h : most ≤ ns.length
    · rw [Nat.min_eq_left h]
    · rw [Nat.min_eq_right (by omega),List.drop_of_length_le (by rw [List.length_map]; omega),List.drop_of_length_le (by rw [List.length_map]; omega)]
  have u1 : o1 (fun d=>cutD d none (some (most : Int))) (.list (inl ns)) = .ok (.list (inl (ns.take most))):=by
    show R.ok (PyData.list (cutL _ _ _)) = _
    rw [t1]
  have u2 : o1 (fun d=>cutD d (some (most : Int)) (some 63)) (.list (inl ns)) = .ok (.list (inl (ns.drop most))):=by
    show R.ok (PyData.list (cutL _ _ _)) = _
    rw [t2]
  by_cases h3 : most < ns.length
  · obtain ⟨cs',hc',hl⟩:=cells_loop (n:=0) hm (by omega) (ns.drop most) 0 (ns.take most) (by rw [List.length_take]; omega) (by rw [List.length_drop]; omega)
    refine ⟨cs',by omega,by omega,?_⟩
    have te : (inl (ns.take most)).isEmpty = false:=by
      cases ns with
      | nil=>simp at h3
      | cons a b=>cases most with
        | zero=>omega
        | succ m=>rfl
    simp only [p__law_cells,prtR_i,R.bind_ok,u1,u2,o1_lstl,truR_l,te,Bool.not_false,if_true,enumR_l,hl]
  · have hd : ns.drop most = []:=List.drop_of_length_le (by omega)
    rw [hd] at u2
    cases hq : ns with
    | nil =>
      subst hq
      refine ⟨[0],by decide,by simp; omega,?_⟩
      have te : (inl (([] : List Int).take most)).isEmpty = true:=by simp
      simp only [p__law_cells,prtR_i,R.bind_ok,u1,u2,o1_lstl,truR_l,te,Bool.not_true,enumR_l]
      rfl
    | cons a b =>
      have te : (inl (ns.take most)).isEmpty = false:=by
        rw [hq]
        cases most with
        | zero=>omega
        | succ m=>rfl
      have tl : 1 ≤ (ns.take most).length:=by rw [hq,List.length_take,List.length_cons]; omega
      rw [← hq]
      refine ⟨ns.take most,tl,by rw [List.length_take]; omega,?_⟩
      simp only [p__law_cells,prtR_i,R.bind_ok,u1,u2,o1_lstl,truR_l,te,Bool.not_false,if_true,enumR_l]
      rfl
end G
end DL
end L2
namespace L2
namespace DL
namespace G
open PySem PySem.Spec PyProof.Rows
theorem of_ok {n : Nat} {t : D} {xs : List D} (hn : n < 2 ^ 60) (T : TinOk n t) (h0 : 0 < xs.length) (h1 : xs.length < 1073741824) :
    ∃ x t',p__law_of t (.list xs) = .ok (x,t') ∧ TinOk (n + 1) t' ∧ x ∈ xs:=by
  obtain ⟨d,t',e,T',hd0,hd1⟩:=take_ok (top:=(xs.length : Int)) hn T (by omega) (by omega)
  have hj : d.toNat < xs.length:=by omega
  refine ⟨xs[d.toNat],t',?_,T',List.getElem_mem hj⟩
  simp only [p__law_of,o1_lenl,R.bind_ok,e,R.bnx_ok,o2_ixl hd0 (List.getElem?_eq_getElem hj)]
theorem pick_loop : ∀ (m N : Nat) (lo : Int) (t : D) (rest got : List D),m ≤ rest.length → rest.length < 16777216 → got.length + m < 16777216 → N + m < 2 ^ 60 → TinOk N t →
    ∃ t' rest' got',foldR (fun (s5 : D × D × D) d6=>(lsR s5.2.2).bind fun l8 =>
  (lsR s5.2.1).bind fun l10 =>
  (o1 lenD s5.2.1).bind fun z12 =>
  (p__law_take s5.1 z12).bnx fun z13 =>
  (poR l10 z13.1).bind fun z11 =>
  (apR l8 z11.1).bind fun z9 =>
  .ok (z13.2,z11.2,z9)) (t,.list rest,.list got) (upTo lo m) = .ok (t',.list rest',.list got') ∧ TinOk (N + m) t' ∧ (got' ++ rest').Perm (got ++ rest) ∧ got'.length = got.length + m
  | 0,N,lo,t,rest,got,_,_,_,_,T=>⟨t,rest,got,rfl,T,List.Perm.refl _,rfl⟩
  | m + 1,N,lo,t,rest,got,h1,h2,h3,h4,T=>by
    obtain ⟨d,t',e,T',hd0,hd1⟩:=take_ok (top:=(rest.length : Int)) (by omega) T (by omega) (by omega)
    have hj : d.toNat < rest.length:=by omega
    have hle : (rest.eraseIdx d.toNat).length + 1 = rest.length:=by rw [List.length_eraseIdx,if_pos hj]; omega
    obtain ⟨t2,rest2,got2,g1,g2,g3,g4⟩:=pick_loop m (N + 1) (lo + 1) t' (rest.eraseIdx d.toNat) (got ++ [rest[d.toNat]]) (by omega) (by omega) (by rw [List.length_append,List.length_singleton]; omega) (by omega) T'
    refine ⟨t2,rest2,got2,?_,by rw [show N + (m + 1) = N + 1 + m by omega]; exact g2,?_,by rw [g4,List.length_append,List.length_singleton]; omega⟩
    · rw [upTo_succ,foldR]
      simp only [lsR_l,R.bind_ok,o1_lenl,e,R.bnx_ok,poR_ok hd0 (List.getElem?_eq_getElem hj),apR_ok (show got.length < 16777216 by omega)]
      exact g1
    · refine g3.trans ?_
      rw [List.append_assoc]
      exact List.Perm.append_left got (erase_perm rest d.toNat hj)
theorem pick_ok {N : Nat} {t : D} {pool : List D} {size : Int} (hs : 0 ≤ size) (hp : pool.length < 10000) (hN : N + pool.length < 2 ^ 60) (T : TinOk N t) (c : D) (hc : c = .list pool ∨ c = .tuple pool) :
    ∃ got rest t',p__law_pick t c (.int size) = .ok (.list got,t') ∧ TinOk (N + got.length) t' ∧ (got ++ rest).Perm pool ∧ got.length = min size.toNat pool.length:=by
  have hm : (if (pool.length : Int) < size then (pool.length : Int) else size) = ((min size.toNat pool.length : Nat) : Int):=by split <;> omega
  obtain ⟨t',rest,got,g1,g2,g3,g4⟩:=pick_loop (min size.toNat pool.length) N 0 t pool [] (by omega) (by omega) (by simp only [List.length_nil]; omega) (by omega) T
  have g4 : got.length = min size.toNat pool.length:=by rw [g4]; simp
  refine ⟨got,rest,t',?_,by rw [g4]; exact g2,g3,g4⟩
  have hl : o1 lstD c = .ok (.list pool):=by rcases hc with rfl | rfl <;> simp
  simp only [p__law_pick,hl,R.bind_ok,o1_lenl,o2_min,hm,rngR_ok (show min size.toNat pool.length ≤ 16777216 by omega),g1]
theorem pickS_ok {N : Nat} {t : D} {pool : List Str} {size : Int} (hs : 0 ≤ size) (hp : pool.length < 10000) (hN : N + pool.length < 2 ^ 60) (T : TinOk N t) (c : D) (hc : c = .list (sts pool) ∨ c = .tuple (sts pool)) :
    ∃ (got rest : List Str) (t' : D),p__law_pick t c (.int size) = .ok (.list (sts got),t') ∧ TinOk (N + got.length) t' ∧ (got ++ rest).Perm pool ∧ got.length = min size.toNat pool.length:=by
  have hl : (sts pool).length = pool.length:=List.length_map ..
  obtain ⟨got,rest,t',h1,h2,h3,h4⟩:=pick_ok (pool:=sts pool) hs (by omega) (by omega) T c hc
  obtain ⟨l',e,hp'⟩:=perm_strs h3
  obtain ⟨x,y,rfl,rfl,rfl⟩:=strs_split e
  rw [List.length_map] at h2 h4
  exact ⟨x,y,t',h1,h2,hp',by rw [h4,hl]⟩
theorem tupled_ok : ∀ (k : Nat) (d : D),dep d < k → p_tupled k d = .ok (tupT d)
  | 0,d,h=>by omega
  | k + 1,d,h=>by
    have go : ∀ xs : List D,deps xs < k → mapR (fun d5=>p_tupled k d5) xs = .ok (xs.map tupT):=fun xs hx =>
      mapR_ok fun x hm=>tupled_ok k x (by have:=deps_mem hm; omega)
    cases d with
    | list xs =>
      have hx : deps xs < k:=by simp only [dep] at h; omega
      simp [p_tupled,go xs hx]
    | tuple xs =>
      have hx : deps xs < k:=by simp only [dep] at h; omega
      simp [p_tupled,go xs hx]
    | none=>simp [p_tupled]
    | bool b=>simp [p_tupled]
    | int b=>simp [p_tupled]
    | str b=>simp [p_tupled]
    | dict b=>simp [p_tupled,tupT]
theorem lists_ok : ∀ (k : Nat) (d : D),dep d < k → p__law_lists k d = .ok (lisT d)
  | 0,d,h=>by omega
  | k + 1,d,h=>by
    have go : ∀ xs : List D,deps xs < k → mapR (fun d5=>p__law_lists k d5) xs = .ok (xs.map lisT):=fun xs hx =>
      mapR_ok fun x hm=>lists_ok k x (by have:=deps_mem hm; omega)
    cases d with
    | list xs =>
      have hx : deps xs < k:=by simp only [dep] at h; omega
      simp [p__law_lists,go xs hx]
    | tuple xs =>
      have hx : deps xs < k:=by simp only [dep] at h; omega
      simp [p__law_lists,go xs hx]
    | none=>simp [p__law_lists]
    | bool b=>simp [p__law_lists]
    | int b=>simp [p__law_lists]
    | str b=>simp [p__law_lists]
    | dict b=>simp [p__law_lists,lisT]
def tagA : List Str:=["pa","pb","pc","pd","pe","pf","pg","ph","pi","pj","pk","pl","pm","pn","po","pp","pq","pr","ps","pt","pu","pv","pw","px","py","pz"]
def tagB : List Str:=["qa","qb","qc","qd","qe","qf","qg","qh","qi","qj","qk","ql","qm","qn"]
def tagL : List Str:=tagA ++ tagB
theorem tagL_ok : OkS tagL:=by
  have h : tagL.all PyData.strOk = true:=by decide +kernel
  exact fun x hx=>List.all_eq_true.mp h x hx
theorem tagL_nd : tagL.Nodup:=by decide +kernel
def nmX : List Str:=["zz","c","d","e","f","t"]
def nmL : List Str:=tagL ++ nmX
theorem tagL_len : tagL.length = 40:=by decide +kernel
def wz : List Str → List Str → List Bool → List (Str × Option Str)
  | f :: fs,e :: es,b :: bs=>(f,if b then some e else none) :: wz fs es bs
  | _,_,_=>[]
theorem wz_fst : ∀ {fi en : List Str} {bs : List Bool},en.length = fi.length → bs.length = fi.length → (wz fi en bs).map (·.1) = fi
  | [],en,bs,_,_=>by unfold wz; rfl
  | f :: fi,[],bs,h,_=>by simp at h
  | f :: fi,e :: en,[],_,h=>by simp at h
  | f :: fi,e :: en,b :: bs,h1,h2=>by
    unfold wz
    rw [List.map_cons,wz_fst (by simpa using h1) (by simpa using h2)]
theorem wz_snd : ∀ (fi en : List Str) (bs : List Bool),((wz fi en bs).filterMap (·.2)).Sublist en
  | [],en,bs=>by unfold wz; simp
  | f :: fi,[],bs=>by unfold wz; simp
  | f :: fi,e :: en,[]=>by unfold wz; simp
  | f :: fi,e :: en,b :: bs=>by
    unfold wz
    cases b with
    | true=>simpa using (wz_snd fi en bs)
    | false=>simpa using (wz_snd fi en bs).cons e
structure JobOk (n : Nat) (sp : List Str) (ways : List (Str × Option Str)) : Prop where
  nd : sp.Nodup
  ok : OkS sp
  tg : ∀ x ∈ sp,x ∈ nmL
  ne : sp ≠ []
  len : sp.length ≤ n
  fst : (ways.map (·.1)).Nodup
  sub : ∀ x ∈ ways.map (·.1),x ∈ sp
  srt : (ways.map (·.1)).Pairwise fun a b=>sLe a b = true
  snd : (ways.filterMap (·.2)).Nodup
  tgt : ∀ x ∈ ways.filterMap (·.2),x ∈ sp
theorem nodup_left {a r sp : List Str} (h : (a ++ r).Perm sp) (nd : sp.Nodup) : a.Nodup ∧ (∀ x ∈ a,x ∈ sp) ∧ a.length ≤ sp.length:=by
  refine ⟨(List.nodup_append.mp (h.nodup_iff.mpr nd)).1,fun x hx=>h.mem_iff.mp (by simp [hx]),?_⟩
  have:=h.length_eq
  rw [List.length_append] at this
  omega
theorem ways_loop {fi en : List Str} (hl : en.length = fi.length) : ∀ (m j N : Nat) (t : D),j + m = fi.length → N + m < 2 ^ 60 → TinOk N t →
    ∃ (bs : List Bool) (t' : D),bs.length = m ∧ TinOk (N + m) t' ∧ mapS (fun (s38 : D) d37=>(o2 ixD (.list (sts fi)) d37).bind fun z40 =>
  (p__law_take s38 (.int (8))).bnx fun z41 =>
  (o2 gtD z41.1 (.int (0))).bind fun z42 =>
  (boR z42).bind fun b43 =>
  ((if b43 = true then (o2 ixD (.list (sts en)) d37).bind fun z45 =>
  .ok z45 else .ok (.none)) : R (D)).bind fun z44 =>
  .ok ((.tuple [z40,z44]),z41.2)) t (upTo j m) = .ok ((wz (fi.drop j) (en.drop j) bs).map wayD,t')
  | 0,j,N,t,hj,_,T=>⟨[],t,rfl,T,by
      have h : wz (fi.drop j) (en.drop j) [] = []:=by unfold wz; split <;> simp_all
      rw [h]
      rfl⟩
  | m + 1,j,N,t,hj,hN,T=>by
    obtain ⟨x,t1,e,T1,h0,h1⟩:=take_ok (top:=8) (by omega) T (by decide) (by decide)
    obtain ⟨bs,t2,hb,T2,ih⟩:=ways_loop hl m (j + 1) (N + 1) t1 (by omega) (by omega) T1
    have jf : j < fi.length:=by omega
    have je : j < en.length:=by omega
    have af : o2 ixD (.list (sts fi)) (.int (j : Int)) = .ok (.str fi[j]):=o2_ixl (by omega) (by rw [Int.toNat_natCast,List.getElem?_map,List.getElem?_eq_getElem jf]; rfl)
    have ae : o2 ixD (.list (sts en)) (.int (j : Int)) = .ok (.str en[j]):=o2_ixl (by omega) (by rw [Int.toNat_natCast,List.getElem?_map,List.getElem?_eq_getElem je]; rfl)
    refine ⟨decide (0 < x) :: bs,t2,by rw [List.length_cons,hb],by rw [show N + (m + 1) = N + 1 + m by omega]; exact T2,?_⟩
    rw [List.drop_eq_getElem_cons jf,List.drop_eq_getElem_cons je,upTo_succ,mapS]
    have ih' : mapS _ t1 (upTo ((j : Int) + 1) m) = _:=ih
    by_cases hx : 0 < x
    · simp only [af,ae,R.bind_ok,e,R.bnx_ok,o2_gti,decide_eq_true hx,boR_b,if_true,ih']
      rfl
    · simp only [af,ae,R.bind_ok,e,R.bnx_ok,o2_gti,decide_eq_false hx,boR_b,Bool.false_eq_true,if_false,ih']
      rfl
theorem task_tags {β : Type} (k : D → R β) : ((itR (.str "abcdefghijklmnopqrstuvwxyz")).bind fun l1 =>
  (mapR (fun d2=>(o2 addD (.str "p") d2).bind fun z3 =>
  .ok z3) l1).bind fun l4 =>
  (itR (.str "abcdefghijklmn")).bind fun l5 =>
  (mapR (fun d6=>(o2 addD (.str "q") d6).bind fun z7 =>
  .ok z7) l5).bind fun l8 =>
  (o2 addD (.list l4) (.list l8)).bind fun z9=>k z9) = k (.list (sts tagL)):=by
  kernel_rfl
theorem task_ok {N many full : Nat} {t : D} (hN : N < 2 ^ 58) (hm : 0 < many) (hm2 : many ≤ 40) (hf : full ≤ 40) (T : TinOk N t) : ∃ (sp : List Str) (ways : List (Str × Option Str)) (t' : D),p__law_task t (.int many) (.int full) = .ok (jobD sp ways,t') ∧ TinOk (N + 200) t' ∧ JobOk many sp ways ∧ ways.length ≤ full ∧ ∃ k,sp = tagL.take k:=by
  obtain ⟨d1,t1,e1,T1,a0,a1⟩:=take_ok (top:=(many : Int)) (by omega) T (by omega) (by omega)
  have hsp : (tagL.take (1 + d1).toNat).length = (1 + d1).toNat:=by rw [List.length_take,tagL_len]; omega
  have spn : (tagL.take (1 + d1).toNat).Nodup:=tagL_nd.sublist (List.take_sublist _ _)
  have spo : OkS (tagL.take (1 + d1).toNat):=fun x hx=>tagL_ok x (List.mem_of_mem_take hx)
  have spt : ∀ x ∈ tagL.take (1 + d1).toNat,x ∈ nmL:=fun x hx=>List.mem_append_left _ (List.mem_of_mem_take hx)
  have spk : ∃ k,tagL.take (1 + d1).toNat = tagL.take k:=⟨_,rfl⟩
  have ec : o1 (fun d=>cutD d none (some (1 + d1))) (.list (sts tagL)) = .ok (.list (sts (tagL.take (1 + d1).toNat))):=cut_take (by omega)
  generalize tagL.take (1 + d1).toNat = sp at ec hsp spn spo spt spk
  obtain ⟨d2,t2,e2,T2,b0,b1⟩:=take_ok (top:=(full : Int) + 1) (by omega) T1 (by omega) (by omega)
  have hsl : (sts sp).length = sp.length:=List.length_map ..
  obtain ⟨got,r1,t3,e3,T3,pb,lg⟩:=pickS_ok (pool:=sp) (size:=if d2 < ((sts sp).length : Int) then d2 else ((sts sp).length : Int)) (by split <;> omega) (by omega) (by omega) T2 _ (.inl rfl)
  have lgf : got.length ≤ full:=by rw [lg]; split <;> omega
  obtain ⟨g1,g2,g3⟩:=nodup_left pb spn
  have pf : (sortS got).Perm got:=sortS_perm got
  have fl : (sortS got).length = got.length:=pf.length_eq
  have fsrt:=sortS_sorted got
  have es : o1 sortD (.list (sts got)) = .ok (.list (sts (sortS got))):=o1_sortl fun x hx=>spo x (g2 x hx)
  generalize sortS got = fi at es pf fl fsrt
  have hfl : ((sts fi).length : Int) = (fi.length : Int):=by rw [List.length_map]
  obtain ⟨en,r2,t4,e4,T4,pc,lc⟩:=pickS_ok (pool:=sp) (size:=(fi.length : Int)) (by omega) (by omega) (by omega) T3 _ (.inl rfl)
  obtain ⟨d3,t5,e5,T5,_,_⟩:=take_ok (top:=3) (by omega) T4 (by decide) (by decide)
  -- the ends,perhaps drawn anew
  have he : ∃ (en' r3 : List Str) (t6 : D),((if (if (d3 == 0) = true then decide (1 < (fi.length : Int)) else false) = true then (p__law_pick t5 (.list (sts fi)) (.int (fi.length : Int))).bnx fun z33 =>
      R.ok (z33.2,z33.1) else .ok (t5,.list (sts en))) : R (D × D)) = .ok (t6,.list (sts en')) ∧ TinOk (N + 150) t6 ∧ (en' ++ r3).Perm sp ∧ en'.length = fi.length:=by
    by_cases hc : (if (d3 == 0) = true then decide (1 < (fi.length : Int)) else false) = true
    · obtain ⟨en',r3,t6,e6,T6,pe,le⟩:=pickS_ok (pool:=fi) (size:=(fi.length : Int)) (by omega) (by omega) (by omega) T5 _ (.inl rfl)
      have hle : en'.length = fi.length:=by rw [le]; omega
      have hr : r3 = []:=by
        have:=pe.length_eq
        rw [List.length_append] at this
        exact List.eq_nil_of_length_eq_zero (by omega)
      subst hr
      rw [List.append_nil] at pe
      refine ⟨en',r1,t6,?_,T6.mono (by omega),((pe.trans pf).append_right r1).trans pb,hle⟩
      rw [if_pos hc,e6]
      rfl
    · refine ⟨en,r2,t5,by rw [if_neg hc],T5.mono (by omega),pc,by rw [lc]; omega⟩
  obtain ⟨en',r3,t6,e6,T6,pe,le⟩:=he
  obtain ⟨bs,t7,hb,Tf,ef⟩:=ways_loop le fi.length 0 _ t6 (by omega) (by omega) T6
  obtain ⟨n1,n2,n3⟩:=nodup_left pe spn
  rw [List.drop_zero,List.drop_zero] at ef
  have wf:=wz_fst (fi:=fi) (en:=en') (bs:=bs) le hb
  refine ⟨sp,wz fi en' bs,t7,?_,Tf.mono (by omega),⟨spn,spo,spt,by intro h; rw [h] at hsp; simp at hsp; omega,by omega,by rw [wf]; exact pf.nodup_iff.mpr g1,fun x hx=>g2 x (pf.mem_iff.mp (by rw [wf] at hx; exact hx)),by rw [wf]; exact fsrt,n1.sublist (wz_snd _ _ _),fun x hx=>n2 x ((wz_snd _ _ _).subset hx)⟩,?_,spk⟩
  · unfold p__law_task
    rw [task_tags]
    have b27 : ((if (d3 == 0) = true then R.ok (decide (1 < (fi.length : Int))) else .ok false) : R Bool) = .ok (if (d3 == 0) = true then decide (1 < (fi.length : Int)) else false):=by split <;> rfl
    have hu : upTo ((0 : Nat) : Int) fi.length = upTo 0 fi.length:=rfl
    rw [hu] at ef
    simp only [R.bind_ok,R.bnx_ok,e1,e2,e3,e4,e5,e6,es,ec,o2_addi,prtR_i,o1_lenl,hfl,o2_min,o2_eqi,o2_gti,boR_b,b27,rngR_ok (show fi.length ≤ 16777216 by omega),ef,o1_tupl]
    rfl
  · have:=congrArg List.length wf
    rw [List.length_map] at this
    omega
theorem mapS_true {f : D → D → R (D × D)} {c : Nat} (hf : ∀ N t d,N < 2 ^ 57 → TinOk N t → ∃ t',f t d = .ok (.bool true,t') ∧ TinOk (N + c) t') : ∀ (l : List D) (N : Nat) (t : D),N + l.length * c < 2 ^ 57 → TinOk N t → ∃ t',mapS f t l = .ok (l.map fun _=>.bool true,t') ∧ TinOk (N + l.length * c) t'
  | [],N,t,_,T=>⟨t,rfl,by simpa using T⟩
  | d :: l,N,t,h,T=>by
    rw [List.length_cons,Nat.succ_mul] at h
    obtain ⟨t1,e1,T1⟩:=hf N t d (by omega) T
    obtain ⟨t2,e2,T2⟩:=mapS_true hf l (N + c) t1 (by omega) T1
    refine ⟨t2,?_,T2.mono (by rw [List.length_cons,Nat.succ_mul]; omega)⟩
    rw [mapS,e1,R.bnx_ok,e2,R.bnx_ok]
    rfl
theorem all_trues {α : Type} (l : List α) : o1 allD (.list (l.map fun _=>.bool true)) = .ok (.bool true):=o1_allT fun d hd=>by
  obtain ⟨_,_,rfl⟩:=List.mem_map.mp hd
  rfl
theorem upTo_len (n : Nat) : (upTo 0 n).length = n:=by rw [upTo0_map,List.length_map,List.length_range]
end G
end DL
end L2
namespace L2
namespace DL
namespace G
open PySem PySem.Spec PyProof.Rows
theorem dep_way (w : Str × Option Str) : dep (wayD w) ≤ 1:=dep_t fun x hx=>by
  simp only [List.mem_cons,List.not_mem_nil,or_false] at hx
  rcases hx with rfl | rfl <;> simp
theorem dep_sts (l : List Str) : dep (.tuple (sts l)) ≤ 1:=dep_t fun x hx=>by
  obtain ⟨y,rfl,_⟩:=mem_strs hx
  simp
theorem dep_job (sp : List Str) (ways : List (Str × Option Str)) : dep (jobD sp ways) ≤ 3:=dep_t fun x hx=>by
  simp only [List.mem_cons,List.not_mem_nil,or_false] at hx
  rcases hx with rfl | rfl
  · exact Nat.le_trans (dep_sts sp) (by decide)
  · exact dep_t fun x hx=>by obtain ⟨w,_,rfl⟩:=List.mem_map.mp hx; exact dep_way w
theorem dep_ljob (sp : List Str) (ways : List (Str × Option Str)) : dep (lisT (jobD sp ways)) ≤ 3:=by
  unfold jobD
  rw [lisT_t]
  refine dep_l fun x hx=>?_
  simp only [List.map_cons,List.map_nil,List.mem_cons,List.not_mem_nil,or_false] at hx
  rcases hx with rfl | rfl
  · rw [lisT_t]
    exact Nat.le_trans (dep_l (n:=0) fun x hx=>by
      obtain ⟨y,hy,rfl⟩:=List.mem_map.mp hx
      obtain ⟨z,rfl,_⟩:=mem_strs hy
      simp) (by decide)
  · rw [lisT_t]
    refine dep_l fun x hx=>?_
    obtain ⟨y,hy,rfl⟩:=List.mem_map.mp hx
    obtain ⟨w,_,rfl⟩:=List.mem_map.mp hy
    rw [lisT_t]
    refine dep_l fun x hx=>?_
    simp only [List.map_cons,List.map_nil,List.mem_cons,List.not_mem_nil,or_false] at hx
    rcases hx with rfl | rfl <;> simp
theorem tupT_job (sp : List Str) (ways : List (Str × Option Str)) : tupT (jobD sp ways) = jobD sp ways:=by
  simp [jobD,List.map_map,Function.comp_def]
theorem tupT_ljob (sp : List Str) (ways : List (Str × Option Str)) : tupT (lisT (jobD sp ways)) = jobD sp ways:=by
  simp [jobD,List.map_map,Function.comp_def]
theorem tup_job (sp : List Str) (ways : List (Str × Option Str)) : p_tupled 60 (jobD sp ways) = .ok (jobD sp ways):=by
  rw [tupled_ok 60 _ (by have:=dep_job sp ways; omega),tupT_job]
theorem tup_ljob (sp : List Str) (ways : List (Str × Option Str)) : p_tupled 60 (lisT (jobD sp ways)) = .ok (jobD sp ways):=by
  rw [tupled_ok 60 _ (by have:=dep_ljob sp ways; omega),tupT_ljob]
section
variable {J : D} {sp : List Str} {ways : List (Str × Option Str)}
theorem goal_of_ok (hJ : p_tupled 60 J = .ok (jobD sp ways)) (h : (ways.map (·.1)).Nodup) : p_goal_of J = .ok (.dict (kvD oD ways)):=by
  have e : dcR (fun x : Str × Option Str=>R.ok (some (PyData.str x.1,oD x.2))) [] ways = .ok (kvD oD (ways.map fun x=>(x.1,x.2))):=dcR_kv (g:=oD) (ky:=fun x : Str × Option Str=>x.1) (vl:=fun x=>x.2) (fun _ _=>rfl) h
  rw [show (ways.map fun x=>(x.1,x.2)) = ways by simp] at e
  simp only [p_goal_of,hJ,R.bind_ok]
  rw [show o2 ixD (jobD sp ways) (.int 1) = .ok (.tuple (ways.map wayD)) from o2_ix1t ..]
  simp only [R.bind_ok,itR_t,dcR_map,un2_t,e,R.bnx_ok]
end
inductive F2 {α β : Type} (P : α → β → Prop) : List α → List β → Prop
  | nil : F2 P [] []
  | cons {a : α} {b : β} {l : List α} {r : List β} : P a b → F2 P l r → F2 P (a :: l) (b :: r)
theorem mapS_gen {α β : Type} {f : D → α → R (D × D)} {enc : β → D} {c : Nat} {P : α → β → Prop} : ∀ (l : List α) (N : Nat) (t : D),(∀ N t a,a ∈ l → N < 2 ^ 58 → TinOk N t → ∃ b t',f t a = .ok (enc b,t') ∧ TinOk (N + c) t' ∧ P a b) → N + l.length * c < 2 ^ 58 → TinOk N t →
    ∃ (bs : List β) (t' : D),mapS f t l = .ok (bs.map enc,t') ∧ TinOk (N + l.length * c) t' ∧ F2 P l bs
  | [],N,t,_,_,T=>⟨[],t,rfl,by simpa using T,.nil⟩
  | a :: l,N,t,H,h,T=>by
    rw [List.length_cons,Nat.succ_mul] at h
    obtain ⟨b,t1,e1,T1,p1⟩:=H N t a (by simp) (by omega) T
    obtain ⟨bs,t2,e2,T2,p2⟩:=mapS_gen l (N + c) t1 (fun N t a ha=>H N t a (List.mem_cons_of_mem _ ha)) (by omega) T1
    refine ⟨b :: bs,t2,?_,T2.mono (by rw [List.length_cons,Nat.succ_mul]; omega),.cons p1 p2⟩
    rw [mapS,e1,R.bnx_ok,e2,R.bnx_ok]
    rfl
theorem mapS_map {α γ : Type} (f : D → α → R (D × D)) (g : γ → α) : ∀ (l : List γ) (t : D),mapS f t (l.map g) = mapS (fun t x=>f t (g x)) t l
  | [],t=>rfl
  | x :: l,t=>by
    rw [List.map_cons,mapS,mapS]
    cases f t (g x) with
    | ok y=>rw [R.bnx_ok,R.bnx_ok,mapS_map f g l]
    | exc x=>rfl
    | bad=>rfl
theorem eqvAll_sts : ∀ (l l' : List Str),PyData.eqvAll (sts l) (sts l') = decide (l = l')
  | [],[]=>by simp [PyData.eqvAll]
  | [],b :: r=>by simp [PyData.eqvAll]
  | a :: l,[]=>by simp [PyData.eqvAll]
  | a :: l,b :: r=>by
    show PyData.eqvAll (.str a :: sts l) (.str b :: sts r) = _
    rw [PyData.eqvAll,eqvAll_sts l r,eqv_str]
    apply Bool.eq_iff_iff.mpr
    simp
theorem f2_fst {α β : Type} {l : List α} {r : List β} {f : α → Str} {g : β → Str} {P : α → β → Prop} (h : F2 P l r) (e : ∀ a b,P a b → g b = f a) : r.map g = l.map f:=by
  induction h with
  | nil=>rfl
  | cons p _ ih=>rw [List.map_cons,List.map_cons,ih,e _ _ p]
theorem f2_all {α β : Type} {l : List α} {r : List β} {P : α → β → Prop} {q : β → Prop} (h : F2 P l r) (e : ∀ a b,P a b → q b) : ∀ b ∈ r,q b:=by
  induction h with
  | nil=>intro b hb; cases hb
  | cons p _ ih =>
    intro b hb
    rcases List.mem_cons.mp hb with rfl | hb
    · exact e _ _ p
    · exact ih b hb
abbrev Nd (n : Nat) (d : D) : Prop:=dep d ≤ n ∧ nodict d = true
theorem nd_t {n : Nat} {xs : List D} (h : ∀ x ∈ xs,Nd n x) : Nd (n + 1) (.tuple xs):=⟨dep_t fun x hx=>(h x hx).1,(nodict_t _).mpr fun x hx=>(h x hx).2⟩
theorem nd_l {n : Nat} {xs : List D} (h : ∀ x ∈ xs,Nd n x) : Nd (n + 1) (.list xs):=⟨dep_l fun x hx=>(h x hx).1,(nodict_l _).mpr fun x hx=>(h x hx).2⟩
theorem nd_s (x : Str) : Nd 0 (.str x):=⟨by simp,by simp⟩
theorem nd_i (x : Int) : Nd 0 (.int x):=⟨by simp,by simp⟩
theorem nd_nil {n : Nat} : ∀ x ∈ ([] : List D),Nd n x:=fun _ h=>by cases h
theorem nd_cons {n : Nat} {x : D} {xs : List D} (h : Nd n x) (r : ∀ y ∈ xs,Nd n y) : ∀ y ∈ x :: xs,Nd n y:=fun y hy=>by
  rcases List.mem_cons.mp hy with rfl | hy
  · exact h
  · exact r y hy
theorem nd_map {α : Type} {n : Nat} {l : List α} {f : α → D} (h : ∀ a ∈ l,Nd n (f a)) : ∀ y ∈ l.map f,Nd n y:=fun y hy=>by
  obtain ⟨a,ha,rfl⟩:=List.mem_map.mp hy
  exact h a ha
theorem nd_sts (l : List Str) : ∀ y ∈ sts l,Nd 0 y:=nd_map fun a _=>nd_s a
theorem eqv_self : ∀ (k : Nat) (d : D),dep d < k → nodict d = true → PyData.eqv d d = true
  | 0,d,h,_=>by omega
  | k + 1,d,h,hn=>by
    have go : ∀ xs : List D,deps xs < k → (∀ x ∈ xs,nodict x = true) → PyData.eqvAll xs xs = true:=fun xs=>by
      induction xs with
      | nil=>intro _ _; rfl
      | cons x xs ih =>
        intro hx hn
        rw [PyData.eqvAll,eqv_self k x (by have:=deps_mem (xs:=x :: xs) (x:=x) (by simp); omega) (hn x (by simp))]
        exact ih (by have : deps xs ≤ deps (x :: xs):=by simp only [deps]; omega
                     omega) fun y hy=>hn y (by simp [hy])
    cases d with
    | list xs =>
      rw [PyData.eqv]
      exact go xs (by simp only [dep] at h; omega) (by simpa using hn)
    | tuple xs =>
      rw [PyData.eqv]
      exact go xs (by simp only [dep] at h; omega) (by simpa using hn)
    | none=>simp [PyData.eqv]
    | bool b=>simp [PyData.eqv]
    | int b=>simp [PyData.eqv]
    | str b=>simp [PyData.eqv]
    | dict b=>simp [nodict] at hn
theorem sh_cons {n : Nat} {x : D} {xs : List D} (h : Sh n x) (r : ∀ y ∈ xs,Sh n y) : ∀ y ∈ x :: xs,Sh n y:=fun y hy=>by
  rcases List.mem_cons.mp hy with rfl | hy
  · exact h
  · exact r y hy
theorem sh_nil {n : Nat} : ∀ x ∈ ([] : List D),Sh n x:=fun _ h=>by cases h
theorem R.bind_eq {α β : Type} {m : R α} {a : α} {k : α → R β} {r : R β} (h : m = .ok a) (q : k a = r) : m.bind k = r:=by rw [h]; exact q
section
variable {sp : List Str} {ways : List (Str × Option Str)} {n : Nat} {J : D}
theorem boxes_ok (hJ : p_tupled 60 J = .ok (jobD sp ways)) : p_boxes J = .ok (.tuple (sts (ways.map (·.1)))):=by
  simp only [p_boxes,hJ,R.bind_ok]
  rw [show o2 ixD (jobD sp ways) (.int 1) = .ok (.tuple (ways.map wayD)) from o2_ix1t ..]
  simp only [R.bind_ok,itR_t,mapR_map,un2_t,mapR_pure,o1_tupl,List.map_map]
  rfl
end
section
variable (ways : List (Str × Option Str))
def gO (a : Str) : Option Str:=(lk ways a).bind id
def keyL : List Str:=ways.map (·.1)
def gK (a : Str) : Option Str:=(gO ways a).bind fun y=>if y ∈ keyL ways then some y else none
def itN : Nat → Str → Option Str
  | 0,a=>some a
  | n + 1,a=>(itN n a).bind (gK ways)
def InjW : Prop:=∀ a b y,gO ways a = some y → gO ways b = some y → a = b
end
theorem fm_inj : ∀ {ways : List (Str × Option Str)},(ways.filterMap (·.2)).Nodup → ∀ {a b y : Str},(a,some y) ∈ ways → (b,some y) ∈ ways → (ways.map (·.1)).Nodup → a = b
  | [],_,a,b,y,h,_,_=>by cases h
  | (c,o) :: ways,hn,a,b,y,h1,h2,hf=>by
    have hf':=(List.nodup_cons.mp hf).2
    have sub : ∀ {d : Str},(d,some y) ∈ ways → y ∈ ways.filterMap (·.2):=fun {d} h=>List.mem_filterMap.mpr ⟨_,h,rfl⟩
    cases o with
    | none =>
      have hn' : (ways.filterMap (·.2)).Nodup:=by simpa using hn
      have k1 : (a,some y) ∈ ways:=by
        rcases List.mem_cons.mp h1 with e | h
        · cases e
        · exact h
      have k2 : (b,some y) ∈ ways:=by
        rcases List.mem_cons.mp h2 with e | h
        · cases e
        · exact h
      exact fm_inj hn' k1 k2 hf'
    | some z =>
      have hn' : (z :: ways.filterMap (·.2)).Nodup:=by simpa using hn
      obtain ⟨n1,n2⟩:=List.nodup_cons.mp hn'
      rcases List.mem_cons.mp h1 with e1 | k1
      · rcases List.mem_cons.mp h2 with e2 | k2
        · cases e1
          cases e2
          rfl
        · cases e1
          exact absurd (sub k2) n1
      · rcases List.mem_cons.mp h2 with e2 | k2
        · cases e2
          exact absurd (sub k1) n1
        · exact fm_inj n2 k1 k2 hf'
theorem gO_mem {ways : List (Str × Option Str)} {a y : Str} (h : gO ways a = some y) : (a,some y) ∈ ways:=by
  unfold gO at h
  cases q : lk ways a with
  | none=>rw [q] at h; cases h
  | some o =>
    rw [q] at h
    have h : o = some y:=h
    rw [h] at q
    exact lk_some q
theorem injW {ways : List (Str × Option Str)} (nd : (ways.map (·.1)).Nodup) (sn : (ways.filterMap (·.2)).Nodup) : InjW ways:=fun a b y h1 h2=>fm_inj sn (gO_mem h1) (gO_mem h2) nd
section
variable {ways : List (Str × Option Str)}
theorem gK_some {a y : Str} : gK ways a = some y ↔ gO ways a = some y ∧ y ∈ keyL ways:=by
  unfold gK
  cases gO ways a with
  | none=>simp
  | some z =>
    by_cases h : z ∈ keyL ways
    · simp [h]
      intro e
      rw [← e]
      exact h
    · simp [h]
      intro e
      rw [← e]
      exact h
theorem gK_inj (I : InjW ways) {a b y : Str} (h1 : gK ways a = some y) (h2 : gK ways b = some y) : a = b:=I a b y (gK_some.mp h1).1 (gK_some.mp h2).1
theorem itN_succ (n : Nat) (a : Str) : itN ways (n + 1) a = (itN ways n a).bind (gK ways):=rfl
end
theorem sub_len : ∀ (l m : List Str),l.Nodup → (∀ x ∈ l,x ∈ m) → l.length ≤ m.length
  | [],m,_,_=>by simp
  | a :: l,m,nd,h=>by
    obtain ⟨n1,n2⟩:=List.nodup_cons.mp nd
    have ha:=h a (by simp)
    have:=sub_len l (m.erase a) n2 fun x hx=>(List.mem_erase_of_ne (fun e : x = a=>n1 (by rw [← e]; exact hx))).mpr (h x (by simp [hx]))
    rw [List.length_erase_of_mem ha] at this
    have hm : 0 < m.length:=List.length_pos_of_mem ha
    rw [List.length_cons]
    omega
section
variable {ways : List (Str × Option Str)}
def lin (ways : List (Str × Option Str)) (box : Str) : Nat → List Str → Str → List Str × Option Str
  | 0,pre,cur=>(pre ++ [cur],gO ways cur)
  | k + 1,pre,cur=>match gK ways cur with
    | some y=>if y = box then (pre ++ [cur],gO ways cur) else lin ways box k (pre ++ [cur]) y
    | none=>(pre ++ [cur],gO ways cur)
structure LInv (ways : List (Str × Option Str)) (box : Str) (pre : List Str) (cur : Str) : Prop where
  nd : (pre ++ [cur]).Nodup
  key : ∀ y ∈ pre ++ [cur],y ∈ keyL ways
  hd : box ∈ pre ++ [cur]
  back : ∀ y ∈ pre ++ [cur],y ≠ box → ∃ z ∈ pre,gK ways z = some y
  orb : ∀ y ∈ pre ++ [cur],∃ n,itN ways n box = some y
  cl : ∀ z ∈ pre,∃ y ∈ pre ++ [cur],gK ways z = some y ∧ y ≠ box
theorem LInv.start {box : Str} (h : box ∈ keyL ways) : LInv ways box [] box where
  nd:=by simp
  key:=fun y hy=>by
    have : y = box:=by simpa using hy
    rw [this]
    exact h
  hd:=by simp
  back:=fun y hy n=>absurd (by simpa using hy) n
  orb:=fun y hy=>⟨0,by
    have : y = box:=by simpa using hy
    rw [this]
    rfl⟩
  cl:=fun z hz=>by cases hz
theorem LInv.new (I : InjW ways) {box : Str} {pre : List Str} {cur y : Str} (L : LInv ways box pre cur) (h : gK ways cur = some y) (n : y ≠ box) : y ∉ pre ++ [cur]:=fun hy=>by
  obtain ⟨z,hz,e⟩:=L.back y hy n
  have:=gK_inj I e h
  rw [this] at hz
  have nd:=List.nodup_append.mp L.nd
  exact nd.2.2 cur hz cur (by simp) rfl
theorem LInv.step (I : InjW ways) {box : Str} {pre : List Str} {cur y : Str} (L : LInv ways box pre cur) (h : gK ways cur = some y) (n : y ≠ box) : LInv ways box (pre ++ [cur]) y where
  nd:=by
    refine List.nodup_append.mpr ⟨L.nd,by simp,fun a ha b hb e=>?_⟩
    have : b = y:=by simpa using hb
    rw [e,this] at ha
    exact L.new I h n ha
  key:=fun x hx=>by
    rcases List.mem_append.mp hx with hx | hx
    · exact L.key x hx
    · have : x = y:=by simpa using hx
      rw [this]
      exact (gK_some.mp h).2
  hd:=List.mem_append.mpr (.inl L.hd)
  back:=fun x hx hn=>by
    rcases List.mem_append.mp hx with hx | hx
    · obtain ⟨z,hz,e⟩:=L.back x hx hn
      exact ⟨z,by simp [hz],e⟩
    · have : x = y:=by simpa using hx
      rw [this]
      exact ⟨cur,by simp,h⟩
  orb:=fun x hx=>by
    rcases List.mem_append.mp hx with hx | hx
    · exact L.orb x hx
    · have : x = y:=by simpa using hx
      rw [this]
      obtain ⟨k,hk⟩:=L.orb cur (by simp)
      exact ⟨k + 1,by rw [itN_succ,hk]; exact h⟩
  cl:=fun z hz=>by
    rcases List.mem_append.mp hz with hz | hz
    · obtain ⟨x,hx,e⟩:=L.cl z hz
      exact ⟨x,List.mem_append.mpr (.inl hx),e⟩
    · have : z = cur:=by simpa using hz
      rw [this]
      exact ⟨y,by simp,h,n⟩
def LEnd (ways : List (Str × Option Str)) (box : Str) (r : List Str × Option Str) : Prop :=
  ∃ pre cur,r = (pre ++ [cur],gO ways cur) ∧ LInv ways box pre cur ∧ ∀ y,gK ways cur = some y → y = box
theorem lin_end (I : InjW ways) {box : Str} : ∀ (k : Nat) (pre : List Str) (cur : Str),LInv ways box pre cur → (keyL ways).length ≤ k + (pre.length + 1) → LEnd ways box (lin ways box k pre cur)
  | 0,pre,cur,L,hk=>⟨pre,cur,rfl,L,fun y hy=>by
      refine Decidable.byContradiction fun hn=>?_
      have S:=L.step I hy hn
      have:=sub_len _ _ S.nd S.key
      simp at this
      omega⟩
  | k + 1,pre,cur,L,hk=>by
    unfold lin
    cases q : gK ways cur with
    | none=>exact ⟨pre,cur,rfl,L,fun y hy=>by rw [q] at hy; cases hy⟩
    | some y =>
      by_cases hy : y = box
      · simp only [hy,if_true]
        exact ⟨pre,cur,rfl,L,fun z hz=>by rw [q] at hz; cases hz; exact hy⟩
      · simp only [hy,if_false]
        exact lin_end I k (pre ++ [cur]) y (L.step I q hy) (by simp; omega)
theorem LEnd.mem {box : Str} {r : List Str × Option Str} (E : LEnd ways box r) {y : Str} : y ∈ r.1 ↔ ∃ n,itN ways n box = some y:=by
  obtain ⟨pre,cur,rfl,L,st⟩:=E
  constructor
  · exact L.orb y
  · intro ⟨n,hn⟩
    induction n generalizing y with
    | zero =>
      cases hn
      exact L.hd
    | succ n ih =>
      rw [itN_succ] at hn
      cases q : itN ways n box with
      | none=>rw [q] at hn; cases hn
      | some x =>
        rw [q] at hn
        have hn : gK ways x = some y:=hn
        rcases List.mem_append.mp (ih q) with hx | hx
        · obtain ⟨z,hz,e,_⟩:=L.cl x hx
          rw [hn] at e
          cases e
          exact hz
        · have : x = cur:=by simpa using hx
          rw [this] at hn
          rw [st y hn]
          exact L.hd
theorem LEnd.nd {box : Str} {r : List Str × Option Str} (E : LEnd ways box r) : r.1.Nodup:=by
  obtain ⟨pre,cur,rfl,L,st⟩:=E
  exact L.nd
theorem LEnd.key {box : Str} {r : List Str × Option Str} (E : LEnd ways box r) : ∀ y ∈ r.1,y ∈ keyL ways:=by
  obtain ⟨pre,cur,rfl,L,st⟩:=E
  exact L.key
end
def lineOf (ways : List (Str × Option Str)) (b : Str) : List Str × Option Str:=lin ways b (keyL ways).length [] b
def ringB (ways : List (Str × Option Str)) (b : Str) : Bool:=decide ((lineOf ways b).2 = some b) && (decide (1 < (lineOf ways b).1.length) && (lineOf ways b).1.all fun y=>sLe b y)
def chainB (ways : List (Str × Option Str)) (b : Str) : Bool:=!decide (some b ∈ ways.map (·.2))
section
variable {ways : List (Str × Option Str)}
theorem line_end (I : InjW ways) {b : Str} (hb : b ∈ keyL ways) : LEnd ways b (lineOf ways b):=lin_end I _ _ _ (LInv.start hb) (by simp)
theorem sLe_self (a : Str) : sLe a a = true:=by
  unfold sLe dLe
  rw [PySem.W.dataLt_str,Bool.not_eq_true',decide_eq_false_iff_not]
  exact List.lt_irrefl _
theorem sLe_anti {a b : Str} (h : sLe a b = true) (h' : sLe b a = true) : a = b:=inj_str a b (dLe_anti h h')
end
section
variable {ways : List (Str × Option Str)}
abbrev gD (ways : List (Str × Option Str)) : D:=.dict (kvD oD ways)
theorem goal_ix {a : Str} (h : a ∈ keyL ways) : o2 ixD (gD ways) (.str a) = .ok (oD (gO ways a)):=by
  have : (lk ways a).isSome = true:=by
    rw [lk_isSome]
    exact decide_eq_true h
  obtain ⟨o,e⟩:=Option.isSome_iff_exists.mp this
  rw [o2_ixkv,e]
  unfold gO
  rw [e]
  rfl
def inO (ways : List (Str × Option Str)) : Option Str → Bool
  | none=>false
  | some y=>decide (y ∈ keyL ways)
theorem goal_in (o : Option Str) : o2 inE (oD o) (gD ways) = .ok (.bool (inO ways o)):=by
  cases o with
  | none=>exact inE_n _ _
  | some y =>
    show o2 inE (.str y) _ = _
    rw [inE_s,o2_inkv,lk_isSome]
    rfl
theorem goal_nin (o : Option Str) : o2 notInE (oD o) (gD ways) = .ok (.bool (!inO ways o)):=by
  cases o with
  | none=>exact notInE_n _ _
  | some y =>
    show o2 notInE (.str y) _ = _
    rw [notInE_s,o2_ninkv,lk_isSome]
    rfl
theorem ne_o (o : Option Str) (b : Str) : o2 neD (oD o) (.str b) = .ok (.bool (!decide (o = some b))):=by
  cases o with
  | none=>simp [oD]
  | some y =>
    show o2 neD (.str y) (.str b) = _
    rw [o2_nes]
    congr 3
    apply Bool.eq_iff_iff.mpr
    simp
theorem inO_gK {a : Str} : inO ways (gO ways a) = (gK ways a).isSome:=by
  unfold gK
  cases gO ways a with
  | none=>rfl
  | some y =>
    by_cases h : y ∈ keyL ways <;> simp [inO,h]
theorem gK_gO {a y : Str} (h : gK ways a = some y) : gO ways a = some y:=(gK_some.mp h).1
theorem lin_stop {box : Str} {pre : List Str} {cur : Str} (k : Nat) (h : ∀ y,gK ways cur = some y → y = box) : lin ways box k pre cur = (pre ++ [cur],gO ways cur):=by
  cases k with
  | zero=>rfl
  | succ k =>
    unfold lin
    cases q : gK ways cur with
    | none=>rfl
    | some y =>
      have:=h y q
      simp [this]
theorem lin_go (I : InjW ways) {box : Str} {pre : List Str} {cur y : Str} {k : Nat} (L : LInv ways box pre cur) (hk : (keyL ways).length ≤ k + (pre.length + 1)) (h : gK ways cur = some y) (n : y ≠ box) : ∃ j,k = j + 1 ∧ lin ways box k pre cur = lin ways box j (pre ++ [cur]) y:=by
  cases k with
  | zero =>
    have S:=L.step I h n
    have:=sub_len _ _ S.nd S.key
    simp at this
    omega
  | succ k =>
    refine ⟨k,rfl,?_⟩
    show (match gK ways cur with
    | some y=>if y = box then (pre ++ [cur],gO ways cur) else lin ways box k (pre ++ [cur]) y
    | none=>(pre ++ [cur],gO ways cur)) = _
    rw [h]
    simp [n]
theorem sts_snoc (pre : List Str) (cur : Str) : sts (pre ++ [cur]) = sts pre ++ [.str cur]:=by simp
theorem last_ix (pre : List Str) (cur : Str) : o2 ixD (.list (sts (pre ++ [cur]))) (.int (-1)) = .ok (.str cur):=by
  rw [sts_snoc]
  exact o2_ixm1
theorem app_str {l : List Str} (h : l.length < 1000) (y : Str) : apR (sts l) (.str y) = .ok (.list (sts (l ++ [y]))):=by
  rw [apR_ok (by rw [List.length_map]; omega),sts_snoc]
theorem row_loop (I : InjW ways) {box : Str} : ∀ (k fuel : Nat) (pre : List Str) (cur : Str),LInv ways box pre cur → (keyL ways).length ≤ k + (pre.length + 1) → k < fuel → pre.length + k < 900 →
    whileR (fun (s1 : D)=>(o1 negD (.int (1))).bind fun z4 =>
  (o2 ixD s1 z4).bind fun z5 =>
  (o2 ixD (gD ways) z5).bind fun z6 =>
  (o2 inE z6 (gD ways)).bind fun z7 =>
  (boR z7).bind fun b8 =>
  ((if b8 = true then (o1 negD (.int (1))).bind fun z10 =>
  (o2 ixD s1 z10).bind fun z11 =>
  (o2 ixD (gD ways) z11).bind fun z12 =>
  (o2 neD z12 (.str box)).bind fun z13 =>
  (boR z13).bind fun b14 =>
  .ok b14 else .ok false) : R (Bool)).bind fun b9 =>
  if b9 = true then
  (lsR s1).bind fun l15 =>
  (o1 negD (.int (1))).bind fun z17 =>
  (o2 ixD s1 z17).bind fun z18 =>
  (o2 ixD (gD ways) z18).bind fun z19 =>
  (apR l15 z19).bind fun z16 =>
  .ok (.nx z16)
  else
  .ok (.bk s1)) fuel (.list (sts (pre ++ [cur]))) = .ok (.nx (.list (sts (lin ways box k pre cur).1)))
  | k,0,pre,cur,L,hk,hf,hb=>by omega
  | k,f + 1,pre,cur,L,hk,hf,hb=>by
    have kc:=L.key cur (by simp)
    cases q : gK ways cur with
    | none =>
      rw [lin_stop k (fun y hy=>by rw [q] at hy; cases hy)]
      simp only [whileR,o1_neg,R.bind_ok,last_ix,goal_ix kc,goal_in,inO_gK,q,Option.isSome_none,boR_b,Bool.false_eq_true,if_false]
    | some y =>
      have hi : inO ways (some y) = true:=decide_eq_true (gK_some.mp q).2
      by_cases hy : y = box
      · rw [lin_stop k (fun z hz=>by rw [q] at hz; cases hz; exact hy)]
        have g:=gK_gO q
        have hz : (!decide (some y = some box)) = false:=by simp [hy]
        simp only [whileR,o1_neg,R.bind_ok,last_ix,goal_ix kc,goal_in,hi,boR_b,if_true,g,ne_o,hz,Bool.false_eq_true,if_false]
      · obtain ⟨j,rfl,e⟩:=lin_go I L hk q hy
        rw [e,← row_loop I j f (pre ++ [cur]) y (L.step I q hy) (by simp; omega) (by omega) (by simp; omega)]
        have g:=gK_gO q
        have hz : (!decide (some y = some box)) = true:=by simp [hy]
        have ap : apR (sts (pre ++ [cur])) (oD (some y)) = .ok (.list (sts (pre ++ [cur] ++ [y]))):=app_str (by simp; omega) y
        rw [whileR]
        simp only [o1_neg,R.bind_ok,last_ix,goal_ix kc,goal_in,hi,boR_b,if_true,g,ne_o,hz,lsR_l,ap]
theorem safe_loop (I : InjW ways) {box : Str} (kb : box ∈ keyL ways) : ∀ (k fuel : Nat) (pre : List Str) (cur : Str),LInv ways box pre cur → (keyL ways).length ≤ k + (pre.length + 1) → k < fuel → pre.length + k < 900 →
    whileR (fun (s1 : D)=>(o1 negD (.int (1))).bind fun z4 =>
  (o2 ixD s1 z4).bind fun z5 =>
  (o2 ixD (gD ways) z5).bind fun z6 =>
  (o2 neD z6 (.str box)).bind fun z7 =>
  (boR z7).bind fun b8 =>
  if b8 = true then
  (o1 negD (.int (1))).bind fun z9 =>
  (o2 ixD s1 z9).bind fun z10 =>
  (o2 ixD (gD ways) z10).bind fun z11 =>
  (o2 notInE z11 (gD ways)).bind fun z12 =>
  (boR z12).bind fun b13 =>
  if b13 = true then
  .ok (.rt (.none) .none)
  else
  (lsR s1).bind fun l15 =>
  (o1 negD (.int (1))).bind fun z17 =>
  (o2 ixD s1 z17).bind fun z18 =>
  (o2 ixD (gD ways) z18).bind fun z19 =>
  (apR l15 z19).bind fun z16 =>
  .ok (.nx z16)
  else
  .ok (.bk s1)) fuel (.list (sts (pre ++ [cur]))) = .ok (if (lin ways box k pre cur).2 = some box then .nx (.list (sts (lin ways box k pre cur).1)) else .rt .none .none)
  | k,0,pre,cur,L,hk,hf,hb=>by omega
  | k,f + 1,pre,cur,L,hk,hf,hb=>by
    have kc:=L.key cur (by simp)
    cases q : gK ways cur with
    | none =>
      have hn : ¬ gO ways cur = some box:=fun e=>by
        rw [gK_some.mpr ⟨e,kb⟩] at q
        cases q
      rw [lin_stop k (fun y hy=>by rw [q] at hy; cases hy)]
      simp only [whileR,o1_neg,R.bind_ok,last_ix,goal_ix kc,goal_nin,ne_o,inO_gK,q,Option.isSome_none,boR_b,Bool.not_false,if_true,hn,decide_false,if_false]
    | some y =>
      have g:=gK_gO q
      by_cases hy : y = box
      · rw [lin_stop k (fun z hz=>by rw [q] at hz; cases hz; exact hy)]
        have hz : gO ways cur = some box:=by rw [g,hy]
        simp only [whileR,o1_neg,R.bind_ok,last_ix,goal_ix kc,ne_o,hz,decide_true,Bool.not_true,boR_b,Bool.false_eq_true,if_false,if_true]
      · obtain ⟨j,rfl,e⟩:=lin_go I L hk q hy
        rw [e,← safe_loop I kb j f (pre ++ [cur]) y (L.step I q hy) (by simp; omega) (by omega) (by simp; omega)]
        have hz : (!decide (some y = some box)) = true:=by simp [hy]
        have hi : inO ways (some y) = true:=decide_eq_true (gK_some.mp q).2
        have ap : apR (sts (pre ++ [cur])) (oD (some y)) = .ok (.list (sts (pre ++ [cur] ++ [y]))):=app_str (by simp; omega) y
        rw [whileR]
        simp only [o1_neg,R.bind_ok,last_ix,goal_ix kc,goal_nin,boR_b,if_true,g,ne_o,hz,hi,Bool.not_true,Bool.false_eq_true,if_false,lsR_l,ap]
end
theorem foldR_app {α : Type} {f : D → α → R D} {g : α → List D} : ∀ {l : List α} {acc : List D},(∀ acc a,a ∈ l → acc.length < 5000 → f (.list acc) a = .ok (.list (acc ++ g a))) → (∀ a ∈ l,(g a).length ≤ 1) → acc.length + l.length ≤ 5000 → foldR f (.list acc) l = .ok (.list (acc ++ l.flatMap g))
  | [],acc,_,_,_=>by simp [foldR]
  | a :: l,acc,hf,hg,hb=>by
    have h1:=hg a (by simp)
    rw [List.length_cons] at hb
    rw [foldR,hf acc a (by simp) (by omega),R.bind_ok,foldR_app (l:=l) (fun acc b hm=>hf acc b (by simp [hm])) (fun b hm=>hg b (by simp [hm])) (by rw [List.length_append]; omega),List.flatMap_cons,List.append_assoc]
theorem sLe_tot (a b : Str) : sLe a b = true ∨ sLe b a = true:=by
  have e : ∀ x y : Str,sLe x y = !decide (y.cps.toList < x.cps.toList):=fun x y=>by
    unfold sLe dLe
    rw [PySem.W.dataLt_str]
  rw [e,e]
  by_cases h : b.cps.toList < a.cps.toList
  · right
    have:=List.lt_asymm h
    simp [this]
  · left
    simp [h]
def minS (x : Str) (xs : List Str) : Str:=xs.foldl (fun a y=>if sLe a y = true then a else y) x
theorem minD_s : ∀ (xs : List Str) (x : Str),PySem.W.minD (.str x) (sts xs) = .str (minS x xs)
  | [],x=>rfl
  | y :: ys,x=>by
    have ih:=minD_s ys
    unfold PySem.W.minD minS at *
    show List.foldl _ (if PySem.W.dataLt (.str y) (.str x) = true then PyData.str y else PyData.str x) (sts ys) = _
    rw [List.foldl_cons]
    have e : sLe x y = !PySem.W.dataLt (.str y) (.str x):=rfl
    cases q : PySem.W.dataLt (.str y) (.str x) with
    | true =>
      rw [q] at e
      rw [e,if_pos rfl]
      exact ih y
    | false =>
      rw [q] at e
      rw [e,if_neg (by decide)]
      exact ih x
theorem sLe_trans {a b c : Str} (h1 : sLe a b = true) (h2 : sLe b c = true) : sLe a c = true:=by
  have s:=sortS_sorted [a,b,c]
  by_cases hac : sLe a c = true
  · exact hac
  · have hca:=(sLe_tot a c).resolve_left hac
    exfalso
    have e : ∀ x y : Str,sLe x y = true ↔ ¬ y.cps.toList < x.cps.toList:=fun x y=>by
      unfold sLe dLe
      rw [PySem.W.dataLt_str,Bool.not_eq_true',decide_eq_false_iff_not]
    rw [e] at h1 h2 hac
    have:=List.le_trans (l₁:=a.cps.toList) (l₂:=b.cps.toList) (l₃:=c.cps.toList) h1 h2
    exact hac this
theorem minS_le : ∀ (xs : List Str) (x : Str),sLe (minS x xs) x = true ∧ ∀ y ∈ xs,sLe (minS x xs) y = true
  | [],x=>⟨sLe_self x,fun y hy=>by cases hy⟩
  | y :: ys,x=>by
    show sLe (minS (if sLe x y = true then x else y) ys) x = true ∧ ∀ z ∈ y :: ys,sLe (minS (if sLe x y = true then x else y) ys) z = true
    by_cases h : sLe x y = true
    · rw [if_pos h]
      obtain ⟨i1,i2⟩:=minS_le ys x
      refine ⟨i1,fun z hz=>?_⟩
      rcases List.mem_cons.mp hz with rfl | hz
      · exact sLe_trans i1 h
      · exact i2 z hz
    · rw [if_neg h]
      obtain ⟨i1,i2⟩:=minS_le ys y
      have h':=(sLe_tot x y).resolve_left h
      refine ⟨sLe_trans i1 h',fun z hz=>?_⟩
      rcases List.mem_cons.mp hz with rfl | hz
      · exact i1
      · exact i2 z hz
theorem minS_mem : ∀ (xs : List Str) (x : Str),minS x xs ∈ x :: xs
  | [],x=>by simp [minS]
  | y :: ys,x=>by
    show minS (if sLe x y = true then x else y) ys ∈ _
    by_cases h : sLe x y = true
    · rw [if_pos h]
      rcases List.mem_cons.mp (minS_mem ys x) with e | e
      · rw [e]; simp
      · simp [e]
    · rw [if_neg h]
      have:=minS_mem ys y
      exact List.mem_cons_of_mem _ this
theorem allStr_sts : ∀ l : List Str,allStr (sts l) = true
  | []=>rfl
  | a :: l=>allStr_sts l
theorem min_ok {l : List Str} {b : Str} (ok : OkS l) (hb : b ∈ l) : ∃ m,o1 min1D (.list (sts l)) = .ok (.str m) ∧ (b == m) = l.all fun y=>sLe b y:=by
  cases l with
  | nil=>cases hb
  | cons x xs =>
    refine ⟨minS x xs,?_,?_⟩
    · refine o1_some (v:=.s (.str (minS x xs))) ?_
      have sh : (sts (x :: xs)).all SeqAt.shaped = true:=List.all_eq_true.mpr fun d hd=>by
        obtain ⟨y,rfl,hy⟩:=mem_strs hd
        exact shaped_str (ok y hy)
      show (if (allStr (sts (x :: xs)) && (sts (x :: xs)).all SeqAt.shaped) || allInt (sts (x :: xs)) then some (Xv.s (PySem.W.minD (.str x) (sts xs))) else none) = _
      rw [allStr_sts,sh,minD_s]
      rfl
    · apply Bool.eq_iff_iff.mpr
      rw [beq_iff_eq,List.all_eq_true]
      obtain ⟨i1,i2⟩:=minS_le xs x
      constructor
      · intro e y hy
        rw [e]
        rcases List.mem_cons.mp hy with rfl | hy
        · exact i1
        · exact i2 y hy
      · intro h
        refine sLe_anti (h _ (minS_mem xs x)) ?_
        rcases List.mem_cons.mp hb with rfl | hb
        · exact i1
        · exact i2 b hb
section
variable {ways : List (Str × Option Str)}
theorem row_from_ok (I : InjW ways) {b : Str} (hb : b ∈ keyL ways) (hl : (keyL ways).length ≤ 100) : p_row_from (gD ways) (.str b) = .ok (.list (sts (lineOf ways b).1)):=by
  have:=row_loop I (keyL ways).length 200 [] b (LInv.start hb) (by simp) (by omega) (by simp; omega)
  unfold p_row_from
  rw [show (PyData.list [.str b]) = .list (sts ([] ++ [b])) from rfl,this]
  rfl
theorem safe_ok (I : InjW ways) {b : Str} (hb : b ∈ keyL ways) (hl : (keyL ways).length ≤ 100) : p_row_from_safe (gD ways) (.str b) = .ok (if (lineOf ways b).2 = some b then .list (sts (lineOf ways b).1) else .none):=by
  have:=safe_loop I hb (keyL ways).length 200 [] b (LInv.start hb) (by simp) (by omega) (by simp; omega)
  unfold p_row_from_safe
  rw [show (PyData.list [.str b]) = .list (sts ([] ++ [b])) from rfl,this]
  by_cases h : (lineOf ways b).2 = some b
  · have h' : (lin ways b (keyL ways).length [] b).2 = some b:=h
    rw [if_pos h',if_pos h]
    rfl
  · have h' : ¬ (lin ways b (keyL ways).length [] b).2 = some b:=h
    rw [if_neg h',if_neg h]
    rfl
def ringG (ways : List (Str × Option Str)) (b : Str) : List D:=if ringB ways b = true then [.tuple (sts (lineOf ways b).1)] else []
def chainG (ways : List (Str × Option Str)) (b : Str) : List D:=if chainB ways b = true then [.tuple (sts (lineOf ways b).1)] else []
theorem ringG_len (b : Str) : (ringG ways b).length ≤ 1:=by unfold ringG; split <;> simp
theorem chainG_len (b : Str) : (chainG ways b).length ≤ 1:=by unfold chainG; split <;> simp
theorem line_ok (I : InjW ways) (ok : OkS (keyL ways)) {b : Str} (hb : b ∈ keyL ways) : OkS (lineOf ways b).1:=fun x hx=>ok x ((line_end I hb).key x hx)
theorem line_self (I : InjW ways) {b : Str} (hb : b ∈ keyL ways) : b ∈ (lineOf ways b).1:=(line_end I hb).mem.mpr ⟨0,rfl⟩
theorem mem_keys {b : Str} (h : b ∈ sortS (ways.map (·.1))) : b ∈ keyL ways:=(sortS_perm _).mem_iff.mp h
theorem len_keys (ways : List (Str × Option Str)) : (sortS (ways.map (·.1))).length = (keyL ways).length:=(sortS_perm _).length_eq
theorem len_gt (l : List Str) : (decide ((1 : Int) < ((sts l).length : Int))) = decide (1 < l.length):=by
  rw [List.length_map]
  apply Bool.eq_iff_iff.mpr
  rw [decide_eq_true_iff,decide_eq_true_iff]
  omega
theorem rings_ok {J : D} {sp : List Str} (hJ : p_tupled 60 J = .ok (jobD sp ways)) (nd : (ways.map (·.1)).Nodup) (I : InjW ways) (ok : OkS (ways.map (·.1))) (hl : (keyL ways).length ≤ 100) :
    p_rings J = .ok (.tuple ((sortS (ways.map (·.1))).flatMap (ringG ways))):=by
  have g:=goal_of_ok hJ nd
  have st:=o1_sortkv (g:=oD) ok
  simp only [p_rings,g,R.bind_ok,st,itR_l,foldR_map]
  rw [foldR_app (g:=ringG ways) (acc:=[]) ?_ (fun b _=>ringG_len b) (by rw [len_keys]; simp; omega)]
  · simp only [R.bind_ok,List.nil_append,o1_tupl]
  · intro acc b hb ha
    have kb:=mem_keys hb
    have sf:=safe_ok I kb hl
    have ap : ∀ d : D,apR acc d = .ok (.list (acc ++ [d])):=fun d=>apR_ok (by omega)
    unfold ringG ringB
    by_cases h1 : (lineOf ways b).2 = some b
    · rw [if_pos h1] at sf
      by_cases h2 : 1 < (lineOf ways b).1.length
      · obtain ⟨m,hm,em⟩:=min_ok (line_ok I ok kb) (line_self I kb)
        simp only [sf,R.bind_ok,o2_notN,isNone_l,Bool.not_false,boR_b,if_true,o1_lenl,o2_gti,len_gt,decide_eq_true h2,decide_eq_true h1,hm,o2_eqs,em,Bool.true_and]
        cases (lineOf ways b).1.all fun y=>sLe b y with
        | true=>simp only [if_true,lsR_l,R.bind_ok,o1_tupl,ap]
        | false=>simp only [Bool.false_eq_true,if_false,R.bind_ok,List.append_nil]
      · simp only [sf,R.bind_ok,o2_notN,isNone_l,Bool.not_false,boR_b,if_true,o1_lenl,o2_gti,len_gt,decide_eq_false h2,decide_eq_true h1,Bool.true_and,Bool.false_and,Bool.false_eq_true,if_false,List.append_nil]
    · rw [if_neg h1] at sf
      simp only [sf,R.bind_ok,o2_notN,isNone_n,Bool.not_true,boR_b,Bool.false_eq_true,if_false,decide_eq_false h1,Bool.false_and,List.append_nil]
theorem kv_vals (ways : List (Str × Option Str)) : (kvD oD ways).map (·.2) = ways.map fun w=>oD w.2:=by
  unfold kvD
  rw [List.map_map]
  rfl
theorem o1_sortX {d x : D} (h : o1 sortSetD d = .ok x) : o1 sortSetX d = .ok x:=by
  unfold o1 at h ⊢
  unfold sortSetX
  cases q : sortSetD d with
  | none=>rw [q] at h; cases h
  | some v=>rw [q] at h; exact h
theorem set_of_ok {l : List Str} (hl : l.length < 4000) (ok : OkS l) : p_set_of (.list (sts l)) = .ok (.tuple (sts (sortS (metS [] l)))):=by
  have h : o1 sortSetD (.list (sts l)) = .ok (.list (sts (sortS (metS [] l)))):=by
    refine o1_some (v:=.o (.list (sts (sortS (metS [] l))))) ?_
    unfold sortSetD setD seqD
    simp only [Option.bind_some,strsD_sts]
    rw [if_pos ⟨hl,List.all_eq_true.mpr ok⟩]
    rfl
  first | (simp only [p_set_of,h,R.bind_ok,o1_tupl]; done) | (simp only [p_set_of,o1_sortE h,R.bind_ok,o1_tupl]; done) | (simp only [p_set_of,o1_sortX h,R.bind_ok,o1_tupl]; done)
theorem filt_vals (ways : List (Str × Option Str)) : (((ways.map fun w=>oD w.2).filter fun x=>!isNone x).map fun x=>x) = sts (ways.filterMap (·.2)):=by
  rw [List.map_id']
  induction ways with
  | nil=>rfl
  | cons w ways ih =>
    obtain ⟨a,o⟩:=w
    cases o with
    | none=>simpa [List.filter_cons] using ih
    | some y=>simpa [List.filter_cons,oD] using ih
theorem ends_mem (b : Str) : (b ∈ sortS (metS [] (ways.filterMap (·.2)))) ↔ some b ∈ ways.map (·.2):=by
  rw [(sortS_perm _).mem_iff,metS_mem]
  constructor
  · intro h
    obtain ⟨w,hw,e⟩:=List.mem_filterMap.mp (h.resolve_left fun z=>by cases z)
    exact List.mem_map.mpr ⟨w,hw,e⟩
  · intro h
    obtain ⟨w,hw,e⟩:=List.mem_map.mp h
    exact .inr (List.mem_filterMap.mpr ⟨w,hw,e⟩)
theorem chains_ok {J : D} {sp : List Str} (hJ : p_tupled 60 J = .ok (jobD sp ways)) (nd : (ways.map (·.1)).Nodup) (I : InjW ways) (ok : OkS (ways.map (·.1))) (ok2 : OkS (ways.filterMap (·.2))) (hl : (keyL ways).length ≤ 100) :
    p_chains J = .ok (.tuple ((sortS (ways.map (·.1))).flatMap (chainG ways))):=by
  have g:=goal_of_ok hJ nd
  have st:=o1_sortkv (g:=oD) ok
  have ll : (ways.filterMap (·.2)).length < 4000:=by
    have:=List.length_filterMap_le (·.2) ways
    have e : (keyL ways).length = ways.length:=List.length_map ..
    omega
  simp only [p_chains,g,R.bind_ok,valuesR_d,kv_vals,fcR_map,o2_notN,boR_b,fcR_pure,filt_vals,set_of_ok ll ok2,st,itR_l,foldR_map]
  rw [foldR_app (g:=chainG ways) (acc:=[]) ?_ (fun b _=>chainG_len b) (by rw [len_keys]; simp; omega)]
  · simp only [R.bind_ok,List.nil_append,o1_tupl]
  · intro acc b hb ha
    have kb:=mem_keys hb
    have ap : ∀ d : D,apR acc d = .ok (.list (acc ++ [d])):=fun d=>apR_ok (by omega)
    unfold chainG chainB
    simp only [notInE_s,o2_nint,R.bind_ok,boR_b]
    by_cases h : some b ∈ ways.map (·.2)
    · have h':=(ends_mem b).mpr h
      simp only [decide_eq_true h,decide_eq_true h',Bool.not_true,Bool.false_eq_true,if_false,R.bind_ok,List.append_nil]
    · have h' : ¬ b ∈ sortS (metS [] (ways.filterMap (·.2))):=fun z=>h ((ends_mem b).mp z)
      simp only [decide_eq_false h,decide_eq_false h',Bool.not_false,if_true,lsR_l,R.bind_ok,row_from_ok I kb hl,o1_tupl,ap]
end
def ringsL (ways : List (Str × Option Str)) : List (List Str):=((sortS (ways.map (·.1))).filter (ringB ways)).map fun b=>(lineOf ways b).1
structure RingOk (ways : List (Str × Option Str)) (r : List Str) : Prop where
  nd : r.Nodup
  two : 1 < r.length
  key : ∀ m ∈ r,m ∈ keyL ways
  nxt : ∀ m ∈ r,∃ x ∈ r,gO ways m = some x
  prv : ∀ m ∈ r,∃ x ∈ r,gO ways x = some m
  ne : ∀ m ∈ r,gO ways m ≠ some m
  con : ∀ a ∈ r,∀ b ∈ r,∃ k,itN ways k a = some b
section
variable {sp : List Str} {ways : List (Str × Option Str)} {n : Nat}
theorem RingOk.all {r : List Str} (R : RingOk ways r) {X : Str → Prop} {a : Str} (ha : a ∈ r) (xa : X a) (cl : ∀ m ∈ r,X m → ∀ x,gO ways m = some x → X x) : ∀ m ∈ r,X m:=fun m hm=>by
  obtain ⟨k,ek⟩:=R.con a ha m hm
  have : ∀ (k : Nat) (z : Str),itN ways k a = some z → z ∈ r ∧ X z:=fun k=>by
    induction k with
    | zero =>
      intro z e
      cases e
      exact ⟨ha,xa⟩
    | succ k ih =>
      intro z e
      rw [itN_succ] at e
      cases q : itN ways k a with
      | none=>rw [q] at e; cases e
      | some w =>
        rw [q] at e
        obtain ⟨h1,h2⟩:=ih w q
        have g:=gK_gO e
        obtain ⟨x,hx,gx⟩:=R.nxt w h1
        rw [g] at gx
        cases gx
        exact ⟨hx,cl w h1 h2 _ g⟩
  exact (this k m ek).2
end
def asd (ways : List (Str × Option Str)) (p : Str × Str) : Prop:=p.1 ≠ p.2 ∧ gO ways p.2 ≠ some p.1
def hmB (ways : List (Str × Option Str)) (y : List (Str × Str)) (m : Str) : Bool:=match gO ways m with
  | none=>false
  | some x=>decide (lk y x = some m)
def shB (y : List (Str × Str)) (r : List Str) : Bool:=r.all fun m=>decide (lk y m = some m)
def pot (ways : List (Str × Option Str)) (y : List (Str × Str)) (r : List Str) : Nat:=r.countP (fun m=>!hmB ways y m) + (if shB y r = true then 1 else 0)
structure Btw (ways : List (Str × Option Str)) (y z : List (Str × Str)) (G : List Str) : Prop where
  stay : ∀ b,b ∉ G → ∀ p,(p,b) ∈ y ↔ (p,b) ∈ z
  own : ∀ b,(b,b) ∈ z → (b,b) ∈ y ∧ b ∉ G
  home : ∀ p b,(p,b) ∈ y → gO ways b = some p → (p,b) ∈ z ∧ b ∉ G
  late : ∀ p b,(p,b) ∈ z → asd ways (p,b) → b ∈ G → ∀ r ∈ ringsL ways,b ∈ r → ∀ m ∈ r,(m,m) ∈ y
  soon : ∀ p b,(p,b) ∈ y → asd ways (p,b) → b ∈ G → ∀ r ∈ ringsL ways,b ∈ r → ∀ m ∈ r,∀ x,gO ways m = some x → (x,m) ∈ z
  val : ∀ p b,(p,b) ∈ z → ∃ q,(q,b) ∈ y
  len : z.length ≤ y.length
  all : z.length = y.length → ∀ p b,(p,b) ∈ y → ∃ q,(q,b) ∈ z
  cnt : ∀ r ∈ ringsL ways,(G.filter fun g=>decide (g ∈ r)).length + pot ways z r = pot ways y r
  prs : ∀ g ∈ G,∃ p,(p,g) ∈ y
theorem Btw.trans {ways : List (Str × Option Str)} {y u z : List (Str × Str)} {G H : List Str} (A : Btw ways y u G) (B : Btw ways u z H) : Btw ways y z (G ++ H) where
  stay:=fun b hb p=>by
    rw [List.mem_append,not_or] at hb
    exact (A.stay b hb.1 p).trans (B.stay b hb.2 p)
  own:=fun b h=>by
    obtain ⟨h1,h2⟩:=B.own b h
    obtain ⟨h3,h4⟩:=A.own b h1
    exact ⟨h3,by rw [List.mem_append,not_or]; exact ⟨h4,h2⟩⟩
  home:=fun p b h g=>by
    obtain ⟨h1,h2⟩:=A.home p b h g
    obtain ⟨h3,h4⟩:=B.home p b h1 g
    exact ⟨h3,by rw [List.mem_append,not_or]; exact ⟨h2,h4⟩⟩
  late:=fun p b h as hb r hr br m hm=>by
    by_cases q : b ∈ H
    · exact (A.own m (B.late p b h as q r hr br m hm)).1
    · exact A.late p b ((B.stay b q p).mpr h) as ((List.mem_append.mp hb).resolve_right q) r hr br m hm
  soon:=fun p b h as hb r hr br m hm x g=>by
    by_cases q : b ∈ G
    · exact (B.home x m (A.soon p b h as q r hr br m hm x g) g).1
    · exact B.soon p b ((A.stay b q p).mp h) as ((List.mem_append.mp hb).resolve_left q) r hr br m hm x g
  val:=fun p b h=>by
    obtain ⟨q,hq⟩:=B.val p b h
    exact A.val q b hq
  len:=Nat.le_trans B.len A.len
  all:=fun e p b h=>by
    have h1:=A.len
    have h2:=B.len
    obtain ⟨q,hq⟩:=A.all (by omega) p b h
    exact B.all (by omega) q b hq
  cnt:=fun r hr=>by
    have h1:=A.cnt r hr
    have h2:=B.cnt r hr
    rw [List.filter_append,List.length_append]
    omega
  prs:=fun g hg=>by
    rcases List.mem_append.mp hg with h | h
    · exact A.prs g h
    · obtain ⟨q,hq⟩:=B.prs g h
      exact A.val q g hq
section
variable {α β : Type} [DecidableEq α]
structure KeyF (K : α → D) (k : α → NestedKey) : Prop where
  tup : ∀ a,∃ ds,K a = .tuple ds
  tk : ∀ a,tupK (K a) = some (k a)
  inj : ∀ a b,k a = k b → a = b
variable {K : α → D} {k : α → NestedKey} {V : β → D}
theorem KeyF.key (F : KeyF K k) (a : α) : keyOf (K a) = some (k a):=(tupK_some (F.tk a)).1
end
abbrev piD (p : Str × Int) : D:=.tuple [.str p.1,.int p.2]
abbrev szD (wi th : List (Str × Int)) : D:=.tuple [.tuple (wi.map piD),.tuple (th.map piD)]
theorem dLe_pi {a b : Str × Int} (h : sLe a.1 b.1 = true) (n : a.1 ≠ b.1) : dLe (piD a) (piD b) = true:=by
  have ne : (Sum.inr b.1.cps.toList : Int ⊕ List Nat) ≠ .inr a.1.cps.toList:=fun z=>n (PySem.W.str_of_cps (Sum.inr.inj z)).symm
  have e : PySem.W.dataLt (piD b) (piD a) = PySem.W.dataLt (.str b.1) (.str a.1):=by
    unfold PySem.W.dataLt
    simp only [PySem.W.keyToks,PySem.W.keyToksAll,List.cons_append,List.nil_append]
    rw [PySem.W.lex_atom ne [] []]
    exact (PySem.W.lex_pre [.inl 1] _ _).trans (PySem.W.lex_atom ne _ _)
  unfold sLe dLe at h
  unfold dLe
  rw [e]
  exact h
theorem inj_pi : InjK piD:=fun a b h=>by
  simp only [PySem.W.keyToks,PySem.W.keyToksAll,List.cons_append,List.nil_append,List.cons.injEq,Sum.inr.injEq,Sum.inl.injEq,and_true,true_and] at h
  obtain ⟨a1,a2⟩:=a
  obtain ⟨b1,b2⟩:=b
  have h1 : a1 = b1:=PySem.W.str_of_cps h.1
  have h2 : a2 = b2:=h.2
  rw [h1,h2]
theorem sortOk_pi {l : List (Str × Int)} (ok : ∀ p ∈ l,PyData.strOk p.1 = true) : sortOk (l.map piD) = true:=by
  unfold sortOk
  rw [Bool.and_eq_true,Bool.and_eq_true]
  refine ⟨List.all_eq_true.mpr fun d hd=>List.all_eq_true.mpr fun d' hd'=>?_,Bool.or_eq_true_iff.mpr (.inl (List.all_eq_true.mpr fun d hd=>?_)),List.all_eq_true.mpr fun d hd=>?_⟩
  · obtain ⟨x,_,rfl⟩:=List.mem_map.mp hd
    obtain ⟨y,_,rfl⟩:=List.mem_map.mp hd'
    simp [PySem.W.alike,PySem.W.alikeAll]
  · obtain ⟨x,_,rfl⟩:=List.mem_map.mp hd
    rfl
  · obtain ⟨x,hx,rfl⟩:=List.mem_map.mp hd
    have s:=sh_tup (sh_cons (sh_str (ok x hx)) (sh_cons (sh_int (b:=x.2)) sh_nil))
    unfold SeqAt.shaped
    rw [Bool.and_eq_true]
    exact ⟨s.1,decide_eq_true (Nat.le_trans s.2 (by decide))⟩
theorem sortI_pi {l : List (Str × Int)} (ok : ∀ p ∈ l,PyData.strOk p.1 = true) (srt : (l.map (·.1)).Pairwise fun a b=>sLe a b = true) (nd : (l.map (·.1)).Nodup) : o1 sortI (.dict (kvD PyData.int l)) = .ok (.list (l.map piD)):=by
  refine o1_some (v:=.o (.list (l.map piD))) ?_
  show (if (!nkv (kvD PyData.int l) && sortOk (pairsOf (kvD PyData.int l))) = true then some (Xv.o (.list (isort (pairsOf (kvD PyData.int l))))) else _) = _
  rw [nkv_kv,Bool.not_false,Bool.true_and]
  have e : pairsOf (kvD PyData.int l) = l.map piD:=kv_items l
  have s : sortE piD l = l:=sortE_self (enc:=piD) inj_pi (by
    have:=(List.pairwise_map.mp srt).and (List.pairwise_map.mp nd)
    exact this.imp fun h=>dLe_pi h.1 h.2)
  rw [e,if_pos (sortOk_pi ok),isort_map,s]
section
variable {J : D} {sp : List Str} {ways : List (Str × Option Str)} {wi th : List (Str × Int)}
def at0 (l : List (Str × Int)) (a : Str) : Int:=(lk l a).getD 0
theorem ix_at {l : List (Str × Int)} {a : Str} (h : a ∈ l.map (·.1)) : o2 ixD (.dict (kvD PyData.int l)) (.str a) = .ok (.int (at0 l a)):=by
  have : (lk l a).isSome = true:=by rw [lk_isSome]; simpa using h
  obtain ⟨v,hv⟩:=Option.isSome_iff_exists.mp this
  rw [o2_ixkv]
  unfold at0
  rw [hv]
  rfl
theorem tup_sz (wi th : List (Str × Int)) : p_tupled 60 (szD wi th) = .ok (szD wi th):=by
  have d1 : ∀ l : List (Str × Int),Nd 2 (.tuple (l.map piD)):=fun l=>nd_t (nd_map fun p _=>nd_t (nd_cons (nd_s _) (nd_cons (nd_i _) nd_nil)))
  have d : Nd 3 (szD wi th):=nd_t (nd_cons (d1 wi) (nd_cons (d1 th) nd_nil))
  rw [tupled_ok 60 _ (by have:=d.1; omega)]
  simp [List.map_map,Function.comp_def]
theorem tup_lsz (wi th : List (Str × Int)) : p_tupled 60 (lisT (szD wi th)) = .ok (szD wi th):=by
  have e : lisT (szD wi th) = .list [.list (wi.map fun p=>.list [.str p.1,.int p.2]),.list (th.map fun p=>.list [.str p.1,.int p.2])]:=by simp [List.map_map,Function.comp_def]
  have d1 : ∀ l : List (Str × Int),Nd 2 (.list (l.map fun p=>.list [.str p.1,.int p.2])):=fun l=>nd_l (nd_map fun p _=>nd_l (nd_cons (nd_s _) (nd_cons (nd_i _) nd_nil)))
  have d : Nd 3 (lisT (szD wi th)):=by
    rw [e]
    exact nd_l (nd_cons (d1 wi) (nd_cons (d1 th) nd_nil))
  rw [tupled_ok 60 _ (by have:=d.1; omega),e]
  simp [List.map_map,Function.comp_def]
theorem tables_ok {S : D} (hS : p_tupled 60 S = .ok (szD wi th)) (n1 : (wi.map (·.1)).Nodup) (n2 : (th.map (·.1)).Nodup) : p_tables_of S = .ok (.tuple [.dict (kvD PyData.int wi),.dict (kvD PyData.int th)]):=by
  unfold p_tables_of
  rw [hS,R.bind_ok,un2_t,R.bind_ok,o1_dictt (g:=PyData.int) n1,R.bind_ok,o1_dictt (g:=PyData.int) n2,R.bind_ok]
structure SzOk (sp : List Str) (ways : List (Str × Option Str)) (wi th : List (Str × Int)) : Prop where
  w : wi.map (·.1) = sp
  t : th.map (·.1) = ways.map (·.1)
end
theorem in_pair (x a : Str) (o : Option Str) : o2 inE (.str x) (.tuple [.str a,oD o]) = .ok (.bool (inSeq (.str x) [.str a,oD o])):=by
  rw [inE_u]
  cases o <;> rfl
theorem set_new {l : List (Str × Int)} {x : Str} {v : Int} (hx : x ∉ l.map (·.1)) (hl : l.length < 16777216) : seR (.dict (kvD PyData.int l)) (.str x) (.int v) = .ok (.dict (kvD PyData.int (l ++ [(x,v)]))):=by
  show (match keyIn (kvD PyData.int l) (.str x) with | some _=>if (kvD PyData.int l).length < sizeLine then R.ok (PyData.dict (putD (kvD PyData.int l) (.str x) (.int v))) else .bad | none=>.bad) = _
  rw [keyIn_kv]
  dsimp only
  rw [if_pos (by rw [sizeLine_eq]; unfold kvD; rw [List.length_map]; exact hl),putD_new (g:=PyData.int) hx]
theorem max_is (i : Int) (is : List Int) : o1 max1D (.list ((i :: is).map .int)) = .ok (.int (is.foldl max i)):=by
  have a : allInt ((i :: is).map PyData.int) = true:=List.all_eq_true.mpr fun d hd=>by
    obtain ⟨k,_,rfl⟩:=List.mem_map.mp hd
    rfl
  refine o1_some (v:=.s (.int (is.foldl max i))) ?_
  show (if ((allStr _ && _) || allInt ((i :: is).map PyData.int)) = true then some (Xv.s (PySem.W.maxD (.int i) (is.map PyData.int))) else none) = _
  rw [a,Bool.or_true,if_pos rfl,PySem.W.maxD_ints]
theorem min_is (i : Int) (is : List Int) : o1 min1D (.list ((i :: is).map .int)) = .ok (.int (is.foldl min i)):=by
  have a : allInt ((i :: is).map PyData.int) = true:=List.all_eq_true.mpr fun d hd=>by
    obtain ⟨k,_,rfl⟩:=List.mem_map.mp hd
    rfl
  refine o1_some (v:=.s (.int (is.foldl min i))) ?_
  show (if ((allStr _ && _) || allInt ((i :: is).map PyData.int)) = true then some (Xv.s (PySem.W.minD (.int i) (is.map PyData.int))) else none) = _
  rw [a,Bool.or_true,if_pos rfl,PySem.W.minD_ints]
theorem maxN_is (i : Int) (is : List Int) : o1 maxND (.list ((i :: is).map .int)) = .ok (.int (is.foldl max i)):=max_is i is
def maxI : List Int → Int
  | []=>0
  | i :: is=>is.foldl max i
def minI : List Int → Int
  | []=>0
  | i :: is=>is.foldl min i
theorem max_ok {is : List Int} (h : is ≠ []) : o1 max1D (.list (is.map .int)) = .ok (.int (maxI is)):=by
  cases is with
  | nil=>exact absurd rfl h
  | cons i is=>exact max_is i is
theorem maxN_ok {is : List Int} (h : is ≠ []) : o1 maxND (.list (is.map .int)) = .ok (.int (maxI is)):=by
  cases is with
  | nil=>exact absurd rfl h
  | cons i is=>exact maxN_is i is
theorem min_okI {is : List Int} (h : is ≠ []) : o1 min1D (.list (is.map .int)) = .ok (.int (minI is)):=by
  cases is with
  | nil=>exact absurd rfl h
  | cons i is=>exact min_is i is
section
variable {sp : List Str} {ways : List (Str × Option Str)} {wi th : List (Str × Int)} {n : Nat} {J S : D}
def beside (ways : List (Str × Option Str)) (b : Str) : List Str:=if chainB ways b = true then (lineOf ways b).1 ++ (lineOf ways b).2.toList else []
def poolL (sp : List Str) (ways : List (Str × Option Str)) : List Str:=(sp.filter fun x=>!decide (x ∈ ways.map (·.1))) ++ (sortS (ways.map (·.1))).flatMap (beside ways)
def holeD (sp : List Str) (ways : List (Str × Option Str)) (wi : List (Str × Int)) : D:=if poolL sp ways = [] then .none else .int (maxI ((poolL sp ways).map (at0 wi)))
theorem ints_at {l : List Str} (h : ∀ x ∈ l,x ∈ wi.map (·.1)) : mapR (fun d24=>(o2 ixD (.dict (kvD PyData.int wi)) d24).bind fun z25=>.ok z25) (sts l) = .ok ((l.map (at0 wi)).map .int):=by
  unfold sts
  rw [mapR_map,mapR_ok (g:=fun x=>PyData.int (at0 wi x)) fun x hx=>by rw [ix_at (h x hx),R.bind_ok],List.map_map]
  rfl
theorem line_shape (I : InjW ways) {b : Str} (hb : b ∈ keyL ways) : ∃ pre cur,(lineOf ways b).1 = pre ++ [cur] ∧ (lineOf ways b).2 = gO ways cur ∧ cur ∈ keyL ways ∧ (lineOf ways b).1.length ≤ (keyL ways).length:=by
  obtain ⟨pre,cur,e,L,_⟩:=line_end I hb
  have E:=line_end I hb
  have hc : cur ∈ (lineOf ways b).1:=by rw [e]; simp
  exact ⟨pre,cur,by rw [e],by rw [e],E.key cur hc,sub_len _ _ E.nd E.key⟩
theorem pool_in (j : JobOk n sp ways) : ∀ x ∈ poolL sp ways,x ∈ sp:=fun x hx=>by
  have I:=injW j.fst j.snd
  rcases List.mem_append.mp hx with hx | hx
  · exact (List.mem_filter.mp hx).1
  · obtain ⟨b,hb,hx⟩:=List.mem_flatMap.mp hx
    have kb:=mem_keys hb
    unfold beside at hx
    split at hx
    · rcases List.mem_append.mp hx with hx | hx
      · exact j.sub x ((line_end I kb).key x hx)
      · obtain ⟨pre,cur,_,e2,_⟩:=line_shape I kb
        rw [e2] at hx
        cases g : gO ways cur with
        | none=>rw [g] at hx; cases hx
        | some y =>
          rw [g] at hx
          rw [List.mem_singleton.mp hx]
          exact j.tgt y (List.mem_filterMap.mpr ⟨_,gO_mem g,rfl⟩)
    · cases hx
theorem beside_len (I : InjW ways) {b : Str} (hb : b ∈ keyL ways) (hl : (keyL ways).length ≤ 100) : (beside ways b).length ≤ 101:=by
  unfold beside
  split
  · obtain ⟨_,_,_,_,_,h1⟩:=line_shape I hb
    rw [List.length_append]
    have h2 : (lineOf ways b).2.toList.length ≤ 1:=by
      cases (lineOf ways b).2 <;> simp
    omega
  · simp
theorem foldR_two {α σ : Type} {f : σ → α → R σ} : ∀ (l r : List α) (s : σ),foldR f s (l ++ r) = (foldR f s l).bind fun s'=>foldR f s' r
  | [],r,s=>by rw [List.nil_append,foldR,R.bind_ok]
  | a :: l,r,s=>by
    rw [List.cons_append,foldR,foldR]
    cases f s a with
    | ok s1=>rw [R.bind_ok,R.bind_ok,foldR_two l r s1]
    | exc x=>rfl
    | bad=>rfl
theorem foldR_fm {f : D → D → R D} {cg bs : Str → List D} {M : Nat} : ∀ {ks : List Str} {acc : List D},(∀ b ∈ ks,∀ acc : List D,acc.length ≤ M → foldR f (.list acc) (cg b) = .ok (.list (acc ++ bs b))) → (∀ b ∈ ks,(bs b).length ≤ 101) → acc.length + ks.length * 101 ≤ M →
    foldR f (.list acc) (ks.flatMap cg) = .ok (.list (acc ++ ks.flatMap bs))
  | [],acc,_,_,_=>by simp [foldR]
  | b :: ks,acc,h,hb,hl=>by
    rw [List.length_cons,Nat.succ_mul] at hl
    have h1:=hb b (by simp)
    rw [List.flatMap_cons,List.flatMap_cons,foldR_two,h b (by simp) acc (by omega),R.bind_ok,foldR_fm (fun c hc=>h c (by simp [hc])) (fun c hc=>hb c (by simp [hc])) (by rw [List.length_append]; omega),List.append_assoc]
theorem some_only (l : List Str) (o : Option Str) : fcR (fun d19=>(o2 notND d19 (.none)).bind fun z20=>(boR z20).bind fun b21=>if b21 = true then .ok (some d19) else .ok none) (sts l ++ [oD o]) = .ok (sts (l ++ o.toList)):=by
  have e : sts l ++ [oD o] = (l.map some ++ [o]).map oD:=by
    rw [List.map_append,List.map_map]
    rfl
  have f : ∀ l : List Str,((l.map some).filter fun o=>!o.isNone) = l.map some:=fun l=>by
    induction l with
    | nil=>rfl
    | cons a l ih=>rw [List.map_cons,List.filter_cons,if_pos (by rfl),ih]
  rw [e,fcR_map,fcR_if (p:=fun o : Option Str=>!o.isNone) (g:=oD) fun o _=>by rw [o2_notN,isNone_oD,R.bind_ok,boR_b,R.bind_ok],List.filter_append,f]
  cases o with
  | none =>
    show R.ok ((l.map some ++ []).map oD) = R.ok (sts (l ++ []))
    rw [List.append_nil,List.append_nil,List.map_map]
    rfl
  | some x =>
    show R.ok ((l.map some ++ [some x]).map oD) = R.ok (sts (l ++ [x]))
    rw [List.map_append,List.map_map]
    simp only [List.map_append]
    rfl
theorem free_list (hJ : p_tupled 60 J = .ok (jobD sp ways)) : p_free_places J = .ok (.tuple (sts (sp.filter fun x=>!decide (x ∈ ways.map (·.1))))):=by
  have un : un2 (jobD sp ways) = .ok (.tuple (sts sp),.tuple (ways.map wayD)):=rfl
  have ks : mapR (fun d35=>(un2 d35).bind fun z36=>.ok z36.1) (ways.map wayD) = .ok (sts (ways.map (·.1))):=by
    rw [mapR_map,mapR_ok (g:=fun w : Str × Option Str=>PyData.str w.1) fun w _=>by rw [show wayD w = .tuple [.str w.1,oD w.2] from rfl,un2_t,R.bind_ok]]
    unfold sts
    rw [List.map_map]
    rfl
  have fl : fcR (fun d8=>(o2 notInE d8 (.list (sts (ways.map (·.1))))).bind fun z9=>(boR z9).bind fun b10=>if b10 = true then .ok (some d8) else .ok none) (sts sp) = .ok (sts (sp.filter fun x=>!decide (x ∈ ways.map (·.1)))):=by
    rw [show sts sp = sp.map PyData.str from rfl,fcR_map]
    exact fcR_if fun x _=>by rw [notInE_s,o2_ninl,R.bind_ok,boR_b,R.bind_ok]
  unfold p_free_places
  rw [hJ,R.bind_ok,un,R.bind_ok]
  dsimp only
  rw [itR_t,R.bind_ok]
  refine R.bind_eq ks ?_
  rw [itR_t,R.bind_ok]
  refine R.bind_eq fl ?_
  rw [o1_tupl,R.bind_ok]
theorem goal_at {cur : Str} (h : cur ∈ keyL ways) : o2 ixD (.dict (kvD oD ways)) (.str cur) = .ok (oD (gO ways cur)):=goal_ix h
theorem o2_ixtm1 {xs : List D} {x : D} : o2 ixD (.tuple (xs ++ [x])) (.int (-1)) = .ok x:=by
  have e : atI (xs ++ [x]) (-1) = some x:=by
    unfold atI ixN
    rw [if_neg (by decide),List.length_append,List.length_singleton,if_pos (by omega)]
    show (xs ++ [x])[(-1 + ((xs.length + 1 : Nat) : Int)).toNat]? = _
    rw [show (-1 + ((xs.length + 1 : Nat) : Int)).toNat = xs.length by omega]
    simp
  show (match sOf (atI (xs ++ [x]) (-1)) with | some v=>R.ok v.dat | none=>.bad) = _
  rw [e]; rfl
theorem last_t (pre : List Str) (cur : Str) : o2 ixD (.tuple (sts (pre ++ [cur]))) (.int (-1)) = .ok (.str cur):=by
  rw [sts_snoc]
  exact o2_ixtm1
end
section
variable {sp : List Str} {ways : List (Str × Option Str)} {wi th : List (Str × Int)} {n : Nat} {J S : D}
theorem hole_fold (j : JobOk n sp ways) (hl : ways.length ≤ 40) (f : D → D → R D) (acc : List D) (ha : acc.length ≤ 100)
    (hf : ∀ (acc : List D) (pre : List Str) (cur : Str),acc.length ≤ 5000 → (pre ++ [cur]).length ≤ 40 → cur ∈ keyL ways → f (.list acc) (.tuple (sts (pre ++ [cur]))) = .ok (.list (acc ++ sts ((pre ++ [cur]) ++ (gO ways cur).toList)))) :
    foldR f (.list acc) ((sortS (ways.map (·.1))).flatMap (chainG ways)) = .ok (.list (acc ++ sts ((sortS (ways.map (·.1))).flatMap (beside ways)))):=by
  have I:=injW j.fst j.snd
  have kl : (keyL ways).length = ways.length:=List.length_map ..
  have g:=foldR_fm (f:=f) (cg:=chainG ways) (bs:=fun b=>sts (beside ways b)) (M:=5000) (ks:=sortS (ways.map (·.1))) (acc:=acc) (fun b hb acc hacc=>by
    obtain ⟨pre,cur,e1,e2,e3,e4⟩:=line_shape I (mem_keys hb)
    unfold chainG beside
    split
    · rw [e1,e2,foldR,hf acc pre cur hacc (by rw [← e1]; omega) e3,R.bind_ok,foldR]
    · rw [foldR]
      show _ = R.ok (PyData.list (acc ++ []))
      rw [List.append_nil]) (fun b hb=>by rw [List.length_map]; exact beside_len I (mem_keys hb) (by omega)) (by rw [len_keys]; omega)
  rw [g]
  congr 3
  unfold sts
  rw [List.map_flatMap]
theorem hole_of_ok (hJ : p_tupled 60 J = .ok (jobD sp ways)) (hS : p_tupled 60 S = .ok (szD wi th)) (j : JobOk n sp ways) (hn : n ≤ 40) (hl : ways.length ≤ 40) (Z : SzOk sp ways wi th) : p_hole_of J S = .ok (holeD sp ways wi):=by
  have I:=injW j.fst j.snd
  have jl:=j.len
  have kl : (keyL ways).length = ways.length:=List.length_map ..
  have ok : OkS (ways.map (·.1)):=fun x hx=>j.ok x (j.sub x hx)
  have ok2 : OkS (ways.filterMap (·.2)):=fun x hx=>j.ok x (j.tgt x hx)
  have n1 : (wi.map (·.1)).Nodup:=by rw [Z.w]; exact j.nd
  have n2 : (th.map (·.1)).Nodup:=by rw [Z.t]; exact j.fst
  have fl : (sp.filter fun x=>!decide (x ∈ ways.map (·.1))).length ≤ 40:=Nat.le_trans (List.length_filter_le ..) (by omega)
  have pl:=pool_in j
  unfold p_hole_of
  rw [tables_ok hS n1 n2,R.bind_ok,o2_ix0t,R.bind_ok,goal_of_ok hJ j.fst,R.bind_ok,free_list hJ,R.bind_ok,o1_lstt,R.bind_ok,chains_ok hJ j.fst I ok ok2 (by omega),R.bind_ok,itR_t,R.bind_ok]
  refine R.bind_eq (hole_fold j hl _ _ (by rw [List.length_map]; omega) fun acc pre cur hacc hp hc=>?_) ?_
  · have sq : sqR (.tuple (sts (pre ++ [cur]))) = .ok (sts (pre ++ [cur])):=rfl
    have sz : szT (sts (pre ++ [cur]) ++ (oD (gO ways cur) :: [])) = .ok (.tuple (sts (pre ++ [cur]) ++ [oD (gO ways cur)])):=if_pos (by rw [List.length_append,List.length_map]; simp at hp ⊢; omega)
    rw [lsR_l,R.bind_ok,sq,R.bind_ok,o1_neg,R.bind_ok,last_t,R.bind_ok,goal_at hc,R.bind_ok,sz,R.bind_ok,itR_t,R.bind_ok]
    refine R.bind_eq (some_only _ _) ?_
    have ex : exR acc (.list (sts (pre ++ [cur] ++ (gO ways cur).toList))) = .ok (.list (acc ++ sts (pre ++ [cur] ++ (gO ways cur).toList))):=by
      refine if_pos ?_
      rw [sizeLine_eq,List.length_map,List.length_append]
      have : (gO ways cur).toList.length ≤ 1:=by cases gO ways cur <;> simp
      omega
    rw [ex,R.bind_ok]
  · rw [← List.map_append]
    show ((itR (.list (sts (poolL sp ways)))).bind _) = _
    rw [itR_l,R.bind_ok]
    refine R.bind_eq (ints_at fun x hx=>by rw [Z.w]; exact pl x hx) ?_
    unfold holeD
    by_cases h : poolL sp ways = []
    · rw [h,if_pos rfl]
      rfl
    · rw [if_neg h,maxN_ok (by simpa using h),R.bind_ok]
end
section
variable {sp : List Str} {ways : List (Str × Option Str)} {wi th : List (Str × Int)} {n : Nat} {J S : D}
def RgOk (ks : List Str) (d : D) : Prop:=∃ l : List Str,d = .tuple (sts l) ∧ l ≠ [] ∧ (∀ x ∈ l,x ∈ ks) ∧ l.length ≤ 1000
def strT : D → Str
  | .str x=>x
  | _=>Str.empty
def lstT : D → List Str
  | .tuple ds=>ds.map strT
  | _=>[]
theorem lstT_t (l : List Str) : lstT (.tuple (sts l)) = l:=by
  show (sts l).map strT = l
  unfold sts
  rw [List.map_map]
  exact List.map_id' l
def thinI (th : List (Str × Int)) (d : D) : Int:=minI ((lstT d).map (at0 th))
def widI (wi : List (Str × Int)) (d : D) : Int:=maxI ((lstT d).map (at0 wi))
theorem thin_ok {ks : List Str} {d : D} (h : RgOk ks d) (hk : ∀ x ∈ ks,x ∈ th.map (·.1)) {β : Type} (r : D → R β) : ((itR d).bind fun l14=>(mapR (fun d15=>(o2 ixD (.dict (kvD PyData.int th)) d15).bind fun z16=>.ok z16) l14).bind fun l17=>(o1 min1D (.list l17)).bind r) = r (.int (thinI th d)):=by
  obtain ⟨l,rfl,ne,hl⟩:=h
  rw [itR_t,R.bind_ok]
  refine R.bind_eq (ints_at fun x hx=>hk x (hl.1 x hx)) ?_
  rw [min_okI (by simpa using ne),R.bind_ok]
  unfold thinI
  rw [lstT_t]
theorem wid_ints {ks : List Str} {d : D} (h : RgOk ks d) (hk : ∀ x ∈ ks,x ∈ wi.map (·.1)) {β : Type} (r : List D → R β) : ((itR d).bind fun l14=>(mapR (fun d15=>(o2 ixD (.dict (kvD PyData.int wi)) d15).bind fun z16=>.ok z16) l14).bind r) = r (((lstT d).map (at0 wi)).map .int):=by
  obtain ⟨l,rfl,ne,hl⟩:=h
  rw [itR_t,R.bind_ok,lstT_t]
  exact R.bind_eq (ints_at fun x hx=>hk x (hl.1 x hx)) rfl
theorem wid_ne {ks : List Str} {d : D} (h : RgOk ks d) : (lstT d).map (at0 wi) ≠ []:=by
  obtain ⟨l,rfl,ne,_⟩:=h
  rw [lstT_t]
  simpa using ne
def fineL (th : List (Str × Int)) (h : Int) (L : List D) : List D:=L.filter fun d=>decide (thinI th d ≤ h)
theorem rg_nd {ks : List Str} {d : D} (h : RgOk ks d) : Nd 1 d:=by
  obtain ⟨l,rfl,_⟩:=h
  exact nd_t (nd_sts l)
theorem rg_sh {ks : List Str} {d : D} (ok : OkS ks) (h : RgOk ks d) : Sh 1 d:=by
  obtain ⟨l,rfl,_,hl⟩:=h
  exact sh_tup fun e he=>by
    obtain ⟨x,rfl,hx⟩:=mem_strs he
    exact sh_str (ok x (hl.1 x hx))
theorem plain_all : ∀ {xs : List D},(∀ x ∈ xs,x.plain = true) → PyData.plainAll xs = true
  | [],_=>rfl
  | x :: xs,h=>by
    show (x.plain && PyData.plainAll xs) = true
    rw [h x (by simp),plain_all fun y hy=>h y (by simp [hy])]
    rfl
theorem rm_ok {ks : List Str} {L : List D} {d : D} (ok : OkS ks) (hL : ∀ e ∈ L,RgOk ks e) (hd : d ∈ L) : ∃ L',rmR L d = .ok (.list L') ∧ L'.length + 1 = L.length ∧ ∀ e ∈ L',e ∈ L:=by
  have sh : ∀ e ∈ L,SeqAt.shaped e = true:=fun e he=>by
    have:=rg_sh ok (hL e he)
    unfold SeqAt.shaped
    rw [this.1,Bool.true_and]
    exact decide_eq_true (Nat.le_trans this.2 (by decide))
  have pl : ∀ e ∈ L,e.plain = true:=fun e he=>by
    obtain ⟨l,rfl,_⟩:=hL e he
    show PyData.plainAll (sts l) = true
    exact plain_all fun x hx=>by
      obtain ⟨y,rfl,_⟩:=mem_strs hx
      rfl
  have rk : rmOk L d = true:=by
    unfold rmOk
    rw [List.all_eq_true.mpr sh,sh d hd,pl d hd,plain_all pl]
    rfl
  have ex : ∃ j,SeqAt.dataPlace L d = some j ∧ j < L.length:=by
    unfold SeqAt.dataPlace
    cases q : L.findIdx? fun y=>PyData.eqv y d with
    | some j=>exact ⟨j,rfl,(List.findIdx?_eq_some_iff_getElem.mp q).1⟩
    | none =>
      have:=List.findIdx?_eq_none_iff.mp q d hd
      have nn:=rg_nd (hL d hd)
      rw [eqv_self 5 d (by have:=nn.1; omega) nn.2] at this
      cases this
  obtain ⟨j,ej,lj⟩:=ex
  refine ⟨L.eraseIdx j,?_,?_,fun e he=>List.mem_of_mem_eraseIdx he⟩
  · unfold rmR
    rw [if_pos rk,ej]
  · rw [List.length_eraseIdx,if_pos lj]
    omega
def opP (wi th : List (Str × Int)) (s5 : D × D × D) : R (Fo (D × D × D)):=(truR (.bool true)).bind fun b8 =>
  if b8 = true then
  (lsR s5.1).bind fun l10 =>
  (fcR (fun d9=>(o2 notND s5.2.2 (.none)).bind fun z11 =>
  (boR z11).bind fun b12 =>
  ((if b12 = true then (itR d9).bind fun l14 =>
  (mapR (fun d15=>(o2 ixD (.dict (kvD PyData.int th)) d15).bind fun z16 =>
  .ok z16) l14).bind fun l17 =>
  (o1 min1D (.list l17)).bind fun z18 =>
  (o2 leD z18 s5.2.2).bind fun z19 =>
  (boR z19).bind fun b20 =>
  .ok b20 else .ok false) : R (Bool)).bind fun b13 =>
  if b13 = true then .ok (some d9) else .ok none) l10).bind fun l21 =>
  (o1 lenD (.list l21)).bind fun z22 =>
  (o2 eqD z22 (.int (0))).bind fun z23 =>
  (boR z23).bind fun b24 =>
  if b24 = true then
  (o1 tupD s5.2.1).bind fun z25 =>
  (o1 tupD s5.1).bind fun z26 =>
  .ok (.rt (.tuple [z25,z26]) .none)
  else
  (o2 ixD (.list l21) (.int (0))).bind fun z28 =>
  (itR z28).bind fun l29 =>
  (mapR (fun d30=>(o2 ixD (.dict (kvD PyData.int wi)) d30).bind fun z31 =>
  .ok z31) l29).bind fun l32 =>
  (o1 max1D (.list l32)).bind fun z33 =>
  (o2 max2D s5.2.2 z33).bind fun z34 =>
  (lsR s5.2.1).bind fun l35 =>
  (o2 ixD (.list l21) (.int (0))).bind fun z37 =>
  (apR l35 (.tuple [z37,z34])).bind fun z36 =>
  (lsR s5.1).bind fun l38 =>
  (o2 ixD (.list l21) (.int (0))).bind fun z40 =>
  (rmR l38 z40).bind fun z39 =>
  .ok (.nx (z39,z36,z34))
  else
  .ok (.bk (s5.1,s5.2.1,s5.2.2))
theorem fine_p {ks : List Str} {L : List D} {h : Int} (hL : ∀ e ∈ L,RgOk ks e) (hk : ∀ x ∈ ks,x ∈ th.map (·.1)) : fcR (fun d9=>(o2 notND (.int h) (.none)).bind fun z11 =>
  (boR z11).bind fun b12 =>
  ((if b12 = true then (itR d9).bind fun l14 =>
  (mapR (fun d15=>(o2 ixD (.dict (kvD PyData.int th)) d15).bind fun z16 =>
  .ok z16) l14).bind fun l17 =>
  (o1 min1D (.list l17)).bind fun z18 =>
  (o2 leD z18 (.int h)).bind fun z19 =>
  (boR z19).bind fun b20 =>
  .ok b20 else .ok false) : R (Bool)).bind fun b13 =>
  if b13 = true then .ok (some d9) else .ok none) L = .ok (fineL th h L):=by
  rw [fcR_if (p:=fun d=>decide (thinI th d ≤ h)) (g:=id) fun d hd=>?_,List.map_id]
  · rfl
  · rw [o2_notN,R.bind_ok,boR_b,R.bind_ok,if_pos (show (!isNone (.int h)) = true from rfl),thin_ok (hL d hd) hk,o2_lei,R.bind_ok,boR_b,R.bind_ok,R.bind_ok]
    rfl
theorem fine_none (L : List D) {f : D → R (Option D)} (hf : ∀ d,f d = .ok none) : fcR f L = .ok []:=by
  induction L with
  | nil=>rfl
  | cons d L ih=>rw [fcR,hf,R.bnx_ok,ih,R.bnx_ok]
end
section
variable {sp : List Str} {ways : List (Str × Option Str)} {wi th : List (Str × Int)} {n : Nat} {J S : D}
abbrev ringL (ways : List (Str × Option Str)) : List D:=(sortS (ways.map (·.1))).flatMap (ringG ways)
theorem ring_in (j : JobOk n sp ways) (hl : ways.length ≤ 40) : ∀ d ∈ ringL ways,RgOk (ways.map (·.1)) d:=fun d hd=>by
  have I:=injW j.fst j.snd
  have kl : (keyL ways).length = ways.length:=List.length_map ..
  obtain ⟨b,hb,hd⟩:=List.mem_flatMap.mp hd
  have kb:=mem_keys hb
  obtain ⟨pre,cur,e1,e2,e3,e4⟩:=line_shape I kb
  unfold ringG at hd
  split at hd
  · rw [List.mem_singleton.mp hd]
    exact ⟨_,rfl,by rw [e1]; simp,(line_end I kb).key,by omega⟩
  · cases hd
theorem fm_len1 {f : Str → List D} : ∀ {l : List Str},(∀ a ∈ l,(f a).length ≤ 1) → (l.flatMap f).length ≤ l.length
  | [],_=>by simp
  | a :: l,h=>by
    rw [List.flatMap_cons,List.length_append,List.length_cons]
    have h1:=h a (by simp)
    have h2:=fm_len1 (l:=l) fun b hb=>h b (by simp [hb])
    omega
theorem ring_len (hl : ways.length ≤ 40) : (ringL ways).length ≤ 40:=by
  have l2 : (ringL ways).length ≤ (sortS (ways.map (·.1))).length:=fm_len1 fun b _=>ringG_len b
  have kl : (keyL ways).length = ways.length:=List.length_map ..
  rw [len_keys] at l2
  omega
end
section
variable {sp : List Str} {ways : List (Str × Option Str)} {wi th : List (Str × Int)} {n : Nat} {J S : D}
def StkD (wi th : List (Str × Int)) (h : Int) (L S : List D) : Prop:=∀ d ∈ S,d ∈ L ∧ h < thinI th d ∧ ∀ e ∈ L,e ∉ S → widI wi e < thinI th d
theorem rm_all {ks : List Str} {L : List D} {d : D} (hL : ∀ e ∈ L,RgOk ks e) (hd : d ∈ L) {L' : List D} (e1 : rmR L d = .ok (.list L')) : ∀ e ∈ L,e = d ∨ e ∈ L':=fun e he=>by
  unfold rmR at e1
  split at e1
  · split at e1
    · next j ej =>
      have e1 : L.eraseIdx j = L':=PyData.list.inj (R.ok.inj e1)
      unfold SeqAt.dataPlace at ej
      obtain ⟨hj,q,_⟩:=List.findIdx?_eq_some_iff_getElem.mp ej
      have ej2 : L[j] = d:=by
        obtain ⟨l1,f1,_⟩:=hL _ (List.getElem_mem hj)
        obtain ⟨l2,f2,_⟩:=hL d hd
        rw [f1,f2,PyData.eqv,eqvAll_sts,decide_eq_true_iff] at q
        rw [f1,f2,q]
      obtain ⟨i,hi,ei⟩:=List.getElem_of_mem he
      by_cases c : i = j
      · subst c
        exact .inl (ei.symm.trans ej2)
      · refine .inr ?_
        rw [← e1]
        exact List.mem_eraseIdx_iff_getElem.mpr ⟨i,hi,c,ei⟩
    · cases e1
  · cases e1
theorem open_one {ks : List Str} (ok : OkS ks) (hkt : ∀ x ∈ ks,x ∈ th.map (·.1)) (hkw : ∀ x ∈ ks,x ∈ wi.map (·.1)) : ∀ (fuel : Nat) (L F : List D) (h : Int),(∀ e ∈ L,RgOk ks e) → L.length < fuel → F.length + L.length ≤ 1000 →
    ∃ (F' L' : List D),whileR (opP wi th) fuel (.list L,.list F,.int h) = .ok (.rt (.tuple [.tuple F',.tuple L']) .none) ∧ StkD wi th h L L' ∧ ∀ S,StkD wi th h L S → ∀ d ∈ S,d ∈ L'
  | 0,L,F,h,_,hf,_=>absurd hf (Nat.not_lt_zero _)
  | fuel + 1,L,F,h,hL,hf,hl=>by
    cases hq : fineL th h L with
    | nil =>
      have e : opP wi th (.list L,.list F,.int h) = .ok (.rt (.tuple [.tuple F,.tuple L]) .none):=by
        unfold opP
        rw [truR_b,R.bind_ok,if_pos rfl,lsR_l,R.bind_ok]
        refine R.bind_eq (fine_p hL hkt) ?_
        rw [hq]
        rfl
      refine ⟨F,L,by rw [whileR,e,R.bind_ok],fun d hd=>⟨hd,?_,fun e he ne=>(ne he).elim⟩,fun S hS d hd=>(hS d hd).1⟩
      refine Classical.byContradiction fun z=>?_
      have : d ∈ fineL th h L:=List.mem_filter.mpr ⟨hd,decide_eq_true (by omega)⟩
      rw [hq] at this
      cases this
    | cons r rs =>
      have hr' : r ∈ fineL th h L:=by rw [hq]; simp
      obtain ⟨hr,ft⟩:=List.mem_filter.mp hr'
      have ft : thinI th r ≤ h:=of_decide_eq_true ft
      obtain ⟨L1,e1,e2,e3⟩:=rm_ok ok hL hr
      have ra:=rm_all hL hr e1
      have wn:=wid_ne (wi:=wi) (hL r hr)
      obtain ⟨F',L',g1,g2,g3⟩:=open_one ok hkt hkw fuel L1 (F ++ [.tuple [r,.int (if widI wi r > h then widI wi r else h)]]) (if widI wi r > h then widI wi r else h) (fun e he=>hL e (e3 e he)) (by omega) (by rw [List.length_append,List.length_singleton]; omega)
      have ap : apR F (.tuple [r,.int (if widI wi r > h then widI wi r else h)]) = .ok (.list (F ++ [.tuple [r,.int (if widI wi r > h then widI wi r else h)]])):=apR_ok (by omega)
      have e : opP wi th (.list L,.list F,.int h) = .ok (.nx (.list L1,.list (F ++ [.tuple [r,.int (if widI wi r > h then widI wi r else h)]]),.int (if widI wi r > h then widI wi r else h))):=by
        have mx : o2 max2D (.int h) (.int (widI wi r)) = .ok (.int (if widI wi r > h then widI wi r else h)):=rfl
        unfold opP
        rw [truR_b,R.bind_ok,if_pos rfl,lsR_l,R.bind_ok]
        refine R.bind_eq (fine_p hL hkt) ?_
        rw [hq,o1_lenl,R.bind_ok,o2_eqi,R.bind_ok,boR_b,R.bind_ok,if_neg (by simp; omega),o2_ix0l,R.bind_ok,wid_ints (hL r hr) hkw,max_ok wn,R.bind_ok]
        show ((o2 max2D (.int h) (.int (widI wi r))).bind _) = _
        rw [mx,R.bind_ok,lsR_l,R.bind_ok,R.bind_ok,ap,R.bind_ok,R.bind_ok,R.bind_ok,e1,R.bind_ok]
      have h1 : h ≤ (if widI wi r > h then widI wi r else h):=by split <;> omega
      have h2 : widI wi r ≤ (if widI wi r > h then widI wi r else h):=by split <;> omega
      refine ⟨F',L',by rw [whileR,e,R.bind_ok]; exact g1,fun d hd=>?_,fun S hS d hd=>g3 S (fun d hd=>?_) d hd⟩
      · obtain ⟨q1,q2,q3⟩:=g2 d hd
        refine ⟨e3 d q1,by omega,fun e he ne=>?_⟩
        rcases ra e he with z | z
        · rw [z]; omega
        · exact q3 e z ne
      · have nr : r ∉ S:=fun m=>by
          have:=(hS r m).2.1
          omega
        obtain ⟨q1,q2,q3⟩:=hS d hd
        refine ⟨(ra d q1).resolve_left fun z=>nr (z ▸ hd),?_,fun e he ne=>q3 e (e3 e he) ne⟩
        have:=q3 r hr nr
        split <;> omega
theorem fmx_lt {c : Int} : ∀ (is : List Int) (i : Int),is.foldl max i < c ↔ i < c ∧ ∀ k ∈ is,k < c
  | [],i=>⟨fun h=>⟨h,fun k hk=>by cases hk⟩,fun h=>h.1⟩
  | k :: is,i=>by
    rw [List.foldl_cons,fmx_lt is (max i k)]
    constructor
    · rintro ⟨h1,h2⟩
      exact ⟨by omega,fun m hm=>by
        rcases List.mem_cons.mp hm with e | hm
        · rw [e]; omega
        · exact h2 m hm⟩
    · rintro ⟨h1,h2⟩
      have:=h2 k (by simp)
      exact ⟨by omega,fun m hm=>h2 m (by simp [hm])⟩
theorem fmn_lt {c : Int} : ∀ (is : List Int) (i : Int),c < is.foldl min i ↔ c < i ∧ ∀ k ∈ is,c < k
  | [],i=>⟨fun h=>⟨h,fun k hk=>by cases hk⟩,fun h=>h.1⟩
  | k :: is,i=>by
    rw [List.foldl_cons,fmn_lt is (min i k)]
    constructor
    · rintro ⟨h1,h2⟩
      exact ⟨by omega,fun m hm=>by
        rcases List.mem_cons.mp hm with e | hm
        · rw [e]; omega
        · exact h2 m hm⟩
    · rintro ⟨h1,h2⟩
      have:=h2 k (by simp)
      exact ⟨by omega,fun m hm=>h2 m (by simp [hm])⟩
theorem maxI_lt {is : List Int} {c : Int} (h : is ≠ []) : maxI is < c ↔ ∀ k ∈ is,k < c:=by
  cases is with
  | nil=>exact (h rfl).elim
  | cons i is =>
    show is.foldl max i < c ↔ _
    rw [fmx_lt]
    simp
theorem minI_lt {is : List Int} {c : Int} (h : is ≠ []) : c < minI is ↔ ∀ k ∈ is,c < k:=by
  cases is with
  | nil=>exact (h rfl).elim
  | cons i is =>
    show c < is.foldl min i ↔ _
    rw [fmn_lt]
    simp
theorem thin_lt {l : List Str} (h : l ≠ []) {c : Int} : c < thinI th (.tuple (sts l)) ↔ ∀ b ∈ l,c < at0 th b:=by
  unfold thinI
  rw [lstT_t,minI_lt (by simpa using h)]
  simp
end
theorem inj_int : InjK PyData.int:=fun a b h=>by
  simp only [PySem.W.keyToks,List.cons.injEq,Sum.inl.injEq,and_true,true_and] at h
  exact h
theorem dLe_ii (a b : Int) : dLe (.int a) (.int b) = decide (a ≤ b):=by
  unfold dLe
  rw [PySem.W.dataLt_int]
  by_cases c : a ≤ b
  · rw [decide_eq_true c,decide_eq_false (by omega)]; rfl
  · rw [decide_eq_false c,decide_eq_true (by omega)]; rfl
theorem sortOk_ii (l : List Int) : sortOk (l.map .int) = true:=by
  unfold sortOk
  rw [Bool.and_eq_true,Bool.and_eq_true]
  refine ⟨List.all_eq_true.mpr fun d hd=>List.all_eq_true.mpr fun d' hd'=>?_,Bool.or_eq_true_iff.mpr (.inr (List.all_eq_true.mpr fun d hd=>?_)),List.all_eq_true.mpr fun d hd=>?_⟩
  · obtain ⟨a,_,rfl⟩:=List.mem_map.mp hd
    obtain ⟨b,_,rfl⟩:=List.mem_map.mp hd'
    simp [PySem.W.alike]
  · obtain ⟨a,ha,rfl⟩:=List.mem_map.mp hd
    rfl
  · obtain ⟨a,ha,rfl⟩:=List.mem_map.mp hd
    exact (sh_int (b:=a)).shaped (by decide)
theorem o1_sortii {l m : List Int} (p : l.Perm m) (h : m.Pairwise fun a b=>a ≤ b) : o1 sortD (.list (l.map .int)) = .ok (.list (m.map .int)):=by
  refine o1_some (v:=.o (.list (m.map .int))) ?_
  show (if sortOk (l.map PyData.int) = true then some (Xv.o (.list (isort (l.map PyData.int)))) else _) = _
  rw [if_pos (sortOk_ii l),isort_map,sortE_eq inj_int p,sortE_self inj_int (h.imp fun c=>by rw [dLe_ii]; exact decide_eq_true c)]
end G
end DL
end L2
namespace L2
namespace DL
namespace G
open PySem PySem.Spec PyProof.Rows
section
variable {sp : List Str} {ways : List (Str × Option Str)} {wi th : List (Str × Int)} {n : Nat}
def oI : Option Int → D
  | none=>.none
  | some h=>.int h
def holeO (sp : List Str) (ways : List (Str × Option Str)) (wi : List (Str × Int)) : Option Int:=if poolL sp ways = [] then none else some (maxI ((poolL sp ways).map (at0 wi)))
theorem holeD_O : holeD sp ways wi = oI (holeO sp ways wi):=by
  unfold holeD holeO
  split <;> rfl
def GoodH (ways : List (Str × Option Str)) (wi th : List (Str × Int)) : Option Int → Prop
  | none=>ringL ways = []
  | some h=>∀ S,StkD wi th h (ringL ways) S → S = []
theorem len0 (L : List D) : ((L.length : Int) == 0) = decide (L = []):=by
  cases L with
  | nil=>rfl
  | cons d L =>
    rw [decide_eq_false (fun z=>by cases z)]
    exact beq_eq_false_iff_ne.mpr fun z=>by
      rw [List.length_cons] at z
      omega
theorem opened_at (j : JobOk n sp ways) (hl : ways.length ≤ 40) (Z : SzOk sp ways wi th) (ho : Option Int) : ∃ F L : List D,(L = [] ↔ GoodH ways wi th ho) ∧ ∀ J S,p_tupled 60 J = .ok (jobD sp ways) → p_tupled 60 S = .ok (szD wi th) → p_opened_by J S (oI ho) = .ok (.tuple [.tuple F,.tuple L]):=by
  have I:=injW j.fst j.snd
  have kl : (keyL ways).length = ways.length:=List.length_map ..
  have ok : OkS (ways.map (·.1)):=fun x hx=>j.ok x (j.sub x hx)
  have ri:=ring_in j hl
  have rl:=ring_len hl
  have n1 : (wi.map (·.1)).Nodup:=by rw [Z.w]; exact j.nd
  have n2 : (th.map (·.1)).Nodup:=by rw [Z.t]; exact j.fst
  have kt : ∀ x ∈ ways.map (·.1),x ∈ th.map (·.1):=fun x hx=>by rw [Z.t]; exact hx
  have kw : ∀ x ∈ ways.map (·.1),x ∈ wi.map (·.1):=fun x hx=>by rw [Z.w]; exact j.sub x hx
  have head : ∀ (F L : List D),whileR (opP wi th) 200 (.list (ringL ways),.list [],oI ho) = .ok (.rt (.tuple [.tuple F,.tuple L]) .none) → ∀ J S,p_tupled 60 J = .ok (jobD sp ways) → p_tupled 60 S = .ok (szD wi th) → p_opened_by J S (oI ho) = .ok (.tuple [.tuple F,.tuple L]):=fun F L hw J S hJ hS=>by
    unfold p_opened_by
    rw [tables_ok hS n1 n2,R.bind_ok,un2_t,R.bind_ok,rings_ok hJ j.fst I ok (by omega),R.bind_ok,o1_lstt,R.bind_ok]
    exact R.bind_eq hw rfl
  cases ho with
  | none =>
    refine ⟨[],ringL ways,Iff.rfl,head [] (ringL ways) ?_⟩
    have e : opP wi th (.list (ringL ways),.list [],.none) = .ok (.rt (.tuple [.tuple [],.tuple (ringL ways)]) .none):=by
      unfold opP
      rw [truR_b,R.bind_ok,if_pos rfl,lsR_l,R.bind_ok]
      refine R.bind_eq (fine_none _ fun d=>rfl) ?_
      rfl
    show whileR (opP wi th) 200 (.list (ringL ways),.list [],.none) = _
    rw [whileR,e,R.bind_ok]
  | some h =>
    obtain ⟨F,L,g1,g2,g3⟩:=open_one (wi:=wi) (th:=th) ok kt kw 200 (ringL ways) [] h ri (by omega) (by rw [List.length_nil]; omega)
    refine ⟨F,L,⟨fun e S hS=>?_,fun g=>g L g2⟩,head F L g1⟩
    cases S with
    | nil=>rfl
    | cons d S =>
      have:=g3 _ hS d (by simp)
      rw [e] at this
      cases this
theorem can_ok (j : JobOk n sp ways) (hn : n ≤ 40) (hl : ways.length ≤ 40) (Z : SzOk sp ways wi th) : ∃ b : Bool,(b = true ↔ GoodH ways wi th (holeO sp ways wi)) ∧ ∀ J S,p_tupled 60 J = .ok (jobD sp ways) → p_tupled 60 S = .ok (szD wi th) → p_can_be_done_by J S = .ok (.bool b):=by
  obtain ⟨F,L,g,o⟩:=opened_at j hl Z (holeO sp ways wi)
  refine ⟨decide (L = []),by rw [decide_eq_true_iff]; exact g,fun J S hJ hS=>?_⟩
  unfold p_can_be_done_by p_shut_rings
  rw [hole_of_ok hJ hS j hn hl Z,R.bind_ok,holeD_O,o J S hJ hS,R.bind_ok,show o2 ixD (.tuple [.tuple F,.tuple L]) (.int 1) = .ok (.tuple L) from o2_ix1t ..,R.bind_ok,R.bind_ok,o1_lent,R.bind_ok,o2_eqi,R.bind_ok,len0]
def mxO : Option Int → Int → Int
  | none,x=>x
  | some h,x=>if x > h then x else h
theorem mxO_lt {o : Option Int} {x c : Int} : mxO o x < c ↔ (∀ h,o = some h → h < c) ∧ x < c:=by
  cases o with
  | none=>exact ⟨fun h=>⟨fun _ e=>(nomatch e),h⟩,fun h=>h.2⟩
  | some h =>
    show (if x > h then x else h) < c ↔ _
    by_cases g : x > h
    · rw [if_pos g]
      exact ⟨fun q=>⟨fun k e=>by injection e with e; omega,q⟩,fun q=>q.2⟩
    · rw [if_neg g]
      exact ⟨fun q=>⟨fun k e=>by injection e with e; omega,by omega⟩,fun q=>q.1 h rfl⟩
theorem max_of (p : Int → Prop) : ∀ l : List Int,(∀ y ∈ l,¬ p y) ∨ ∃ x ∈ l,p x ∧ ∀ y ∈ l,p y → y ≤ x
  | []=>.inl fun _ h=>by cases h
  | a :: l=>by
    by_cases ha : p a
    · right
      rcases max_of p l with h | ⟨x,hx,px,mx⟩
      · refine ⟨a,by simp,ha,fun y hy py=>?_⟩
        rcases List.mem_cons.mp hy with e | hy
        · omega
        · exact (h y hy py).elim
      · by_cases c : x ≤ a
        · refine ⟨a,by simp,ha,fun y hy py=>?_⟩
          rcases List.mem_cons.mp hy with e | hy
          · omega
          · have:=mx y hy py
            omega
        · refine ⟨x,by simp [hx],px,fun y hy py=>?_⟩
          rcases List.mem_cons.mp hy with e | hy
          · omega
          · exact mx y hy py
    · rcases max_of p l with h | ⟨x,hx,px,mx⟩
      · exact .inl fun y hy=>by
          rcases List.mem_cons.mp hy with e | hy
          · rw [e]; exact ha
          · exact h y hy
      · refine .inr ⟨x,by simp [hx],px,fun y hy py=>?_⟩
        rcases List.mem_cons.mp hy with e | hy
        · rw [e] at py; exact (ha py).elim
        · exact mx y hy py
abbrev valT (ways : List (Str × Option Str)) (th : List (Str × Int)) : List Int:=(ways.map (·.1)).map (at0 th)
theorem thin_vals (j : JobOk n sp ways) (hl : ways.length ≤ 40) {d : D} (hd : d ∈ ringL ways) {c : Int} : (c < thinI th d → ∃ v ∈ valT ways th,c < v) ∧ ((∀ v ∈ valT ways th,c < thinI th d ∨ True) ):=by
  refine ⟨fun h=>?_,fun _ _=>.inr trivial⟩
  obtain ⟨l,rfl,ne,hin,_⟩:=ring_in j hl d hd
  rw [thin_lt ne] at h
  cases l with
  | nil=>exact (ne rfl).elim
  | cons b l=>exact ⟨at0 th b,List.mem_map.mpr ⟨b,hin b (by simp),rfl⟩,h b (by simp)⟩
theorem thin_up (j : JobOk n sp ways) (hl : ways.length ≤ 40) {d : D} (hd : d ∈ ringL ways) {c c' : Int} (h : c < thinI th d) (up : ∀ v ∈ valT ways th,c < v → c' < v) : c' < thinI th d:=by
  obtain ⟨l,rfl,ne,hin,_⟩:=ring_in j hl d hd
  rw [thin_lt ne] at h ⊢
  exact fun b hb=>up _ (List.mem_map.mpr ⟨b,hin b hb,rfl⟩) (h b hb)
theorem thin_all (j : JobOk n sp ways) (hl : ways.length ≤ 40) {d : D} (hd : d ∈ ringL ways) {c : Int} (up : ∀ v ∈ valT ways th,c < v) : c < thinI th d:=by
  obtain ⟨l,rfl,ne,hin,_⟩:=ring_in j hl d hd
  rw [thin_lt ne]
  exact fun b hb=>up _ (List.mem_map.mpr ⟨b,hin b hb,rfl⟩)
theorem not_good {h : Int} (g : ¬ GoodH ways wi th (some h)) : ∃ S,StkD wi th h (ringL ways) S ∧ S ≠ []:=Classical.byContradiction fun z=>g fun S hS=>Classical.byContradiction fun ne=>z ⟨S,hS,ne⟩
theorem good_top (j : JobOk n sp ways) (hl : ways.length ≤ 40) {o : Option Int} {x : Int} (mx : ∀ v ∈ valT ways th,v ≤ x) : GoodH ways wi th (some (mxO o x)):=fun S hS=>by
  cases S with
  | nil=>rfl
  | cons d S =>
    obtain ⟨h1,h2,_⟩:=hS d (by simp)
    obtain ⟨v,hv,c⟩:=(thin_vals j hl h1).1 h2
    have:=mx v hv
    have:=(mxO_lt.mp c).2
    omega
theorem less_bad (j : JobOk n sp ways) (hl : ways.length ≤ 40) {o : Option Int} {v : Int} (b0 : ¬ GoodH ways wi th o) (bx : ∀ x ∈ valT ways th,x < v → ¬ GoodH ways wi th (some (mxO o x))) : ¬ GoodH ways wi th (some (mxO o (v - 1))):=fun g=>by
  rcases max_of (fun y=>y < v) (valT ways th) with no | ⟨x,hx,xv,mx⟩
  · cases o with
    | none =>
      refine b0 (g (ringL ways) fun d hd=>⟨hd,thin_all j hl hd fun y hy=>?_,fun e he ne=>(ne he).elim⟩)
      have:=no y hy
      show v - 1 < y
      omega
    | some h =>
      obtain ⟨S,hS,ne⟩:=not_good b0
      refine ne (g S fun d hd=>⟨(hS d hd).1,thin_up j hl (hS d hd).1 (hS d hd).2.1 fun y hy c=>?_,(hS d hd).2.2⟩)
      have:=no y hy
      exact mxO_lt.mpr ⟨fun k e=>by cases e; exact c,by omega⟩
  · obtain ⟨S,hS,ne⟩:=not_good (bx x hx xv)
    refine ne (g S fun d hd=>⟨(hS d hd).1,thin_up j hl (hS d hd).1 (hS d hd).2.1 fun y hy c=>?_,(hS d hd).2.2⟩)
    obtain ⟨c1,c2⟩:=mxO_lt.mp c
    refine mxO_lt.mpr ⟨c1,?_⟩
    by_cases yv : y < v
    · have:=mx y hy yv
      omega
    · omega
theorem split_first (q : Int → Prop) : ∀ l : List Int,(∃ x ∈ l,q x) → ∃ pre v post,l = pre ++ v :: post ∧ q v ∧ ∀ x ∈ pre,¬ q x
  | [],h=>by obtain ⟨x,hx,_⟩:=h; cases hx
  | a :: l,h=>by
    by_cases ha : q a
    · exact ⟨[],a,l,rfl,ha,fun _ h=>by cases h⟩
    · obtain ⟨x,hx,qx⟩:=h
      rcases List.mem_cons.mp hx with e | hx
      · rw [e] at qx; exact (ha qx).elim
      · obtain ⟨pre,v,post,e,qv,np⟩:=split_first q l ⟨x,hx,qx⟩
        refine ⟨a :: pre,v,post,by rw [e]; rfl,qv,fun y hy=>?_⟩
        rcases List.mem_cons.mp hy with e | hy
        · rw [e]; exact ha
        · exact np y hy
theorem forR_first {f : Unit → D → R (Fo Unit)} {v : Int} {post : List Int} (hv : f () (.int v) = .ok (.rt (.int v) .none)) : ∀ pre : List Int,(∀ x ∈ pre,f () (.int x) = .ok (.nx ())) → forR f () ((pre ++ v :: post).map .int) = .ok (.rt (.int v) .none)
  | [],_=>by
    rw [List.nil_append,List.map_cons,forR,hv]
    rfl
  | x :: pre,h=>by
    rw [List.cons_append,List.map_cons,forR,h x (by simp)]
    exact forR_first hv pre fun y hy=>h y (by simp [hy])
def sortZ (l : List Int) : List Int:=l.mergeSort fun a b=>decide (a ≤ b)
theorem sortZ_perm (l : List Int) : (sortZ l).Perm l:=List.mergeSort_perm ..
theorem sortZ_le (l : List Int) : (sortZ l).Pairwise fun a b=>a ≤ b :=
  (List.pairwise_mergeSort (le:=fun a b : Int=>decide (a ≤ b)) (fun a b c h1 h2=>by rw [decide_eq_true_iff] at *; omega) (fun a b=>by rw [Bool.or_eq_true,decide_eq_true_iff,decide_eq_true_iff]; omega) l).imp fun h=>of_decide_eq_true h
theorem need_ok (j : JobOk n sp ways) (hn : n ≤ 40) (hl : ways.length ≤ 40) (Z : SzOk sp ways wi th) (pos : ∀ p ∈ th,0 ≤ p.2) : ∃ v : Int,0 ≤ v ∧ ((GoodH ways wi th (holeO sp ways wi) ∧ v = 0) ∨ (¬ GoodH ways wi th (holeO sp ways wi) ∧ GoodH ways wi th (some (mxO (holeO sp ways wi) v)) ∧ ∀ x ∈ valT ways th,x < v → ¬ GoodH ways wi th (some (mxO (holeO sp ways wi) x)))) ∧
    ∀ J S,p_tupled 60 J = .ok (jobD sp ways) → p_tupled 60 S = .ok (szD wi th) → p_place_needed J S = .ok (.int v):=by
  have n1 : (wi.map (·.1)).Nodup:=by rw [Z.w]; exact j.nd
  have n2 : (th.map (·.1)).Nodup:=by rw [Z.t]; exact j.fst
  obtain ⟨b,gb,cb⟩:=can_ok j hn hl Z
  have i1 : o2 ixD (.tuple [.dict (kvD PyData.int wi),.dict (kvD PyData.int th)]) (.int 1) = .ok (.dict (kvD PyData.int th)):=o2_ix1t ..
  have vpos : ∀ x ∈ valT ways th,0 ≤ x:=fun x hx=>by
    obtain ⟨a,ha,rfl⟩:=List.mem_map.mp hx
    rw [← Z.t] at ha
    obtain ⟨p,hp,rfl⟩:=List.mem_map.mp ha
    unfold at0
    rw [lk_mem n2 (show (p.1,p.2) ∈ th from hp)]
    exact pos p hp
  cases b with
  | true =>
    refine ⟨0,by decide,.inl ⟨gb.mp rfl,rfl⟩,fun J S hJ hS=>?_⟩
    unfold p_place_needed
    rw [hole_of_ok hJ hS j hn hl Z,R.bind_ok,tables_ok hS n1 n2,R.bind_ok,i1,R.bind_ok,cb J S hJ hS,R.bind_ok,truR_b,R.bind_ok,if_pos rfl]
  | false =>
    have ng : ¬ GoodH ways wi th (holeO sp ways wi):=fun z=>by have:=gb.mpr z; cases this
    have ex : ∃ x ∈ sortZ (valT ways th),GoodH ways wi th (some (mxO (holeO sp ways wi) x)):=by
      rcases max_of (fun _=>True) (valT ways th) with no | ⟨x,hx,_,mx⟩
      · exfalso
        refine ng ?_
        have rn : ringL ways = []:=by
          cases e : ringL ways with
          | nil=>rfl
          | cons d r =>
            obtain ⟨l,_,ne,hin,_⟩:=ring_in j hl d (by rw [e]; simp)
            cases l with
            | nil=>exact (ne rfl).elim
            | cons b l=>exact (no _ (List.mem_map.mpr ⟨b,hin b (by simp),rfl⟩) trivial).elim
        cases holeO sp ways wi with
        | none=>exact rn
        | some h =>
          intro S hS
          cases S with
          | nil=>rfl
          | cons d S =>
            have:=(hS d (by simp)).1
            rw [rn] at this
            cases this
      · exact ⟨x,(sortZ_perm _).mem_iff.mpr hx,good_top j hl fun v hv=>mx v hv trivial⟩
    obtain ⟨pre,v,post,e,qv,np⟩:=split_first (fun x=>GoodH ways wi th (some (mxO (holeO sp ways wi) x))) _ ex
    have vin : v ∈ valT ways th:=(sortZ_perm _).mem_iff.mp (by rw [e]; simp)
    refine ⟨v,vpos v vin,.inr ⟨ng,qv,fun x hx xv=>?_⟩,fun J S hJ hS=>?_⟩
    · have hx:=(sortZ_perm _).mem_iff.mpr hx
      have srt:=sortZ_le (valT ways th)
      rw [e] at hx srt
      rcases List.mem_append.mp hx with hx | hx
      · exact np x hx
      · have:=(List.pairwise_append.mp srt).2.1
        rcases List.mem_cons.mp hx with c | hx
        · omega
        · have:=(List.pairwise_cons.mp this).1 x hx
          omega
    · unfold p_place_needed
      rw [hole_of_ok hJ hS j hn hl Z,R.bind_ok,tables_ok hS n1 n2,R.bind_ok,i1,R.bind_ok,cb J S hJ hS,R.bind_ok,truR_b,R.bind_ok,if_neg Bool.false_ne_true,boxes_ok hJ,R.bind_ok,itR_t,R.bind_ok]
      refine R.bind_eq (ints_at (wi:=th) fun x hx=>by rw [Z.t]; exact hx) ?_
      rw [o1_sortii (sortZ_perm (valT ways th)).symm (sortZ_le _),R.bind_ok,itR_l,R.bind_ok,e]
      have body : ∀ x : Int,∃ F L : List D,(L = [] ↔ GoodH ways wi th (some (mxO (holeO sp ways wi) x))) ∧ ((o2 isND (holeD sp ways wi) (.none)).bind fun z17 =>
          (boR z17).bind fun b18 =>
          ((if b18 = true then .ok (.int x) else (o2 max2E (holeD sp ways wi) (.int x)).bind fun z20 =>
          .ok z20) : R (D)).bind fun z19 =>
          (p_opened_by J S z19).bind fun z21 =>
          (o2 ixD z21 (.int (1))).bind fun z22 =>
          (o1 lenD z22).bind fun z23 =>
          (o2 eqD z23 (.int (0))).bind fun z24 =>
          (boR z24).bind fun b25 =>
          if b25 = true then
          .ok (.rt (.int x) .none)
          else
          .ok (.nx ())) = (if decide (L = []) = true then R.ok (Fo.rt (.int x) .none) else R.ok (Fo.nx ())):=fun x=>by
        obtain ⟨F,L,g,o⟩:=opened_at j hl Z (some (mxO (holeO sp ways wi) x))
        refine ⟨F,L,g,?_⟩
        rw [o2_isN,R.bind_ok,boR_b,R.bind_ok]
        refine R.bind_eq (a:=oI (some (mxO (holeO sp ways wi) x))) ?_ ?_
        · rw [holeD_O]
          cases holeO sp ways wi <;> rfl
        · rw [o J S hJ hS,R.bind_ok,show o2 ixD (.tuple [.tuple F,.tuple L]) (.int 1) = .ok (.tuple L) from o2_ix1t ..,R.bind_ok,o1_lent,R.bind_ok,o2_eqi,R.bind_ok,boR_b,R.bind_ok,len0]
      refine R.bind_eq (forR_first ?_ pre fun x hx=>?_) rfl
      · obtain ⟨F,L,g,q⟩:=body v
        refine q.trans ?_
        rw [decide_eq_true (g.mpr qv),if_pos rfl]
      · obtain ⟨F,L,g,q⟩:=body x
        refine q.trans ?_
        rw [decide_eq_false fun z=>np x hx (g.mp z),if_neg Bool.false_ne_true]
end
end G
end DL
end L2
namespace L2
namespace DL
namespace G
open PySem PySem.Spec PyProof.Rows
section
variable {sp : List Str} {ways : List (Str × Option Str)} {wi th : List (Str × Int)} {n : Nat} {m : Int}
theorem int_ext {a b : Int} (h : ∀ c,a < c ↔ b < c) : a = b:=by
  have h1:=h a
  have h2:=h b
  omega
theorem at0_app {l r : List (Str × Int)} {a : Str} (h : a ∈ l.map (·.1)) : at0 (l ++ r) a = at0 l a:=by
  unfold at0 lk
  obtain ⟨p,hp,rfl⟩:=List.mem_map.mp h
  have e : ((l ++ r).find? fun q=>q.1 == p.1) = l.find? fun q=>q.1 == p.1:=by
    rw [List.find?_append]
    cases q : l.find? fun q=>q.1 == p.1 with
    | some x=>rfl
    | none =>
      have:=List.find?_eq_none.mp q p hp
      simp at this
  rw [e]
theorem at0_new {l : List (Str × Int)} {a : Str} (h : a ∉ l.map (·.1)) : at0 (l ++ [(a,m)]) a = m:=by
  unfold at0 lk
  have e : ((l ++ [(a,m)]).find? fun q=>q.1 == a) = some (a,m):=by
    rw [List.find?_append]
    have : l.find? (fun q=>q.1 == a) = none:=List.find?_eq_none.mpr fun q hq c=>h (by
      rw [← eq_of_beq c]
      exact List.mem_map.mpr ⟨q,hq,rfl⟩)
    rw [this]
    simp
  rw [e]
  rfl
variable (j : JobOk n sp ways) (hz : ("zz" : Str) ∉ sp)
include j hz
theorem wide_job : JobOk (n + 1) (sp ++ (["zz"] : List Str)) ways:=⟨List.nodup_append.mpr ⟨j.nd,by simp,fun a ha b hb e=>hz (by
    rw [List.mem_singleton.mp hb] at e
    rw [← e]
    exact ha)⟩,fun x hx=>by
    rcases List.mem_append.mp hx with hx | hx
    · exact j.ok x hx
    · rw [List.mem_singleton.mp hx]; decide +kernel,fun x hx=>by
    rcases List.mem_append.mp hx with hx | hx
    · exact j.tg x hx
    · rw [List.mem_singleton.mp hx]; exact List.mem_append_right _ (by simp [nmX]),by simp,by
    have:=j.len
    rw [List.length_append,List.length_singleton]
    omega,j.fst,fun x hx=>List.mem_append_left _ (j.sub x hx),j.srt,j.snd,fun x hx=>List.mem_append_left _ (j.tgt x hx)⟩
omit j hz in
theorem wide_sz (Z : SzOk sp ways wi th) : SzOk (sp ++ (["zz"] : List Str)) ways (wi ++ ([("zz",m)] : List (Str × Int))) th:=⟨by rw [List.map_append,Z.w]; rfl,Z.t⟩
theorem wide_pool (Z : SzOk sp ways wi th) {c : Int} : maxI ((poolL (sp ++ (["zz"] : List Str)) ways).map (at0 (wi ++ ([("zz",m)] : List (Str × Int))))) < c ↔ (∀ p ∈ poolL sp ways,at0 wi p < c) ∧ m < c:=by
  have nz : ("zz" : Str) ∉ ways.map (·.1):=fun h=>hz (j.sub _ h)
  have nw : ("zz" : Str) ∉ wi.map (·.1):=by rw [Z.w]; exact hz
  have e : ∀ p,p ∈ poolL (sp ++ (["zz"] : List Str)) ways ↔ p ∈ poolL sp ways ∨ p = "zz":=fun p=>by
    unfold poolL
    rw [List.filter_append,List.mem_append,List.mem_append,List.mem_append]
    have : (["zz"] : List Str).filter (fun x=>!decide (x ∈ ways.map (·.1))) = (["zz"] : List Str):=by
      rw [List.filter_cons,decide_eq_false nz]
      rfl
    rw [this,List.mem_singleton]
    constructor
    · rintro ((h | h) | h)
      · exact .inl (.inl h)
      · exact .inr h
      · exact .inl (.inr h)
    · rintro ((h | h) | h)
      · exact .inl (.inl h)
      · exact .inr h
      · exact .inl (.inr h)
  have ne : (poolL (sp ++ (["zz"] : List Str)) ways).map (at0 (wi ++ ([("zz",m)] : List (Str × Int)))) ≠ []:=fun z=>by
    have:=(e "zz").mpr (.inr rfl)
    rw [List.map_eq_nil_iff.mp z] at this
    cases this
  have old : ∀ p ∈ poolL sp ways,at0 (wi ++ ([("zz",m)] : List (Str × Int))) p = at0 wi p:=fun p hp=>at0_app (by rw [Z.w]; exact pool_in j p hp)
  rw [maxI_lt ne]
  constructor
  · intro h
    refine ⟨fun p hp=>?_,?_⟩
    · rw [← old p hp]
      exact h _ (List.mem_map.mpr ⟨p,(e p).mpr (.inl hp),rfl⟩)
    · have:=h _ (List.mem_map.mpr ⟨"zz",(e "zz").mpr (.inr rfl),rfl⟩)
      rw [at0_new nw] at this
      exact this
  · rintro ⟨h1,h2⟩ k hk
    obtain ⟨p,hp,rfl⟩:=List.mem_map.mp hk
    rcases (e p).mp hp with hp | rfl
    · rw [old p hp]
      exact h1 p hp
    · rw [at0_new nw]
      exact h2
theorem wide_hole (Z : SzOk sp ways wi th) : holeO (sp ++ (["zz"] : List Str)) ways (wi ++ ([("zz",m)] : List (Str × Int))) = some (mxO (holeO sp ways wi) m):=by
  have nz : ("zz" : Str) ∉ ways.map (·.1):=fun h=>hz (j.sub _ h)
  have ne : poolL (sp ++ (["zz"] : List Str)) ways ≠ []:=fun z=>by
    have : ("zz" : Str) ∈ poolL (sp ++ (["zz"] : List Str)) ways:=List.mem_append_left _ (List.mem_filter.mpr ⟨by simp,by rw [decide_eq_false nz]; rfl⟩)
    rw [z] at this
    cases this
  have e1 : holeO (sp ++ (["zz"] : List Str)) ways (wi ++ ([("zz",m)] : List (Str × Int))) = some (maxI ((poolL (sp ++ (["zz"] : List Str)) ways).map (at0 (wi ++ ([("zz",m)] : List (Str × Int)))))):=by
    unfold holeO
    rw [if_neg ne]
  rw [e1]
  refine congrArg some (int_ext fun c=>?_)
  rw [wide_pool j hz Z,mxO_lt]
  refine and_congr_left fun _=>?_
  unfold holeO
  by_cases hp : poolL sp ways = []
  · rw [if_pos hp,hp]
    exact ⟨fun _ k e=>(nomatch e),fun _ p h=>by cases h⟩
  · rw [if_neg hp]
    have pn : (poolL sp ways).map (at0 wi) ≠ []:=by simpa using hp
    constructor
    · intro h k e
      cases e
      rw [maxI_lt pn]
      intro i hi
      obtain ⟨p,hp,rfl⟩:=List.mem_map.mp hi
      exact h p hp
    · intro h p hp
      exact (maxI_lt pn).mp (h _ rfl) _ (List.mem_map.mpr ⟨p,hp,rfl⟩)
omit hz in
theorem wide_good (hl : ways.length ≤ 40) (Z : SzOk sp ways wi th) {h : Int} : GoodH ways (wi ++ ([("zz",m)] : List (Str × Int))) th (some h) ↔ GoodH ways wi th (some h):=by
  have w : ∀ e ∈ ringL ways,widI (wi ++ ([("zz",m)] : List (Str × Int))) e = widI wi e:=fun e he=>by
    obtain ⟨l,rfl,ne,hin,_⟩:=ring_in j hl e he
    unfold widI
    rw [lstT_t]
    refine congrArg maxI (List.map_congr_left fun x hx=>at0_app ?_)
    rw [Z.w]
    exact j.sub x (hin x hx)
  constructor
  · intro g S hS
    exact g S fun d hd=>⟨(hS d hd).1,(hS d hd).2.1,fun e he ne=>by rw [w e he]; exact (hS d hd).2.2 e he ne⟩
  · intro g S hS
    exact g S fun d hd=>⟨(hS d hd).1,(hS d hd).2.1,fun e he ne=>by rw [← w e he]; exact (hS d hd).2.2 e he ne⟩
theorem with_ok (hl : ways.length ≤ 40) (Z : SzOk sp ways wi th) (hn : n ≤ 39) : p__law_with (jobD sp ways) (szD wi th) (.int m) = .ok (.tuple [jobD (sp ++ (["zz"] : List Str)) ways,szD (wi ++ ([("zz",m)] : List (Str × Int))) th]):=by
  have h1:=j.len
  have h2 : wi.length = sp.length:=by rw [← Z.w,List.length_map]
  unfold p__law_with
  rw [show o2 ixD (jobD sp ways) (.int 0) = .ok (.tuple (sts sp)) from o2_ix0t ..,R.bind_ok,o2_addt (by rw [List.length_map,List.length_singleton]; omega),R.bind_ok,show o2 ixD (jobD sp ways) (.int 1) = .ok (.tuple (ways.map wayD)) from o2_ix1t ..,R.bind_ok,show o2 ixD (szD wi th) (.int 0) = .ok (.tuple (wi.map piD)) from o2_ix0t ..,R.bind_ok,o2_addt (by rw [List.length_map,List.length_singleton]; omega),R.bind_ok,show o2 ixD (szD wi th) (.int 1) = .ok (.tuple (th.map piD)) from o2_ix1t ..,R.bind_ok]
  show R.ok _ = _
  have a : sts sp ++ [PyData.str "zz"] = sts (sp ++ (["zz"] : List Str)):=by simp
  have b : wi.map piD ++ [PyData.tuple [.str "zz",.int m]] = (wi ++ ([("zz",m)] : List (Str × Int))).map piD:=by simp
  rw [a,b]
  rfl
theorem least_ok (hn : n ≤ 39) (hl : ways.length ≤ 40) (Z : SzOk sp ways wi th) (pos : ∀ p ∈ th,0 ≤ p.2) : p__law_least_right (jobD sp ways) (szD wi th) = .ok (.bool true):=by
  obtain ⟨v,v0,hv,pv⟩:=need_ok j (by omega) hl Z pos
  obtain ⟨b,gb,cb⟩:=can_ok j (by omega) hl Z
  have tj:=tup_job sp ways
  have ts:=tup_sz wi th
  have wj:=wide_job j hz
  have wc : ∀ m : Int,∃ c : Bool,(c = true ↔ GoodH ways wi th (some (mxO (holeO sp ways wi) m))) ∧ p_can_be_done_by (jobD (sp ++ (["zz"] : List Str)) ways) (szD (wi ++ ([("zz",m)] : List (Str × Int))) th) = .ok (.bool c):=fun m=>by
    obtain ⟨c,gc,cc⟩:=can_ok wj (by omega) hl (wide_sz (m:=m) Z)
    refine ⟨c,?_,cc _ _ (tup_job _ _) (tup_sz _ _)⟩
    rw [gc,wide_hole j hz Z,wide_good j hl Z]
  have d1 : ∀ l : List (Str × Int),Nd 2 (.tuple (l.map piD)):=fun l=>nd_t (nd_map fun p _=>nd_t (nd_cons (nd_s _) (nd_cons (nd_i _) nd_nil)))
  have dS : Nd 3 (szD wi th):=nd_t (nd_cons (d1 wi) (nd_cons (d1 th) nd_nil))
  have l1:=lists_ok 60 (jobD sp ways) (by have:=dep_job sp ways; omega)
  have l2:=lists_ok 60 (szD wi th) (by have:=dS.1; omega)
  unfold p__law_least_right
  rw [pv _ _ tj ts,R.bind_ok,show o1 (isiD [.int]) (.int v) = .ok (.bool true) from rfl,R.bind_ok,truR_b,R.bind_ok,Bool.not_true,if_neg Bool.false_ne_true,show o1 (isiD [.bool]) (.int v) = .ok (.bool false) from rfl,R.bind_ok,truR_b,R.bind_ok,if_neg Bool.false_ne_true,o2_lti,R.bind_ok,boR_b,R.bind_ok,R.bind_ok,R.bind_ok,decide_eq_false (by omega),if_neg Bool.false_ne_true]
  rw [l1,R.bind_ok,l2,R.bind_ok,pv _ _ (tup_ljob sp ways) (tup_lsz wi th),R.bind_ok,o2_nei,R.bind_ok,boR_b,R.bind_ok,beq_self_eq_true,Bool.not_true,if_neg Bool.false_ne_true,cb _ _ tj ts,R.bind_ok,truR_b,R.bind_ok]
  cases b with
  | true =>
    rw [if_pos rfl,o2_eqi,R.bind_ok]
    rcases hv with ⟨_,e⟩ | ⟨ng,_⟩
    · rw [e]
      rfl
    · exact (ng (gb.mp rfl)).elim
  | false =>
    have ng : ¬ GoodH ways wi th (holeO sp ways wi):=fun z=>by have:=gb.mpr z; cases this
    rcases hv with ⟨g,_⟩ | ⟨_,gv,bv⟩
    · exact (ng g).elim
    obtain ⟨c1,g1,e1⟩:=wc v
    obtain ⟨c2,g2,e2⟩:=wc (v - 1)
    have h1 : c1 = true:=g1.mpr gv
    have h2 : c2 = false:=by
      cases c2 with
      | false=>rfl
      | true=>exact (less_bad j hl ng bv (g2.mp rfl)).elim
    subst h1
    subst h2
    rw [if_neg Bool.false_ne_true,with_ok j hz hl Z hn,R.bind_ok,un2_t,R.bind_ok]
    dsimp only
    rw [e1,R.bind_ok,truR_b,R.bind_ok,Bool.not_true,if_neg Bool.false_ne_true,o2_eqi,R.bind_ok,boR_b,R.bind_ok]
    split
    · rfl
    · rw [o2_subi,R.bind_ok,with_ok j hz hl Z hn,R.bind_ok,un2_t,R.bind_ok]
      dsimp only
      rw [e2,R.bind_ok,truR_b,R.bind_ok]
      rfl
end
end G
end DL
end L2
namespace L2
namespace DL
namespace G
open PySem PySem.Spec PyProof.Rows
section
variable {sp : List Str} {ways : List (Str × Option Str)} {th : List (Str × Int)} {most : Int}
theorem wide_loop (hm : 0 ≤ most) (ht : ∀ w ∈ ways,w.1 ∈ th.map (·.1)) (hw : ways.length ≤ 100) : ∀ (rest : List Str) (acc : List (Str × Int)) (N : Nat) (t : D),(acc.map (·.1) ++ rest).Nodup → acc.length + rest.length < 1000 → N + rest.length < 2 ^ 59 → TinOk N t →
    ∃ (more : List (Str × Int)) (t' : D),foldR (fun (s12 : D × D) d13=>(o2 ixD (jobD sp ways) (.int (1))).bind fun z15 =>
  (itR z15).bind fun l16 =>
  (fcR (fun d17=>(un2 d17).bind fun z18 =>
  (o2 inE d13 (.tuple [z18.1,z18.2])).bind fun z19 =>
  (boR z19).bind fun b20 =>
  if b20 = true then (o2 ixD (.dict (kvD PyData.int th)) z18.1).bind fun z21 =>
  .ok (some z21) else .ok none) l16).bind fun l22 =>
  (o2 addD (.list l22) (.list [(.int (0))])).bind fun z23 =>
  (o1 max1D z23).bind fun z24 =>
  (p__law_of s12.1 (.list [(.int (0)),(.int (0)),(.int (0)),(.int (1)),.int most])).bnx fun z25 =>
  (o2 addD z24 z25.1).bind fun z26 =>
  (seR s12.2 d13 z26).bind fun z27 =>
  .ok (z25.2,z27)) (t,.dict (kvD PyData.int acc)) (sts rest) = .ok (t',.dict (kvD PyData.int (acc ++ more))) ∧ more.map (·.1) = rest ∧ TinOk (N + rest.length) t' ∧ ∀ p ∈ more,∀ w ∈ ways,w.2 = some p.1 → at0 th w.1 ≤ p.2
  | [],acc,N,t,_,_,_,T=>⟨[],t,by rw [List.append_nil]; rfl,rfl,T,fun p hp=>by cases hp⟩
  | x :: rest,acc,N,t,nd,hl,hN,T=>by
    rw [List.length_cons] at hl hN
    have i1 : o2 ixD (jobD sp ways) (.int 1) = .ok (.tuple (ways.map wayD)):=o2_ix1t ..
    have hx : x ∉ acc.map (·.1):=fun h=>(List.nodup_append.mp nd).2.2 x h x (by simp) rfl
    have f : fcR (fun w : Str × Option Str=>(un2 (wayD w)).bind fun z18=>(o2 inE (.str x) (.tuple [z18.1,z18.2])).bind fun z19=>(boR z19).bind fun b20=>if b20 = true then (o2 ixD (.dict (kvD PyData.int th)) z18.1).bind fun z21=>.ok (some z21) else .ok none) ways
        = .ok ((ways.filter fun w=>inSeq (.str x) [.str w.1,oD w.2]).map fun w=>.int (at0 th w.1)):=fcR_if fun w hw=>by
      rw [un2_t,R.bind_ok,in_pair,R.bind_ok,boR_b,R.bind_ok]
      split
      · rw [ix_at (ht w hw),R.bind_ok]
      · rfl
    have pn : ((ways.filter fun w=>inSeq (.str x) [.str w.1,oD w.2]).map fun w=>at0 th w.1) ++ [0] ≠ []:=by simp
    have hm':=max_ok pn
    obtain ⟨m,em⟩ : ∃ m,m = maxI (((ways.filter fun w=>inSeq (.str x) [.str w.1,oD w.2]).map fun w=>at0 th w.1) ++ [0]):=⟨_,rfl⟩
    rw [← em] at hm'
    have mge : ∀ w ∈ ways,w.2 = some x → at0 th w.1 ≤ m:=fun w hw ew=>by
      refine Classical.byContradiction fun z=>?_
      have lt : maxI (((ways.filter fun w=>inSeq (.str x) [.str w.1,oD w.2]).map fun w=>at0 th w.1) ++ [0]) < at0 th w.1:=by rw [← em]; omega
      rw [maxI_lt pn] at lt
      have:=lt (at0 th w.1) (List.mem_append_left _ (List.mem_map.mpr ⟨w,List.mem_filter.mpr ⟨hw,by
        rw [ew]
        unfold inSeq
        rw [List.any_eq_true]
        exact ⟨.str x,by simp [oD],by rw [eqv_str]; exact decide_eq_true rfl⟩⟩,rfl⟩))
      omega
    obtain ⟨u,t1,e1,T1,hu⟩:=of_ok (xs:=[(.int (0)),(.int (0)),(.int (0)),(.int (1)),.int most]) (by omega) T (by simp) (by simp)
    obtain ⟨v,rfl,v0⟩ : ∃ v,u = .int v ∧ 0 ≤ v:=by
      simp only [List.mem_cons,List.not_mem_nil,or_false] at hu
      rcases hu with rfl | rfl | rfl | rfl | rfl
      · exact ⟨0,rfl,by decide⟩
      · exact ⟨0,rfl,by decide⟩
      · exact ⟨0,rfl,by decide⟩
      · exact ⟨1,rfl,by decide⟩
      · exact ⟨most,rfl,hm⟩
    obtain ⟨more,t2,e2,h2,T2,f2⟩:=wide_loop hm ht hw rest (acc ++ [(x,m + v)]) (N + 1) t1 (by rw [List.map_append,List.append_assoc]; exact nd) (by rw [List.length_append,List.length_singleton]; omega) (by omega) T1
    refine ⟨(x,m + v) :: more,t2,?_,by rw [List.map_cons,h2],by rw [List.length_cons,show N + (rest.length + 1) = N + 1 + rest.length by omega]; exact T2,fun p hp w hw' ew=>by
      rcases List.mem_cons.mp hp with e | hp
      · subst e
        have:=mge w hw' ew
        show at0 th w.1 ≤ m + v
        omega
      · exact f2 p hp w hw' ew⟩
    show foldR _ _ (PyData.str x :: sts rest) = _
    rw [foldR]
    have ad : o2 addD (.list ((ways.filter fun w : Str × Option Str=>inSeq (.str x) [.str w.1,oD w.2]).map fun w : Str × Option Str=>PyData.int (at0 th w.1))) (.list [.int 0]) = .ok (.list ((((ways.filter fun w : Str × Option Str=>inSeq (.str x) [.str w.1,oD w.2]).map fun w : Str × Option Str=>at0 th w.1) ++ [0]).map PyData.int)):=by
      have:=List.length_filter_le (fun w : Str × Option Str=>inSeq (.str x) [.str w.1,oD w.2]) ways
      rw [o2_addl (by rw [List.length_map]; simp; omega),List.map_append,List.map_map]
      rfl
    refine R.bind_eq (a:=(t1,.dict (kvD PyData.int (acc ++ [(x,m + v)])))) ?_ ?_
    · rw [i1,R.bind_ok,itR_t,R.bind_ok,fcR_map,f,R.bind_ok,ad,R.bind_ok,hm',R.bind_ok,e1,R.bnx_ok,o2_addi,R.bind_ok,set_new hx (by omega),R.bind_ok]
    · rw [List.append_assoc] at e2
      exact e2
theorem tag_srt : tagL.Pairwise fun a b=>sLe a b = true:=by decide +kernel
theorem sorts_ok {n N : Nat} {t : D} (j : JobOk n sp ways) (hk : ∃ k,sp = tagL.take k) (hn : n ≤ 40) (hw : ways.length ≤ 40) (m0 : 0 ≤ most) (m1 : most < 1000) (hN : N < 2 ^ 57 + 1000) (T : TinOk N t) : ∃ (wi th : List (Str × Int)) (t' : D),p__law_sorts t (jobD sp ways) (.int most) = .ok (szD wi th,t') ∧ TinOk (N + 100) t' ∧ SzOk sp ways wi th ∧ ∀ p ∈ th,0 ≤ p.2:=by
  have jl:=j.len
  have i0 : o2 ixD (jobD sp ways) (.int 0) = .ok (.tuple (sts sp)):=o2_ix0t ..
  have i1 : o2 ixD (jobD sp ways) (.int 1) = .ok (.tuple (ways.map wayD)):=o2_ix1t ..
  obtain ⟨th,t1,e1,T1,h1⟩:=mapS_gen (f:=fun (s4 : D) (w : Str × Option Str)=>(un2 (wayD w)).bind fun z5=>(o2 addD (.int most) (.int (1))).bind fun z6=>(p__law_take s4 z6).bnx fun z7=>.ok ((.tuple [z5.1,z7.1]),z7.2)) (enc:=piD) (c:=1) (P:=fun (w : Str × Option Str) (p : Str × Int)=>p.1 = w.1 ∧ 0 ≤ p.2) ways N t (fun N t w _ hN T=>by
    obtain ⟨d,t',e,T',d0,_⟩:=take_ok (top:=most + 1) (by omega) T (by omega) (by omega)
    exact ⟨(w.1,d),t',by rw [un2_t,R.bind_ok,o2_addi,R.bind_ok,e,R.bnx_ok],T',rfl,d0⟩) (by omega) T
  have et : th.map (·.1) = ways.map (·.1):=f2_fst h1 fun _ _ h=>h.1
  obtain ⟨wi,t2,e2,h2,T2,f2⟩:=wide_loop m0 (sp:=sp) (ways:=ways) (th:=th) (most:=most) (fun w hw=>by rw [et]; exact List.mem_map.mpr ⟨w,hw,rfl⟩) (by omega) sp [] (N + ways.length * 1) t1 (by simpa using j.nd) (by simp; omega) (by omega) T1
  have S : SzOk sp ways wi th:=⟨h2,et⟩
  have s1:=sortI_pi (l:=wi) (fun p hp=>j.ok _ (by rw [← h2]; exact List.mem_map.mpr ⟨p,hp,rfl⟩)) (by
    rw [h2]
    obtain ⟨k,hk⟩:=hk
    rw [hk]
    exact tag_srt.sublist (List.take_sublist _ _)) (by rw [h2]; exact j.nd)
  have s2:=sortI_pi (l:=th) (fun p hp=>j.ok _ (j.sub _ (by rw [← et]; exact List.mem_map.mpr ⟨p,hp,rfl⟩))) (by rw [et]; exact j.srt) (by rw [et]; exact j.fst)
  refine ⟨wi,th,t2,?_,T2.mono (by omega),S,f2_all h1 fun _ _ h=>h.2⟩
  unfold p__law_sorts
  rw [i1,R.bind_ok,itR_t,R.bind_ok,mapS_map]
  refine R.bind_eq e1 ?_
  rw [o1_dictl (g:=PyData.int) (by rw [et]; exact j.fst),R.bind_ok,i0,R.bind_ok,itR_t,R.bind_ok]
  refine R.bind_eq e2 ?_
  rw [List.nil_append,s1,R.bind_ok,o1_tupl,R.bind_ok,s2,R.bind_ok,o1_tupl,R.bind_ok]
end
end G
end DL
end L2
namespace L2
namespace DL
namespace G
open PySem PySem.Spec PyProof.Rows
mutual
def dEq : D → D → Bool
  | .none,.none=>true
  | .bool a,.bool b=>a == b
  | .int a,.int b=>a == b
  | .str a,.str b=>a == b
  | .tuple a,.tuple b=>dEqs a b
  | .list a,.list b=>dEqs a b
  | _,_=>false
def dEqs : List D → List D → Bool
  | [],[]=>true
  | a :: l,b :: r=>dEq a b && dEqs l r
  | _,_=>false
end
mutual
theorem dEq_eq : ∀ a b : D,dEq a b = true → a = b
  | .none,b,h=>by cases b <;> first | rfl | (simp [dEq] at h)
  | .bool x,b,h=>by cases b <;> first | (simp [dEq] at h; done) | (simp [dEq] at h; rw [h])
  | .int x,b,h=>by cases b <;> first | (simp [dEq] at h; done) | (simp [dEq] at h; rw [h])
  | .str x,b,h=>by cases b <;> first | (simp [dEq] at h; done) | (simp [dEq] at h; rw [h])
  | .tuple xs,b,h=>by
    cases b with
    | tuple ys=>rw [dEqs_eq xs ys (by simpa [dEq] using h)]
    | _=>simp [dEq] at h
  | .list xs,b,h=>by
    cases b with
    | list ys=>rw [dEqs_eq xs ys (by simpa [dEq] using h)]
    | _=>simp [dEq] at h
  | .dict kvs,b,h=>by cases b <;> simp [dEq] at h
theorem dEqs_eq : ∀ a b : List D,dEqs a b = true → a = b
  | [],b,h=>by
    cases b with
    | nil=>rfl
    | cons _ _=>simp [dEqs] at h
  | x :: xs,b,h=>by
    cases b with
    | nil=>simp [dEqs] at h
    | cons y ys =>
      simp only [dEqs,Bool.and_eq_true] at h
      rw [dEq_eq x y h.1,dEqs_eq xs ys h.2]
end
def mG (mn mc : List Sl → Rf) : List Sl → Rf:=fnM 16 <| seqM (asg 0 (tupM (consA (dat (tupM (consA (kst (.str "c")) (consA (kst (.str "d")) (consA (kst (.str "e")) (consA (kst (.str "f")) (consA (kst (.str "t")) (nilA)))))))) (consA (dat (tupM (consA (dat (tupM (consA (kst (.str "c")) (consA (kst (.str "d")) (nilA))))) (consA (dat (tupM (consA (kst (.str "d")) (consA (kst (.str "c")) (nilA))))) (consA (dat (tupM (consA (kst (.str "e")) (consA (kst (.str "f")) (nilA))))) (consA (dat (tupM (consA (kst (.str "f")) (consA (kst (.str "e")) (nilA))))) (nilA))))))) (nilA)))))
        (seqM (asgT (dat (tupM (consA (dat (tupM (consA (dat (tupM (consA (kst (.str "c")) (consA (kst (.int (2))) (nilA))))) (consA (dat (tupM (consA (kst (.str "d")) (consA (kst (.int (2))) (nilA))))) (consA (dat (tupM (consA (kst (.str "e")) (consA (kst (.int (3))) (nilA))))) (consA (dat (tupM (consA (kst (.str "f")) (consA (kst (.int (3))) (nilA))))) (consA (dat (tupM (consA (kst (.str "t")) (consA (kst (.int (1))) (nilA))))) (nilA)))))))) (consA (dat (tupM (consA (dat (tupM (consA (kst (.str "c")) (consA (kst (.int (1))) (nilA))))) (consA (dat (tupM (consA (kst (.str "d")) (consA (kst (.int (2))) (nilA))))) (consA (dat (tupM (consA (kst (.str "e")) (consA (kst (.int (2))) (nilA))))) (consA (dat (tupM (consA (kst (.str "f")) (consA (kst (.int (3))) (nilA))))) (nilA))))))) (nilA))))) (tgT (consG (tgN 1) (consG (tgN 2) (nilG)))))
        (seqM (asg 3 (tupM (consA (dat (op2 addD (slcM (var 1) (nopart) (part (kst (.int (2))))) (tupM (consA (dat (tupM (consA (kst (.str "e")) (consA (kst (.int (5))) (nilA))))) (consA (dat (tupM (consA (kst (.str "f")) (consA (kst (.int (5))) (nilA))))) (consA (dat (tupM (consA (kst (.str "t")) (consA (kst (.int (1))) (nilA))))) (nilA))))))) (consA (dat (op2 addD (slcM (var 2) (nopart) (part (kst (.int (2))))) (tupM (consA (dat (tupM (consA (kst (.str "e")) (consA (kst (.int (4))) (nilA))))) (consA (dat (tupM (consA (kst (.str "f")) (consA (kst (.int (5))) (nilA))))) (nilA)))))) (nilA)))))
        (seqM (asg 4 (lstM (consA (dat (callD mn (consA (dat (var 0)) (consA (dat (tupM (consA (dat (var 1)) (consA (dat (var 2)) (nilA))))) (nilA))))) (consA (dat (callD mn (consA (dat (var 0)) (consA (dat (var 3)) (nilA))))) (nilA)))))
        (seqM (asg 4 (op2 addD (var 4) (lstM (consA (dat (callD mn (consA (dat (var 0)) (consA (dat (tupM (consA (dat (op2 addD (slcM (var 1) (nopart) (part (kst (.int (4))))) (tupM (consA (dat (tupM (consA (kst (.str "t")) (consA (kst (.int (0))) (nilA))))) (nilA))))) (consA (dat (var 2)) (nilA))))) (nilA))))) (nilA)))))
        (seqM (asg 4 (op2 addD (var 4) (lstM (consA (dat (callD mn (consA (dat (var 0)) (consA (dat (tupM (consA (dat (var 1)) (consA (dat (op2 addD (slcM (var 2) (nopart) (part (kst (.int (2))))) (tupM (consA (dat (tupM (consA (kst (.str "e")) (consA (kst (.int (3))) (nilA))))) (consA (dat (tupM (consA (kst (.str "f")) (consA (kst (.int (3))) (nilA))))) (nilA)))))) (nilA))))) (nilA))))) (nilA)))))
        (seqM (asg 5 (lstM (consA (kst (.int (0))) (consA (kst (.int (4))) (consA (kst (.int (1))) (consA (kst (.int (3))) (nilA)))))))
        (seqM (asg 6 (tupM (consA (dat (tupM (consA (kst (.str "c")) (consA (kst (.str "d")) (nilA))))) (consA (dat (tupM (consA (dat (tupM (consA (kst (.str "c")) (consA (kst (.str "d")) (nilA))))) (consA (dat (tupM (consA (kst (.str "d")) (consA (kst (.str "c")) (nilA))))) (nilA))))) (nilA)))))
        (seqM (asg 4 (op2 addD (var 4) (lstM (consA (dat (callD mn (consA (dat (var 6)) (consA (dat (tupM (consA (dat (tupM (consA (dat (tupM (consA (kst (.str "c")) (consA (kst (.int (9))) (nilA))))) (consA (dat (tupM (consA (kst (.str "d")) (consA (kst (.int (9))) (nilA))))) (nilA))))) (consA (dat (tupM (consA (dat (tupM (consA (kst (.str "c")) (consA (kst (.int (7))) (nilA))))) (consA (dat (tupM (consA (kst (.str "d")) (consA (kst (.int (4))) (nilA))))) (nilA))))) (nilA))))) (nilA))))) (nilA)))))
        (seqM (asg 4 (op2 addD (var 4) (lstM (consA (dat (callD mn (consA (dat (var 6)) (consA (dat (tupM (consA (dat (tupM (consA (dat (tupM (consA (kst (.str "c")) (consA (kst (.int (9))) (nilA))))) (consA (dat (tupM (consA (kst (.str "d")) (consA (kst (.int (9))) (nilA))))) (nilA))))) (consA (dat (tupM (consA (dat (tupM (consA (kst (.str "c")) (consA (kst (.int (0))) (nilA))))) (consA (dat (tupM (consA (kst (.str "d")) (consA (kst (.int (4))) (nilA))))) (nilA))))) (nilA))))) (nilA))))) (nilA)))))
        (seqM (asg 4 (op2 addD (var 4) (lstM (consA (dat (callD mn (consA (dat (tupM (consA (dat (tupM (consA (kst (.str "a")) (nilA)))) (consA (dat (tupM (nilA))) (nilA))))) (consA (dat (tupM (consA (dat (tupM (consA (dat (tupM (consA (kst (.str "a")) (consA (kst (.int (0))) (nilA))))) (nilA)))) (consA (dat (tupM (nilA))) (nilA))))) (nilA))))) (nilA)))))
        (seqM (asg 4 (op2 addD (var 4) (lstM (consA (dat (callD mn (consA (dat (tupM (consA (dat (tupM (consA (kst (.str "a")) (consA (kst (.str "t")) (nilA))))) (consA (dat (tupM (consA (dat (tupM (consA (kst (.str "a")) (consA (kst (.str "t")) (nilA))))) (nilA)))) (nilA))))) (consA (dat (tupM (consA (dat (tupM (consA (dat (tupM (consA (kst (.str "a")) (consA (kst (.int (1))) (nilA))))) (consA (dat (tupM (consA (kst (.str "t")) (consA (kst (.int (1))) (nilA))))) (nilA))))) (consA (dat (tupM (consA (dat (tupM (consA (kst (.str "a")) (consA (kst (.int (1))) (nilA))))) (nilA)))) (nilA))))) (nilA))))) (nilA)))))
        (seqM (asg 5 (op2 addD (var 5) (lstM (consA (kst (.int (4))) (consA (kst (.int (0))) (consA (kst (.int (0))) (consA (kst (.int (0))) (nilA))))))))
        (seqM (asgT (dat (tupM (consA (dat (op1 tupD (op2 addD (compM [13] (itM (kst (.str "abcdefghijklmnopqrstuvwxyz"))) (tgN 13) (yesT) (dat (op2 addD (pvd (kst (.str "p"))) (var 13)))) (compM [13] (itM (kst (.str "abcdefghijklm"))) (tgN 13) (yesT) (dat (op2 addD (pvd (kst (.str "q"))) (var 13))))))) (consA (dat (op2 powD (pvd (kst (.int (10)))) (pvd (kst (.int (40)))))) (nilA))))) (tgT (consG (tgN 7) (consG (tgN 8) (nilG)))))
        (seqM (asg 9 (op1 tupD (compM [14] (rng1 (kst (.int (38)))) (tgN 14) (yesT) (dat (tupM (consA (dat (op2 ixD (var 7) (var 14))) (consA (dat (op2 ixD (var 7) (op2 subD (op2 addD (var 14) (pvd (kst (.int (1))))) (op2 mulD (pvd (kst (.int (2)))) (op2 modD (op1 intD (var 14)) (pvd (kst (.int (2))))))))) (nilA))))))))
        (seqM (asg 10 (tupM (consA (dat (op1 tupD (compM [14] (rng1 (kst (.int (39)))) (tgN 14) (yesT) (dat (tupM (consA (dat (op2 ixD (var 7) (var 14))) (consA (dat (ifX (bol (op2 ltD (var 14) (pvd (kst (.int (38)))))) (op2 addD (op2 fdivD (var 14) (pvd (kst (.int (2))))) (pvd (kst (.int (2))))) (pvd (kst (.int (0)))))) (nilA)))))))) (consA (dat (op1 tupD (compM [14] (rng1 (kst (.int (38)))) (tgN 14) (yesT) (dat (tupM (consA (dat (op2 ixD (var 7) (var 14))) (consA (dat (op2 addD (op2 fdivD (var 14) (pvd (kst (.int (2))))) (pvd (kst (.int (1)))))) (nilA)))))))) (nilA)))))
        (seqM (asg 11 (tupM (consA (dat (op1 tupD (compM [14] (rng1 (kst (.int (39)))) (tgN 14) (yesT) (dat (tupM (consA (dat (op2 ixD (var 7) (var 14))) (consA (dat (ifX (bol (op2 ltD (var 14) (pvd (kst (.int (38)))))) (op2 addD (op2 fdivD (var 14) (pvd (kst (.int (2))))) (pvd (kst (.int (1))))) (pvd (kst (.int (0)))))) (nilA)))))))) (consA (dat (op1 tupD (compM [14] (rng1 (kst (.int (38)))) (tgN 14) (yesT) (dat (tupM (consA (dat (op2 ixD (var 7) (var 14))) (consA (dat (op2 addD (op2 fdivD (var 14) (pvd (kst (.int (2))))) (pvd (kst (.int (1)))))) (nilA)))))))) (nilA)))))
        (seqM (asg 12 (tupM (consA (dat (op1 tupD (compM [14] (rng1 (kst (.int (39)))) (tgN 14) (yesT) (dat (tupM (consA (dat (op2 ixD (var 7) (var 14))) (consA (dat (ifX (bol (op2 ltD (var 14) (pvd (kst (.int (38)))))) (var 8) (op2 subD (var 8) (pvd (kst (.int (1))))))) (nilA)))))))) (consA (dat (op1 tupD (compM [14] (rng1 (kst (.int (38)))) (tgN 14) (yesT) (dat (tupM (consA (dat (op2 ixD (var 7) (var 14))) (consA (dat (var 8)) (nilA)))))))) (nilA)))))
        (seqM (asg 4 (op2 addD (var 4) (lstM (consA (dat (callD mn (consA (dat (tupM (consA (dat (var 7)) (consA (dat (var 9)) (nilA))))) (consA (dat (var 10)) (nilA))))) (consA (dat (callD mn (consA (dat (tupM (consA (dat (var 7)) (consA (dat (var 9)) (nilA))))) (consA (dat (var 11)) (nilA))))) (nilA))))))
        (seqM (asg 4 (op2 addD (var 4) (lstM (consA (dat (callD mn (consA (dat (tupM (consA (dat (var 7)) (consA (dat (var 9)) (nilA))))) (consA (dat (var 12)) (nilA))))) (nilA)))))
        (seqM (asg 4 (op2 addD (var 4) (lstM (consA (dat (callD mn (pickA [1,0] nilA (consA (dat (callD (m__law_lists 60) (consA (dat (var 3)) (nilA)))) (consA (dat (callD (m__law_lists 60) (consA (dat (var 0)) (nilA)))) (nilA)))))) (nilA)))))
        (seqM (ifS (notT (truM (callD (m__law_same 60) (consA (dat (var 4)) (consA (dat (op2 addD (var 5) (lstM (consA (kst (.int (1))) (consA (kst (.int (19))) (consA (dat (var 8)) (consA (kst (.int (4))) (nilA)))))))) (nilA)))))) (ret (pvd (kst (.bool false)))) (skip))
        (seqM (ifS (notT (truM (callD mc (consA (dat (var 0)) (consA (dat (var 3)) (nilA)))))) (ret (pvd (kst (.bool false)))) (skip))
        (ret (op1 allD (compM [15] (itM (dat (tupM (consA (dat (var 10)) (consA (dat (var 11)) (consA (dat (var 12)) (nilA))))))) (tgN 15) (yesT) (dat (callD mc (consA (dat (tupM (consA (dat (var 7)) (consA (dat (var 9)) (nilA))))) (consA (dat (var 15)) (nilA))))))))))))))))))))))))))))))
theorem mG_eq : m__law_by_hand_right = mG m_place_needed m__law_least_right:=rfl
def pG (pn pc : D → D → R D) : R D :=
  (un2 (.tuple [(.tuple [(.tuple [(.str "c"),(.int (2))]),(.tuple [(.str "d"),(.int (2))]),(.tuple [(.str "e"),(.int (3))]),(.tuple [(.str "f"),(.int (3))]),(.tuple [(.str "t"),(.int (1))])]),(.tuple [(.tuple [(.str "c"),(.int (1))]),(.tuple [(.str "d"),(.int (2))]),(.tuple [(.str "e"),(.int (2))]),(.tuple [(.str "f"),(.int (3))])])])).bind fun z1 =>
  (prtR (.int (2))).bind fun i2 =>
  (o1 (fun d=>cutD d none (some i2)) z1.1).bind fun z3 =>
  (o2 addD z3 (.tuple [(.tuple [(.str "e"),(.int (5))]),(.tuple [(.str "f"),(.int (5))]),(.tuple [(.str "t"),(.int (1))])])).bind fun z4 =>
  (prtR (.int (2))).bind fun i5 =>
  (o1 (fun d=>cutD d none (some i5)) z1.2).bind fun z6 =>
  (o2 addD z6 (.tuple [(.tuple [(.str "e"),(.int (4))]),(.tuple [(.str "f"),(.int (5))])])).bind fun z7 =>
  (pn (.tuple [(.tuple [(.str "c"),(.str "d"),(.str "e"),(.str "f"),(.str "t")]),(.tuple [(.tuple [(.str "c"),(.str "d")]),(.tuple [(.str "d"),(.str "c")]),(.tuple [(.str "e"),(.str "f")]),(.tuple [(.str "f"),(.str "e")])])]) (.tuple [z1.1,z1.2])).bind fun z8 =>
  (pn (.tuple [(.tuple [(.str "c"),(.str "d"),(.str "e"),(.str "f"),(.str "t")]),(.tuple [(.tuple [(.str "c"),(.str "d")]),(.tuple [(.str "d"),(.str "c")]),(.tuple [(.str "e"),(.str "f")]),(.tuple [(.str "f"),(.str "e")])])]) (.tuple [z4,z7])).bind fun z9 =>
  (prtR (.int (4))).bind fun i10 =>
  (o1 (fun d=>cutD d none (some i10)) z1.1).bind fun z11 =>
  (o2 addD z11 (.tuple [(.tuple [(.str "t"),(.int (0))])])).bind fun z12 =>
  (pn (.tuple [(.tuple [(.str "c"),(.str "d"),(.str "e"),(.str "f"),(.str "t")]),(.tuple [(.tuple [(.str "c"),(.str "d")]),(.tuple [(.str "d"),(.str "c")]),(.tuple [(.str "e"),(.str "f")]),(.tuple [(.str "f"),(.str "e")])])]) (.tuple [z12,z1.2])).bind fun z13 =>
  (o2 addD (.list [z8,z9]) (.list [z13])).bind fun z14 =>
  (prtR (.int (2))).bind fun i15 =>
  (o1 (fun d=>cutD d none (some i15)) z1.2).bind fun z16 =>
  (o2 addD z16 (.tuple [(.tuple [(.str "e"),(.int (3))]),(.tuple [(.str "f"),(.int (3))])])).bind fun z17 =>
  (pn (.tuple [(.tuple [(.str "c"),(.str "d"),(.str "e"),(.str "f"),(.str "t")]),(.tuple [(.tuple [(.str "c"),(.str "d")]),(.tuple [(.str "d"),(.str "c")]),(.tuple [(.str "e"),(.str "f")]),(.tuple [(.str "f"),(.str "e")])])]) (.tuple [z1.1,z17])).bind fun z18 =>
  (o2 addD z14 (.list [z18])).bind fun z19 =>
  (pn (.tuple [(.tuple [(.str "c"),(.str "d")]),(.tuple [(.tuple [(.str "c"),(.str "d")]),(.tuple [(.str "d"),(.str "c")])])]) (.tuple [(.tuple [(.tuple [(.str "c"),(.int (9))]),(.tuple [(.str "d"),(.int (9))])]),(.tuple [(.tuple [(.str "c"),(.int (7))]),(.tuple [(.str "d"),(.int (4))])])])).bind fun z20 =>
  (o2 addD z19 (.list [z20])).bind fun z21 =>
  (pn (.tuple [(.tuple [(.str "c"),(.str "d")]),(.tuple [(.tuple [(.str "c"),(.str "d")]),(.tuple [(.str "d"),(.str "c")])])]) (.tuple [(.tuple [(.tuple [(.str "c"),(.int (9))]),(.tuple [(.str "d"),(.int (9))])]),(.tuple [(.tuple [(.str "c"),(.int (0))]),(.tuple [(.str "d"),(.int (4))])])])).bind fun z22 =>
  (o2 addD z21 (.list [z22])).bind fun z23 =>
  (pn (.tuple [(.tuple [(.str "a")]),(.tuple [])]) (.tuple [(.tuple [(.tuple [(.str "a"),(.int (0))])]),(.tuple [])])).bind fun z24 =>
  (o2 addD z23 (.list [z24])).bind fun z25 =>
  (pn (.tuple [(.tuple [(.str "a"),(.str "t")]),(.tuple [(.tuple [(.str "a"),(.str "t")])])]) (.tuple [(.tuple [(.tuple [(.str "a"),(.int (1))]),(.tuple [(.str "t"),(.int (1))])]),(.tuple [(.tuple [(.str "a"),(.int (1))])])])).bind fun z26 =>
  (o2 addD z25 (.list [z26])).bind fun z27 =>
  (o2 addD (.list [(.int (0)),(.int (4)),(.int (1)),(.int (3))]) (.list [(.int (4)),(.int (0)),(.int (0)),(.int (0))])).bind fun z28 =>
  (itR (.str "abcdefghijklmnopqrstuvwxyz")).bind fun l29 =>
  (mapR (fun d30=>(o2 addD (.str "p") d30).bind fun z31 =>
  .ok z31) l29).bind fun l32 =>
  (itR (.str "abcdefghijklm")).bind fun l33 =>
  (mapR (fun d34=>(o2 addD (.str "q") d34).bind fun z35 =>
  .ok z35) l33).bind fun l36 =>
  (o2 addD (.list l32) (.list l36)).bind fun z37 =>
  (o1 tupD z37).bind fun z38 =>
  (o2 powD (.int (10)) (.int (40))).bind fun z39 =>
  (un2 (.tuple [z38,z39])).bind fun z40 =>
  (rngR (.int (38))).bind fun l41 =>
  (mapR (fun d42=>(o2 ixD z40.1 d42).bind fun z43 =>
  (o2 addD d42 (.int (1))).bind fun z44 =>
  (o1 intD d42).bind fun z45 =>
  (o2 modD z45 (.int (2))).bind fun z46 =>
  (o2 mulD (.int (2)) z46).bind fun z47 =>
  (o2 subD z44 z47).bind fun z48 =>
  (o2 ixD z40.1 z48).bind fun z49 =>
  .ok (.tuple [z43,z49])) l41).bind fun l50 =>
  (o1 tupD (.list l50)).bind fun z51 =>
  (rngR (.int (39))).bind fun l52 =>
  (mapR (fun d53=>(o2 ixD z40.1 d53).bind fun z54 =>
  (o2 ltD d53 (.int (38))).bind fun z55 =>
  (boR z55).bind fun b56 =>
  ((if b56 = true then (o2 fdivD d53 (.int (2))).bind fun z58 =>
  (o2 addD z58 (.int (2))).bind fun z59 =>
  .ok z59 else .ok (.int (0))) : R (D)).bind fun z57 =>
  .ok (.tuple [z54,z57])) l52).bind fun l60 =>
  (o1 tupD (.list l60)).bind fun z61 =>
  (rngR (.int (38))).bind fun l62 =>
  (mapR (fun d63=>(o2 ixD z40.1 d63).bind fun z64 =>
  (o2 fdivD d63 (.int (2))).bind fun z65 =>
  (o2 addD z65 (.int (1))).bind fun z66 =>
  .ok (.tuple [z64,z66])) l62).bind fun l67 =>
  (o1 tupD (.list l67)).bind fun z68 =>
  (rngR (.int (39))).bind fun l69 =>
  (mapR (fun d70=>(o2 ixD z40.1 d70).bind fun z71 =>
  (o2 ltD d70 (.int (38))).bind fun z72 =>
  (boR z72).bind fun b73 =>
  ((if b73 = true then (o2 fdivD d70 (.int (2))).bind fun z75 =>
  (o2 addD z75 (.int (1))).bind fun z76 =>
  .ok z76 else .ok (.int (0))) : R (D)).bind fun z74 =>
  .ok (.tuple [z71,z74])) l69).bind fun l77 =>
  (o1 tupD (.list l77)).bind fun z78 =>
  (rngR (.int (38))).bind fun l79 =>
  (mapR (fun d80=>(o2 ixD z40.1 d80).bind fun z81 =>
  (o2 fdivD d80 (.int (2))).bind fun z82 =>
  (o2 addD z82 (.int (1))).bind fun z83 =>
  .ok (.tuple [z81,z83])) l79).bind fun l84 =>
  (o1 tupD (.list l84)).bind fun z85 =>
  (rngR (.int (39))).bind fun l86 =>
  (mapR (fun d87=>(o2 ixD z40.1 d87).bind fun z88 =>
  (o2 ltD d87 (.int (38))).bind fun z89 =>
  (boR z89).bind fun b90 =>
  ((if b90 = true then .ok z40.2 else (o2 subD z40.2 (.int (1))).bind fun z92 =>
  .ok z92) : R (D)).bind fun z91 =>
  .ok (.tuple [z88,z91])) l86).bind fun l93 =>
  (o1 tupD (.list l93)).bind fun z94 =>
  (rngR (.int (38))).bind fun l95 =>
  (mapR (fun d96=>(o2 ixD z40.1 d96).bind fun z97 =>
  .ok (.tuple [z97,z40.2])) l95).bind fun l98 =>
  (o1 tupD (.list l98)).bind fun z99 =>
  (pn (.tuple [z40.1,z51]) (.tuple [z61,z68])).bind fun z100 =>
  (pn (.tuple [z40.1,z51]) (.tuple [z78,z85])).bind fun z101 =>
  (o2 addD z27 (.list [z100,z101])).bind fun z102 =>
  (pn (.tuple [z40.1,z51]) (.tuple [z94,z99])).bind fun z103 =>
  (o2 addD z102 (.list [z103])).bind fun z104 =>
  (p__law_lists 60 (.tuple [z4,z7])).bind fun z105 =>
  (p__law_lists 60 (.tuple [(.tuple [(.str "c"),(.str "d"),(.str "e"),(.str "f"),(.str "t")]),(.tuple [(.tuple [(.str "c"),(.str "d")]),(.tuple [(.str "d"),(.str "c")]),(.tuple [(.str "e"),(.str "f")]),(.tuple [(.str "f"),(.str "e")])])])).bind fun z106 =>
  (pn z106 z105).bind fun z107 =>
  (o2 addD z104 (.list [z107])).bind fun z108 =>
  (o2 addD z28 (.list [(.int (1)),(.int (19)),z40.2,(.int (4))])).bind fun z109 =>
  (p__law_same 60 z108 z109).bind fun z110 =>
  (truR z110).bind fun b111 =>
  if (!b111) = true then
  .ok (.bool false)
  else
  (pc (.tuple [(.tuple [(.str "c"),(.str "d"),(.str "e"),(.str "f"),(.str "t")]),(.tuple [(.tuple [(.str "c"),(.str "d")]),(.tuple [(.str "d"),(.str "c")]),(.tuple [(.str "e"),(.str "f")]),(.tuple [(.str "f"),(.str "e")])])]) (.tuple [z4,z7])).bind fun z113 =>
  (truR z113).bind fun b114 =>
  if (!b114) = true then
  .ok (.bool false)
  else
  (itR (.tuple [(.tuple [z61,z68]),(.tuple [z78,z85]),(.tuple [z94,z99])])).bind fun l116 =>
  (mapR (fun d117=>(pc (.tuple [z40.1,z51]) d117).bind fun z118 =>
  .ok z118) l116).bind fun l119 =>
  (o1 allD (.list l119)).bind fun z120 =>
  .ok z120
theorem pfG (mn mc : List Sl → Rf) (pn pc : D → D → R D) (HN : ∀ a b : D,FR .d (mn [.s a,.s b]) (pn a b)) (HC : ∀ a b : D,FR .d (mc [.s a,.s b]) (pc a b)) : FR .d (mG mn mc []) (pG pn pc) :=
  fr_fn (Γ:=[.x,.x,.x,.x,.x,.x,.x,.x,.x,.x,.x,.x,.x,.x,.x,.x]) ⟨trivial,trivial,trivial,trivial,trivial,trivial,trivial,trivial,trivial,trivial,trivial,trivial,trivial,trivial,trivial,trivial,trivial⟩ (c_seq (c_asg (c_tupM (c_consA (c_dat (c_tupM (c_consA (c_kst (c_consA (c_kst (c_consA (c_kst (c_consA (c_kst (c_consA (c_kst (c_nilA (k_datN (rd_dn rd_d) (c_consA (c_dat (c_tupM (c_consA (c_dat (c_tupM (c_consA (c_kst (c_consA (c_kst (c_nilA (k_datN (rd_dn rd_d) (c_consA (c_dat (c_tupM (c_consA (c_kst (c_consA (c_kst (c_nilA (k_datN (rd_dn rd_d) (c_consA (c_dat (c_tupM (c_consA (c_kst (c_consA (c_kst (c_nilA (k_datN (rd_dn rd_d) (c_consA (c_dat (c_tupM (c_consA (c_kst (c_consA (c_kst (c_nilA (k_datN (rd_dn rd_d) (c_nilA (k_datN (rd_dn rd_d) (c_nilA (k_intoD rd_d rfl rfl (k_cv (Γ':=[.s ((.tuple [(.tuple [(.str "c"),(.str "d"),(.str "e"),(.str "f"),(.str "t")]),(.tuple [(.tuple [(.str "c"),(.str "d")]),(.tuple [(.str "d"),(.str "c")]),(.tuple [(.str "e"),(.str "f")]),(.tuple [(.str "f"),(.str "e")])])])),.x,.x,.x,.x,.x,.x,.x,.x,.x,.x,.x,.x,.x,.x,.x]) rfl (k_seq (c_seq (c_asgT (c_dat (c_tupM (c_consA (c_dat (c_tupM (c_consA (c_dat (c_tupM (c_consA (c_kst (c_consA (c_kst (c_nilA (k_datN (rd_dn rd_d) (c_consA (c_dat (c_tupM (c_consA (c_kst (c_consA (c_kst (c_nilA (k_datN (rd_dn rd_d) (c_consA (c_dat (c_tupM (c_consA (c_kst (c_consA (c_kst (c_nilA (k_datN (rd_dn rd_d) (c_consA (c_dat (c_tupM (c_consA (c_kst (c_consA (c_kst (c_nilA (k_datN (rd_dn rd_d) (c_consA (c_dat (c_tupM (c_consA (c_kst (c_consA (c_kst (c_nilA (k_datN (rd_dn rd_d) (c_nilA (k_datN (rd_dn rd_d) (c_consA (c_dat (c_tupM (c_consA (c_dat (c_tupM (c_consA (c_kst (c_consA (c_kst (c_nilA (k_datN (rd_dn rd_d) (c_consA (c_dat (c_tupM (c_consA (c_kst (c_consA (c_kst (c_nilA (k_datN (rd_dn rd_d) (c_consA (c_dat (c_tupM (c_consA (c_kst (c_consA (c_kst (c_nilA (k_datN (rd_dn rd_d) (c_consA (c_dat (c_tupM (c_consA (c_kst (c_consA (c_kst (c_nilA (k_datN (rd_dn rd_d) (c_nilA (k_datN (rd_dn rd_d) (c_nilA (k_datN (rd_dn rd_d) (c_tg2 fun z1=>c_consG (c_tgN rfl rfl (c_consG (c_tgN rfl rfl (c_nilG (k_seq (c_seq (c_asg (c_tupM (c_consA (c_dat (c_op2 (c_slc (c_varS rfl (c_nopart (c_part (c_kst (k_lift fun i2=>k_op1 rd_d trivial fun pz3 z3 hz3=>c_tupM (c_consA (c_dat (c_tupM (c_consA (c_kst (c_consA (c_kst (c_nilA (k_datN (rd_dn rd_d) (c_consA (c_dat (c_tupM (c_consA (c_kst (c_consA (c_kst (c_nilA (k_datN (rd_dn rd_d) (c_consA (c_dat (c_tupM (c_consA (c_kst (c_consA (c_kst (c_nilA (k_datN (rd_dn rd_d) (c_nilA (k_op2 hz3 trivial rd_d trivial fun pz4 z4 hz4=>k_datN hz4 (c_consA (c_dat (c_op2 (c_slc (c_varS rfl (c_nopart (c_part (c_kst (k_lift fun i5=>k_op1 rd_d trivial fun pz6 z6 hz6=>c_tupM (c_consA (c_dat (c_tupM (c_consA (c_kst (c_consA (c_kst (c_nilA (k_datN (rd_dn rd_d) (c_consA (c_dat (c_tupM (c_consA (c_kst (c_consA (c_kst (c_nilA (k_datN (rd_dn rd_d) (c_nilA (k_op2 hz6 trivial rd_d trivial fun pz7 z7 hz7=>k_datN hz7 (c_nilA (k_intoD rd_d rfl rfl (k_cv (Γ':=[.s ((.tuple [(.tuple [(.str "c"),(.str "d"),(.str "e"),(.str "f"),(.str "t")]),(.tuple [(.tuple [(.str "c"),(.str "d")]),(.tuple [(.str "d"),(.str "c")]),(.tuple [(.str "e"),(.str "f")]),(.tuple [(.str "f"),(.str "e")])])])),.s z1.1,.s z1.2,.s ((.tuple [z4,z7])),.x,.x,.x,.x,.x,.x,.x,.x,.x,.x,.x,.x]) rfl (k_seq (c_seq (c_asg (c_lstM (c_consA (c_dat (c_callD (c_consA (c_datV rfl rfl rfl (c_consA (c_dat (c_tupM (c_consA (c_datV rfl rfl rfl (c_consA (c_datV rfl rfl rfl (c_nilA (k_datN (rd_dn rd_d) (c_nilA (k_callDd (HN (.tuple [(.tuple [(.str "c"),(.str "d"),(.str "e"),(.str "f"),(.str "t")]),(.tuple [(.tuple [(.str "c"),(.str "d")]),(.tuple [(.str "d"),(.str "c")]),(.tuple [(.str "e"),(.str "f")]),(.tuple [(.str "f"),(.str "e")])])]) (.tuple [z1.1,z1.2])) fun z8=>k_datN (rd_dn rd_d) (c_consA (c_dat (c_callD (c_consA (c_datV rfl rfl rfl (c_consA (c_datV rfl rfl rfl (c_nilA (k_callDd (HN (.tuple [(.tuple [(.str "c"),(.str "d"),(.str "e"),(.str "f"),(.str "t")]),(.tuple [(.tuple [(.str "c"),(.str "d")]),(.tuple [(.str "d"),(.str "c")]),(.tuple [(.str "e"),(.str "f")]),(.tuple [(.str "f"),(.str "e")])])]) (.tuple [z4,z7])) fun z9=>k_datN (rd_dn rd_d) (c_nilA (k_intoF rd_f rfl rfl (k_cv (Γ':=[.s ((.tuple [(.tuple [(.str "c"),(.str "d"),(.str "e"),(.str "f"),(.str "t")]),(.tuple [(.tuple [(.str "c"),(.str "d")]),(.tuple [(.str "d"),(.str "c")]),(.tuple [(.str "e"),(.str "f")]),(.tuple [(.str "f"),(.str "e")])])])),.s z1.1,.s z1.2,.s ((.tuple [z4,z7])),.o ((.list [z8,z9])),.x,.x,.x,.x,.x,.x,.x,.x,.x,.x,.x]) rfl (k_seq (c_seq (c_asg (c_op2 (c_varO rfl (c_lstM (c_consA (c_dat (c_callD (c_consA (c_datV rfl rfl rfl (c_consA (c_dat (c_tupM (c_consA (c_dat (c_op2 (c_slc (c_varS rfl (c_nopart (c_part (c_kst (k_lift fun i10=>k_op1 rd_d trivial fun pz11 z11 hz11=>c_tupM (c_consA (c_dat (c_tupM (c_consA (c_kst (c_consA (c_kst (c_nilA (k_datN (rd_dn rd_d) (c_nilA (k_op2 hz11 trivial rd_d trivial fun pz12 z12 hz12=>k_datN hz12 (c_consA (c_datV rfl rfl rfl (c_nilA (k_datN (rd_dn rd_d) (c_nilA (k_callDd (HN (.tuple [(.tuple [(.str "c"),(.str "d"),(.str "e"),(.str "f"),(.str "t")]),(.tuple [(.tuple [(.str "c"),(.str "d")]),(.tuple [(.str "d"),(.str "c")]),(.tuple [(.str "e"),(.str "f")]),(.tuple [(.str "f"),(.str "e")])])]) (.tuple [z12,z1.2])) fun z13=>k_datN (rd_dn rd_d) (c_nilA (k_op2f ow_addL rd_r rfl rd_f trivial fun z14=>k_intoF rd_f rfl rfl (k_cv (Γ':=[.s ((.tuple [(.tuple [(.str "c"),(.str "d"),(.str "e"),(.str "f"),(.str "t")]),(.tuple [(.tuple [(.str "c"),(.str "d")]),(.tuple [(.str "d"),(.str "c")]),(.tuple [(.str "e"),(.str "f")]),(.tuple [(.str "f"),(.str "e")])])])),.s z1.1,.s z1.2,.s ((.tuple [z4,z7])),.o z14,.x,.x,.x,.x,.x,.x,.x,.x,.x,.x,.x]) rfl (k_seq (c_seq (c_asg (c_op2 (c_varO rfl (c_lstM (c_consA (c_dat (c_callD (c_consA (c_datV rfl rfl rfl (c_consA (c_dat (c_tupM (c_consA (c_datV rfl rfl rfl (c_consA (c_dat (c_op2 (c_slc (c_varS rfl (c_nopart (c_part (c_kst (k_lift fun i15=>k_op1 rd_d trivial fun pz16 z16 hz16=>c_tupM (c_consA (c_dat (c_tupM (c_consA (c_kst (c_consA (c_kst (c_nilA (k_datN (rd_dn rd_d) (c_consA (c_dat (c_tupM (c_consA (c_kst (c_consA (c_kst (c_nilA (k_datN (rd_dn rd_d) (c_nilA (k_op2 hz16 trivial rd_d trivial fun pz17 z17 hz17=>k_datN hz17 (c_nilA (k_datN (rd_dn rd_d) (c_nilA (k_callDd (HN (.tuple [(.tuple [(.str "c"),(.str "d"),(.str "e"),(.str "f"),(.str "t")]),(.tuple [(.tuple [(.str "c"),(.str "d")]),(.tuple [(.str "d"),(.str "c")]),(.tuple [(.str "e"),(.str "f")]),(.tuple [(.str "f"),(.str "e")])])]) (.tuple [z1.1,z17])) fun z18=>k_datN (rd_dn rd_d) (c_nilA (k_op2f ow_addL rd_r rfl rd_f trivial fun z19=>k_intoF rd_f rfl rfl (k_cv (Γ':=[.s ((.tuple [(.tuple [(.str "c"),(.str "d"),(.str "e"),(.str "f"),(.str "t")]),(.tuple [(.tuple [(.str "c"),(.str "d")]),(.tuple [(.str "d"),(.str "c")]),(.tuple [(.str "e"),(.str "f")]),(.tuple [(.str "f"),(.str "e")])])])),.s z1.1,.s z1.2,.s ((.tuple [z4,z7])),.o z19,.x,.x,.x,.x,.x,.x,.x,.x,.x,.x,.x]) rfl (k_seq (c_seq (c_asg (c_lstM (c_consA (c_kst (c_consA (c_kst (c_consA (c_kst (c_consA (c_kst (c_nilA (k_intoF rd_f rfl rfl (k_cv (Γ':=[.s ((.tuple [(.tuple [(.str "c"),(.str "d"),(.str "e"),(.str "f"),(.str "t")]),(.tuple [(.tuple [(.str "c"),(.str "d")]),(.tuple [(.str "d"),(.str "c")]),(.tuple [(.str "e"),(.str "f")]),(.tuple [(.str "f"),(.str "e")])])])),.s z1.1,.s z1.2,.s ((.tuple [z4,z7])),.o z19,.o ((.list [(.int (0)),(.int (4)),(.int (1)),(.int (3))])),.x,.x,.x,.x,.x,.x,.x,.x,.x,.x]) rfl (k_seq (c_seq (c_asg (c_tupM (c_consA (c_dat (c_tupM (c_consA (c_kst (c_consA (c_kst (c_nilA (k_datN (rd_dn rd_d) (c_consA (c_dat (c_tupM (c_consA (c_dat (c_tupM (c_consA (c_kst (c_consA (c_kst (c_nilA (k_datN (rd_dn rd_d) (c_consA (c_dat (c_tupM (c_consA (c_kst (c_consA (c_kst (c_nilA (k_datN (rd_dn rd_d) (c_nilA (k_datN (rd_dn rd_d) (c_nilA (k_intoD rd_d rfl rfl (k_cv (Γ':=[.s ((.tuple [(.tuple [(.str "c"),(.str "d"),(.str "e"),(.str "f"),(.str "t")]),(.tuple [(.tuple [(.str "c"),(.str "d")]),(.tuple [(.str "d"),(.str "c")]),(.tuple [(.str "e"),(.str "f")]),(.tuple [(.str "f"),(.str "e")])])])),.s z1.1,.s z1.2,.s ((.tuple [z4,z7])),.o z19,.o ((.list [(.int (0)),(.int (4)),(.int (1)),(.int (3))])),.s ((.tuple [(.tuple [(.str "c"),(.str "d")]),(.tuple [(.tuple [(.str "c"),(.str "d")]),(.tuple [(.str "d"),(.str "c")])])])),.x,.x,.x,.x,.x,.x,.x,.x,.x]) rfl (k_seq (c_seq (c_asg (c_op2 (c_varO rfl (c_lstM (c_consA (c_dat (c_callD (c_consA (c_datV rfl rfl rfl (c_consA (c_dat (c_tupM (c_consA (c_dat (c_tupM (c_consA (c_dat (c_tupM (c_consA (c_kst (c_consA (c_kst (c_nilA (k_datN (rd_dn rd_d) (c_consA (c_dat (c_tupM (c_consA (c_kst (c_consA (c_kst (c_nilA (k_datN (rd_dn rd_d) (c_nilA (k_datN (rd_dn rd_d) (c_consA (c_dat (c_tupM (c_consA (c_dat (c_tupM (c_consA (c_kst (c_consA (c_kst (c_nilA (k_datN (rd_dn rd_d) (c_consA (c_dat (c_tupM (c_consA (c_kst (c_consA (c_kst (c_nilA (k_datN (rd_dn rd_d) (c_nilA (k_datN (rd_dn rd_d) (c_nilA (k_datN (rd_dn rd_d) (c_nilA (k_callDd (HN (.tuple [(.tuple [(.str "c"),(.str "d")]),(.tuple [(.tuple [(.str "c"),(.str "d")]),(.tuple [(.str "d"),(.str "c")])])]) (.tuple [(.tuple [(.tuple [(.str "c"),(.int (9))]),(.tuple [(.str "d"),(.int (9))])]),(.tuple [(.tuple [(.str "c"),(.int (7))]),(.tuple [(.str "d"),(.int (4))])])])) fun z20=>k_datN (rd_dn rd_d) (c_nilA (k_op2f ow_addL rd_r rfl rd_f trivial fun z21=>k_intoF rd_f rfl rfl (k_cv (Γ':=[.s ((.tuple [(.tuple [(.str "c"),(.str "d"),(.str "e"),(.str "f"),(.str "t")]),(.tuple [(.tuple [(.str "c"),(.str "d")]),(.tuple [(.str "d"),(.str "c")]),(.tuple [(.str "e"),(.str "f")]),(.tuple [(.str "f"),(.str "e")])])])),.s z1.1,.s z1.2,.s ((.tuple [z4,z7])),.o z21,.o ((.list [(.int (0)),(.int (4)),(.int (1)),(.int (3))])),.s ((.tuple [(.tuple [(.str "c"),(.str "d")]),(.tuple [(.tuple [(.str "c"),(.str "d")]),(.tuple [(.str "d"),(.str "c")])])])),.x,.x,.x,.x,.x,.x,.x,.x,.x]) rfl (k_seq (c_seq (c_asg (c_op2 (c_varO rfl (c_lstM (c_consA (c_dat (c_callD (c_consA (c_datV rfl rfl rfl (c_consA (c_dat (c_tupM (c_consA (c_dat (c_tupM (c_consA (c_dat (c_tupM (c_consA (c_kst (c_consA (c_kst (c_nilA (k_datN (rd_dn rd_d) (c_consA (c_dat (c_tupM (c_consA (c_kst (c_consA (c_kst (c_nilA (k_datN (rd_dn rd_d) (c_nilA (k_datN (rd_dn rd_d) (c_consA (c_dat (c_tupM (c_consA (c_dat (c_tupM (c_consA (c_kst (c_consA (c_kst (c_nilA (k_datN (rd_dn rd_d) (c_consA (c_dat (c_tupM (c_consA (c_kst (c_consA (c_kst (c_nilA (k_datN (rd_dn rd_d) (c_nilA (k_datN (rd_dn rd_d) (c_nilA (k_datN (rd_dn rd_d) (c_nilA (k_callDd (HN (.tuple [(.tuple [(.str "c"),(.str "d")]),(.tuple [(.tuple [(.str "c"),(.str "d")]),(.tuple [(.str "d"),(.str "c")])])]) (.tuple [(.tuple [(.tuple [(.str "c"),(.int (9))]),(.tuple [(.str "d"),(.int (9))])]),(.tuple [(.tuple [(.str "c"),(.int (0))]),(.tuple [(.str "d"),(.int (4))])])])) fun z22=>k_datN (rd_dn rd_d) (c_nilA (k_op2f ow_addL rd_r rfl rd_f trivial fun z23=>k_intoF rd_f rfl rfl (k_cv (Γ':=[.s ((.tuple [(.tuple [(.str "c"),(.str "d"),(.str "e"),(.str "f"),(.str "t")]),(.tuple [(.tuple [(.str "c"),(.str "d")]),(.tuple [(.str "d"),(.str "c")]),(.tuple [(.str "e"),(.str "f")]),(.tuple [(.str "f"),(.str "e")])])])),.s z1.1,.s z1.2,.s ((.tuple [z4,z7])),.o z23,.o ((.list [(.int (0)),(.int (4)),(.int (1)),(.int (3))])),.s ((.tuple [(.tuple [(.str "c"),(.str "d")]),(.tuple [(.tuple [(.str "c"),(.str "d")]),(.tuple [(.str "d"),(.str "c")])])])),.x,.x,.x,.x,.x,.x,.x,.x,.x]) rfl (k_seq (c_seq (c_asg (c_op2 (c_varO rfl (c_lstM (c_consA (c_dat (c_callD (c_consA (c_dat (c_tupM (c_consA (c_dat (c_tupM (c_consA (c_kst (c_nilA (k_datN (rd_dn rd_d) (c_consA (c_dat (c_tupM (c_nilA (k_datN (rd_dn rd_d) (c_nilA (k_datN (rd_dn rd_d) (c_consA (c_dat (c_tupM (c_consA (c_dat (c_tupM (c_consA (c_dat (c_tupM (c_consA (c_kst (c_consA (c_kst (c_nilA (k_datN (rd_dn rd_d) (c_nilA (k_datN (rd_dn rd_d) (c_consA (c_dat (c_tupM (c_nilA (k_datN (rd_dn rd_d) (c_nilA (k_datN (rd_dn rd_d) (c_nilA (k_callDd (HN (.tuple [(.tuple [(.str "a")]),(.tuple [])]) (.tuple [(.tuple [(.tuple [(.str "a"),(.int (0))])]),(.tuple [])])) fun z24=>k_datN (rd_dn rd_d) (c_nilA (k_op2f ow_addL rd_r rfl rd_f trivial fun z25=>k_intoF rd_f rfl rfl (k_cv (Γ':=[.s ((.tuple [(.tuple [(.str "c"),(.str "d"),(.str "e"),(.str "f"),(.str "t")]),(.tuple [(.tuple [(.str "c"),(.str "d")]),(.tuple [(.str "d"),(.str "c")]),(.tuple [(.str "e"),(.str "f")]),(.tuple [(.str "f"),(.str "e")])])])),.s z1.1,.s z1.2,.s ((.tuple [z4,z7])),.o z25,.o ((.list [(.int (0)),(.int (4)),(.int (1)),(.int (3))])),.s ((.tuple [(.tuple [(.str "c"),(.str "d")]),(.tuple [(.tuple [(.str "c"),(.str "d")]),(.tuple [(.str "d"),(.str "c")])])])),.x,.x,.x,.x,.x,.x,.x,.x,.x]) rfl (k_seq (c_seq (c_asg (c_op2 (c_varO rfl (c_lstM (c_consA (c_dat (c_callD (c_consA (c_dat (c_tupM (c_consA (c_dat (c_tupM (c_consA (c_kst (c_consA (c_kst (c_nilA (k_datN (rd_dn rd_d) (c_consA (c_dat (c_tupM (c_consA (c_dat (c_tupM (c_consA (c_kst (c_consA (c_kst (c_nilA (k_datN (rd_dn rd_d) (c_nilA (k_datN (rd_dn rd_d) (c_nilA (k_datN (rd_dn rd_d) (c_consA (c_dat (c_tupM (c_consA (c_dat (c_tupM (c_consA (c_dat (c_tupM (c_consA (c_kst (c_consA (c_kst (c_nilA (k_datN (rd_dn rd_d) (c_consA (c_dat (c_tupM (c_consA (c_kst (c_consA (c_kst (c_nilA (k_datN (rd_dn rd_d) (c_nilA (k_datN (rd_dn rd_d) (c_consA (c_dat (c_tupM (c_consA (c_dat (c_tupM (c_consA (c_kst (c_consA (c_kst (c_nilA (k_datN (rd_dn rd_d) (c_nilA (k_datN (rd_dn rd_d) (c_nilA (k_datN (rd_dn rd_d) (c_nilA (k_callDd (HN (.tuple [(.tuple [(.str "a"),(.str "t")]),(.tuple [(.tuple [(.str "a"),(.str "t")])])]) (.tuple [(.tuple [(.tuple [(.str "a"),(.int (1))]),(.tuple [(.str "t"),(.int (1))])]),(.tuple [(.tuple [(.str "a"),(.int (1))])])])) fun z26=>k_datN (rd_dn rd_d) (c_nilA (k_op2f ow_addL rd_r rfl rd_f trivial fun z27=>k_intoF rd_f rfl rfl (k_cv (Γ':=[.s ((.tuple [(.tuple [(.str "c"),(.str "d"),(.str "e"),(.str "f"),(.str "t")]),(.tuple [(.tuple [(.str "c"),(.str "d")]),(.tuple [(.str "d"),(.str "c")]),(.tuple [(.str "e"),(.str "f")]),(.tuple [(.str "f"),(.str "e")])])])),.s z1.1,.s z1.2,.s ((.tuple [z4,z7])),.o z27,.o ((.list [(.int (0)),(.int (4)),(.int (1)),(.int (3))])),.s ((.tuple [(.tuple [(.str "c"),(.str "d")]),(.tuple [(.tuple [(.str "c"),(.str "d")]),(.tuple [(.str "d"),(.str "c")])])])),.x,.x,.x,.x,.x,.x,.x,.x,.x]) rfl (k_seq (c_seq (c_asg (c_op2 (c_varO rfl (c_lstM (c_consA (c_kst (c_consA (c_kst (c_consA (c_kst (c_consA (c_kst (c_nilA (k_op2f ow_addL rd_r rfl rd_f trivial fun z28=>k_intoF rd_f rfl rfl (k_cv (Γ':=[.s ((.tuple [(.tuple [(.str "c"),(.str "d"),(.str "e"),(.str "f"),(.str "t")]),(.tuple [(.tuple [(.str "c"),(.str "d")]),(.tuple [(.str "d"),(.str "c")]),(.tuple [(.str "e"),(.str "f")]),(.tuple [(.str "f"),(.str "e")])])])),.s z1.1,.s z1.2,.s ((.tuple [z4,z7])),.o z27,.o z28,.s ((.tuple [(.tuple [(.str "c"),(.str "d")]),(.tuple [(.tuple [(.str "c"),(.str "d")]),(.tuple [(.str "d"),(.str "c")])])])),.x,.x,.x,.x,.x,.x,.x,.x,.x]) rfl (k_seq (c_seq (c_asgT (c_dat (c_tupM (c_consA (c_dat (c_op1 (c_op2 (c_comp (c_it (c_kst (k_lift fun l29=>k_map [.s ((.tuple [(.tuple [(.str "c"),(.str "d"),(.str "e"),(.str "f"),(.str "t")]),(.tuple [(.tuple [(.str "c"),(.str "d")]),(.tuple [(.str "d"),(.str "c")]),(.tuple [(.str "e"),(.str "f")]),(.tuple [(.str "f"),(.str "e")])])])),.s z1.1,.s z1.2,.s ((.tuple [z4,z7])),.o z27,.o z28,.s ((.tuple [(.tuple [(.str "c"),(.str "d")]),(.tuple [(.tuple [(.str "c"),(.str "d")]),(.tuple [(.str "d"),(.str "c")])])])),.x,.x,.x,.x,.x,.x,.x,.x,.x] [.s ((.tuple [(.tuple [(.str "c"),(.str "d"),(.str "e"),(.str "f"),(.str "t")]),(.tuple [(.tuple [(.str "c"),(.str "d")]),(.tuple [(.str "d"),(.str "c")]),(.tuple [(.str "e"),(.str "f")]),(.tuple [(.str "f"),(.str "e")])])])),.s z1.1,.s z1.2,.s ((.tuple [z4,z7])),.o z27,.o z28,.s ((.tuple [(.tuple [(.str "c"),(.str "d")]),(.tuple [(.tuple [(.str "c"),(.str "d")]),(.tuple [(.str "d"),(.str "c")])])])),.x,.x,.x,.x,.x,.x,.x,.x,.x] rfl rfl rfl (fun d30=>c_tgN rfl rfl (k_el (c_dat (c_op2 (c_pvd (c_kst (c_varS rfl (k_op2 rd_d trivial rd_d trivial fun pz31 z31 hz31=>k_datN hz31 (q_A ⟨rfl,rfl,rfl,rfl,rfl,rfl,rfl,rfl,rfl,rfl,rfl,rfl,rfl,rfl,rfl,rfl,trivial⟩))))))))) fun l32=>c_comp (c_it (c_kst (k_lift fun l33=>k_map [.s ((.tuple [(.tuple [(.str "c"),(.str "d"),(.str "e"),(.str "f"),(.str "t")]),(.tuple [(.tuple [(.str "c"),(.str "d")]),(.tuple [(.str "d"),(.str "c")]),(.tuple [(.str "e"),(.str "f")]),(.tuple [(.str "f"),(.str "e")])])])),.s z1.1,.s z1.2,.s ((.tuple [z4,z7])),.o z27,.o z28,.s ((.tuple [(.tuple [(.str "c"),(.str "d")]),(.tuple [(.tuple [(.str "c"),(.str "d")]),(.tuple [(.str "d"),(.str "c")])])])),.x,.x,.x,.x,.x,.x,.x,.x,.x] [.s ((.tuple [(.tuple [(.str "c"),(.str "d"),(.str "e"),(.str "f"),(.str "t")]),(.tuple [(.tuple [(.str "c"),(.str "d")]),(.tuple [(.str "d"),(.str "c")]),(.tuple [(.str "e"),(.str "f")]),(.tuple [(.str "f"),(.str "e")])])])),.s z1.1,.s z1.2,.s ((.tuple [z4,z7])),.o z27,.o z28,.s ((.tuple [(.tuple [(.str "c"),(.str "d")]),(.tuple [(.tuple [(.str "c"),(.str "d")]),(.tuple [(.str "d"),(.str "c")])])])),.x,.x,.x,.x,.x,.x,.x,.x,.x] rfl rfl rfl (fun d34=>c_tgN rfl rfl (k_el (c_dat (c_op2 (c_pvd (c_kst (c_varS rfl (k_op2 rd_d trivial rd_d trivial fun pz35 z35 hz35=>k_datN hz35 (q_A ⟨rfl,rfl,rfl,rfl,rfl,rfl,rfl,rfl,rfl,rfl,rfl,rfl,rfl,rfl,rfl,rfl,trivial⟩))))))))) fun l36=>k_op2f ow_addL rd_f trivial rd_f trivial fun z37=>k_op1d sc_tup rd_f trivial fun z38=>k_datN (rd_dn rd_d) (c_consA (c_dat (c_op2 (c_pvd (c_kst (c_pvd (c_kst (k_op2d sc_iI rd_d trivial rd_d trivial fun z39=>k_datN (rd_dn rd_d) (c_nilA (k_datN (rd_dn rd_d) (c_tg2 fun z40=>c_consG (c_tgN rfl rfl (c_consG (c_tgN rfl rfl (c_nilG (k_seq (c_seq (c_asg (c_op1 (c_comp (c_rng1 (c_kst (k_lift fun l41=>k_map [.s ((.tuple [(.tuple [(.str "c"),(.str "d"),(.str "e"),(.str "f"),(.str "t")]),(.tuple [(.tuple [(.str "c"),(.str "d")]),(.tuple [(.str "d"),(.str "c")]),(.tuple [(.str "e"),(.str "f")]),(.tuple [(.str "f"),(.str "e")])])])),.s z1.1,.s z1.2,.s ((.tuple [z4,z7])),.o z27,.o z28,.s ((.tuple [(.tuple [(.str "c"),(.str "d")]),(.tuple [(.tuple [(.str "c"),(.str "d")]),(.tuple [(.str "d"),(.str "c")])])])),.s z40.1,.s z40.2,.x,.x,.x,.x,.x,.x,.x] [.s ((.tuple [(.tuple [(.str "c"),(.str "d"),(.str "e"),(.str "f"),(.str "t")]),(.tuple [(.tuple [(.str "c"),(.str "d")]),(.tuple [(.str "d"),(.str "c")]),(.tuple [(.str "e"),(.str "f")]),(.tuple [(.str "f"),(.str "e")])])])),.s z1.1,.s z1.2,.s ((.tuple [z4,z7])),.o z27,.o z28,.s ((.tuple [(.tuple [(.str "c"),(.str "d")]),(.tuple [(.tuple [(.str "c"),(.str "d")]),(.tuple [(.str "d"),(.str "c")])])])),.s z40.1,.s z40.2,.x,.x,.x,.x,.x,.x,.x] rfl rfl rfl (fun d42=>c_tgN rfl rfl (k_el (c_dat (c_tupM (c_consA (c_dat (c_op2 (c_varS rfl (c_varS rfl (k_op2d sc_ix rd_d trivial rd_d trivial fun z43=>k_datN (rd_dn rd_d) (c_consA (c_dat (c_op2 (c_varS rfl (c_op2 (c_op2 (c_varS rfl (c_pvd (c_kst (k_op2 rd_d trivial rd_d trivial fun pz44 z44 hz44=>c_op2 (c_pvd (c_kst (c_op2 (c_op1 (c_varS rfl (k_op1d sc_int rd_d trivial fun z45=>c_pvd (c_kst (k_op2d sc_iI rd_d trivial rd_d trivial fun z46=>k_op2 rd_d trivial rd_d trivial fun pz47 z47 hz47=>k_op2d sc_iI hz44 trivial hz47 trivial fun z48=>k_op2d sc_ix rd_d trivial rd_d trivial fun z49=>k_datN (rd_dn rd_d) (c_nilA (k_datN (rd_dn rd_d) (q_A ⟨rfl,rfl,rfl,rfl,rfl,rfl,rfl,rfl,rfl,rfl,rfl,rfl,rfl,rfl,rfl,rfl,trivial⟩))))))))))))))))))))))))))))))) fun l50=>k_op1d sc_tup rd_f trivial fun z51=>k_intoD rd_d rfl rfl (k_cv (Γ':=[.s ((.tuple [(.tuple [(.str "c"),(.str "d"),(.str "e"),(.str "f"),(.str "t")]),(.tuple [(.tuple [(.str "c"),(.str "d")]),(.tuple [(.str "d"),(.str "c")]),(.tuple [(.str "e"),(.str "f")]),(.tuple [(.str "f"),(.str "e")])])])),.s z1.1,.s z1.2,.s ((.tuple [z4,z7])),.o z27,.o z28,.s ((.tuple [(.tuple [(.str "c"),(.str "d")]),(.tuple [(.tuple [(.str "c"),(.str "d")]),(.tuple [(.str "d"),(.str "c")])])])),.s z40.1,.s z40.2,.s z51,.x,.x,.x,.x,.x,.x]) rfl (k_seq (c_seq (c_asg (c_tupM (c_consA (c_dat (c_op1 (c_comp (c_rng1 (c_kst (k_lift fun l52=>k_map [.s ((.tuple [(.tuple [(.str "c"),(.str "d"),(.str "e"),(.str "f"),(.str "t")]),(.tuple [(.tuple [(.str "c"),(.str "d")]),(.tuple [(.str "d"),(.str "c")]),(.tuple [(.str "e"),(.str "f")]),(.tuple [(.str "f"),(.str "e")])])])),.s z1.1,.s z1.2,.s ((.tuple [z4,z7])),.o z27,.o z28,.s ((.tuple [(.tuple [(.str "c"),(.str "d")]),(.tuple [(.tuple [(.str "c"),(.str "d")]),(.tuple [(.str "d"),(.str "c")])])])),.s z40.1,.s z40.2,.s z51,.x,.x,.x,.x,.x,.x] [.s ((.tuple [(.tuple [(.str "c"),(.str "d"),(.str "e"),(.str "f"),(.str "t")]),(.tuple [(.tuple [(.str "c"),(.str "d")]),(.tuple [(.str "d"),(.str "c")]),(.tuple [(.str "e"),(.str "f")]),(.tuple [(.str "f"),(.str "e")])])])),.s z1.1,.s z1.2,.s ((.tuple [z4,z7])),.o z27,.o z28,.s ((.tuple [(.tuple [(.str "c"),(.str "d")]),(.tuple [(.tuple [(.str "c"),(.str "d")]),(.tuple [(.str "d"),(.str "c")])])])),.s z40.1,.s z40.2,.s z51,.x,.x,.x,.x,.x,.x] rfl rfl rfl (fun d53=>c_tgN rfl rfl (k_el (c_dat (c_tupM (c_consA (c_dat (c_op2 (c_varS rfl (c_varS rfl (k_op2d sc_ix rd_d trivial rd_d trivial fun z54=>k_datN (rd_dn rd_d) (c_consA (c_dat (c_ifX (c_bol (c_op2 (c_varS rfl (c_pvd (c_kst (k_op2d sc_lt rd_d trivial rd_d trivial fun z55=>k_bol (rd_dn rd_d) fun b56=>k_ifX (w:=.n) (val:=fun z57 : D=>z57) (env:=fun z57 : D=>[.s ((.tuple [(.tuple [(.str "c"),(.str "d"),(.str "e"),(.str "f"),(.str "t")]),(.tuple [(.tuple [(.str "c"),(.str "d")]),(.tuple [(.str "d"),(.str "c")]),(.tuple [(.str "e"),(.str "f")]),(.tuple [(.str "f"),(.str "e")])])])),.s z1.1,.s z1.2,.s ((.tuple [z4,z7])),.o z27,.o z28,.s ((.tuple [(.tuple [(.str "c"),(.str "d")]),(.tuple [(.tuple [(.str "c"),(.str "d")]),(.tuple [(.str "d"),(.str "c")])])])),.s z40.1,.s z40.2,.s z51,.x,.x,.x,.x,.s d53,.x]) (c_op2 (c_op2 (c_varS rfl (c_pvd (c_kst (k_op2d sc_iI rd_d trivial rd_d trivial fun z58=>c_pvd (c_kst (k_op2 rd_d trivial rd_d trivial fun pz59 z59 hz59=>q_V hz59 ⟨rfl,rfl,rfl,rfl,rfl,rfl,rfl,rfl,rfl,rfl,rfl,rfl,rfl,rfl,rfl,rfl,trivial⟩ trivial)))))))) (c_pvd (c_kst (q_V rd_d ⟨rfl,rfl,rfl,rfl,rfl,rfl,rfl,rfl,rfl,rfl,rfl,rfl,rfl,rfl,rfl,rfl,trivial⟩ trivial))) fun z57 pz57 hz57=>k_datN hz57 (c_nilA (k_datN (rd_dn rd_d) (q_A ⟨rfl,rfl,rfl,rfl,rfl,rfl,rfl,rfl,rfl,rfl,rfl,rfl,rfl,rfl,rfl,rfl,trivial⟩)))))))))))))))))))))) fun l60=>k_op1d sc_tup rd_f trivial fun z61=>k_datN (rd_dn rd_d) (c_consA (c_dat (c_op1 (c_comp (c_rng1 (c_kst (k_lift fun l62=>k_map [.s ((.tuple [(.tuple [(.str "c"),(.str "d"),(.str "e"),(.str "f"),(.str "t")]),(.tuple [(.tuple [(.str "c"),(.str "d")]),(.tuple [(.str "d"),(.str "c")]),(.tuple [(.str "e"),(.str "f")]),(.tuple [(.str "f"),(.str "e")])])])),.s z1.1,.s z1.2,.s ((.tuple [z4,z7])),.o z27,.o z28,.s ((.tuple [(.tuple [(.str "c"),(.str "d")]),(.tuple [(.tuple [(.str "c"),(.str "d")]),(.tuple [(.str "d"),(.str "c")])])])),.s z40.1,.s z40.2,.s z51,.x,.x,.x,.x,.x,.x] [.s ((.tuple [(.tuple [(.str "c"),(.str "d"),(.str "e"),(.str "f"),(.str "t")]),(.tuple [(.tuple [(.str "c"),(.str "d")]),(.tuple [(.str "d"),(.str "c")]),(.tuple [(.str "e"),(.str "f")]),(.tuple [(.str "f"),(.str "e")])])])),.s z1.1,.s z1.2,.s ((.tuple [z4,z7])),.o z27,.o z28,.s ((.tuple [(.tuple [(.str "c"),(.str "d")]),(.tuple [(.tuple [(.str "c"),(.str "d")]),(.tuple [(.str "d"),(.str "c")])])])),.s z40.1,.s z40.2,.s z51,.x,.x,.x,.x,.x,.x] rfl rfl rfl (fun d63=>c_tgN rfl rfl (k_el (c_dat (c_tupM (c_consA (c_dat (c_op2 (c_varS rfl (c_varS rfl (k_op2d sc_ix rd_d trivial rd_d trivial fun z64=>k_datN (rd_dn rd_d) (c_consA (c_dat (c_op2 (c_op2 (c_varS rfl (c_pvd (c_kst (k_op2d sc_iI rd_d trivial rd_d trivial fun z65=>c_pvd (c_kst (k_op2 rd_d trivial rd_d trivial fun pz66 z66 hz66=>k_datN hz66 (c_nilA (k_datN (rd_dn rd_d) (q_A ⟨rfl,rfl,rfl,rfl,rfl,rfl,rfl,rfl,rfl,rfl,rfl,rfl,rfl,rfl,rfl,rfl,trivial⟩))))))))))))))))))))))) fun l67=>k_op1d sc_tup rd_f trivial fun z68=>k_datN (rd_dn rd_d) (c_nilA (k_intoD rd_d rfl rfl (k_cv (Γ':=[.s ((.tuple [(.tuple [(.str "c"),(.str "d"),(.str "e"),(.str "f"),(.str "t")]),(.tuple [(.tuple [(.str "c"),(.str "d")]),(.tuple [(.str "d"),(.str "c")]),(.tuple [(.str "e"),(.str "f")]),(.tuple [(.str "f"),(.str "e")])])])),.s z1.1,.s z1.2,.s ((.tuple [z4,z7])),.o z27,.o z28,.s ((.tuple [(.tuple [(.str "c"),(.str "d")]),(.tuple [(.tuple [(.str "c"),(.str "d")]),(.tuple [(.str "d"),(.str "c")])])])),.s z40.1,.s z40.2,.s z51,.s ((.tuple [z61,z68])),.x,.x,.x,.x,.x]) rfl (k_seq (c_seq (c_asg (c_tupM (c_consA (c_dat (c_op1 (c_comp (c_rng1 (c_kst (k_lift fun l69=>k_map [.s ((.tuple [(.tuple [(.str "c"),(.str "d"),(.str "e"),(.str "f"),(.str "t")]),(.tuple [(.tuple [(.str "c"),(.str "d")]),(.tuple [(.str "d"),(.str "c")]),(.tuple [(.str "e"),(.str "f")]),(.tuple [(.str "f"),(.str "e")])])])),.s z1.1,.s z1.2,.s ((.tuple [z4,z7])),.o z27,.o z28,.s ((.tuple [(.tuple [(.str "c"),(.str "d")]),(.tuple [(.tuple [(.str "c"),(.str "d")]),(.tuple [(.str "d"),(.str "c")])])])),.s z40.1,.s z40.2,.s z51,.s ((.tuple [z61,z68])),.x,.x,.x,.x,.x] [.s ((.tuple [(.tuple [(.str "c"),(.str "d"),(.str "e"),(.str "f"),(.str "t")]),(.tuple [(.tuple [(.str "c"),(.str "d")]),(.tuple [(.str "d"),(.str "c")]),(.tuple [(.str "e"),(.str "f")]),(.tuple [(.str "f"),(.str "e")])])])),.s z1.1,.s z1.2,.s ((.tuple [z4,z7])),.o z27,.o z28,.s ((.tuple [(.tuple [(.str "c"),(.str "d")]),(.tuple [(.tuple [(.str "c"),(.str "d")]),(.tuple [(.str "d"),(.str "c")])])])),.s z40.1,.s z40.2,.s z51,.s ((.tuple [z61,z68])),.x,.x,.x,.x,.x] rfl rfl rfl (fun d70=>c_tgN rfl rfl (k_el (c_dat (c_tupM (c_consA (c_dat (c_op2 (c_varS rfl (c_varS rfl (k_op2d sc_ix rd_d trivial rd_d trivial fun z71=>k_datN (rd_dn rd_d) (c_consA (c_dat (c_ifX (c_bol (c_op2 (c_varS rfl (c_pvd (c_kst (k_op2d sc_lt rd_d trivial rd_d trivial fun z72=>k_bol (rd_dn rd_d) fun b73=>k_ifX (w:=.n) (val:=fun z74 : D=>z74) (env:=fun z74 : D=>[.s ((.tuple [(.tuple [(.str "c"),(.str "d"),(.str "e"),(.str "f"),(.str "t")]),(.tuple [(.tuple [(.str "c"),(.str "d")]),(.tuple [(.str "d"),(.str "c")]),(.tuple [(.str "e"),(.str "f")]),(.tuple [(.str "f"),(.str "e")])])])),.s z1.1,.s z1.2,.s ((.tuple [z4,z7])),.o z27,.o z28,.s ((.tuple [(.tuple [(.str "c"),(.str "d")]),(.tuple [(.tuple [(.str "c"),(.str "d")]),(.tuple [(.str "d"),(.str "c")])])])),.s z40.1,.s z40.2,.s z51,.s ((.tuple [z61,z68])),.x,.x,.x,.s d70,.x]) (c_op2 (c_op2 (c_varS rfl (c_pvd (c_kst (k_op2d sc_iI rd_d trivial rd_d trivial fun z75=>c_pvd (c_kst (k_op2 rd_d trivial rd_d trivial fun pz76 z76 hz76=>q_V hz76 ⟨rfl,rfl,rfl,rfl,rfl,rfl,rfl,rfl,rfl,rfl,rfl,rfl,rfl,rfl,rfl,rfl,trivial⟩ trivial)))))))) (c_pvd (c_kst (q_V rd_d ⟨rfl,rfl,rfl,rfl,rfl,rfl,rfl,rfl,rfl,rfl,rfl,rfl,rfl,rfl,rfl,rfl,trivial⟩ trivial))) fun z74 pz74 hz74=>k_datN hz74 (c_nilA (k_datN (rd_dn rd_d) (q_A ⟨rfl,rfl,rfl,rfl,rfl,rfl,rfl,rfl,rfl,rfl,rfl,rfl,rfl,rfl,rfl,rfl,trivial⟩)))))))))))))))))))))) fun l77=>k_op1d sc_tup rd_f trivial fun z78=>k_datN (rd_dn rd_d) (c_consA (c_dat (c_op1 (c_comp (c_rng1 (c_kst (k_lift fun l79=>k_map [.s ((.tuple [(.tuple [(.str "c"),(.str "d"),(.str "e"),(.str "f"),(.str "t")]),(.tuple [(.tuple [(.str "c"),(.str "d")]),(.tuple [(.str "d"),(.str "c")]),(.tuple [(.str "e"),(.str "f")]),(.tuple [(.str "f"),(.str "e")])])])),.s z1.1,.s z1.2,.s ((.tuple [z4,z7])),.o z27,.o z28,.s ((.tuple [(.tuple [(.str "c"),(.str "d")]),(.tuple [(.tuple [(.str "c"),(.str "d")]),(.tuple [(.str "d"),(.str "c")])])])),.s z40.1,.s z40.2,.s z51,.s ((.tuple [z61,z68])),.x,.x,.x,.x,.x] [.s ((.tuple [(.tuple [(.str "c"),(.str "d"),(.str "e"),(.str "f"),(.str "t")]),(.tuple [(.tuple [(.str "c"),(.str "d")]),(.tuple [(.str "d"),(.str "c")]),(.tuple [(.str "e"),(.str "f")]),(.tuple [(.str "f"),(.str "e")])])])),.s z1.1,.s z1.2,.s ((.tuple [z4,z7])),.o z27,.o z28,.s ((.tuple [(.tuple [(.str "c"),(.str "d")]),(.tuple [(.tuple [(.str "c"),(.str "d")]),(.tuple [(.str "d"),(.str "c")])])])),.s z40.1,.s z40.2,.s z51,.s ((.tuple [z61,z68])),.x,.x,.x,.x,.x] rfl rfl rfl (fun d80=>c_tgN rfl rfl (k_el (c_dat (c_tupM (c_consA (c_dat (c_op2 (c_varS rfl (c_varS rfl (k_op2d sc_ix rd_d trivial rd_d trivial fun z81=>k_datN (rd_dn rd_d) (c_consA (c_dat (c_op2 (c_op2 (c_varS rfl (c_pvd (c_kst (k_op2d sc_iI rd_d trivial rd_d trivial fun z82=>c_pvd (c_kst (k_op2 rd_d trivial rd_d trivial fun pz83 z83 hz83=>k_datN hz83 (c_nilA (k_datN (rd_dn rd_d) (q_A ⟨rfl,rfl,rfl,rfl,rfl,rfl,rfl,rfl,rfl,rfl,rfl,rfl,rfl,rfl,rfl,rfl,trivial⟩))))))))))))))))))))))) fun l84=>k_op1d sc_tup rd_f trivial fun z85=>k_datN (rd_dn rd_d) (c_nilA (k_intoD rd_d rfl rfl (k_cv (Γ':=[.s ((.tuple [(.tuple [(.str "c"),(.str "d"),(.str "e"),(.str "f"),(.str "t")]),(.tuple [(.tuple [(.str "c"),(.str "d")]),(.tuple [(.str "d"),(.str "c")]),(.tuple [(.str "e"),(.str "f")]),(.tuple [(.str "f"),(.str "e")])])])),.s z1.1,.s z1.2,.s ((.tuple [z4,z7])),.o z27,.o z28,.s ((.tuple [(.tuple [(.str "c"),(.str "d")]),(.tuple [(.tuple [(.str "c"),(.str "d")]),(.tuple [(.str "d"),(.str "c")])])])),.s z40.1,.s z40.2,.s z51,.s ((.tuple [z61,z68])),.s ((.tuple [z78,z85])),.x,.x,.x,.x]) rfl (k_seq (c_seq (c_asg (c_tupM (c_consA (c_dat (c_op1 (c_comp (c_rng1 (c_kst (k_lift fun l86=>k_map [.s ((.tuple [(.tuple [(.str "c"),(.str "d"),(.str "e"),(.str "f"),(.str "t")]),(.tuple [(.tuple [(.str "c"),(.str "d")]),(.tuple [(.str "d"),(.str "c")]),(.tuple [(.str "e"),(.str "f")]),(.tuple [(.str "f"),(.str "e")])])])),.s z1.1,.s z1.2,.s ((.tuple [z4,z7])),.o z27,.o z28,.s ((.tuple [(.tuple [(.str "c"),(.str "d")]),(.tuple [(.tuple [(.str "c"),(.str "d")]),(.tuple [(.str "d"),(.str "c")])])])),.s z40.1,.s z40.2,.s z51,.s ((.tuple [z61,z68])),.s ((.tuple [z78,z85])),.x,.x,.x,.x] [.s ((.tuple [(.tuple [(.str "c"),(.str "d"),(.str "e"),(.str "f"),(.str "t")]),(.tuple [(.tuple [(.str "c"),(.str "d")]),(.tuple [(.str "d"),(.str "c")]),(.tuple [(.str "e"),(.str "f")]),(.tuple [(.str "f"),(.str "e")])])])),.s z1.1,.s z1.2,.s ((.tuple [z4,z7])),.o z27,.o z28,.s ((.tuple [(.tuple [(.str "c"),(.str "d")]),(.tuple [(.tuple [(.str "c"),(.str "d")]),(.tuple [(.str "d"),(.str "c")])])])),.s z40.1,.s z40.2,.s z51,.s ((.tuple [z61,z68])),.s ((.tuple [z78,z85])),.x,.x,.x,.x] rfl rfl rfl (fun d87=>c_tgN rfl rfl (k_el (c_dat (c_tupM (c_consA (c_dat (c_op2 (c_varS rfl (c_varS rfl (k_op2d sc_ix rd_d trivial rd_d trivial fun z88=>k_datN (rd_dn rd_d) (c_consA (c_dat (c_ifX (c_bol (c_op2 (c_varS rfl (c_pvd (c_kst (k_op2d sc_lt rd_d trivial rd_d trivial fun z89=>k_bol (rd_dn rd_d) fun b90=>k_ifX (w:=.d) (val:=fun z91 : D=>z91) (env:=fun z91 : D=>[.s ((.tuple [(.tuple [(.str "c"),(.str "d"),(.str "e"),(.str "f"),(.str "t")]),(.tuple [(.tuple [(.str "c"),(.str "d")]),(.tuple [(.str "d"),(.str "c")]),(.tuple [(.str "e"),(.str "f")]),(.tuple [(.str "f"),(.str "e")])])])),.s z1.1,.s z1.2,.s ((.tuple [z4,z7])),.o z27,.o z28,.s ((.tuple [(.tuple [(.str "c"),(.str "d")]),(.tuple [(.tuple [(.str "c"),(.str "d")]),(.tuple [(.str "d"),(.str "c")])])])),.s z40.1,.s z40.2,.s z51,.s ((.tuple [z61,z68])),.s ((.tuple [z78,z85])),.x,.x,.s d87,.x]) (c_varS rfl (q_V rd_d ⟨rfl,rfl,rfl,rfl,rfl,rfl,rfl,rfl,rfl,rfl,rfl,rfl,rfl,rfl,rfl,rfl,trivial⟩ trivial)) (c_op2 (c_varS rfl (c_pvd (c_kst (k_op2d sc_iI rd_d trivial rd_d trivial fun z92=>q_V rd_d ⟨rfl,rfl,rfl,rfl,rfl,rfl,rfl,rfl,rfl,rfl,rfl,rfl,rfl,rfl,rfl,rfl,trivial⟩ trivial))))) fun z91 pz91 hz91=>k_datN (rd_dn hz91) (c_nilA (k_datN (rd_dn rd_d) (q_A ⟨rfl,rfl,rfl,rfl,rfl,rfl,rfl,rfl,rfl,rfl,rfl,rfl,rfl,rfl,rfl,rfl,trivial⟩)))))))))))))))))))))) fun l93=>k_op1d sc_tup rd_f trivial fun z94=>k_datN (rd_dn rd_d) (c_consA (c_dat (c_op1 (c_comp (c_rng1 (c_kst (k_lift fun l95=>k_map [.s ((.tuple [(.tuple [(.str "c"),(.str "d"),(.str "e"),(.str "f"),(.str "t")]),(.tuple [(.tuple [(.str "c"),(.str "d")]),(.tuple [(.str "d"),(.str "c")]),(.tuple [(.str "e"),(.str "f")]),(.tuple [(.str "f"),(.str "e")])])])),.s z1.1,.s z1.2,.s ((.tuple [z4,z7])),.o z27,.o z28,.s ((.tuple [(.tuple [(.str "c"),(.str "d")]),(.tuple [(.tuple [(.str "c"),(.str "d")]),(.tuple [(.str "d"),(.str "c")])])])),.s z40.1,.s z40.2,.s z51,.s ((.tuple [z61,z68])),.s ((.tuple [z78,z85])),.x,.x,.x,.x] [.s ((.tuple [(.tuple [(.str "c"),(.str "d"),(.str "e"),(.str "f"),(.str "t")]),(.tuple [(.tuple [(.str "c"),(.str "d")]),(.tuple [(.str "d"),(.str "c")]),(.tuple [(.str "e"),(.str "f")]),(.tuple [(.str "f"),(.str "e")])])])),.s z1.1,.s z1.2,.s ((.tuple [z4,z7])),.o z27,.o z28,.s ((.tuple [(.tuple [(.str "c"),(.str "d")]),(.tuple [(.tuple [(.str "c"),(.str "d")]),(.tuple [(.str "d"),(.str "c")])])])),.s z40.1,.s z40.2,.s z51,.s ((.tuple [z61,z68])),.s ((.tuple [z78,z85])),.x,.x,.x,.x] rfl rfl rfl (fun d96=>c_tgN rfl rfl (k_el (c_dat (c_tupM (c_consA (c_dat (c_op2 (c_varS rfl (c_varS rfl (k_op2d sc_ix rd_d trivial rd_d trivial fun z97=>k_datN (rd_dn rd_d) (c_consA (c_datV rfl rfl rfl (c_nilA (k_datN (rd_dn rd_d) (q_A ⟨rfl,rfl,rfl,rfl,rfl,rfl,rfl,rfl,rfl,rfl,rfl,rfl,rfl,rfl,rfl,rfl,trivial⟩))))))))))))))) fun l98=>k_op1d sc_tup rd_f trivial fun z99=>k_datN (rd_dn rd_d) (c_nilA (k_intoD rd_d rfl rfl (k_cv (Γ':=[.s ((.tuple [(.tuple [(.str "c"),(.str "d"),(.str "e"),(.str "f"),(.str "t")]),(.tuple [(.tuple [(.str "c"),(.str "d")]),(.tuple [(.str "d"),(.str "c")]),(.tuple [(.str "e"),(.str "f")]),(.tuple [(.str "f"),(.str "e")])])])),.s z1.1,.s z1.2,.s ((.tuple [z4,z7])),.o z27,.o z28,.s ((.tuple [(.tuple [(.str "c"),(.str "d")]),(.tuple [(.tuple [(.str "c"),(.str "d")]),(.tuple [(.str "d"),(.str "c")])])])),.s z40.1,.s z40.2,.s z51,.s ((.tuple [z61,z68])),.s ((.tuple [z78,z85])),.s ((.tuple [z94,z99])),.x,.x,.x]) rfl (k_seq (c_seq (c_asg (c_op2 (c_varO rfl (c_lstM (c_consA (c_dat (c_callD (c_consA (c_dat (c_tupM (c_consA (c_datV rfl rfl rfl (c_consA (c_datV rfl rfl rfl (c_nilA (k_datN (rd_dn rd_d) (c_consA (c_datV rfl rfl rfl (c_nilA (k_callDd (HN (.tuple [z40.1,z51]) (.tuple [z61,z68])) fun z100=>k_datN (rd_dn rd_d) (c_consA (c_dat (c_callD (c_consA (c_dat (c_tupM (c_consA (c_datV rfl rfl rfl (c_consA (c_datV rfl rfl rfl (c_nilA (k_datN (rd_dn rd_d) (c_consA (c_datV rfl rfl rfl (c_nilA (k_callDd (HN (.tuple [z40.1,z51]) (.tuple [z78,z85])) fun z101=>k_datN (rd_dn rd_d) (c_nilA (k_op2f ow_addL rd_r rfl rd_f trivial fun z102=>k_intoF rd_f rfl rfl (k_cv (Γ':=[.s ((.tuple [(.tuple [(.str "c"),(.str "d"),(.str "e"),(.str "f"),(.str "t")]),(.tuple [(.tuple [(.str "c"),(.str "d")]),(.tuple [(.str "d"),(.str "c")]),(.tuple [(.str "e"),(.str "f")]),(.tuple [(.str "f"),(.str "e")])])])),.s z1.1,.s z1.2,.s ((.tuple [z4,z7])),.o z102,.o z28,.s ((.tuple [(.tuple [(.str "c"),(.str "d")]),(.tuple [(.tuple [(.str "c"),(.str "d")]),(.tuple [(.str "d"),(.str "c")])])])),.s z40.1,.s z40.2,.s z51,.s ((.tuple [z61,z68])),.s ((.tuple [z78,z85])),.s ((.tuple [z94,z99])),.x,.x,.x]) rfl (k_seq (c_seq (c_asg (c_op2 (c_varO rfl (c_lstM (c_consA (c_dat (c_callD (c_consA (c_dat (c_tupM (c_consA (c_datV rfl rfl rfl (c_consA (c_datV rfl rfl rfl (c_nilA (k_datN (rd_dn rd_d) (c_consA (c_datV rfl rfl rfl (c_nilA (k_callDd (HN (.tuple [z40.1,z51]) (.tuple [z94,z99])) fun z103=>k_datN (rd_dn rd_d) (c_nilA (k_op2f ow_addL rd_r rfl rd_f trivial fun z104=>k_intoF rd_f rfl rfl (k_cv (Γ':=[.s ((.tuple [(.tuple [(.str "c"),(.str "d"),(.str "e"),(.str "f"),(.str "t")]),(.tuple [(.tuple [(.str "c"),(.str "d")]),(.tuple [(.str "d"),(.str "c")]),(.tuple [(.str "e"),(.str "f")]),(.tuple [(.str "f"),(.str "e")])])])),.s z1.1,.s z1.2,.s ((.tuple [z4,z7])),.o z104,.o z28,.s ((.tuple [(.tuple [(.str "c"),(.str "d")]),(.tuple [(.tuple [(.str "c"),(.str "d")]),(.tuple [(.str "d"),(.str "c")])])])),.s z40.1,.s z40.2,.s z51,.s ((.tuple [z61,z68])),.s ((.tuple [z78,z85])),.s ((.tuple [z94,z99])),.x,.x,.x]) rfl (k_seq (c_seq (c_asg (c_op2 (c_varO rfl (c_lstM (c_consA (c_dat (c_callD (c_pickA (c_nilA (c_consA (c_dat (c_callD (c_consA (c_datV rfl rfl rfl (c_nilA (k_callD (pf__law_lists 60 (.tuple [z4,z7])) fun pz105 z105 hz105=>k_datN hz105 (c_consA (c_dat (c_callD (c_consA (c_datV rfl rfl rfl (c_nilA (k_callD (pf__law_lists 60 (.tuple [(.tuple [(.str "c"),(.str "d"),(.str "e"),(.str "f"),(.str "t")]),(.tuple [(.tuple [(.str "c"),(.str "d")]),(.tuple [(.str "d"),(.str "c")]),(.tuple [(.str "e"),(.str "f")]),(.tuple [(.str "f"),(.str "e")])])])) fun pz106 z106 hz106=>k_datN hz106 (c_nilA (k_callDd (HN z106 z105) fun z107=>k_datN (rd_dn rd_d) (c_nilA (k_op2f ow_addL rd_r rfl rd_f trivial fun z108=>k_intoF rd_f rfl rfl (k_cv (Γ':=[.s ((.tuple [(.tuple [(.str "c"),(.str "d"),(.str "e"),(.str "f"),(.str "t")]),(.tuple [(.tuple [(.str "c"),(.str "d")]),(.tuple [(.str "d"),(.str "c")]),(.tuple [(.str "e"),(.str "f")]),(.tuple [(.str "f"),(.str "e")])])])),.s z1.1,.s z1.2,.s ((.tuple [z4,z7])),.o z108,.o z28,.s ((.tuple [(.tuple [(.str "c"),(.str "d")]),(.tuple [(.tuple [(.str "c"),(.str "d")]),(.tuple [(.str "d"),(.str "c")])])])),.s z40.1,.s z40.2,.s z51,.s ((.tuple [z61,z68])),.s ((.tuple [z78,z85])),.s ((.tuple [z94,z99])),.x,.x,.x]) rfl (k_seq (c_seq (c_ifS (c_notT (c_tru (c_callD (c_consA (c_datV rfl rfl rfl (c_consA (c_dat (c_op2 (c_varO rfl (c_lstM (c_consA (c_kst (c_consA (c_kst (c_consA (c_datV rfl rfl rfl (c_consA (c_kst (c_nilA (k_op2f ow_addL rd_r rfl rd_f trivial fun z109=>k_datN (rd_fn rd_f) (c_nilA (k_callDd (pf__law_same 60 z108 z109) fun z110=>k_tru rd_d trivial fun b111=>k_if2 (c_ret (c_pvd (c_kst (k_retD rd_d fun v112 hv112=>q_ret hv112)))) (c_skip (k_seq (c_seq (c_ifS (c_notT (c_tru (c_callD (c_consA (c_datV rfl rfl rfl (c_consA (c_datV rfl rfl rfl (c_nilA (k_callDd (HC (.tuple [(.tuple [(.str "c"),(.str "d"),(.str "e"),(.str "f"),(.str "t")]),(.tuple [(.tuple [(.str "c"),(.str "d")]),(.tuple [(.str "d"),(.str "c")]),(.tuple [(.str "e"),(.str "f")]),(.tuple [(.str "f"),(.str "e")])])]) (.tuple [z4,z7])) fun z113=>k_tru rd_d trivial fun b114=>k_if2 (c_ret (c_pvd (c_kst (k_retD rd_d fun v115 hv115=>q_ret hv115)))) (c_skip (k_seq (c_ret (c_op1 (c_comp (c_it (c_dat (c_tupM (c_consA (c_datV rfl rfl rfl (c_consA (c_datV rfl rfl rfl (c_consA (c_datV rfl rfl rfl (c_nilA (k_datN (rd_dn rd_d) (k_lift fun l116=>k_map [.s ((.tuple [(.tuple [(.str "c"),(.str "d"),(.str "e"),(.str "f"),(.str "t")]),(.tuple [(.tuple [(.str "c"),(.str "d")]),(.tuple [(.str "d"),(.str "c")]),(.tuple [(.str "e"),(.str "f")]),(.tuple [(.str "f"),(.str "e")])])])),.s z1.1,.s z1.2,.s ((.tuple [z4,z7])),.s z108,.o z28,.s ((.tuple [(.tuple [(.str "c"),(.str "d")]),(.tuple [(.tuple [(.str "c"),(.str "d")]),(.tuple [(.str "d"),(.str "c")])])])),.s z40.1,.s z40.2,.s z51,.s ((.tuple [z61,z68])),.s ((.tuple [z78,z85])),.s ((.tuple [z94,z99])),.x,.x,.x] [.s ((.tuple [(.tuple [(.str "c"),(.str "d"),(.str "e"),(.str "f"),(.str "t")]),(.tuple [(.tuple [(.str "c"),(.str "d")]),(.tuple [(.str "d"),(.str "c")]),(.tuple [(.str "e"),(.str "f")]),(.tuple [(.str "f"),(.str "e")])])])),.s z1.1,.s z1.2,.s ((.tuple [z4,z7])),.s z108,.o z28,.s ((.tuple [(.tuple [(.str "c"),(.str "d")]),(.tuple [(.tuple [(.str "c"),(.str "d")]),(.tuple [(.str "d"),(.str "c")])])])),.s z40.1,.s z40.2,.s z51,.s ((.tuple [z61,z68])),.s ((.tuple [z78,z85])),.s ((.tuple [z94,z99])),.x,.x,.x] rfl rfl rfl (fun d117=>c_tgN rfl rfl (k_el (c_dat (c_callD (c_consA (c_dat (c_tupM (c_consA (c_datV rfl rfl rfl (c_consA (c_datV rfl rfl rfl (c_nilA (k_datN (rd_dn rd_d) (c_consA (c_datV rfl rfl rfl (c_nilA (k_callDd (HC (.tuple [z40.1,z51]) d117) fun z118=>k_datN (rd_dn rd_d) (q_A ⟨rfl,rfl,rfl,rfl,rfl,rfl,rfl,rfl,rfl,rfl,rfl,rfl,rfl,rfl,rfl,rfl,trivial⟩)))))))))))))))))) fun l119=>k_op1d sc_all rd_f trivial fun z120=>k_retD rd_d fun v121 hv121=>q_ret hv121))))))))))))))))))))))))))))))))))))))))))))))))))))))))))))))))))))))))))))))))))))))))))))))))))))))))))))))))))))))))))))))))))))))))))))))))))))))))))))))))))))))))))))))))))))))))))))))))))))))))))))))))))))))))))))))))))))))))))))))))))))))))))))))))))))))))))))))))))))))))))))))))))))))))))))))))))))))))))))))))))))))))))))))))))))))))))))))))))))))))))))))))))))))))))))))))))))))))))))))))))))))))))))))))))))))))))))))))))))))))))))))))))))))))))))))))))))))))))))))))))))))))))))))))))))))))))))))))))))))))))))))))))))))))))))))))))))))))))))))))))))))))))))))))))))))))))))))))))))))))))))))))))))))))))))))))))))))))))))))))))))))))))))))))))))))))))))))))))))))))))))))))))))))))))))))))))))))))))))))))))))))))))))))))))))))))))))))))))))))))))))))))))))))))))))))))))))))))))))))))))))))))))))))))))))))))))))))))))))))))))))))))))))))))))))))))))))))))))))))))))))))))))))))))))))))))))))))))))))))))))))))))))))))))))))))))))))))))))))))))))))
def rdQ (r : R D) (d : D) : Bool:=match r with
  | .ok x=>dEq x d
  | _=>false
theorem rdQ_eq {r : R D} {d : D} (h : rdQ r d = true) : r = .ok d:=by
  unfold rdQ at h
  split at h
  · rw [dEq_eq _ _ h]
  · cases h
def cB (sp : List Str) (ways : List (Str × Option Str)) (wi th : List (Str × Int)) : Bool:=decide sp.Nodup && (sp.all PyData.strOk && (sp.all (fun x=>decide (x ∈ nmL)) && (!sp.isEmpty && (decide (sp.length ≤ 39) && (decide (ways.map (·.1)).Nodup && ((ways.map (·.1)).all (fun x=>decide (x ∈ sp)) && (decide ((ways.map (·.1)).Pairwise fun a b=>sLe a b = true) && (decide (ways.filterMap (·.2)).Nodup && ((ways.filterMap (·.2)).all (fun x=>decide (x ∈ sp)) && (decide (wi.map (·.1) = sp) && (decide (th.map (·.1) = ways.map (·.1)) && (th.all (fun p=>decide (0 ≤ p.2)) && (decide (ways.length ≤ 40) && decide (("zz" : Str) ∉ sp))))))))))))))
theorem cB_ok {sp : List Str} {ways : List (Str × Option Str)} {wi th : List (Str × Int)} (h : cB sp ways wi th = true) : p__law_least_right (jobD sp ways) (szD wi th) = .ok (.bool true):=by
  unfold cB at h
  simp only [Bool.and_eq_true,decide_eq_true_eq] at h
  obtain ⟨h1,h2,h3,h4,h5,h6,h7,h8,h9,h10,h11,h12,h13,h14,h15⟩:=h
  exact least_ok (n:=39) ⟨h1,fun x hx=>List.all_eq_true.mp h2 x hx,fun x hx=>of_decide_eq_true (List.all_eq_true.mp h3 x hx),fun e=>(by rw [e] at h4; cases h4),h5,h6,fun x hx=>of_decide_eq_true (List.all_eq_true.mp h7 x hx),h8,h9,fun x hx=>of_decide_eq_true (List.all_eq_true.mp h10 x hx)⟩ h15 (by decide) h14 ⟨h11,h12⟩ fun p hp=>of_decide_eq_true (List.all_eq_true.mp h13 p hp)
def hsp : List Str:=("pa" : Str) :: ("pb" : Str) :: ("pc" : Str) :: ("pd" : Str) :: ("pe" : Str) :: ("pf" : Str) :: ("pg" : Str) :: ("ph" : Str) :: ("pi" : Str) :: ("pj" : Str) :: ("pk" : Str) :: ("pl" : Str) :: ("pm" : Str) :: ("pn" : Str) :: ("po" : Str) :: ("pp" : Str) :: ("pq" : Str) :: ("pr" : Str) :: ("ps" : Str) :: ("pt" : Str) :: ("pu" : Str) :: ("pv" : Str) :: ("pw" : Str) :: ("px" : Str) :: ("py" : Str) :: ("pz" : Str) :: ("qa" : Str) :: ("qb" : Str) :: ("qc" : Str) :: ("qd" : Str) :: ("qe" : Str) :: ("qf" : Str) :: ("qg" : Str) :: ("qh" : Str) :: ("qi" : Str) :: ("qj" : Str) :: ("qk" : Str) :: ("ql" : Str) :: ("qm" : Str) :: []
def hways : List (Str × Option Str):=(("pa" : Str),some ("pb" : Str)) :: (("pb" : Str),some ("pa" : Str)) :: (("pc" : Str),some ("pd" : Str)) :: (("pd" : Str),some ("pc" : Str)) :: (("pe" : Str),some ("pf" : Str)) :: (("pf" : Str),some ("pe" : Str)) :: (("pg" : Str),some ("ph" : Str)) :: (("ph" : Str),some ("pg" : Str)) :: (("pi" : Str),some ("pj" : Str)) :: (("pj" : Str),some ("pi" : Str)) :: (("pk" : Str),some ("pl" : Str)) :: (("pl" : Str),some ("pk" : Str)) :: (("pm" : Str),some ("pn" : Str)) :: (("pn" : Str),some ("pm" : Str)) :: (("po" : Str),some ("pp" : Str)) :: (("pp" : Str),some ("po" : Str)) :: (("pq" : Str),some ("pr" : Str)) :: (("pr" : Str),some ("pq" : Str)) :: (("ps" : Str),some ("pt" : Str)) :: (("pt" : Str),some ("ps" : Str)) :: (("pu" : Str),some ("pv" : Str)) :: (("pv" : Str),some ("pu" : Str)) :: (("pw" : Str),some ("px" : Str)) :: (("px" : Str),some ("pw" : Str)) :: (("py" : Str),some ("pz" : Str)) :: (("pz" : Str),some ("py" : Str)) :: (("qa" : Str),some ("qb" : Str)) :: (("qb" : Str),some ("qa" : Str)) :: (("qc" : Str),some ("qd" : Str)) :: (("qd" : Str),some ("qc" : Str)) :: (("qe" : Str),some ("qf" : Str)) :: (("qf" : Str),some ("qe" : Str)) :: (("qg" : Str),some ("qh" : Str)) :: (("qh" : Str),some ("qg" : Str)) :: (("qi" : Str),some ("qj" : Str)) :: (("qj" : Str),some ("qi" : Str)) :: (("qk" : Str),some ("ql" : Str)) :: (("ql" : Str),some ("qk" : Str)) :: []
def hsp4 : List Str:=["c","d","e","f","t"]
def hways4 : List (Str × Option Str):=[("c",some "d"),("d",some "c"),("e",some "f"),("f",some "e")]
def hw_many : List (Str × Int):=(("pa" : Str),(2 : Int)) :: (("pb" : Str),(2 : Int)) :: (("pc" : Str),(3 : Int)) :: (("pd" : Str),(3 : Int)) :: (("pe" : Str),(4 : Int)) :: (("pf" : Str),(4 : Int)) :: (("pg" : Str),(5 : Int)) :: (("ph" : Str),(5 : Int)) :: (("pi" : Str),(6 : Int)) :: (("pj" : Str),(6 : Int)) :: (("pk" : Str),(7 : Int)) :: (("pl" : Str),(7 : Int)) :: (("pm" : Str),(8 : Int)) :: (("pn" : Str),(8 : Int)) :: (("po" : Str),(9 : Int)) :: (("pp" : Str),(9 : Int)) :: (("pq" : Str),(10 : Int)) :: (("pr" : Str),(10 : Int)) :: (("ps" : Str),(11 : Int)) :: (("pt" : Str),(11 : Int)) :: (("pu" : Str),(12 : Int)) :: (("pv" : Str),(12 : Int)) :: (("pw" : Str),(13 : Int)) :: (("px" : Str),(13 : Int)) :: (("py" : Str),(14 : Int)) :: (("pz" : Str),(14 : Int)) :: (("qa" : Str),(15 : Int)) :: (("qb" : Str),(15 : Int)) :: (("qc" : Str),(16 : Int)) :: (("qd" : Str),(16 : Int)) :: (("qe" : Str),(17 : Int)) :: (("qf" : Str),(17 : Int)) :: (("qg" : Str),(18 : Int)) :: (("qh" : Str),(18 : Int)) :: (("qi" : Str),(19 : Int)) :: (("qj" : Str),(19 : Int)) :: (("qk" : Str),(20 : Int)) :: (("ql" : Str),(20 : Int)) :: (("qm" : Str),(0 : Int)) :: []
def ht_many : List (Str × Int):=(("pa" : Str),(1 : Int)) :: (("pb" : Str),(1 : Int)) :: (("pc" : Str),(2 : Int)) :: (("pd" : Str),(2 : Int)) :: (("pe" : Str),(3 : Int)) :: (("pf" : Str),(3 : Int)) :: (("pg" : Str),(4 : Int)) :: (("ph" : Str),(4 : Int)) :: (("pi" : Str),(5 : Int)) :: (("pj" : Str),(5 : Int)) :: (("pk" : Str),(6 : Int)) :: (("pl" : Str),(6 : Int)) :: (("pm" : Str),(7 : Int)) :: (("pn" : Str),(7 : Int)) :: (("po" : Str),(8 : Int)) :: (("pp" : Str),(8 : Int)) :: (("pq" : Str),(9 : Int)) :: (("pr" : Str),(9 : Int)) :: (("ps" : Str),(10 : Int)) :: (("pt" : Str),(10 : Int)) :: (("pu" : Str),(11 : Int)) :: (("pv" : Str),(11 : Int)) :: (("pw" : Str),(12 : Int)) :: (("px" : Str),(12 : Int)) :: (("py" : Str),(13 : Int)) :: (("pz" : Str),(13 : Int)) :: (("qa" : Str),(14 : Int)) :: (("qb" : Str),(14 : Int)) :: (("qc" : Str),(15 : Int)) :: (("qd" : Str),(15 : Int)) :: (("qe" : Str),(16 : Int)) :: (("qf" : Str),(16 : Int)) :: (("qg" : Str),(17 : Int)) :: (("qh" : Str),(17 : Int)) :: (("qi" : Str),(18 : Int)) :: (("qj" : Str),(18 : Int)) :: (("qk" : Str),(19 : Int)) :: (("ql" : Str),(19 : Int)) :: []
theorem hl_many : p__law_least_right (jobD hsp hways) (szD hw_many ht_many) = .ok (.bool true):=cB_ok (by decide +kernel)
def hw_apart : List (Str × Int):=(("pa" : Str),(1 : Int)) :: (("pb" : Str),(1 : Int)) :: (("pc" : Str),(2 : Int)) :: (("pd" : Str),(2 : Int)) :: (("pe" : Str),(3 : Int)) :: (("pf" : Str),(3 : Int)) :: (("pg" : Str),(4 : Int)) :: (("ph" : Str),(4 : Int)) :: (("pi" : Str),(5 : Int)) :: (("pj" : Str),(5 : Int)) :: (("pk" : Str),(6 : Int)) :: (("pl" : Str),(6 : Int)) :: (("pm" : Str),(7 : Int)) :: (("pn" : Str),(7 : Int)) :: (("po" : Str),(8 : Int)) :: (("pp" : Str),(8 : Int)) :: (("pq" : Str),(9 : Int)) :: (("pr" : Str),(9 : Int)) :: (("ps" : Str),(10 : Int)) :: (("pt" : Str),(10 : Int)) :: (("pu" : Str),(11 : Int)) :: (("pv" : Str),(11 : Int)) :: (("pw" : Str),(12 : Int)) :: (("px" : Str),(12 : Int)) :: (("py" : Str),(13 : Int)) :: (("pz" : Str),(13 : Int)) :: (("qa" : Str),(14 : Int)) :: (("qb" : Str),(14 : Int)) :: (("qc" : Str),(15 : Int)) :: (("qd" : Str),(15 : Int)) :: (("qe" : Str),(16 : Int)) :: (("qf" : Str),(16 : Int)) :: (("qg" : Str),(17 : Int)) :: (("qh" : Str),(17 : Int)) :: (("qi" : Str),(18 : Int)) :: (("qj" : Str),(18 : Int)) :: (("qk" : Str),(19 : Int)) :: (("ql" : Str),(19 : Int)) :: (("qm" : Str),(0 : Int)) :: []
def ht_apart : List (Str × Int):=(("pa" : Str),(1 : Int)) :: (("pb" : Str),(1 : Int)) :: (("pc" : Str),(2 : Int)) :: (("pd" : Str),(2 : Int)) :: (("pe" : Str),(3 : Int)) :: (("pf" : Str),(3 : Int)) :: (("pg" : Str),(4 : Int)) :: (("ph" : Str),(4 : Int)) :: (("pi" : Str),(5 : Int)) :: (("pj" : Str),(5 : Int)) :: (("pk" : Str),(6 : Int)) :: (("pl" : Str),(6 : Int)) :: (("pm" : Str),(7 : Int)) :: (("pn" : Str),(7 : Int)) :: (("po" : Str),(8 : Int)) :: (("pp" : Str),(8 : Int)) :: (("pq" : Str),(9 : Int)) :: (("pr" : Str),(9 : Int)) :: (("ps" : Str),(10 : Int)) :: (("pt" : Str),(10 : Int)) :: (("pu" : Str),(11 : Int)) :: (("pv" : Str),(11 : Int)) :: (("pw" : Str),(12 : Int)) :: (("px" : Str),(12 : Int)) :: (("py" : Str),(13 : Int)) :: (("pz" : Str),(13 : Int)) :: (("qa" : Str),(14 : Int)) :: (("qb" : Str),(14 : Int)) :: (("qc" : Str),(15 : Int)) :: (("qd" : Str),(15 : Int)) :: (("qe" : Str),(16 : Int)) :: (("qf" : Str),(16 : Int)) :: (("qg" : Str),(17 : Int)) :: (("qh" : Str),(17 : Int)) :: (("qi" : Str),(18 : Int)) :: (("qj" : Str),(18 : Int)) :: (("qk" : Str),(19 : Int)) :: (("ql" : Str),(19 : Int)) :: []
theorem hl_apart : p__law_least_right (jobD hsp hways) (szD hw_apart ht_apart) = .ok (.bool true):=cB_ok (by decide +kernel)
def hw_great : List (Str × Int):=(("pa" : Str),(10000000000000000000000000000000000000000 : Int)) :: (("pb" : Str),(10000000000000000000000000000000000000000 : Int)) :: (("pc" : Str),(10000000000000000000000000000000000000000 : Int)) :: (("pd" : Str),(10000000000000000000000000000000000000000 : Int)) :: (("pe" : Str),(10000000000000000000000000000000000000000 : Int)) :: (("pf" : Str),(10000000000000000000000000000000000000000 : Int)) :: (("pg" : Str),(10000000000000000000000000000000000000000 : Int)) :: (("ph" : Str),(10000000000000000000000000000000000000000 : Int)) :: (("pi" : Str),(10000000000000000000000000000000000000000 : Int)) :: (("pj" : Str),(10000000000000000000000000000000000000000 : Int)) :: (("pk" : Str),(10000000000000000000000000000000000000000 : Int)) :: (("pl" : Str),(10000000000000000000000000000000000000000 : Int)) :: (("pm" : Str),(10000000000000000000000000000000000000000 : Int)) :: (("pn" : Str),(10000000000000000000000000000000000000000 : Int)) :: (("po" : Str),(10000000000000000000000000000000000000000 : Int)) :: (("pp" : Str),(10000000000000000000000000000000000000000 : Int)) :: (("pq" : Str),(10000000000000000000000000000000000000000 : Int)) :: (("pr" : Str),(10000000000000000000000000000000000000000 : Int)) :: (("ps" : Str),(10000000000000000000000000000000000000000 : Int)) :: (("pt" : Str),(10000000000000000000000000000000000000000 : Int)) :: (("pu" : Str),(10000000000000000000000000000000000000000 : Int)) :: (("pv" : Str),(10000000000000000000000000000000000000000 : Int)) :: (("pw" : Str),(10000000000000000000000000000000000000000 : Int)) :: (("px" : Str),(10000000000000000000000000000000000000000 : Int)) :: (("py" : Str),(10000000000000000000000000000000000000000 : Int)) :: (("pz" : Str),(10000000000000000000000000000000000000000 : Int)) :: (("qa" : Str),(10000000000000000000000000000000000000000 : Int)) :: (("qb" : Str),(10000000000000000000000000000000000000000 : Int)) :: (("qc" : Str),(10000000000000000000000000000000000000000 : Int)) :: (("qd" : Str),(10000000000000000000000000000000000000000 : Int)) :: (("qe" : Str),(10000000000000000000000000000000000000000 : Int)) :: (("qf" : Str),(10000000000000000000000000000000000000000 : Int)) :: (("qg" : Str),(10000000000000000000000000000000000000000 : Int)) :: (("qh" : Str),(10000000000000000000000000000000000000000 : Int)) :: (("qi" : Str),(10000000000000000000000000000000000000000 : Int)) :: (("qj" : Str),(10000000000000000000000000000000000000000 : Int)) :: (("qk" : Str),(10000000000000000000000000000000000000000 : Int)) :: (("ql" : Str),(10000000000000000000000000000000000000000 : Int)) :: (("qm" : Str),(9999999999999999999999999999999999999999 : Int)) :: []
def ht_great : List (Str × Int):=(("pa" : Str),(10000000000000000000000000000000000000000 : Int)) :: (("pb" : Str),(10000000000000000000000000000000000000000 : Int)) :: (("pc" : Str),(10000000000000000000000000000000000000000 : Int)) :: (("pd" : Str),(10000000000000000000000000000000000000000 : Int)) :: (("pe" : Str),(10000000000000000000000000000000000000000 : Int)) :: (("pf" : Str),(10000000000000000000000000000000000000000 : Int)) :: (("pg" : Str),(10000000000000000000000000000000000000000 : Int)) :: (("ph" : Str),(10000000000000000000000000000000000000000 : Int)) :: (("pi" : Str),(10000000000000000000000000000000000000000 : Int)) :: (("pj" : Str),(10000000000000000000000000000000000000000 : Int)) :: (("pk" : Str),(10000000000000000000000000000000000000000 : Int)) :: (("pl" : Str),(10000000000000000000000000000000000000000 : Int)) :: (("pm" : Str),(10000000000000000000000000000000000000000 : Int)) :: (("pn" : Str),(10000000000000000000000000000000000000000 : Int)) :: (("po" : Str),(10000000000000000000000000000000000000000 : Int)) :: (("pp" : Str),(10000000000000000000000000000000000000000 : Int)) :: (("pq" : Str),(10000000000000000000000000000000000000000 : Int)) :: (("pr" : Str),(10000000000000000000000000000000000000000 : Int)) :: (("ps" : Str),(10000000000000000000000000000000000000000 : Int)) :: (("pt" : Str),(10000000000000000000000000000000000000000 : Int)) :: (("pu" : Str),(10000000000000000000000000000000000000000 : Int)) :: (("pv" : Str),(10000000000000000000000000000000000000000 : Int)) :: (("pw" : Str),(10000000000000000000000000000000000000000 : Int)) :: (("px" : Str),(10000000000000000000000000000000000000000 : Int)) :: (("py" : Str),(10000000000000000000000000000000000000000 : Int)) :: (("pz" : Str),(10000000000000000000000000000000000000000 : Int)) :: (("qa" : Str),(10000000000000000000000000000000000000000 : Int)) :: (("qb" : Str),(10000000000000000000000000000000000000000 : Int)) :: (("qc" : Str),(10000000000000000000000000000000000000000 : Int)) :: (("qd" : Str),(10000000000000000000000000000000000000000 : Int)) :: (("qe" : Str),(10000000000000000000000000000000000000000 : Int)) :: (("qf" : Str),(10000000000000000000000000000000000000000 : Int)) :: (("qg" : Str),(10000000000000000000000000000000000000000 : Int)) :: (("qh" : Str),(10000000000000000000000000000000000000000 : Int)) :: (("qi" : Str),(10000000000000000000000000000000000000000 : Int)) :: (("qj" : Str),(10000000000000000000000000000000000000000 : Int)) :: (("qk" : Str),(10000000000000000000000000000000000000000 : Int)) :: (("ql" : Str),(10000000000000000000000000000000000000000 : Int)) :: []
theorem hl_great : p__law_least_right (jobD hsp hways) (szD hw_great ht_great) = .ok (.bool true):=cB_ok (by decide +kernel)
def hw_tight : List (Str × Int):=(("c" : Str),(2 : Int)) :: (("d" : Str),(2 : Int)) :: (("e" : Str),(5 : Int)) :: (("f" : Str),(5 : Int)) :: (("t" : Str),(1 : Int)) :: []
def ht_tight : List (Str × Int):=(("c" : Str),(1 : Int)) :: (("d" : Str),(2 : Int)) :: (("e" : Str),(4 : Int)) :: (("f" : Str),(5 : Int)) :: []
theorem hl_tight : p__law_least_right (jobD hsp4 hways4) (szD hw_tight ht_tight) = .ok (.bool true):=cB_ok (by decide +kernel)
theorem hn_many : p_place_needed (jobD hsp hways) (szD hw_many ht_many) = .ok (.int 1):=rdQ_eq (by decide +kernel)
theorem hn_apart : p_place_needed (jobD hsp hways) (szD hw_apart ht_apart) = .ok (.int 19):=rdQ_eq (by decide +kernel)
theorem hn_great : p_place_needed (jobD hsp hways) (szD hw_great ht_great) = .ok (.int 10000000000000000000000000000000000000000):=rdQ_eq (by decide +kernel)
def plQ (a b : D) : R D:=if (dEq a (jobD hsp hways) && (dEq b (szD hw_many ht_many) || (dEq b (szD hw_apart ht_apart) || dEq b (szD hw_great ht_great)))) = true then .ok (.bool true) else if (dEq a (jobD hsp4 hways4) && dEq b (szD hw_tight ht_tight)) = true then .ok (.bool true) else p__law_least_right a b
theorem plQ_eq : p__law_least_right = plQ:=by
  funext a b
  unfold plQ
  split
  · next h =>
    rw [Bool.and_eq_true,Bool.or_eq_true,Bool.or_eq_true] at h
    obtain ⟨h1,h2⟩:=h
    rw [dEq_eq _ _ h1]
    rcases h2 with h | h | h
    · rw [dEq_eq _ _ h,hl_many]
    · rw [dEq_eq _ _ h,hl_apart]
    · rw [dEq_eq _ _ h,hl_great]
  · split
    · next h =>
      rw [Bool.and_eq_true] at h
      rw [dEq_eq _ _ h.1,dEq_eq _ _ h.2,hl_tight]
    · rfl
def pnQ (a b : D) : R D:=if (dEq a (jobD hsp hways) && dEq b (szD hw_many ht_many)) = true then .ok (.int 1) else if (dEq a (jobD hsp hways) && dEq b (szD hw_apart ht_apart)) = true then .ok (.int 19) else if (dEq a (jobD hsp hways) && dEq b (szD hw_great ht_great)) = true then .ok (.int 10000000000000000000000000000000000000000) else p_place_needed a b
theorem pnQ_eq : p_place_needed = pnQ:=by
  funext a b
  unfold pnQ
  split
  · next h =>
    rw [Bool.and_eq_true] at h
    rw [dEq_eq _ _ h.1,dEq_eq _ _ h.2,hn_many]
  · split
    · next h =>
      rw [Bool.and_eq_true] at h
      rw [dEq_eq _ _ h.1,dEq_eq _ _ h.2,hn_apart]
    · split
      · next h =>
        rw [Bool.and_eq_true] at h
        rw [dEq_eq _ _ h.1,dEq_eq _ _ h.2,hn_great]
      · rfl
theorem hand_ok : pG p_place_needed p__law_least_right = .ok (.bool true):=by
  rw [pnQ_eq,plQ_eq]
  exact rdQ_eq (by decide +kernel)
def p__law_by_hand_right : R D:=.ok (.bool true)
theorem pf__law_by_hand_right : FR .d (m__law_by_hand_right []) p__law_by_hand_right:=by
  have h:=pfG m_place_needed m__law_least_right p_place_needed p__law_least_right pf_place_needed pf__law_least_right
  rw [hand_ok] at h
  rw [mG_eq]
  exact h
def p_law (v_script : D) : R D :=
  (p__law_by_hand_right ).bind fun z1 =>
  (truR z1).bind fun b2 =>
  if (!b2) = true then
  .ok (.bool false)
  else
  (p__law_cells v_script (.int (3))).bind fun z4 =>
  (o1 lenD z4).bind fun z5 =>
  (rngR z5).bind fun l6 =>
  (mapR (fun d7=>(p__law_box z4 d7).bind fun z8 =>
  (p__law_right z8).bnx fun z9 =>
  .ok z9.1) l6).bind fun l10 =>
  (o1 allD (.list l10)).bind fun z11 =>
  .ok z11
theorem pf_law (v_script : D) : FR .d (m_law [.s v_script]) (p_law v_script) :=
  fr_fn (Γ:=[.s v_script,.x,.x]) ⟨rfl,trivial,trivial,trivial⟩ (c_seq (c_ifS (c_notT (c_tru (c_callD (c_nilA (k_callDd (pf__law_by_hand_right ) fun z1=>k_tru rd_d trivial fun b2=>k_if2 (c_ret (c_pvd (c_kst (k_retD rd_d fun v3 hv3=>q_ret hv3)))) (c_skip (k_seq (c_seq (c_asg (c_callD (c_consA (c_datV rfl rfl rfl (c_consA (c_kst (c_nilA (k_callDf (pf__law_cells v_script (.int (3))) fun z4=>k_intoF rd_f rfl rfl (k_cv (Γ':=[.s v_script,.o z4,.x]) rfl (k_seq (c_ret (c_op1 (c_comp (c_rng1 (c_dat (c_op1 (c_varO rfl (k_op1d sc_len rd_r rfl fun z5=>k_datN (rd_dn rd_d) (k_lift fun l6=>k_le (Γ':=[.s v_script,.a z4,.x]) ⟨rfl,rfl,rfl,trivial⟩ (k_map [.s v_script,.a z4,.x] [.s v_script,.a z4,.x] rfl rfl rfl (fun d7=>c_tgN rfl rfl (k_el (c_dat (c_callR (c_callD (c_consA (c_datV rfl rfl rfl (c_consA (c_datV rfl rfl rfl (c_nilA (k_callDf (pf__law_box z4 d7) fun z8=>c_nilA (k_callRn (pf__law_right z8).n fun pz9 z9 hz9=>k_datN hz9 (q_A ⟨rfl,rfl,rfl,trivial⟩))))))))))))) fun l10=>k_op1d sc_all rd_f trivial fun z11=>k_retD rd_d fun v12 hv12=>q_ret hv12))))))))))))))))))))))))))))))
theorem bnxQ {α β : Type} {m : R α} {a : α} {k : α → R β} {r : R β} (h : m = .ok a) (q : k a = r) : m.bnx k = r:=by rw [h]; exact q
theorem case_ok {N : Nat} {t : D} (hN : N < 2 ^ 57) (T : TinOk N t) : ∃ t',p__law_case_right t = .ok (.bool true,t') ∧ TinOk (N + 400) t':=by
  obtain ⟨sp,ways,t1,e1,T1,J,hw,hk⟩:=task_ok (many:=10) (full:=10) (by omega) (by decide) (by decide) (by decide) T
  have e1 : p__law_task t (.int 10) (.int 10) = .ok (jobD sp ways,t1):=e1
  obtain ⟨x,t2,e2,T2,hx⟩:=of_ok (xs:=[(.int (1)),(.int (3)),(.int (20))]) (n:=N + 200) (by omega) T1 (by simp) (by simp)
  obtain ⟨mo,rfl,m0,m1⟩ : ∃ mo : Int,x = .int mo ∧ 0 ≤ mo ∧ mo < 1000:=by
    simp only [List.mem_cons,List.not_mem_nil,or_false] at hx
    rcases hx with rfl | rfl | rfl
    · exact ⟨1,rfl,by decide,by decide⟩
    · exact ⟨3,rfl,by decide,by decide⟩
    · exact ⟨20,rfl,by decide,by decide⟩
  obtain ⟨wi,th,t3,e3,T3,Z,pos⟩:=sorts_ok (N:=N + 200 + 1) J hk (by decide) (by omega) m0 m1 (by omega) T2
  have hz : ("zz" : Str) ∉ sp:=fun h=>by
    obtain ⟨k,rfl⟩:=hk
    have : ("zz" : Str) ∉ tagL:=by decide +kernel
    exact this (List.mem_of_mem_take h)
  have L:=least_ok J hz (by decide) (by omega) Z pos
  refine ⟨t3,?_,T3.mono (by omega)⟩
  unfold p__law_case_right
  rw [e1,R.bnx_ok]
  refine (bnxQ e2 ?_)
  dsimp only
  rw [e3,R.bnx_ok]
  dsimp only
  rw [L,R.bind_ok]
theorem right_ok {N : Nat} {t : D} (hN : N < 2 ^ 50) (T : TinOk N t) : ∃ t',p__law_right t = .ok (.bool true,t'):=by
  obtain ⟨t',e,_⟩:=mapS_true (f:=fun (s3 : D) d2=>(p__law_case_right s3).bnx fun z4=>.ok (z4.1,z4.2)) (c:=400) (fun N t d hN T=>by
    obtain ⟨t',e,T'⟩:=case_ok hN T
    exact ⟨t',by rw [e]; rfl,T'⟩) (upTo 0 8) N t (by rw [upTo_len]; omega) T
  refine ⟨t',?_⟩
  simp only [p__law_right,show rngR (.int 8) = .ok (upTo 0 8) from rngR_ok (n:=8) (by decide),R.bind_ok,e,all_trues]
theorem law_ok (ns : List Int) (hn : ns.length ≤ 63) : p_law (.list (ns.map .int)) = .ok (.bool true):=by
  obtain ⟨cs,h1,h2,e⟩:=cells_ok (most:=3) (by decide) (by decide) hn
  have hm : mapR (fun d7=>(p__law_box (.list (inl cs)) d7).bind fun z8=>(p__law_right z8).bnx fun z9=>.ok z9.1) (upTo 0 cs.length) = .ok ((List.range cs.length).map fun _=>.bool true):=by
    rw [upTo0_map,mapR_map]
    refine mapR_ok fun k hk=>?_
    obtain ⟨t,e1,T⟩:=box_ok (is:=cs) (List.mem_range.mp hk) h2
    obtain ⟨t',e2⟩:=right_ok (by decide) T
    rw [e1,R.bind_ok,e2,R.bnx_ok]
  have e : p__law_cells (.list (ns.map .int)) (.int 3) = .ok (.list (inl cs)):=e
  simp only [p_law,p__law_by_hand_right,R.bind_ok,truR_b,Bool.not_true,Bool.false_eq_true,if_false,e,o1_lenl,List.length_map,rngR_ok (show cs.length ≤ 16777216 by omega),hm,all_trues]
theorem law_mirror (ns : List Int) (hn : ns.length ≤ 63) : ∃ outs,m_law [.s (.list (ns.map .int))] = .ok (.s (.bool true)) outs:=by
  have h:=pf_law (.list (ns.map .int))
  rw [law_ok ns hn] at h
  obtain ⟨x,o,h1,h2⟩:=h
  cases h2
  exact ⟨o,h1⟩
end G
end DL
end L2
namespace L2
namespace DL
namespace G
namespace H1
open PySem PySem.Spec PyProof.Rows
theorem facts {K : PySem.W.Frag} {h : Heap} {mg : Str → Option Value} {f : Addr} (X : K.In h) (G : h.Ns mainGlobals mg) (hfa : mg ("law" : Str) = some (.ref f)) (c0 : He.SaysD fa fn K) : ∃ F : Fs R.prog (noLst K) mg,F.f_law = f:=by
  have c:=c0
  obtain ⟨fd0,F0⟩:=c.def_ 0 (d:=dd__law_box) rfl
  obtain ⟨fd1,F1⟩:=c.def_ 1 (d:=dd__law_lists) rfl
  obtain ⟨fd2,F2⟩:=c.def_ 2 (d:=dd__law_with) rfl
  obtain ⟨fd3,F3⟩:=c.def_ 3 (d:=dd_tupled) rfl
  obtain ⟨fd4,F4⟩:=c.def_ 4 (d:=dd_goal_of) rfl
  obtain ⟨fd5,F5⟩:=c.def_ 5 (d:=dd_row_from) rfl
  obtain ⟨fd6,F6⟩:=c.def_ 6 (d:=dd_set_of) rfl
  obtain ⟨fd7,F7⟩:=c.def_ 7 (d:=dd_chains) rfl
  obtain ⟨fd8,F8⟩:=c.def_ 8 (d:=dd_free_places) rfl
  obtain ⟨fd9,F9⟩:=c.def_ 9 (d:=dd_tables_of) rfl
  obtain ⟨fd10,F10⟩:=c.def_ 10 (d:=dd_hole_of) rfl
  obtain ⟨fd11,F11⟩:=c.def_ 11 (d:=dd_row_from_safe) rfl
  obtain ⟨fd12,F12⟩:=c.def_ 12 (d:=dd_rings) rfl
  obtain ⟨fd13,F13⟩:=c.def_ 13 (d:=dd_opened_by) rfl
  obtain ⟨fd14,F14⟩:=c.def_ 14 (d:=dd_shut_rings) rfl
  obtain ⟨fd15,F15⟩:=c.def_ 15 (d:=dd_can_be_done_by) rfl
  obtain ⟨fd16,F16⟩:=c.def_ 16 (d:=dd_boxes) rfl
  obtain ⟨fd17,F17⟩:=c.def_ 17 (d:=dd_place_needed) rfl
  obtain ⟨fd18,F18⟩:=c.def_ 18 (d:=dd__law_least_right) rfl
  obtain ⟨fd19,F19⟩:=c.def_ 19 (d:=dd__law_same) rfl
  obtain ⟨fd20,F20⟩:=c.def_ 20 (d:=dd__law_by_hand_right) rfl
  obtain ⟨fd21,F21⟩:=c.def_ 21 (d:=dd__law_cells) rfl
  obtain ⟨fd22,F22⟩:=c.def_ 22 (d:=dd__law_take) rfl
  obtain ⟨fd23,F23⟩:=c.def_ 23 (d:=dd__law_of) rfl
  obtain ⟨fd24,F24⟩:=c.def_ 24 (d:=dd__law_sorts) rfl
  obtain ⟨fd25,F25⟩:=c.def_ 25 (d:=dd__law_pick) rfl
  obtain ⟨fd26,F26⟩:=c.def_ 26 (d:=dd__law_task) rfl
  obtain ⟨fd27,F27⟩:=c.def_ 27 (d:=dd__law_case_right) rfl
  obtain ⟨fd28,F28⟩:=c.def_ 28 (d:=dd__law_right) rfl
  obtain ⟨fd29,F29⟩:=c.def_ 29 (d:=dd_law) rfl
  have e:=hfa.symm.trans (He.glo_ok X G (c.fact 29 (f:=.glo "law") rfl))
  cases e
  have G0 : FunD K "_law_box" "_law_box" (defArgs (top 19)) (defBody (top 19)) (defScope (top 19)) [] [] (He.fAd K ("_law_box",none)) fd0:=F0
  have G1 : FunD K "_law_lists" "_law_lists" (defArgs (top 24)) (defBody (top 24)) (defScope (top 24)) [] [] (He.fAd K ("_law_lists",none)) fd1:=F1
  have G2 : FunD K "_law_with" "_law_with" (defArgs (top 28)) (defBody (top 28)) (defScope (top 28)) [] [] (He.fAd K ("_law_with",none)) fd2:=F2
  have G3 : FunD K "tupled" "tupled" (defArgs (top 1)) (defBody (top 1)) (defScope (top 1)) [] [] (He.fAd K ("tupled",none)) fd3:=F3
  have G4 : FunD K "goal_of" "goal_of" (defArgs (top 4)) (defBody (top 4)) (defScope (top 4)) [] [] (He.fAd K ("goal_of",none)) fd4:=F4
  have G5 : FunD K "row_from" "row_from" (defArgs (top 7)) (defBody (top 7)) (defScope (top 7)) [] [] (He.fAd K ("row_from",none)) fd5:=F5
  have G6 : FunD K "set_of" "set_of" (defArgs (top 2)) (defBody (top 2)) (defScope (top 2)) [] [] (He.fAd K ("set_of",none)) fd6:=F6
  have G7 : FunD K "chains" "chains" (defArgs (top 10)) (defBody (top 10)) (defScope (top 10)) [] [] (He.fAd K ("chains",none)) fd7:=F7
  have G8 : FunD K "free_places" "free_places" (defArgs (top 6)) (defBody (top 6)) (defScope (top 6)) [] [] (He.fAd K ("free_places",none)) fd8:=F8
  have G9 : FunD K "tables_of" "tables_of" (defArgs (top 12)) (defBody (top 12)) (defScope (top 12)) [] [] (He.fAd K ("tables_of",none)) fd9:=F9
  have G10 : FunD K "hole_of" "hole_of" (defArgs (top 13)) (defBody (top 13)) (defScope (top 13)) [] [] (He.fAd K ("hole_of",none)) fd10:=F10
  have G11 : FunD K "row_from_safe" "row_from_safe" (defArgs (top 9)) (defBody (top 9)) (defScope (top 9)) [] [] (He.fAd K ("row_from_safe",none)) fd11:=F11
  have G12 : FunD K "rings" "rings" (defArgs (top 8)) (defBody (top 8)) (defScope (top 8)) [] [] (He.fAd K ("rings",none)) fd12:=F12
  have G13 : FunD K "opened_by" "opened_by" (defArgs (top 14)) (defBody (top 14)) (defScope (top 14)) [] [] (He.fAd K ("opened_by",none)) fd13:=F13
  have G14 : FunD K "shut_rings" "shut_rings" (defArgs (top 15)) (defBody (top 15)) (defScope (top 15)) [] [] (He.fAd K ("shut_rings",none)) fd14:=F14
  have G15 : FunD K "can_be_done_by" "can_be_done_by" (defArgs (top 16)) (defBody (top 16)) (defScope (top 16)) [] [] (He.fAd K ("can_be_done_by",none)) fd15:=F15
  have G16 : FunD K "boxes" "boxes" (defArgs (top 5)) (defBody (top 5)) (defScope (top 5)) [] [] (He.fAd K ("boxes",none)) fd16:=F16
  have G17 : FunD K "place_needed" "place_needed" (defArgs (top 17)) (defBody (top 17)) (defScope (top 17)) [] [] (He.fAd K ("place_needed",none)) fd17:=F17
  have G18 : FunD K "_law_least_right" "_law_least_right" (defArgs (top 29)) (defBody (top 29)) (defScope (top 29)) [] [] (He.fAd K ("_law_least_right",none)) fd18:=F18
  have G19 : FunD K "_law_same" "_law_same" (defArgs (top 25)) (defBody (top 25)) (defScope (top 25)) [] [] (He.fAd K ("_law_same",none)) fd19:=F19
  have G20 : FunD K "_law_by_hand_right" "_law_by_hand_right" (defArgs (top 30)) (defBody (top 30)) (defScope (top 30)) [] [] (He.fAd K ("_law_by_hand_right",none)) fd20:=F20
  have G21 : FunD K "_law_cells" "_law_cells" (defArgs (top 21)) (defBody (top 21)) (defScope (top 21)) [] [] (He.fAd K ("_law_cells",none)) fd21:=F21
  have G22 : FunD K "_law_take" "_law_take" (defArgs (top 20)) (defBody (top 20)) (defScope (top 20)) [] [] (He.fAd K ("_law_take",none)) fd22:=F22
  have G23 : FunD K "_law_of" "_law_of" (defArgs (top 22)) (defBody (top 22)) (defScope (top 22)) [] [] (He.fAd K ("_law_of",none)) fd23:=F23
  have G24 : FunD K "_law_sorts" "_law_sorts" (defArgs (top 27)) (defBody (top 27)) (defScope (top 27)) [] [] (He.fAd K ("_law_sorts",none)) fd24:=F24
  have G25 : FunD K "_law_pick" "_law_pick" (defArgs (top 23)) (defBody (top 23)) (defScope (top 23)) [] [] (He.fAd K ("_law_pick",none)) fd25:=F25
  have G26 : FunD K "_law_task" "_law_task" (defArgs (top 26)) (defBody (top 26)) (defScope (top 26)) [] [] (He.fAd K ("_law_task",none)) fd26:=F26
  have G27 : FunD K "_law_case_right" "_law_case_right" (defArgs (top 31)) (defBody (top 31)) (defScope (top 31)) [] [] (He.fAd K ("_law_case_right",none)) fd27:=F27
  have G28 : FunD K "_law_right" "_law_right" (defArgs (top 32)) (defBody (top 32)) (defScope (top 32)) [] [] (He.fAd K ("_law_right",none)) fd28:=F28
  have G29 : FunD K "law" "law" (defArgs (top 33)) (defBody (top 33)) (defScope (top 33)) [] [] (He.fAd K ("law",none)) fd29:=F29
  exact ⟨⟨_,fd0,DL.FunD.noLst G0,He.glo_ok X G (c.fact 0 (f:=.glo "_law_box") rfl),
    _,fd1,DL.FunD.noLst G1,He.glo_ok X G (c.fact 1 (f:=.glo "_law_lists") rfl),
    _,fd2,DL.FunD.noLst G2,He.glo_ok X G (c.fact 2 (f:=.glo "_law_with") rfl),
    _,fd3,DL.FunD.noLst G3,He.glo_ok X G (c.fact 3 (f:=.glo "tupled") rfl),
    _,fd4,DL.FunD.noLst G4,He.glo_ok X G (c.fact 4 (f:=.glo "goal_of") rfl),
    _,fd5,DL.FunD.noLst G5,He.glo_ok X G (c.fact 5 (f:=.glo "row_from") rfl),
    _,fd6,DL.FunD.noLst G6,He.glo_ok X G (c.fact 6 (f:=.glo "set_of") rfl),
    _,fd7,DL.FunD.noLst G7,He.glo_ok X G (c.fact 7 (f:=.glo "chains") rfl),
    _,fd8,DL.FunD.noLst G8,He.glo_ok X G (c.fact 8 (f:=.glo "free_places") rfl),
    _,fd9,DL.FunD.noLst G9,He.glo_ok X G (c.fact 9 (f:=.glo "tables_of") rfl),
    _,fd10,DL.FunD.noLst G10,He.glo_ok X G (c.fact 10 (f:=.glo "hole_of") rfl),
    _,fd11,DL.FunD.noLst G11,He.glo_ok X G (c.fact 11 (f:=.glo "row_from_safe") rfl),
    _,fd12,DL.FunD.noLst G12,He.glo_ok X G (c.fact 12 (f:=.glo "rings") rfl),
    _,fd13,DL.FunD.noLst G13,He.glo_ok X G (c.fact 13 (f:=.glo "opened_by") rfl),
    _,fd14,DL.FunD.noLst G14,He.glo_ok X G (c.fact 14 (f:=.glo "shut_rings") rfl),
    _,fd15,DL.FunD.noLst G15,He.glo_ok X G (c.fact 15 (f:=.glo "can_be_done_by") rfl),
    _,fd16,DL.FunD.noLst G16,He.glo_ok X G (c.fact 16 (f:=.glo "boxes") rfl),
    _,fd17,DL.FunD.noLst G17,He.glo_ok X G (c.fact 17 (f:=.glo "place_needed") rfl),
    _,fd18,DL.FunD.noLst G18,He.glo_ok X G (c.fact 18 (f:=.glo "_law_least_right") rfl),
    _,fd19,DL.FunD.noLst G19,He.glo_ok X G (c.fact 19 (f:=.glo "_law_same") rfl),
    _,fd20,DL.FunD.noLst G20,He.glo_ok X G (c.fact 20 (f:=.glo "_law_by_hand_right") rfl),
    _,fd21,DL.FunD.noLst G21,He.glo_ok X G (c.fact 21 (f:=.glo "_law_cells") rfl),
    _,fd22,DL.FunD.noLst G22,He.glo_ok X G (c.fact 22 (f:=.glo "_law_take") rfl),
    _,fd23,DL.FunD.noLst G23,He.glo_ok X G (c.fact 23 (f:=.glo "_law_of") rfl),
    _,fd24,DL.FunD.noLst G24,He.glo_ok X G (c.fact 24 (f:=.glo "_law_sorts") rfl),
    _,fd25,DL.FunD.noLst G25,He.glo_ok X G (c.fact 25 (f:=.glo "_law_pick") rfl),
    _,fd26,DL.FunD.noLst G26,He.glo_ok X G (c.fact 26 (f:=.glo "_law_task") rfl),
    _,fd27,DL.FunD.noLst G27,He.glo_ok X G (c.fact 27 (f:=.glo "_law_case_right") rfl),
    _,fd28,DL.FunD.noLst G28,He.glo_ok X G (c.fact 28 (f:=.glo "_law_right") rfl),
    _,fd29,DL.FunD.noLst G29,He.glo_ok X G (c.fact 29 (f:=.glo "law") rfl),
    He.free_ok X G (c.fact 30 (f:=.free "abs") rfl),
    He.free_ok X G (c.fact 31 (f:=.free "all") rfl),
    He.free_ok X G (c.fact 32 (f:=.free "bool") rfl),
    He.free_ok X G (c.fact 33 (f:=.free "dict") rfl),
    He.free_ok X G (c.fact 34 (f:=.free "enumerate") rfl),
    He.free_ok X G (c.fact 35 (f:=.free "int") rfl),
    He.free_ok X G (c.fact 36 (f:=.free "isinstance") rfl),
    He.free_ok X G (c.fact 37 (f:=.free "len") rfl),
    He.free_ok X G (c.fact 38 (f:=.free "list") rfl),
    He.free_ok X G (c.fact 39 (f:=.free "max") rfl),
    He.free_ok X G (c.fact 40 (f:=.free "min") rfl),
    He.free_ok X G (c.fact 41 (f:=.free "range") rfl),
    He.free_ok X G (c.fact 42 (f:=.free "set") rfl),
    He.free_ok X G (c.fact 43 (f:=.free "sorted") rfl),
    He.free_ok X G (c.fact 44 (f:=.free "str") rfl),
    He.free_ok X G (c.fact 45 (f:=.free "tuple") rfl),
    He.free_ok X G (c.fact 46 (f:=.free "zip") rfl)⟩,rfl⟩
theorem bind_law {P : Program} {K : PySem.W.Frag} {mg : Str → Option Value} (c : Fs P K mg) (s : Shared) (u : Value) : BindsTo s c.d_law ⟨[u],[]⟩ [("_law_script",u)]:=FunD.bindsA (ps:=["_law_script"]) c.F_law (fun _ _ _ _ _ _ us hl=>match us,hl with | [_],_=>rfl) s [u] rfl
end H1
end G
end DL
end L2
open PySem PySem.W PySem.Calls PyProof.Rows L2.DL in
theorem PySem.Challenge.cw_namesalone_k75_the_place_that_is_needed_holds : PySem.Challenge.rw_namesalone_k75_the_place_that_is_needed.Holds := by
  w_on; o_law
  refine HandSHeadRun.head_any (r:=OpenLaw.row PySem.Challenge.rw_namesalone_k75_the_place_that_is_needed) (q:=view (OpenLaw.row PySem.Challenge.rw_namesalone_k75_the_place_that_is_needed).prog [33]) (H:=L2.DL.G.H1.hk) (ob:=L2.DL.G.H1.ob) (M:=3400) (loose:=("tupled" :: "set_of" :: "goal_of" :: "boxes" :: "free_places" :: "row_from" :: "rings" :: "row_from_safe" :: "chains" :: "tables_of" :: "hole_of" :: "opened_by" :: "shut_rings" :: "can_be_done_by" :: "place_needed" :: "_law_box" :: "_law_take" :: "_law_cells" :: "_law_of" :: "_law_pick" :: "_law_lists" :: "_law_same" :: "_law_task" :: "_law_sorts" :: "_law_with" :: "_law_least_right" :: "_law_by_hand_right" :: "_law_case_right" :: "_law_right" :: [] : List PySem.Str)) (d:=HandSHeadRun.topDef (OpenLaw.row PySem.Challenge.rw_namesalone_k75_the_place_that_is_needed).prog 33) (kwd:=[]) L2.DL.G.H1.ob_eq
    (by kernel_rfl) (fun s=>by kernel_rfl) L2.DL.G.H1.run (by kernel_rfl) (by kernel_rfl) (by kernel_rfl) (by rfl) (by first | assumption | decide +kernel) (by decide +kernel) ⟨rfl,rfl,rfl,rfl,rfl,by decide +kernel⟩ ?hw ?hc
  case hw=>w_witness2
  case hc =>
    refine L2.DL.walk_mirror (l:=PySem.Challenge.rw_namesalone_k75_the_place_that_is_needed) (k:=71) (x:="_law_script") (m:=L2.DL.G.m_law) rfl (by kernel_rfl) ⟨rfl,by decide,by decide⟩ ?F L2.DL.G.law_mirror
    intro w mg fa h Y G0 hmg0
    obtain ⟨K,KX,c⟩:=Y
    have hmg : mg ("law" : PySem.Str) = some (.ref fa):=by
      have e : (HandSHeadRun.topDef (OpenLaw.row PySem.Challenge.rw_namesalone_k75_the_place_that_is_needed).prog 33).name = ("law" : PySem.Str):=by kernel_rfl
      rw [← e]
      exact hmg0
    obtain ⟨F,rfl⟩:=L2.DL.G.H1.facts KX G0 hmg c
    refine ⟨K,F.d_law,[],[],KX,(fun _ hp=>nomatch hp),(fun _ hp=>nomatch hp),(fun _ hp=>nomatch hp),(fun _ hp=>nomatch hp),fun s u=>?_,fun base _=>L2.DL.G.ok_law F⟩
    exact L2.DL.G.H1.bind_law F s u
