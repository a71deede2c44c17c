import PyProof.Rows.All
import Wide.All
import OpenK.AllK
import Wide.FinOn
import HandS.ForMost
import HandS.ForExc
import HandS.Lambda
import HandS.TupAny
import HandS.SortInts
import HandS.Style
import HandS.Conv
import HandS.Deep
import HandS.SetFor
import HandS.Defaults
import HandS.Star
import HandS.Property
import HandS.ClsMeth
import HandS.NoneIn
import HandS.IsInst
import HandS.More
import HandS.RaiseMore
import HandS.WordsDict
import HandS.Zip
import PyProof.TupleOfSeq
import KE.GoesEnum
import KE.KRevSl
import HandS.Ends
import HandS.EndBits
import HandS.Head0
import HandS.Head1
import HandS.Head2
import HandS.HeadHook1
import HandS.HeadHook2
import HandS.ExcInit
import HandS.GenCall
import HandS.GenList
import HandS.MakeKwOnly
import HandS.Small
import HandS.DictComp
import HandS.Iter
import KE.KDictSum
import HandS.Finally
import HandS.ExcField
import HandS.ExcIs
import HandS.TryMany
import KE.KExcIs
import HandS.OwnEq
import HandS.TupMul
import HandS.Strs
import PyProof.StrOps2
import KE.KWithOwn
import PyProof.InstNe
import KE.GoesZip
import KE.KTupSum
import KE.KDictList
import KE.KSuper
import KE.KStar
import KE.GoesMore
import KE.KExcInit
import HandS.Nested
import HandS.HeadHook4
import HandS.EndTab
import HandS.NestedK
import PyProof.DictMoreH
import PyProof.Rows.TupDisplay
import KE.KeyNested
import KE.KDictKeyed
import KE.KDictWalk
import KE.KDictPairs
import KE.KEqDict
import KE.DataMinMax
import KE.SortData
import HandS.DictTup
import HandS.ListItems
import KE.KItemsList
import KE.KDictZip
import PyProof.NeKinds
import KE.KDictCopyH
import PySem.Challenge.RW_vetoturns_k04_error_classes
set_option Elab.async false
set_option linter.all false
set_option maxRecDepth 100000
set_option maxHeartbeats 4000000
namespace Cl
open PySem PySem.Spec PyProof.Rows L2
abbrev Sg := L2.St
inductive TF where
  | p | x | a
  deriving DecidableEq
inductive PV where
  | non | bl (b : Bool) | int (i : Int) | str (s : PySem.Str) | ty (n : String) | fn (n : Nat)
  | lst (xs : List PV) | tup (k : TF) (xs : List PV) | dct (kvs : List (PV × PV)) | dtp (kvs : List (List Key × PV)) | obj (c : Nat) (fs : List (PySem.Str × PV))
  | dtn (kvs : List ((List Int × List Int) × PV))
  | scr (ns : List Int)
  | xo (c : Nat) (fs : List (PySem.Str × PV))
  | dmx (ks vs : List PV)
  | adr (a : Addr)
  | tbl | clo (f c : Addr) (q : PySem.Str) (vs : List V) (xs : List PV)
structure Gd where
  fn : Nat → Addr
  cls : Nat → Addr
  tb : Nat → Addr
def keyOf : PV → Option Key
  | .int i => some (.inl i)
  | .str s => some (.inr s)
  | _ => none
def xob (a : Addr) (cls : Value) (d : Option Addr) : HO := .ext fun h => ∃ (o : Obj) (vs : Array Value), h.get? a = some o ∧ o.cls = cls ∧ o.dict = d ∧ o.data = .fields vs
def TupAt : TF → Hp → Addr → List V → Prop
  | .p, F, a, vs => F a = some (.tup vs)
  | .x, F, a, vs => ∃ o : Obj, o.dict = none ∧ F a = some (.frz o (.tup vs))
  | .a, F, a, vs => F a = some (.tup vs) ∨ ∃ o : Obj, o.dict = none ∧ F a = some (.frz o (.tup vs))
abbrev NK := List Int × List Int
def thash (l : List Int) : Int := reduceHash (Builtin.Tuple.tupleHashOf (l.map hashInt))
def nhash (k : NK) : Int := reduceHash (Builtin.Tuple.tupleHashOf [thash k.1, thash k.2])
def entN (x : NK × Addr × Value) : DictEntry := ⟨nhash x.1, .ref x.2.1, x.2.2⟩
def RelN (p : NK × Addr × V) (q : NK × Addr × Value) : Prop := p.1 = q.1 ∧ p.2.1 = q.2.1 ∧ RelV p.2.2 q.2.2
def dnO (a : Addr) (ks : List (NK × Addr × V)) : HO := .ext fun h => (a == sysModules) = false ∧ ks.length ≤ sizeLine ∧ ∃ xs : List (NK × Addr × Value), Paired RelN ks xs ∧
  ∃ o es ep, h.get? a = some o ∧ o.ExactDict ∧ o.data = .dict es ep ∧ es.toList = xs.map entN ∧ (xs.map (·.1)).Nodup
def NKAt (F : Hp) (b : Addr) (k : NK) : Prop := ∃ b1 b2, TupAt .a F b [.ref b1, .ref b2] ∧ TupAt .a F b1 (k.1.map V.int) ∧ TupAt .a F b2 (k.2.map V.int)
def dmO (a : Addr) (ks vs : List V) : HO := .ext fun h => (a == sysModules) = false ∧ ks.length ≤ sizeLine ∧ ∃ o es ep, h.get? a = some o ∧ o.ExactDict ∧ o.data = .dict es ep ∧ Vals ks (es.toList.map (·.key)) ∧ Vals vs (es.toList.map (·.val))
mutual
inductive Rep (G : Gd) (F : Hp) : PV → V → Prop
  | non : Rep G F .non .non
  | bl (b : Bool) : Rep G F (.bl b) (.bl b)
  | int (i : Int) : Rep G F (.int i) (.int i)
  | str (x : PySem.Str) : Rep G F (.str x) (.str x)
  | ty (n : String) : Rep G F (.ty n) (.ty n)
  | fn (n : Nat) : Rep G F (.fn n) (.ref (G.fn n))
  | lst {a : Addr} {xs : List PV} {vs : List V} : F a = some (.lst vs) → RepL G F xs vs → Rep G F (.lst xs) (.ref a)
  | tup {k : TF} {a : Addr} {xs : List PV} {vs : List V} : TupAt k F a vs → RepL G F xs vs → Rep G F (.tup k xs) (.ref a)
  | dtp {a : Addr} {kvs : List (List Key × PV)} {hs : List (List Key × V)} : Rd F a (.dT hs) → RepT G F kvs hs → Rep G F (.dtp kvs) (.ref a)
  | dtn {a : Addr} {o : Obj} {kvs : List (NK × PV)} {ks : List (NK × Addr × V)} : F a = some (.frz o (dnO a ks)) → RepN G F kvs ks → Rep G F (.dtn kvs) (.ref a)
  | dmx {a : Addr} {o : Obj} {ks vs : List PV} {hs us : List V} : F a = some (.frz o (dmO a hs us)) → RepL G F ks hs → RepL G F vs us → Rep G F (.dmx ks vs) (.ref a)
  | dct {a : Addr} {kvs : List (PV × PV)} {hs : List (Key × V)} : Rd F a (.dK hs) → RepK G F kvs hs → Rep G F (.dct kvs) (.ref a)
  | obj {a dx : Addr} {c : Nat} {fs : List (PySem.Str × PV)} {hs : List (PySem.Str × V)} : F a = some (.ins (G.cls c) dx hs) → RepF G F fs hs → Rep G F (.obj c fs) (.ref a)
  | scr {a : Addr} {o : Obj} {ns : List Int} : F a = some (.frz o (.lst (ns.map V.int))) → Rep G F (.scr ns) (.ref a)
  | xo {a d : Addr} {c : Nat} {fs : List (PySem.Str × PV)} {hs : List (PySem.Str × V)} : F a = some (xob a (.ref (G.cls c)) (some d)) → F d = some (.xd hs) → RepF G F fs hs → Rep G F (.xo c fs) (.ref a)
  | xo0 {a : Addr} {c : Nat} : F a = some (xob a (.ref (G.cls c)) none) → Rep G F (.xo c []) (.ref a)
  | tbl (a : Addr) : Rep G F .tbl (.ref a)
  | adr (a : Addr) : Rep G F (.adr a) (.ref a)
  | clo {f c : Addr} {q : PySem.Str} {vs : List V} {xs : List PV} : F c = some (LamX.CodeO c q) → RepL G F xs vs → Rep G F (.clo f c q vs xs) (.ref f)
inductive RepL (G : Gd) (F : Hp) : List PV → List V → Prop
  | nil : RepL G F [] []
  | cons {p : PV} {ps : List PV} {v : V} {vs : List V} : Rep G F p v → RepL G F ps vs → RepL G F (p :: ps) (v :: vs)
inductive RepK (G : Gd) (F : Hp) : List (PV × PV) → List (Key × V) → Prop
  | nil : RepK G F [] []
  | cons {k p : PV} {key : Key} {v : V} {ps : List (PV × PV)} {vs : List (Key × V)} : keyOf k = some key → Rep G F p v → RepK G F ps vs → RepK G F ((k, p) :: ps) ((key, v) :: vs)
inductive RepT (G : Gd) (F : Hp) : List (List Key × PV) → List (List Key × V) → Prop
  | nil : RepT G F [] []
  | cons {key : List Key} {p : PV} {v : V} {ps : List (List Key × PV)} {vs : List (List Key × V)} : Rep G F p v → RepT G F ps vs → RepT G F ((key, p) :: ps) ((key, v) :: vs)
inductive RepN (G : Gd) (F : Hp) : List (NK × PV) → List (NK × Addr × V) → Prop
  | nil : RepN G F [] []
  | cons {k : NK} {b : Addr} {p : PV} {v : V} {ps : List (NK × PV)} {vs : List (NK × Addr × V)} : NKAt F b k → Rep G F p v → RepN G F ps vs → RepN G F ((k, p) :: ps) ((k, b, v) :: vs)
inductive RepF (G : Gd) (F : Hp) : List (PySem.Str × PV) → List (PySem.Str × V) → Prop
  | nil : RepF G F [] []
  | cons {f : PySem.Str} {p : PV} {v : V} {ps : List (PySem.Str × PV)} {vs : List (PySem.Str × V)} : Rep G F p v → RepF G F ps vs → RepF G F ((f, p) :: ps) ((f, v) :: vs)
end
section
variable {G : Gd} {F F' : Hp}
theorem RepL.length : ∀ {p : List PV} {v : List V}, RepL G F p v → p.length = v.length
  | _, _, .nil => rfl
  | _, _, .cons _ l => congrArg (· + 1) l.length
theorem RepF.lookup : ∀ {fs : List (PySem.Str × PV)} {hs : List (PySem.Str × V)} {f : PySem.Str}, RepF G F fs hs →
    (∀ p, fs.lookup f = some p → ∃ v, hs.lookup f = some v ∧ Rep G F p v) ∧ (fs.lookup f = none → hs.lookup f = none)
  | _, _, _, .nil => ⟨(fun _ h => by cases h), (fun _ => rfl)⟩
  | _, _, f, .cons (f := g) r l => by
    have ih := RepF.lookup (f := f) l
    constructor
    · intro p h
      rw [List.lookup_cons] at h ⊢
      cases e : f == g with
      | true => rw [e] at h; simp at h; subst h; exact ⟨_, rfl, r⟩
      | false => rw [e] at h; simp only at h ⊢; exact ih.1 p h
    · intro h
      rw [List.lookup_cons] at h ⊢
      cases e : f == g with
      | true => rw [e] at h; simp at h
      | false => rw [e] at h; simp only at h ⊢; exact ih.2 h
end
inductive MC where
  | lst (xs : List PV) | dct (kvs : List (PV × PV)) | dtp (kvs : List (List Key × PV)) | obj (c : Nat) (fs : List (PySem.Str × PV)) | tbl (k : Nat) (q : PySem.Str)
  | dtn (kvs : List (NK × PV))
  | lsA (a : Addr) (xs : List PV)
def MC.pv : MC → PV
  | .lst xs => .lst xs
  | .dct kvs => .dct kvs
  | .dtp kvs => .dtp kvs
  | .obj c fs => .obj c fs
  | .tbl _ _ => .tbl
  | .lsA a _ => .adr a
  | .dtn _ => .tbl
inductive SL where
  | t (p : PV) | m (c : MC) | i (n : Nat)
structure ST where
  loc : List (Option SL)
  inh : List MC
inductive PL where
  | sl (j : Nat) | ih (n : Nat)
  deriving DecidableEq
inductive SV where
  | t (p : PV) | pl (q : PL)
structure Wd where
  F : Hp
  A : List Addr
def tabO (a : Addr) (ps : Array Value) : HO := .ext fun h => h.get? a = some { cls := .none, data := .fields ps }
def RepM (G : Gd) (F H : Hp) : MC → Addr → Prop
  | .lst xs, a => ∃ vs, H a = some (.lst vs) ∧ RepL G F xs vs
  | .lsA b xs, a => a = b ∧ ∃ vs, H a = some (.lst vs) ∧ RepL G F xs vs
  | .dct kvs, a => ∃ hs, H a = some (.dK hs) ∧ RepK G F kvs hs
  | .dtp kvs, a => ∃ hs, H a = some (.dT hs) ∧ RepT G F kvs hs
  | .dtn kvs, a => ∃ ks, H a = some (dnO a ks) ∧ RepN G F kvs ks
  | .obj c fs, a => ∃ dx hs, H a = some (.ins (G.cls c) dx hs) ∧ RepF G F fs hs
  | .tbl k q, a => a = G.tb k ∧ ∃ ps : Array Value, H a = some (tabO a ps) ∧ TriplesOk ps.toList ∧ ∀ (pos : Pos) (cv : Value), codeAmong pos ps.toList = some cv → ∃ c, cv = .ref c ∧ F c = some (LamX.CodeO c q)
def RepMs (G : Gd) (F H : Hp) : List MC → List Addr → Prop
  | [], [] => True
  | c :: cs, a :: as => RepM G F H c a ∧ RepMs G F H cs as
  | _, _ => False
def RepSl (G : Gd) (W : Wd) (H : Hp) : SL → V → Prop
  | .t p, v => Rep G W.F p v
  | .m c, v => ∃ a, v = .ref a ∧ RepM G W.F H c a
  | .i n, v => ∃ a, v = .ref a ∧ W.A[n]? = some a
def RepLoc (G : Gd) (W : Wd) (H : Hp) : List (Option SL) → Sg → Prop
  | [], [] => True
  | none :: ls, _ :: vs => RepLoc G W H ls vs
  | some l :: ls, some v :: vs => RepSl G W H l v ∧ RepLoc G W H ls vs
  | _, _ => False
def owned : List (Option SL) → Sg → List Addr
  | some (.m _) :: ls, some (.ref a) :: vs => a :: owned ls vs
  | _ :: ls, _ :: vs => owned ls vs
  | _, _ => []
def own (W : Wd) (st : ST) (σ : Sg) : List Addr := owned st.loc σ ++ W.A
structure R (G : Gd) (W : Wd) (st : ST) (σ : Sg) (H : Hp) : Prop where
  le : Same W.F H
  inh : RepMs G W.F H st.inh W.A
  loc : RepLoc G W H st.loc σ
  nd : (own W st σ).Nodup
  fr : ∀ a ∈ own W st σ, W.F a = none
end Cl
set_option maxHeartbeats 4000000
namespace Cl
open PySem PySem.Spec PyProof.Rows L2
section
variable {G : Gd} {W : Wd} {st : ST} {σ : Sg} {H H' F' : Hp}
theorem RepMs.length {F : Hp} : ∀ {cs : List MC} {as : List Addr}, RepMs G F H cs as → cs.length = as.length
  | [], [], _ => rfl
  | c :: cs, a :: as, ⟨_, l⟩ => congrArg (· + 1) (RepMs.length l)
  | [], _ :: _, h => h.elim
  | _ :: _, [], h => h.elim
theorem RepLoc.length : ∀ {ls : List (Option SL)} {vs : Sg}, RepLoc G W H ls vs → ls.length = vs.length
  | [], [], _ => rfl
  | none :: ls, v :: vs, r => congrArg (· + 1) (RepLoc.length (ls := ls) r)
  | some l :: ls, some v :: vs, ⟨_, q⟩ => congrArg (· + 1) (RepLoc.length q)
  | [], _ :: _, h => h.elim
  | some _ :: _, [], h => h.elim
  | none :: _, [], h => h.elim
  | some _ :: _, none :: _, h => h.elim
end
def view (st : ST) : SV → Option PV
  | .t p => some p
  | .pl (.sl j) => match st.loc[j]? with
    | some (some (.m c)) => some c.pv
    | _ => none
  | .pl (.ih n) => match st.inh[n]? with
    | some c => some c.pv
    | none => none
end Cl
set_option maxHeartbeats 4000000
set_option maxHeartbeats 4000000
set_option maxHeartbeats 4000000
set_option maxHeartbeats 4000000
set_option maxHeartbeats 4000000
set_option maxHeartbeats 4000000
set_option maxHeartbeats 4000000
set_option maxHeartbeats 4000000
set_option maxHeartbeats 4000000
set_option maxHeartbeats 4000000
set_option maxHeartbeats 4000000
set_option maxHeartbeats 4000000
set_option maxHeartbeats 4000000
namespace Cl
open PySem PySem.Spec PyProof.Rows L2 StX ClX
inductive FV where
  | t (p : PV) | n (c : MC)
def newA : List FV → List V → List Addr
  | .n _ :: fs, .ref a :: vs => a :: newA fs vs
  | _ :: fs, _ :: vs => newA fs vs
  | _, _ => []
def RepFs (G : Gd) (W : Wd) (o : List Addr) (H : Hp) : List FV → List V → Prop
  | [], [] => True
  | .t p :: fs, v :: vs => Rep G W.F p v ∧ RepFs G W o H fs vs
  | .n c :: fs, v :: vs => (∃ a, v = .ref a ∧ RepM G W.F H c a ∧ a ∉ o ∧ W.F a = none ∧ a ∉ newA fs vs) ∧ RepFs G W o H fs vs
  | _, _ => False
section
theorem RepFs.length {W : Wd} {o : List Addr} {H : Hp} : ∀ {fs : List FV} {vs : List V}, RepFs G W o H fs vs → fs.length = vs.length
  | [], [], _ => rfl
  | .t p :: fs, v :: vs, ⟨_, l⟩ => congrArg (· + 1) l.length
  | .n c :: fs, _ :: vs, ⟨_, l⟩ => congrArg (· + 1) l.length
  | [], _ :: _, h => h.elim
  | .t _ :: _, [], h => h.elim
  | .n _ :: _, [], h => h.elim
end
end Cl
set_option maxHeartbeats 4000000
set_option maxHeartbeats 4000000
set_option maxHeartbeats 4000000
namespace Cl
open PySem PySem.Spec PyProof.Rows L2
inductive TK where
  | ty (n : String) | cl (c : Nat)
  deriving DecidableEq
inductive CK where
  | ty (n : String) | fn (n : Nat)
  deriving DecidableEq
def TK.val (G : Gd) : TK → Value
  | .ty n => .type n
  | .cl c => .ref (G.cls c)
def CK.val (G : Gd) : CK → Value
  | .ty n => .type n
  | .fn n => .ref (G.fn n)
end Cl
set_option maxHeartbeats 4000000
set_option maxHeartbeats 4000000
namespace Cl
open PySem PySem.Spec PyProof.Rows L2 StX ClX
section
theorem RepF.length {F : Hp} : ∀ {fs : List (PySem.Str × PV)} {hs : List (PySem.Str × V)}, RepF G F fs hs → fs.length = hs.length
  | _, _, .nil => rfl
  | _, _, .cons _ l => congrArg (· + 1) l.length
end
end Cl
set_option maxHeartbeats 4000000
set_option maxHeartbeats 4000000
set_option maxHeartbeats 4000000
set_option maxHeartbeats 4000000
set_option maxHeartbeats 4000000
namespace Cl
open PySem PySem.Spec PyProof.Rows L2 StX ClX
inductive At where
  | g (x : PySem.Str) | m (c x : PySem.Str) | sm (c x : PySem.Str) | cm (c x : PySem.Str) | pr (c x : PySem.Str) | ps (c x : PySem.Str) | su (c x : PySem.Str)
def At.sup : At → Bool
  | .su _ _ => true
  | _ => false
def recA (K : PySem.W.Frag) (T : String) (p : Addr) : Addr := match PySem.W.recIn K p T with
  | some (.ref g :: _) => g
  | _ => 0
def prA (K : PySem.W.Frag) (p : Addr) : Addr := match K.lookup p with
  | some ⟨_, _, .fields vs, _⟩ => (match vs.toList.head? with
    | some (.ref g) => g
    | _ => 0)
  | _ => 0
def psA (K : PySem.W.Frag) (p : Addr) : Addr := match K.lookup p with
  | some ⟨_, _, .fields vs, _⟩ => (match vs.toList.tail.head? with
    | some (.ref g) => g
    | _ => 0)
  | _ => 0
def At.ad (K : PySem.W.Frag) : At → Addr
  | .g x => He.ga K x
  | .m c x => He.ma K (He.ga K c) x
  | .sm c x => recA K "staticmethod" (He.ma K (He.ga K c) x)
  | .cm c x => recA K "classmethod" (He.ma K (He.ga K c) x)
  | .pr c x => prA K (He.ma K (He.ga K c) x)
  | .ps c x => psA K (He.ma K (He.ga K c) x)
  | .su c x => He.ma K (He.ga K c) x
def fnWA (K : PySem.W.Frag) (a : Addr) : He.FnW := match K.lookup a with
  | some ⟨_, _, .func fd, _⟩ => some (fd.name, fd.qualname, fd.params, fd.body, fd.scope, fd.globals, fd.closure.filter (fun c => c.1 != ("__class__" : PySem.Str)), fd.builtins)
  | _ => none
structure DefC where
  at_ : At
  name : PySem.Str
  qual : PySem.Str
  params : Arguments
  body : List Stmt
  scope : Scope
  dfl : List He.Dv := []
  kwd : List (PySem.Str × He.Dv) := []
def DefC.val (d : DefC) : He.FnW := some (d.name, d.qual, d.params, .stmts d.body, d.scope, mainGlobals, [], builtinsNs)
def DefC.dvs (K : PySem.W.Frag) (d : DefC) : List V := d.dfl.map (He.Dv.v K)
def DefC.kws (K : PySem.W.Frag) (d : DefC) : List (PySem.Str × V) := d.kwd.map fun q => (q.1, q.2.v K)
def DefC.ok (K : PySem.W.Frag) (d : DefC) : Bool := PySem.W.keepIn K (.ref (d.at_.ad K)) && (match K.lookup (d.at_.ad K) with
  | some ⟨_, _, .func fd, _⟩ => (fd.closure.isEmpty == !d.at_.sup) && (PySem.W.codeIn K fd.code d.qual && (He.dflB K fd.defaults (d.dvs K) && He.kwdB K fd.kwdefaults (d.kws K)))
  | _ => false)
abbrev FaC := PySem.W.Frag → Bool
def obsC (fa : List FaC) (fn : List DefC) (K : PySem.W.Frag) : He.AlD := ((fa.all fun f => f K) && fn.all fun d => d.ok K, fn.map fun d => fnWA K (d.at_.ad K))
def valC (fn : List DefC) : He.AlD := (true, fn.map DefC.val)
def SaysC (fa : List FaC) (fn : List DefC) (K : PySem.W.Frag) : Prop := obsC fa fn K = valC fn
def obsCG (n : Nat) (fa : List FaC) (fn : List DefC) (g : Addr → Option Obj) : He.AlD := obsC fa fn (He.frG g (cStatics :: He.asD g n))
def hookC (n : Nat) (fa : List FaC) (fn : List DefC) : PySem.W.Hook where
  α := He.AlD
  obs := fun s => obsCG n fa fn s.heap.get?
  val := fun _ => valC fn
  says := fun _ h => ∃ K : PySem.W.Frag, K.In h ∧ SaysC fa fn K
  of := fun _ _ e => ⟨_, He.frG_in, e⟩
  keeps := fun _ _ _ ⟨K, hK, c⟩ k => ⟨K, PySem.W.Frag.In.keeps hK k, c⟩
def faHe (f : He.Fa) : FaC := fun K => f.ok K
def faNoList : FaC := fun K => K.all fun p => !(p.2.cls == .type "list")
def faRead (x : PySem.Str) : FaC := fun K => PySem.W.readsIn K (He.ga K x) (.type "type") && He.eqO (PySem.W.specialIn K (.ref (He.ga K x)) "__getattribute__") (some (some (.builtin "type.__getattribute__")))
end Cl
set_option maxHeartbeats 4000000
set_option maxHeartbeats 4000000
set_option maxHeartbeats 4000000
set_option maxHeartbeats 4000000
namespace Cl
open PySem PySem.Spec PyProof.Rows L2
def rg (n : Nat) : List Int := (List.range n).map fun (i : Nat) => (i : Int)
theorem rg_length {n : Nat} : (rg n).length = n := by simp [rg]
end Cl
set_option maxHeartbeats 4000000
set_option maxHeartbeats 4000000
set_option maxHeartbeats 4000000
set_option maxHeartbeats 4000000
set_option maxHeartbeats 4000000
namespace Cl
open PySem PySem.Spec PyProof.Rows L2
structure GS where
  G : Gd
  P : Program
  w : World
  K : PySem.W.Frag
  mg : PySem.Str → Option Value
  base : Heap
  k : Nat
  N : List PySem.Str
  qual : PySem.Str
  scope : Scope
  f : Addr
  cd : Value
  outer : List Env
  L : Addr
  g : Nat
end Cl
set_option maxHeartbeats 4000000
set_option maxHeartbeats 4000000
set_option maxHeartbeats 4000000
namespace Cl
open PySem PySem.Spec PyProof.Rows L2
structure Doze where
  Z : GS
  a : Addr
  go : Obj
  oL : Obj
  hold : List (Addr × Obj)
  gk : List (Nat × GenState)
  gs : GenState
  st : ST
  σ : Sg
  F : Hp
abbrev Doze.own (D : Doze) : List Addr := Cl.own ⟨D.F, []⟩ D.st D.σ
end Cl
set_option maxHeartbeats 4000000
set_option maxHeartbeats 4000000
set_option maxHeartbeats 4000000
set_option maxHeartbeats 4000000
set_option maxHeartbeats 4000000
set_option maxHeartbeats 4000000
set_option maxHeartbeats 4000000
namespace Cl
open PySem PySem.Spec PyProof.Rows L2 StX ClX
section
theorem RepK.length {F : Hp} : ∀ {kvs : List (PV × PV)} {hs : List (Key × V)}, RepK G F kvs hs → kvs.length = hs.length
  | _, _, .nil => rfl
  | _, _, .cons _ _ l => congrArg (· + 1) l.length
end
end Cl
set_option maxHeartbeats 4000000
set_option maxHeartbeats 4000000
set_option maxHeartbeats 4000000
set_option maxHeartbeats 4000000
set_option maxHeartbeats 4000000
set_option maxHeartbeats 4000000
set_option maxHeartbeats 4000000
namespace Cl
open PySem PySem.Spec PyProof.Rows L2 StX ClX
def oexB (K : PySem.W.Frag) (C : Addr) : Bool := (match K.lookup C with
  | some ⟨.type "type", _, .cls cd, sl⟩ => (match cd.mro, sl.toList with
    | .ref C' :: bm, [_, _, _, _, some (.builtin n), _] => decide (C' = C) && (decide (n = "ValueError.__new__") && (!cd.hasDel && (cd.hasDict && PySem.HandSPX.refsVE bm)))
    | _, _ => false)
  | _ => false) && (He.eqO (PySem.W.findIn K (.ref C) "__setattr__") (some (some (.builtin "object.__setattr__"))) && (decide (PySem.W.subIn K (.ref C) (.type "BaseException") = some true) && (decide (PySem.W.typeIn K (.ref C) = some (.type "type")) && PySem.W.keepIn K (.ref C))))
def faOex (x f : PySem.Str) : FaC := fun K => oexB K (He.ga K x) && (xfB K (He.ga K x) && (He.eqO (PySem.W.findIn K (.ref (He.ga K x)) "__init__") (some (some (.ref (He.ma K (He.ga K x) "__init__")))) &&
  (decide (PySem.W.typeIn K (.ref (He.ma K (He.ga K x) "__init__")) = some (.type "function")) && He.eqO (PySem.W.findIn K (.ref (He.ga K x)) f) (some none))))
def faEin (x : PySem.Str) (id : String) : FaC := fun K => faRead x K && (match PySem.W.findCls K (.ref (He.ga K x)) (.type "type") "__init__" with
  | some (.val (.builtin n)) => decide (n = id)
  | _ => false)
end Cl
set_option maxHeartbeats 4000000
namespace Std
open Cl PySem PySem.Spec PyProof.Rows L2
def IsRk (m : Nat) (r : List Int) : Prop := r.Perm (rg m)
theorem IsRk.length {m : Nat} {r : List Int} (h : IsRk m r) : r.length = m := by have := h.length_eq; rwa [rg_length] at this
end Std
set_option maxHeartbeats 4000000
set_option maxHeartbeats 4000000
set_option maxHeartbeats 4000000
set_option maxHeartbeats 4000000
set_option maxHeartbeats 4000000
set_option maxHeartbeats 4000000
set_option maxHeartbeats 4000000
set_option maxHeartbeats 4000000
set_option maxHeartbeats 4000000
set_option maxHeartbeats 4000000
set_option maxHeartbeats 4000000
set_option maxHeartbeats 4000000
set_option maxHeartbeats 4000000
set_option maxHeartbeats 4000000
set_option maxHeartbeats 4000000
set_option maxHeartbeats 4000000
set_option maxHeartbeats 4000000
set_option maxHeartbeats 4000000
set_option maxHeartbeats 4000000
set_option maxHeartbeats 4000000
set_option maxHeartbeats 4000000
namespace Cl
open PySem PySem.Spec PyProof.Rows L2 StX ClX
def faExc (x : PySem.Str) : FaC := fun K => He.eqO (PySem.W.findIn K (.ref (He.ga K x)) "__getattribute__") (some (some (.builtin "BaseException.__getattribute__"))) && (He.eqO (PySem.W.findIn K (.ref (He.ga K x)) "__getattr__") (some none) &&
  (decide (PySem.W.subIn K (.ref (He.ga K x)) (.type "BaseException") = some true) && (PySem.W.hasDictIn K (He.ga K x) && (He.eqO (PySem.W.findIn K (.ref (He.ga K x)) "__class__") (some (some (.builtin "object.__class__"))) &&
  (He.eqO (PySem.W.specialIn K (.builtin "object.__class__") "__get__") (some (some (.builtin "getset_descriptor.__get__"))) && (decide (PySem.W.takesIn K (.builtin "object.__class__") = some true) && decide (PySem.W.mroIn K (He.ga K x) (.type "object") = some true)))))))
def faKit (x y : PySem.Str) (b : Bool) : FaC := fun K => decide (PySem.W.kitOne K (.ref (He.ga K x)) (.ref (He.ga K y)) = some b)
def faKitT (x : PySem.Str) (y : String) (b : Bool) : FaC := fun K => decide (PySem.W.kitOne K (.ref (He.ga K x)) (.type y) = some b)
end Cl
set_option maxHeartbeats 4000000
set_option maxHeartbeats 4000000
set_option maxHeartbeats 4000000
set_option maxHeartbeats 4000000
set_option maxHeartbeats 4000000
namespace Cl
open PySem PySem.Spec PyProof.Rows L2 StX ClX
section
variable {G : Gd}
theorem RepT.length {F : Hp} : ∀ {kvs : List (List Key × PV)} {hs : List (List Key × V)}, RepT G F kvs hs → kvs.length = hs.length
  | _, _, .nil => rfl
  | _, _, .cons _ l => congrArg (· + 1) l.length
end
end Cl
set_option maxHeartbeats 4000000
set_option maxHeartbeats 4000000
set_option maxHeartbeats 4000000
set_option maxHeartbeats 4000000
set_option maxHeartbeats 4000000
set_option maxHeartbeats 1000000
set_option maxHeartbeats 1000000
set_option maxHeartbeats 1000000
set_option maxHeartbeats 4000000
set_option maxHeartbeats 4000000
set_option maxHeartbeats 4000000
set_option maxHeartbeats 4000000
set_option maxHeartbeats 4000000
set_option maxHeartbeats 4000000
set_option maxHeartbeats 4000000
set_option maxHeartbeats 4000000
set_option maxHeartbeats 4000000
set_option maxHeartbeats 4000000
set_option maxHeartbeats 4000000
set_option maxHeartbeats 4000000
set_option maxHeartbeats 4000000
set_option maxHeartbeats 4000000
set_option maxHeartbeats 4000000
set_option maxHeartbeats 4000000
set_option maxHeartbeats 4000000
set_option maxHeartbeats 4000000
set_option maxHeartbeats 4000000
set_option maxHeartbeats 4000000
set_option maxHeartbeats 4000000
set_option maxHeartbeats 4000000
set_option maxHeartbeats 4000000
set_option maxHeartbeats 4000000
set_option maxHeartbeats 4000000
set_option maxHeartbeats 4000000
set_option maxHeartbeats 4000000
set_option maxHeartbeats 4000000
namespace Cl
open PySem PySem.Spec PyProof.Rows L2 StX ClX
def oexgB (K : PySem.W.Frag) (C : Addr) (newId : String) (tl : List Value) : Bool := (match K.lookup C with
  | some ⟨.type "type", _, .cls cd, sl⟩ => (match cd.mro, sl.toList with
    | .ref C' :: bm, [_, _, _, _, some (.builtin n), _] => decide (C' = C) && (decide (n = newId) && (!cd.hasDel && (cd.hasDict && (bm == tl))))
    | _, _ => false)
  | _ => false) && (He.eqO (PySem.W.findIn K (.ref C) "__setattr__") (some (some (.builtin "object.__setattr__"))) && (decide (PySem.W.subIn K (.ref C) (.type "BaseException") = some true) && (decide (PySem.W.typeIn K (.ref C) = some (.type "type")) && PySem.W.keepIn K (.ref C))))
def faOexG (x f : PySem.Str) (newId : String) (tl : List Value) : FaC := fun K => oexgB K (He.ga K x) newId tl && (xfB K (He.ga K x) && (He.eqO (PySem.W.findIn K (.ref (He.ga K x)) "__init__") (some (some (.ref (He.ma K (He.ga K x) "__init__")))) &&
  (decide (PySem.W.typeIn K (.ref (He.ma K (He.ga K x) "__init__")) = some (.type "function")) && He.eqO (PySem.W.findIn K (.ref (He.ga K x)) f) (some none))))
def faBin (B id : String) : FaC := fun K => match PySem.W.findCls K (.type B) (.type "type") "__init__" with
  | some (.val (.builtin n)) => decide (n = id)
  | _ => false
end Cl
set_option maxHeartbeats 4000000
set_option maxHeartbeats 1000000
set_option maxHeartbeats 4000000
set_option maxHeartbeats 4000000
set_option maxHeartbeats 4000000
set_option maxHeartbeats 4000000
set_option maxHeartbeats 4000000
set_option maxHeartbeats 4000000
set_option maxHeartbeats 4000000
set_option maxHeartbeats 4000000
namespace Cl
open PySem PySem.Spec PyProof.Rows L2 StX ClX
def faOexN (x : PySem.Str) (newId : String) (tl : List Value) : FaC := fun K => oexgB K (He.ga K x) newId tl && (xfB K (He.ga K x) && (He.eqO (PySem.W.findIn K (.ref (He.ga K x)) "__init__") (some (some (.ref (He.ma K (He.ga K x) "__init__")))) &&
  decide (PySem.W.typeIn K (.ref (He.ma K (He.ga K x) "__init__")) = some (.type "function"))))
end Cl
set_option maxHeartbeats 4000000
set_option maxHeartbeats 4000000
set_option maxHeartbeats 4000000
set_option maxHeartbeats 4000000
set_option maxHeartbeats 4000000
set_option maxHeartbeats 4000000
set_option maxHeartbeats 4000000
set_option maxHeartbeats 4000000
set_option maxHeartbeats 4000000
set_option maxHeartbeats 4000000
set_option maxHeartbeats 4000000
set_option maxHeartbeats 4000000
set_option maxHeartbeats 4000000
set_option maxHeartbeats 4000000
set_option maxHeartbeats 4000000
set_option maxHeartbeats 4000000
set_option maxHeartbeats 1000000
set_option maxHeartbeats 1000000
namespace Cl
open PySem PySem.Spec PyProof.Rows L2 StX ClX
section
variable {G : Gd} {F H : Hp}
theorem RepN.length : ∀ {kvs : List (NK × PV)} {ks : List (NK × Addr × V)}, RepN G F kvs ks → kvs.length = ks.length
  | _, _, .nil => rfl
  | _, _, .cons _ _ t => congrArg (· + 1) t.length
end
end Cl
set_option maxHeartbeats 1000000
set_option maxHeartbeats 1000000
set_option maxHeartbeats 1000000
set_option maxHeartbeats 1000000
set_option maxHeartbeats 1000000
set_option maxHeartbeats 4000000
set_option maxHeartbeats 4000000
set_option maxHeartbeats 4000000
set_option maxHeartbeats 4000000
set_option maxHeartbeats 4000000
set_option maxHeartbeats 4000000
namespace Cl
open PySem PySem.Spec PyProof.Rows L2 StX ClX
structure OD where
  Z : GS
  a : Addr
  go : Obj
  oL : Obj
  inn : Option Doze
  gs : GenState
  st : ST
  σ : Sg
  F : Hp
def inOwn : Option Doze → List Addr
  | none => []
  | some D => D.own
abbrev OD.own (O : OD) : List Addr := Cl.own ⟨O.F, []⟩ O.st O.σ ++ inOwn O.inn
end Cl
set_option maxHeartbeats 4000000
set_option maxHeartbeats 4000000
set_option maxHeartbeats 4000000
set_option maxHeartbeats 4000000
set_option maxHeartbeats 4000000
set_option maxHeartbeats 4000000
set_option maxHeartbeats 4000000
set_option maxHeartbeats 4000000
set_option maxHeartbeats 4000000
set_option maxHeartbeats 4000000
set_option maxHeartbeats 4000000
set_option maxHeartbeats 4000000
set_option maxHeartbeats 4000000
set_option maxHeartbeats 4000000
set_option maxHeartbeats 4000000
set_option maxHeartbeats 4000000
set_option maxHeartbeats 4000000
set_option maxHeartbeats 4000000
set_option maxHeartbeats 4000000
set_option maxHeartbeats 4000000
set_option maxHeartbeats 4000000
set_option maxHeartbeats 4000000
set_option maxHeartbeats 4000000
set_option maxHeartbeats 4000000
set_option maxHeartbeats 4000000
set_option maxHeartbeats 4000000
set_option maxHeartbeats 4000000
set_option maxHeartbeats 4000000
set_option maxHeartbeats 4000000
set_option maxHeartbeats 4000000
set_option maxHeartbeats 4000000
set_option maxHeartbeats 4000000
set_option maxHeartbeats 4000000
set_option maxHeartbeats 4000000
set_option maxHeartbeats 4000000
set_option maxHeartbeats 4000000
set_option maxHeartbeats 4000000
set_option maxHeartbeats 4000000
set_option maxHeartbeats 4000000
namespace K04
open Std Cl PySem PySem.Spec PyProof.Rows L2 StX ClX
def top (i : Nat) : Stmt := PySem.Challenge.pw_vetoturns_k04_error_classes.main.body.getD i (.Pass ⟨0, 0, 0, 0⟩)
abbrev s_law_errors : Stmt := top 18
abbrev s_law_kinds : Stmt := top 20
abbrev s_law_bases : Stmt := top 21
abbrev s_law_named : Stmt := top 19
abbrev s_law : Stmt := top 22
abbrev s_InvalidRanking_init : Stmt := inClass (top 2) 0
abbrev s_InvalidPlayer_init : Stmt := inClass (top 3) 0
abbrev s_InvalidAlternative_init : Stmt := inClass (top 4) 0
abbrev s_InvalidTurns_init : Stmt := inClass (top 5) 0
abbrev s_InvalidCounts_init : Stmt := inClass (top 6) 0
abbrev s_InvalidLeft_init : Stmt := inClass (top 7) 0
abbrev s_InvalidGroups_init : Stmt := inClass (top 8) 0
abbrev s_InvalidPosition_init : Stmt := inClass (top 9) 0
abbrev s_InvalidName_init : Stmt := inClass (top 10) 0
abbrev s_InvalidCommand_init : Stmt := inClass (top 11) 0
abbrev s_ParseError_init : Stmt := inClass (top 12) 0
abbrev s_LimitExceeded_init : Stmt := inClass (top 13) 0
abbrev s_PlayEnded_init : Stmt := inClass (top 14) 0
abbrev s_NothingToUndo_init : Stmt := inClass (top 15) 0
abbrev s_NoPlay_init : Stmt := inClass (top 16) 0
def fns : List DefC := [
  ⟨.g "_law_errors", "_law_errors", "_law_errors", defArgs s_law_errors, defBody s_law_errors, defScope s_law_errors, [], []⟩,
  ⟨.g "_law_kinds", "_law_kinds", "_law_kinds", defArgs s_law_kinds, defBody s_law_kinds, defScope s_law_kinds, [], []⟩,
  ⟨.g "_law_bases", "_law_bases", "_law_bases", defArgs s_law_bases, defBody s_law_bases, defScope s_law_bases, [], []⟩,
  ⟨.g "_law_named", "_law_named", "_law_named", defArgs s_law_named, defBody s_law_named, defScope s_law_named, [], []⟩,
  ⟨.g "law", "law", "law", defArgs s_law, defBody s_law, defScope s_law, [], []⟩,
  ⟨.m "InvalidRanking" "__init__", "__init__", "InvalidRanking.__init__", defArgs s_InvalidRanking_init, defBody s_InvalidRanking_init, defScope s_InvalidRanking_init, [], []⟩,
  ⟨.m "InvalidPlayer" "__init__", "__init__", "InvalidPlayer.__init__", defArgs s_InvalidPlayer_init, defBody s_InvalidPlayer_init, defScope s_InvalidPlayer_init, [], []⟩,
  ⟨.m "InvalidAlternative" "__init__", "__init__", "InvalidAlternative.__init__", defArgs s_InvalidAlternative_init, defBody s_InvalidAlternative_init, defScope s_InvalidAlternative_init, [], []⟩,
  ⟨.m "InvalidTurns" "__init__", "__init__", "InvalidTurns.__init__", defArgs s_InvalidTurns_init, defBody s_InvalidTurns_init, defScope s_InvalidTurns_init, [], []⟩,
  ⟨.m "InvalidCounts" "__init__", "__init__", "InvalidCounts.__init__", defArgs s_InvalidCounts_init, defBody s_InvalidCounts_init, defScope s_InvalidCounts_init, [], []⟩,
  ⟨.m "InvalidLeft" "__init__", "__init__", "InvalidLeft.__init__", defArgs s_InvalidLeft_init, defBody s_InvalidLeft_init, defScope s_InvalidLeft_init, [], []⟩,
  ⟨.m "InvalidGroups" "__init__", "__init__", "InvalidGroups.__init__", defArgs s_InvalidGroups_init, defBody s_InvalidGroups_init, defScope s_InvalidGroups_init, [], []⟩,
  ⟨.m "InvalidPosition" "__init__", "__init__", "InvalidPosition.__init__", defArgs s_InvalidPosition_init, defBody s_InvalidPosition_init, defScope s_InvalidPosition_init, [], []⟩,
  ⟨.m "InvalidName" "__init__", "__init__", "InvalidName.__init__", defArgs s_InvalidName_init, defBody s_InvalidName_init, defScope s_InvalidName_init, [], []⟩,
  ⟨.m "InvalidCommand" "__init__", "__init__", "InvalidCommand.__init__", defArgs s_InvalidCommand_init, defBody s_InvalidCommand_init, defScope s_InvalidCommand_init, [], []⟩,
  ⟨.m "ParseError" "__init__", "__init__", "ParseError.__init__", defArgs s_ParseError_init, defBody s_ParseError_init, defScope s_ParseError_init, [], []⟩,
  ⟨.m "LimitExceeded" "__init__", "__init__", "LimitExceeded.__init__", defArgs s_LimitExceeded_init, defBody s_LimitExceeded_init, defScope s_LimitExceeded_init, [], []⟩,
  ⟨.m "PlayEnded" "__init__", "__init__", "PlayEnded.__init__", defArgs s_PlayEnded_init, defBody s_PlayEnded_init, defScope s_PlayEnded_init, [], []⟩,
  ⟨.m "NothingToUndo" "__init__", "__init__", "NothingToUndo.__init__", defArgs s_NothingToUndo_init, defBody s_NothingToUndo_init, defScope s_NothingToUndo_init, [], []⟩,
  ⟨.m "NoPlay" "__init__", "__init__", "NoPlay.__init__", defArgs s_NoPlay_init, defBody s_NoPlay_init, defScope s_NoPlay_init, [], []⟩]
def fas : List FaC := [faEin "VetoError" "ValueError.__init__",
  faHe (.glo "VetoError"),
  faOex "InvalidRanking" "value",
  faHe (.glo "InvalidRanking"),
  faOex "InvalidPlayer" "value",
  faHe (.glo "InvalidPlayer"),
  faOex "InvalidAlternative" "value",
  faHe (.glo "InvalidAlternative"),
  faOex "InvalidTurns" "value",
  faHe (.glo "InvalidTurns"),
  faOex "InvalidCounts" "value",
  faHe (.glo "InvalidCounts"),
  faOex "InvalidLeft" "value",
  faHe (.glo "InvalidLeft"),
  faOex "InvalidGroups" "value",
  faHe (.glo "InvalidGroups"),
  faOex "InvalidPosition" "value",
  faHe (.glo "InvalidPosition"),
  faOex "InvalidName" "value",
  faHe (.glo "InvalidName"),
  faOex "InvalidCommand" "value",
  faHe (.glo "InvalidCommand"),
  faOex "ParseError" "line",
  faHe (.glo "ParseError"),
  faBin "OverflowError" "OverflowError.__init__",
  faHe (.free "OverflowError"),
  faOexG "LimitExceeded" "limit" "OverflowError.__new__" [.type "OverflowError", .type "ArithmeticError", .type "Exception", .type "BaseException", .type "object"],
  faHe (.glo "LimitExceeded"),
  faBin "RuntimeError" "RuntimeError.__init__",
  faHe (.free "RuntimeError"),
  faOexN "PlayEnded" "RuntimeError.__new__" [.type "RuntimeError", .type "Exception", .type "BaseException", .type "object"],
  faHe (.glo "PlayEnded"),
  faOexN "NothingToUndo" "RuntimeError.__new__" [.type "RuntimeError", .type "Exception", .type "BaseException", .type "object"],
  faHe (.glo "NothingToUndo"),
  faBin "LookupError" "LookupError.__init__",
  faHe (.free "LookupError"),
  faOexN "NoPlay" "LookupError.__new__" [.type "LookupError", .type "Exception", .type "BaseException", .type "object"],
  faHe (.glo "NoPlay"),
  faKit "NoPlay" "InvalidRanking" false,
  faExc "NoPlay",
  faKit "NothingToUndo" "InvalidRanking" false,
  faExc "NothingToUndo",
  faKit "PlayEnded" "InvalidRanking" false,
  faExc "PlayEnded",
  faKit "LimitExceeded" "InvalidRanking" false,
  faExc "LimitExceeded",
  faKit "ParseError" "InvalidRanking" false,
  faExc "ParseError",
  faKit "InvalidCommand" "InvalidRanking" false,
  faExc "InvalidCommand",
  faKit "InvalidName" "InvalidRanking" false,
  faExc "InvalidName",
  faKit "InvalidPosition" "InvalidRanking" false,
  faExc "InvalidPosition",
  faKit "InvalidGroups" "InvalidRanking" false,
  faExc "InvalidGroups",
  faKit "InvalidLeft" "InvalidRanking" false,
  faExc "InvalidLeft",
  faKit "InvalidCounts" "InvalidRanking" false,
  faExc "InvalidCounts",
  faKit "InvalidTurns" "InvalidRanking" false,
  faExc "InvalidTurns",
  faKit "InvalidAlternative" "InvalidRanking" false,
  faExc "InvalidAlternative",
  faKit "InvalidPlayer" "InvalidRanking" false,
  faExc "InvalidPlayer",
  faKit "InvalidRanking" "InvalidRanking" true,
  faExc "InvalidRanking",
  faHe (.free "isinstance"),
  faKit "NoPlay" "InvalidPlayer" false,
  faKit "NothingToUndo" "InvalidPlayer" false,
  faKit "PlayEnded" "InvalidPlayer" false,
  faKit "LimitExceeded" "InvalidPlayer" false,
  faKit "ParseError" "InvalidPlayer" false,
  faKit "InvalidCommand" "InvalidPlayer" false,
  faKit "InvalidName" "InvalidPlayer" false,
  faKit "InvalidPosition" "InvalidPlayer" false,
  faKit "InvalidGroups" "InvalidPlayer" false,
  faKit "InvalidLeft" "InvalidPlayer" false,
  faKit "InvalidCounts" "InvalidPlayer" false,
  faKit "InvalidTurns" "InvalidPlayer" false,
  faKit "InvalidAlternative" "InvalidPlayer" false,
  faKit "InvalidPlayer" "InvalidPlayer" true,
  faKit "InvalidRanking" "InvalidPlayer" false,
  faKit "NoPlay" "InvalidAlternative" false,
  faKit "NothingToUndo" "InvalidAlternative" false,
  faKit "PlayEnded" "InvalidAlternative" false,
  faKit "LimitExceeded" "InvalidAlternative" false,
  faKit "ParseError" "InvalidAlternative" false,
  faKit "InvalidCommand" "InvalidAlternative" false,
  faKit "InvalidName" "InvalidAlternative" false,
  faKit "InvalidPosition" "InvalidAlternative" false,
  faKit "InvalidGroups" "InvalidAlternative" false,
  faKit "InvalidLeft" "InvalidAlternative" false,
  faKit "InvalidCounts" "InvalidAlternative" false,
  faKit "InvalidTurns" "InvalidAlternative" false,
  faKit "InvalidAlternative" "InvalidAlternative" true,
  faKit "InvalidPlayer" "InvalidAlternative" false,
  faKit "InvalidRanking" "InvalidAlternative" false,
  faKit "NoPlay" "InvalidTurns" false,
  faKit "NothingToUndo" "InvalidTurns" false,
  faKit "PlayEnded" "InvalidTurns" false,
  faKit "LimitExceeded" "InvalidTurns" false,
  faKit "ParseError" "InvalidTurns" false,
  faKit "InvalidCommand" "InvalidTurns" false,
  faKit "InvalidName" "InvalidTurns" false,
  faKit "InvalidPosition" "InvalidTurns" false,
  faKit "InvalidGroups" "InvalidTurns" false,
  faKit "InvalidLeft" "InvalidTurns" false,
  faKit "InvalidCounts" "InvalidTurns" false,
  faKit "InvalidTurns" "InvalidTurns" true,
  faKit "InvalidAlternative" "InvalidTurns" false,
  faKit "InvalidPlayer" "InvalidTurns" false,
  faKit "InvalidRanking" "InvalidTurns" false,
  faKit "NoPlay" "InvalidCounts" false,
  faKit "NothingToUndo" "InvalidCounts" false,
  faKit "PlayEnded" "InvalidCounts" false,
  faKit "LimitExceeded" "InvalidCounts" false,
  faKit "ParseError" "InvalidCounts" false,
  faKit "InvalidCommand" "InvalidCounts" false,
  faKit "InvalidName" "InvalidCounts" false,
  faKit "InvalidPosition" "InvalidCounts" false,
  faKit "InvalidGroups" "InvalidCounts" false,
  faKit "InvalidLeft" "InvalidCounts" false,
  faKit "InvalidCounts" "InvalidCounts" true,
  faKit "InvalidTurns" "InvalidCounts" false,
  faKit "InvalidAlternative" "InvalidCounts" false,
  faKit "InvalidPlayer" "InvalidCounts" false,
  faKit "InvalidRanking" "InvalidCounts" false,
  faKit "NoPlay" "InvalidLeft" false,
  faKit "NothingToUndo" "InvalidLeft" false,
  faKit "PlayEnded" "InvalidLeft" false,
  faKit "LimitExceeded" "InvalidLeft" false,
  faKit "ParseError" "InvalidLeft" false,
  faKit "InvalidCommand" "InvalidLeft" false,
  faKit "InvalidName" "InvalidLeft" false,
  faKit "InvalidPosition" "InvalidLeft" false,
  faKit "InvalidGroups" "InvalidLeft" false,
  faKit "InvalidLeft" "InvalidLeft" true,
  faKit "InvalidCounts" "InvalidLeft" false,
  faKit "InvalidTurns" "InvalidLeft" false,
  faKit "InvalidAlternative" "InvalidLeft" false,
  faKit "InvalidPlayer" "InvalidLeft" false,
  faKit "InvalidRanking" "InvalidLeft" false,
  faKit "NoPlay" "InvalidGroups" false,
  faKit "NothingToUndo" "InvalidGroups" false,
  faKit "PlayEnded" "InvalidGroups" false,
  faKit "LimitExceeded" "InvalidGroups" false,
  faKit "ParseError" "InvalidGroups" false,
  faKit "InvalidCommand" "InvalidGroups" false,
  faKit "InvalidName" "InvalidGroups" false,
  faKit "InvalidPosition" "InvalidGroups" false,
  faKit "InvalidGroups" "InvalidGroups" true,
  faKit "InvalidLeft" "InvalidGroups" false,
  faKit "InvalidCounts" "InvalidGroups" false,
  faKit "InvalidTurns" "InvalidGroups" false,
  faKit "InvalidAlternative" "InvalidGroups" false,
  faKit "InvalidPlayer" "InvalidGroups" false,
  faKit "InvalidRanking" "InvalidGroups" false,
  faKit "NoPlay" "InvalidPosition" false,
  faKit "NothingToUndo" "InvalidPosition" false,
  faKit "PlayEnded" "InvalidPosition" false,
  faKit "LimitExceeded" "InvalidPosition" false,
  faKit "ParseError" "InvalidPosition" false,
  faKit "InvalidCommand" "InvalidPosition" false,
  faKit "InvalidName" "InvalidPosition" false,
  faKit "InvalidPosition" "InvalidPosition" true,
  faKit "InvalidGroups" "InvalidPosition" false,
  faKit "InvalidLeft" "InvalidPosition" false,
  faKit "InvalidCounts" "InvalidPosition" false,
  faKit "InvalidTurns" "InvalidPosition" false,
  faKit "InvalidAlternative" "InvalidPosition" false,
  faKit "InvalidPlayer" "InvalidPosition" false,
  faKit "InvalidRanking" "InvalidPosition" false,
  faKit "NoPlay" "InvalidName" false,
  faKit "NothingToUndo" "InvalidName" false,
  faKit "PlayEnded" "InvalidName" false,
  faKit "LimitExceeded" "InvalidName" false,
  faKit "ParseError" "InvalidName" false,
  faKit "InvalidCommand" "InvalidName" false,
  faKit "InvalidName" "InvalidName" true,
  faKit "InvalidPosition" "InvalidName" false,
  faKit "InvalidGroups" "InvalidName" false,
  faKit "InvalidLeft" "InvalidName" false,
  faKit "InvalidCounts" "InvalidName" false,
  faKit "InvalidTurns" "InvalidName" false,
  faKit "InvalidAlternative" "InvalidName" false,
  faKit "InvalidPlayer" "InvalidName" false,
  faKit "InvalidRanking" "InvalidName" false,
  faKit "NoPlay" "InvalidCommand" false,
  faKit "NothingToUndo" "InvalidCommand" false,
  faKit "PlayEnded" "InvalidCommand" false,
  faKit "LimitExceeded" "InvalidCommand" false,
  faKit "ParseError" "InvalidCommand" false,
  faKit "InvalidCommand" "InvalidCommand" true,
  faKit "InvalidName" "InvalidCommand" false,
  faKit "InvalidPosition" "InvalidCommand" false,
  faKit "InvalidGroups" "InvalidCommand" false,
  faKit "InvalidLeft" "InvalidCommand" false,
  faKit "InvalidCounts" "InvalidCommand" false,
  faKit "InvalidTurns" "InvalidCommand" false,
  faKit "InvalidAlternative" "InvalidCommand" false,
  faKit "InvalidPlayer" "InvalidCommand" false,
  faKit "InvalidRanking" "InvalidCommand" false,
  faKit "NoPlay" "ParseError" false,
  faKit "NothingToUndo" "ParseError" false,
  faKit "PlayEnded" "ParseError" false,
  faKit "LimitExceeded" "ParseError" false,
  faKit "ParseError" "ParseError" true,
  faKit "InvalidCommand" "ParseError" false,
  faKit "InvalidName" "ParseError" false,
  faKit "InvalidPosition" "ParseError" false,
  faKit "InvalidGroups" "ParseError" false,
  faKit "InvalidLeft" "ParseError" false,
  faKit "InvalidCounts" "ParseError" false,
  faKit "InvalidTurns" "ParseError" false,
  faKit "InvalidAlternative" "ParseError" false,
  faKit "InvalidPlayer" "ParseError" false,
  faKit "InvalidRanking" "ParseError" false,
  faKit "NoPlay" "LimitExceeded" false,
  faKit "NothingToUndo" "LimitExceeded" false,
  faKit "PlayEnded" "LimitExceeded" false,
  faKit "LimitExceeded" "LimitExceeded" true,
  faKit "ParseError" "LimitExceeded" false,
  faKit "InvalidCommand" "LimitExceeded" false,
  faKit "InvalidName" "LimitExceeded" false,
  faKit "InvalidPosition" "LimitExceeded" false,
  faKit "InvalidGroups" "LimitExceeded" false,
  faKit "InvalidLeft" "LimitExceeded" false,
  faKit "InvalidCounts" "LimitExceeded" false,
  faKit "InvalidTurns" "LimitExceeded" false,
  faKit "InvalidAlternative" "LimitExceeded" false,
  faKit "InvalidPlayer" "LimitExceeded" false,
  faKit "InvalidRanking" "LimitExceeded" false,
  faKit "NoPlay" "PlayEnded" false,
  faKit "NothingToUndo" "PlayEnded" false,
  faKit "PlayEnded" "PlayEnded" true,
  faKit "LimitExceeded" "PlayEnded" false,
  faKit "ParseError" "PlayEnded" false,
  faKit "InvalidCommand" "PlayEnded" false,
  faKit "InvalidName" "PlayEnded" false,
  faKit "InvalidPosition" "PlayEnded" false,
  faKit "InvalidGroups" "PlayEnded" false,
  faKit "InvalidLeft" "PlayEnded" false,
  faKit "InvalidCounts" "PlayEnded" false,
  faKit "InvalidTurns" "PlayEnded" false,
  faKit "InvalidAlternative" "PlayEnded" false,
  faKit "InvalidPlayer" "PlayEnded" false,
  faKit "InvalidRanking" "PlayEnded" false,
  faKit "NoPlay" "NothingToUndo" false,
  faKit "NothingToUndo" "NothingToUndo" true,
  faKit "PlayEnded" "NothingToUndo" false,
  faKit "LimitExceeded" "NothingToUndo" false,
  faKit "ParseError" "NothingToUndo" false,
  faKit "InvalidCommand" "NothingToUndo" false,
  faKit "InvalidName" "NothingToUndo" false,
  faKit "InvalidPosition" "NothingToUndo" false,
  faKit "InvalidGroups" "NothingToUndo" false,
  faKit "InvalidLeft" "NothingToUndo" false,
  faKit "InvalidCounts" "NothingToUndo" false,
  faKit "InvalidTurns" "NothingToUndo" false,
  faKit "InvalidAlternative" "NothingToUndo" false,
  faKit "InvalidPlayer" "NothingToUndo" false,
  faKit "InvalidRanking" "NothingToUndo" false,
  faKit "NoPlay" "NoPlay" true,
  faKit "NothingToUndo" "NoPlay" false,
  faKit "PlayEnded" "NoPlay" false,
  faKit "LimitExceeded" "NoPlay" false,
  faKit "ParseError" "NoPlay" false,
  faKit "InvalidCommand" "NoPlay" false,
  faKit "InvalidName" "NoPlay" false,
  faKit "InvalidPosition" "NoPlay" false,
  faKit "InvalidGroups" "NoPlay" false,
  faKit "InvalidLeft" "NoPlay" false,
  faKit "InvalidCounts" "NoPlay" false,
  faKit "InvalidTurns" "NoPlay" false,
  faKit "InvalidAlternative" "NoPlay" false,
  faKit "InvalidPlayer" "NoPlay" false,
  faKit "InvalidRanking" "NoPlay" false,
  faKit "NoPlay" "VetoError" false,
  faKit "NothingToUndo" "VetoError" false,
  faKit "PlayEnded" "VetoError" false,
  faKit "LimitExceeded" "VetoError" false,
  faKit "ParseError" "VetoError" true,
  faKit "InvalidCommand" "VetoError" true,
  faKit "InvalidName" "VetoError" true,
  faKit "InvalidPosition" "VetoError" true,
  faKit "InvalidGroups" "VetoError" true,
  faKit "InvalidLeft" "VetoError" true,
  faKit "InvalidCounts" "VetoError" true,
  faKit "InvalidTurns" "VetoError" true,
  faKit "InvalidAlternative" "VetoError" true,
  faKit "InvalidPlayer" "VetoError" true,
  faKit "InvalidRanking" "VetoError" true,
  faKitT "NoPlay" "ValueError" false,
  faKitT "NothingToUndo" "ValueError" false,
  faKitT "PlayEnded" "ValueError" false,
  faKitT "LimitExceeded" "ValueError" false,
  faKitT "ParseError" "ValueError" true,
  faKitT "InvalidCommand" "ValueError" true,
  faKitT "InvalidName" "ValueError" true,
  faKitT "InvalidPosition" "ValueError" true,
  faKitT "InvalidGroups" "ValueError" true,
  faKitT "InvalidLeft" "ValueError" true,
  faKitT "InvalidCounts" "ValueError" true,
  faKitT "InvalidTurns" "ValueError" true,
  faKitT "InvalidAlternative" "ValueError" true,
  faKitT "InvalidPlayer" "ValueError" true,
  faKitT "InvalidRanking" "ValueError" true,
  faHe (.free "ValueError"),
  faKitT "NoPlay" "OverflowError" false,
  faKitT "NothingToUndo" "OverflowError" false,
  faKitT "PlayEnded" "OverflowError" false,
  faKitT "LimitExceeded" "OverflowError" true,
  faKitT "ParseError" "OverflowError" false,
  faKitT "InvalidCommand" "OverflowError" false,
  faKitT "InvalidName" "OverflowError" false,
  faKitT "InvalidPosition" "OverflowError" false,
  faKitT "InvalidGroups" "OverflowError" false,
  faKitT "InvalidLeft" "OverflowError" false,
  faKitT "InvalidCounts" "OverflowError" false,
  faKitT "InvalidTurns" "OverflowError" false,
  faKitT "InvalidAlternative" "OverflowError" false,
  faKitT "InvalidPlayer" "OverflowError" false,
  faKitT "InvalidRanking" "OverflowError" false,
  faKitT "NoPlay" "RuntimeError" false,
  faKitT "NothingToUndo" "RuntimeError" true,
  faKitT "PlayEnded" "RuntimeError" true,
  faKitT "LimitExceeded" "RuntimeError" false,
  faKitT "ParseError" "RuntimeError" false,
  faKitT "InvalidCommand" "RuntimeError" false,
  faKitT "InvalidName" "RuntimeError" false,
  faKitT "InvalidPosition" "RuntimeError" false,
  faKitT "InvalidGroups" "RuntimeError" false,
  faKitT "InvalidLeft" "RuntimeError" false,
  faKitT "InvalidCounts" "RuntimeError" false,
  faKitT "InvalidTurns" "RuntimeError" false,
  faKitT "InvalidAlternative" "RuntimeError" false,
  faKitT "InvalidPlayer" "RuntimeError" false,
  faKitT "InvalidRanking" "RuntimeError" false,
  faKitT "NoPlay" "LookupError" true,
  faKitT "NothingToUndo" "LookupError" false,
  faKitT "PlayEnded" "LookupError" false,
  faKitT "LimitExceeded" "LookupError" false,
  faKitT "ParseError" "LookupError" false,
  faKitT "InvalidCommand" "LookupError" false,
  faKitT "InvalidName" "LookupError" false,
  faKitT "InvalidPosition" "LookupError" false,
  faKitT "InvalidGroups" "LookupError" false,
  faKitT "InvalidLeft" "LookupError" false,
  faKitT "InvalidCounts" "LookupError" false,
  faKitT "InvalidTurns" "LookupError" false,
  faKitT "InvalidAlternative" "LookupError" false,
  faKitT "InvalidPlayer" "LookupError" false,
  faKitT "InvalidRanking" "LookupError" false,
  faHe (.glo "_law_errors"),
  faHe (.free "enumerate"),
  faHe (.glo "_law_kinds"),
  faHe (.glo "_law_bases"),
  faHe (.glo "_law_named"),
  faHe (.free "list"),
  faNoList,
  faHe (.glo "law")]
abbrev R : PySem.W.OpenRow := PySem.W.OpenLaw.row PySem.Challenge.rw_vetoturns_k04_error_classes
abbrev hk : PySem.W.Hook := hookC 5 fas fns
def ob (s : PySem.W.SharedT) : He.AlD := obsCG 5 fas fns (HandSHeadRun.getT s)
end K04
set_option maxHeartbeats 0
namespace K04
open Std Cl PySem PySem.Spec PyProof.Rows L2 StX ClX
def names0 : List PySem.Str := ["VetoError", "InvalidRanking", "InvalidPlayer", "InvalidAlternative", "InvalidTurns", "InvalidCounts", "InvalidLeft", "InvalidGroups", "InvalidPosition", "InvalidName", "InvalidCommand", "ParseError", "LimitExceeded", "PlayEnded", "NothingToUndo", "NoPlay", "_law_errors", "_law_named", "_law_kinds", "_law_bases"]
def names : List PySem.Str := names0
theorem run (w : World) : HandSHeadRun.RunEq R (PySem.W.view R.prog [22]) hk ob 9000 names w := by
  intro os
  kernel_rfl
end K04
set_option Elab.async false
set_option linter.all false
set_option maxRecDepth 100000
set_option maxHeartbeats 4000000
namespace Cl
open PySem PySem.Spec PyProof.Rows L2
theorem TupAt.same {k : TF} {F F' : Hp} {a : Addr} {vs : List V} (h : Same F F') (r : TupAt k F a vs) : TupAt k F' a vs := by
  cases k with
  | p => exact h _ _ r
  | x => obtain ⟨o, d, e⟩ := r; exact ⟨o, d, h _ _ e⟩
  | a => exact r.elim (fun e => .inl (h _ _ e)) fun ⟨o, d, e⟩ => .inr ⟨o, d, h _ _ e⟩
theorem TupAt.rd {k : TF} {F : Hp} {a : Addr} {vs : List V} (r : TupAt k F a vs) : Rd F a (.tup vs) := by
  cases k with
  | p => exact .inl r
  | x => obtain ⟨o, d, e⟩ := r; exact .inr ⟨o, e⟩
  | a => exact r.elim .inl fun ⟨o, d, e⟩ => .inr ⟨o, e⟩
theorem TupAt.any {k : TF} {F : Hp} {a : Addr} {vs : List V} (r : TupAt k F a vs) : TupAt .a F a vs := by
  cases k with
  | p => exact .inl r
  | x => exact .inr r
  | a => exact r
theorem TupAt.sq {k : TF} {K : PySem.W.Frag} {F H : Hp} {a : Addr} {vs : List V} (r : TupAt k F a vs) (l : Same F H) : SqT K H a vs := .inl (match r.rd with
  | .inl e => .inl (l _ _ e)
  | .inr ⟨o, e⟩ => .inr ⟨o, l _ _ e⟩)
def TF.join : TF → TF → TF
  | .p, .p => .p
  | _, _ => .a
def TF.part : TF → TF
  | .p => .p
  | _ => .a
theorem TupAt.part {k : TF} {F : Hp} {a : Addr} {vs : List V} (r : TupAt k F a vs) : TupAt k.part F a vs := by
  cases k <;> first | exact r | exact r.any
theorem TupAt.joinL {k l : TF} {F : Hp} {a : Addr} {vs : List V} (r : TupAt k F a vs) : TupAt (k.join l) F a vs := by
  cases k <;> cases l <;> first | exact r | exact r.any
theorem TupAt.joinR {k l : TF} {F : Hp} {a : Addr} {vs : List V} (r : TupAt l F a vs) : TupAt (k.join l) F a vs := by
  cases k <;> cases l <;> first | exact r | exact r.any
theorem TF.part_x {k : TF} : k.part ≠ .x := by cases k <;> decide
theorem TF.join_x {k l : TF} : k.join l ≠ .x := by cases k <;> cases l <;> decide
theorem TupAt.new {k : TF} (hk : k ≠ .x) {H : Hp} {a : Addr} {vs : List V} : TupAt k (upd H a (.tup vs)) a vs := by
  cases k with
  | p => exact upd_same
  | x => exact absurd rfl hk
  | a => exact .inl upd_same
theorem NKAt.same {F F' : Hp} {b : Addr} {k : NK} (h : Same F F') (r : NKAt F b k) : NKAt F' b k := let ⟨b1, b2, x, y, z⟩ := r; ⟨b1, b2, x.same h, y.same h, z.same h⟩
theorem rd_mono {F F' : Hp} (h : Same F F') {a : Addr} {o : HO} (r : Rd F a o) : Rd F' a o := by
  rcases r with r | ⟨z, r⟩
  · exact .inl (h _ _ r)
  · exact .inr ⟨z, h _ _ r⟩
section
variable {G : Gd} {F F' : Hp}
mutual
theorem Rep.mono (h : Same F F') : ∀ {p : PV} {v : V}, Rep G F p v → Rep G F' p v
  | _, _, .non => .non
  | _, _, .bl b => .bl b
  | _, _, .int i => .int i
  | _, _, .str x => .str x
  | _, _, .ty n => .ty n
  | _, _, .fn n => .fn n
  | _, _, .lst r l => .lst (h _ _ r) (RepL.mono h l)
  | _, _, .tup r l => .tup (r.same h) (RepL.mono h l)
  | _, _, .dtp r l => .dtp (rd_mono h r) (RepT.mono h l)
  | _, _, .dtn r l => .dtn (h _ _ r) (RepN.mono h l)
  | _, _, .dmx r k l => .dmx (h _ _ r) (RepL.mono h k) (RepL.mono h l)
  | _, _, .scr r => .scr (h _ _ r)
  | _, _, .dct r l => .dct (rd_mono h r) (RepK.mono h l)
  | _, _, .obj r l => .obj (h _ _ r) (RepF.mono h l)
  | _, _, .xo r e l => .xo (h _ _ r) (h _ _ e) (RepF.mono h l)
  | _, _, .xo0 r => .xo0 (h _ _ r)
  | _, _, .tbl a => .tbl a
  | _, _, .adr a => .adr a
  | _, _, .clo r l => .clo (h _ _ r) (RepL.mono h l)
theorem RepL.mono (h : Same F F') : ∀ {p : List PV} {v : List V}, RepL G F p v → RepL G F' p v
  | _, _, .nil => .nil
  | _, _, .cons r l => .cons (Rep.mono h r) (RepL.mono h l)
theorem RepK.mono (h : Same F F') : ∀ {p : List (PV × PV)} {v : List (Key × V)}, RepK G F p v → RepK G F' p v
  | _, _, .nil => .nil
  | _, _, .cons e r l => .cons e (Rep.mono h r) (RepK.mono h l)
theorem RepT.mono (h : Same F F') : ∀ {p : List (List Key × PV)} {v : List (List Key × V)}, RepT G F p v → RepT G F' p v
  | _, _, .nil => .nil
  | _, _, .cons r l => .cons (Rep.mono h r) (RepT.mono h l)
theorem RepN.mono (h : Same F F') : ∀ {p : List (NK × PV)} {v : List (NK × Addr × V)}, RepN G F p v → RepN G F' p v
  | _, _, .nil => .nil
  | _, _, .cons k r l => .cons (k.same h) (Rep.mono h r) (RepN.mono h l)
theorem RepF.mono (h : Same F F') : ∀ {p : List (PySem.Str × PV)} {v : List (PySem.Str × V)}, RepF G F p v → RepF G F' p v
  | _, _, .nil => .nil
  | _, _, .cons r l => .cons (Rep.mono h r) (RepF.mono h l)
end
theorem RepL.append : ∀ {p q : List PV} {v u : List V}, RepL G F p v → RepL G F q u → RepL G F (p ++ q) (v ++ u)
  | _, _, _, _, .nil, s => s
  | _, _, _, _, .cons r l, s => .cons r (RepL.append l s)
theorem RepL.get : ∀ {p : List PV} {v : List V} {i : Nat} {x : PV}, RepL G F p v → p[i]? = some x → ∃ u, v[i]? = some u ∧ Rep G F x u
  | _, _, _, _, .nil, e => by simp at e
  | _, _, 0, _, .cons r _, e => by simp at e; subst e; exact ⟨_, rfl, r⟩
  | _, _, i + 1, _, .cons _ l, e => by
    obtain ⟨u, a, b⟩ := RepL.get (i := i) l (by simpa using e)
    exact ⟨u, by simpa using a, b⟩
theorem RepL.set : ∀ {p : List PV} {v : List V} {x : PV} {u : V} (i : Nat), RepL G F p v → Rep G F x u → RepL G F (p.set i x) (v.set i u)
  | _, _, _, _, _, .nil, _ => .nil
  | _, _, _, _, 0, .cons _ l, r => .cons r l
  | _, _, _, _, i + 1, .cons q l, r => .cons q (RepL.set i l r)
theorem RepL.take : ∀ {p : List PV} {v : List V} (n : Nat), RepL G F p v → RepL G F (p.take n) (v.take n)
  | _, _, 0, _ => .nil
  | _, _, _ + 1, .nil => .nil
  | _, _, n + 1, .cons r l => .cons r (RepL.take n l)
theorem RepL.drop : ∀ {p : List PV} {v : List V} (n : Nat), RepL G F p v → RepL G F (p.drop n) (v.drop n)
  | _, _, 0, l => l
  | _, _, _ + 1, .nil => .nil
  | _, _, n + 1, .cons _ l => RepL.drop n l
theorem RepL.reverse {p : List PV} {v : List V} (l : RepL G F p v) : RepL G F p.reverse v.reverse := by
  have go : ∀ {p q : List PV} {v u : List V}, RepL G F p v → RepL G F q u → RepL G F (p.reverse ++ q) (v.reverse ++ u) := by
    intro p
    induction p with
    | nil => intro q v u a b; cases a; exact b
    | cons x p ih =>
      intro q v u a b
      cases a with
      | cons r l =>
        simp only [List.reverse_cons, List.append_assoc, List.singleton_append]
        exact ih l (.cons r b)
  simpa using go l .nil
theorem RepL.ints : ∀ (ns : List Int), RepL G F (ns.map PV.int) (ns.map V.int)
  | [] => .nil
  | n :: ns => .cons (.int n) (RepL.ints ns)
end
def NoM : Option HO → Prop
  | none => True
  | some (.tup _) => True
  | _ => False
theorem NoM.of {x : Option HO} (h : x = none) : NoM x := by subst h; trivial
theorem NoM.back {H H2 : Hp} (s : Same H H2) {b : Addr} (z : NoM (H2 b)) : NoM (H b) := by
  cases e : H b with
  | none => trivial
  | some u => rw [s b u e] at z; exact z
structure Step (o : List Addr) (W : Wd) (H : Hp) (o' : List Addr) (W' : Wd) (H' : Hp) : Prop where
  f : Same W.F W'.F
  a : W'.A = W.A
  nf : ∀ b, W'.F b = W.F b ∨ NoM (H b) ∨ b ∈ o
  no : ∀ b ∈ o', b ∈ o ∨ H b = none
  keep : ∀ b u, H b = some u → b ∉ o → H' b = some u
theorem Step.refl {o : List Addr} {W : Wd} {H : Hp} : Step o W H o W H :=
  ⟨Same.refl _, rfl, fun _ => .inl rfl, fun _ h => .inl h, fun _ _ h _ => h⟩
theorem Step.back {o o' : List Addr} {W W' : Wd} {H H' : Hp} (s : Step o W H o' W' H') {b : Addr} (h : H' b = none) (hb : b ∉ o) : H b = none := by
  cases e : H b with
  | none => rfl
  | some u => have := s.keep b u e hb; rw [h] at this; cases this
theorem Step.backM {o o' : List Addr} {W W' : Wd} {H H' : Hp} (s : Step o W H o' W' H') {b : Addr} (h : NoM (H' b)) (hb : b ∉ o) : NoM (H b) := by
  cases e : H b with
  | none => trivial
  | some u => rw [s.keep b u e hb] at h; exact h
theorem Step.trans {o o1 o2 : List Addr} {W W1 W2 : Wd} {H H1 H2 : Hp} (s : Step o W H o1 W1 H1) (s' : Step o1 W1 H1 o2 W2 H2) : Step o W H o2 W2 H2 where
  f := s.f.trans s'.f
  a := s'.a.trans s.a
  nf := fun b => by
    rcases s'.nf b with e | e | e
    · rw [e]; exact s.nf b
    · by_cases hb : b ∈ o
      · exact .inr (.inr hb)
      · exact .inr (.inl (s.backM e hb))
    · rcases s.no b e with q | q
      · exact .inr (.inr q)
      · exact .inr (.inl (.of q))
  no := fun b h => by
    rcases s'.no b h with q | q
    · exact s.no b q
    · by_cases hb : b ∈ o
      · exact .inl hb
      · exact .inr (s.back q hb)
  keep := fun b u e hb => s'.keep b u (s.keep b u e hb) fun h => by
    rcases s.no b h with q | q
    · exact hb q
    · rw [q] at e; cases e
inductive Out (α : Type) where
  | ok (v : α) (st : ST)
  | exc (c : Nat) (fs : List (PySem.Str × PV)) (st : ST)
  | stuck
def Out.bind {α β : Type} (o : Out α) (k : α → ST → Out β) : Out β :=
  match o with
  | .ok v st => k v st
  | .exc c fs st => .exc c fs st
  | .stuck => .stuck
def RepS (G : Gd) (W : Wd) (σ : Sg) : SV → V → Prop
  | .t p, v => Rep G W.F p v
  | .pl (.sl j), v => σ[j]? = some (some v)
  | .pl (.ih n), v => ∃ a, v = .ref a ∧ W.A[n]? = some a
theorem RepS.mono {G : Gd} {W W' : Wd} {σ : Sg} {x : SV} {v : V} (f : Same W.F W'.F) (a : W'.A = W.A) (h : RepS G W σ x v) : RepS G W' σ x v := by
  cases x with
  | t p => exact Rep.mono f h
  | pl q =>
    cases q with
    | sl j => exact h
    | ih n =>
      obtain ⟨b, e1, e2⟩ := h
      exact ⟨b, e1, by rw [a]; exact e2⟩
def RepX (G : Gd) (W : Wd) (H : Hp) (fs : List (PySem.Str × PV)) : Option Addr → Prop
  | some d => ∃ hs, W.F d = some (.xd hs) ∧ RepF G W.F fs hs
  | none => fs = []
def OutA {α β : Type} (G : Gd) (Wx : WX) (rel : Wd → Sg → α → β → Prop) (W : Wd) (st : ST) (σ : Sg) (H : Hp) (o : Out α) (Q : β → Hp → Prop) : Prop :=
  match o with
  | .ok v st' => ∀ W' H' u, R G W' st' σ H' → Step (own W st σ) W H (own W' st' σ) W' H' → rel W' σ v u → Q u H'
  | .exc c fs st' => ∀ W' H' d, R G W' st' σ H' → Step (own W st σ) W H (own W' st' σ) W' H' → RepX G W' H' fs d → Wx (.ref (G.cls c)) d σ H'
  | .stuck => False
abbrev OutE (G : Gd) (Wx : WX) := OutA (α := SV) (β := V) G Wx (RepS G)
def RepSs (G : Gd) (W : Wd) (σ : Sg) (xs : List SV) (vs : List V) : Prop := Paired (RepS G W σ) xs vs
def RepB (_ : Wd) (_ : Sg) (b c : Bool) : Prop := b = c
theorem OutA.from {α β : Type} {G : Gd} {Wx : WX} {rel : Wd → Sg → α → β → Prop} {W W1 : Wd} {st st1 : ST} {σ : Sg} {H H1 : Hp} {o : Out α} {Q : β → Hp → Prop}
    (h : OutA G Wx rel W st σ H o Q) (s : Step (own W st σ) W H (own W1 st1 σ) W1 H1) : OutA G Wx rel W1 st1 σ H1 o Q := by
  cases o with
  | ok v st' => exact fun W' H' u r s' q => h W' H' u r (s.trans s') q
  | exc c fs st' => exact fun W' H' d r s' q => h W' H' d r (s.trans s') q
  | stuck => exact h
theorem OutA.bind {α α' β β' : Type} {G : Gd} {Wx : WX} {rel : Wd → Sg → α → β → Prop} {rel' : Wd → Sg → α' → β' → Prop} {W : Wd} {st : ST} {σ : Sg} {H : Hp} {o : Out α} {k : α → ST → Out α'} {Q : β' → Hp → Prop}
    (h : OutA G Wx rel' W st σ H (o.bind k) Q) :
    OutA G Wx rel W st σ H o fun u H1 => ∃ W1 st1 v, R G W1 st1 σ H1 ∧ Same W.F W1.F ∧ W1.A = W.A ∧ rel W1 σ v u ∧ OutA G Wx rel' W1 st1 σ H1 (k v st1) Q := by
  cases o with
  | ok v st' => exact fun W' H' u r s q => ⟨W', st', v, r, s.f, s.a, q, OutA.from h s⟩
  | exc c fs st' => exact h
  | stuck => exact h
abbrev Cm (α : Type) := ST → Out α
def tA {α β : Type} (G : Gd) (Wx : WX) (rel : Wd → Sg → α → β → Prop) (f : Cm α) : Sg → Hp → (β → Hp → Prop) → Prop :=
  fun σ H Q => ∃ W st, R G W st σ H ∧ OutA G Wx rel W st σ H (f st) Q
abbrev tE (G : Gd) (Wx : WX) (f : Cm SV) : TE := tA G Wx (RepS G) f
abbrev tT (G : Gd) (Wx : WX) (f : Cm Bool) : TT := tA G Wx RepB f
abbrev tL (G : Gd) (Wx : WX) (f : Cm (List SV)) : TA := tA G Wx (RepSs G) f
structure CE (G : Gd) (X : Cx) (Wx : WX) (e : Expr) (f : Cm SV) : Prop where
  pe : PE X e (tE G Wx f)
structure CT (G : Gd) (X : Cx) (Wx : WX) (e : Expr) (f : Cm Bool) : Prop where
  pt : PT X e (tT G Wx f)
structure CA (G : Gd) (X : Cx) (Wx : WX) (es : List Expr) (f : Cm (List SV)) : Prop where
  pa : PA X es (tL G Wx f)
theorem pe_imp {X : Cx} {e : Expr} {t t' : TE} (h : PE X e t) (i : ∀ σ H Q, t' σ H Q → t σ H Q) : PE X e t' := ⟨fun pn s σ H Q I q => h.run pn s σ H Q I (i σ H Q q)⟩
theorem pt_imp {X : Cx} {e : Expr} {t t' : TT} (h : PT X e t) (i : ∀ σ H Q, t' σ H Q → t σ H Q) : PT X e t' := ⟨fun pn s σ H Q I q => h.run pn s σ H Q I (i σ H Q q)⟩
theorem pa_imp {X : Cx} {es : List Expr} {t t' : TA} (h : PA X es t) (i : ∀ σ H Q, t' σ H Q → t σ H Q) : PA X es t' := ⟨fun ps pn s σ H Q I q => h.run ps pn s σ H Q I (i σ H Q q)⟩
theorem tA_seq {α α' β β' : Type} {G : Gd} {Wx : WX} {rel : Wd → Sg → α → β → Prop} {rel' : Wd → Sg → α' → β' → Prop} {f : Cm α} {k : α → ST → Out α'} {σ : Sg} {H : Hp} {Q : β' → Hp → Prop}
    (h : tA G Wx rel' (fun st => (f st).bind k) σ H Q) : tA G Wx rel f σ H fun u H1 => ∃ W1 st1 v, R G W1 st1 σ H1 ∧ rel W1 σ v u ∧ OutA G Wx rel' W1 st1 σ H1 (k v st1) Q := by
  obtain ⟨W, st, r, o⟩ := h
  refine ⟨W, st, r, ?_⟩
  have o' := OutA.bind (rel := rel) o
  revert o'
  cases f st with
  | ok v st' => exact fun o' W' H' u r' s q => let ⟨W1, st1, v1, a, _, _, b, c⟩ := o' W' H' u r' s q; ⟨W1, st1, v1, a, b, c⟩
  | exc c fs st' => exact fun o' => o'
  | stuck => exact fun o' => o'
end Cl
set_option maxHeartbeats 4000000
namespace Cl
open PySem PySem.Spec PyProof.Rows L2
section
variable {G : Gd} {W : Wd} {st : ST} {σ : Sg} {H H' F' : Hp}
theorem RepM.mono {c : MC} {a : Addr} {F : Hp} (f : Same F F') (h : ∀ u, H a = some u → H' a = some u) (r : RepM G F H c a) : RepM G F' H' c a := by
  cases c with
  | lst xs => obtain ⟨vs, e, l⟩ := r; exact ⟨vs, h _ e, l.mono f⟩
  | lsA b xs => obtain ⟨z, vs, e, l⟩ := r; exact ⟨z, vs, h _ e, l.mono f⟩
  | dct kvs => obtain ⟨hs, e, l⟩ := r; exact ⟨hs, h _ e, l.mono f⟩
  | dtp kvs => obtain ⟨hs, e, l⟩ := r; exact ⟨hs, h _ e, l.mono f⟩
  | dtn kvs => obtain ⟨hs, e, l⟩ := r; exact ⟨hs, h _ e, l.mono f⟩
  | obj c fs => obtain ⟨dx, hs, e, l⟩ := r; exact ⟨dx, hs, h _ e, l.mono f⟩
  | tbl _ q => obtain ⟨g, ps, e, l, k⟩ := r; exact ⟨g, ps, h _ e, l, fun pos cv z => let ⟨c, e1, e2⟩ := k pos cv z; ⟨c, e1, f _ _ e2⟩⟩
theorem RepM.there {c : MC} {a : Addr} {F : Hp} (r : RepM G F H c a) : ∃ u, H a = some u := by
  cases c with
  | lst xs => obtain ⟨vs, e, l⟩ := r; exact ⟨_, e⟩
  | lsA b xs => obtain ⟨z, vs, e, l⟩ := r; exact ⟨_, e⟩
  | dct kvs => obtain ⟨hs, e, l⟩ := r; exact ⟨_, e⟩
  | dtp kvs => obtain ⟨hs, e, l⟩ := r; exact ⟨_, e⟩
  | dtn kvs => obtain ⟨hs, e, l⟩ := r; exact ⟨_, e⟩
  | obj c fs => obtain ⟨dx, hs, e, l⟩ := r; exact ⟨_, e⟩
  | tbl _ q => obtain ⟨_, ps, e, l, k⟩ := r; exact ⟨_, e⟩
theorem RepMs.mono {F : Hp} (f : Same F F') : ∀ {cs : List MC} {as : List Addr}, (∀ a ∈ as, ∀ u, H a = some u → H' a = some u) → RepMs G F H cs as → RepMs G F' H' cs as
  | [], [], _, _ => trivial
  | c :: cs, a :: as, k, ⟨r, l⟩ => ⟨r.mono f (k a (List.mem_cons_self ..)), RepMs.mono f (fun b hb => k b (List.mem_cons_of_mem _ hb)) l⟩
  | [], _ :: _, _, h => h.elim
  | _ :: _, [], _, h => h.elim
theorem RepMs.there {F : Hp} : ∀ {cs : List MC} {as : List Addr}, RepMs G F H cs as → ∀ a ∈ as, ∃ u, H a = some u
  | [], [], _, _, h => nomatch h
  | c :: cs, a :: as, ⟨r, l⟩, b, h => by
    rcases List.mem_cons.mp h with e | e
    · subst e; exact r.there
    · exact RepMs.there l b e
  | [], _ :: _, h, _, _ => h.elim
  | _ :: _, [], h, _, _ => h.elim
theorem RepMs.get {F : Hp} : ∀ {cs : List MC} {as : List Addr} {n : Nat} {c : MC} {a : Addr}, RepMs G F H cs as → cs[n]? = some c → as[n]? = some a → RepM G F H c a
  | [], _, n, _, _, _, e, _ => by simp at e
  | c :: cs, [], _, _, _, h, _, _ => h.elim
  | c :: cs, a :: as, 0, _, _, ⟨r, _⟩, e1, e2 => by simp at e1 e2; subst e1; subst e2; exact r
  | c :: cs, a :: as, n + 1, _, _, ⟨_, l⟩, e1, e2 => RepMs.get (n := n) l (by simpa using e1) (by simpa using e2)
theorem RepSl.mono {l : SL} {v : V} {A : List Addr} (f : Same W.F F') (h : ∀ a, v = .ref a → (∃ c, l = .m c) → ∀ u, H a = some u → H' a = some u) (r : RepSl G W H l v) (e : A = W.A) : RepSl G ⟨F', A⟩ H' l v := by
  subst e
  cases l with
  | t p => exact Rep.mono f r
  | m c => obtain ⟨a, e, r⟩ := r; exact ⟨a, e, r.mono f (h a e ⟨c, rfl⟩)⟩
  | i n => exact r
theorem RepLoc.mono (f : Same W.F F') : ∀ {ls : List (Option SL)} {vs : Sg}, (∀ a ∈ owned ls vs, ∀ u, H a = some u → H' a = some u) → RepLoc G W H ls vs → RepLoc G ⟨F', W.A⟩ H' ls vs
  | [], [], _, _ => trivial
  | none :: ls, _ :: vs, k, r => RepLoc.mono (ls := ls) f (fun a h => k a (by cases hv : ‹Option V› <;> exact h)) r
  | some l :: ls, some v :: vs, k, ⟨r, q⟩ => by
    refine ⟨RepSl.mono f (fun a e c => ?_) r rfl, RepLoc.mono f (fun a h => ?_) q⟩
    · obtain ⟨c, rfl⟩ := c
      subst e
      exact k a (List.mem_cons_self ..)
    · refine k a ?_
      cases l with
      | m c => cases v <;> first | exact List.mem_cons_of_mem _ h | exact h
      | _ => exact h
  | [], _ :: _, _, h => h.elim
  | some _ :: _, [], _, h => h.elim
  | none :: _, [], _, h => h.elim
  | some _ :: _, none :: _, _, h => h.elim
theorem RepLoc.there : ∀ {ls : List (Option SL)} {vs : Sg}, RepLoc G W H ls vs → ∀ a ∈ owned ls vs, ∃ u, H a = some u
  | [], [], _, _, h => nomatch h
  | none :: ls, v :: vs, r, a, h => RepLoc.there (ls := ls) (vs := vs) r a (by cases v <;> exact h)
  | some l :: ls, some v :: vs, ⟨r, q⟩, a, h => by
    cases l with
    | m c =>
      obtain ⟨b, e, r⟩ := r
      subst e
      rcases List.mem_cons.mp h with e | e
      · subst e; exact r.there
      · exact RepLoc.there q a e
    | t p => exact RepLoc.there q a h
    | i n => exact RepLoc.there q a h
  | [], _ :: _, h, _, _ => h.elim
  | some _ :: _, [], h, _, _ => h.elim
  | none :: _, [], h, _, _ => h.elim
  | some _ :: _, none :: _, h, _, _ => h.elim
theorem RepLoc.get : ∀ {ls : List (Option SL)} {vs : Sg} {i : Nat} {l : SL}, RepLoc G W H ls vs → ls[i]? = some (some l) → ∃ v, vs[i]? = some (some v) ∧ RepSl G W H l v
  | [], [], i, _, _, e => by simp at e
  | none :: ls, v :: vs, 0, _, r, e => by simp at e
  | none :: ls, v :: vs, i + 1, _, r, e => RepLoc.get (ls := ls) (vs := vs) (i := i) r (by simpa using e)
  | some l :: ls, some v :: vs, 0, _, ⟨r, _⟩, e => by simp at e; subst e; exact ⟨v, rfl, r⟩
  | some l :: ls, some v :: vs, i + 1, _, ⟨_, q⟩, e => RepLoc.get (ls := ls) (vs := vs) (i := i) q (by simpa using e)
  | [], _ :: _, _, _, h, _ => h.elim
  | some _ :: _, [], _, _, h, _ => h.elim
  | none :: _, [], _, _, h, _ => h.elim
  | some _ :: _, none :: _, _, _, h, _ => h.elim
theorem owned_get : ∀ {ls : List (Option SL)} {vs : Sg} {i : Nat} {c : MC} {a : Addr}, ls[i]? = some (some (.m c)) → vs[i]? = some (some (.ref a)) → a ∈ owned ls vs
  | [], _, i, _, _, e, _ => by simp at e
  | l :: ls, [], i, _, _, _, e => by simp at e
  | l :: ls, v :: vs, 0, _, _, e1, e2 => by
    simp at e1 e2
    subst e1; subst e2
    exact List.mem_cons_self ..
  | l :: ls, v :: vs, i + 1, _, _, e1, e2 => by
    have ih := owned_get (ls := ls) (vs := vs) (i := i) (by simpa using e1) (by simpa using e2)
    cases l with
    | none => cases v <;> exact ih
    | some l =>
      cases l with
      | m c =>
        cases v with
        | none => exact ih
        | some v => cases v <;> first | exact List.mem_cons_of_mem _ ih | exact ih
      | t p => cases v <;> exact ih
      | i n => cases v <;> exact ih
theorem R.there (r : R G W st σ H) : ∀ a ∈ own W st σ, ∃ u, H a = some u := fun a h => by
  rcases List.mem_append.mp h with h | h
  · exact r.loc.there a h
  · exact r.inh.there a h
theorem R.notown (r : R G W st σ H) {a : Addr} (h : H a = none) : a ∉ own W st σ := fun k => by
  obtain ⟨u, e⟩ := r.there a k
  rw [h] at e; cases e
theorem repM_mut {F : Hp} {c : MC} {a : Addr} (m : RepM G F H c a) : Mut (H a) := by
  cases c with
  | lst xs => obtain ⟨vs, e, _⟩ := m; rw [e]; trivial
  | lsA b xs => obtain ⟨_, vs, e, _⟩ := m; rw [e]; trivial
  | dct xs => obtain ⟨vs, e, _⟩ := m; rw [e]; trivial
  | dtp xs => obtain ⟨vs, e, _⟩ := m; rw [e]; trivial
  | dtn xs => obtain ⟨vs, e, _⟩ := m; rw [e]; trivial
  | obj c xs => obtain ⟨dx, vs, e, _⟩ := m; rw [e]; trivial
  | tbl _ q => obtain ⟨_, ps, e, _⟩ := m; rw [e]; trivial
theorem repMs_mut {F : Hp} : ∀ {cs : List MC} {as : List Addr}, RepMs G F H cs as → ∀ a ∈ as, Mut (H a)
  | [], [], _, _, h => nomatch h
  | c :: cs, b :: as, ⟨m, l⟩, a, h => by
    rcases List.mem_cons.mp h with z | z
    · subst z; exact repM_mut m
    · exact repMs_mut l a z
  | [], _ :: _, h, _, _ => h.elim
  | _ :: _, [], h, _, _ => h.elim
theorem repLoc_mut : ∀ {ls : List (Option SL)} {vs : Sg}, RepLoc G W H ls vs → ∀ a ∈ owned ls vs, Mut (H a)
  | [], [], _, _, h => nomatch h
  | none :: ls, v :: vs, r, a, h => repLoc_mut (ls := ls) (vs := vs) r a (by cases v <;> exact h)
  | some l :: ls, some v :: vs, ⟨r, q⟩, a, h => by
    cases l with
    | m c =>
      obtain ⟨b, e, r⟩ := r
      subst e
      rcases List.mem_cons.mp h with e | e
      · subst e; exact repM_mut r
      · exact repLoc_mut q a e
    | t p => exact repLoc_mut q a h
    | i n => exact repLoc_mut q a h
  | [], _ :: _, h, _, _ => h.elim
  | some _ :: _, [], h, _, _ => h.elim
  | none :: _, [], h, _, _ => h.elim
  | some _ :: _, none :: _, h, _, _ => h.elim
theorem R.mut (r : R G W st σ H) : ∀ a ∈ own W st σ, Mut (H a) := fun a h => by
  rcases List.mem_append.mp h with z | z
  · exact repLoc_mut r.loc a z
  · exact repMs_mut r.inh a z
theorem NoM.no {x : Option HO} (h : NoM x) (m : Mut x) : False := by
  cases x with
  | none => exact m
  | some u => cases u <;> first | exact m | exact h
theorem R.notownM (r : R G W st σ H) {a : Addr} (h : NoM (H a)) : a ∉ own W st σ := fun k => by
  have m := r.mut a k
  cases e : H a with
  | none => rw [e] at m; exact m
  | some u =>
    rw [e] at m h
    cases u <;> first | exact m | exact h
theorem R.growM (r : R G W st σ H) (f : Same W.F F') (h : ∀ b u, H b = some u → b ∈ own W st σ ∨ W.F b = some u → H' b = some u) (l : Same F' H') (n : ∀ b, F' b = W.F b ∨ NoM (H b)) : R G ⟨F', W.A⟩ st σ H' := by
  refine ⟨l, ?_, ?_, r.nd, fun a ha => ?_⟩
  · exact RepMs.mono f (fun a ha u e => h a u e (.inl (List.mem_append_right _ ha))) r.inh
  · exact RepLoc.mono f (fun a ha u e => h a u e (.inl (List.mem_append_left _ ha))) r.loc
  · rcases n a with e | e
    · exact e.trans (r.fr a ha)
    · exact absurd ha (r.notownM e)
theorem R.grow (r : R G W st σ H) (f : Same W.F F') (h : ∀ b u, H b = some u → b ∈ own W st σ ∨ W.F b = some u → H' b = some u) (l : Same F' H') (n : ∀ b, F' b = W.F b ∨ H b = none) : R G ⟨F', W.A⟩ st σ H' :=
  r.growM f h l fun b => (n b).imp_right .of
theorem same_upd {p : Addr} {o : HO} (h : H p = none) : Same H (upd H p o) := fun b u e => by rw [upd_ne (ne_of_none e h)]; exact e
theorem R.new (r : R G W st σ H) {p : Addr} {o : HO} (h : H p = none) : R G ⟨upd W.F p o, W.A⟩ st σ (upd H p o) := by
  have hf : W.F p = none := by
    cases e : W.F p with
    | none => rfl
    | some u => have := r.le p u e; rw [h] at this; cases this
  refine r.grow (same_upd hf) (fun b u e _ => same_upd h b u e) (fun b u e => ?_) fun b => ?_
  · by_cases q : b = p
    · subst q; rw [upd_same] at e ⊢; exact e
    · rw [upd_ne q] at e ⊢; exact r.le b u e
  · by_cases q : b = p
    · subst q; exact .inr h
    · exact .inl (upd_ne q)
theorem R.step_new (r : R G W st σ H) {p : Addr} {o : HO} (h : H p = none) : Step (own W st σ) W H (own ⟨upd W.F p o, W.A⟩ st σ) ⟨upd W.F p o, W.A⟩ (upd H p o) := by
  have hf : W.F p = none := by
    cases e : W.F p with
    | none => rfl
    | some u => have := r.le p u e; rw [h] at this; cases this
  exact ⟨same_upd hf, rfl, fun b => by
    by_cases q : b = p
    · subst q; exact .inr (.inl (.of h))
    · exact .inl (upd_ne q), fun b k => .inl k, fun b u e _ => same_upd h b u e⟩
end
def VRep (G : Gd) (F H : Hp) : PV → V → Prop
  | .lst xs, v => ∃ a vs, v = .ref a ∧ H a = some (.lst vs) ∧ RepL G F xs vs
  | .tup k xs, v => ∃ a vs, v = .ref a ∧ TupAt k F a vs ∧ RepL G F xs vs
  | .dtp kvs, v => ∃ a hs, v = .ref a ∧ Rd H a (.dT hs) ∧ RepT G F kvs hs
  | .dtn kvs, v => ∃ a o ks, v = .ref a ∧ F a = some (.frz o (dnO a ks)) ∧ RepN G F kvs ks
  | .dmx ks vs, v => ∃ a o hs us, v = .ref a ∧ F a = some (.frz o (dmO a hs us)) ∧ RepL G F ks hs ∧ RepL G F vs us
  | .dct kvs, v => ∃ a hs, v = .ref a ∧ Rd H a (.dK hs) ∧ RepK G F kvs hs
  | .obj c fs, v => ∃ a dx hs, v = .ref a ∧ H a = some (.ins (G.cls c) dx hs) ∧ RepF G F fs hs
  | .non, v => v = .non
  | .bl b, v => v = .bl b
  | .int i, v => v = .int i
  | .str x, v => v = .str x
  | .ty n, v => v = .ty n
  | .fn n, v => v = .ref (G.fn n)
  | .scr ns, v => ∃ a o, v = .ref a ∧ F a = some (.frz o (.lst (ns.map V.int)))
  | .xo c fs, v => Rep G F (.xo c fs) v
  | .tbl, v => ∃ a, v = .ref a
  | .adr a, v => v = .ref a
  | .clo f c q vs xs, v => v = .ref f ∧ F c = some (LamX.CodeO c q) ∧ RepL G F xs vs
section
variable {G : Gd} {W : Wd} {st : ST} {σ : Sg} {H : Hp}
theorem Rep.v {F : Hp} (l : Same F H) {p : PV} {v : V} (r : Rep G F p v) : VRep G F H p v := by
  cases r with
  | non => rfl
  | bl b => rfl
  | int i => rfl
  | str x => rfl
  | ty n => rfl
  | fn n => rfl
  | lst r q => exact ⟨_, _, rfl, l _ _ r, q⟩
  | scr r => exact ⟨_, _, rfl, r⟩
  | tup r q => exact ⟨_, _, rfl, r, q⟩
  | dct r q => exact ⟨_, _, rfl, rd_mono l r, q⟩
  | dtp r q => exact ⟨_, _, rfl, rd_mono l r, q⟩
  | dtn r q => exact ⟨_, _, _, rfl, r, q⟩
  | dmx r k q => exact ⟨_, _, _, _, rfl, r, k, q⟩
  | obj r q => exact ⟨_, _, _, rfl, l _ _ r, q⟩
  | xo r e q => exact .xo r e q
  | xo0 r => exact .xo0 r
  | tbl a => exact ⟨a, rfl⟩
  | adr a => rfl
  | clo e q => exact ⟨rfl, e, q⟩
theorem RepM.v {F : Hp} {c : MC} {a : Addr} (r : RepM G F H c a) : VRep G F H c.pv (.ref a) := by
  cases c with
  | lst xs => obtain ⟨vs, e, l⟩ := r; exact ⟨a, vs, rfl, e, l⟩
  | lsA b xs => obtain ⟨rfl, vs, e, l⟩ := r; rfl
  | dct xs => obtain ⟨vs, e, l⟩ := r; exact ⟨a, vs, rfl, .inl e, l⟩
  | dtp xs => obtain ⟨vs, e, l⟩ := r; exact ⟨a, vs, rfl, .inl e, l⟩
  | dtn xs => exact ⟨a, rfl⟩
  | obj c xs => obtain ⟨dx, vs, e, l⟩ := r; exact ⟨a, dx, vs, rfl, e, l⟩
  | tbl _ q => exact ⟨a, rfl⟩
theorem R.view (r : R G W st σ H) {x : SV} {v : V} {p : PV} (h : RepS G W σ x v) (e : view st x = some p) : VRep G W.F H p v := by
  cases x with
  | t q => simp [Cl.view] at e; subst e; exact Rep.v r.le h
  | pl q =>
    cases q with
    | sl j =>
      have e : (match st.loc[j]? with | some (some (.m c)) => some c.pv | _ => none) = some p := e
      split at e
      · rename_i c hc
        simp at e; subst e
        obtain ⟨u, e1, a, e2, k⟩ := r.loc.get hc
        have e3 : σ[j]? = some (some v) := h
        rw [e1] at e3
        cases e3
        subst e2
        exact k.v
      · cases e
    | ih n =>
      have e : (match st.inh[n]? with | some c => some c.pv | none => none) = some p := e
      split at e
      · rename_i c hc
        simp at e; subst e
        obtain ⟨a, e1, e2⟩ := h
        subst e1
        exact (RepMs.get r.inh hc e2).v
      · cases e
end
def Gv (G : Gd) (W : Wd) (st : ST) (σ : Sg) (H : Hp) (z : PV) (Q : VK) : Prop :=
  ∀ W' H' u, R G W' st σ H' → Step (own W st σ) W H (own W' st σ) W' H' → Rep G W'.F z u → Q u H'
section
variable {G : Gd} {W : Wd} {st : ST} {σ : Sg} {H : Hp} {z : PV} {Q : VK}
theorem Gv.here (g : Gv G W st σ H z Q) (r : R G W st σ H) {u : V} (h : Rep G W.F z u) : Q u H := g W H u r Step.refl h
theorem Gv.lst {xs : List PV} {vs : List V} (g : Gv G W st σ H (.lst xs) Q) (r : R G W st σ H) (h : RepL G W.F xs vs) : ∀ p, H p = none → Q (.ref p) (upd H p (.lst vs)) := fun p hp =>
  g ⟨upd W.F p (.lst vs), W.A⟩ _ _ (r.new hp) (r.step_new hp) (.lst upd_same (h.mono (r.step_new (o := .lst vs) hp).f))
theorem Gv.tup {k : TF} {xs : List PV} {vs : List V} (g : Gv G W st σ H (.tup k xs) Q) (r : R G W st σ H) (h : RepL G W.F xs vs) (hk : k ≠ .x := by decide) : ∀ p, H p = none → Q (.ref p) (upd H p (.tup vs)) := fun p hp =>
  g ⟨upd W.F p (.tup vs), W.A⟩ _ _ (r.new hp) (r.step_new hp) (.tup (.new hk) (h.mono (r.step_new (o := .tup vs) hp).f))
theorem Gv.dtp {xs : List (List Key × PV)} {vs : List (List Key × V)} (g : Gv G W st σ H (.dtp xs) Q) (r : R G W st σ H) (h : RepT G W.F xs vs) : ∀ p, H p = none → Q (.ref p) (upd H p (.dT vs)) := fun p hp =>
  g ⟨upd W.F p (.dT vs), W.A⟩ _ _ (r.new hp) (r.step_new hp) (.dtp (.inl upd_same) (h.mono (r.step_new (o := .dT vs) hp).f))
theorem Gv.dct {xs : List (PV × PV)} {vs : List (Key × V)} (g : Gv G W st σ H (.dct xs) Q) (r : R G W st σ H) (h : RepK G W.F xs vs) : ∀ p, H p = none → Q (.ref p) (upd H p (.dK vs)) := fun p hp =>
  g ⟨upd W.F p (.dK vs), W.A⟩ _ _ (r.new hp) (r.step_new hp) (.dct (.inl upd_same) (h.mono (r.step_new (o := .dK vs) hp).f))
end
def ofO (st : ST) (o : Option PV) : Out SV :=
  match o with
  | some p => .ok (.t p) st
  | none => .stuck
def cC (p : PV) : Cm SV := fun st => .ok (.t p) st
def cVar (i : Nat) : Cm SV := fun st => match st.loc[i]? with
  | some (some (.t p)) => .ok (.t p) st
  | some (some (.m _)) => .ok (.pl (.sl i)) st
  | some (some (.i n)) => .ok (.pl (.ih n)) st
  | _ => .stuck
def cUn (f : PV → Option PV) (fa : Cm SV) : Cm SV := fun st => (fa st).bind fun x st1 => ofO st1 ((view st1 x).bind f)
def cBin (f : PV → PV → Option PV) (fa fb : Cm SV) : Cm SV := fun st => (fa st).bind fun x st1 => (fb st1).bind fun y st2 =>
  ofO st2 ((view st2 x).bind fun p => (view st2 y).bind fun q => f p q)
def cNil : Cm (List SV) := fun st => .ok [] st
def cCons (fa : Cm SV) (fr : Cm (List SV)) : Cm (List SV) := fun st => (fa st).bind fun x st1 => (fr st1).bind fun xs st2 => .ok (x :: xs) st2
def views (st : ST) : List SV → Option (List PV)
  | [] => some []
  | x :: xs => (view st x).bind fun p => (views st xs).bind fun ps => some (p :: ps)
def cList (f : List PV → Option PV) (fa : Cm (List SV)) : Cm SV := fun st => (fa st).bind fun xs st1 => ofO st1 ((views st1 xs).bind f)
section
variable {G : Gd} {X : Cx} {Wx : WX} {σ : Sg} {H : Hp} {α α' β β' : Type}
theorem OutA.mono {rel : Wd → Sg → α → β → Prop} {W : Wd} {st : ST} {o : Out α} {Q Q' : β → Hp → Prop} (h : OutA G Wx rel W st σ H o Q) (i : ∀ u H, Q u H → Q' u H) : OutA G Wx rel W st σ H o Q' := by
  cases o with
  | ok v st' => exact fun W' H' u r s q => i _ _ (h W' H' u r s q)
  | exc c fs st' => exact h
  | stuck => exact h
theorem tA_mono {rel : Wd → Sg → α → β → Prop} {f : Cm α} {Q Q' : β → Hp → Prop} (h : tA G Wx rel f σ H Q) (i : ∀ u H, Q u H → Q' u H) : tA G Wx rel f σ H Q' :=
  let ⟨W, st, r, o⟩ := h
  ⟨W, st, r, o.mono i⟩
theorem tA_then {rel : Wd → Sg → α → β → Prop} {rel' : Wd → Sg → α' → β' → Prop} {f : Cm α} {k : α → ST → Out α'} {W : Wd} {st : ST} {Q : β' → Hp → Prop}
    (r : R G W st σ H) (h : OutA G Wx rel' W st σ H ((f st).bind k) Q) :
    tA G Wx rel f σ H fun u H1 => ∃ W1 st1 v, R G W1 st1 σ H1 ∧ Same W.F W1.F ∧ W1.A = W.A ∧ rel W1 σ v u ∧ OutA G Wx rel' W1 st1 σ H1 (k v st1) Q :=
  ⟨W, st, r, OutA.bind h⟩
theorem ofO_some {W : Wd} {st : ST} {o : Option PV} {Q : VK} (h : OutE G Wx W st σ H (ofO st o) Q) : ∃ z, o = some z ∧ Gv G W st σ H z Q := by
  cases o with
  | none => exact h.elim
  | some z => exact ⟨z, rfl, fun W' H' u r s q => h W' H' u r s q⟩
def Snd1 (G : Gd) (r : V → Hp → VK → Prop) (f : PV → Option PV) : Prop :=
  ∀ (W : Wd) (st : ST) (σ : Sg) (H : Hp) (p z : PV) (u : V) (Q : VK), R G W st σ H → VRep G W.F H p u → f p = some z → Gv G W st σ H z Q → r u H Q
def Snd2 (G : Gd) (r : V → V → Hp → VK → Prop) (f : PV → PV → Option PV) : Prop :=
  ∀ (W : Wd) (st : ST) (σ : Sg) (H : Hp) (p q z : PV) (u v : V) (Q : VK), R G W st σ H → VRep G W.F H p u → VRep G W.F H q v → f p q = some z → Gv G W st σ H z Q → r u v H Q
def VReps (G : Gd) (F H : Hp) : List PV → List V → Prop := Paired (VRep G F H)
def SndL (G : Gd) (r : List V → Hp → VK → Prop) (f : List PV → Option PV) : Prop :=
  ∀ (W : Wd) (st : ST) (σ : Sg) (H : Hp) (ps : List PV) (z : PV) (us : List V) (Q : VK), R G W st σ H → VReps G W.F H ps us → f ps = some z → Gv G W st σ H z Q → r us H Q
theorem un_step {r : V → Hp → VK → Prop} {f : PV → Option PV} {fa : Cm SV} {Q : VK} (s : Snd1 G r f) (h : tE G Wx (cUn f fa) σ H Q) : tE G Wx fa σ H fun u H1 => r u H1 Q := by
  refine tA_mono (tA_seq (rel := RepS G) (rel' := RepS G) h) fun u H1 ⟨W1, st1, v, r1, q1, o⟩ => ?_
  obtain ⟨z, e, g⟩ := ofO_some o
  obtain ⟨p, e1, e2⟩ := Option.bind_eq_some_iff.mp e
  exact s W1 st1 σ H1 p z u Q r1 (r1.view q1 e1) e2 g
theorem bin_step {r : V → V → Hp → VK → Prop} {f : PV → PV → Option PV} {fa fb : Cm SV} {Q : VK} (s : Snd2 G r f) (h : tE G Wx (cBin f fa fb) σ H Q) :
    tE G Wx fa σ H fun u H1 => tE G Wx fb σ H1 fun v H2 => r u v H2 Q := by
  obtain ⟨W, st, r0, o⟩ := h
  refine tA_mono (tA_then (rel := RepS G) (rel' := RepS G) r0 o) fun u H1 ⟨W1, st1, x, r1, _, _, q1, o1⟩ => ?_
  refine tA_mono (tA_then (rel := RepS G) (rel' := RepS G) r1 o1) fun v H2 ⟨W2, st2, y, r2, f2, a2, q2, o2⟩ => ?_
  obtain ⟨z, e, g⟩ := ofO_some o2
  obtain ⟨p, e1, e⟩ := Option.bind_eq_some_iff.mp e
  obtain ⟨q, e2, e3⟩ := Option.bind_eq_some_iff.mp e
  exact s W2 st2 σ H2 p q z u v Q r2 (r2.view (q1.mono f2 a2) e1) (r2.view q2 e2) e3 g
theorem views_reps {W : Wd} {st : ST} (r : R G W st σ H) : ∀ {xs : List SV} {vs : List V} {ps : List PV}, RepSs G W σ xs vs → views st xs = some ps → VReps G W.F H ps vs
  | _, _, _, .nil, e => by simp [views] at e; subst e; exact .nil
  | _, _, _, .cons q l, e => by
    obtain ⟨p, e1, e⟩ := Option.bind_eq_some_iff.mp e
    obtain ⟨ps, e2, e3⟩ := Option.bind_eq_some_iff.mp e
    simp at e3
    subst e3
    exact .cons (r.view q e1) (views_reps r l e2)
theorem list_step {r : List V → Hp → VK → Prop} {f : List PV → Option PV} {fa : Cm (List SV)} {Q : VK} (s : SndL G r f) (h : tE G Wx (cList f fa) σ H Q) : tL G Wx fa σ H fun us H1 => r us H1 Q := by
  refine tA_mono (tA_seq (rel := RepSs G) (rel' := RepS G) h) fun us H1 ⟨W1, st1, v, r1, q1, o⟩ => ?_
  obtain ⟨z, e, g⟩ := ofO_some o
  obtain ⟨ps, e1, e2⟩ := Option.bind_eq_some_iff.mp e
  exact s W1 st1 σ H1 ps z us Q r1 (views_reps r1 q1 e1) e2 g
variable {e a b : Expr} {es : List Expr} {pos p : Pos} {x : PySem.Str} {fa fb : Cm SV} {fr : Cm (List SV)}
theorem ce_C {v : PV} {u : V} (h : PE X e (tC u)) (r : ∀ F, Rep G F v u) : CE G X Wx e (cC v) := ⟨pe_imp h fun σ H Q ⟨W, st, r0, o⟩ => o W H u r0 Step.refl (r _)⟩
theorem ce_int {i j pos} : CE G X Wx (.Constant (.int i) j pos) (cC (.int i)) := ce_C pe_int fun _ => .int i
theorem ce_bl {i j pos} : CE G X Wx (.Constant (.bool i) j pos) (cC (.bl i)) := ce_C pe_bl fun _ => .bl i
theorem ce_non {j pos} : CE G X Wx (.Constant .none j pos) (cC .non) := ce_C pe_non fun _ => .non
theorem ce_str {i j pos} : CE G X Wx (.Constant (.str i) j pos) (cC (.str i)) := ce_C pe_str fun _ => .str i
theorem ce_var (i : Nat) (hN : X.N[i]? = some x := by rfl) (hv : Vis X.env.scope x := by first | exact Or.inl rfl | exact Or.inr (Or.inl rfl) | exact Or.inr (Or.inr rfl))
    (hd : (x == ("__debug__" : PySem.Str)) = false := by decide) (hcd : (x == ("__classdict__" : PySem.Str)) = false := by decide) : CE G X Wx (.Name x pos) (cVar i) := by
  refine ⟨pe_imp (pe_var hN hv hd hcd) fun σ H Q ⟨W, st, r, o⟩ => ?_⟩
  unfold cVar at o
  split at o
  · rename_i q hq
    obtain ⟨v, e1, k⟩ := r.loc.get hq
    exact ⟨v, e1, o W H v r Step.refl k⟩
  · rename_i c hq
    obtain ⟨v, e1, k⟩ := r.loc.get hq
    exact ⟨v, e1, o W H v r Step.refl e1⟩
  · rename_i n hq
    obtain ⟨v, e1, k⟩ := r.loc.get hq
    exact ⟨v, e1, o W H v r Step.refl k⟩
  · exact o.elim
theorem ce_glob {n : Nat} {f : Addr} (hg : Gl X x) (hm : X.mg x = some (.ref f)) (hf : G.fn n = f) (hd : (x == ("__debug__" : PySem.Str)) = false := by decide) : CE G X Wx (.Name x pos) (cC (.fn n)) :=
  ce_C (pe_glob (v := .ref f) hg hm rfl hd) fun _ => hf ▸ .fn n
theorem ca_nil : CA G X Wx [] cNil := ⟨pa_imp pa_nil fun σ H Q ⟨W, st, r, o⟩ => o W H [] r Step.refl .nil⟩
theorem ca_cons (ha : CE G X Wx e fa) (hr : CA G X Wx es fr) (hs : starEach (e :: es) X.env = (false, eval e X.env) :: starEach es X.env := by rfl) : CA G X Wx (e :: es) (cCons fa fr) := by
  refine ⟨pa_imp (pa_cons ha.pe hr.pa hs) fun σ H Q ⟨W, st, r0, o⟩ => ?_⟩
  refine tA_mono (tA_then (rel := RepS G) (rel' := RepSs G) r0 o) fun u H1 ⟨W1, st1, x, r1, _, _, q1, o1⟩ => ?_
  refine tA_mono (tA_then (rel := RepSs G) (rel' := RepSs G) r1 o1) fun vs H2 ⟨W2, st2, ys, r2, f2, a2, q2, o2⟩ => ?_
  exact o2 W2 H2 (u :: vs) r2 Step.refl (.cons (q1.mono f2 a2) q2)
def cTruth (fa : Cm SV) : Cm Bool := fun st => (fa st).bind fun x st1 => match x with
  | .t (.bl b) => .ok b st1
  | _ => .stuck
theorem ct_val (h : CE G X Wx e fa) (he : ∀ whole, isTrue e X.env whole = (do let v ← whole; standAt e.pos; holding [v] (truthy v)) := by intro _; rfl) : CT G X Wx e (cTruth fa) := by
  refine ⟨pt_imp (pt_val h.pe he) fun σ H Q q => ?_⟩
  refine tA_mono (tA_seq (rel := RepS G) (rel' := RepB) q) fun u H1 ⟨W1, st1, v, r1, q1, o⟩ => ?_
  split at o
  · rename_i b
    cases q1
    exact ⟨b, rfl, o W1 H1 b r1 Step.refl rfl⟩
  · exact o.elim
def cAnd (f g : Cm Bool) : Cm Bool := fun st => (f st).bind fun b st1 => if b = true then g st1 else .ok false st1
def cOr (f g : Cm Bool) : Cm Bool := fun st => (f st).bind fun b st1 => if b = true then .ok true st1 else g st1
def cNot (f : Cm Bool) : Cm Bool := fun st => (f st).bind fun b st1 => .ok (!b) st1
structure CW (G : Gd) (X : Cx) (Wx : WX) (e : Expr) (f : Cm Bool) : Prop where
  pw : PW X e (tT G Wx f)
theorem CW.ct {f : Cm Bool} (h : CW G X Wx e f) : CT G X Wx e f := ⟨h.pw.pt⟩
theorem pw_imp {t t' : TT} (h : PW X e t) (i : ∀ σ H Q, t' σ H Q → t σ H Q) : PW X e t' := ⟨fun wh pn s σ H Q I q => h.run wh pn s σ H Q I (i σ H Q q)⟩
variable {f g : Cm Bool} {rest : List Expr}
theorem cw_or1 (h : CT G X Wx a f) : CW G X Wx (.BoolOp .Or [a] pos) f := ⟨pw_or1 h.pt⟩
theorem cw_or (ha : CT G X Wx a f) (hb : CW G X Wx (.BoolOp .Or (b :: rest) pos) g) : CW G X Wx (.BoolOp .Or (a :: b :: rest) pos) (cOr f g) := by
  refine ⟨pw_imp (pw_or ha.pt hb.pw) fun σ H Q q => ?_⟩
  refine tA_mono (tA_seq (rel := RepB) (rel' := RepB) q) fun c H1 ⟨W1, st1, v, r1, q1, o⟩ => ?_
  cases q1
  cases c with
  | true => exact o W1 H1 true r1 Step.refl rfl
  | false => exact ⟨W1, st1, r1, o⟩
def cAndV (fa fb : Cm SV) : Cm SV := fun st => (fa st).bind fun x st1 => match x with
  | .t (.bl true) => fb st1
  | .t (.bl false) => .ok (.t (.bl false)) st1
  | _ => .stuck
def cOrV (fa fb : Cm SV) : Cm SV := fun st => (fa st).bind fun x st1 => match x with
  | .t (.bl true) => .ok (.t (.bl true)) st1
  | .t (.bl false) => fb st1
  | _ => .stuck
def cNotV (fa : Cm SV) : Cm SV := fun st => (fa st).bind fun x st1 => match x with
  | .t (.bl c) => .ok (.t (.bl (!c))) st1
  | _ => .stuck
def cIf {α : Type} (t : Cm Bool) (f g : Cm α) : Cm α := fun st => (t st).bind fun b st1 => if b = true then f st1 else g st1
end
end Cl
set_option maxHeartbeats 4000000
namespace Cl
open PySem PySem.Spec PyProof.Rows L2
section
variable {X : Cx}
theorem opR_or {f : Value → Value → Sem Value} {r r' : R2} (h : OpR X f r) (h' : OpR X f r') : OpR X f fun x y H Q => r x y H Q ∨ r' x y H Q := by
  intro pn s g K x y v u Q I rx ry q
  rcases q with q | q
  · exact h pn s g K x y v u Q I rx ry q
  · exact h' pn s g K x y v u Q I rx ry q
theorem callR_or {f : Value} {r r' : List V → Hp → VK → Prop} (h : CallR X f r) (h' : CallR X f r') : CallR X f fun xs H Q => r xs H Q ∨ r' xs H Q := by
  intro pn s g K xs us Q I rx q
  rcases q with q | q
  · exact h pn s g K xs us Q I rx q
  · exact h' pn s g K xs us Q I rx q
end
mutual
def toD : PV → Option PyData
  | .non => some .none
  | .bl b => some (.bool b)
  | .int i => some (.int i)
  | .str x => some (.str x)
  | .lst xs => (toDs xs).map .list
  | .tup _ xs => (toDs xs).map .tuple
  | _ => none
def toDs : List PV → Option (List PyData)
  | [] => some []
  | x :: xs => (toD x).bind fun d => (toDs xs).map fun ds => d :: ds
end
section
variable {G : Gd} {K : PySem.W.Frag} {F H : Hp}
mutual
theorem dp_of (l : Same F H) : ∀ {p : PV} {v : V} {d : PyData}, Rep G F p v → toD p = some d → Dp K H v d
  | .non, _, _, .non, h => by simp [toD] at h; subst h; exact .non
  | .bl b, _, _, .bl _, h => by simp [toD] at h; subst h; exact .bl b
  | .int b, _, _, .int _, h => by simp [toD] at h; subst h; exact .int b
  | .str b, _, _, .str _, h => by simp [toD] at h; subst h; exact .str b
  | .lst xs, _, _, .lst r q, h => by
    simp only [toD, Option.map_eq_some_iff] at h
    obtain ⟨ds, e, rfl⟩ := h
    exact .lst (.inl (.inl (l _ _ r))) (dps_of l q e)
  | .tup _ xs, _, _, .tup r q, h => by
    simp only [toD, Option.map_eq_some_iff] at h
    obtain ⟨ds, e, rfl⟩ := h
    exact .tup (r.sq l) (dps_of l q e)
  | .dct _, _, _, _, h => by simp [toD] at h
  | .dtp _, _, _, _, h => by simp [toD] at h
  | .dtn _, _, _, _, h => by simp [toD] at h
  | .dmx _ _, _, _, _, h => by simp [toD] at h
  | .obj _ _, _, _, _, h => by simp [toD] at h
  | .ty _, _, _, _, h => by simp [toD] at h
  | .fn _, _, _, _, h => by simp [toD] at h
  | .scr _, _, _, _, h => by simp [toD] at h
  | .xo _ _, _, _, _, h => by simp [toD] at h
  | .tbl, _, _, _, h => by simp [toD] at h
  | .adr _, _, _, _, h => by simp [toD] at h
  | .clo _ _ _ _ _, _, _, _, h => by simp [toD] at h
theorem dps_of (l : Same F H) : ∀ {ps : List PV} {vs : List V} {ds : List PyData}, RepL G F ps vs → toDs ps = some ds → DpAll K H vs ds
  | [], _, _, .nil, h => by simp [toDs] at h; subst h; exact .nil
  | x :: xs, _, _, .cons r q, h => by
    obtain ⟨d, e1, h⟩ := Option.bind_eq_some_iff.mp h
    simp only [Option.map_eq_some_iff] at h
    obtain ⟨ds, e2, rfl⟩ := h
    exact .cons (dp_of l r e1) (dps_of l q e2)
end
theorem VRep.dp (l : Same F H) {p : PV} {v : V} {d : PyData} (r : VRep G F H p v) (h : toD p = some d) : Dp K H v d := by
  cases p with
  | non => cases r; simp [toD] at h; subst h; exact .non
  | bl b => cases r; simp [toD] at h; subst h; exact .bl b
  | int b => cases r; simp [toD] at h; subst h; exact .int b
  | str b => cases r; simp [toD] at h; subst h; exact .str b
  | lst xs =>
    obtain ⟨a, vs, rfl, rd, q⟩ := r
    simp only [toD, Option.map_eq_some_iff] at h
    obtain ⟨ds, e, rfl⟩ := h
    exact .lst (.inl (.inl rd)) (dps_of l q e)
  | tup k xs =>
    obtain ⟨a, vs, rfl, rd, q⟩ := r
    simp only [toD, Option.map_eq_some_iff] at h
    obtain ⟨ds, e, rfl⟩ := h
    exact .tup (rd.sq l) (dps_of l q e)
  | dct _ => simp [toD] at h
  | dtp _ => simp [toD] at h
  | dtn _ => simp [toD] at h
  | dmx _ _ => simp [toD] at h
  | obj _ _ => simp [toD] at h
  | ty _ => simp [toD] at h
  | fn _ => simp [toD] at h
  | scr _ => simp [toD] at h
  | xo _ _ => simp [toD] at h
  | tbl => simp [toD] at h
  | adr _ => simp [toD] at h
  | clo _ _ _ => simp [toD] at h
end
def szOk (n : Nat) : Bool := decide (n ≤ 16777216)
theorem szOk_le {n : Nat} (h : szOk n = true) : n ≤ sizeLine := by rw [sizeLine_eq]; exact of_decide_eq_true h
def pAdd : PV → PV → Option PV
  | .int i, .int j => some (.int (i + j))
  | .lst xs, .lst ys => if szOk (xs.length + ys.length) then some (.lst (xs ++ ys)) else none
  | .tup k xs, .tup l ys => if szOk (xs.length + ys.length) then some (.tup (k.join l) (xs ++ ys)) else none
  | .str x, .str y => if szOk (x.length + y.length) then some (.str (x ++ y)) else none
  | _, _ => none
def pSub : PV → PV → Option PV
  | .int i, .int j => some (.int (i - j))
  | _, _ => none
def small64 (i : Int) : Bool := decide (i.natAbs < 18446744073709551616)
def pMul : PV → PV → Option PV
  | .int i, .int j => if small64 i || small64 j then some (.int (i * j)) else none
  | .lst xs, .int k => if decide (0 ≤ k) && (decide (k.natAbs < 4611686018427387904) && szOk (xs.length * k.toNat)) then some (.lst (List.replicate k.toNat xs).flatten) else none
  | _, _ => none
def pDiv : PV → PV → Option PV
  | .int i, .int j => if decide (0 < j) && decide (j.natAbs < 1073741824) then some (.int (i / j)) else none
  | _, _ => none
def pMod : PV → PV → Option PV
  | .int i, .int j => if decide (0 < j) then some (.int (i % j)) else none
  | _, _ => none
def pPow : PV → PV → Option PV
  | .int i, .int j => if decide (0 ≤ j) && (decide (j ≤ 1000000) && decide (i.natAbs < 2 ^ 64)) then some (.int (i ^ j.toNat)) else none
  | _, _ => none
def pNeg : PV → Option PV
  | .int i => some (.int (-i))
  | _ => none
def pCmp (f : Int → Int → Bool) : PV → PV → Option PV
  | .int i, .int j => some (.bl (f i j))
  | _, _ => none
abbrev pLt := pCmp fun i j => decide (i < j)
abbrev pGt := pCmp fun i j => decide (j < i)
def dEq (d e : PyData) : Option Bool := if SeqAt.shaped d && SeqAt.shaped e then some (PyData.eqv d e) else none
def pEqB : PV → PV → Option Bool
  | .str x, .str y => some (decide (x = y))
  | p, q => (toD p).bind fun d => (toD q).bind fun e => dEq d e
def pEq (p q : PV) : Option PV := (pEqB p q).map .bl
def pNe (p q : PV) : Option PV := (pEqB p q).map fun b => .bl (!b)
section
variable {G : Gd} {X : Cx}
def rAdds (K : PySem.W.Frag) : R2 := fun x y H Q => (rI0 (fun i j => .int (i + j)) x y H Q ∨ rCat x y H Q) ∨ (rCatA K x y H Q ∨ ∃ i j, x = .str i ∧ y = .str j ∧ i.length + j.length ≤ sizeLine ∧ Q (.str (i ++ j)) H)
theorem op_adds : OpR X (binaryOp .Add) (rAdds X.K) := opR_or (opR_or op_add op_cat) (opR_or op_catA op_add_str)
theorem snd_add {K : PySem.W.Frag} : Snd2 G (rAdds K) pAdd := by
  intro W st σ H p q z u v Q r a b e g
  unfold pAdd at e
  split at e
  · cases e; cases a; cases b
    exact .inl (.inl ⟨_, _, rfl, rfl, g.here r (.int _)⟩)
  · split at e
    · rename_i xs ys hz
      cases e
      obtain ⟨a1, v1, rfl, d1, l1⟩ := a
      obtain ⟨a2, v2, rfl, d2, l2⟩ := b
      exact .inl (.inr ⟨_, _, _, _, rfl, rfl, d1, d2, by rw [← l1.length, ← l2.length]; exact szOk_le hz, g.lst r (l1.append l2)⟩)
    · cases e
  · split at e
    · rename_i xs ys hz
      cases e
      obtain ⟨a1, v1, rfl, d1, l1⟩ := a
      obtain ⟨a2, v2, rfl, d2, l2⟩ := b
      refine .inr (.inl ⟨_, _, _, _, rfl, rfl, d1.sq r.le, d2.sq r.le, by rw [← l1.length, ← l2.length]; exact szOk_le hz, fun e1 => ?_, fun _ e2 => ?_, fun _ _ => g.tup r (l1.append l2) TF.join_x⟩)
      · subst e1; cases l1; exact g.here r (.tup d2.joinR l2)
      · subst e2; cases l2; rw [List.append_nil] at g; exact g.here r (.tup d1.joinL l1)
    · cases e
  · split at e
    · rename_i xs ys hz
      cases e; cases a; cases b
      exact .inr (.inr ⟨_, _, rfl, rfl, szOk_le hz, g.here r (.str _)⟩)
    · cases e
  · cases e
theorem small64_p {i : Int} (h : small64 i = true) : -(2 ^ 64) < i ∧ i < 2 ^ 64 := by
  have := of_decide_eq_true h
  omega
def rMuls : R2 := fun x y H Q => rI CMul (fun i j => .int (i * j)) x y H Q ∨ rRep x y H Q
theorem op_muls : OpR X (binaryOp .Mult) rMuls := opR_or op_mul op_rep
theorem RepL.rep {F : Hp} {ps : List PV} {vs : List V} (h : RepL G F ps vs) : ∀ k : Nat, RepL G F (List.replicate k ps).flatten (List.replicate k vs).flatten
  | 0 => .nil
  | k + 1 => by
    rw [List.replicate_succ, List.replicate_succ, List.flatten_cons, List.flatten_cons]
    exact h.append (RepL.rep h k)
theorem snd_mul : Snd2 G rMuls pMul := by
  intro W st σ H p q z u v Q r a b e g
  unfold pMul at e
  split at e
  · split at e
    · rename_i hz
      cases e; cases a; cases b
      refine .inl ⟨_, _, rfl, rfl, ?_, g.here r (.int _)⟩
      rcases Bool.or_eq_true_iff.mp hz with h | h
      · exact .inl (small64_p h)
      · exact .inr (small64_p h)
    · cases e
  · split at e
    · rename_i xs k hz
      cases e; cases b
      obtain ⟨a1, v1, rfl, d1, l1⟩ := a
      simp only [Bool.and_eq_true, decide_eq_true_eq] at hz
      obtain ⟨h0, h1, h2⟩ := hz
      exact .inr ⟨_, _, _, rfl, rfl, d1, by omega, by omega, by rw [← l1.length]; exact szOk_le h2, g.lst r (l1.rep _)⟩
    · cases e
  · cases e
theorem snd_mod : Snd2 G (rI (fun _ j => 0 < j) fun i j => .int (i % j)) pMod := by
  intro W st σ H p q z u v Q r a b e g
  unfold pMod at e
  split at e
  · split at e
    · rename_i hz
      cases e; cases a; cases b
      exact ⟨_, _, rfl, rfl, of_decide_eq_true hz, g.here r (.int _)⟩
    · cases e
  · cases e
theorem snd_pow : Snd2 G (rI CPow fun i j => .int (i ^ j.toNat)) pPow := by
  intro W st σ H p q z u v Q r a b e g
  unfold pPow at e
  split at e
  · split at e
    · rename_i hz
      cases e; cases a; cases b
      simp only [Bool.and_eq_true, decide_eq_true_eq] at hz
      exact ⟨_, _, rfl, rfl, hz, g.here r (.int _)⟩
    · cases e
  · cases e
theorem snd_cmp (f : Int → Int → Bool) : Snd2 G (rI0 fun i j => .bl (f i j)) (pCmp f) := by
  intro W st σ H p q z u v Q r a b e g
  unfold pCmp at e
  split at e
  · cases e; cases a; cases b
    exact ⟨_, _, rfl, rfl, g.here r (.bl _)⟩
  · cases e
def rEqs (K : PySem.W.Frag) (k : Bool → Bool) (r : R2) : R2 := fun x y H Q => r x y H Q ∨ ∃ d e, Dp K H x d ∧ Dp K H y e ∧ SeqAt.shaped d = true ∧ SeqAt.shaped e = true ∧ Q (.bl (k (PyData.eqv d e))) H
theorem op_eqs (hu : X.A.units + 64 < cLine) : OpR X (compareOp .Eq) (rEqs X.K id rEq) := opR_or op_eq (op_eqD hu)
theorem op_nes (hu : X.A.units + 64 < cLine) : OpR X (compareOp .NotEq) (rEqs X.K not rNe) := opR_or op_ne (op_neD hu)
theorem dEq_p {d e : PyData} {b : Bool} (h : dEq d e = some b) : SeqAt.shaped d = true ∧ SeqAt.shaped e = true ∧ PyData.eqv d e = b := by
  unfold dEq at h
  split at h
  · rename_i q
    obtain ⟨q1, q2⟩ := Bool.and_eq_true_iff.mp q
    exact ⟨q1, q2, Option.some.inj h⟩
  · cases h
theorem pEqB_p {K : PySem.W.Frag} {F H : Hp} (l : Same F H) {p q : PV} {u v : V} {c : Bool} (a : VRep G F H p u) (b : VRep G F H q v) (h : pEqB p q = some c) :
    (scal u v = true ∧ decide (u = v) = c) ∨ ∃ d e, Dp K H u d ∧ Dp K H v e ∧ SeqAt.shaped d = true ∧ SeqAt.shaped e = true ∧ PyData.eqv d e = c := by
  unfold pEqB at h
  split at h
  · rename_i x y
    cases a; cases b
    refine .inl ⟨rfl, ?_⟩
    have e := Option.some.inj h
    rw [← e, Bool.eq_iff_iff]
    simp
  · obtain ⟨d, e1, h⟩ := Option.bind_eq_some_iff.mp h
    obtain ⟨e, e2, h⟩ := Option.bind_eq_some_iff.mp h
    obtain ⟨h1, h2, h3⟩ := dEq_p h
    exact .inr ⟨d, e, a.dp l e1, b.dp l e2, h1, h2, h3⟩
theorem snd_eq {K : PySem.W.Frag} : Snd2 G (rEqs K id rEq) pEq := by
  intro W st σ H p q z u v Q r a b e g
  unfold pEq at e
  simp only [Option.map_eq_some_iff] at e
  obtain ⟨c, e, rfl⟩ := e
  rcases pEqB_p (K := K) r.le a b e with ⟨h1, h2⟩ | ⟨d, e, d1, d2, s1, s2, h⟩
  · exact .inl ⟨h1, by rw [h2]; exact g.here r (.bl _)⟩
  · exact .inr ⟨d, e, d1, d2, s1, s2, by rw [h]; exact g.here r (.bl _)⟩
theorem snd_ne {K : PySem.W.Frag} : Snd2 G (rEqs K not rNe) pNe := by
  intro W st σ H p q z u v Q r a b e g
  unfold pNe at e
  simp only [Option.map_eq_some_iff] at e
  obtain ⟨c, e, rfl⟩ := e
  rcases pEqB_p (K := K) r.le a b e with ⟨h1, h2⟩ | ⟨d, e, d1, d2, s1, s2, h⟩
  · exact .inl ⟨h1, by rw [h2]; exact g.here r (.bl _)⟩
  · exact .inr ⟨d, e, d1, d2, s1, s2, by rw [h]; exact g.here r (.bl _)⟩
end
end Cl
set_option maxHeartbeats 4000000
namespace Cl
open PySem PySem.Spec PyProof.Rows L2
section
variable {G : Gd} {X : Cx} {Wx : WX} {a b c e : Expr} {es : List Expr} {pos p : Pos} {fa fb fc : Cm SV} {fs : Cm (List SV)} {f f' : PV → PV → Option PV}
theorem ce_op {op : Operator} {r : R2} (ho : OpR X (binaryOp op) r) (hs : Snd2 G r f) (ha : CE G X Wx a fa) (hb : CE G X Wx b fb) : CE G X Wx (.BinOp a op b pos) (cBin f fa fb) :=
  ⟨pe_imp (pe_op ho ha.pe hb.pe) fun σ H Q q => bin_step hs q⟩
theorem ce_add (ha : CE G X Wx a fa) (hb : CE G X Wx b fb) : CE G X Wx (.BinOp a .Add b pos) (cBin pAdd fa fb) := ce_op op_adds snd_add ha hb
theorem ce_mul (ha : CE G X Wx a fa) (hb : CE G X Wx b fb) : CE G X Wx (.BinOp a .Mult b pos) (cBin pMul fa fb) := ce_op op_muls snd_mul ha hb
theorem ce_mod (ha : CE G X Wx a fa) (hb : CE G X Wx b fb) : CE G X Wx (.BinOp a .Mod b pos) (cBin pMod fa fb) := ce_op op_mod snd_mod ha hb
theorem ce_pow (ha : CE G X Wx a fa) (hb : CE G X Wx b fb) : CE G X Wx (.BinOp a .Pow b pos) (cBin pPow fa fb) := ce_op op_pow snd_pow ha hb
structure CmpR (G : Gd) (X : Cx) (op : CmpOp) (f : PV → PV → Option PV) : Prop where
  ex : ∃ r, OpR X (compareOp op) r ∧ Snd2 G r f
theorem cm_lt : CmpR G X .Lt pLt := ⟨_, opB0 fun _ _ _ _ _ _ _ q => lt_int q, snd_cmp _⟩
theorem cm_eq (hu : X.A.units + 64 < cLine) : CmpR G X .Eq pEq := ⟨_, op_eqs hu, snd_eq⟩
theorem cm_ne (hu : X.A.units + 64 < cLine) : CmpR G X .NotEq pNe := ⟨_, op_nes hu, snd_ne⟩
theorem ce_cmp {op : CmpOp} (hc : CmpR G X op f) (ha : CE G X Wx a fa) (hb : CE G X Wx b fb) (hm : behindInMarks op b = false) : CE G X Wx (.Compare a [op] [b] pos) (cBin f fa fb) := by
  obtain ⟨r, ho, hs⟩ := hc.ex
  exact ⟨pe_imp (pe_cmpR ho ha.pe hb.pe hm) fun σ H Q q => bin_step hs q⟩
theorem truth_step {σ : Sg} {H : Hp} {Q : Bool → Hp → Prop} (q : tT G Wx (cTruth fa) σ H Q) : tE G Wx fa σ H fun x H' => ∃ k, x = .bl k ∧ Q k H' := by
  refine tA_mono (tA_seq (rel := RepS G) (rel' := RepB) q) fun u H1 ⟨W1, st1, v, r1, q1, o⟩ => ?_
  split at o
  · rename_i k
    cases q1
    exact ⟨k, rfl, o W1 H1 k r1 Step.refl rfl⟩
  · exact o.elim
theorem ct_cmp {op : CmpOp} (hc : CmpR G X op f) (ha : CE G X Wx a fa) (hb : CE G X Wx b fb) (hm : behindInMarks op b = false) : CT G X Wx (.Compare a [op] [b] pos) (cTruth (cBin f fa fb)) := by
  obtain ⟨r, ho, hs⟩ := hc.ex
  exact ⟨pt_imp (pt_cmpR ho ha.pe hb.pe hm) fun σ H Q q => bin_step hs (truth_step q)⟩
def cChain (f f' : PV → PV → Option PV) (fa fb fc : Cm SV) : Cm SV := fun st => (fa st).bind fun x st1 => (fb st1).bind fun y st2 =>
  match (view st2 x).bind fun p => (view st2 y).bind fun q => f p q with
  | some (.bl true) => (fc st2).bind fun z st3 => ofO st3 ((view st3 y).bind fun p => (view st3 z).bind fun q => f' p q)
  | some (.bl false) => .ok (.t (.bl false)) st2
  | _ => .stuck
def pIsN : PV → Option PV
  | .non => some (.bl true)
  | _ => some (.bl false)
def pNotN : PV → Option PV
  | .non => some (.bl false)
  | _ => some (.bl true)
def pIsB : PV → PV → Option PV
  | .bl x, .bl y => some (.bl (decide (x = y)))
  | _, _ => none
def pNotB : PV → PV → Option PV
  | .bl x, .bl y => some (.bl (!decide (x = y)))
  | _, _ => none
def dIn (d : PyData) (ds : List PyData) : Option Bool := if SeqAt.shaped d && SeqAt.shaped (.list ds) then some (ds.any fun z => PyData.eqv z d) else none
def pInB : PV → PV → Option Bool
  | p, .lst xs => (toD p).bind fun d => (toDs xs).bind fun ds => dIn d ds
  | p, .tup _ xs => (toD p).bind fun d => (toDs xs).bind fun ds => dIn d ds
  | .str x, .str y => some (!(Builtin.Str.occurrences y x 0 y.length 1).isEmpty)
  | _, _ => none
def pIn (p q : PV) : Option PV := (pInB p q).map .bl
def rInT (K : PySem.W.Frag) (k : Bool → Bool) : R2 := fun x y H Q => ∃ d ds, Dp K H x d ∧ Dp K H y (.tuple ds) ∧ SeqAt.shaped d = true ∧ SeqAt.shaped (.list ds) = true ∧ Q (.bl (k (ds.any fun z => PyData.eqv z d))) H
theorem op_inT (hu : X.A.units + 65 < cLine) : OpR X (compareOp .In) (rInT X.K id) := by
  intro pn s g H x y v u Q I rx ry ⟨d, ds, hd, he, sd, se, q⟩
  obtain ⟨as, r1⟩ := Dp.reads I d x v hd rx
  obtain ⟨bs, r2⟩ := Dp.reads I (.tuple ds) y u he ry
  exact SeqAt.in_tuple_reads r2 r1 (by have := SeqAt.canLay_of_shaped se; simpa [PyData.canLay0] using this) (SeqAt.canLay_of_shaped sd) (room_in_shaped sd hu) ⟨.bl _, H, I, rfl, q⟩
def rIns (K : PySem.W.Frag) (k : Bool → Bool) (rs : R2) : R2 := fun x y H Q => rs x y H Q ∨ (rInT K k x y H Q ∨ ∃ d ds, Dp K H x d ∧ Dp K H y (.list ds) ∧ SeqAt.shaped d = true ∧ SeqAt.shaped (.list ds) = true ∧ Q (.bl (k (ds.any fun z => PyData.eqv z d))) H)
def rInSt (k : Bool → Bool) : R2 := fun x y H Q => ∃ i j, x = .str i ∧ y = .str j ∧ Q (.bl (k (!(Builtin.Str.occurrences j i 0 j.length 1).isEmpty))) H
theorem op_ins (hu : X.A.units + 65 < cLine) : OpR X (compareOp .In) (rIns X.K id (rInSt id)) := opR_or op_in_str (opR_or (op_inT hu) (op_inD hu))
theorem dIn_p {d : PyData} {ds : List PyData} {b : Bool} (h : dIn d ds = some b) : SeqAt.shaped d = true ∧ SeqAt.shaped (.list ds) = true ∧ (ds.any fun z => PyData.eqv z d) = b := by
  unfold dIn at h
  split at h
  · rename_i q
    obtain ⟨q1, q2⟩ := Bool.and_eq_true_iff.mp q
    exact ⟨q1, q2, Option.some.inj h⟩
  · cases h
theorem snd_in_any {K : PySem.W.Frag} (k : Bool → Bool) : Snd2 G (rIns K k (rInSt k)) fun p q => (pInB p q).map fun b => .bl (k b) := by
  intro W st σ H p q z u v Q r a b e g
  simp only [Option.map_eq_some_iff] at e
  obtain ⟨c, e, rfl⟩ := e
  unfold pInB at e
  split at e
  · obtain ⟨d, e1, e⟩ := Option.bind_eq_some_iff.mp e
    obtain ⟨ds, e2, e⟩ := Option.bind_eq_some_iff.mp e
    obtain ⟨h1, h2, h3⟩ := dIn_p e
    refine .inr (.inr ⟨d, ds, a.dp r.le e1, b.dp r.le (by simp [toD, e2]), h1, h2, ?_⟩)
    rw [h3]; exact g.here r (.bl _)
  · obtain ⟨d, e1, e⟩ := Option.bind_eq_some_iff.mp e
    obtain ⟨ds, e2, e⟩ := Option.bind_eq_some_iff.mp e
    obtain ⟨h1, h2, h3⟩ := dIn_p e
    refine .inr (.inl ⟨d, ds, a.dp r.le e1, b.dp r.le (by simp [toD, e2]), h1, h2, ?_⟩)
    rw [h3]; exact g.here r (.bl _)
  · cases a; cases b
    refine .inl ⟨_, _, rfl, rfl, ?_⟩
    rw [Option.some.inj e]; exact g.here r (.bl _)
  · cases e
theorem cm_in (hu : X.A.units + 65 < cLine) : CmpR G X .In pIn := ⟨_, op_ins hu, snd_in_any id⟩
def trees : List SV → Option (List PV)
  | [] => some []
  | .t p :: xs => (trees xs).map fun ps => p :: ps
  | .pl _ :: _ => none
theorem trees_rep {W : Wd} {σ : Sg} : ∀ {xs : List SV} {vs : List V} {ps : List PV}, RepSs G W σ xs vs → trees xs = some ps → RepL G W.F ps vs
  | _, _, _, .nil, e => by simp [trees] at e; subst e; exact .nil
  | .t p :: xs, _, _, .cons q l, e => by
    simp only [trees, Option.map_eq_some_iff] at e
    obtain ⟨ps, e, rfl⟩ := e
    exact .cons q (trees_rep l e)
  | .pl _ :: _, _, _, .cons _ _, e => by cases e
def cDisp (k : List PV → PV) (fs : Cm (List SV)) : Cm SV := fun st => (fs st).bind fun xs st1 => ofO st1 ((trees xs).bind fun ps => if szOk ps.length then some (k ps) else none)
theorem disp_step {k : List PV → PV} {r : List V → HO} (hk : ∀ {W : Wd} {st : ST} {σ : Sg} {H : Hp} {ps : List PV} {vs : List V} {Q : VK}, Gv G W st σ H (k ps) Q → R G W st σ H → RepL G W.F ps vs → ∀ p, H p = none → Q (.ref p) (upd H p (r vs)))
    {σ : Sg} {H : Hp} {Q : VK} (h : tE G Wx (cDisp k fs) σ H Q) : tL G Wx fs σ H fun vs H1 => vs.length ≤ sizeLine ∧ ∀ p, H1 p = none → Q (.ref p) (upd H1 p (r vs)) := by
  refine tA_mono (tA_seq (rel := RepSs G) (rel' := RepS G) h) fun us H1 ⟨W1, st1, v, r1, q1, o⟩ => ?_
  obtain ⟨z, e, g⟩ := ofO_some o
  obtain ⟨ps, e1, e2⟩ := Option.bind_eq_some_iff.mp e
  have l := trees_rep q1 e1
  split at e2
  · rename_i hz
    cases e2
    exact ⟨by rw [← l.length]; exact szOk_le hz, hk g r1 l⟩
  · cases e2
theorem ce_tup {k} (h : CA G X Wx es fs) : CE G X Wx (.Tuple es k pos) (cDisp (.tup .p) fs) := ⟨pe_imp (pe_tup h.pa) fun σ H Q q => disp_step (r := .tup) (fun g r l => g.tup r l) q⟩
def pIx : PV → PV → Option PV
  | .lst xs, .int i => atI xs i
  | .tup _ xs, .int i => atI xs i
  | .str x, .int i => if szOk x.length then (atI x.cps.toList i).map fun c => .str ⟨#[c]⟩ else none
  | .scr ns, .int i => (atI ns i).map .int
  | _, _ => none
theorem atI_rep {F : Hp} {ps : List PV} {vs : List V} {i : Int} {z : PV} (l : RepL G F ps vs) (h : atI ps i = some z) : ∃ v, atI vs i = some v ∧ Rep G F z v := by
  unfold atI at h ⊢
  obtain ⟨j, e1, e2⟩ := Option.bind_eq_some_iff.mp h
  obtain ⟨v, e3, q⟩ := l.get e2
  exact ⟨v, by rw [← l.length, e1]; exact e3, q⟩
theorem snd_ix {K : PySem.W.Frag} : Snd2 G (rIx K) pIx := by
  intro W st σ H p q z u v Q r a b e g
  unfold pIx at e
  split at e
  · cases b
    obtain ⟨a1, vs, rfl, d, l⟩ := a
    obtain ⟨w, e1, k⟩ := atI_rep l e
    exact .inl ⟨a1, vs, _, w, rfl, rfl, .inl (.inl d), e1, g.here r k⟩
  · cases b
    obtain ⟨a1, vs, rfl, d, l⟩ := a
    obtain ⟨w, e1, k⟩ := atI_rep l e
    exact .inr (.inl ⟨a1, vs, _, w, rfl, rfl, d.sq r.le, e1, g.here r k⟩)
  · split at e
    · rename_i hz
      cases a; cases b
      simp only [Option.map_eq_some_iff] at e
      obtain ⟨c, e, rfl⟩ := e
      exact .inr (.inr ⟨_, _, c, rfl, rfl, szOk_le hz, e, g.here r (.str _)⟩)
    · cases e
  · cases b
    rename_i ns i
    obtain ⟨a1, o, rfl, d⟩ := a
    simp only [Option.map_eq_some_iff] at e
    obtain ⟨c, e, rfl⟩ := e
    refine .inl ⟨a1, ns.map V.int, i, .int c, rfl, rfl, .inl (.inr ⟨o, r.le _ _ d⟩), ?_, g.here r (.int _)⟩
    unfold atI at e ⊢
    obtain ⟨j, e1, e2⟩ := Option.bind_eq_some_iff.mp e
    rw [List.length_map, e1]
    simp [e2]
  · cases e
theorem ce_ix (ha : CE G X Wx a fa) (hb : CE G X Wx b fb) (hs : PlainIx b := by exact fun _ _ => rfl) : CE G X Wx (.Subscript a b pos) (cBin pIx fa fb) := ⟨pe_imp (pe_ix ix_seq ha.pe hb.pe hs) fun σ H Q q => bin_step snd_ix q⟩
structure CO (G : Gd) (X : Cx) (Wx : WX) (e : Option Expr) (f : Cm (Option Int)) : Prop where
  po : PO X e (tA G Wx (fun _ _ a b => a = b) f)
def cNoPart : Cm (Option Int) := fun st => .ok none st
def cPart (fa : Cm SV) : Cm (Option Int) := fun st => (fa st).bind fun x st1 => match x with
  | .t (.int i) => .ok (some i) st1
  | _ => .stuck
theorem po_imp {e : Option Expr} {t t' : TO} (h : PO X e t) (i : ∀ σ H Q, t' σ H Q → t σ H Q) : PO X e t' := ⟨fun pn s g H Q I q => h.run pn s g H Q I (i g H Q q)⟩
theorem co_none : CO G X Wx none cNoPart := ⟨po_imp po_none fun σ H Q ⟨W, st, r, o⟩ => o W H none r Step.refl rfl⟩
theorem co_some (h : CE G X Wx a fa) : CO G X Wx (some a) (cPart fa) := by
  refine ⟨po_imp (po_some h.pe) fun σ H Q q => ?_⟩
  refine tA_mono (tA_seq (rel := RepS G) (rel' := fun _ _ a b => a = b) q) fun u H1 ⟨W1, st1, v, r1, q1, o⟩ => ?_
  split at o
  · rename_i i
    cases q1
    exact ⟨i, rfl, o W1 H1 (some i) r1 Step.refl rfl⟩
  · exact o.elim
def cut (xs : List α) (lo hi : Option Int) : List α := (xs.drop (HT.sIx xs.length 0 lo)).take (HT.sIx xs.length xs.length hi - HT.sIx xs.length 0 lo)
theorem cut_whole {α : Type} {xs : List α} {lo hi : Option Int} (h1 : HT.sIx xs.length 0 lo = 0) (h2 : HT.sIx xs.length xs.length hi = xs.length) : cut xs lo hi = xs := by
  unfold cut
  rw [h1, h2, List.drop_zero, Nat.sub_zero, List.take_length]
theorem cut_rep {F : Hp} {ps : List PV} {vs : List V} (l : RepL G F ps vs) (lo hi : Option Int) : RepL G F (cut ps lo hi) (cutV vs lo hi) := by
  unfold cut cutV
  rw [l.length]
  exact (l.drop _).take _
def pSl (p : PV) (lo hi : Option Int) : Option PV :=
  match p with
  | .lst xs => some (.lst (cut xs lo hi))
  | .tup k xs => some (.tup k.part (cut xs lo hi))
  | .str x => if szOk x.length then some (.str (cutS x lo hi)) else none
  | _ => none
def cSl (fa : Cm SV) (fl fh : Cm (Option Int)) : Cm SV := fun st => (fa st).bind fun x st1 => (fl st1).bind fun lo st2 => (fh st2).bind fun hi st3 => ofO st3 ((view st3 x).bind fun p => pSl p lo hi)
def rSls (K : PySem.W.Frag) : V → Option Int → Option Int → Hp → VK → Prop := fun x lo hi H Q => rSlL K x lo hi H Q ∨ (rSlA K x lo hi H Q ∨ rSlS x lo hi H Q)
theorem sl_any : SlR X (rSls X.K) := SlR.or sl_list (SlR.or sl_tupA sl_str)
theorem sl_step {K : PySem.W.Frag} {fl fh : Cm (Option Int)} {σ : Sg} {H : Hp} {Q : VK} (h : tE G Wx (cSl fa fl fh) σ H Q) : tSl (rSls K) (tE G Wx fa) (tA G Wx (fun _ _ a b => a = b) fl) (tA G Wx (fun _ _ a b => a = b) fh) σ H Q := by
  obtain ⟨W, st, r0, o⟩ := h
  refine tA_mono (tA_then (rel := RepS G) (rel' := RepS G) r0 o) fun u H1 ⟨W1, st1, x, r1, _, _, q1, o1⟩ => ?_
  refine tA_mono (tA_then (rel := fun _ _ a b => a = b) (rel' := RepS G) r1 o1) fun lo H2 ⟨W2, st2, y, r2, f2, a2, e2, o2⟩ => ?_
  subst e2
  refine tA_mono (tA_then (rel := fun _ _ a b => a = b) (rel' := RepS G) r2 o2) fun hi H3 ⟨W3, st3, z, r3, f3, a3, e3, o3⟩ => ?_
  subst e3
  obtain ⟨zz, e, g⟩ := ofO_some o3
  obtain ⟨p, e1, e⟩ := Option.bind_eq_some_iff.mp e
  have vr := r3.view ((q1.mono f2 a2).mono f3 a3) e1
  unfold pSl at e
  split at e
  · cases e
    obtain ⟨a1, vs, rfl, d, l⟩ := vr
    exact .inl ⟨a1, vs, rfl, .inl (.inl d), g.lst r3 (cut_rep l _ _)⟩
  · cases e
    obtain ⟨a1, vs, rfl, d, l⟩ := vr
    refine .inr (.inl ⟨a1, vs, rfl, d.sq r3.le, fun hw => ?_, fun _ => g.tup r3 (cut_rep l _ _) TF.part_x⟩)
    refine g.here r3 ?_
    rw [cut_whole (xs := _) (by rw [l.length]; exact hw.1) (by rw [l.length]; exact hw.2)]
    exact .tup d.part l
  · split at e
    · rename_i hz
      cases e; cases vr
      exact .inr (.inr ⟨_, rfl, szOk_le hz, g.here r3 (.str _)⟩)
    · cases e
  · cases e
theorem ce_slice {lo hi : Option Expr} {p2 : Pos} {fl fh : Cm (Option Int)} (ha : CE G X Wx a fa) (hl : CO G X Wx lo fl) (hh : CO G X Wx hi fh) : CE G X Wx (.Subscript a (.Slice lo hi none p2) pos) (cSl fa fl fh) :=
  ⟨pe_imp (pe_slice sl_any ha.pe hl.po hh.po) fun σ H Q q => sl_step q⟩
def pFld (cs : List Nat) (f : PySem.Str) : PV → Option PV
  | .obj c fs => if c ∈ cs then fs.lookup f else none
  | _ => none
end
end Cl
set_option maxHeartbeats 4000000
namespace Cl
open PySem PySem.Spec PyProof.Rows L2
inductive RV where
  | t (p : PV) | n (c : MC) | u (c : MC) (p : PV) | v (p : PV) (c : MC)
inductive OutS where
  | nx (st : ST) | rt (r : RV) (st : ST) | bk (st : ST) | ct (st : ST)
  | exc (c : Nat) (fs : List (PySem.Str × PV)) (st : ST) | stuck
abbrev Sm := ST → OutS
def RepR (G : Gd) (W' : Wd) (o o' : List Addr) (H H' : Hp) : RV → V → Prop
  | .t p, u => Rep G W'.F p u
  | .n c, u => ∃ a, u = .ref a ∧ RepM G W'.F H' c a ∧ a ∉ o' ∧ W'.F a = none ∧ (H a = none ∨ a ∈ o)
  | .u c p, u => ∃ t a w, u = .ref t ∧ W'.F t = some (.tup [.ref a, w]) ∧ Rep G W'.F p w ∧ RepM G W'.F H' c a ∧ a ∉ o' ∧ W'.F a = none ∧ (H a = none ∨ a ∈ o)
  | .v p c, u => ∃ t a w, u = .ref t ∧ W'.F t = some (.tup [w, .ref a]) ∧ Rep G W'.F p w ∧ RepM G W'.F H' c a ∧ a ∉ o' ∧ W'.F a = none ∧ (H a = none ∨ a ∈ o)
def OutSA (G : Gd) (Wx : WX) (W : Wd) (st : ST) (σ : Sg) (H : Hp) (o : OutS) (D : Ends) : Prop :=
  match o with
  | .nx st' => ∀ W' σ' H', R G W' st' σ' H' → Step (own W st σ) W H (own W' st' σ') W' H' → D.nx σ' H'
  | .bk st' => ∀ W' σ' H', R G W' st' σ' H' → Step (own W st σ) W H (own W' st' σ') W' H' → D.bk σ' H'
  | .ct st' => ∀ W' σ' H', R G W' st' σ' H' → Step (own W st σ) W H (own W' st' σ') W' H' → D.ct σ' H'
  | .rt r st' => ∀ W' σ' H' u, R G W' st' σ' H' → Step (own W st σ) W H (own W' st' σ') W' H' → RepR G W' (own W st σ) (own W' st' σ') H H' r u → D.rt u H'
  | .exc c fs st' => ∀ W' σ' H' d, R G W' st' σ' H' → Step (own W st σ) W H (own W' st' σ') W' H' → RepX G W' H' fs d → Wx (.ref (G.cls c)) d σ' H'
  | .stuck => False
def tS (G : Gd) (Wx : WX) (g : Sm) : TS := fun D σ H => ∃ W st, R G W st σ H ∧ OutSA G Wx W st σ H (g st) D
structure CS (G : Gd) (X : Cx) (Wx : WX) (s : Stmt) (g : Sm) : Prop where
  ps : PS X s (tS G Wx g)
structure CSs (G : Gd) (X : Cx) (Wx : WX) (s : List Stmt) (g : Sm) : Prop where
  pss : PSs X s (tS G Wx g)
theorem ps_imp {X : Cx} {s : Stmt} {t t' : TS} (h : PS X s t) (i : ∀ D σ H, t' D σ H → t D σ H) : PS X s t' := ⟨fun pn s g H D I q => h.run pn s g H D I (i D g H q)⟩
theorem pss_imp {X : Cx} {s : List Stmt} {t t' : TS} (h : PSs X s t) (i : ∀ D σ H, t' D σ H → t D σ H) : PSs X s t' := ⟨fun pn s g H D I q => h.run pn s g H D I (i D g H q)⟩
section
variable {G : Gd} {X : Cx} {Wx : WX} {σ σ1 : Sg} {H H1 : Hp} {W W1 : Wd} {st st1 : ST}
theorem Step.born {o o1 : List Addr} {a : Addr} (s : Step o W H o1 W1 H1) (h : H1 a = none ∨ a ∈ o1) : H a = none ∨ a ∈ o := by
  rcases h with h | h
  · by_cases q : a ∈ o
    · exact .inr q
    · exact .inl (s.back h q)
  · exact (s.no a h).symm
theorem OutSA.from {o : OutS} {D : Ends} (h : OutSA G Wx W st σ H o D) (s : Step (own W st σ) W H (own W1 st1 σ1) W1 H1) : OutSA G Wx W1 st1 σ1 H1 o D := by
  cases o with
  | nx st' => exact fun W' σ' H' r q => h W' σ' H' r (s.trans q)
  | bk st' => exact fun W' σ' H' r q => h W' σ' H' r (s.trans q)
  | ct st' => exact fun W' σ' H' r q => h W' σ' H' r (s.trans q)
  | rt v st' =>
    refine fun W' σ' H' u r q k => h W' σ' H' u r (s.trans q) ?_
    cases v with
    | t p => exact k
    | n c =>
      obtain ⟨a, e, m, n1, n2, b⟩ := k
      exact ⟨a, e, m, n1, n2, s.born b⟩
    | u c p =>
      obtain ⟨t, a, w, e, e1, e2, m, n1, n2, b⟩ := k
      exact ⟨t, a, w, e, e1, e2, m, n1, n2, s.born b⟩
    | v p c =>
      obtain ⟨t, a, w, e, e1, e2, m, n1, n2, b⟩ := k
      exact ⟨t, a, w, e, e1, e2, m, n1, n2, s.born b⟩
  | exc c fs st' => exact fun W' σ' H' d r q k => h W' σ' H' d r (s.trans q) k
  | stuck => exact h
def bindS {α : Type} (o : Out α) (k : α → ST → OutS) : OutS :=
  match o with
  | .ok v st => k v st
  | .exc c fs st => .exc c fs st
  | .stuck => .stuck
theorem eS {α β : Type} {rel : Wd → Sg → α → β → Prop} {f : Cm α} {k : α → ST → OutS} {D : Ends} (r : R G W st σ H) (h : OutSA G Wx W st σ H (bindS (f st) k) D) :
    tA G Wx rel f σ H fun u H1 => ∃ W1 st1 v, R G W1 st1 σ H1 ∧ Same W.F W1.F ∧ W1.A = W.A ∧ rel W1 σ v u ∧ OutSA G Wx W1 st1 σ H1 (k v st1) D := by
  refine ⟨W, st, r, ?_⟩
  cases e : f st with
  | ok v st' =>
    rw [e] at h
    exact fun W' H' u r' s q => ⟨W', st', v, r', s.f, s.a, q, OutSA.from h s⟩
  | exc c fs st' =>
    rw [e] at h
    exact fun W' H' d r' s q => h W' σ H' d r' s q
  | stuck => rw [e] at h; exact h
variable {s : Stmt} {rest : List Stmt} {g k : Sm} {e : Expr} {fe : Cm SV} {pos : Pos}
def sNil : Sm := fun st => .nx st
def sSeq (g k : Sm) : Sm := fun st => match g st with
  | .nx st' => k st'
  | o => o
theorem css_nil : CSs G X Wx [] sNil := ⟨pss_imp pss_nil fun D σ H ⟨W, st, r, o⟩ => o W σ H r Step.refl⟩
theorem css_one (h : CS G X Wx s g) : CSs G X Wx [s] g := ⟨pss_one h.ps⟩
theorem css_cons (h : CS G X Wx s g) (hr : CSs G X Wx rest k) : CSs G X Wx (s :: rest) (sSeq g k) := by
  refine ⟨pss_imp (pss_cons h.ps hr.pss) fun D σ H ⟨W, st, r, o⟩ => ⟨W, st, r, ?_⟩⟩
  unfold sSeq at o
  cases e : g st with
  | nx st' =>
    rw [e] at o
    exact fun W' σ' H' r' s' => ⟨W', st', r', OutSA.from o s'⟩
  | bk st' => rw [e] at o; exact o
  | ct st' => rw [e] at o; exact o
  | rt v st' => rw [e] at o; exact o
  | exc c fs st' => rw [e] at o; exact o
  | stuck => rw [e] at o; exact o
def sNo : Sm := fun _ => .stuck
def sExpr (fe : Cm SV) : Sm := fun st => bindS (fe st) fun _ st1 => .nx st1
theorem cs_expr (h : CE G X Wx e fe) (hs : swapsWith e none pos.line X.env = pure false := by rfl) : CS G X Wx (.Expr e pos) (sExpr fe) := by
  refine ⟨ps_imp (ps_expr h.pe hs) fun D σ H ⟨W, st, r, o⟩ => ?_⟩
  exact tA_mono (eS (rel := RepS G) r o) fun u H1 ⟨W1, st1, v, r1, _, _, _, o1⟩ => o1 W1 σ H1 r1 Step.refl
def sRet (fe : Cm SV) : Sm := fun st => bindS (fe st) fun x st1 => match x with
  | .t p => .rt (.t p) st1
  | _ => .stuck
theorem cs_ret (h : CE G X Wx e fe) : CS G X Wx (.Return (some e) pos) (sRet fe) := by
  refine ⟨ps_imp (ps_ret h.pe) fun D σ H ⟨W, st, r, o⟩ => ?_⟩
  refine tA_mono (eS (rel := RepS G) r o) fun u H1 ⟨W1, st1, v, r1, _, _, q1, o1⟩ => ?_
  split at o1
  · exact o1 W1 σ H1 u r1 Step.refl q1
  · exact o1.elim
def sRetN : Sm := fun st => .rt (.t .non) st
def sIf (c : Cm Bool) (g k : Sm) : Sm := fun st => bindS (c st) fun b st1 => if b = true then g st1 else k st1
theorem cs_if {c : Expr} {fc : Cm Bool} {a b : List Stmt} (hc : CT G X Wx c fc) (ha : CSs G X Wx a g) (hb : CSs G X Wx b k) : CS G X Wx (.If c a b pos) (sIf fc g k) := by
  refine ⟨ps_imp (ps_if hc.pt ha.pss hb.pss) fun D σ H ⟨W, st, r, o⟩ => ?_⟩
  refine tA_mono (eS (rel := RepB) r o) fun u H1 ⟨W1, st1, v, r1, _, _, q1, o1⟩ => ?_
  cases q1
  cases u with
  | true => exact ⟨W1, st1, r1, o1⟩
  | false => exact ⟨W1, st1, r1, o1⟩
theorem RepLoc.set : ∀ {ls : List (Option SL)} {vs : Sg} (i : Nat) {l : Option SL} {v : Option V}, RepLoc G W H ls vs → (∀ y, l = some y → ∃ u, v = some u ∧ RepSl G W H y u) → RepLoc G W H (ls.set i l) (vs.set i v)
  | [], [], _, _, _, _, _ => trivial
  | none :: ls, x :: vs, 0, l, v, r, h => by
    cases l with
    | none => exact r
    | some y => obtain ⟨u, rfl, k⟩ := h y rfl; exact ⟨k, r⟩
  | none :: ls, x :: vs, i + 1, l, v, r, h => RepLoc.set (ls := ls) (vs := vs) i r h
  | some _ :: ls, some x :: vs, 0, l, v, ⟨_, r⟩, h => by
    cases l with
    | none => exact r
    | some y => obtain ⟨u, rfl, k⟩ := h y rfl; exact ⟨k, r⟩
  | some _ :: ls, some x :: vs, i + 1, l, v, ⟨q, r⟩, h => ⟨q, RepLoc.set i r h⟩
  | [], _ :: _, _, _, _, h, _ => h.elim
  | some _ :: _, [], _, _, _, h, _ => h.elim
  | none :: _, [], _, _, _, h, _ => h.elim
  | some _ :: _, none :: _, _, _, _, h, _ => h.elim
theorem owned_set_sub : ∀ {ls : List (Option SL)} {vs : Sg} (i : Nat) {l : Option SL} {v : Option V}, (∀ c, l ≠ some (.m c)) → (owned (ls.set i l) (vs.set i v)).Sublist (owned ls vs)
  | [], _, _, _, _, _ => by simp [owned]
  | l0 :: ls, [], i, l, v, _ => by
    cases i <;> simp [owned, List.set]
  | l0 :: ls, v0 :: vs, 0, l, v, h => by
    have e : owned (l :: ls) (v :: vs) = owned ls vs := by
      cases l with
      | none => cases v <;> rfl
      | some y =>
        cases y with
        | m c => exact absurd rfl (h c)
        | t p => cases v <;> rfl
        | i n => cases v <;> rfl
    show (owned (l :: ls) (v :: vs)).Sublist _
    rw [e]
    cases l0 with
    | none => cases v0 <;> exact List.Sublist.refl _
    | some y =>
      cases y with
      | m c =>
        cases v0 with
        | none => exact List.Sublist.refl _
        | some w => cases w <;> first | exact List.sublist_cons_self _ _ | exact List.Sublist.refl _
      | t p => cases v0 <;> exact List.Sublist.refl _
      | i n => cases v0 <;> exact List.Sublist.refl _
  | l0 :: ls, v0 :: vs, i + 1, l, v, h => by
    have ih := owned_set_sub (ls := ls) (vs := vs) i (v := v) h
    show (owned (l0 :: ls.set i l) (v0 :: vs.set i v)).Sublist _
    cases l0 with
    | none => cases v0 <;> exact ih
    | some y =>
      cases y with
      | m c =>
        cases v0 with
        | none => exact ih
        | some w => cases w <;> first | exact ih.cons_cons _ | exact ih
      | t p => cases v0 <;> exact ih
      | i n => cases v0 <;> exact ih
def ST.set (st : ST) (i : Nat) (l : Option SL) : ST := { st with loc := st.loc.set i l }
theorem R.setT (r : R G W st σ H) (i : Nat) {p : PV} {u : V} (k : Rep G W.F p u) : R G W (st.set i (some (.t p))) (σ.set i (some u)) H := by
  have sub : (own W (st.set i (some (.t p))) (σ.set i (some u))).Sublist (own W st σ) := (owned_set_sub i (by simp)).append (List.Sublist.refl _)
  exact ⟨r.le, r.inh, RepLoc.set i r.loc fun y e => ⟨u, rfl, by cases e; exact k⟩, r.nd.sublist sub, fun a h => r.fr a (sub.subset h)⟩
theorem Step.sub {o o' : List Addr} (h : ∀ a ∈ o', a ∈ o) : Step o W H o' W H := ⟨Same.refl _, rfl, fun _ => .inl rfl, fun b q => .inl (h b q), fun _ _ q _ => q⟩
theorem R.setT_step (i : Nat) {p : PV} {u : V} : Step (own W st σ) W H (own W (st.set i (some (.t p))) (σ.set i (some u))) W H :=
  Step.sub fun a h => (((owned_set_sub i (by simp)).append (List.Sublist.refl _)).subset h)
def sSet (i : Nat) (fe : Cm SV) : Sm := fun st => bindS (fe st) fun x st1 => match x with
  | .t p => .nx (st1.set i (some (.t p)))
  | _ => .stuck
theorem cs_set {i : Nat} {x : PySem.Str} {pos' : Pos} (hN : X.N.Nodup) (hi : X.N[i]? = some x) (hx : Loc X.env.scope x) (he : CE G X Wx e fe) (hs : swapsWith e (some (.Name x pos')) pos.line X.env = pure false := by rfl)
    (hf : X.fn x = true ∨ X.env.scope.names.lookup x = some .local := by first | exact .inl rfl | exact .inr rfl | assumption) : CS G X Wx (.Assign [.Name x pos'] e pos) (sSet i fe) := by
  refine ⟨ps_imp (ps_set hN hi hx he.pe hs hf) fun D σ H ⟨W, st, r, o⟩ => ?_⟩
  refine tA_mono (eS (rel := RepS G) r o) fun u H1 ⟨W1, st1, v, r1, _, _, q1, o1⟩ => ?_
  split at o1
  · exact o1 W1 _ H1 (r1.setT i q1) (R.setT_step i)
  · exact o1.elim
end
end Cl
set_option maxHeartbeats 4000000
namespace Cl
open PySem PySem.Spec PyProof.Rows L2
inductive Arg where
  | t (p : PV) | i (c : MC) | d (k : Nat)
def conts : List Arg → List MC
  | [] => []
  | .t _ :: r => conts r
  | .i c :: r => c :: conts r
  | .d _ :: r => conts r
def slots : Nat → List Arg → List (Option SL)
  | _, [] => []
  | k, .t p :: r => some (.t p) :: slots k r
  | k, .i _ :: r => some (.i k) :: slots (k + 1) r
  | k, .d j :: r => some (.i j) :: slots k r
def enter (n : Nat) (as : List Arg) : ST := ⟨slots 0 as ++ List.replicate (n - as.length) none, conts as⟩
inductive OutF where
  | ok (r : RV) (o : List MC) | exc (c : Nat) (fs : List (PySem.Str × PV)) (o : List MC) | stuck
abbrev Fm := List Arg → OutF
def runF (n : Nat) (g : Sm) : Fm := fun as =>
  match g (enter n as) with
  | .nx st => .ok (.t .non) st.inh
  | .rt r st => .ok r st.inh
  | .exc c fs st => .exc c fs st.inh
  | _ => .stuck
def OutFA (G : Gd) (W : Wd) (H : Hp) (o : OutF) (Q : VK) (E : XK) : Prop :=
  match o with
  | .ok r out => ∀ W' H' u, R G W' ⟨[], out⟩ [] H' → Step W.A W H W'.A W' H' → RepR G W' W.A W'.A H H' r u → Q u H'
  | .exc c fs out => ∀ W' H' d, R G W' ⟨[], out⟩ [] H' → Step W.A W H W'.A W' H' → RepX G W' H' fs d → E (.ref (G.cls c)) d H'
  | .stuck => False
def spC (G : Gd) (N : List PySem.Str) (F : Fm) : Sp := fun vs H Q E => ∃ W as, as.length = vs.length ∧ R G W (enter N.length as) (start N vs) H ∧ OutFA G W H (F as) Q E
section
variable {G : Gd} {W W' : Wd} {st : ST} {σ : Sg} {H H' : Hp}
theorem owned_slots : ∀ (as : List Arg) (k : Nat) (vs : Sg) (m : Nat), owned (slots k as ++ List.replicate m none) vs = []
  | [], k, [], m => by cases m <;> simp [slots, owned, List.replicate]
  | [], k, v :: vs, 0 => by simp [slots, owned]
  | [], k, v :: vs, m + 1 => by
    have := owned_slots [] k vs m
    simp only [slots, List.nil_append, List.replicate_succ] at this ⊢
    cases v <;> exact this
  | .t p :: r, k, [], m => by simp [slots, owned]
  | .i c :: r, k, [], m => by simp [slots, owned]
  | .d j :: r, k, [], m => by simp [slots, owned]
  | .d j :: r, k, v :: vs, m => by
    have := owned_slots r k vs m
    cases v <;> exact this
  | .t p :: r, k, v :: vs, m => by
    have := owned_slots r k vs m
    cases v <;> exact this
  | .i c :: r, k, v :: vs, m => by
    have := owned_slots r (k + 1) vs m
    cases v <;> exact this
theorem own_enter {n : Nat} {as : List Arg} : own W (enter n as) σ = W.A := by
  unfold own enter
  rw [owned_slots]
  rfl
theorem R.leave (r : R G W st σ H) : R G W ⟨[], st.inh⟩ [] H :=
  ⟨r.le, r.inh, trivial, (r.nd.sublist (List.sublist_append_right _ _)), fun a h => r.fr a (List.mem_append_right _ h)⟩
theorem Step.leave {o : List Addr} (s : Step o W H (own W' st σ) W' H') : Step o W H W'.A W' H' := s.trans (Step.sub fun a h => List.mem_append_right _ h)
end
abbrev Plan := List (Sum Nat PV)
def scV : PV → V
  | .bl b => .bl b
  | .int i => .int i
  | .str x => .str x
  | _ => .non
def scOk : PV → Bool
  | .non => true
  | .bl _ => true
  | .int _ => true
  | .str _ => true
  | _ => false
def pickV (pl : Plan) (vs : List V) : List V := pl.map fun
  | .inl i => vs.getD i .non
  | .inr p => scV p
def pickS (pl : Plan) (xs : List SV) : List SV := pl.map fun
  | .inl i => xs.getD i (.t .non)
  | .inr p => .t p
def planOk (pl : Plan) : Bool := pl.all fun
  | .inl _ => true
  | .inr p => scOk p
def Bd (K : PySem.W.Frag) (fd : FuncData) (ps : List PySem.Str) (n : Nat) (ks : List PySem.Str) (pl : Plan) : Prop :=
  ∀ (s : Shared) (us ws : List Value), K.In s.heap → us.length = n → ws.length = ks.length → ∃ bs, BindsTo s fd ⟨us, ks.zip ws⟩ (ps.zip bs) ∧ bs.length = ps.length ∧ ∀ vs, Vals vs (us ++ ws) → Vals (pickV pl vs) bs
def FnG (P : Program) (w : World) (K : PySem.W.Frag) (mg : PySem.Str → Option Value) (base : Heap) (k : Nat) (f : Addr) (n : Nat) (ks : List PySem.Str) (sp : Sp) : Prop :=
  ∀ (A : Around) (outer : List Env) (s : Shared) (H : Hp) (us ws : List Value) (vs : List V) (Q : VK) (E : XK), Room k A → A.guards = some [] → Env0 P w K mg base A outer s H → us.length = n → ws.length = ks.length → Vals vs (us ++ ws) → sp vs H Q E →
    codeAny (model P w) A (.call (.ref f) ⟨us, ks.zip ws⟩) (CR (L2.CX P w) outer P w H s Q E) s
abbrev cxB (P : Program) (w : World) (K : PySem.W.Frag) (mg : PySem.Str → Option Value) (base : Heap) (N : List PySem.Str) (qual : PySem.Str) (scope : Scope) (f : Addr) (cd : Value) (A : Around) (outer : List Env) (s : Shared) (H : Hp) (E : XK) : Cx :=
  cxOf (L2.CX P w) P w K mg base N qual scope f cd A outer s H E
abbrev wxB (E : XK) : WX := fun cls d _ H => E cls d H
def BodyC (G : Gd) (P : Program) (w : World) (K : PySem.W.Frag) (mg : PySem.Str → Option Value) (base : Heap) (k : Nat) (N : List PySem.Str) (qual : PySem.Str) (scope : Scope) (f : Addr) (body : List Stmt) (g : Sm) : Prop :=
  ∀ (cd : Value) (A : Around) (outer : List Env) (s : Shared) (H : Hp) (E : XK), Room k (cxB P w K mg base N qual scope f cd A outer s H E).A → (cxB P w K mg base N qual scope f cd A outer s H E).A.guards = some [] →
    Takes (cxB P w K mg base N qual scope f cd A outer s H E) (wxB E) → CSs G (cxB P w K mg base N qual scope f cd A outer s H E) (wxB E) body g
section
variable {G : Gd} {P : Program} {w : World} {K : PySem.W.Frag} {mg : PySem.Str → Option Value} {base : Heap} {k n : Nat} {N ps ks : List PySem.Str} {x qual : PySem.Str} {params : Arguments} {body : List Stmt} {scope : Scope} {dvs : List V} {kws : List (PySem.Str × V)} {f : Addr} {fd : FuncData} {g : Sm} {pl : Plan}
theorem body_in {vs : List V} {H : Hp} {Q : VK} {E : XK} (h : spC G N (runF N.length g) vs H Q E) : tS G (wxB E) g { nx := fun _ H' => Q .non H', rt := Q } (start N vs) H := by
  obtain ⟨W, as, hl, r, o⟩ := h
  refine ⟨W, _, r, ?_⟩
  unfold runF at o
  have oe : own W (enter N.length as) (start N vs) = W.A := own_enter
  cases e : g (enter N.length as) with
  | nx st' =>
    rw [e] at o
    intro W' σ' H' r' s'
    rw [oe] at s'
    exact o W' H' .non r'.leave s'.leave Rep.non
  | rt v st' =>
    rw [e] at o
    intro W' σ' H' u r' s' q
    rw [oe] at s' q
    refine o W' H' u r'.leave s'.leave ?_
    cases v with
    | t p => exact q
    | n c =>
      obtain ⟨a, e1, m, n1, n2, b⟩ := q
      exact ⟨a, e1, m, fun z => n1 (List.mem_append_right _ z), n2, b⟩
    | u c p =>
      obtain ⟨t, a, w, e1, e2, e3, m, n1, n2, b⟩ := q
      exact ⟨t, a, w, e1, e2, e3, m, fun z => n1 (List.mem_append_right _ z), n2, b⟩
    | v p c =>
      obtain ⟨t, a, w, e1, e2, e3, m, n1, n2, b⟩ := q
      exact ⟨t, a, w, e1, e2, e3, m, fun z => n1 (List.mem_append_right _ z), n2, b⟩
  | exc c fs st' =>
    rw [e] at o
    intro W' σ' H' d r' s' q
    rw [oe] at s'
    exact o W' H' d r'.leave s'.leave q
  | bk st' => rw [e] at o; exact o.elim
  | ct st' => rw [e] at o; exact o.elim
  | stuck => rw [e] at o; exact o.elim
theorem fn_body (F : FunD K x qual params body scope dvs kws f fd) (S : FnScope N ps scope) (B : Bd K fd ps n ks pl)
    (hb : BodyC G P w K mg base k N qual scope f body g) : FnG P w K mg base (k + 1) f n ks fun vs H Q E => spC G N (runF N.length g) (pickV pl vs) H Q E := by
  intro A outer s H us ws vs Q E room gd e0 lu lw rv hsp
  obtain ⟨oc, od, dV, kV, doc, pm, an, cdv, ct, osl, rfl, lk, hcd, _, _⟩ := F.ex
  have kin : K.In s.heap := e0.mod.kin.keeps fun b o z => (e0.bs b o z).1
  have nl : s.heap.NoLimit := e0.mod.nolimit.keeps fun b o z => (e0.bs b o z).1
  obtain ⟨bs, bto, bl, brel⟩ := B s us ws kin lu lw
  have rb := brel vs rv
  have known : ∀ y ∈ ps.zip bs, scope.names.lookup y.1 = some .local ∨ (scope.names.lookup y.1 = some .cell ∧ ((cellsFrom (s.heap.objs.size + 1) scope.names []).lookup y.1).isSome = true) := by
    rintro ⟨nm, v⟩ hy
    rcases S.par nm (List.of_mem_zip hy).1 with q | q
    · exact .inl q
    · exact .inr ⟨q, PySem.W.cellsFrom_some _ _ _ (.inl q)⟩
  refine codeAny_call_function room.depth (kin _ _ lk) rfl S.co S.gen rfl (PySem.W.codeRec_of kin hcd) (bto _ _ _ _ ?_)
  refine wpAny_newFunctionEnv_cells S.kind known fun env henv s1 inx => ?_
  subst henv
  refine ⟨nl.keeps inx.toInCall.keep, codeAny_func ?_⟩
  have I0 : Inv (cxB P w K mg base N qual scope f cdv A outer s H E) [] (start N (pickV pl vs)) H s1 := inv_start S room.hd e0 (rb.length.trans bl) rb inx
  have tk : Takes (cxB P w K mg base N qual scope f cdv A outer s H E) (wxB E) := takes_of rfl rfl rfl rfl
  have c := hb cdv A outer s H E (room.deeper _) gd tk
  refine wpAny_mono (c.pss.run [] s1 _ H _ I0 (body_in hsp)) (fun fl s' hs => ?_) fun _ _ z => z
  cases fl with
  | ret u =>
    obtain ⟨v, σ', H', J, rv', q⟩ := hs
    exact ⟨v, H', J.os, J.bare, J.base, J.hok, rv', q⟩
  | next =>
    obtain ⟨σ', H', J, q⟩ := hs
    exact ⟨.non, H', J.os, J.bare, J.base, J.hok, rfl, q⟩
  | brk => obtain ⟨_, _, _, q⟩ := hs; exact q.elim
  | cont => obtain ⟨_, _, _, q⟩ := hs; exact q.elim
end
end Cl
set_option maxHeartbeats 4000000
namespace Cl
open PySem PySem.Spec PyProof.Rows L2
section
variable {G : Gd} {W : Wd} {st : ST} {σ : Sg} {H : Hp}
theorem RepLoc.of_get : ∀ {ls : List (Option SL)} {vs : Sg}, ls.length = vs.length → (∀ (i : Nat) (l : SL), ls[i]? = some (some l) → ∃ v, vs[i]? = some (some v) ∧ RepSl G W H l v) → RepLoc G W H ls vs
  | [], [], _, _ => trivial
  | none :: ls, v :: vs, e, h => by
    show RepLoc G W H ls vs
    exact RepLoc.of_get (by simpa using e) fun i l q => by
      obtain ⟨u, a, b⟩ := h (i + 1) l (by simpa using q)
      exact ⟨u, by simpa using a, b⟩
  | some l :: ls, v :: vs, e, h => by
    obtain ⟨u, a, b⟩ := h 0 l (by simp)
    simp at a
    subst a
    refine ⟨b, RepLoc.of_get (by simpa using e) fun i l q => ?_⟩
    obtain ⟨u, a, b⟩ := h (i + 1) l (by simpa using q)
    exact ⟨u, by simpa using a, b⟩
  | [], _ :: _, e, _ => by simp at e
  | _ :: _, [], e, _ => by simp at e
theorem RepMs.of_get {F : Hp} : ∀ {cs : List MC} {as : List Addr}, cs.length = as.length → (∀ (i : Nat) (c : MC) (a : Addr), cs[i]? = some c → as[i]? = some a → RepM G F H c a) → RepMs G F H cs as
  | [], [], _, _ => trivial
  | c :: cs, a :: as, e, h => ⟨h 0 c a rfl rfl, RepMs.of_get (by simpa using e) fun i x b q q' => h (i + 1) x b (by simpa using q) (by simpa using q')⟩
  | [], _ :: _, e, _ => by simp at e
  | _ :: _, [], e, _ => by simp at e
theorem owned_inj : ∀ {ls : List (Option SL)} {vs : Sg} {i j : Nat} {c d : MC} {a : Addr}, (owned ls vs).Nodup → ls[i]? = some (some (.m c)) → vs[i]? = some (some (.ref a)) → ls[j]? = some (some (.m d)) → vs[j]? = some (some (.ref a)) → i = j
  | [], _, i, _, _, _, _, _, e, _, _, _ => by simp at e
  | _ :: _, [], i, _, _, _, _, _, _, e, _, _ => by simp at e
  | l :: ls, v :: vs, 0, 0, _, _, _, _, _, _, _, _ => rfl
  | l :: ls, v :: vs, 0, j + 1, c, d, a, nd, e1, e2, e3, e4 => by
    simp at e1 e2
    subst e1 e2
    have h : a ∈ owned ls vs := owned_get (i := j) (by simpa using e3) (by simpa using e4)
    exact absurd h (List.nodup_cons.mp nd).1
  | l :: ls, v :: vs, i + 1, 0, c, d, a, nd, e1, e2, e3, e4 => by
    simp at e3 e4
    subst e3 e4
    have h : a ∈ owned ls vs := owned_get (i := i) (by simpa using e1) (by simpa using e2)
    exact absurd h (List.nodup_cons.mp nd).1
  | l :: ls, v :: vs, i + 1, j + 1, c, d, a, nd, e1, e2, e3, e4 => by
    have nd' : (owned ls vs).Nodup := by
      cases l with
      | none => cases v <;> exact nd
      | some y =>
        cases y with
        | m c =>
          cases v with
          | none => exact nd
          | some w => cases w <;> first | exact (List.nodup_cons.mp nd).2 | exact nd
        | t p => cases v <;> exact nd
        | i n => cases v <;> exact nd
    exact congrArg (· + 1) (owned_inj (i := i) (j := j) nd' (by simpa using e1) (by simpa using e2) (by simpa using e3) (by simpa using e4))
theorem owned_setM : ∀ {ls : List (Option SL)} {vs : Sg} {i : Nat} {c : MC} (d : MC), ls[i]? = some (some (.m c)) → owned (ls.set i (some (.m d))) vs = owned ls vs
  | [], _, i, _, _, e => by simp at e
  | l :: ls, [], i, c, d, e => by cases i <;> simp [owned, List.set]
  | l :: ls, v :: vs, 0, c, d, e => by
    simp at e; subst e
    cases v with
    | none => rfl
    | some w => cases w <;> rfl
  | l :: ls, v :: vs, i + 1, c, d, e => by
    have ih := owned_setM (ls := ls) (vs := vs) (i := i) d (by simpa using e)
    show owned (l :: ls.set i (some (.m d))) (v :: vs) = _
    cases l with
    | none => cases v <;> exact ih
    | some y =>
      cases y with
      | m c =>
        cases v with
        | none => exact ih
        | some w => cases w <;> first | exact congrArg (List.cons _) ih | exact ih
      | t p => cases v <;> exact ih
      | i n => cases v <;> exact ih
def getP (st : ST) : PL → Option MC
  | .sl j => match st.loc[j]? with
    | some (some (.m c)) => some c
    | _ => none
  | .ih n => st.inh[n]?
def setP (st : ST) (q : PL) (c : MC) : ST :=
  match q with
  | .sl j => { st with loc := st.loc.set j (some (.m c)) }
  | .ih n => { st with inh := st.inh.set n c }
def AtP (W : Wd) (σ : Sg) : PL → Addr → Prop
  | .sl j, a => σ[j]? = some (some (.ref a))
  | .ih n, a => W.A[n]? = some a
theorem getP_sl {j : Nat} {c : MC} (h : getP st (.sl j) = some c) : st.loc[j]? = some (some (.m c)) := by
  have h : (match st.loc[j]? with | some (some (.m c)) => some c | _ => none) = some c := h
  split at h
  · rename_i e; cases h; exact e
  · cases h
theorem R.atP (r : R G W st σ H) {q : PL} {c : MC} (h : getP st q = some c) : ∃ a, AtP W σ q a ∧ RepM G W.F H c a ∧ a ∈ own W st σ := by
  cases q with
  | sl j =>
    have e := getP_sl h
    obtain ⟨v, e1, a, rfl, m⟩ := r.loc.get e
    exact ⟨a, e1, m, List.mem_append_left _ (owned_get e e1)⟩
  | ih n =>
    have e : st.inh[n]? = some c := h
    have hl : n < W.A.length := by rw [← r.inh.length]; exact (List.getElem?_eq_some_iff.mp e).1
    exact ⟨W.A[n], List.getElem?_eq_getElem hl, RepMs.get r.inh e (List.getElem?_eq_getElem hl), List.mem_append_right _ (List.getElem_mem hl)⟩
theorem R.atP_inj (r : R G W st σ H) {q q' : PL} {c c' : MC} {a : Addr} (h : getP st q = some c) (h' : getP st q' = some c') (e : AtP W σ q a) (e' : AtP W σ q' a) : q = q' := by
  obtain ⟨n1, n2, n3⟩ := List.nodup_append.mp r.nd
  cases q with
  | sl j =>
    cases q' with
    | sl j' => rw [owned_inj n1 (getP_sl h) e (getP_sl h') e']
    | ih n => exact absurd rfl (n3 a (owned_get (getP_sl h) e) a (List.mem_of_getElem? e'))
  | ih n =>
    cases q' with
    | sl j => exact absurd rfl (n3 a (owned_get (getP_sl h') e') a (List.mem_of_getElem? e))
    | ih n' =>
      obtain ⟨h1, e1⟩ := List.getElem?_eq_some_iff.mp (show W.A[n]? = some a from e)
      obtain ⟨h2, e2⟩ := List.getElem?_eq_some_iff.mp (show W.A[n']? = some a from e')
      rw [(List.getElem_inj n2).mp (e1.trans e2.symm)]
theorem own_setP {q : PL} {c d : MC} (h : getP st q = some c) : own W (setP st q d) σ = own W st σ := by
  cases q with
  | sl j => unfold own setP; rw [owned_setM d (getP_sl h)]
  | ih n => rfl
theorem getP_set {q q' : PL} {c d : MC} (h : getP st q = some c) : getP (setP st q d) q' = if q' = q then some d else getP st q' := by
  cases q with
  | sl j =>
    have e := getP_sl h
    have hj : j < st.loc.length := (List.getElem?_eq_some_iff.mp e).1
    cases q' with
    | sl j' =>
      by_cases q : j' = j
      · subst q
        rw [if_pos rfl]
        show (match (st.loc.set j' (some (.m d)))[j']? with | some (some (.m c)) => some c | _ => none) = some d
        rw [List.getElem?_set_self hj]
      · rw [if_neg (fun z => q (by cases z; rfl))]
        show (match (st.loc.set j (some (.m d)))[j']? with | some (some (.m c)) => some c | _ => none) = _
        rw [List.getElem?_set_ne (Ne.symm q)]
        rfl
    | ih n => rw [if_neg (by simp)]; rfl
  | ih n =>
    have hn : n < st.inh.length := (List.getElem?_eq_some_iff.mp (show st.inh[n]? = some c from h)).1
    cases q' with
    | sl j => rw [if_neg (by simp)]; rfl
    | ih n' =>
      by_cases q : n' = n
      · subst q
        rw [if_pos rfl]
        exact List.getElem?_set_self hn
      · rw [if_neg (fun z => q (by cases z; rfl))]
        exact List.getElem?_set_ne (Ne.symm q)
theorem R.setP {F' H' : Hp} (r : R G W st σ H) {q : PL} {c d : MC} {a : Addr} (h : getP st q = some c) (e : AtP W σ q a) (f : Same W.F F') (le : Same F' H') (m : RepM G F' H' d a)
    (keep : ∀ b ∈ own W st σ, b ≠ a → ∀ u, H b = some u → H' b = some u) (fr : ∀ b ∈ own W st σ, F' b = none) : R G ⟨F', W.A⟩ (Cl.setP st q d) σ H' := by
  obtain ⟨n1, n2, n3⟩ := List.nodup_append.mp r.nd
  have oe : own ⟨F', W.A⟩ (Cl.setP st q d) σ = own W st σ := own_setP (W := ⟨F', W.A⟩) h
  have other : ∀ {q' : PL} {c' : MC} {a' : Addr}, q' ≠ q → getP st q' = some c' → AtP W σ q' a' → RepM G W.F H c' a' → a' ∈ own W st σ → RepM G F' H' c' a' := fun {q' c' a'} hq h' e' m' ho =>
    m'.mono f fun u hu => keep a' ho (fun z => hq (r.atP_inj h' h (z ▸ e') e)) u hu
  refine ⟨le, ?_, ?_, by rw [oe]; exact r.nd, by rw [oe]; exact fr⟩
  · cases q with
    | sl j =>
      refine RepMs.of_get r.inh.length fun i c' a' e1 e2 => ?_
      exact other (q' := .ih i) (by simp) e1 e2 (RepMs.get r.inh e1 e2) (List.mem_append_right _ (List.mem_of_getElem? e2))
    | ih n =>
      refine RepMs.of_get (by simpa [Cl.setP] using r.inh.length) fun i c' a' e1 e2 => ?_
      by_cases hi : i = n
      · subst hi
        have e3 : W.A[i]? = some a' := e2
        rw [show W.A[i]? = some a from e] at e3
        cases e3
        have hn : i < st.inh.length := (List.getElem?_eq_some_iff.mp (show st.inh[i]? = some c from h)).1
        have e4 : (st.inh.set i d)[i]? = some c' := e1
        rw [List.getElem?_set_self hn] at e4
        cases e4
        exact m
      · have e4 : (st.inh.set n d)[i]? = some c' := e1
        rw [List.getElem?_set_ne (Ne.symm hi)] at e4
        exact other (q' := .ih i) (fun z => hi (by cases z; rfl)) e4 e2 (RepMs.get r.inh e4 e2) (List.mem_append_right _ (List.mem_of_getElem? e2))
  · have slots : ∀ (i : Nat) (l : SL) (v : V), RepSl G W H l v → (∀ c', l = .m c' → ∀ a', v = .ref a' → RepM G F' H' c' a') → RepSl G ⟨F', W.A⟩ H' l v := fun i l v s k => by
      cases l with
      | t p => exact Rep.mono f s
      | m c' => obtain ⟨a', rfl, _⟩ := s; exact ⟨a', rfl, k c' rfl a' rfl⟩
      | i n => exact s
    have keepSl : ∀ (i : Nat) (l : SL), PL.sl i ≠ q → st.loc[i]? = some (some l) → ∃ v, σ[i]? = some (some v) ∧ RepSl G ⟨F', W.A⟩ H' l v := fun i l hq e1 => by
      obtain ⟨v, e2, s⟩ := r.loc.get e1
      refine ⟨v, e2, slots i l v s fun c' hc a' hv => ?_⟩
      subst hc hv
      obtain ⟨a2, z, m'⟩ := s
      cases z
      refine other (q' := .sl i) hq ?_ e2 m' (List.mem_append_left _ (owned_get e1 e2))
      show (match st.loc[i]? with | some (some (.m c)) => some c | _ => none) = _
      rw [e1]
    cases q with
    | sl j =>
      refine RepLoc.of_get (by simpa [Cl.setP] using r.loc.length) fun i l e1 => ?_
      have e1 : (st.loc.set j (some (.m d)))[i]? = some (some l) := e1
      by_cases hi : i = j
      · subst hi
        rw [List.getElem?_set_self (List.getElem?_eq_some_iff.mp (getP_sl h)).1] at e1
        cases e1
        exact ⟨_, e, a, rfl, m⟩
      · rw [List.getElem?_set_ne (Ne.symm hi)] at e1
        exact keepSl i l (fun z => hi (by cases z; rfl)) e1
    | ih n => exact RepLoc.of_get r.loc.length fun i l e1 => keepSl i l (by simp) e1
end
end Cl
set_option maxHeartbeats 4000000
namespace Cl
open PySem PySem.Spec PyProof.Rows L2
def mkArgs (st : ST) : List SV → Option (List Arg × List PL)
  | [] => some ([], [])
  | .t p :: r => (mkArgs st r).map fun z => (.t p :: z.1, z.2)
  | .pl q :: r => (getP st q).bind fun c => (mkArgs st r).map fun z => (.i c :: z.1, q :: z.2)
def putBack (st : ST) : List PL → List MC → ST
  | q :: ps, c :: cs => putBack (setP st q c) ps cs
  | _, _ => st
def cRes (st : ST) (ps : List PL) : OutF → Out SV
  | .ok (.t p) out => .ok (.t p) (putBack st ps out)
  | .ok (.n c) out => .ok (.t c.pv) (putBack st ps out)
  | .ok (.u _ _) _ => .stuck
  | .ok (.v _ _) _ => .stuck
  | .exc c fs out => .exc c fs (putBack st ps out)
  | .stuck => .stuck
def cRun (F : Fm) (st : ST) (ys : List SV) : Out SV :=
  match mkArgs st ys with
  | some (as, ps) => if ps.Nodup then cRes st ps (F as) else .stuck
  | none => .stuck
section
variable {G : Gd} {W : Wd} {st : ST} {σ : Sg} {H H' F' : Hp}
theorem R.puts {A : List Addr} (le : Same F' H') : ∀ {ps : List PL} {as : List Addr} {cs : List MC} {st : ST} {H : Hp}, R G ⟨F', A⟩ st σ H → Paired (AtP ⟨F', A⟩ σ) ps as → (∀ q ∈ ps, getP st q ≠ none) → ps.Nodup → RepMs G F' H' cs as →
    (∀ b, b ∉ as → H b = H' b) → R G ⟨F', A⟩ (putBack st ps cs) σ H' ∧ own ⟨F', A⟩ (putBack st ps cs) σ = own ⟨F', A⟩ st σ
  | [], _, [], st, H, r, .nil, _, _, _, e => by
    have q : H = H' := funext fun b => e b (by simp)
    subst q
    exact ⟨r, rfl⟩
  | [], _, _ :: _, _, _, _, .nil, _, _, m, _ => m.elim
  | q :: ps, a :: as, [], _, _, _, .cons _ _, _, _, m, _ => m.elim
  | q :: ps, a :: as, c :: cs, st, H, r, .cons e l, g, nd, ⟨m, ms⟩, k => by
    obtain ⟨c0, hc⟩ := Option.ne_none_iff_exists'.mp (g q (List.mem_cons_self ..))
    obtain ⟨nq, nd⟩ := List.nodup_cons.mp nd
    have ha : a ∈ own ⟨F', A⟩ st σ := by
      obtain ⟨a', e', _, h⟩ := r.atP hc
      cases q with
      | sl j =>
        have e1 : σ[j]? = some (some (.ref a)) := e
        have e2 : σ[j]? = some (some (.ref a')) := e'
        rw [e1] at e2; cases e2; exact h
      | ih n =>
        have e1 : A[n]? = some a := e
        have e2 : A[n]? = some a' := e'
        rw [e1] at e2; cases e2; exact h
    have hn : F' a = none := r.fr a ha
    have na : a ∉ as := fun h => by
      have go : ∀ {ps : List PL} {as : List Addr}, Paired (AtP ⟨F', A⟩ σ) ps as → (∀ q ∈ ps, getP st q ≠ none) → a ∈ as → q ∈ ps := by
        intro ps
        induction ps with
        | nil => intro as l _ h; cases l; cases h
        | cons q1 ps ih =>
          intro as l g h
          cases l with
          | cons e1 l =>
            rcases List.mem_cons.mp h with z | z
            · subst z
              obtain ⟨c1, hc1⟩ := Option.ne_none_iff_exists'.mp (g q1 (List.mem_cons_self ..))
              rw [r.atP_inj hc hc1 e e1]
              exact List.mem_cons_self ..
            · exact List.mem_cons_of_mem _ (ih l (fun q h => g q (List.mem_cons_of_mem _ h)) z)
      exact nq (go l (fun q h => g q (List.mem_cons_of_mem _ h)) h)
    have r1 : R G ⟨F', A⟩ (Cl.setP st q c) σ (fun b => if b = a then H' b else H b) := by
      refine r.setP (H' := fun b => if b = a then H' b else H b) hc e (Same.refl _) (fun b u z => ?_) (m.mono (Same.refl _) fun u z => ?_) (fun b _ hb u z => ?_) r.fr
      · have hb : b ≠ a := fun z' => by rw [z', hn] at z; cases z
        show (if b = a then H' b else H b) = some u
        rw [if_neg hb]; exact r.le b u z
      · show (if a = a then H' a else H a) = some u
        rw [if_pos rfl]; exact z
      · show (if b = a then H' b else H b) = some u
        rw [if_neg hb]; exact z
    have step := R.puts le (ps := ps) (as := as) (cs := cs) r1 l (fun q' h' => ?_) nd ms fun b hb => ?_
    · refine ⟨step.1, step.2.trans (own_setP hc)⟩
    · rw [getP_set hc]
      split
      · simp
      · exact g q' (List.mem_cons_of_mem _ h')
    · show (if b = a then H' b else H b) = H' b
      split
      · rfl
      · rename_i h1
        exact k b fun z => (List.mem_cons.mp z).elim h1 hb
theorem args_in (r : R G W st σ H) : ∀ {ys : List SV} {us : List V} {as : List Arg} {ps : List PL}, mkArgs st ys = some (as, ps) → RepSs G W σ ys us →
    ∃ ad, Paired (AtP W σ) ps ad ∧ RepMs G W.F H (conts as) ad ∧ as.length = us.length ∧ (∀ q ∈ ps, getP st q ≠ none) ∧ (∀ a ∈ ad, a ∈ own W st σ) ∧ ∀ pre : List Addr, RepLoc G ⟨W.F, pre ++ ad⟩ H (slots pre.length as) (us.map some)
  | [], _, _, _, e, .nil => by
    simp [mkArgs] at e
    obtain ⟨rfl, rfl⟩ := e
    exact ⟨[], .nil, trivial, rfl, (by simp), (by simp), fun _ => trivial⟩
  | .t p :: ys, _, _, _, e, .cons k l => by
    simp only [mkArgs, Option.map_eq_some_iff] at e
    obtain ⟨⟨as, ps⟩, e, z⟩ := e
    cases z
    obtain ⟨ad, h1, h2, h3, h4, h5, h6⟩ := args_in r e l
    exact ⟨ad, h1, h2, congrArg (· + 1) h3, h4, h5, fun pre => ⟨k, h6 pre⟩⟩
  | .pl q :: ys, _, _, _, e, .cons (b := u) (l₂ := us) k l => by
    simp only [mkArgs, Option.bind_eq_some_iff, Option.map_eq_some_iff] at e
    obtain ⟨c, ec, ⟨as, ps⟩, e1, z⟩ := e
    cases z
    obtain ⟨ad, h1, h2, h3, h4, h5, h6⟩ := args_in r (ys := ys) (us := us) e1 l
    obtain ⟨a, ea, m, ho⟩ := r.atP ec
    have hu : u = .ref a := by
      cases q with
      | sl j =>
        have e1 : σ[j]? = some (some u) := k
        have e2 : σ[j]? = some (some (.ref a)) := ea
        rw [e1] at e2; cases e2; rfl
      | ih n =>
        obtain ⟨a', rfl, e1⟩ := k
        have e2 : W.A[n]? = some a := ea
        rw [e1] at e2; cases e2; rfl
    refine ⟨a :: ad, .cons ea h1, ⟨m, h2⟩, congrArg (· + 1) h3, fun q' h' => ?_, fun a' h' => ?_, fun pre => ⟨⟨a, hu, ?_⟩, ?_⟩⟩
    · rcases List.mem_cons.mp h' with z | z
      · rw [z, ec]; simp
      · exact h4 q' z
    · rcases List.mem_cons.mp h' with z | z
      · rw [z]; exact ho
      · exact h5 a' z
    · show (pre ++ a :: ad)[pre.length]? = some a
      simp
    · have := h6 (pre ++ [a])
      simpa using this
theorem RepLoc.pad : ∀ {ls : List (Option SL)} {vs : Sg} (n : Nat), RepLoc G W H ls vs → RepLoc G W H (ls ++ List.replicate n none) (vs ++ List.replicate n none)
  | [], [], 0, _ => trivial
  | [], [], n + 1, _ => RepLoc.pad (ls := []) (vs := []) n trivial
  | none :: ls, v :: vs, n, r => RepLoc.pad (ls := ls) (vs := vs) n r
  | some l :: ls, some v :: vs, n, ⟨q, r⟩ => ⟨q, RepLoc.pad n r⟩
  | [], _ :: _, _, h => h.elim
  | some _ :: _, [], _, h => h.elim
  | none :: _, [], _, h => h.elim
  | some _ :: _, none :: _, _, h => h.elim
theorem R.freeze (r : R G W st σ H) {a : Addr} {o : HO} (h : H a = some o) (ho : a ∉ own W st σ) (hf : W.F a = none) : R G ⟨upd W.F a o, W.A⟩ st σ H := by
  refine ⟨fun b u e => ?_, ?_, ?_, r.nd, fun b hb => ?_⟩
  · have e : upd W.F a o b = some u := e
    by_cases q : b = a
    · subst q; rw [upd_same] at e; cases e; exact h
    · rw [upd_ne q] at e; exact r.le b u e
  · exact RepMs.mono (same_upd hf) (fun _ _ _ e => e) r.inh
  · exact RepLoc.mono (W := W) (same_upd hf) (fun _ _ _ e => e) r.loc
  · show upd W.F a o b = none
    have q : b ≠ a := fun z => ho (by rw [← z]; exact hb)
    rw [upd_ne q]; exact r.fr b hb
theorem RepM.frozen {F : Hp} {c : MC} {a : Addr} (hf : F a = none) (m : RepM G F H c a) : ∃ o, H a = some o ∧ Rep G (upd F a o) c.pv (.ref a) := by
  cases c with
  | lst xs => obtain ⟨vs, e, l⟩ := m; exact ⟨_, e, .lst upd_same (l.mono (same_upd hf))⟩
  | lsA b xs => obtain ⟨rfl, vs, e, l⟩ := m; exact ⟨_, e, .adr _⟩
  | dct kvs => obtain ⟨hs, e, l⟩ := m; exact ⟨_, e, .dct (.inl upd_same) (l.mono (same_upd hf))⟩
  | dtp kvs => obtain ⟨hs, e, l⟩ := m; exact ⟨_, e, .dtp (.inl upd_same) (l.mono (same_upd hf))⟩
  | dtn kvs => obtain ⟨hs, e, l⟩ := m; exact ⟨_, e, .tbl a⟩
  | obj c fs => obtain ⟨dx, hs, e, l⟩ := m; exact ⟨_, e, .obj upd_same (l.mono (same_upd hf))⟩
  | tbl _ q => obtain ⟨_, ps, e, l, k⟩ := m; exact ⟨_, e, .tbl a⟩
theorem Paired.app {α β : Type} {F : α → β → Prop} : ∀ {l : List α} {m : List β}, Paired F l m → ∀ b ∈ m, ∃ a ∈ l, F a b
  | _, _, .nil, _, h => nomatch h
  | _, _, .cons (a := a) r t, b, h => by
    rcases List.mem_cons.mp h with z | z
    · subst z; exact ⟨a, List.mem_cons_self .., r⟩
    · obtain ⟨c, h1, h2⟩ := Paired.app t b z
      exact ⟨c, List.mem_cons_of_mem _ h1, h2⟩
theorem nodup_at (r : R G W st σ H) : ∀ {ps : List PL} {ad : List Addr}, Paired (AtP W σ) ps ad → (∀ q ∈ ps, getP st q ≠ none) → ps.Nodup → ad.Nodup
  | _, _, .nil, _, _ => List.nodup_nil
  | _, _, .cons (a := q) (b := a) e l, g, nd => by
    obtain ⟨h1, h2⟩ := List.nodup_cons.mp nd
    refine List.nodup_cons.mpr ⟨fun h => ?_, nodup_at r l (fun x hx => g x (List.mem_cons_of_mem _ hx)) h2⟩
    obtain ⟨q', hq, e'⟩ := Paired.app l a h
    obtain ⟨c, hc⟩ := Option.ne_none_iff_exists'.mp (g q (List.mem_cons_self ..))
    obtain ⟨c', hc'⟩ := Option.ne_none_iff_exists'.mp (g q' (List.mem_cons_of_mem _ hq))
    exact h1 (r.atP_inj hc hc' e e' ▸ hq)
theorem run_in {Wx : WX} {N : List PySem.Str} {F : Fm} {ys : List SV} {us : List V} {Q : VK} (r : R G W st σ H) (hs : RepSs G W σ ys us) (o : OutE G Wx W st σ H (cRun F st ys) Q) :
    spC G N F us H Q (fun cls d H' => Wx cls d σ H') := by
  unfold cRun at o
  split at o
  · rename_i as ps e
    split at o
    · rename_i nd
      obtain ⟨ad, h1, h2, h3, h4, h5, h6⟩ := args_in r e hs
      have ndA := nodup_at r h1 h4 nd
      refine ⟨⟨W.F, ad⟩, as, h3, ⟨r.le, h2, ?_, ?_, ?_⟩, ?_⟩
      · have q := RepLoc.pad (N.length - as.length) (h6 [])
        unfold enter L2.start
        rw [h3] at q ⊢
        exact q
      · rw [own_enter]; exact ndA
      · intro a ha
        rw [own_enter] at ha
        exact r.fr a (h5 a ha)
      · have core : ∀ {W' : Wd} {H' : Hp} {out : List MC}, R G W' ⟨[], out⟩ [] H' → Step ad ⟨W.F, ad⟩ H W'.A W' H' →
            R G ⟨W'.F, W.A⟩ (putBack st ps out) σ H' ∧ own ⟨W'.F, W.A⟩ (putBack st ps out) σ = own W st σ ∧ Step (own W st σ) W H (own W st σ) ⟨W'.F, W.A⟩ H' := fun {W' H' out} r' s' => by
          have ea : W'.A = ad := s'.a
          have hn : ∀ a ∈ ad, W'.F a = none := fun a ha => r'.fr a (by unfold own; simp [owned, ea, ha])
          have nf : ∀ b, W'.F b = W.F b ∨ NoM (H b) := fun b => by
            rcases s'.nf b with z | z | z
            · exact .inl z
            · exact .inr z
            · exact .inl ((hn b z).trans (r.fr b (h5 b z)).symm)
          have r0 : R G ⟨W'.F, W.A⟩ st σ (fun b => if b ∈ ad then H b else H' b) := by
            refine r.growM s'.f (fun b u z _ => ?_) (fun b u z => ?_) nf
            · show (if b ∈ ad then H b else H' b) = some u
              split
              · exact z
              · rename_i hb; exact s'.keep b u z hb
            · show (if b ∈ ad then H b else H' b) = some u
              split
              · rename_i hb; rw [hn b hb] at z; cases z
              · exact r'.le b u z
          have pa : Paired (AtP ⟨W'.F, W.A⟩ σ) ps ad := Paired.mono (fun q a z => by cases q <;> exact z) h1
          obtain ⟨p1, p2⟩ := R.puts r'.le (cs := out) r0 pa h4 nd (by have := r'.inh; rw [ea] at this; exact this) fun b hb => by
            show (if b ∈ ad then H b else H' b) = H' b
            rw [if_neg hb]
          refine ⟨p1, p2, ⟨s'.f, rfl, fun b => (nf b).imp_right .inl, fun b h => .inl h, fun b u z hb => s'.keep b u z fun h => hb (h5 b h)⟩⟩
        unfold OutFA
        cases ef : F as with
        | ok v out =>
          rw [ef] at o
          intro W' H' u r' s' k
          obtain ⟨c1, c2, c3⟩ := core r' s'
          cases v with
          | t p => exact o ⟨W'.F, W.A⟩ H' u c1 (by rw [c2]; exact c3) k
          | n c =>
            obtain ⟨a, rfl, m, na, fa, bo⟩ := k
            have ea : W'.A = ad := s'.a
            have ha : H a = none := by
              rcases bo with z | z
              · exact z
              · exact absurd (show a ∈ W'.A by rw [ea]; exact z) na
            obtain ⟨ob, e1, e2⟩ := m.frozen fa
            have nown : a ∉ own ⟨W'.F, W.A⟩ (putBack st ps out) σ := by rw [c2]; exact r.notown ha
            refine o ⟨upd W'.F a ob, W.A⟩ H' (.ref a) (c1.freeze e1 nown fa) ?_ e2
            show Step _ _ _ (own ⟨W'.F, W.A⟩ (putBack st ps out) σ) _ _
            rw [c2]
            refine ⟨c3.f.trans (same_upd fa), rfl, fun b => ?_, c3.no, c3.keep⟩
            by_cases hb : b = a
            · subst hb; exact .inr (.inl (.of ha))
            · rcases c3.nf b with z | z
              · exact .inl ((upd_ne hb).trans z)
              · exact .inr z
          | u c p => exact (show False from o).elim
          | v p c => exact (show False from o).elim
        | exc c fs out =>
          rw [ef] at o
          intro W' H' d r' s' k
          obtain ⟨c1, c2, c3⟩ := core r' s'
          exact o ⟨W'.F, W.A⟩ H' d c1 (by rw [c2]; exact c3) k
        | stuck => rw [ef] at o; exact o.elim
    · exact o.elim
  · exact o.elim
end
theorem pick_rep {G : Gd} {W : Wd} {σ : Sg} {xs : List SV} {vs : List V} (h : RepSs G W σ xs vs) : ∀ {pl : Plan}, planOk pl = true → RepSs G W σ (pickS pl xs) (pickV pl vs)
  | [], _ => .nil
  | .inl i :: pl, e => by
    refine .cons ?_ (pick_rep h (by simpa [planOk] using e))
    show RepS G W σ (xs.getD i (.t .non)) (vs.getD i .non)
    have go : ∀ {xs : List SV} {vs : List V} (i : Nat), RepSs G W σ xs vs → RepS G W σ (xs.getD i (.t .non)) (vs.getD i .non) := by
      intro xs
      induction xs with
      | nil => intro vs i h; cases h; simp; exact Rep.non
      | cons x xs ih =>
        intro vs i h
        cases h with
        | cons r l =>
          cases i with
          | zero => simpa using r
          | succ i => simpa using ih i l
    exact go i h
  | .inr p :: pl, e => by
    simp only [planOk, List.all_cons, Bool.and_eq_true] at e
    refine .cons ?_ (pick_rep h e.2)
    cases p <;> first | exact Rep.non | exact Rep.bl _ | exact Rep.int _ | exact Rep.str _ | exact absurd e.1 (by simp [scOk])
end Cl
set_option maxHeartbeats 4000000
namespace Cl
open PySem PySem.Spec PyProof.Rows L2 StX ClX
def FnP (P : Program) (w : World) (K : PySem.W.Frag) (mg : PySem.Str → Option Value) (base : Heap) (k : Nat) (f : Addr) (sp : Sp) : Prop :=
  ∀ (A : Around) (outer : List Env) (s : Shared) (H : Hp) (us : List Value) (vs : List V) (Q : VK) (E : XK), Room k A → A.guards = some [] → Env0 P w K mg base A outer s H → Vals vs us → sp vs H Q E →
    codeAny (model P w) A (.call (.ref f) ⟨us, []⟩) (CR (L2.CX P w) outer P w H s Q E) s
theorem FnP.of {P : Program} {w : World} {K : PySem.W.Frag} {mg : PySem.Str → Option Value} {base : Heap} {k n : Nat} {f : Addr} {sp : Sp} (h : FnG P w K mg base k f n [] sp) : FnP P w K mg base k f fun vs H Q E => vs.length = n ∧ sp vs H Q E :=
  fun A outer s H us vs Q E room gd e0 r q => h A outer s H us [] vs Q E room gd e0 (by rw [← r.length]; exact q.1) rfl (by simpa using r) q.2
theorem FnP.mono {P : Program} {w : World} {K : PySem.W.Frag} {mg : PySem.Str → Option Value} {base : Heap} {j k : Nat} {f : Addr} {sp : Sp} (h : FnP P w K mg base j f sp) (hj : j ≤ k) : FnP P w K mg base k f sp :=
  fun A outer s H us vs Q E room => h A outer s H us vs Q E (room.mono hj)
section
variable {G : Gd} {P : Program} {w : World} {K : PySem.W.Frag} {mg : PySem.Str → Option Value} {base : Heap} {k : Nat} {N ps : List PySem.Str} {pv x qual : PySem.Str} {params : Arguments} {body : List Stmt} {scope : Scope} {dvs : List V} {kws : List (PySem.Str × V)} {f : Addr} {fd : FuncData} {g : Sm}
def spStar (G : Gd) (N : List PySem.Str) (F : Fm) (m : Nat) : Sp := fun vs H Q E => m ≤ vs.length ∧ vs.length ≤ sizeLine ∧ ∀ p, H p = none → spC G N F (vs.take m ++ [V.ref p]) (upd H p (.tup (vs.drop m))) Q E
end
def RunOk (G : Gd) (X : Cx) (Wx : WX) (a : Addr) (Fc : List SV → Cm SV) : Prop :=
  ∀ (pn : List (Addr × Obj)) (s : Shared) (σ : Sg) (H : Hp) (Q : VK) (us : List Value) (vs : List V) (xs : List SV) (W : Wd) (st : ST), Inv X pn σ H s → R G W st σ H → RepSs G W σ xs vs → Vals vs us → OutE G Wx W st σ H (Fc xs st) Q →
    wpAny (model X.prog X.w) X.A (call (.ref a) us) (EP X pn σ Q) X.xe s
def fcDef (n : Nat) (pl : Plan) (F : Fm) : List SV → Cm SV := fun xs st => if xs.length = n then cRun F st (pickS pl xs) else .stuck
def fcStar (m : Nat) (F : Fm) : List SV → Cm SV := fun xs st => match trees (xs.drop m) with
  | some ps => if m ≤ xs.length ∧ szOk xs.length = true then cRun F st (xs.take m ++ [.t (.tup .p ps)]) else .stuck
  | none => .stuck
section
variable {G : Gd} {X : Cx} {Wx : WX} {k n : Nat} {f : Addr} {N : List PySem.Str} {pl : Plan} {F : Fm}
theorem run_fnP {pn : List (Addr × Obj)} {σ : Sg} {H : Hp} {s : Shared} {Q : VK} {us : List Value} {vs : List V} {sp : Sp} (hf : FnP X.prog X.w X.K X.mg X.base k f sp) (room : Room k X.A) (gd : X.A.guards = some []) (tk : Takes X Wx)
    (I : Inv X pn σ H s) (r : Vals vs us) (h : sp vs H Q fun cls d H' => Wx cls d σ H') : wpAny (model X.prog X.w) X.A (call (.ref f) us) (EP X pn σ Q) X.xe s := by
  refine wpAny_call (codeAny_mono (hf X.A X.stack s H us vs Q _ room gd I.env0 r h) fun z s' q => ?_)
  cases z with
  | error er => exact tk er s' (XE.of_call I (fun cls d H' w => w) q)
  | ok fl =>
    cases fl with
    | ret u => exact I.after q
    | next => exact False.elim q
    | brk => exact False.elim q
    | cont => exact False.elim q
theorem RunOk.def_ (hf : FnG X.prog X.w X.K X.mg X.base k f n [] fun vs H Q E => spC G N F (pickV pl vs) H Q E) (hp : planOk pl = true) (room : Room k X.A) (gd : X.A.guards = some []) (tk : Takes X Wx) : RunOk G X Wx f (fcDef n pl F) := by
  intro pn s σ H Q us vs xs W st I r hs rv o
  unfold fcDef at o
  split at o
  · rename_i hl
    have l : xs.length = vs.length := Paired.length hs
    exact run_fnP (FnP.of hf) room gd tk I rv ⟨by rw [← l]; exact hl, run_in r (pick_rep hs hp) o⟩
  · exact o.elim
theorem RepSs.take {W : Wd} {σ : Sg} : ∀ {xs : List SV} {vs : List V} (m : Nat), RepSs G W σ xs vs → RepSs G W σ (xs.take m) (vs.take m)
  | _, _, 0, _ => .nil
  | _, _, _ + 1, .nil => .nil
  | _, _, m + 1, .cons r l => .cons r (RepSs.take m l)
theorem RepSs.drop {W : Wd} {σ : Sg} : ∀ {xs : List SV} {vs : List V} (m : Nat), RepSs G W σ xs vs → RepSs G W σ (xs.drop m) (vs.drop m)
  | _, _, 0, h => h
  | _, _, _ + 1, .nil => .nil
  | _, _, m + 1, .cons r l => RepSs.drop m l
theorem RepSs.app {W : Wd} {σ : Sg} : ∀ {xs ys : List SV} {vs us : List V}, RepSs G W σ xs vs → RepSs G W σ ys us → RepSs G W σ (xs ++ ys) (vs ++ us)
  | _, _, _, _, .nil, h => h
  | _, _, _, _, .cons r l, h => .cons r (RepSs.app l h)
theorem RepSs.mono {W W' : Wd} {σ : Sg} (f : Same W.F W'.F) (a : W'.A = W.A) : ∀ {xs : List SV} {vs : List V}, RepSs G W σ xs vs → RepSs G W' σ xs vs
  | _, _, .nil => .nil
  | _, _, .cons r l => .cons (r.mono f a) (RepSs.mono f a l)
theorem star_in {W : Wd} {st : ST} {σ : Sg} {H : Hp} {Q : VK} {m : Nat} {xs : List SV} {vs : List V} (r : R G W st σ H) (hs : RepSs G W σ xs vs) (o : OutE G Wx W st σ H (fcStar m F xs st) Q) : spStar G N F m vs H Q fun cls d H' => Wx cls d σ H' := by
  unfold fcStar at o
  split at o
  · rename_i ps e
    split at o
    · rename_i hl
      have l : xs.length = vs.length := Paired.length hs
      refine ⟨by rw [← l]; exact hl.1, by rw [← l]; exact szOk_le hl.2, fun p hp => ?_⟩
      have q := trees_rep (hs.drop m) e
      have st1 := r.step_new (o := .tup (vs.drop m)) hp
      refine run_in (r.new hp) (RepSs.app ((hs.take m).mono st1.f rfl) (.cons (show RepS G _ σ (.t (.tup .p ps)) (.ref p) from Rep.tup (k := .p) upd_same (q.mono st1.f)) .nil)) (OutA.from o st1)
    · exact o.elim
  · exact o.elim
theorem RunOk.star {m : Nat} (hf : FnP X.prog X.w X.K X.mg X.base k f (spStar G N F m)) (room : Room k X.A) (gd : X.A.guards = some []) (tk : Takes X Wx) : RunOk G X Wx f (fcStar m F) := by
  intro pn s σ H Q us vs xs W st I r hs rv o
  exact run_fnP hf room gd tk I rv (star_in r hs o)
def Prom (G : Gd) (Wx : WX) (sp : Sp) (Fc : List SV → Cm SV) : Prop :=
  ∀ (W : Wd) (st : ST) (σ : Sg) (H : Hp) (Q : VK) (xs : List SV) (vs : List V), R G W st σ H → RepSs G W σ xs vs → OutE G Wx W st σ H (Fc xs st) Q → sp vs H Q fun cls d H' => Wx cls d σ H'
theorem Prom.def_ (hp : planOk pl = true) : Prom G Wx (fun vs H Q E => vs.length = n ∧ spC G N F (pickV pl vs) H Q E) (fcDef n pl F) := by
  intro W st σ H Q xs vs r hs o
  unfold fcDef at o
  split at o
  · rename_i hl
    have l : xs.length = vs.length := Paired.length hs
    exact ⟨by rw [← l]; exact hl, run_in r (pick_rep hs hp) o⟩
  · exact o.elim
theorem Prom.star {m : Nat} : Prom G Wx (spStar G N F m) (fcStar m F) := fun W st σ H Q xs vs r hs o => star_in r hs o
theorem RunOk.of {sp : Sp} {Fc : List SV → Cm SV} (hf : FnP X.prog X.w X.K X.mg X.base k f sp) (p : Prom G Wx sp Fc) (room : Room k X.A) (gd : X.A.guards = some []) (tk : Takes X Wx) : RunOk G X Wx f Fc :=
  fun pn s σ H Q us vs xs W st I r hs rv o => run_fnP hf room gd tk I rv (p W st σ H Q xs vs r hs o)
def push (st : ST) (c : MC) : ST := { st with loc := st.loc ++ [some (.m c)] }
def pop (st : ST) : ST := { st with loc := st.loc.dropLast }
def fcMake (c : Nat) (Fi : List SV → Cm SV) : List SV → Cm SV := fun xs st =>
  match Fi (.pl (.sl st.loc.length) :: xs) (push st (.obj c [])) with
  | .ok (.t .non) st2 => match st2.loc.getLast? with
    | some (some (.m m)) => .ok (.t m.pv) (pop st2)
    | _ => .stuck
  | .exc c fs st2 => .exc c fs (pop st2)
  | _ => .stuck
theorem owned_snoc : ∀ {ls : List (Option SL)} {vs : Sg} {c : MC} {a : Addr}, ls.length = vs.length → owned (ls ++ [some (.m c)]) (vs ++ [some (.ref a)]) = owned ls vs ++ [a]
  | [], [], _, _, _ => rfl
  | l :: ls, v :: vs, c, a, e => by
    have ih := owned_snoc (ls := ls) (vs := vs) (c := c) (a := a) (by simpa using e)
    cases l with
    | none => cases v <;> exact ih
    | some y =>
      cases y with
      | m d =>
        cases v with
        | none => exact ih
        | some w => cases w <;> first | exact congrArg (List.cons _) ih | exact ih
      | t p => cases v <;> exact ih
      | i n => cases v <;> exact ih
  | [], _ :: _, _, _, e => by simp at e
  | _ :: _, [], _, _, e => by simp at e
theorem RepLoc.snoc {W : Wd} {H : Hp} : ∀ {ls : List (Option SL)} {vs : Sg} {l : SL} {v : V}, RepLoc G W H ls vs → RepSl G W H l v → RepLoc G W H (ls ++ [some l]) (vs ++ [some v])
  | [], [], _, _, _, h => ⟨h, trivial⟩
  | none :: ls, _ :: vs, _, _, r, h => RepLoc.snoc (ls := ls) (vs := vs) r h
  | some _ :: ls, some _ :: vs, _, _, ⟨q, r⟩, h => ⟨q, RepLoc.snoc r h⟩
  | [], _ :: _, _, _, h, _ => h.elim
  | some _ :: _, [], _, _, h, _ => h.elim
  | none :: _, [], _, _, h, _ => h.elim
  | some _ :: _, none :: _, _, _, h, _ => h.elim
theorem RepLoc.unsnoc {W : Wd} {H : Hp} : ∀ {ls : List (Option SL)} {vs : Sg} {v : V}, RepLoc G W H ls (vs ++ [some v]) → ∃ ls' l, ls = ls' ++ [l] ∧ ls'.length = vs.length ∧ RepLoc G W H ls' vs ∧ ∀ y, l = some y → RepSl G W H y v
  | [], vs, _, h => by cases vs <;> exact h.elim
  | [none], [], _, _ => ⟨[], none, rfl, rfl, trivial, fun y e => nomatch e⟩
  | [some l], [], _, ⟨q, _⟩ => ⟨[], some l, rfl, rfl, trivial, fun y e => by cases e; exact q⟩
  | none :: l2 :: ls, [], _, h => by cases l2 <;> exact (show False from h).elim
  | some l :: l2 :: ls, [], _, ⟨_, h⟩ => by cases l2 <;> exact (show False from h).elim
  | none :: ls, v0 :: vs, v, h => by
    obtain ⟨ls', l, e, hl, r, k⟩ := RepLoc.unsnoc (ls := ls) (vs := vs) h
    exact ⟨none :: ls', l, by rw [e]; rfl, congrArg (· + 1) hl, r, k⟩
  | some l0 :: ls, some v0 :: vs, v, ⟨q, h⟩ => by
    obtain ⟨ls', l, e, hl, r, k⟩ := RepLoc.unsnoc (ls := ls) (vs := vs) h
    exact ⟨some l0 :: ls', l, by rw [e]; rfl, congrArg (· + 1) hl, ⟨q, r⟩, k⟩
  | some _ :: _, none :: _, _, h => h.elim
theorem R.push {W : Wd} {st : ST} {σ : Sg} {H H2 : Hp} {c : MC} {a : Addr} (r : R G W st σ H) (hn : H a = none) (hs : Same H H2) (m : RepM G W.F H2 c a) : R G W (Cl.push st c) (σ ++ [some (.ref a)]) H2 := by
  have fa : W.F a = none := by
    cases e : W.F a with
    | none => rfl
    | some u => have := r.le a u e; rw [hn] at this; cases this
  have r2 : R G W st σ H2 := by
    have q := r.grow (F' := W.F) (H' := H2) (Same.refl _) (fun b u e _ => hs b u e) (fun b u e => hs b u (r.le b u e)) fun b => .inl rfl
    exact q
  have oe : own W (Cl.push st c) (σ ++ [some (.ref a)]) = owned st.loc σ ++ ([a] ++ W.A) := by
    unfold own Cl.push
    rw [owned_snoc r.loc.length, List.append_assoc]
  have mem : ∀ b, b ∈ own W (Cl.push st c) (σ ++ [some (.ref a)]) ↔ b = a ∨ b ∈ own W st σ := fun b => by
    rw [oe]; unfold own; simp only [List.mem_append, List.mem_singleton]
    constructor
    · rintro (h | h | h)
      · exact .inr (.inl h)
      · exact .inl h
      · exact .inr (.inr h)
    · rintro (h | h | h)
      · exact .inr (.inl h)
      · exact .inl h
      · exact .inr (.inr h)
  have na : a ∉ own W st σ := r.notown hn
  refine ⟨r2.le, r2.inh, RepLoc.snoc r2.loc ⟨a, rfl, m⟩, ?_, fun b hb => ?_⟩
  · rw [oe]
    obtain ⟨n1, n2, n3⟩ := List.nodup_append.mp r.nd
    refine List.nodup_append.mpr ⟨n1, List.nodup_cons.mpr ⟨fun h => na (List.mem_append_right _ h), n2⟩, fun x hx y hy => ?_⟩
    rcases List.mem_cons.mp hy with z | z
    · intro q; exact na (List.mem_append_left _ (by rw [← z, ← q]; exact hx))
    · exact n3 x hx y z
  · rcases (mem b).mp hb with z | z
    · rw [z]; exact fa
    · exact r.fr b z
theorem R.pop {W : Wd} {st : ST} {σ : Sg} {H : Hp} {a : Addr} (r : R G W st (σ ++ [some (.ref a)]) H) : R G W (Cl.pop st) σ H ∧ (∀ b ∈ own W (Cl.pop st) σ, b ∈ own W st (σ ++ [some (.ref a)])) ∧
    ∀ c, st.loc.getLast? = some (some (.m c)) → RepM G W.F H c a ∧ a ∉ own W (Cl.pop st) σ ∧ W.F a = none := by
  obtain ⟨ls', l, e, hl, rl, k⟩ := RepLoc.unsnoc r.loc
  have hp : (Cl.pop st).loc = ls' := by unfold Cl.pop; simp [e]
  have ho : ∀ b ∈ owned ls' σ, b ∈ owned st.loc (σ ++ [some (.ref a)]) := fun b hb => by
    rw [e]
    have go : ∀ {ls : List (Option SL)} {vs : Sg} (x : Option SL) (y : Option V), ls.length = vs.length → ∀ b ∈ owned ls vs, b ∈ owned (ls ++ [x]) (vs ++ [y]) := by
      intro ls
      induction ls with
      | nil => intro vs x y e b h; cases h
      | cons l0 ls ih =>
        intro vs x y e b h
        cases vs with
        | nil => simp at e
        | cons v0 vs =>
          have ih' := ih (vs := vs) x y (by simpa using e) b
          cases l0 with
          | none => cases v0 <;> exact ih' h
          | some z =>
            cases z with
            | m d =>
              cases v0 with
              | none => exact ih' h
              | some w =>
                cases w with
                | ref a0 =>
                  rcases List.mem_cons.mp h with q | q
                  · subst q; exact List.mem_cons_self ..
                  · exact List.mem_cons_of_mem _ (ih' q)
                | _ => exact ih' h
            | t p => cases v0 <;> exact ih' h
            | i n => cases v0 <;> exact ih' h
    exact go _ _ hl b hb
  have sub : ∀ b ∈ own W (Cl.pop st) σ, b ∈ own W st (σ ++ [some (.ref a)]) := fun b hb => by
    rcases List.mem_append.mp hb with z | z
    · rw [hp] at z; exact List.mem_append_left _ (ho b z)
    · exact List.mem_append_right _ z
  have nd : (own W (Cl.pop st) σ).Nodup := by
    have q : (owned ls' σ).Sublist (owned st.loc (σ ++ [some (.ref a)])) := by
      rw [e]
      have go : ∀ {ls : List (Option SL)} {vs : Sg} (x : Option SL) (y : Option V), ls.length = vs.length → (owned ls vs).Sublist (owned (ls ++ [x]) (vs ++ [y])) := by
        intro ls
        induction ls with
        | nil => intro vs x y e; cases vs <;> exact List.nil_sublist _
        | cons l0 ls ih =>
          intro vs x y e
          cases vs with
          | nil => simp at e
          | cons v0 vs =>
            have ih' := ih (vs := vs) x y (by simpa using e)
            cases l0 with
            | none => cases v0 <;> exact ih'
            | some z =>
              cases z with
              | m d =>
                cases v0 with
                | none => exact ih'
                | some w => cases w <;> first | exact ih'.cons_cons _ | exact ih'
              | t p => cases v0 <;> exact ih'
              | i n => cases v0 <;> exact ih'
      exact go _ _ hl
    show (owned (Cl.pop st).loc σ ++ W.A).Nodup
    rw [hp]
    exact r.nd.sublist (q.append (List.Sublist.refl _))
  refine ⟨⟨r.le, r.inh, by rw [hp]; exact rl, nd, fun b hb => r.fr b (sub b hb)⟩, sub, fun c hc => ?_⟩
  have el : l = some (.m c) := by rw [e] at hc; simpa using hc
  subst el
  obtain ⟨a', ea, m⟩ := k _ rfl
  cases ea
  have oe : own W st (σ ++ [some (.ref a)]) = owned ls' σ ++ ([a] ++ W.A) := by unfold own; rw [e, owned_snoc hl, List.append_assoc]
  have ha : a ∈ own W st (σ ++ [some (.ref a)]) := by rw [oe]; simp
  refine ⟨m, fun h => ?_, r.fr a ha⟩
  have nd2 := r.nd
  rw [oe] at nd2
  obtain ⟨n1, n2, n3⟩ := List.nodup_append.mp nd2
  rcases List.mem_append.mp h with z | z
  · rw [hp] at z; exact n3 a z a (by simp) rfl
  · exact (List.nodup_cons.mp n2).1 z
end
end Cl
set_option maxHeartbeats 4000000
namespace Cl
open PySem PySem.Spec PyProof.Rows L2 StX ClX
section
variable {G : Gd} {X : Cx} {Wx : WX} {k n c : Nat} {f fi : Addr} {N : List PySem.Str} {pl : Plan} {F : Fm} {sp : Sp} {Fc Fi : List SV → Cm SV}
theorem make_guards {A : Around} {C : Addr} {us : List Value} {kw : List (PySem.Str × Value)} (h : A.guards = some []) : (A.under (.builtin "type.__call__" ⟨.ref C :: us, kw⟩)).guards = some [] := by
  show pushGuards (Code.guards (.builtin "type.__call__" ⟨.ref C :: us, kw⟩)) A.guards = _
  rw [h]
  first | rfl | decide | simp [Code.guards, Code.isGuard, guardIds, pushGuards]
def wxS (Wx : WX) (σ : Sg) : WX := fun cls d _ H => Wx cls d σ H
theorem make_in {W : Wd} {st : ST} {σ : Sg} {H H2 : Hp} {Q : VK} {xs : List SV} {a : Addr} (r : R G W st σ H) (hn : H a = none) (hs : Same H H2) (hb : ∀ b, H2 b = none → H b = none) (m : H2 a = some (.ins (G.cls c) dx []))
    (o : OutE G Wx W st σ H (fcMake c Fi xs st) Q) :
    R G W (push st (.obj c [])) (σ ++ [some (.ref a)]) H2 ∧ OutE G (wxS Wx σ) W (push st (.obj c [])) (σ ++ [some (.ref a)]) H2 (Fi (.pl (.sl st.loc.length) :: xs) (push st (.obj c []))) fun v H3 => v = .non ∧ Q (.ref a) H3 := by
  have r2 : R G W (push st (.obj c [])) (σ ++ [some (.ref a)]) H2 := r.push hn hs ⟨dx, [], m, .nil⟩
  have oe : ∀ b, b ∈ own W (push st (.obj c [])) (σ ++ [some (.ref a)]) → b ∈ own W st σ ∨ b = a := fun b h => by
    unfold own push at h
    rw [owned_snoc r.loc.length] at h
    simp only [List.mem_append, List.mem_singleton] at h
    unfold own
    rw [List.mem_append]
    rcases h with (h | h) | h
    · exact .inl (.inl h)
    · exact .inr h
    · exact .inl (.inr h)
  -- a later state seen from ahead of the new thing
  have back : ∀ {W' : Wd} {st2 : ST} {H' : Hp}, R G W' st2 (σ ++ [some (.ref a)]) H' → Step (own W (push st (.obj c [])) (σ ++ [some (.ref a)])) W H2 (own W' st2 (σ ++ [some (.ref a)])) W' H' →
      Step (own W st σ) W H (own W' (pop st2) σ) W' H' := fun {W' st2 H'} r' s' => by
    obtain ⟨_, sub, _⟩ := r'.pop
    refine ⟨s'.f, s'.a, fun b => ?_, fun b h => ?_, fun b u e h => ?_⟩
    · rcases s'.nf b with z | z | z
      · exact .inl z
      · exact .inr (.inl (NoM.back hs z))
      · rcases oe b z with y | y
        · exact .inr (.inr y)
        · exact .inr (.inl (.of (by rw [y]; exact hn)))
    · rcases s'.no b (sub b h) with z | z
      · rcases oe b z with y | y
        · exact .inl y
        · exact .inr (by rw [y]; exact hn)
      · exact .inr (hb b z)
    · refine s'.keep b u (hs b u e) fun z => ?_
      rcases oe b z with y | y
      · exact h y
      · rw [y, hn] at e; cases e
  refine ⟨r2, ?_⟩
  unfold fcMake at o
  cases ef : Fi (.pl (.sl st.loc.length) :: xs) (push st (.obj c [])) with
  | ok v st2 =>
    rw [ef] at o
    intro W' H' u r' s' q
    cases v with
    | t p =>
      cases p with
      | non =>
        cases q
        refine ⟨rfl, ?_⟩
        dsimp only at o
        split at o
        · rename_i mm hl
          obtain ⟨r3, sub, k⟩ := r'.pop
          obtain ⟨m3, na, fa⟩ := k mm hl
          obtain ⟨ob, e1, e2⟩ := m3.frozen fa
          refine o ⟨upd W'.F a ob, W'.A⟩ H' (.ref a) (r3.freeze e1 na fa) ?_ e2
          have b3 := back r' s'
          refine ⟨b3.f.trans (same_upd fa), b3.a, fun b => ?_, b3.no, b3.keep⟩
          by_cases q : b = a
          · subst q; exact .inr (.inl (.of hn))
          · rcases b3.nf b with z | z
            · exact .inl ((upd_ne q).trans z)
            · exact .inr z
        · exact o.elim
      | _ => exact o.elim
    | pl q => exact o.elim
  | exc c2 fs st2 =>
    rw [ef] at o
    intro W' H' d r' s' q
    exact o W' H' d r'.pop.1 (back r' s') q
  | stuck => rw [ef] at o; exact o.elim
theorem RunOk.make (M : Mk X.K (G.cls c) fi) (hf : FnP X.prog X.w X.K X.mg X.base k fi sp) (hp : ∀ Wx, Prom G Wx sp Fi) (room : Room (k + 1) X.A) (gd : X.A.guards = some []) (tk : Takes X Wx) : RunOk G X Wx (G.cls c) (fcMake c Fi) := by
  intro pn s σ H Q us vs xs W st I r hs rv o
  have I2 := Inv.made (C := G.cls c) I
  have n1 : H (s.heap.objs.size + 1) = none := I.hok.fresh (Nat.le_succ _)
  have n0 : H s.heap.objs.size = none := I.hok.fresh (Nat.le_refl _)
  have ne : s.heap.objs.size ≠ s.heap.objs.size + 1 := Nat.ne_of_lt (Nat.lt_succ_self _)
  have sm : Same H (upd (upd H s.heap.objs.size (.own (s.heap.objs.size + 1))) (s.heap.objs.size + 1) (.ins (G.cls c) s.heap.objs.size [])) := fun b u e => by
    rw [upd_ne (ne_of_none e n1), upd_ne (ne_of_none e n0)]; exact e
  have bk : ∀ b, (upd (upd H s.heap.objs.size (.own (s.heap.objs.size + 1))) (s.heap.objs.size + 1) (.ins (G.cls c) s.heap.objs.size [])) b = none → H b = none := fun b e => by
    cases q : H b with
    | none => rfl
    | some u => have := sm b u q; rw [e] at this; cases this
  obtain ⟨r2, o2⟩ := make_in (Wx := Wx) r n1 sm bk upd_same o
  have hs2 : RepSs G W (σ ++ [some (.ref (s.heap.objs.size + 1))]) (.pl (.sl st.loc.length) :: xs) (.ref (s.heap.objs.size + 1) :: vs) := by
    refine .cons ?_ (Paired.mono (fun x v z => ?_) hs)
    · show (σ ++ [some (V.ref (s.heap.objs.size + 1))])[st.loc.length]? = _
      rw [r.loc.length]
      simp
    · cases x with
      | t p => exact z
      | pl q =>
        cases q with
        | sl j =>
          have z : σ[j]? = some (some v) := z
          show (σ ++ [some (V.ref (s.heap.objs.size + 1))])[j]? = some (some v)
          rw [List.getElem?_append_left (List.getElem?_eq_some_iff.mp z).1]
          exact z
        | ih n => exact z
  have hq := hp (wxS Wx σ) W _ _ _ _ _ _ r2 hs2 o2
  have rv2 : Vals (V.ref (s.heap.objs.size + 1) :: vs) (Value.ref (s.heap.objs.size + 1) :: us) := .cons rfl rv
  refine wpAny_call (make_map (f := fi) I.kIn M.makes M.init (beq_iff_eq.mp M.fn) (codeAny_mono (hf _ X.stack _ _ (Value.ref (s.heap.objs.size + 1) :: us) _ _ _ (room.make (G.cls c) us []) (make_guards gd) (I2.env0.make (G.cls c) us []) rv2 hq) fun z s' q => ?_))
  cases z with
  | error er => exact tk er s' (XE.of_call I2 (fun cls d H' w => w) q)
  | ok fl =>
    cases fl with
    | ret u =>
      obtain ⟨v, H', I3, rv3, ev, q3⟩ := I2.after q
      subst ev
      exact ⟨rv3, ⟨V.ref (s.heap.objs.size + 1), H', I3, rfl, q3⟩⟩
    | next => exact False.elim q
    | brk => exact False.elim q
    | cont => exact False.elim q
end
end Cl
set_option maxHeartbeats 4000000
namespace Cl
open PySem PySem.Spec PyProof.Rows L2 StX ClX
def cCallF (Fc : List SV → Cm SV) (fs : Cm (List SV)) : Cm SV := fun st => (fs st).bind fun xs st1 => Fc xs st1
section
variable {G : Gd} {X : Cx} {Wx : WX} {k n c i : Nat} {f g q : Addr} {Fc : List SV → Cm SV} {x m : PySem.Str} {p pos apos sp_ : Pos} {e o : Expr} {es : List Expr} {fe fo : Cm SV} {fs : Cm (List SV)} {pl : Sem Bool}
theorem callF_step {σ : Sg} {H : Hp} {Q : VK} (h : tE G Wx (cCallF Fc fs) σ H Q) : tL G Wx fs σ H fun vs H1 => ∃ W st xs, R G W st σ H1 ∧ RepSs G W σ xs vs ∧ OutE G Wx W st σ H1 (Fc xs st) Q :=
  tA_mono (tA_seq (rel := RepSs G) (rel' := RepS G) h) fun vs H1 ⟨W, st, xs, a, b, c⟩ => ⟨W, st, xs, a, b, c⟩
theorem ce_call (hk : PySem.W.keepIn X.K (.ref f) = true) (hr : RunOk G X Wx f Fc) (hg : Gl X x) (hm : X.mg x = some (.ref f)) (ha : CA G X Wx (e :: es) fs) (hd : (x == ("__debug__" : PySem.Str)) = false := by decide)
    (he : starEach (e :: es) X.env = (false, eval e X.env) :: starEach es X.env := by rfl) (hpl : (backTo pos (starEach es X.env)).any (·.1) = false := by rfl) : CE G X Wx (.Call (.Name x p) (e :: es) [] pos) (cCallF Fc fs) := by
  refine ⟨⟨fun pn s σ H Q I h => ?_⟩⟩
  refine wpAny_Call_Name_kw (ld_glob I hg hm ?_ hd)
  refine PySem.W.callWith_K (h₀ := X.base) I.ok.mod.kin hk (thn (ha.pa.run pos pn s σ H _ I (callF_step h)) fun us s1 ⟨vs, H1, I1, r, W, st, xs, r1, q1, o⟩ => ⟨I1.kIn, ?_⟩) he hpl
  exact hr pn s1 σ H1 Q us vs xs W st I1 r1 q1 r o
def cMeth (c : Nat) (m : PySem.Str) (Fc : List SV → Cm SV) (fo : Cm SV) (fs : Cm (List SV)) : Cm SV := fun st => (fo st).bind fun x st1 => match view st1 x with
  | some (.obj c' hs) => if c' = c ∧ (hs.lookup m).isNone = true then (fs st1).bind fun xs st2 => Fc (x :: xs) st2 else .stuck
  | _ => .stuck
def noX {α : Type} : Out α → Out α
  | .exc _ _ _ => .stuck
  | o => o
abbrev wx0 : WX := fun _ _ _ _ => False
def cProp (c : Nat) (Fc : List SV → Cm SV) (fo : Cm SV) : Cm SV := fun st => (fo st).bind fun x st1 => match view st1 x with
  | some (.obj c' _) => if c' = c then noX (Fc [x] st1) else .stuck
  | _ => .stuck
end
end Cl
set_option maxHeartbeats 4000000
namespace Cl
open PySem PySem.Spec PyProof.Rows L2 StX ClX
structure Walk (G : Gd) (J : It) (W0 : Wd) (items : List PV) : Prop where
  go : ∀ (W : Wd) (st : ST) (σ : Sg) (H : Hp) (i : Nat) (p : PV), R G W st σ H → Same W0.F W.F → items[i]? = some p → J.go i H ∧
    ∀ x H', J.yld i H x H' → ∃ F', R G ⟨F', W.A⟩ st σ H' ∧ Step (own W st σ) W H (own W st σ) ⟨F', W.A⟩ H' ∧ Rep G F' p x
  stop : ∀ (W : Wd) (st : ST) (σ : Sg) (H : Hp), R G W st σ H → Same W0.F W.F → J.stop items.length H
theorem Walk.later {G : Gd} {J : It} {W0 W1 : Wd} {items : List PV} (w : Walk G J W0 items) (f : Same W0.F W1.F) : Walk G J W1 items :=
  ⟨fun W st σ H i p r s => w.go W st σ H i p r (f.trans s), fun W st σ H r s => w.stop W st σ H r (f.trans s)⟩
def OutI (G : Gd) (Wx : WX) (W : Wd) (st : ST) (σ : Sg) (H : Hp) (o : Out (List PV)) (Rr : It → Hp → Prop) : Prop :=
  match o with
  | .ok items st' => ∀ W' H' J, R G W' st' σ H' → Step (own W st σ) W H (own W' st' σ) W' H' → Walk G J W' items → Rr J H'
  | .exc c fs st' => ∀ W' H' d, R G W' st' σ H' → Step (own W st σ) W H (own W' st' σ) W' H' → RepX G W' H' fs d → Wx (.ref (G.cls c)) d σ H'
  | .stuck => False
theorem OutI.from {G : Gd} {Wx : WX} {W W1 : Wd} {st st1 : ST} {σ : Sg} {H H1 : Hp} {o : Out (List PV)} {Q : It → Hp → Prop}
    (h : OutI G Wx W st σ H o Q) (s : Step (own W st σ) W H (own W1 st1 σ) W1 H1) : OutI G Wx W1 st1 σ H1 o Q := by
  cases o with
  | ok v st' => exact fun W' H' u r s' q => h W' H' u r (s.trans s') q
  | exc c fs st' => exact fun W' H' d r s' q => h W' H' d r (s.trans s') q
  | stuck => exact h
def tI (G : Gd) (Wx : WX) (f : Cm (List PV)) : TI := fun σ H Rr => ∃ W st, R G W st σ H ∧ OutI G Wx W st σ H (f st) Rr
structure CI (G : Gd) (X : Cx) (Wx : WX) (tg iter : Expr) (f : Cm (List PV)) : Prop where
  pi : PI X tg iter (tI G Wx f)
theorem pi_imp {X : Cx} {tg iter : Expr} {t t' : TI} (h : PI X tg iter t) (i : ∀ σ H Rr, t' σ H Rr → t σ H Rr) : PI X tg iter t' := ⟨fun pn s g H Rr I q => h.run pn s g H Rr I (i g H Rr q)⟩
section
variable {G : Gd} {X : Cx} {Wx : WX} {tg e : Expr} {es : List Expr} {fe : Cm SV} {fs : Cm (List SV)} {p pos : Pos}
def cItL (fe : Cm SV) : Cm (List PV) := fun st => (fe st).bind fun x st1 => match x with
  | .t (.lst ps) => .ok ps st1
  | _ => .stuck
def cItT (fe : Cm SV) : Cm (List PV) := fun st => (fe st).bind fun x st1 => match x with
  | .t (.tup _ ps) => .ok ps st1
  | _ => .stuck
theorem walk_lst {W0 : Wd} {K : PySem.W.Frag} {a : Addr} {ps : List PV} {vs : List V} (h : W0.F a = some (.lst vs)) (l : RepL G W0.F ps vs) : Walk G (Itl K a) W0 ps := by
  refine ⟨fun W st σ H i p r s e => ?_, fun W st σ H r s => ⟨vs, .inl (.inl (r.le _ _ (s _ _ h))), by rw [l.length]; exact Nat.le_refl _⟩⟩
  obtain ⟨u, e1, k⟩ := l.get e
  have hq : SqL K H a vs := .inl (.inl (r.le _ _ (s _ _ h)))
  refine ⟨⟨vs, u, hq, e1⟩, fun x H' ⟨eh, hx⟩ => ?_⟩
  subst eh
  have e2 := hx vs hq
  rw [e1] at e2
  cases e2
  exact ⟨W.F, r, Step.refl, k.mono s⟩
theorem walk_tup {k : TF} {W0 : Wd} {K : PySem.W.Frag} {a : Addr} {ps : List PV} {vs : List V} (h : TupAt k W0.F a vs) (l : RepL G W0.F ps vs) : Walk G (Itt K a) W0 ps := by
  refine ⟨fun W st σ H i p r s e => ?_, fun W st σ H r s => ⟨vs, (h.same s).sq r.le, by rw [l.length]; exact Nat.le_refl _⟩⟩
  obtain ⟨u, e1, k⟩ := l.get e
  have hq : SqT K H a vs := (h.same s).sq r.le
  refine ⟨⟨vs, u, hq, e1⟩, fun x H' ⟨eh, hx⟩ => ?_⟩
  subst eh
  have e2 := hx vs hq
  rw [e1] at e2
  cases e2
  exact ⟨W.F, r, Step.refl, k.mono s⟩
theorem tI_step {α β : Type} {rel : Wd → Sg → α → β → Prop} {f : Cm α} {k : α → ST → Out (List PV)} {σ : Sg} {H : Hp} {Rr : It → Hp → Prop} (h : tI G Wx (fun st => (f st).bind k) σ H Rr) :
    tA G Wx rel f σ H fun u H1 => ∃ W1 st1 v, R G W1 st1 σ H1 ∧ rel W1 σ v u ∧ OutI G Wx W1 st1 σ H1 (k v st1) Rr := by
  obtain ⟨W, st, r, o⟩ := h
  refine ⟨W, st, r, ?_⟩
  simp only [OutI] at o
  cases ef : f st with
  | ok v st' =>
    rw [ef] at o
    exact fun W' H' u r' s' q => ⟨W', st', v, r', q, OutI.from o s'⟩
  | exc c fs st' => rw [ef] at o; exact o
  | stuck => rw [ef] at o; exact o
theorem ci_lst (h : CE G X Wx e fe) : CI G X Wx tg e (cItL fe) := by
  refine ⟨pi_imp (pi_list h.pe) fun σ H Rr q => ?_⟩
  refine tA_mono (tI_step (rel := RepS G) q) fun u H1 ⟨W1, st1, v, r1, q1, o⟩ => ?_
  split at o
  · cases q1 with
    | lst h l => exact ⟨_, rfl, ⟨_, .inl (.inl (r1.le _ _ h))⟩, o W1 H1 _ r1 Step.refl (walk_lst h l)⟩
  · exact o.elim
theorem ci_tup (h : CE G X Wx e fe) : CI G X Wx tg e (cItT fe) := by
  refine ⟨pi_imp (pi_tup h.pe) fun σ H Rr q => ?_⟩
  refine tA_mono (tI_step (rel := RepS G) q) fun u H1 ⟨W1, st1, v, r1, q1, o⟩ => ?_
  split at o
  · cases q1 with
    | tup h l => exact ⟨_, rfl, ⟨_, h.sq r1.le⟩, o W1 H1 _ r1 Step.refl (walk_tup h l)⟩
  · exact o.elim
end
end Cl
set_option maxHeartbeats 4000000
namespace Cl
open PySem PySem.Spec PyProof.Rows L2 StX ClX
def smallI (i : Int) : Bool := decide (i.natAbs < 4611686018427387904)
def rngL (lo c : Int) (n : Nat) : List PV := (List.range n).map fun i => .int (lo + (i : Nat) * c)
theorem rngL_length {lo c : Int} {n : Nat} : (rngL lo c n).length = n := by simp [rngL]
section
variable {G : Gd} {X : Cx} {Wx : WX} {tg e a b c : Expr} {es : List Expr} {fe : Cm SV} {fs : Cm (List SV)} {p pos : Pos}
def cRng1 (fs : Cm (List SV)) : Cm (List PV) := fun st => (fs st).bind fun xs st1 => match xs with
  | [.t (.int j)] => if smallI j = true then .ok (rngL 0 1 j.toNat) st1 else .stuck
  | _ => .stuck
def cRng2 (fs : Cm (List SV)) : Cm (List PV) := fun st => (fs st).bind fun xs st1 => match xs with
  | [.t (.int i), .t (.int j)] => if smallI i = true ∧ smallI j = true then .ok (rngL i 1 (j - i).toNat) st1 else .stuck
  | _ => .stuck
def enumL : Nat → List PV → List PV
  | _, [] => []
  | i, p :: ps => .tup .p [.int (i : Nat), p] :: enumL (i + 1) ps
theorem enumL_length : ∀ {ps : List PV} {k : Nat}, (enumL k ps).length = ps.length
  | [], _ => rfl
  | _ :: ps, k => congrArg (· + 1) (enumL_length (ps := ps))
theorem enumL_get : ∀ {ps : List PV} {k i : Nat} {p : PV}, (enumL k ps)[i]? = some p → ∃ q, ps[i]? = some q ∧ p = .tup .p [.int ((k + i : Nat) : Int), q]
  | [], _, i, _, e => by simp [enumL] at e
  | q :: ps, k, 0, _, e => by simp [enumL] at e; subst e; exact ⟨q, rfl, rfl⟩
  | q :: ps, k, i + 1, _, e => by
    obtain ⟨r, e1, e2⟩ := enumL_get (ps := ps) (k := k + 1) (i := i) (by simpa [enumL] using e)
    refine ⟨r, by simpa using e1, ?_⟩
    rw [e2]
    have : k + 1 + i = k + (i + 1) := by omega
    rw [this]
theorem walk_enum {W0 : Wd} {K : PySem.W.Frag} {a : Addr} {ps : List PV} {vs : List V} (h : W0.F a = some (.lst vs)) (l : RepL G W0.F ps vs) : Walk G (Ite K a) W0 (enumL 0 ps) := by
  refine ⟨fun W st σ H i p r s e => ?_, fun W st σ H r s => ⟨vs, .inl (.inl (r.le _ _ (s _ _ h))), by rw [enumL_length, l.length]; exact Nat.le_refl _⟩⟩
  obtain ⟨q, e0, rfl⟩ := enumL_get e
  obtain ⟨u, e1, k⟩ := l.get e0
  have hq : SqL K H a vs := .inl (.inl (r.le _ _ (s _ _ h)))
  refine ⟨⟨vs, u, hq, e1⟩, fun x H' ⟨T, y, ex, hT, eH, hx⟩ => ?_⟩
  subst eH; subst ex
  have e2 := hx vs hq
  rw [e1] at e2
  cases e2
  refine ⟨_, r.new hT, r.step_new hT, .tup (k := .p) upd_same ?_⟩
  have f := (r.step_new (o := .tup [.int (i : Nat), u]) hT).f
  rw [Nat.zero_add]
  exact .cons (.int _) (.cons ((k.mono s).mono f) .nil)
def cEnum (fs : Cm (List SV)) : Cm (List PV) := fun st => (fs st).bind fun xs st1 => match xs with
  | [.t (.lst ps)] => .ok (enumL 0 ps) st1
  | _ => .stuck
theorem ci_enum {elts : List Expr} {kk : Nat} {tpos : Pos} (hg : Gl X "enumerate") (hm : X.mg "enumerate" = none) (ha : CA G X Wx [e] fs) (hs : starEach [e] X.env = [(false, eval e X.env)] := by rfl) :
    CI G X Wx (.Tuple elts kk tpos) (.Call (.Name "enumerate" p) [e] [] pos) (cEnum fs) := by
  refine ⟨pi_imp (pi_enum hg hm ha.pa hs) fun σ H Rr q => ?_⟩
  refine tA_mono (tI_step (rel := RepSs G) q) fun u H1 ⟨W1, st1, v, r1, q1, o⟩ => ?_
  split at o
  · cases q1 with | cons k l => cases l; cases k with | lst h l => exact ⟨_, _, rfl, .inl (.inl (r1.le _ _ h)), o W1 H1 _ r1 Step.refl (walk_enum h l)⟩
  · exact o.elim
def zipL : List PV → List PV → List PV
  | p :: ps, q :: qs => .tup .p [p, q] :: zipL ps qs
  | _, _ => []
end
abbrev TgF := PV → Option (List (Nat × PV))
def ST.sets (st : ST) : List (Nat × PV) → ST
  | [] => st
  | (i, p) :: l => (st.set i (some (.t p))).sets l
def tgN (i : Nat) : TgF := fun p => some [(i, p)]
def tgs : List TgF → List PV → Option (List (Nat × PV))
  | [], [] => some []
  | f :: fs, p :: ps => (f p).bind fun l => (tgs fs ps).map fun m => l ++ m
  | _, _ => none
def tgT (fs : List TgF) : TgF
  | .tup _ ps => tgs fs ps
  | _ => none
def tgL (fs : List TgF) : TgF
  | .lst ps => tgs fs ps
  | _ => none
def OnlyAt (vs : List Nat) (f : TgF) : Prop := ∀ p l, f p = some l → ∀ x ∈ l, x.1 ∈ vs
def WipeEq (σ σ' : Sg) (l : List (Nat × PV)) : Prop := ∀ vs : List Nat, (∀ x ∈ l, x.1 ∈ vs) → wipe σ' vs = wipe σ vs
def tG (G : Gd) (f : TgF) : TG := fun v σ H Q => ∃ W st p l, R G W st σ H ∧ Rep G W.F p v ∧ f p = some l ∧ ∀ σ', R G W (st.sets l) σ' H → (∀ a ∈ own W (st.sets l) σ', a ∈ own W st σ) → WipeEq σ σ' l → Q σ' H
def tGs (G : Gd) (fs : List TgF) : TGs := fun vs σ H Q => ∃ W st ps l, R G W st σ H ∧ RepL G W.F ps vs ∧ tgs fs ps = some l ∧ ∀ σ', R G W (st.sets l) σ' H → (∀ a ∈ own W (st.sets l) σ', a ∈ own W st σ) → WipeEq σ σ' l → Q σ' H
structure CG (G : Gd) (X : Cx) (e : Expr) (f : TgF) : Prop where
  pg : PG X e (tG G f)
structure CGs (G : Gd) (X : Cx) (es : List Expr) (fs : List TgF) : Prop where
  pgs : PGs X es (tGs G fs)
theorem pg_imp {X : Cx} {e : Expr} {t t' : TG} (h : PG X e t) (i : ∀ v σ H Q, t' v σ H Q → t v σ H Q) : PG X e t' := ⟨fun pn s σ H v u Q I r q => h.run pn s σ H v u Q I r (i v σ H Q q)⟩
theorem pgs_imp {X : Cx} {e : List Expr} {t t' : TGs} (h : PGs X e t) (i : ∀ v σ H Q, t' v σ H Q → t v σ H Q) : PGs X e t' := ⟨fun pn s σ H v u Q I r q => h.run pn s σ H v u Q I r (i v σ H Q q)⟩
theorem wipe_set {σ : Sg} {i : Nat} {v : Option V} : ∀ {vs : List Nat}, i ∈ vs → wipe (σ.set i v) vs = wipe σ vs
  | [], h => nomatch h
  | k :: vs, h => by
    show (wipe (σ.set i v) vs).set k none = (wipe σ vs).set k none
    by_cases hv : i ∈ vs
    · rw [wipe_set hv]
    · have e : k = i := by
        rcases List.mem_cons.mp h with z | z
        · exact z.symm
        · exact absurd z hv
      subst e
      have go : ∀ {vs : List Nat}, k ∉ vs → wipe (σ.set k v) vs = (wipe σ vs).set k v := by
        intro vs
        induction vs with
        | nil => intro _; rfl
        | cons j vs ih =>
          intro h
          show (wipe (σ.set k v) vs).set j none = ((wipe σ vs).set j none).set k v
          rw [ih (fun z => h (List.mem_cons_of_mem _ z)), List.set_comm _ _ (fun z => h (by rw [z]; exact List.mem_cons_self ..))]
      rw [go hv, List.set_set]
theorem sets_app {st : ST} : ∀ {l m : List (Nat × PV)}, st.sets (l ++ m) = (st.sets l).sets m := by
  intro l
  induction l generalizing st with
  | nil => intro m; rfl
  | cons x l ih => intro m; exact ih
section
variable {G : Gd} {X : Cx} {Wx : WX} {e : Expr} {es : List Expr} {pos : Pos} {f : TgF} {fs : List TgF}
theorem cg_name {i : Nat} {x : PySem.Str} (hN : X.N.Nodup) (hi : X.N[i]? = some x) (hx : Loc X.env.scope x) (hf : X.fn x = true ∨ X.env.scope.names.lookup x = some .local := by first | exact .inl rfl | exact .inr rfl | assumption) : CG G X (.Name x pos) (tgN i) := by
  refine ⟨pg_imp (pg_name hN hi hx hf) fun v σ H Q ⟨W, st, p, l, r, k, el, o⟩ => ?_⟩
  cases el
  refine o _ (r.setT i k) (fun a h => ((owned_set_sub i (by simp)).append (List.Sublist.refl _)).subset h) fun vs hv => ?_
  exact wipe_set (hv _ (List.mem_singleton.mpr rfl))
theorem cgs_nil : CGs G X [] [] := by
  refine ⟨pgs_imp pgs_nil fun v σ H Q ⟨W, st, ps, l, r, k, el, o⟩ => ?_⟩
  cases k with
  | nil => cases el; exact ⟨rfl, o σ r (fun a h => h) fun vs _ => rfl⟩
  | cons _ _ => cases el
theorem cgs_cons (h : CG G X e f) (hr : CGs G X es fs) (hs : (assignEach (e :: es) X.env).map (·.2) = assign e X.env :: (assignEach es X.env).map (·.2) := by rfl) : CGs G X (e :: es) (f :: fs) := by
  refine ⟨pgs_imp (pgs_cons h.pg hr.pgs hs) fun v σ H Q ⟨W, st, ps, l, r, k, el, o⟩ => ?_⟩
  cases k with
  | nil => cases el
  | cons k1 k2 =>
    obtain ⟨l1, e1, el⟩ := Option.bind_eq_some_iff.mp el
    obtain ⟨l2, e2, rfl⟩ := Option.map_eq_some_iff.mp el
    refine ⟨_, _, rfl, W, st, _, l1, r, k1, e1, fun σ' r' s' w' => ⟨W, _, _, l2, r', k2, e2, fun σ2 r2 s2 w2 => ?_⟩⟩
    refine o σ2 (by rw [sets_app]; exact r2) (fun a h => s' a (s2 a (by rw [sets_app] at h; exact h))) fun vs hv => ?_
    rw [w2 vs fun x hx => hv x (List.mem_append_right _ hx), w' vs fun x hx => hv x (List.mem_append_left _ hx)]
theorem cg_tup {k n : Nat} (hc : X.calm = true) (h : CGs G X es fs) (hl : fs.length = n := by rfl)
    (hn : (assignEach es X.env).length = n := by rfl) (hst : (assignEach es X.env).findIdx? (·.1) = none := by rfl) : CG G X (.Tuple es k pos) (tgT fs) := by
  refine ⟨pg_imp (pg_tup hc h.pgs hn hst) fun v σ H Q ⟨W, st, p, l, r, k, el, o⟩ => ?_⟩
  unfold tgT at el
  split at el
  · rename_i ps
    cases k with
    | tup h1 l1 =>
      have hlen : ps.length = fs.length := by
        have go : ∀ {fs : List TgF} {ps : List PV} {l : List (Nat × PV)}, tgs fs ps = some l → ps.length = fs.length := by
          intro fs
          induction fs with
          | nil => intro ps l e; cases ps with
            | nil => rfl
            | cons _ _ => cases e
          | cons f fs ih =>
            intro ps l e
            cases ps with
            | nil => cases e
            | cons p ps =>
              obtain ⟨l1, e1, e⟩ := Option.bind_eq_some_iff.mp e
              obtain ⟨l2, e2, rfl⟩ := Option.map_eq_some_iff.mp e
              exact congrArg (· + 1) (ih e2)
        exact go el
      exact ⟨_, _, rfl, h1.sq r.le, by rw [← l1.length, hlen, hl], W, st, ps, l, r, l1, el, o⟩
  · cases el
theorem cg_lst {k n : Nat} (hc : X.calm = true) (h : CGs G X es fs) (hl : fs.length = n := by rfl)
    (hn : (assignEach es X.env).length = n := by rfl) (hst : (assignEach es X.env).findIdx? (·.1) = none := by rfl) : CG G X (.Tuple es k pos) (tgL fs) := by
  refine ⟨pg_imp (pg_unl hc h.pgs hn hst) fun v σ H Q ⟨W, st, p, l, r, k, el, o⟩ => ?_⟩
  unfold tgL at el
  split at el
  · rename_i ps
    cases k with
    | lst h1 l1 =>
      have hlen : ps.length = fs.length := by
        have go : ∀ {fs : List TgF} {ps : List PV} {l : List (Nat × PV)}, tgs fs ps = some l → ps.length = fs.length := by
          intro fs
          induction fs with
          | nil => intro ps l e; cases ps with
            | nil => rfl
            | cons _ _ => cases e
          | cons f fs ih =>
            intro ps l e
            cases ps with
            | nil => cases e
            | cons p ps =>
              obtain ⟨l1, e1, e⟩ := Option.bind_eq_some_iff.mp e
              obtain ⟨l2, e2, rfl⟩ := Option.map_eq_some_iff.mp e
              exact congrArg (· + 1) (ih e2)
        exact go el
      exact ⟨_, _, rfl, .inl (.inl (r.le _ _ h1)), by rw [← l1.length, hlen, hl], W, st, ps, l, r, l1, el, o⟩
  · cases el
def sAsg (tg : TgF) (fe : Cm SV) : Sm := fun st => bindS (fe st) fun x st1 => match x with
  | .t p => match tg p with
    | some l => .nx (st1.sets l)
    | none => .stuck
  | _ => .stuck
end
def forL (g : PV → Sm) : List PV → Sm
  | [], st => .nx st
  | p :: ps, st => match g p st with
    | .nx st' => forL g ps st'
    | .ct st' => forL g ps st'
    | .bk st' => .nx st'
    | o => o
def forB (tg : TgF) (body : Sm) : PV → Sm := fun p st => match tg p with
  | some l => body (st.sets l)
  | none => .stuck
def sFor (fi : Cm (List PV)) (tg : TgF) (body : Sm) : Sm := fun st => bindS (fi st) fun items st1 => forL (forB tg body) items st1
section
variable {G : Gd} {X : Cx} {Wx : WX} {tg it : Expr} {body : List Stmt} {pos : Pos} {f : TgF} {fi : Cm (List PV)} {g : Sm}
theorem cs_for (hp : PassesOwn (model X.prog X.w) X.A X.env X.xe) (hc : X.calm = true) (hi : CI G X Wx tg it fi) (hg : CG G X tg f) (hb : CSs G X Wx body g)
    (hs : ∀ x, foldedSetIterable it X.env x = pure x := by intro _; rfl) : CS G X Wx (.For tg it body [] pos) (sFor fi f g) := by
  refine ⟨ps_imp (ps_for hp hc hi.pi hg.pg hb.pss hs) fun D σ H ⟨W, st, r, o⟩ => ?_⟩
  refine ⟨W, st, r, ?_⟩
  unfold sFor at o
  cases efi : fi st with
  | exc c fs st' => rw [efi] at o; exact fun W' H' d r' s' k => o W' σ H' d r' s' k
  | stuck => rw [efi] at o; exact o
  | ok items st1 =>
    rw [efi] at o
    intro W1 H1 J r1 s1 wk
    have o : OutSA G Wx W1 st1 σ H1 (forL (forB f g) items st1) D := OutSA.from o s1
    refine ⟨fun i m σ2 H2 => ∃ W2 st2, R G W2 st2 σ2 H2 ∧ Same W1.F W2.F ∧ m = items.length - i ∧ i ≤ items.length ∧ OutSA G Wx W2 st2 σ2 H2 (forL (forB f g) (items.drop i) st2) D, ⟨_, W1, st1, r1, Same.refl _, rfl, Nat.zero_le _, by simpa using o⟩, ?_⟩
    rintro i m σ2 H2 ⟨W2, st2, r2, f2, hm, hi, o2⟩
    by_cases he : i = items.length
    · refine .inl ⟨by rw [he]; exact wk.stop W2 st2 σ2 H2 r2 f2, ?_⟩
      rw [List.drop_eq_nil_of_le (Nat.le_of_eq he.symm)] at o2
      exact o2 W2 σ2 H2 r2 Step.refl
    · have hlt : i < items.length := Nat.lt_of_le_of_ne hi he
      rw [List.drop_eq_getElem_cons hlt] at o2
      have hget : items[i]? = some items[i] := List.getElem?_eq_getElem hlt
      obtain ⟨hgo, hy⟩ := wk.go W2 st2 σ2 H2 i _ r2 f2 hget
      refine .inr ⟨hgo, fun σ' H' => ∃ m', m' < m ∧ ∃ W' st', R G W' st' σ' H' ∧ Same W1.F W'.F ∧ m' = items.length - (i + 1) ∧ i + 1 ≤ items.length ∧ OutSA G Wx W' st' σ' H' (forL (forB f g) (items.drop (i + 1)) st') D, fun σ' H' h => h, fun x H' yx => ?_⟩
      obtain ⟨F', r3, s3, k3⟩ := hy x H' yx
      unfold forL forB at o2
      cases el : f items[i] with
      | none => rw [el] at o2; exact o2.elim
      | some l =>
        refine ⟨⟨F', W2.A⟩, st2, _, l, r3, k3, el, fun σ4 r4 s4 w4 => ⟨_, _, r4, ?_⟩⟩
        rw [el] at o2
        simp only at o2
        have sub : Step (own W2 st2 σ2) W2 H2 (own ⟨F', W2.A⟩ (st2.sets l) σ4) ⟨F', W2.A⟩ H' := s3.trans (Step.sub s4)
        have again : ∀ {st' : ST}, OutSA G Wx W2 st2 σ2 H2 (forL (forB f g) (items.drop (i + 1)) st') D → ∀ (W' : Wd) (σ' : Sg) (H6 : Hp), R G W' st' σ' H6 → Step (own ⟨F', W2.A⟩ (st2.sets l) σ4) ⟨F', W2.A⟩ H' (own W' st' σ') W' H6 →
            ∃ m', m' < m ∧ ∃ W' st', R G W' st' σ' H6 ∧ Same W1.F W'.F ∧ m' = items.length - (i + 1) ∧ i + 1 ≤ items.length ∧ OutSA G Wx W' st' σ' H6 (forL (forB f g) (items.drop (i + 1)) st') D :=
          fun {st'} o' W' σ' H6 r6 s6 => ⟨_, by rw [hm]; omega, W', st', r6, (f2.trans (sub.trans s6).f), rfl, hlt, OutSA.from o' (sub.trans s6)⟩
        cases eg : g (st2.sets l) with
        | nx st' => rw [eg] at o2; exact fun W' σ' H6 r6 s6 => again o2 W' σ' H6 r6 s6
        | ct st' => rw [eg] at o2; exact fun W' σ' H6 r6 s6 => again o2 W' σ' H6 r6 s6
        | bk st' => rw [eg] at o2; exact fun W' σ' H6 r6 s6 => o2 W' σ' H6 r6 (sub.trans s6)
        | rt v st' =>
          rw [eg] at o2
          exact OutSA.from (o := .rt v st') o2 sub
        | exc c fs st' =>
          rw [eg] at o2
          exact OutSA.from (o := .exc c fs st') (D := D) o2 sub
        | stuck => rw [eg] at o2; exact o2
end
end Cl
set_option maxHeartbeats 4000000
namespace Cl
open PySem PySem.Spec PyProof.Rows L2 StX ClX
theorem owned_set_m {a : Addr} {c : MC} : ∀ {ls : List (Option SL)} {vs : Sg} (i : Nat),
    (owned (ls.set i (some (.m c))) (vs.set i (some (.ref a)))).Sublist (owned ls vs) ∨
    ∃ l1 l2, owned (ls.set i (some (.m c))) (vs.set i (some (.ref a))) = l1 ++ a :: l2 ∧ (l1 ++ l2).Sublist (owned ls vs)
  | [], _, _ => .inl (by simp [owned])
  | l :: ls, [], i => .inl (by cases i <;> simp [owned, List.set])
  | l :: ls, v :: vs, 0 => by
    refine .inr ⟨[], owned ls vs, rfl, ?_⟩
    cases l with
    | none => cases v <;> exact List.Sublist.refl _
    | some y =>
      cases y with
      | m c =>
        cases v with
        | none => exact List.Sublist.refl _
        | some w => cases w <;> first | exact List.sublist_cons_self _ _ | exact List.Sublist.refl _
      | t p => cases v <;> exact List.Sublist.refl _
      | i n => cases v <;> exact List.Sublist.refl _
  | l :: ls, v :: vs, i + 1 => by
    have ih := owned_set_m (a := a) (c := c) (ls := ls) (vs := vs) i
    have skip : ∀ {x y : List Addr}, owned ((l :: ls).set (i + 1) (some (.m c))) ((v :: vs).set (i + 1) (some (.ref a))) = owned (ls.set i (some (.m c))) (vs.set i (some (.ref a))) → owned (l :: ls) (v :: vs) = owned ls vs →
        (owned ((l :: ls).set (i + 1) (some (.m c))) ((v :: vs).set (i + 1) (some (.ref a)))).Sublist (owned (l :: ls) (v :: vs)) ∨
        ∃ l1 l2, owned ((l :: ls).set (i + 1) (some (.m c))) ((v :: vs).set (i + 1) (some (.ref a))) = l1 ++ a :: l2 ∧ (l1 ++ l2).Sublist (owned (l :: ls) (v :: vs)) := by
      intro x y e1 e2
      rw [e1, e2]
      exact ih
    have skip1 : ∀ {b : Addr}, owned ((l :: ls).set (i + 1) (some (.m c))) ((v :: vs).set (i + 1) (some (.ref a))) = b :: owned (ls.set i (some (.m c))) (vs.set i (some (.ref a))) → owned (l :: ls) (v :: vs) = b :: owned ls vs →
        (owned ((l :: ls).set (i + 1) (some (.m c))) ((v :: vs).set (i + 1) (some (.ref a)))).Sublist (owned (l :: ls) (v :: vs)) ∨
        ∃ l1 l2, owned ((l :: ls).set (i + 1) (some (.m c))) ((v :: vs).set (i + 1) (some (.ref a))) = l1 ++ a :: l2 ∧ (l1 ++ l2).Sublist (owned (l :: ls) (v :: vs)) := by
      intro b e1 e2
      rw [e1, e2]
      rcases ih with h | ⟨l1, l2, h1, h2⟩
      · exact .inl (h.cons_cons _)
      · exact .inr ⟨b :: l1, l2, by rw [h1]; rfl, h2.cons_cons _⟩
    cases l with
    | none => cases v <;> exact skip (x := []) (y := []) rfl rfl
    | some y =>
      cases y with
      | m c' =>
        cases v with
        | none => exact skip (x := []) (y := []) rfl rfl
        | some w => cases w <;> first | exact skip1 rfl rfl | exact skip (x := []) (y := []) rfl rfl
      | t p => cases v <;> exact skip (x := []) (y := []) rfl rfl
      | i n => cases v <;> exact skip (x := []) (y := []) rfl rfl
section
variable {G : Gd} {W : Wd} {st : ST} {σ : Sg} {H : Hp}
theorem R.setM (r : R G W st σ H) (i : Nat) {c : MC} {a : Addr} (m : RepM G W.F H c a) (na : a ∉ own W st σ) (fa : W.F a = none) : R G W (st.set i (some (.m c))) (σ.set i (some (.ref a))) H := by
  have nd := r.nd
  unfold own at nd na
  obtain ⟨n1, n2, n3⟩ := List.nodup_append.mp nd
  have na1 : a ∉ owned st.loc σ := fun h => na (List.mem_append_left _ h)
  have na2 : a ∉ W.A := fun h => na (List.mem_append_right _ h)
  have key := owned_set_m (a := a) (c := c) (ls := st.loc) (vs := σ) i
  have mem : ∀ b ∈ owned (st.loc.set i (some (.m c))) (σ.set i (some (.ref a))), b ∈ owned st.loc σ ∨ b = a := fun b hb => by
    rcases key with h | ⟨l1, l2, h1, h2⟩
    · exact .inl (h.subset hb)
    · rw [h1] at hb
      rcases List.mem_append.mp hb with z | z
      · exact .inl (h2.subset (List.mem_append_left _ z))
      · rcases List.mem_cons.mp z with z | z
        · exact .inr z
        · exact .inl (h2.subset (List.mem_append_right _ z))
  have nd1 : (owned (st.loc.set i (some (.m c))) (σ.set i (some (.ref a)))).Nodup := by
    rcases key with h | ⟨l1, l2, h1, h2⟩
    · exact n1.sublist h
    · rw [h1]
      have q := n1.sublist h2
      have nm : a ∉ l1 ++ l2 := fun z => na1 (h2.subset z)
      rw [List.nodup_append] at q ⊢
      refine ⟨q.1, List.nodup_cons.mpr ⟨fun z => nm (List.mem_append_right _ z), q.2.1⟩, fun x hx y hy => ?_⟩
      rcases List.mem_cons.mp hy with z | z
      · rw [z]; exact fun e => nm (by rw [← e]; exact List.mem_append_left _ hx)
      · exact q.2.2 x hx y z
  refine ⟨r.le, r.inh, RepLoc.set i r.loc fun y e => ⟨_, rfl, by cases e; exact ⟨a, rfl, m⟩⟩, ?_, fun b hb => ?_⟩
  · refine List.nodup_append.mpr ⟨nd1, n2, fun x hx y hy e => ?_⟩
    subst e
    rcases mem x hx with z | z
    · exact n3 x z x hy rfl
    · exact na2 (z ▸ hy)
  · rcases List.mem_append.mp hb with z | z
    · rcases mem b z with q | q
      · exact r.fr b (List.mem_append_left _ q)
      · rw [q]; exact fa
    · exact r.fr b (List.mem_append_right _ z)
theorem R.setM_own (r : R G W st σ H) (i : Nat) {c : MC} {a : Addr} : ∀ b ∈ own W (st.set i (some (.m c))) (σ.set i (some (.ref a))), b ∈ own W st σ ∨ b = a := fun b hb => by
  rcases List.mem_append.mp hb with hb | hb
  · rcases owned_set_m (a := a) (c := c) (ls := st.loc) (vs := σ) i with h | ⟨l1, l2, h1, h2⟩
    · exact .inl (List.mem_append_left _ (h.subset hb))
    · have hb : b ∈ owned (st.loc.set i (some (.m c))) (σ.set i (some (.ref a))) := hb
      rw [h1] at hb
      rcases List.mem_append.mp hb with z | z
      · exact .inl (List.mem_append_left _ (h2.subset (List.mem_append_left _ z)))
      · rcases List.mem_cons.mp z with z | z
        · exact .inr z
        · exact .inl (List.mem_append_left _ (h2.subset (List.mem_append_right _ z)))
  · exact .inl (List.mem_append_right _ hb)
end
theorem set_same {α : Type} : ∀ {l : List α} {i : Nat} {x : α}, l[i]? = some x → l.set i x = l
  | [], _, _, _ => rfl
  | y :: l, 0, x, h => by simp at h; subst h; rfl
  | y :: l, i + 1, x, h => by
    show y :: l.set i x = y :: l
    rw [set_same (by simpa using h)]
theorem owned_frz {c : MC} {l0 : Option SL} {a : Addr} (h0 : ∀ c, l0 ≠ some (.m c)) : ∀ {ls : List (Option SL)} {vs : Sg} {i : Nat}, ls[i]? = some (some (.m c)) → vs[i]? = some (some (.ref a)) → (owned ls vs).Nodup →
    (owned (ls.set i l0) vs).Sublist (owned ls vs) ∧ a ∉ owned (ls.set i l0) vs
  | [], _, i, h, _, _ => by simp at h
  | l :: ls, [], i, _, h, _ => by simp at h
  | l :: ls, v :: vs, 0, h1, h2, nd => by
    simp at h1 h2
    subst h1; subst h2
    have nd : (a :: owned ls vs).Nodup := nd
    have e : owned (l0 :: ls) (some (.ref a) :: vs) = owned ls vs := by
      cases l0 with
      | none => rfl
      | some y =>
        cases y with
        | m c => exact absurd rfl (h0 c)
        | t p => rfl
        | i n => rfl
    show (owned (l0 :: ls) (some (.ref a) :: vs)).Sublist (a :: owned ls vs) ∧ a ∉ owned (l0 :: ls) (some (.ref a) :: vs)
    rw [e]
    exact ⟨List.sublist_cons_self _ _, (List.nodup_cons.mp nd).1⟩
  | l :: ls, v :: vs, i + 1, h1, h2, nd => by
    have h1 : ls[i]? = some (some (.m c)) := by simpa using h1
    have h2 : vs[i]? = some (some (.ref a)) := by simpa using h2
    have skip : owned (l :: ls) (v :: vs) = owned ls vs → owned ((l :: ls).set (i + 1) l0) (v :: vs) = owned (ls.set i l0) vs →
        (owned ((l :: ls).set (i + 1) l0) (v :: vs)).Sublist (owned (l :: ls) (v :: vs)) ∧ a ∉ owned ((l :: ls).set (i + 1) l0) (v :: vs) := by
      intro e1 e2
      rw [e1, e2]
      rw [e1] at nd
      exact owned_frz h0 h1 h2 nd
    have skip1 : ∀ {b : Addr}, owned (l :: ls) (v :: vs) = b :: owned ls vs → owned ((l :: ls).set (i + 1) l0) (v :: vs) = b :: owned (ls.set i l0) vs →
        (owned ((l :: ls).set (i + 1) l0) (v :: vs)).Sublist (owned (l :: ls) (v :: vs)) ∧ a ∉ owned ((l :: ls).set (i + 1) l0) (v :: vs) := by
      intro b e1 e2
      rw [e1, e2]
      rw [e1] at nd
      obtain ⟨n1, n2⟩ := List.nodup_cons.mp nd
      obtain ⟨q1, q2⟩ := owned_frz h0 h1 h2 n2
      refine ⟨q1.cons_cons _, fun z => ?_⟩
      rcases List.mem_cons.mp z with z | z
      · exact n1 (by rw [← z]; exact owned_get h1 h2)
      · exact q2 z
    cases l with
    | none => cases v <;> exact skip rfl rfl
    | some y =>
      cases y with
      | m c' =>
        cases v with
        | none => exact skip rfl rfl
        | some w => cases w <;> first | exact skip1 rfl rfl | exact skip rfl rfl
      | t p => cases v <;> exact skip rfl rfl
      | i n => cases v <;> exact skip rfl rfl
section
variable {G : Gd} {W : Wd} {st : ST} {σ : Sg} {H : Hp}
theorem R.frz (r : R G W st σ H) {i : Nat} {c : MC} (h : st.loc[i]? = some (some (.m c))) : ∃ a o, σ[i]? = some (some (.ref a)) ∧ Rep G (upd W.F a o) c.pv (.ref a) ∧ R G ⟨upd W.F a o, W.A⟩ (st.set i (some (.t c.pv))) σ H ∧
    Step (own W st σ) W H (own ⟨upd W.F a o, W.A⟩ (st.set i (some (.t c.pv))) σ) ⟨upd W.F a o, W.A⟩ H := by
  obtain ⟨v, e1, a, rfl, m⟩ := r.loc.get h
  have ha : a ∈ own W st σ := List.mem_append_left _ (owned_get h e1)
  obtain ⟨n1, n2, n3⟩ := List.nodup_append.mp r.nd
  obtain ⟨q1, q2⟩ := owned_frz (l0 := some (.t c.pv)) (by simp) h e1 n1
  obtain ⟨o, ho, k⟩ := m.frozen (r.fr a ha)
  have fs := same_upd (o := o) (r.fr a ha)
  have sub : (own ⟨upd W.F a o, W.A⟩ (st.set i (some (.t c.pv))) σ).Sublist (own W st σ) := q1.append (List.Sublist.refl _)
  have na : a ∉ own ⟨upd W.F a o, W.A⟩ (st.set i (some (.t c.pv))) σ := fun z => by
    rcases List.mem_append.mp z with z | z
    · exact q2 z
    · exact n3 a (owned_get h e1) a z rfl
  refine ⟨a, o, e1, k, ⟨fun b u e => ?_, RepMs.mono fs (fun _ _ _ e => e) r.inh, ?_, r.nd.sublist sub, fun b hb => ?_⟩, ⟨fs, rfl, fun b => ?_, fun b hb => .inl (sub.subset hb), fun b u e _ => e⟩⟩
  · have e : upd W.F a o b = some u := e
    by_cases q : b = a
    · subst q; rw [upd_same] at e; cases e; exact ho
    · rw [upd_ne q] at e; exact r.le b u e
  · have q := RepLoc.set (l := some (.t c.pv)) (v := some (.ref a)) i (RepLoc.mono (W := W) (F' := upd W.F a o) (H' := H) fs (fun _ _ _ e => e) r.loc) fun y e => ⟨_, rfl, by cases e; exact k⟩
    rw [set_same e1] at q
    exact q
  · have q : b ≠ a := fun z => na (by rw [← z]; exact hb)
    show upd W.F a o b = none
    rw [upd_ne q]
    exact r.fr b (sub.subset hb)
  · by_cases q : b = a
    · subst q; exact .inr (.inr ha)
    · exact .inl (upd_ne q)
end
def cMv (i : Nat) : Cm SV := fun st => match st.loc[i]? with
  | some (some (.t p)) => .ok (.t p) st
  | some (some (.m c)) => .ok (.t c.pv) (st.set i (some (.t c.pv)))
  | _ => .stuck
def OutM (G : Gd) (Wx : WX) (W : Wd) (st : ST) (σ : Sg) (H : Hp) (o : Out MC) (Q : VK) : Prop :=
  match o with
  | .ok c st' => ∀ W' H' a, R G W' st' σ H' → Step (own W st σ) W H (own W' st' σ) W' H' → RepM G W'.F H' c a → a ∉ own W' st' σ → W'.F a = none → (H a = none ∨ a ∈ own W st σ) → Q (.ref a) H'
  | .exc c fs st' => ∀ W' H' d, R G W' st' σ H' → Step (own W st σ) W H (own W' st' σ) W' H' → RepX G W' H' fs d → Wx (.ref (G.cls c)) d σ H'
  | .stuck => False
def tM (G : Gd) (Wx : WX) (f : Cm MC) : TE := fun σ H Q => ∃ W st, R G W st σ H ∧ OutM G Wx W st σ H (f st) Q
structure CM (G : Gd) (X : Cx) (Wx : WX) (e : Expr) (f : Cm MC) : Prop where
  pe : PE X e (tM G Wx f)
section
variable {G : Gd} {X : Cx} {Wx : WX} {σ : Sg} {H : Hp} {Q : VK}
theorem OutM.from {W W1 : Wd} {st st1 : ST} {H H1 : Hp} {o : Out MC} (h : OutM G Wx W st σ H o Q) (s : Step (own W st σ) W H (own W1 st1 σ) W1 H1) : OutM G Wx W1 st1 σ H1 o Q := by
  cases o with
  | ok v st' => exact fun W' H' a r s' m na fa b => h W' H' a r (s.trans s') m na fa (s.born b)
  | exc c fs st' => exact fun W' H' d r s' q => h W' H' d r (s.trans s') q
  | stuck => exact h
theorem tM_step {α β : Type} {rel : Wd → Sg → α → β → Prop} {f : Cm α} {k : α → ST → Out MC} {W : Wd} {st : ST} (r : R G W st σ H) (o : OutM G Wx W st σ H ((f st).bind k) Q) :
    tA G Wx rel f σ H fun u H1 => ∃ W1 st1 v, R G W1 st1 σ H1 ∧ Same W.F W1.F ∧ W1.A = W.A ∧ rel W1 σ v u ∧ OutM G Wx W1 st1 σ H1 (k v st1) Q := by
  refine ⟨W, st, r, ?_⟩
  cases ef : f st with
  | ok v st' => rw [ef] at o; exact fun W' H' u r' s' q => ⟨W', st', v, r', s'.f, s'.a, q, OutM.from o s'⟩
  | exc c fs st' => rw [ef] at o; exact o
  | stuck => rw [ef] at o; exact o
def cFrz (f : Cm MC) : Cm SV := fun st => (f st).bind fun c st1 => .ok (.t c.pv) st1
theorem tM_of_frz {f : Cm MC} (h : tE G Wx (cFrz f) σ H Q) : tM G Wx f σ H Q := by
  obtain ⟨W, st, r, o⟩ := h
  refine ⟨W, st, r, ?_⟩
  unfold cFrz at o
  cases ef : f st with
  | ok c st' =>
    rw [ef] at o
    intro W' H' a r' s' m na fa b
    obtain ⟨ob, e1, k⟩ := m.frozen fa
    refine o _ H' (.ref a) (r'.freeze e1 na fa) ⟨s'.f.trans (same_upd fa), s'.a, fun x => ?_, s'.no, s'.keep⟩ k
    by_cases hx : x = a
    · subst hx
      rcases b with z | z
      · exact .inr (.inl (.of z))
      · exact .inr (.inr z)
    · rcases s'.nf x with z | z
      · exact .inl ((upd_ne hx).trans z)
      · exact .inr z
  | exc c fs st' => rw [ef] at o; exact o
  | stuck => rw [ef] at o; exact o
theorem CM.ce {e : Expr} {f : Cm MC} (h : CM G X Wx e f) : CE G X Wx e (cFrz f) := ⟨pe_imp h.pe fun σ H Q q => tM_of_frz q⟩
def GvM (G : Gd) (W : Wd) (st : ST) (σ : Sg) (H : Hp) (c : MC) (Q : VK) : Prop :=
  ∀ W' H' a, R G W' st σ H' → Step (own W st σ) W H (own W' st σ) W' H' → RepM G W'.F H' c a → a ∉ own W' st σ → W'.F a = none → (H a = none ∨ a ∈ own W st σ) → Q (.ref a) H'
theorem R.frno {W : Wd} {st : ST} (r : R G W st σ H) {a : Addr} (h : H a = none) : W.F a = none := by
  cases e : W.F a with
  | none => rfl
  | some u => have := r.le a u e; rw [h] at this; cases this
theorem R.laid {W : Wd} {st : ST} (r : R G W st σ H) {p : Addr} {o : HO} (hp : H p = none) : R G W st σ (upd H p o) :=
  r.grow (F' := W.F) (Same.refl _) (fun b u e _ => same_upd hp b u e) (fun b u e => same_upd hp b u (r.le b u e)) fun b => .inl rfl
theorem R.laid_step {W : Wd} {st : ST} (r : R G W st σ H) {p : Addr} {o : HO} (hp : H p = none) : Step (own W st σ) W H (own W st σ) W (upd H p o) :=
  ⟨Same.refl _, rfl, fun _ => .inl rfl, fun _ h => .inl h, fun b u e _ => same_upd hp b u e⟩
theorem GvM.lst {W : Wd} {st : ST} {xs : List PV} {vs : List V} (g : GvM G W st σ H (.lst xs) Q) (r : R G W st σ H) (l : RepL G W.F xs vs) : ∀ p, H p = none → Q (.ref p) (upd H p (.lst vs)) := fun p hp =>
  g W _ p (r.laid hp) (r.laid_step hp) ⟨vs, upd_same, l⟩ (r.notown hp) (r.frno hp) (.inl hp)
theorem GvM.dct {W : Wd} {st : ST} {xs : List (PV × PV)} {vs : List (Key × V)} (g : GvM G W st σ H (.dct xs) Q) (r : R G W st σ H) (l : RepK G W.F xs vs) : ∀ p, H p = none → Q (.ref p) (upd H p (.dK vs)) := fun p hp =>
  g W _ p (r.laid hp) (r.laid_step hp) ⟨vs, upd_same, l⟩ (r.notown hp) (r.frno hp) (.inl hp)
def ofM (st : ST) (o : Option MC) : Out MC :=
  match o with
  | some p => .ok p st
  | none => .stuck
theorem ofM_some {W : Wd} {st : ST} {o : Option MC} (h : OutM G Wx W st σ H (ofM st o) Q) : ∃ z, o = some z ∧ GvM G W st σ H z Q := by
  cases o with
  | none => exact h.elim
  | some z => exact ⟨z, rfl, h⟩
variable {e a b : Expr} {es : List Expr} {p pos : Pos} {fa fb : Cm SV} {fs : Cm (List SV)}
def mDisp (fs : Cm (List SV)) : Cm MC := fun st => (fs st).bind fun xs st1 => ofM st1 ((trees xs).bind fun ps => if szOk ps.length then some (.lst ps) else none)
theorem szOk_p {n : Nat} (h : szOk n = true) : n ≤ sizeLine := of_decide_eq_true h
theorem cm_lst (h : CA G X Wx es fs) : CM G X Wx (.List es pos) (mDisp fs) := by
  refine ⟨pe_imp (pe_lst h.pa) fun σ H Q ⟨W, st, r, o⟩ => ?_⟩
  refine tA_mono (tM_step (rel := RepSs G) r o) fun us H1 ⟨W1, st1, v, r1, _, _, q1, o1⟩ => ?_
  obtain ⟨z, e, g⟩ := ofM_some o1
  obtain ⟨ps, e1, e2⟩ := Option.bind_eq_some_iff.mp e
  have l := trees_rep q1 e1
  split at e2
  · rename_i hz
    cases e2
    exact ⟨by rw [← l.length]; exact szOk_p hz, fun p hp => g.lst r1 l p hp⟩
  · cases e2
def sSetM (i : Nat) (f : Cm MC) : Sm := fun st => bindS (f st) fun c st1 => .nx (st1.set i (some (.m c)))
end
end Cl
set_option maxHeartbeats 4000000
namespace Cl
open PySem PySem.Spec PyProof.Rows L2 StX ClX
def OutN (G : Gd) (Wx : WX) (W : Wd) (st : ST) (σ : Sg) (H : Hp) (o : Out (List FV)) (Q : List V → Hp → Prop) : Prop :=
  match o with
  | .ok fs st' => ∀ W' H' vs, R G W' st' σ H' → Step (own W st σ) W H (own W' st' σ) W' H' → RepFs G W' (own W' st' σ) H' fs vs → (∀ a ∈ newA fs vs, H a = none ∨ a ∈ own W st σ) → Q vs H'
  | .exc c fs st' => ∀ W' H' d, R G W' st' σ H' → Step (own W st σ) W H (own W' st' σ) W' H' → RepX G W' H' fs d → Wx (.ref (G.cls c)) d σ H'
  | .stuck => False
def tN (G : Gd) (Wx : WX) (f : Cm (List FV)) : TA := fun σ H Q => ∃ W st, R G W st σ H ∧ OutN G Wx W st σ H (f st) Q
structure CN (G : Gd) (X : Cx) (Wx : WX) (es : List Expr) (f : Cm (List FV)) : Prop where
  pa : PA X es (tN G Wx f)
def nNil : Cm (List FV) := fun st => .ok [] st
def nT (fa : Cm SV) (fr : Cm (List FV)) : Cm (List FV) := fun st => (fa st).bind fun x st1 => match x with
  | .t p => (fr st1).bind fun xs st2 => .ok (.t p :: xs) st2
  | _ => .stuck
def nM (fa : Cm MC) (fr : Cm (List FV)) : Cm (List FV) := fun st => (fa st).bind fun c st1 => (fr st1).bind fun xs st2 => .ok (.n c :: xs) st2
section
variable {G : Gd} {X : Cx} {Wx : WX} {e : Expr} {es : List Expr} {fa : Cm SV} {fm : Cm MC} {fr : Cm (List FV)} {pos : Pos}
theorem OutN.from {σ : Sg} {W W1 : Wd} {st st1 : ST} {H H1 : Hp} {o : Out (List FV)} {Q : List V → Hp → Prop} (h : OutN G Wx W st σ H o Q) (s : Step (own W st σ) W H (own W1 st1 σ) W1 H1) : OutN G Wx W1 st1 σ H1 o Q := by
  cases o with
  | ok v st' => exact fun W' H' vs r s' m b => h W' H' vs r (s.trans s') m fun a ha => s.born (b a ha)
  | exc c fs st' => exact fun W' H' d r s' q => h W' H' d r (s.trans s') q
  | stuck => exact h
theorem RepM.stay {o o' : List Addr} {W W' : Wd} {H H' : Hp} {c : MC} {a : Addr} (m : RepM G W.F H c a) (na : a ∉ o) (fa : W.F a = none) (s : Step o W H o' W' H') : RepM G W'.F H' c a ∧ a ∉ o' ∧ W'.F a = none := by
  obtain ⟨u, hu⟩ := m.there
  refine ⟨m.mono s.f fun u e => s.keep a u e na, fun h => ?_, ?_⟩
  · rcases s.no a h with z | z
    · exact na z
    · rw [hu] at z; cases z
  · rcases s.nf a with z | z | z
    · exact z.trans fa
    · exact (z.no (repM_mut m)).elim
    · exact absurd z na
def ST.setF (st : ST) (i : Nat) : FV → ST
  | .t p => st.set i (some (.t p))
  | .n c => st.set i (some (.m c))
def setFs (st : ST) : List Nat → List FV → ST
  | i :: is, f :: fs => setFs (st.setF i f) is fs
  | _, _ => st
def setVs (σ : Sg) : List Nat → List V → Sg
  | i :: is, v :: vs => setVs (σ.set i (some v)) is vs
  | _, _ => σ
theorem RepFs.less {W : Wd} {o o' : List Addr} {H : Hp} : ∀ {fs : List FV} {vs : List V}, RepFs G W o H fs vs → (∀ b ∈ o', b ∈ o ∨ b ∉ newA fs vs) → RepFs G W o' H fs vs
  | [], [], _, _ => trivial
  | .t p :: fs, v :: vs, ⟨k, l⟩, h => ⟨k, l.less fun b hb => h b hb⟩
  | .n c :: fs, _ :: vs, ⟨⟨a, e, m, na, fa, nn⟩, l⟩, h => by
    subst e
    refine ⟨⟨a, rfl, m, fun z => ?_, fa, nn⟩, l.less fun b hb => (h b hb).imp_right fun q z => q (List.mem_cons_of_mem _ z)⟩
    rcases h a z with q | q
    · exact na q
    · exact q (List.mem_cons_self ..)
  | [], _ :: _, h, _ => h.elim
  | .t _ :: _, [], h, _ => h.elim
  | .n _ :: _, [], h, _ => h.elim
theorem R.setFs {W : Wd} {H : Hp} : ∀ {is : List Nat} {fs : List FV} {vs : List V} {st : ST} {σ : Sg}, R G W st σ H → RepFs G W (own W st σ) H fs vs →
    R G W (Cl.setFs st is fs) (setVs σ is vs) H ∧ ∀ b ∈ own W (Cl.setFs st is fs) (setVs σ is vs), b ∈ own W st σ ∨ b ∈ newA fs vs
  | [], fs, vs, st, σ, r, k => by
    have e1 : Cl.setFs st [] fs = st := by cases fs <;> rfl
    have e2 : setVs σ [] vs = σ := by cases vs <;> rfl
    rw [e1, e2]
    exact ⟨r, fun b h => .inl h⟩
  | i :: is, [], [], st, σ, r, k => ⟨r, fun b h => .inl h⟩
  | i :: is, .t p :: fs, v :: vs, st, σ, r, ⟨q, k⟩ => by
    have sub : ∀ b ∈ own W (st.set i (some (.t p))) (σ.set i (some v)), b ∈ own W st σ := fun b h => ((owned_set_sub i (by simp)).append (List.Sublist.refl _)).subset h
    obtain ⟨h1, h2⟩ := R.setFs (is := is) (r.setT i q) (k.less fun b h => .inl (sub b h))
    exact ⟨h1, fun b h => (h2 b h).imp (sub b) fun z => by cases v <;> exact z⟩
  | i :: is, .n c :: fs, v :: vs, st, σ, r, ⟨⟨a, e, m, na, fa, nn⟩, k⟩ => by
    subst e
    obtain ⟨h1, h2⟩ := R.setFs (is := is) (r.setM i m na fa) (k.less fun b h => (r.setM_own i b h).imp_right fun z => by rw [z]; exact nn)
    refine ⟨h1, fun b h => ?_⟩
    rcases h2 b h with z | z
    · rcases r.setM_own i b z with q | q
      · exact .inl q
      · rw [q]; exact .inr (List.mem_cons_self ..)
    · exact .inr (List.mem_cons_of_mem _ z)
  | i :: is, .t p :: fs, [], st, σ, r, k => (show False from k).elim
  | i :: is, .n c :: fs, [], st, σ, r, k => (show False from k).elim
  | i :: is, [], v :: vs, st, σ, r, k => (show False from k).elim
def sPar (is : List Nat) (f : Cm (List FV)) : Sm := fun st => bindS (f st) fun fs st1 => if fs.length = is.length then .nx (setFs st1 is fs) else .stuck
def whileF (c : Cm Bool) (g : Sm) : Nat → Sm
  | 0, _ => .stuck
  | n + 1, st => bindS (c st) fun b st1 => if b = true then (match g st1 with
    | .nx st' => whileF c g n st'
    | .ct st' => whileF c g n st'
    | .bk st' => .nx st'
    | o => o) else .nx st1
end
end Cl
set_option maxHeartbeats 4000000
namespace Cl
open PySem PySem.Spec PyProof.Rows L2 StX ClX
def ST.clear (st : ST) : List Nat → ST
  | [] => st
  | v :: vs => (st.clear vs).set v none
def ST.restore (st st0 : ST) : List Nat → ST
  | [] => st
  | v :: vs => (st.restore st0 vs).set v (st0.loc.getD v none)
def plainAt (st : ST) (vs : List Nat) : Bool := vs.all fun v => match st.loc[v]? with
  | some (some (.m _)) => false
  | some (some (.i _)) => false
  | _ => true
def lcL (tg : TgF) (fc : Cm Bool) (fe : Cm SV) (vs : List Nat) : List PV → Cm (List PV)
  | [], st => .ok [] st
  | p :: ps, st => match tg p with
    | none => .stuck
    | some l => (fc (st.sets l)).bind fun b st1 => if b = true then (fe st1).bind fun y st2 => (match y with
        | .t q => (lcL tg fc fe vs ps (st2.clear vs)).bind fun qs st3 => .ok (q :: qs) st3
        | _ => .stuck) else lcL tg fc fe vs ps (st1.clear vs)
def mLc (fi : Cm (List PV)) (tg : TgF) (fc : Cm Bool) (fe : Cm SV) (vs : List Nat) : Cm MC := fun st => (fi st).bind fun items st1 =>
  if plainAt st1 vs = true then (match lcL tg fc fe vs items (st1.clear vs) with
    | .ok qs st2 => if szOk qs.length = true then .ok (.lst qs) (st2.restore st1 vs) else .stuck
    | _ => .stuck) else .stuck
def con : Option SL → Option V → List Addr
  | some (.m _), some (.ref a) => [a]
  | _, _ => []
theorem owned_cons {l : Option SL} {v : Option V} {ls : List (Option SL)} {vs : Sg} : owned (l :: ls) (v :: vs) = con l v ++ owned ls vs := by
  cases l with
  | none => cases v <;> rfl
  | some y =>
    cases y with
    | m c =>
      cases v with
      | none => rfl
      | some w => cases w <;> rfl
    | t p => cases v <;> rfl
    | i n => cases v <;> rfl
theorem owned_ext : ∀ {ls ls' : List (Option SL)} {vs vs' : Sg}, ls.length = vs.length → ls'.length = vs'.length → ls.length = ls'.length →
    (∀ i : Nat, con ((ls[i]?).getD none) ((vs[i]?).getD none) = con ((ls'[i]?).getD none) ((vs'[i]?).getD none)) → owned ls vs = owned ls' vs'
  | [], [], [], [], _, _, _, _ => rfl
  | l :: ls, l' :: ls', v :: vs, v' :: vs', e1, e2, e3, h => by
    rw [owned_cons, owned_cons]
    have h0 := h 0
    simp only [List.getElem?_cons_zero, Option.getD_some] at h0
    rw [h0, owned_ext (ls := ls) (ls' := ls') (vs := vs) (vs' := vs') (by simpa using e1) (by simpa using e2) (by simpa using e3) fun i => by simpa using h (i + 1)]
  | [], _, _ :: _, _, e, _, _, _ => by simp at e
  | _ :: _, _, [], _, e, _, _, _ => by simp at e
  | _, [], _, _ :: _, _, e, _, _ => by simp at e
  | _, _ :: _, _, [], _, e, _, _ => by simp at e
  | [], _ :: _, [], _ :: _, _, _, e, _ => by simp at e
  | _ :: _, [], _ :: _, [], _, _, e, _ => by simp at e
theorem clear_length {st : ST} {vs : List Nat} : (st.clear vs).loc.length = st.loc.length := by
  induction vs with
  | nil => rfl
  | cons v vs ih => show ((st.clear vs).loc.set v none).length = _; rw [List.length_set, ih]
theorem clear_get {st : ST} {i : Nat} : ∀ {vs : List Nat}, (st.clear vs).loc[i]? = if i ∈ vs ∧ i < st.loc.length then some none else st.loc[i]?
  | [] => by simp [ST.clear]
  | v :: vs => by
    show ((st.clear vs).loc.set v none)[i]? = _
    rw [List.getElem?_set, clear_get (vs := vs), clear_length]
    by_cases h : v = i
    · subst h
      by_cases hl : v < st.loc.length
      · simp [hl]
      · simp [hl]
    · have h' : i ≠ v := fun z => h z.symm
      simp [h, h']
theorem wipe_get {σ : Sg} {i : Nat} : ∀ {vs : List Nat}, (wipe σ vs)[i]? = if i ∈ vs ∧ i < σ.length then some none else σ[i]?
  | [] => by simp [wipe]
  | v :: vs => by
    show ((wipe σ vs).set v none)[i]? = _
    rw [List.getElem?_set, wipe_get (vs := vs), wipe_length]
    by_cases h : v = i
    · subst h
      by_cases hl : v < σ.length
      · simp [hl]
      · simp [hl]
    · have h' : i ≠ v := fun z => h z.symm
      simp [h, h']
theorem wipe_wipe {σ : Sg} {vs : List Nat} : wipe (wipe σ vs) vs = wipe σ vs := by
  apply List.ext_getElem?
  intro i
  rw [wipe_get, wipe_get, wipe_length]
  by_cases h : i ∈ vs ∧ i < σ.length
  · simp [h]
  · simp [h]
theorem restore_length {st st0 : ST} {vs : List Nat} : (st.restore st0 vs).loc.length = st.loc.length := by
  induction vs with
  | nil => rfl
  | cons v vs ih => show ((st.restore st0 vs).loc.set v _).length = _; rw [List.length_set, ih]
theorem restore_inh {st st0 : ST} {vs : List Nat} : (st.restore st0 vs).inh = st.inh := by
  induction vs with
  | nil => rfl
  | cons v vs ih => exact ih
theorem restore_get {st st0 : ST} {i : Nat} : ∀ {vs : List Nat}, (st.restore st0 vs).loc[i]? = if i ∈ vs ∧ i < st.loc.length then some (st0.loc.getD i none) else st.loc[i]?
  | [] => by simp [ST.restore]
  | v :: vs => by
    show ((st.restore st0 vs).loc.set v _)[i]? = _
    rw [List.getElem?_set, restore_get (vs := vs), restore_length]
    by_cases h : v = i
    · subst h
      by_cases hl : v < st.loc.length
      · simp [hl]
      · simp [hl]
    · have h' : i ≠ v := fun z => h z.symm
      simp [h, h']
theorem plainAt_get {st : ST} {vs : List Nat} (h : plainAt st vs = true) {i : Nat} (hi : i ∈ vs) {l : SL} (e : st.loc[i]? = some (some l)) : ∃ p, l = .t p := by
  have q := (List.all_eq_true.mp h) i hi
  rw [e] at q
  cases l with
  | t p => exact ⟨p, rfl⟩
  | m c => cases q
  | i n => cases q
section
variable {G : Gd} {W : Wd} {st : ST} {σ : Sg} {H : Hp} {vs : List Nat}
theorem R.len (r : R G W st σ H) : st.loc.length = σ.length := r.loc.length
theorem own_clear_sub (r : R G W st σ H) : ∀ a ∈ own W (st.clear vs) (wipe σ vs), a ∈ own W st σ := by
  induction vs with
  | nil => exact fun a h => h
  | cons v vs ih =>
    intro a h
    rcases List.mem_append.mp h with h | h
    · have : (owned (((st.clear vs).loc).set v none) ((wipe σ vs).set v none)).Sublist (owned (st.clear vs).loc (wipe σ vs)) := owned_set_sub v (by simp)
      exact ih a (List.mem_append_left _ (this.subset h))
    · exact List.mem_append_right _ h
theorem R.clear (r : R G W st σ H) : R G W (st.clear vs) (wipe σ vs) H := by
  induction vs with
  | nil => exact r
  | cons v vs ih =>
    have sub : (own W ((st.clear vs).set v none) ((wipe σ vs).set v none)).Sublist (own W (st.clear vs) (wipe σ vs)) := (owned_set_sub v (by simp)).append (List.Sublist.refl _)
    exact ⟨ih.le, ih.inh, RepLoc.set v ih.loc fun y e => (nomatch e), ih.nd.sublist sub, fun a h => ih.fr a (sub.subset h)⟩
theorem own_clear (r : R G W st σ H) (h : plainAt st vs = true) : own W (st.clear vs) (wipe σ vs) = own W st σ := by
  unfold own
  rw [owned_ext (by rw [clear_length, wipe_length]; exact r.len) r.len clear_length fun i => ?_]
  rw [clear_get, wipe_get]
  by_cases hi : i ∈ vs ∧ i < st.loc.length
  · rw [if_pos hi, if_pos ⟨hi.1, by rw [← r.len]; exact hi.2⟩]
    have hl : i < σ.length := by rw [← r.len]; exact hi.2
    show ([] : List Addr) = _
    cases e : st.loc[i]? with
    | none => rfl
    | some l =>
      cases l with
      | none => rfl
      | some l =>
        obtain ⟨p, rfl⟩ := plainAt_get h hi.1 e
        rfl
  · rw [if_neg hi, if_neg fun z => hi ⟨z.1, by rw [r.len]; exact z.2⟩]
theorem R.restore {W0 : Wd} {st0 : ST} {H0 : Hp} (r0 : R G W0 st0 σ H0) (h : plainAt st0 vs = true) (r : R G W st (wipe σ vs) H) (f : Same W0.F W.F) : R G W (st.restore st0 vs) σ H ∧ own W (st.restore st0 vs) σ = own W st (wipe σ vs) := by
  have l1 : st.loc.length = σ.length := by rw [r.len, wipe_length]
  have oe : owned (st.restore st0 vs).loc σ = owned st.loc (wipe σ vs) := by
    refine owned_ext (by rw [restore_length, l1]) r.len restore_length fun i => ?_
    rw [restore_get, wipe_get]
    by_cases hi : i ∈ vs ∧ i < st.loc.length
    · rw [if_pos hi, if_pos ⟨hi.1, by rw [← l1]; exact hi.2⟩]
      have e2 : con ((st.loc[i]?).getD none) (Option.getD (some none) none : Option V) = [] := by
        cases (st.loc[i]?).getD none with
        | none => rfl
        | some l => cases l <;> rfl
      rw [e2]
      show con (st0.loc.getD i none) _ = []
      rw [List.getD_eq_getElem?_getD]
      cases e : st0.loc[i]? with
      | none => rfl
      | some l =>
        cases l with
        | none => rfl
        | some l =>
          obtain ⟨p, rfl⟩ := plainAt_get h hi.1 e
          rfl
    · rw [if_neg hi, if_neg fun z => hi ⟨z.1, by rw [l1]; exact z.2⟩]
  have oo : own W (st.restore st0 vs) σ = own W st (wipe σ vs) := by unfold own; rw [oe]
  refine ⟨⟨r.le, by rw [restore_inh]; exact r.inh, ?_, by rw [oo]; exact r.nd, by rw [oo]; exact r.fr⟩, oo⟩
  refine RepLoc.of_get (by rw [restore_length, l1]) fun i l e => ?_
  rw [restore_get] at e
  by_cases hi : i ∈ vs ∧ i < st.loc.length
  · rw [if_pos hi, List.getD_eq_getElem?_getD] at e
    have e : (st0.loc[i]?).getD none = some l := Option.some.inj e
    cases e0 : st0.loc[i]? with
    | none => rw [e0] at e; cases e
    | some l0 =>
      rw [e0] at e
      have e : l0 = some l := e
      subst e
      obtain ⟨p, rfl⟩ := plainAt_get h hi.1 e0
      obtain ⟨v, e1, k⟩ := r0.loc.get e0
      exact ⟨v, e1, Rep.mono f k⟩
  · rw [if_neg hi] at e
    obtain ⟨v, e1, k⟩ := r.loc.get e
    exact ⟨v, (wipe_some e1).1, k⟩
theorem R.updD (r : R G W st σ H) {D : Addr} {o : HO} (hD : D ∉ own W st σ) (hF : W.F D = none) : R G W st σ (upd H D o) :=
  r.grow (F' := W.F) (Same.refl _) (fun b u e q => by
    have ne : b ≠ D := fun z => by
      subst z
      rcases q with q | q
      · exact hD q
      · rw [hF] at q; cases q
    rw [upd_ne ne]; exact e) (fun b u e => by
    have ne : b ≠ D := fun z => by rw [z, hF] at e; cases e
    rw [upd_ne ne]; exact r.le b u e) fun b => .inl rfl
end
structure CTs (G : Gd) (X : Cx) (ifs : List Expr) (f : Cm Bool) : Prop where
  pt : PTs X ifs (tT G wx0 f)
def cYes : Cm Bool := fun st => .ok true st
theorem pts_imp {X : Cx} {ifs : List Expr} {t t' : TT} (h : PTs X ifs t) (i : ∀ σ H Q, t' σ H Q → t σ H Q) : PTs X ifs t' := ⟨fun pn s σ H Q I q => h.run pn s σ H Q I (i σ H Q q)⟩
theorem cts_nil {G : Gd} {X : Cx} : CTs G X [] cYes := ⟨pts_imp pts_nil fun σ H Q ⟨W, st, r, o⟩ => o W H true r Step.refl rfl⟩
section
variable {G : Gd} {X : Cx} {Wx : WX} {tg it elt : Expr} {ifs : List Expr} {fi : Cm (List PV)} {f : TgF} {fc : Cm Bool} {fe : Cm SV} {vs : List Nat} {σ : Sg} {H : Hp} {Q : VK}
theorem onlyAt_n {i : Nat} (h : i ∈ vs) : OnlyAt vs (tgN i) := fun p l e x hx => by cases e; cases List.mem_singleton.mp hx; exact h
theorem bind_ok {α β : Type} {o : Out α} {k : α → ST → Out β} {y : β} {st : ST} (h : o.bind k = .ok y st) : ∃ x st1, o = .ok x st1 ∧ k x st1 = .ok y st := by
  cases o with
  | ok x st1 => exact ⟨x, st1, rfl, h⟩
  | exc c fs st1 => cases h
  | stuck => cases h
theorem lc_in (ho : OnlyAt vs f) (h : tM G Wx (mLc fi f fc fe vs) σ H Q) : tLc (tI G Wx fi) (tG G f) (tT G wx0 fc) (tE G wx0 fe) vs σ H Q := by
  obtain ⟨W, st, r, o⟩ := h
  unfold mLc at o
  refine ⟨W, st, r, ?_⟩
  cases efi : fi st with
  | exc c fs st' => rw [efi] at o; exact o
  | stuck => rw [efi] at o; exact o
  | ok items st1 =>
    rw [efi] at o
    have o : OutM G Wx W st σ H (if plainAt st1 vs = true then (match lcL f fc fe vs items (st1.clear vs) with
      | .ok qs st2 => if szOk qs.length = true then .ok (.lst qs) (st2.restore st1 vs) else .stuck
      | _ => .stuck) else .stuck) Q := o
    intro W1 H1 J r1 s1 wk D hD
    by_cases hpl : plainAt st1 vs = true
    case neg => rw [if_neg hpl] at o; exact o.elim
    rw [if_pos hpl] at o
    cases el : lcL f fc fe vs items (st1.clear vs) with
    | exc c fs st' => rw [el] at o; exact o.elim
    | stuck => rw [el] at o; exact o.elim
    | ok res stF =>
      rw [el] at o
      have o : OutM G Wx W st σ H (if szOk res.length = true then .ok (.lst res) (stF.restore st1 vs) else .stuck) Q := o
      by_cases hsz : szOk res.length = true
      case neg => rw [if_neg hsz] at o; exact o.elim
      rw [if_pos hsz] at o
      have r1c : R G W1 (st1.clear vs) (wipe σ vs) H1 := r1.clear
      have oc : own W1 (st1.clear vs) (wipe σ vs) = own W1 st1 σ := own_clear r1 hpl
      have hDo : D ∉ own W1 st1 σ := r1.notown hD
      refine ⟨fun i m H2 => ∃ W2 st2 acc vals qs, R G W2 st2 (wipe σ vs) H2 ∧ Step (own W1 (st1.clear vs) (wipe σ vs)) W1 H1 (own W2 st2 (wipe σ vs)) W2 H2 ∧ H2 D = some (.lst vals) ∧ RepL G W2.F acc vals ∧ D ∉ own W2 st2 (wipe σ vs) ∧ W2.F D = none ∧
        m = items.length - i ∧ i ≤ items.length ∧ lcL f fc fe vs (items.drop i) st2 = .ok qs stF ∧ acc ++ qs = res, ⟨_, W1, st1.clear vs, [], [], res, r1c.laid hD, r1c.laid_step hD, upd_same, .nil, by rw [oc]; exact hDo, r1.frno hD, rfl, Nat.zero_le _, by simpa using el, rfl⟩, ?_⟩
      rintro i m H2 ⟨W2, st2, acc, vals, qs, r2, s2, hDH, racc, hDn, hDf, hm, hi, e2, eres⟩
      by_cases he : i = items.length
      · refine .inl ⟨by rw [he]; exact wk.stop W2 st2 _ H2 r2 s2.f, ?_⟩
        rw [List.drop_eq_nil_of_le (Nat.le_of_eq he.symm)] at e2
        cases e2
        rw [List.append_nil] at eres
        subst eres
        obtain ⟨r3, oo⟩ := R.restore r1 hpl r2 s2.f
        refine o W2 H2 D r3 ?_ ⟨vals, hDH, racc⟩ (by rw [oo]; exact hDn) hDf (s1.born (.inl hD))
        rw [oo]
        rw [oc] at s2
        exact s1.trans s2
      · have hlt : i < items.length := Nat.lt_of_le_of_ne hi he
        rw [List.drop_eq_getElem_cons hlt] at e2
        have hget : items[i]? = some items[i] := List.getElem?_eq_getElem hlt
        obtain ⟨hgo, hy⟩ := wk.go W2 st2 _ H2 i _ r2 s2.f hget
        refine .inr ⟨hgo, fun H' => ∃ m', m' < m ∧ ∃ W2 st2 acc vals qs, R G W2 st2 (wipe σ vs) H' ∧ Step (own W1 (st1.clear vs) (wipe σ vs)) W1 H1 (own W2 st2 (wipe σ vs)) W2 H' ∧ H' D = some (.lst vals) ∧ RepL G W2.F acc vals ∧ D ∉ own W2 st2 (wipe σ vs) ∧ W2.F D = none ∧
          m' = items.length - (i + 1) ∧ i + 1 ≤ items.length ∧ lcL f fc fe vs (items.drop (i + 1)) st2 = .ok qs stF ∧ acc ++ qs = res, fun H' h => h, fun x H3 yx => ?_⟩
        obtain ⟨F3, r3, s3, k3⟩ := hy x H3 yx
        unfold lcL at e2
        cases et : f items[i] with
        | none => rw [et] at e2; cases e2
        | some l =>
          rw [et] at e2
          refine ⟨⟨F3, W2.A⟩, st2, _, l, r3, k3, et, fun σ4 r4 s4 w4 => ?_⟩
          have we : wipe σ4 vs = wipe σ vs := (w4 vs (ho _ _ et)).trans wipe_wipe
          refine ⟨we, ⟨F3, W2.A⟩, st2.sets l, r4, ?_⟩
          have s34 : Step (own W2 st2 (wipe σ vs)) W2 H2 (own ⟨F3, W2.A⟩ (st2.sets l) σ4) ⟨F3, W2.A⟩ H3 := s3.trans (Step.sub s4)
          -- what stands at D lies untouched
          have stay : ∀ {W' : Wd} {st' : ST} {σ' : Sg} {H' : Hp}, Step (own W2 st2 (wipe σ vs)) W2 H2 (own W' st' σ') W' H' → H' D = some (.lst vals) ∧ RepL G W'.F acc vals ∧ D ∉ own W' st' σ' ∧ W'.F D = none := by
            intro W' st' σ' H' s'
            refine ⟨s'.keep D _ hDH hDn, racc.mono s'.f, fun z => ?_, ?_⟩
            · rcases s'.no D z with q | q
              · exact hDn q
              · rw [hDH] at q; cases q
            · rcases s'.nf D with q | q | q
              · exact q.trans hDf
              · rw [hDH] at q; cases q
              · exact absurd q hDn
          obtain ⟨b, st5, e5, e2⟩ := bind_ok e2
          rw [e5]
          intro W5 H5 u r5 s5 q5
          cases q5
          have s35 := s34.trans s5
          have clr : ∀ {W' : Wd} {st' : ST} {H' : Hp}, R G W' st' σ4 H' → R G W' (st'.clear vs) (wipe σ vs) H' ∧ (∀ a ∈ own W' (st'.clear vs) (wipe σ vs), a ∈ own W' st' σ4) := fun r' => by
            have q1 := r'.clear (vs := vs)
            have q2 := own_clear_sub r' (vs := vs)
            rw [we] at q1 q2
            exact ⟨q1, q2⟩
          cases b with
          | false =>
            obtain ⟨c1, c2⟩ := clr r5
            have sc := s35.trans (Step.sub c2)
            obtain ⟨d1, d2, d3, d4⟩ := stay sc
            exact ⟨_, by rw [hm]; omega, W5, st5.clear vs, acc, vals, qs, c1, s2.trans sc, d1, d2, d3, d4, rfl, hlt, e2, eres⟩
          | true =>
            refine ⟨W5, st5, r5, ?_⟩
            have e2 : ((fe st5).bind fun y st2 => (match y with
              | .t q => (lcL f fc fe vs (items.drop (i + 1)) (st2.clear vs)).bind fun qs st3 => .ok (q :: qs) st3
              | _ => .stuck)) = .ok qs stF := e2
            obtain ⟨y, st6, e6, e2⟩ := bind_ok e2
            rw [e6]
            intro W6 H6 v r6 s6 k6
            cases y with
            | pl q => cases e2
            | t q =>
              obtain ⟨qs', stF', e7, e8⟩ := bind_ok e2
              cases e8
              obtain ⟨c1, c2⟩ := clr r6
              have sc := (s35.trans s6).trans (Step.sub c2)
              obtain ⟨d1, d2, d3, d4⟩ := stay sc
              refine ⟨vals, d1, ?_, _, by rw [hm]; omega, W6, st6.clear vs, acc ++ [q], vals ++ [v], qs', c1.updD d3 d4, ?_, upd_same, d2.append (.cons k6 .nil), d3, d4, rfl, hlt, e7, by rw [← eres]; simp⟩
              · rw [← racc.length]
                have := szOk_p hsz
                rw [← eres] at this
                simp at this
                omega
              · have S := s2.trans sc
                refine ⟨S.f, S.a, S.nf, S.no, fun b u e hb => ?_⟩
                have ne : b ≠ D := fun z => by rw [z, hD] at e; cases e
                rw [upd_ne ne]
                exact S.keep b u e hb
theorem cm_lc {own : List (PySem.Str × Nat)} {scope : Scope} {pos : Pos} (hc : X.calm = true) (hN : X.N.Nodup) (hi : CI G X Wx tg it fi) (ok : BlkOk X.N X.env.scope scope own)
    (hg : ∀ (s : Shared) (H : Hp) (C : Addr) (cl : List (PySem.Str × Addr)) (fp : List Addr), CG G (X.blk s H scope (compEnvC scope cl C X.env) fp) tg f)
    (ht : ∀ (s : Shared) (H : Hp) (C : Addr) (cl : List (PySem.Str × Addr)) (fp : List Addr), CTs G (X.blk s H scope (compEnvC scope cl C X.env) fp) ifs fc)
    (he : ∀ (s : Shared) (H : Hp) (C : Addr) (cl : List (PySem.Str × Addr)) (fp : List Addr), CE G (X.blk s H scope (compEnvC scope cl C X.env) fp) wx0 elt fe)
    (ho : OnlyAt (own.map (·.2)) f) (hs : ∀ x, foldedSetIterable it X.env x = pure x := by intro _; rfl) : CM G X Wx (.ListComp elt [⟨tg, it, ifs, 0⟩] scope pos) (mLc fi f fc fe (own.map (·.2))) :=
  ⟨pe_imp (pe_lc hc hN hi.pi ok (fun s H C cl fp => (hg s H C cl fp).pg) (fun s H C cl fp => (ht s H C cl fp).pt) (fun s H C cl fp => (he s H C cl fp).pe) hs) fun σ H Q q => lc_in ho q⟩
end
end Cl
set_option maxHeartbeats 4000000
namespace Cl
open PySem PySem.Spec PyProof.Rows L2
section
variable {G : Gd} {X : Cx} {Wx : WX} {a b c e : Expr} {es : List Expr} {pos p : Pos} {fa fb fc : Cm SV} {fs : Cm (List SV)} {x : PySem.Str} {id T : String} {g : List PV → Option PV} {gm : List PV → Option MC}
structure CallF (G : Gd) (X : Cx) (f : Value) (g : List PV → Option PV) : Prop where
  ex : ∃ r, CallR X f r ∧ SndL G r g
theorem ce_bi (h : CallF G X (.builtin id) g) (hg : Gl X x) (hm : X.mg x = none) (hv : bootBuiltins x = some (.builtin id)) (ha : CA G X Wx (e :: es) fs) (hn : x ≠ "__name__" := by decide) (hdb : (x == ("__debug__" : PySem.Str)) = false := by decide)
    (he : starEach (e :: es) X.env = (false, eval e X.env) :: starEach es X.env := by rfl) (hpl : (backTo pos (starEach es X.env)).any (·.1) = false := by rfl) : CE G X Wx (.Call (.Name x p) (e :: es) [] pos) (cList g fs) := by
  obtain ⟨r, hc, hs⟩ := h.ex
  exact ⟨pe_imp (pe_callB hc hg hm hv ha.pa hn hdb he hpl) fun σ H Q q => list_step hs q⟩
def SndLM (G : Gd) (r : List V → Hp → VK → Prop) (f : List PV → Option MC) : Prop :=
  ∀ (W : Wd) (st : ST) (σ : Sg) (H : Hp) (ps : List PV) (z : MC) (us : List V) (Q : VK), R G W st σ H → VReps G W.F H ps us → f ps = some z → GvM G W st σ H z Q → r us H Q
structure CallM (G : Gd) (X : Cx) (f : Value) (g : List PV → Option MC) : Prop where
  ex : ∃ r, CallR X f r ∧ SndLM G r g
def mList (f : List PV → Option MC) (fa : Cm (List SV)) : Cm MC := fun st => (fa st).bind fun xs st1 => ofM st1 ((views st1 xs).bind f)
theorem VReps.one {F H : Hp} {p : PV} {us : List V} (h : VReps G F H [p] us) : ∃ v, us = [v] ∧ VRep G F H p v := by
  cases h with | cons k l => cases l; exact ⟨_, rfl, k⟩
theorem VReps.two {F H : Hp} {p q : PV} {us : List V} (h : VReps G F H [p, q] us) : ∃ v u, us = [v, u] ∧ VRep G F H p v ∧ VRep G F H q u := by
  cases h with | cons k l => cases l with | cons k2 l => cases l; exact ⟨_, _, rfl, k, k2⟩
def bLen : List PV → Option PV
  | [.lst xs] => some (.int xs.length)
  | [.tup _ xs] => some (.int xs.length)
  | [.scr xs] => some (.int xs.length)
  | [.str x] => if szOk x.length then some (.int x.length) else none
  | _ => none
def intsP : List PV → Option (List Int)
  | [] => some []
  | .int i :: r => (intsP r).map fun l => i :: l
  | _ => none
def bools : List PV → Option (List Bool)
  | [] => some []
  | .bl i :: r => (bools r).map fun l => i :: l
  | _ => none
theorem bools_eq : ∀ {ps : List PV} {ns : List Bool}, bools ps = some ns → ps = ns.map .bl
  | [], _, e => by cases e; rfl
  | .bl i :: r, _, e => by
    obtain ⟨l, e1, rfl⟩ := Option.map_eq_some_iff.mp e
    rw [bools_eq e1]; rfl
  | .non :: _, _, e => nomatch e
  | .int _ :: _, _, e => nomatch e
  | .str _ :: _, _, e => nomatch e
  | .ty _ :: _, _, e => nomatch e
  | .fn _ :: _, _, e => nomatch e
  | .lst _ :: _, _, e => nomatch e
  | .tup _ _ :: _, _, e => nomatch e
  | .dct _ :: _, _, e => nomatch e
  | .dtp _ :: _, _, e => nomatch e
  | .dtn _ :: _, _, e => nomatch e
  | .dmx _ _ :: _, _, e => nomatch e
  | .obj _ _ :: _, _, e => nomatch e
  | .scr _ :: _, _, e => nomatch e
  | .xo _ _ :: _, _, e => nomatch e
  | .tbl :: _, _, e => nomatch e
  | .adr _ :: _, _, e => nomatch e
  | .clo _ _ _ _ _ :: _, _, e => nomatch e
def bList : List PV → Option MC
  | [.lst ps] => some (.lst ps)
  | [.tup _ ps] => some (.lst ps)
  | [.scr ns] => some (.lst (ns.map .int))
  | _ => none
def bTuple : List PV → Option PV
  | [.lst ps] => some (.tup .x ps)
  | [.tup k ps] => some (.tup k ps)
  | _ => none
end
end Cl
set_option maxHeartbeats 4000000
namespace Cl
open PySem PySem.Spec PyProof.Rows L2
def tkOf : PV → Option TK
  | .non => some (.ty "NoneType")
  | .bl _ => some (.ty "bool")
  | .int _ => some (.ty "int")
  | .str _ => some (.ty "str")
  | .lst _ => some (.ty "list")
  | .scr _ => some (.ty "list")
  | .tup _ _ => some (.ty "tuple")
  | .dct _ => some (.ty "dict")
  | .obj c _ => some (.cl c)
  | _ => none
def ckOf : PV → Option CK
  | .ty n => some (.ty n)
  | .fn n => some (.fn n)
  | _ => none
def cksOf : List PV → Option (List CK)
  | [] => some []
  | p :: ps => (ckOf p).bind fun k => (cksOf ps).map fun l => k :: l
def InsOk (K : PySem.W.Frag) (C : Addr) : Prop := Cls K C ∧ PySem.W.findIn K (.ref C) "__class__" = some (some (.builtin "object.__class__")) ∧
  PySem.W.specialIn K (.builtin "object.__class__") "__get__" = some (some (.builtin "getset_descriptor.__get__")) ∧ PySem.W.takesIn K (.builtin "object.__class__") = some true ∧ PySem.W.mroIn K C (.type "object") = some true
structure IsTb (G : Gd) (K : PySem.W.Frag) (tb : TK → CK → Option Bool) : Prop where
  one : ∀ t c b, tb t c = some b → PySem.W.kitOne K (t.val G) (c.val G) = some b
  ins : ∀ n c b, tb (.cl n) c = some b → InsOk K (G.cls n)
def isAny (tb : TK → CK → Option Bool) (t : TK) : List CK → Option Bool
  | [] => some false
  | c :: cs => match tb t c with
    | some true => some true
    | some false => isAny tb t cs
    | none => none
def bIsi (tb : TK → CK → Option Bool) : List PV → Option PV
  | [p, .tup .p cs] => (tkOf p).bind fun t => (cksOf cs).bind fun l => if l = [] then none else (isAny tb t l).map .bl
  | [p, c] => (tkOf p).bind fun t => (ckOf c).bind fun k => (tb t k).map .bl
  | _ => none
section
variable {G : Gd} {X : Cx} {Wx : WX} {a b c e : Expr} {es : List Expr} {pos p : Pos} {fa fb fc : Cm SV} {fs : Cm (List SV)} {x : PySem.Str} {id T : String} {tb : TK → CK → Option Bool}
theorem ty_at {W : Wd} {st : ST} {σ : Sg} {H : Hp} {p : PV} {v : V} {t : TK} {K : PySem.W.Frag} (r : R G W st σ H) (h : VRep G W.F H p v) (e : tkOf p = some t) (hi : ∀ n, t = .cl n → InsOk K (G.cls n)) : TyX K H v (t.val G) := by
  cases p with
  | non => cases e; cases h; exact .base .non
  | bl b => cases e; cases h; exact .base (.bl b)
  | int i => cases e; cases h; exact .base (.int i)
  | str x => cases e; cases h; exact .base (.str x)
  | ty n => cases e
  | fn n => cases e
  | lst xs => cases e; obtain ⟨a, vs, rfl, d, l⟩ := h; exact .base (.lst d)
  | tup k xs =>
    cases e
    obtain ⟨a, vs, rfl, d, l⟩ := h
    rcases rd_mono r.le d.rd with d | ⟨o, d⟩
    · exact .base (.tup d)
    · exact .fTuple d
  | scr ns => cases e; obtain ⟨a, o, rfl, d⟩ := h; exact .base (.frz (r.le _ _ d))
  | dtp _ => cases e
  | dtn _ => cases e
  | dmx _ _ => cases e
  | dct kvs =>
    cases e
    obtain ⟨a, hs, rfl, d, l⟩ := h
    rcases d with d | ⟨o, d⟩
    · exact .base (.dK d)
    · exact .fDict d
  | obj c fs =>
    cases e
    obtain ⟨a, dx, hs, rfl, d, l⟩ := h
    obtain ⟨i1, i2, i3, i4, i5⟩ := hi c rfl
    exact .base (.ins d i1 i2 i3 i4 i5)
  | xo c fs => cases e
  | tbl => cases e
  | adr _ => cases e
  | clo _ _ _ => cases e
theorem ck_at {F : Hp} {c : PV} {v : V} {k : CK} (h : Rep G F c v) (e : ckOf c = some k) : ClsV v (k.val G) := by
  cases c with
  | ty n => cases e; cases h; exact .ty n
  | fn n => cases e; cases h; exact .own _
  | _ => cases e
theorem ckV_at {F H : Hp} {c : PV} {v : V} {k : CK} (h : VRep G F H c v) (e : ckOf c = some k) : ClsV v (k.val G) := by
  cases c with
  | ty n => cases e; cases h; exact .ty n
  | fn n => cases e; cases h; exact .own _
  | _ => cases e
theorem cks_at {F : Hp} : ∀ {cs : List PV} {vs : List V} {l : List CK}, RepL G F cs vs → cksOf cs = some l → Paired ClsV vs (l.map (CK.val G))
  | _, _, _, .nil, e => by cases e; exact .nil
  | _, _, _, .cons h k, e => by
    obtain ⟨k1, e1, e⟩ := Option.bind_eq_some_iff.mp e
    obtain ⟨l1, e2, rfl⟩ := Option.map_eq_some_iff.mp e
    exact .cons (ck_at h e1) (cks_at k e2)
theorem isAny_kit {K : PySem.W.Frag} {t : TK} (I : IsTb G K tb) : ∀ {l : List CK} {b : Bool}, isAny tb t l = some b → PySem.W.kitAny K (t.val G) (l.map (CK.val G)) = some b
  | [], b, e => by cases e; rfl
  | c :: cs, b, e => by
    unfold isAny at e
    show (match PySem.W.kitOne K (t.val G) (c.val G) with
      | some true => some true
      | some false => PySem.W.kitAny K (t.val G) (cs.map (CK.val G))
      | none => none) = some b
    cases et : tb t c with
    | none => rw [et] at e; cases e
    | some b1 =>
      rw [I.one _ _ _ et]
      rw [et] at e
      cases b1 with
      | true => exact e
      | false => exact isAny_kit I e
theorem cf_isi (I : IsTb G X.K tb) : CallF G X (.builtin "isinstance") (bIsi tb) := ⟨_, callR_or call_isi call_isiT, by
  intro W st σ H ps z us Q r a h g
  unfold bIsi at h
  split at h
  · obtain ⟨t, e1, h⟩ := Option.bind_eq_some_iff.mp h
    obtain ⟨l, e2, h⟩ := Option.bind_eq_some_iff.mp h
    split at h
    · cases h
    · rename_i hne
      obtain ⟨b, e3, rfl⟩ := Option.map_eq_some_iff.mp h
      obtain ⟨v, u, rfl, k1, ad, vs, rfl, d, k2⟩ := a.two
      have hi : ∀ n, t = .cl n → InsOk X.K (G.cls n) := fun n en => by
        cases l with
        | nil => exact absurd rfl hne
        | cons c cs =>
          unfold isAny at e3
          cases et : tb t c with
          | none => rw [et] at e3; cases e3
          | some b1 => rw [en] at et; exact I.ins _ _ _ et
      exact .inr ⟨v, ad, vs, _, _, b, rfl, r.le _ _ d, cks_at k2 e2, ty_at r k1 e1 hi, isAny_kit I e3, g.here r (.bl _)⟩
  · obtain ⟨t, e1, h⟩ := Option.bind_eq_some_iff.mp h
    obtain ⟨k, e2, h⟩ := Option.bind_eq_some_iff.mp h
    obtain ⟨b, e3, rfl⟩ := Option.map_eq_some_iff.mp h
    obtain ⟨v, u, rfl, k1, k2⟩ := a.two
    exact .inl ⟨v, u, _, _, b, rfl, ckV_at k2 e2, ty_at r k1 e1 (fun n en => by rw [en] at e3; exact I.ins _ _ _ e3), I.one _ _ _ e3, g.here r (.bl _)⟩
  · cases h⟩
mutual
theorem toD_nd : ∀ {p : PV} {d : PyData}, toD p = some d → d.hasDict = false
  | .non, _, h => by simp [toD] at h; subst h; rfl
  | .bl b, _, h => by simp [toD] at h; subst h; rfl
  | .int b, _, h => by simp [toD] at h; subst h; rfl
  | .str b, _, h => by simp [toD] at h; subst h; rfl
  | .lst xs, _, h => by
    simp only [toD, Option.map_eq_some_iff] at h
    obtain ⟨ds, e, rfl⟩ := h
    exact toDs_nd e
  | .tup _ xs, _, h => by
    simp only [toD, Option.map_eq_some_iff] at h
    obtain ⟨ds, e, rfl⟩ := h
    exact toDs_nd e
  | .dct _, _, h => by simp [toD] at h
  | .dtp _, _, h => by simp [toD] at h
  | .dtn _, _, h => by simp [toD] at h
  | .dmx _ _, _, h => by simp [toD] at h
  | .obj _ _, _, h => by simp [toD] at h
  | .ty _, _, h => by simp [toD] at h
  | .fn _, _, h => by simp [toD] at h
  | .scr _, _, h => by simp [toD] at h
  | .xo _ _, _, h => by simp [toD] at h
  | .tbl, _, h => by simp [toD] at h
  | .adr _, _, h => by simp [toD] at h
  | .clo _ _ _ _ _, _, h => by simp [toD] at h
theorem toDs_nd : ∀ {ps : List PV} {ds : List PyData}, toDs ps = some ds → PyData.hasDictAll ds = false
  | [], _, h => by cases h; rfl
  | p :: ps, _, h => by
    obtain ⟨d, e1, e⟩ := Option.bind_eq_some_iff.mp h
    obtain ⟨l, e2, rfl⟩ := Option.map_eq_some_iff.mp e
    show (d.hasDict || PyData.hasDictAll l) = false
    rw [toD_nd e1, toDs_nd e2]; rfl
end
def mRg1 (fa : Cm SV) : Cm MC := fun st => (fa st).bind fun x st1 => match x with
  | .t (.int n) => if decide (n.toNat ≤ 16777216) && smallI n then .ok (.lst (rngL 0 1 n.toNat)) st1 else .stuck
  | _ => .stuck
def mRg2 (fa fb : Cm SV) : Cm MC := fun st => (fa st).bind fun x st1 => (fb st1).bind fun y st2 => match x, y with
  | .t (.int i), .t (.int j) => if (smallI i && smallI j) && decide ((j - i).toNat ≤ 16777216) then .ok (.lst (rngL i 1 (j - i).toNat)) st2 else .stuck
  | _, _ => .stuck
def insI (n : Int) : List Int → List Int
  | [] => [n]
  | m :: r => if n ≤ m then n :: m :: r else m :: insI n r
def sortI : List Int → List Int
  | [] => []
  | n :: r => insI n (sortI r)
theorem insI_perm (n : Int) : ∀ l : List Int, (insI n l).Perm (n :: l)
  | [] => .refl _
  | m :: r => by
    unfold insI
    split
    · exact .refl _
    · exact ((insI_perm n r).cons m).trans (.swap n m r)
theorem sortI_perm : ∀ l : List Int, (sortI l).Perm l
  | [] => .refl _
  | n :: r => (insI_perm n _).trans ((sortI_perm r).cons n)
end
end Cl
set_option maxHeartbeats 4000000
set_option maxHeartbeats 4000000
namespace Cl
open PySem PySem.Spec PyProof.Rows L2 StX ClX
section
variable {G : Gd} {W : Wd} {st : ST} {σ : Sg} {H : Hp}
theorem RepS.at {q : PL} {v : V} {c : MC} (r : R G W st σ H) (k : RepS G W σ (.pl q) v) (h : getP st q = some c) : ∃ a, v = .ref a ∧ AtP W σ q a ∧ RepM G W.F H c a ∧ a ∈ own W st σ := by
  obtain ⟨a, e, m, ho⟩ := r.atP h
  refine ⟨a, ?_, e, m, ho⟩
  cases q with
  | sl j =>
    have e1 : σ[j]? = some (some v) := k
    have e2 : σ[j]? = some (some (.ref a)) := e
    rw [e1] at e2; cases e2; rfl
  | ih n =>
    obtain ⟨a', rfl, e1⟩ := k
    have e2 : W.A[n]? = some a := e
    rw [e1] at e2; cases e2; rfl
theorem R.upP (r : R G W st σ H) {q : PL} {c d : MC} {a : Addr} {o : HO} (h : getP st q = some c) (e : AtP W σ q a) (ho : a ∈ own W st σ) (m : RepM G W.F (upd H a o) d a) :
    R G W (Cl.setP st q d) σ (upd H a o) ∧ Step (own W st σ) W H (own W (Cl.setP st q d) σ) W (upd H a o) := by
  have fa : W.F a = none := r.fr a ho
  refine ⟨r.setP (H' := upd H a o) h e (Same.refl _) (fun b u z => ?_) m (fun b _ hb u z => by rw [upd_ne hb]; exact z) r.fr, ⟨Same.refl _, rfl, fun _ => .inl rfl, fun b hb => ?_, fun b u z hb => ?_⟩⟩
  · have ne : b ≠ a := fun y => by rw [y, fa] at z; cases z
    rw [upd_ne ne]; exact r.le b u z
  · rw [own_setP h] at hb; exact .inl hb
  · have ne : b ≠ a := fun y => hb (by rw [y]; exact ho)
    rw [upd_ne ne]; exact z
end
abbrev PlOp := List PV → List PV → Option (PV × List PV)
def cPl (op : PlOp) (fo : Cm SV) (fs : Cm (List SV)) : Cm SV := fun st => (fo st).bind fun x st1 => match x with
  | .pl q => match getP st1 q with
    | some (.lst _) => (fs st1).bind fun xs st2 => match trees xs, getP st2 q with
      | some ps, some (.lst ys) => match op ys ps with
        | some (z, zs) => .ok (.t z) (setP st2 q (.lst zs))
        | none => .stuck
      | _, _ => .stuck
    | _ => .stuck
  | _ => .stuck
def SndP (G : Gd) (r : V → List V → Hp → VK → Prop) (op : PlOp) : Prop :=
  ∀ (W : Wd) (H : Hp) (a : Addr) (ys ps : List PV) (vs us : List V) (z : PV) (zs : List PV) (Q : VK), H a = some (.lst vs) → RepL G W.F ys vs → RepL G W.F ps us → op ys ps = some (z, zs) →
    (∀ u ws, Rep G W.F z u → RepL G W.F zs ws → Q u (upd H a (.lst ws))) → r (.ref a) us H Q
section
variable {G : Gd} {X : Cx} {Wx : WX} {o e : Expr} {es : List Expr} {fo : Cm SV} {fs : Cm (List SV)} {op : PlOp} {r : V → List V → Hp → VK → Prop} {apos cpos : Pos} {name : PySem.Str} {id : String}
theorem pl_step {σ : Sg} {H : Hp} {Q : VK} {K : PySem.W.Frag} (s : SndP G r op) (h : tE G Wx (cPl op fo fs) σ H Q) : tBM K "list" r (tE G Wx fo) (tL G Wx fs) σ H Q := by
  obtain ⟨W, st, r0, o⟩ := h
  refine tA_mono (tA_then (rel := RepS G) (rel' := RepS G) r0 o) fun u H1 ⟨W1, st1, x, r1, _, _, q1, o1⟩ => ?_
  split at o1 <;> first | exact o1.elim | skip
  rename_i q
  split at o1 <;> first | exact o1.elim | skip
  rename_i xs0 hq0
  obtain ⟨a0, rfl, e0, m0, _⟩ := RepS.at r1 q1 hq0
  obtain ⟨vs0, d0, l0⟩ := m0
  refine ⟨.inl ⟨rfl, _, .inl (.inl d0)⟩, ?_⟩
  refine tA_mono (tA_then (rel := RepSs G) (rel' := RepS G) r1 o1) fun us H2 ⟨W2, st2, ys, r2, f2, a2, q2, o2⟩ => ?_
  split at o2 <;> first | exact o2.elim | skip
  rename_i ps ys0 ht hq
  split at o2 <;> first | exact o2.elim | skip
  rename_i z zs hop
  obtain ⟨a, ea, e2, m2, ho⟩ := RepS.at r2 (q1.mono f2 a2) hq
  cases ea
  obtain ⟨vs, d2, l2⟩ := m2
  refine s W2 H2 a0 ys0 ps vs us z zs Q d2 l2 (trees_rep q2 ht) hop fun u ws ru rw' => ?_
  obtain ⟨r3, s3⟩ := r2.upP (d := .lst zs) (o := .lst ws) hq e2 ho ⟨ws, upd_same, rw'⟩
  exact o2 W2 _ u r3 s3 ru
theorem ce_pl (s : SndP G r op) (pa : PlainAttrs "list") (slot : Slot "list" name id) (hty : typeOf (.builtin id) = pure (.type "method_descriptor")) (hm : MtR X id r) (ho : CE G X Wx o fo) (ha : CA G X Wx (e :: es) fs)
    (hbase : attributeBase o name X.env (eval o X.env) = eval o X.env := by rfl)
    (hfew : ((backTo cpos (starEach (e :: es) X.env)).all (fun x => !x.1) && (backToKw cpos (keywordEach [] X.env)).all (fun x => x.1.isSome)
      && decide ((e :: es).length + ([] : List Keyword).length + (if ([] : List Keyword).isEmpty then 0 else 1) < 30)) = true := by rfl)
    (hline : (apos.endLine == cpos.line) = true := by rfl) (hs : starEach (e :: es) X.env = (false, eval e X.env) :: starEach es X.env := by rfl) (hplain : (backTo cpos (starEach es X.env)).any (·.1) = false := by rfl) :
    CE G X Wx (.Call (.Attribute o name apos) (e :: es) [] cpos) (cPl op fo fs) :=
  ⟨pe_imp (pe_bm pa slot hty hm ho.pe ha.pa hbase hfew hline hs hplain) fun σ H Q q => pl_step s q⟩
def opAppend : PlOp := fun ys ps => match ps with
  | [p] => if decide (ys.length < 16777216) then some (.non, ys ++ [p]) else none
  | _ => none
theorem sn_append : SndP G rAppend opAppend := by
  intro W H a ys ps vs us z zs Q d l lp h q
  unfold opAppend at h
  split at h
  · split at h
    · rename_i hz
      cases h
      cases lp with | cons k l2 => cases l2; exact ⟨a, vs, _, rfl, rfl, d, by rw [← l.length, sizeLine_eq]; exact of_decide_eq_true hz, q _ _ .non (l.append (.cons k .nil))⟩
    · cases h
  · cases h
def opPop : PlOp := fun ys ps => match ps with
  | [.int i] => (ixN ys.length i).bind fun k => (ys[k]?).bind fun y => if decide (ys.length < 2 ^ 62) then some (y, ys.eraseIdx k) else none
  | _ => none
def sItem (fv fo fi : Cm SV) : Sm := fun st => bindS (fv st) fun x st1 => bindS (fo st1) fun o st2 => bindS (fi st2) fun i st3 => match x, o, i with
  | .t p, .pl q, .t (.int k) => match getP st3 q with
    | some (.lst ys) => match ixN ys.length k with
      | some j => .nx (setP st3 q (.lst (ys.set j p)))
      | none => .stuck
    | _ => .stuck
  | _, _, _ => .stuck
def sRetM (f : Cm MC) : Sm := fun st => bindS (f st) fun c st1 => .rt (.n c) st1
def mMv (i : Nat) : Cm MC := fun st => match st.loc[i]? with
  | some (some (.m c)) => .ok c (st.set i none)
  | _ => .stuck
end
end Cl
set_option maxHeartbeats 4000000
namespace Cl
open PySem PySem.Spec PyProof.Rows L2 StX ClX
def cResM (st : ST) (ps : List PL) : OutF → Out MC
  | .ok (.n c) out => .ok c (putBack st ps out)
  | .exc c fs out => .exc c fs (putBack st ps out)
  | _ => .stuck
def cRunM (F : Fm) (st : ST) (ys : List SV) : Out MC :=
  match mkArgs st ys with
  | some (as, ps) => if ps.Nodup then cResM st ps (F as) else .stuck
  | none => .stuck
section
variable {G : Gd} {W : Wd} {st : ST} {σ : Sg} {H H' F' : Hp}
theorem run_inM {Wx : WX} {N : List PySem.Str} {F : Fm} {ys : List SV} {us : List V} {Q : VK} (r : R G W st σ H) (hs : RepSs G W σ ys us) (o : OutM G Wx W st σ H (cRunM F st ys) Q) :
    spC G N F us H Q (fun cls d H' => Wx cls d σ H') := by
  unfold cRunM at o
  split at o
  · rename_i as ps e
    split at o
    · rename_i nd
      obtain ⟨ad, h1, h2, h3, h4, h5, h6⟩ := args_in r e hs
      have ndA := nodup_at r h1 h4 nd
      refine ⟨⟨W.F, ad⟩, as, h3, ⟨r.le, h2, ?_, ?_, ?_⟩, ?_⟩
      · have q := RepLoc.pad (N.length - as.length) (h6 [])
        unfold enter L2.start
        rw [h3] at q ⊢
        exact q
      · rw [own_enter]; exact ndA
      · intro a ha
        rw [own_enter] at ha
        exact r.fr a (h5 a ha)
      · have core : ∀ {W' : Wd} {H' : Hp} {out : List MC}, R G W' ⟨[], out⟩ [] H' → Step ad ⟨W.F, ad⟩ H W'.A W' H' →
            R G ⟨W'.F, W.A⟩ (putBack st ps out) σ H' ∧ own ⟨W'.F, W.A⟩ (putBack st ps out) σ = own W st σ ∧ Step (own W st σ) W H (own W st σ) ⟨W'.F, W.A⟩ H' := fun {W' H' out} r' s' => by
          have ea : W'.A = ad := s'.a
          have hn : ∀ a ∈ ad, W'.F a = none := fun a ha => r'.fr a (by unfold own; simp [owned, ea, ha])
          have nf : ∀ b, W'.F b = W.F b ∨ NoM (H b) := fun b => by
            rcases s'.nf b with z | z | z
            · exact .inl z
            · exact .inr z
            · exact .inl ((hn b z).trans (r.fr b (h5 b z)).symm)
          have r0 : R G ⟨W'.F, W.A⟩ st σ (fun b => if b ∈ ad then H b else H' b) := by
            refine r.growM s'.f (fun b u z _ => ?_) (fun b u z => ?_) nf
            · show (if b ∈ ad then H b else H' b) = some u
              split
              · exact z
              · rename_i hb; exact s'.keep b u z hb
            · show (if b ∈ ad then H b else H' b) = some u
              split
              · rename_i hb; rw [hn b hb] at z; cases z
              · exact r'.le b u z
          have pa : Paired (AtP ⟨W'.F, W.A⟩ σ) ps ad := Paired.mono (fun q a z => by cases q <;> exact z) h1
          obtain ⟨p1, p2⟩ := R.puts r'.le (cs := out) r0 pa h4 nd (by have := r'.inh; rw [ea] at this; exact this) fun b hb => by
            show (if b ∈ ad then H b else H' b) = H' b
            rw [if_neg hb]
          refine ⟨p1, p2, ⟨s'.f, rfl, fun b => (nf b).imp_right .inl, fun b h => .inl h, fun b u z hb => s'.keep b u z fun h => hb (h5 b h)⟩⟩
        unfold OutFA
        cases ef : F as with
        | ok v out =>
          rw [ef] at o
          intro W' H' u r' s' k
          obtain ⟨c1, c2, c3⟩ := core r' s'
          cases v with
          | t p => exact (show False from o).elim
          | n c =>
            obtain ⟨a, rfl, m, na, fa, bo⟩ := k
            have ea : W'.A = ad := s'.a
            have ha : H a = none := by
              rcases bo with z | z
              · exact z
              · exact absurd (show a ∈ W'.A by rw [ea]; exact z) na
            have nown : a ∉ own ⟨W'.F, W.A⟩ (putBack st ps out) σ := by rw [c2]; exact r.notown ha
            exact o ⟨W'.F, W.A⟩ H' a c1 (by rw [c2]; exact c3) m nown fa (.inl ha)
          | u c p => exact (show False from o).elim
          | v p c => exact (show False from o).elim
        | exc c fs out =>
          rw [ef] at o
          intro W' H' d r' s' k
          obtain ⟨c1, c2, c3⟩ := core r' s'
          exact o ⟨W'.F, W.A⟩ H' d c1 (by rw [c2]; exact c3) k
        | stuck => rw [ef] at o; exact o.elim
    · exact o.elim
  · exact o.elim
end
def RunOkM (G : Gd) (X : Cx) (Wx : WX) (a : Addr) (Fc : List SV → Cm MC) : Prop :=
  ∀ (pn : List (Addr × Obj)) (s : Shared) (σ : Sg) (H : Hp) (Q : VK) (us : List Value) (vs : List V) (xs : List SV) (W : Wd) (st : ST), Inv X pn σ H s → R G W st σ H → RepSs G W σ xs vs → Vals vs us → OutM G Wx W st σ H (Fc xs st) Q →
    wpAny (model X.prog X.w) X.A (call (.ref a) us) (EP X pn σ Q) X.xe s
def fcDefM (n : Nat) (pl : Plan) (F : Fm) : List SV → Cm MC := fun xs st => if xs.length = n then cRunM F st (pickS pl xs) else .stuck
def PromM (G : Gd) (Wx : WX) (sp : Sp) (Fc : List SV → Cm MC) : Prop :=
  ∀ (W : Wd) (st : ST) (σ : Sg) (H : Hp) (Q : VK) (xs : List SV) (vs : List V), R G W st σ H → RepSs G W σ xs vs → OutM G Wx W st σ H (Fc xs st) Q → sp vs H Q fun cls d H' => Wx cls d σ H'
section
variable {G : Gd} {X : Cx} {Wx : WX} {k n c i : Nat} {f g q : Addr} {Fc : List SV → Cm MC} {F : Fm} {N : List PySem.Str} {pl : Plan} {x m : PySem.Str} {p pos apos sp_ : Pos} {e o : Expr} {es : List Expr} {fe fo : Cm SV} {fs : Cm (List SV)}
theorem PromM.def_ (hp : planOk pl = true) : PromM G Wx (fun vs H Q E => vs.length = n ∧ spC G N F (pickV pl vs) H Q E) (fcDefM n pl F) := by
  intro W st σ H Q xs vs r hs o
  unfold fcDefM at o
  split at o
  · rename_i hl
    have l : xs.length = vs.length := Paired.length hs
    exact ⟨by rw [← l]; exact hl, run_inM r (pick_rep hs hp) o⟩
  · exact o.elim
theorem RunOkM.of {sp : Sp} (hf : FnP X.prog X.w X.K X.mg X.base k f sp) (p : PromM G Wx sp Fc) (room : Room k X.A) (gd : X.A.guards = some []) (tk : Takes X Wx) : RunOkM G X Wx f Fc :=
  fun pn s σ H Q us vs xs W st I r hs rv o => run_fnP hf room gd tk I rv (p W st σ H Q xs vs r hs o)
def mCallF (Fc : List SV → Cm MC) (fs : Cm (List SV)) : Cm MC := fun st => (fs st).bind fun xs st1 => Fc xs st1
end
end Cl
set_option maxHeartbeats 4000000
namespace Cl
open PySem PySem.Spec PyProof.Rows L2
theorem meets_enumT (t : Addr) (items : Array Value) :
    Meets (Builtin.«enumerate.__new__» ⟨[.type "enumerate", .ref t], []⟩) (fun _ R s => s.heap.IsTuple t items ∧
      R (.ok (.ret (.ref (s.heap.push { cls := .type "tuple_iterator", data := .fields #[.ref t, .int 0 0] }).objs.size)))
        { s with heap := (s.heap.push { cls := .type "tuple_iterator", data := .fields #[.ref t, .int 0 0] }).push { cls := .type "enumerate", data := .fields #[.none, .bool false, .ref s.heap.objs.size, rawInt 0, .none, .none] } }) :=
  .of_wp fun prog w A R s h => by
    obtain ⟨hp, g, d, tk, os⟩ := s; obtain ⟨h1, h⟩ := h
    have hsub := sub_enumerate
    have q1 : ∀ {A' : Around} {E : Value → Shared → Prop} {Q : Value → Shared → Prop}, Q (.ref hp.objs.size) ⟨hp.push { cls := .type "tuple_iterator", data := .fields #[.ref t, .int 0 0] }, g, d, tk, os⟩ → wpAny (model prog w) A' (pyIter (.ref t)) Q E ⟨hp, g, d, tk, os⟩ :=
      fun q => (begins_tuple t items).iter prog w _ _ ⟨hp, g, d, tk, os⟩ _ h1 q
    wp_walk using q1
    refine wpAny_stack_any fun st => wpAny_pure ?_
    split
    · rename_i c _ _ _ _ _
      cases (c == Value.type "enumerate")
      · wp_walk using q1
        exact ⟨_, rfl, h⟩
      · wp_walk using q1
        exact ⟨_, rfl, h⟩
    · wp_walk using q1
      exact ⟨_, rfl, h⟩
section
variable {prog : Program} {w : World} {A : Around} {E : Value → Shared → Prop} {s : Shared}
theorem call_enumT {t : Addr} {items : Array Value} {Q : Value → Shared → Prop} (h1 : s.heap.IsTuple t items)
    (h : ∀ h', IsEnum h' (s.heap.objs.size + 1) s.heap.objs.size 0 .none → h'.IsTupleIter s.heap.objs.size t 0 → (∀ b o, s.heap.get? b = some o → h'.get? b = some o) → Q (.ref (s.heap.objs.size + 1)) { s with heap := h' }) :
    wpAny (model prog w) A (call (.type "enumerate") [.ref t]) Q E s := by
  refine callType_new F.called_enumerate (by decide) (F.typeCall_enumerate_1 _) (F.newCall_enumerate_1 _) (fun obj => F.args_object_init_2 obj _) F.entry_enumerate_new
    (meets_enumT t items) ⟨h1, ?_⟩
  have hz : (s.heap.push { cls := .type "tuple_iterator", data := .fields #[.ref t, .int 0 0] }).objs.size = s.heap.objs.size + 1 := Heap.size_push ..
  show _ ∧ _
  rw [hz]
  have he : IsEnum ((s.heap.push { cls := .type "tuple_iterator", data := .fields #[.ref t, .int 0 0] }).push { cls := .type "enumerate", data := .fields #[.none, .bool false, .ref s.heap.objs.size, rawInt 0, .none, .none] }) (s.heap.objs.size + 1) s.heap.objs.size 0 .none := by
    have := Heap.get?_push_size (s.heap.push { cls := .type "tuple_iterator", data := .fields #[.ref t, .int 0 0] }) (o := { cls := .type "enumerate", data := .fields #[.none, .bool false, .ref s.heap.objs.size, rawInt 0, .none, .none] }) rfl
    rw [hz] at this; exact this
  exact ⟨⟨_, he, rfl⟩, h _ he ⟨_, Heap.get?_push_of_some _ (Heap.get?_push_size _ rfl), rfl, rfl⟩ fun b o x => Heap.get?_push_of_some _ (Heap.get?_push_of_some _ x)⟩
end
def IteT (K : PySem.W.Frag) (a : Addr) : It :=
  ⟨fun i H => ∃ (xs : List V) (x : V), SqT K H a xs ∧ xs[i]? = some x, fun i H v H' => ∃ T x, v = .ref T ∧ H T = none ∧ H' = upd H T (.tup [.int (i : Nat), x]) ∧ ∀ xs, SqT K H a xs → xs[i]? = some x, fun i H => ∃ xs : List V, SqT K H a xs ∧ xs.length ≤ i⟩
theorem turn_enumT {P : Program} {w : World} {K : PySem.W.Frag} {elts : List Expr} {kk : Nat} {tpos : Pos} (a e it : Addr) :
    Turn P w K (.Tuple elts kk tpos) (IteT K a) [e, it] e (fun i h => (∃ old, IsEnum h e it ((i : Nat) : Int) old) ∧ h.IsTupleIter it a i ∧ e ≠ it ∧ a ≠ it) where
  mem := by simp
  obj := fun i h st b hb => by
    obtain ⟨⟨old, he⟩, ⟨o, ho, hc, hd⟩, _⟩ := st
    have e' : b = e ∨ b = it := by simpa using hb
    rcases e' with z | z
    · rw [z]; exact ⟨_, he, fun v q => nomatch q⟩
    · rw [z]; exact ⟨o, ho, fun v q => by rw [hd] at q; cases q⟩
  keep := fun i h h' st k => let ⟨⟨old, he⟩, hi, hne⟩ := st; ⟨⟨old, k e (by simp) _ he⟩, hi.at fun o q => k it (by simp) o q, hne⟩
  item := by
    intro X hP hw hK hc i pins s σ H E I hf st hg
    subst hP hw hK
    obtain ⟨⟨old, he⟩, hit, hne, hni⟩ := st
    obtain ⟨xs, x, hq, hx⟩ := hg
    obtain ⟨its, rv, p, hz⟩ := I.tuple hq
    obtain ⟨u, hu, ru⟩ := rv.get hx
    have hel : e < s.heap.objs.size := Heap.lt_size he
    have hil : it < s.heap.objs.size := by obtain ⟨_, q, _⟩ := hit; exact Heap.lt_size q
    have hlt : i < its.toArray.size := by
      have := List.getElem?_eq_some_iff.mp hu
      simpa using this.1
    have hae : e ∉ [it, a] := by
      intro z
      have e' : e = it ∨ e = a := by simpa using z
      rcases e' with z | z
      · exact hne z
      · subst z
        obtain ⟨o, ho, hc, n, hd⟩ := p
        rw [he] at ho; cases ho
        injection hc with q
        exact absurd q (by decide)
    refine wpAny_pyNext_enum_itemD (Draws.tuple (show X.A.in1.handled = none from I.ok.hd hc) it a hni its.toArray) he ⟨hit, p⟩ hlt hne hae fun y h' tk hP ho hit' hT hsz hk => ?_
    have ey : y = u := by
      have q : its.toArray[i]? = some u := by simpa using hu
      rw [q] at hP; cases hP; rfl
    subst ey
    refine ⟨_, rfl, wpAny_letOwnedTupleGo_enum (s := { s with heap := h', toks := tk + 1 }) ho fun h'' he' sb => ?_⟩
    have hT2 : h''.get? s.heap.objs.size = some { cls := .type "tuple", data := .seq #[.int i tk, y] } := (sb.2 _ (Nat.ne_of_gt hel)).trans hT
    have new : ObjOk X.prog X.w (upd H s.heap.objs.size (.tup [.int (i : Nat), x])) h'' s.heap.objs.size (.tup [.int (i : Nat), x]) :=
      ⟨by show 2 ≤ sizeLine; decide, [.int i tk, y], .cons ⟨_, rfl⟩ (.cons ru .nil), ⟨_, hT2, rfl, _, rfl⟩⟩
    have I1 : Inv X pins σ (upd H s.heap.objs.size (.tup [.int (i : Nat), x])) { s with heap := h'', toks := tk + 1 } :=
      I.turnedNew (ch := [e, it]) (fun b ob hb q => (sb.2 b (fun z => hb (by simp [z]))).trans (hk b ob (fun z => hb (by simp [z])) (fun z => hb (by simp [z])) q)) hf (Nat.le_refl _) new
    refine ⟨.ref s.heap.objs.size, _, I1, rfl, ⟨_, x, rfl, I.hok.fresh (Nat.le_refl _), rfl, fun ys hy => by rw [I.tuple_inj hy hq]; exact hx⟩, ⟨⟨y, ?_⟩, hit'.1.at fun o q => (sb.2 it (Ne.symm hne)).trans q, hne, hni⟩, fun b hb => ?_⟩
    · have e1 : ((i + 1 : Nat) : Int) = (i : Int) + 1 := by omega
      rw [e1]; exact he'
    · have hb' : b < s.heap.objs.size := by
        have e' : b = e ∨ b = it := by simpa using hb
        rcases e' with z | z
        · rw [z]; exact hel
        · rw [z]; exact hil
      rw [upd_ne (Nat.ne_of_lt hb')]
      exact (hf b hb).1
  done := by
    intro X hP hw hK hc i pins s σ H E I hf st hg
    subst hP hw hK
    obtain ⟨⟨old, he⟩, hit, hne, hni⟩ := st
    obtain ⟨xs, hq, hx⟩ := hg
    obtain ⟨its, rv, p, hz⟩ := I.tuple hq
    obtain ⟨f0, f1, f2, f3, f4, f5⟩ := hf it (by simp)
    have hl := rv.length
    have hT : s.TypeIs (.ref e) "enumerate" := ⟨_, he, rfl⟩
    unfold pyNext
    refine wpAny_bind (wpAny_attempt (wpAny_callSpecial?_slot (name := Str.ofString "__next__") hT F.slot_enumerate_next
      (wpAny_call_entry F.slot_enumerate_next hT F.entry_enumerate_next ?_ (F.args_enumerate_next_1 _))))
    show wpAny _ _ (field (.ref e) 2 >>= _) _ _ _
    refine wpAny_bind (wpAny_field he rfl (x := .ref it) rfl ?_)
    refine wpAny_bind (wpAny_nextOf_tuple_end (show X.A.in1.handled = none from I.ok.hd hc) hit p (by simp; omega) fun h' x he' hx' => ?_)
    obtain ⟨o, ho, hc'⟩ := hx'
    refine wpAny_bind (wpAny_isInstance (T := "StopIteration") (b := true) ⟨o, ho, hc'⟩ isSubtype_stop ?_)
    exact wpAny_pure ⟨rfl, I.turned (t' := s.toks) (fun b o hb q => he' b o hb q) f0 f1 f3 f4 f5⟩
  self := fun A i s Q E st h => let ⟨⟨_, he⟩, _⟩ := st; wpAny_pyIter_enum he h
def iEnumT (K : PySem.W.Frag) (ta : TA) : TI := fun σ H R => ta σ H fun vs H1 => ∃ a xs, vs = [.ref a] ∧ SqT K H1 a xs ∧ R (IteT K a) H1
theorem pi_enumT {X : Cx} {e : Expr} {ta : TA} {p pos tpos : Pos} {elts : List Expr} {kk : Nat} (hg : Gl X "enumerate") (hm : X.mg "enumerate" = none) (ha : PA X [e] ta) (hs : starEach [e] X.env = [(false, eval e X.env)] := by rfl) :
    PI X (.Tuple elts kk tpos) (.Call (.Name "enumerate" p) [e] [] pos) (iEnumT X.K ta) := by
  refine ⟨fun pins s σ H R I h => ?_⟩
  refine Call_ (ld_blt I hg hm boot_enumerate (PyProof.Rows.callWith_type1 (thn (ha.run pos pins s σ H _ I h) fun us s1 ⟨vs, H1, I1, r1, q1⟩ => ?_) hs rfl))
  obtain ⟨a, xs, ex, hq, q⟩ := q1
  subst ex
  cases r1 with
  | cons r rr =>
    cases rr
    cases r
    obtain ⟨its, rv, p', hz⟩ := I1.tuple hq
    have hal : a < s1.heap.objs.size := by obtain ⟨o, e, _⟩ := p'; exact Heap.lt_size e
    refine call_enumT p' fun h' he hit hk => wpAny_pyIter_enum he ?_
    have I2 : Inv X pins σ H1 { s1 with heap := h' } := I1.kept (t' := s1.toks) hk
    refine ⟨s1.heap.objs.size + 1, [s1.heap.objs.size + 1, s1.heap.objs.size], _, _, H1, rfl, I2, turn_enumT a (s1.heap.objs.size + 1) s1.heap.objs.size, ⟨⟨.none, he⟩, hit, Nat.succ_ne_self _, Nat.ne_of_lt hal⟩, fun b hb => ?_, q⟩
    have e' : b = s1.heap.objs.size + 1 ∨ b = s1.heap.objs.size := by simpa using hb
    have hle : s1.heap.objs.size ≤ b := by
      rcases e' with z | z
      · rw [z]; exact Nat.le_add_right _ _
      · rw [z]; exact Nat.le_refl _
    exact I1.fpOk hle (I1.hok.fresh hle)
section
variable {G : Gd} {X : Cx} {Wx : WX} {e : Expr} {p pos : Pos} {fs : Cm (List SV)}
theorem walk_enumT {k : TF} {W0 : Wd} {K : PySem.W.Frag} {a : Addr} {ps : List PV} {vs : List V} (h : TupAt k W0.F a vs) (l : RepL G W0.F ps vs) : Walk G (IteT K a) W0 (enumL 0 ps) := by
  refine ⟨fun W st σ H i p r s e => ?_, fun W st σ H r s => ⟨vs, (h.same s).sq r.le, by rw [enumL_length, l.length]; exact Nat.le_refl _⟩⟩
  obtain ⟨q, e0, rfl⟩ := enumL_get e
  obtain ⟨u, e1, k⟩ := l.get e0
  have hq : SqT K H a vs := (h.same s).sq r.le
  refine ⟨⟨vs, u, hq, e1⟩, fun x H' ⟨T, y, ex, hT, eH, hx⟩ => ?_⟩
  subst eH; subst ex
  have e2 := hx vs hq
  rw [e1] at e2
  cases e2
  refine ⟨_, r.new hT, r.step_new hT, .tup (k := .p) upd_same ?_⟩
  have f := (r.step_new (o := .tup [.int (i : Nat), u]) hT).f
  rw [Nat.zero_add]
  exact .cons (.int _) (.cons ((k.mono s).mono f) .nil)
def cEnumT (fs : Cm (List SV)) : Cm (List PV) := fun st => (fs st).bind fun xs st1 => match xs with
  | [.t (.tup _ ps)] => .ok (enumL 0 ps) st1
  | _ => .stuck
theorem ci_enumT {elts : List Expr} {kk : Nat} {tpos : Pos} (hg : Gl X "enumerate") (hm : X.mg "enumerate" = none) (ha : CA G X Wx [e] fs) (hs : starEach [e] X.env = [(false, eval e X.env)] := by rfl) :
    CI G X Wx (.Tuple elts kk tpos) (.Call (.Name "enumerate" p) [e] [] pos) (cEnumT fs) := by
  refine ⟨pi_imp (pi_enumT hg hm ha.pa hs) fun σ H Rr q => ?_⟩
  refine tA_mono (tI_step (rel := RepSs G) q) fun u H1 ⟨W1, st1, v, r1, q1, o⟩ => ?_
  split at o
  · cases q1 with | cons k l => cases l; cases k with | tup h l => exact ⟨_, _, rfl, h.sq r1.le, o W1 H1 _ r1 Step.refl (walk_enumT h l)⟩
  · exact o.elim
end
end Cl
set_option maxHeartbeats 4000000
namespace Cl
open PySem PySem.Spec PyProof.Rows L2 StX ClX
section
variable {G : Gd} {X : Cx} {Wx : WX} {tg e : Expr} {es : List Expr} {fe : Cm SV} {fs : Cm (List SV)} {p pos : Pos}
def cIt (fe : Cm SV) : Cm (List PV) := fun st => (fe st).bind fun x st1 => match x with
  | .t (.lst ps) => .ok ps st1
  | .t (.tup _ ps) => .ok ps st1
  | _ => .stuck
theorem ci_seq (h : CE G X Wx e fe) : CI G X Wx tg e (cIt fe) := by
  have h1 := (ci_lst (tg := tg) h).pi
  have h2 := (ci_tup (tg := tg) h).pi
  refine ⟨⟨fun pn s σ H Rr I ⟨W, st, r, o⟩ => ?_⟩⟩
  unfold cIt at o
  cases ef : fe st with
  | stuck => rw [ef] at o; exact o.elim
  | exc c fs st1 =>
    refine h1.run pn s σ H Rr I ⟨W, st, r, ?_⟩
    unfold cItL
    rw [ef] at o ⊢
    exact o
  | ok x st1 =>
    rw [ef] at o
    dsimp only [Out.bind] at o
    split at o
    · refine h1.run pn s σ H Rr I ⟨W, st, r, ?_⟩
      unfold cItL
      rw [ef]
      exact o
    · refine h2.run pn s σ H Rr I ⟨W, st, r, ?_⟩
      unfold cItT
      rw [ef]
      exact o
    · exact o.elim
def cEn (fs : Cm (List SV)) : Cm (List PV) := fun st => (fs st).bind fun xs st1 => match xs with
  | [.t (.lst ps)] => .ok (enumL 0 ps) st1
  | [.t (.tup _ ps)] => .ok (enumL 0 ps) st1
  | _ => .stuck
theorem ci_en {elts : List Expr} {kk : Nat} {tpos : Pos} (hg : Gl X "enumerate") (hm : X.mg "enumerate" = none) (ha : CA G X Wx [e] fs) (hs : starEach [e] X.env = [(false, eval e X.env)] := by rfl) :
    CI G X Wx (.Tuple elts kk tpos) (.Call (.Name "enumerate" p) [e] [] pos) (cEn fs) := by
  have h1 := (ci_enum (elts := elts) (kk := kk) (tpos := tpos) (p := p) (pos := pos) hg hm ha hs).pi
  have h2 := (ci_enumT (elts := elts) (kk := kk) (tpos := tpos) (p := p) (pos := pos) hg hm ha hs).pi
  refine ⟨⟨fun pn s σ H Rr I ⟨W, st, r, o⟩ => ?_⟩⟩
  unfold cEn at o
  cases ef : fs st with
  | stuck => rw [ef] at o; exact o.elim
  | exc c fs st1 =>
    refine h1.run pn s σ H Rr I ⟨W, st, r, ?_⟩
    unfold cEnum
    rw [ef] at o ⊢
    exact o
  | ok x st1 =>
    rw [ef] at o
    dsimp only [Out.bind] at o
    split at o
    · refine h1.run pn s σ H Rr I ⟨W, st, r, ?_⟩
      unfold cEnum
      rw [ef]
      exact o
    · refine h2.run pn s σ H Rr I ⟨W, st, r, ?_⟩
      unfold cEnumT
      rw [ef]
      exact o
    · exact o.elim
end
section
variable {G : Gd} {X : Cx} {Wx : WX} {e : Expr} {fe : Cm SV}
def cRev (fe : Cm SV) : Cm SV := fun st => (fe st).bind fun x st1 => match view st1 x with
  | some (.lst ps) => .ok (.t (.lst ps.reverse)) st1
  | some (.tup k ps) => .ok (.t (.tup k ps.reverse)) st1
  | _ => .stuck
end
end Cl
set_option maxHeartbeats 4000000
namespace Cl
open PySem PySem.Spec PyProof.Rows L2 StX ClX
structure SMet (K : PySem.W.Frag) (C : Addr) (mc : Value) (m : PySem.Str) (p g : Addr) : Prop where
  at_ : PySem.W.findCls K (.ref C) mc m = some (.get (.builtin "staticmethod.__get__") (.ref p) .none (.ref C))
  rc : ∃ rest, PySem.W.recIn K p "staticmethod" = some (.ref g :: rest)
  kp : PySem.W.keepIn K (.ref g) = true
section
variable {G : Gd} {X : Cx} {Wx : WX} {k n : Nat} {f q : Addr} {m : PySem.Str} {p pos apos : Pos} {e o : Expr} {es : List Expr} {fe fo : Cm SV} {fs : Cm (List SV)} {pl : Sem Bool} {mc : Value} {Fc : List SV → Cm SV}
def putPK (kvs : List (PV × PV)) (k v : PV) : List (PV × PV) :=
  if (kvs.any fun kv => decide (keyOf kv.1 = keyOf k)) = true then kvs.map (fun kv => if keyOf kv.1 = keyOf k then (kv.1, v) else kv) else kvs ++ [(k, v)]
theorem RepK.any {F : Hp} {k : PV} {key : Key} (hk : keyOf k = some key) : ∀ {kvs : List (PV × PV)} {hs : List (Key × V)}, RepK G F kvs hs → (kvs.any fun kv => decide (keyOf kv.1 = keyOf k)) = (hs.any fun kv => decide (kv.1 = key))
  | _, _, .nil => rfl
  | _, _, .cons (k := j) (key := kj) ej rj l => by
    rw [List.any_cons, List.any_cons, RepK.any hk l]
    have : decide (keyOf j = keyOf k) = decide (kj = key) := by
      rw [ej, hk]
      by_cases e : kj = key
      · subst e; simp
      · simp [e]
    show (decide (keyOf j = keyOf k) || _) = (decide (kj = key) || _)
    rw [this]
theorem RepK.mapPut {F : Hp} {k p : PV} {key : Key} {v : V} (hk : keyOf k = some key) (r : Rep G F p v) : ∀ {kvs : List (PV × PV)} {hs : List (Key × V)}, RepK G F kvs hs → RepK G F (kvs.map fun kv => if keyOf kv.1 = keyOf k then (kv.1, p) else kv) (hs.map fun kv => if kv.1 = key then (kv.1, v) else kv)
  | _, _, .nil => .nil
  | _, _, .cons (k := j) (key := kj) ej rj l => by
    rw [List.map_cons, List.map_cons]
    by_cases e : kj = key
    · subst e
      rw [if_pos (ej.trans hk.symm), if_pos rfl]
      exact .cons ej r (RepK.mapPut hk r l)
    · rw [if_neg (fun z => e (Option.some.inj (ej.symm.trans (z.trans hk)))), if_neg e]
      exact .cons ej rj (RepK.mapPut hk r l)
theorem RepK.app {F : Hp} : ∀ {kvs kvs' : List (PV × PV)} {hs hs' : List (Key × V)}, RepK G F kvs hs → RepK G F kvs' hs' → RepK G F (kvs ++ kvs') (hs ++ hs')
  | _, _, _, _, .nil, h => h
  | _, _, _, _, .cons e r l, h => .cons e r (RepK.app l h)
structure CPs (G : Gd) (X : Cx) (Wx : WX) (pos : Pos) (keys : List (Option Expr)) (values : List Expr) (l : List (Cm SV × Cm SV)) : Prop where
  ps : PPs X pos keys values (l.map fun x => (tE G Wx x.1, tE G Wx x.2))
def mDct0 : Cm MC := fun st => .ok (.dct []) st
end
end Cl
set_option maxHeartbeats 4000000
namespace Cl
open PySem PySem.Spec PyProof.Rows L2 StX ClX
theorem law_callC {P : Program} {w : World} {K : PySem.W.Frag} {mg mb : PySem.Str → Option Value} {k : Nat} {fa a : Addr} {sp : Sp} {s₁ : Shared} {vs : List Value} {ns : List Int}
    (KX : K.In s₁.heap) (hns : s₁.heap.Ns mainGlobals mg) (hb : s₁.heap.Ns builtinsNs mb) (hbb : ∀ x : PySem.Str, x ≠ "__name__" → mb x = bootBuiltins x) (hlim : s₁.heap.NoLimit) (hg : s₁.gens = #[])
    (ha : s₁.heap.get? a = some { cls := .type "list", data := .seq vs.toArray }) (hi : IntsAre vs ns) (hl : ns.length ≤ sizeLine) (hr : Room k callerA) (nl : K.lookup a = none)
    (F : ∀ base : Heap, K.In base → base.Ns mainGlobals mg → FnP P w K mg base k fa sp)
    (hsp : ∀ (H : Hp) (o : Obj), (∀ b, b ≠ a → H b = none) → H a = some (.frz o (.lst (ns.map V.int))) → sp [.ref a] H (fun v _ => v = .bl true) fun _ _ _ => False) :
    codeAny (model P w) callerA (.call (.ref fa) ⟨[.ref a], []⟩) (fun r s' => r = .ok (.ret (.bool true)) ∧ OldK s₁.heap s'.heap ∧ s'.os = s₁.os ∧ AllBare s'.gens) s₁ := by
  have rv := vals_ints hi
  obtain ⟨H, hH⟩ : ∃ H : Hp, H = fun b => if b = a then some (.frz { cls := .type "list", data := .seq vs.toArray } (.lst (ns.map V.int))) else none := ⟨_, rfl⟩
  have Ha : H a = some (.frz { cls := .type "list", data := .seq vs.toArray } (.lst (ns.map V.int))) := by rw [hH]; exact if_pos rfl
  have Hn : ∀ b, b ≠ a → H b = none := fun b hb => by rw [hH]; exact if_neg hb
  have hok : HOk P w H s₁.heap := fun b u z => by
    by_cases hb : b = a
    · subst hb
      rw [Ha] at z; cases z
      exact ⟨ha, by rw [List.length_map]; exact hl, vs, _, rv, ha⟩
    · rw [Hn b hb] at z; cases z
  have noA : ∀ {b : Addr} {o : Obj} {es : Array DictEntry} {ep : Nat}, s₁.heap.get? b = some o → o.data = .dict es ep → H b = none := fun {b o es ep} e d => Hn b fun e' => by
    subst e'
    rw [ha] at e; cases e
    have d' : Data.seq vs.toArray _ = Data.dict es ep := d
    cases d'
  have nsK : ∀ {b : Addr} {m : PySem.Str → Option Value}, s₁.heap.Ns b m → (hidT s₁.heap H).Ns b m := fun {b m} ⟨o, es, ep, e, d, r⟩ => ⟨o, es, ep, hidT_get e (noA e d), d, r⟩
  have hKb : K.In (hidT s₁.heap H) := fun b o e => hidT_get (KX b o e) (Hn b fun e' => by subst e'; rw [nl] at e; cases e)
  have hM : Mod K mg (hidT s₁.heap H) := ⟨hKb, nsK hns, ⟨mb, nsK hb, hbb⟩, let ⟨mc, h1, h2⟩ := hlim; ⟨mc, nsK h1, h2⟩⟩
  have e0 : Env0 P w K mg (hidT s₁.heap H) callerA [] s₁ H := ⟨rfl, hM, fun b o e => of_hidT e, Nat.le_of_eq (hidT_size _ _), trivial, fun b hb => absurd (show b ∈ ([] : List Addr) from hb) (by simp), hok, .of_eq hg⟩
  refine codeAny_mono (F _ hKb (nsK hns) callerA [] s₁ H [.ref a] [.ref a] _ _ hr rfl e0 (.cons rfl .nil) (hsp H _ Hn Ha)) fun r s' h => ?_
  cases r with
  | error e => obtain ⟨_, _, _, _, _, _, _, _, _, _, _, _, w⟩ := h; exact w.elim
  | ok fl =>
    cases fl with
    | next => exact False.elim h
    | brk => exact False.elim h
    | cont => exact False.elim h
    | ret u =>
      obtain ⟨v, H', os, bare, un, hok', r', q⟩ := h
      have q' : v = .bl true := q
      subst q'
      obtain rfl : u = Value.bool true := r'
      refine ⟨rfl, OldK.of_keep fun b o e => ?_, os, bare⟩
      by_cases hb : b = a
      · subst hb
        have z2 := un.frzs b _ _ Ha
        obtain ⟨e1, _⟩ := hok b _ Ha
        obtain ⟨e2, _⟩ := hok' b _ z2
        rw [e] at e1; cases e1
        exact e2
      · exact un.keep b o e (Hn b hb) (by intro z; exact absurd (show b ∈ ([] : List Addr) from z) (by simp)) (by simp)
theorem walk_ofC {l : PySem.W.OpenLaw} {n k : Nat} {q : Program} {loose : List PySem.Str} {XP : (PySem.Str → Option Value) → Heap → Prop} {YP : World → Heap → Prop} {d : DefRec}
    (hn : l.most = some n) (hn2 : n ≤ sizeLine) (hdf : d.params.defaults = []) (hr : Room k callerA)
    (F : ∀ (w : World) (mg : PySem.Str → Option Value) (fa : Addr) (h : Heap), YP w h → h.Ns mainGlobals mg → mg d.name = some (.ref fa) →
      ∃ (K : PySem.W.Frag) (sp : Sp), K.In h ∧ (∀ (a : Addr) (o : Obj), K.lookup a = some o → o.cls ≠ .type "list") ∧
        (∀ (H : Hp) (a : Addr) (o : Obj) (ns : List Int), ns.length ≤ n → (∀ b, b ≠ a → H b = none) → H a = some (.frz o (.lst (ns.map V.int))) → sp [.ref a] H (fun v _ => v = .bl true) fun _ _ _ => False) ∧
        ∀ base : Heap, K.In base → base.Ns mainGlobals mg → FnP l.prog w K mg base k fa sp) :
    PySem.W.WalkO q loose XP YP l.row.toRowW d [] (fun f vs => PySem.call f vs) := by
  refine Att.attach_call hn hdf fun w s₀ s₁ mg mb fa o pm cd doc a vs ns G Y ho hd hcd hmg hobj hints hlen hg => ?_
  obtain ⟨K, sp, KX, nl, hsp, hF⟩ := F w mg fa _ Y G.T.g hmg
  refine law_callC KX G.T.g G.T.b G.T.builtins G.T.nolimit hg hobj hints (Nat.le_trans hlen hn2) hr ?_ hF fun H o h1 h2 => hsp H a o ns hlen h1 h2
  cases e : K.lookup a with
  | none => rfl
  | some o =>
    have e2 := KX a o e
    rw [hobj] at e2
    cases e2
    exact absurd rfl (nl a _ e)
theorem law_in {G : Gd} {N : List PySem.Str} {F : Fm} {ns : List Int} {a : Addr} {o : Obj} {H : Hp} (hF : ∃ out, F [.t (.scr ns)] = .ok (.t (.bl true)) out) (h1 : ∀ b, b ≠ a → H b = none) (h2 : H a = some (.frz o (.lst (ns.map V.int)))) :
    spC G N F [.ref a] H (fun v _ => v = .bl true) fun _ _ _ => False := by
  obtain ⟨out, hF⟩ := hF
  refine ⟨⟨H, []⟩, [.t (.scr ns)], rfl, ⟨Same.refl _, trivial, ?_, ?_, ?_⟩, ?_⟩
  · unfold enter L2.start
    exact RepLoc.pad (W := ⟨H, []⟩) (ls := slots 0 [.t (.scr ns)]) (vs := [some (V.ref a)]) (N.length - 1) ⟨Rep.scr h2, trivial⟩
  · rw [own_enter]; exact List.nodup_nil
  · rw [own_enter]; exact fun b hb => nomatch hb
  · rw [hF]
    intro W' H' u r s k
    cases k
    rfl
theorem DefC.funD {K : PySem.W.Frag} {d : DefC} (e : fnWA K (d.at_.ad K) = d.val) (c : d.ok K = true) (hs : d.at_.sup = false) : ∃ fd, FunD K d.name d.qual d.params d.body d.scope (d.dvs K) (d.kws K) (d.at_.ad K) fd := by
  obtain ⟨kp, c2⟩ := He.ba c
  unfold fnWA at e
  cases q : K.lookup (d.at_.ad K) with
  | none => rw [q] at c2; cases c2
  | some o =>
    obtain ⟨oc, od, dt, osl⟩ := o
    rw [q] at c2 e
    cases dt with
    | func fd =>
      obtain ⟨n1, n2, n3, n4, n5, n6, n7, n8, n9, n10, n11, n12, n13, n14, n15⟩ := fd
      have c4 : ((n7.isEmpty == !d.at_.sup) && (PySem.W.codeIn K n13 d.qual && (He.dflB K n8 (d.dvs K) && He.kwdB K n9 (d.kws K)))) = true := c2
      obtain ⟨c5, c3⟩ := He.ba c4
      rw [hs] at c5
      obtain rfl : n7 = [] := by
        cases n7 with
        | nil => rfl
        | cons x l => exact Bool.noConfusion (show false = true from c5)
      have e2 : (some (n1, n2, n3, n4, n5, n6, [], n15) : He.FnW) = some (d.name, d.qual, d.params, .stmts d.body, d.scope, mainGlobals, [], builtinsNs) := e
      simp only [Option.some.injEq, Prod.mk.injEq] at e2
      obtain ⟨h1, h2, h3, h4, h5, h6, h7, h8⟩ := e2
      subst h1 h2 h3 h4 h5 h6 h8
      obtain ⟨k1, k2⟩ := He.ba c3
      obtain ⟨k3, k4⟩ := He.ba k2
      exact ⟨_, ⟨oc, od, n8, n9, n10, n11, n12, n13, n14, osl, rfl, q, k1, He.dflB_ok k3, He.kwdB_ok k4⟩, kp⟩
    | _ => cases c2
theorem obsCG_eq {n : Nat} {fa : List FaC} {fn : List DefC} {g : Addr → Option Obj} {s : Shared} (h : ∀ a, g a = s.heap.get? a) : obsCG n fa fn g = (hookC n fa fn).obs s := by
  have e : g = s.heap.get? := funext h
  rw [e] <;> rfl
section
variable {fa : List FaC} {fn : List DefC} {K : PySem.W.Frag}
theorem SaysC.fact (c : SaysC fa fn K) (i : Nat) {f : FaC} (h : fa[i]? = some f := by rfl) : f K = true := by
  have c1 := (He.ba (show ((fa.all fun f => f K) && fn.all fun d => d.ok K) = true from congrArg (fun z : He.AlD => z.1) c)).1
  exact List.all_eq_true.mp c1 f (List.mem_of_getElem? h)
theorem SaysC.def_ (c : SaysC fa fn K) (i : Nat) {d : DefC} (h : fn[i]? = some d := by rfl) (hs : d.at_.sup = false := by rfl) : ∃ fd, FunD K d.name d.qual d.params d.body d.scope (d.dvs K) (d.kws K) (d.at_.ad K) fd := by
  have c2 := (He.ba (show ((fa.all fun f => f K) && fn.all fun d => d.ok K) = true from congrArg (fun z : He.AlD => z.1) c)).2
  have e : fn.map (fun d => fnWA K (d.at_.ad K)) = fn.map DefC.val := congrArg (fun z : He.AlD => z.2) c
  have e2 : (fn.map fun d => fnWA K (d.at_.ad K))[i]? = (fn.map DefC.val)[i]? := by rw [e]
  rw [List.getElem?_map, List.getElem?_map, h] at e2
  exact DefC.funD (Option.some.inj e2) (List.all_eq_true.mp c2 d (List.mem_of_getElem? h)) hs
end
theorem noList_ok {K : PySem.W.Frag} (h : faNoList K = true) : ∀ (a : Addr) (o : Obj), K.lookup a = some o → o.cls ≠ .type "list" := by
  intro a o e q
  have hm : ∀ {l : PySem.W.Frag}, l.lookup a = some o → (a, o) ∈ l := by
    intro l
    induction l with
    | nil => intro e; cases e
    | cons p l ih =>
      intro e
      rw [List.lookup_cons] at e
      cases hb : a == p.1 with
      | true =>
        rw [hb] at e
        cases e
        rw [show a = p.1 from eq_of_beq hb]
        exact List.mem_cons_self ..
      | false => rw [hb] at e; exact List.mem_cons_of_mem _ (ih e)
  have := List.all_eq_true.mp h _ (hm e)
  rw [q] at this
  exact absurd this (by simp)
theorem read_ok {K : PySem.W.Frag} {x : PySem.Str} (h : faRead x K = true) : CRead K (He.ga K x) (.type "type") := ⟨(He.ba h).1, He.eqO_ok (He.ba h).2⟩
end Cl
set_option maxHeartbeats 4000000
namespace Cl
open PySem PySem.Spec PyProof.Rows L2 StX ClX
theorem hu64 {k : Nat} {A : Around} (r : Room k A) : A.units + 64 < cLine := by have := r.un; omega
theorem hu65 {k : Nat} {A : Around} (r : Room k A) : A.units + 65 < cLine := by have := r.un; omega
def plan (n : Nat) (ds : List PV) : Plan := (List.range n).map .inl ++ ds.map .inr
theorem pickV_plan {n : Nat} {ds : List PV} {vs : List V} (h : vs.length = n) : pickV (plan n ds) vs = vs ++ ds.map scV := by
  unfold pickV plan
  rw [List.map_append, List.map_map, List.map_map]
  congr 1
  subst h
  apply List.ext_getElem
  · simp
  · intro i h1 h2
    simp [List.getD_eq_getElem?_getD, List.getElem?_eq_getElem h2]
theorem Bd.of {K : PySem.W.Frag} {fd : FuncData} {ps : List PySem.Str} {ds : List Value} {n : Nat} {dp : List PV} {pl : Plan} (b : Binds K fd ps ds) (hd : Vals (dp.map scV) ds) (hn : n + dp.length = ps.length) (hpl : pl = plan n dp) : Bd K fd ps n [] pl := by
  subst hpl
  intro s us ws kin lu lw
  obtain rfl : ws = [] := List.length_eq_zero_iff.mp lw
  have hl : (us ++ ds).length = ps.length := by
    have := hd.length
    rw [List.length_map] at this
    rw [List.length_append, lu, ← this, hn]
  refine ⟨us ++ ds, b s us kin hl, hl, fun vs r => ?_⟩
  rw [List.append_nil] at r
  rw [pickV_plan (r.length.trans lu)]
  exact r.append hd
def spN (G : Gd) (N : List PySem.Str) (F : Fm) (n : Nat) (pl : Plan) : Sp := fun vs H Q E => vs.length = n ∧ spC G N F (pickV pl vs) H Q E
theorem FnP.stuck {G : Gd} {P : Program} {w : World} {K : PySem.W.Frag} {mg : PySem.Str → Option Value} {base : Heap} {k n : Nat} {f : Addr} {N : List PySem.Str} {pl : Plan} : FnP P w K mg base k f (spN G N (fun _ => .stuck) n pl) :=
  fun A outer s H us vs Q E room gd e0 rv ⟨_, _, _, _, _, o⟩ => o.elim
def faIns (x : PySem.Str) : FaC := fun K => (He.Fa.cls x).ok K && (He.eqO (PySem.W.findIn K (.ref (He.ga K x)) "__class__") (some (some (.builtin "object.__class__"))) && (He.eqO (PySem.W.specialIn K (.builtin "object.__class__") "__get__") (some (some (.builtin "getset_descriptor.__get__")))
  && (decide (PySem.W.takesIn K (.builtin "object.__class__") = some true) && decide (PySem.W.mroIn K (He.ga K x) (.type "object") = some true))))
theorem ins_ok {K : PySem.W.Frag} {x : PySem.Str} (h : faIns x K = true) : InsOk K (He.ga K x) := by
  obtain ⟨h1, h⟩ := He.ba h
  obtain ⟨h2, h⟩ := He.ba h
  obtain ⟨h3, h⟩ := He.ba h
  obtain ⟨h4, h5⟩ := He.ba h
  exact ⟨He.cls_ok h1, He.eqO_ok h2, He.eqO_ok h3, of_decide_eq_true h4, of_decide_eq_true h5⟩
theorem rec_ok {K : PySem.W.Frag} {p g : Addr} {T : String} (h : (match PySem.W.recIn K p T with
    | some (.ref g' :: _) => decide (g' = g)
    | _ => false) = true) : ∃ rest, PySem.W.recIn K p T = some (.ref g :: rest) := by
  split at h
  · rename_i g' r e
    rw [← of_decide_eq_true h]
    exact ⟨_, e⟩
  · cases h
def getB (K : PySem.W.Frag) (x m : PySem.Str) (g : String) : Bool := match PySem.W.findCls K (.ref (He.ga K x)) (.type "type") m with
  | some (.get a b c d) => decide (a = .builtin g) && (decide (b = .ref (He.ma K (He.ga K x) m)) && (decide (c = .none) && decide (d = .ref (He.ga K x))))
  | _ => false
theorem getB_ok {K : PySem.W.Frag} {x m : PySem.Str} {g : String} (h : getB K x m g = true) : PySem.W.findCls K (.ref (He.ga K x)) (.type "type") m = some (.get (.builtin g) (.ref (He.ma K (He.ga K x) m)) .none (.ref (He.ga K x))) := by
  unfold getB at h
  split at h
  · rename_i a b c d e
    obtain ⟨h1, h⟩ := He.ba h
    obtain ⟨h2, h⟩ := He.ba h
    obtain ⟨h3, h4⟩ := He.ba h
    rw [e, of_decide_eq_true h1, of_decide_eq_true h2, of_decide_eq_true h3, of_decide_eq_true h4]
  · cases h
def recB (K : PySem.W.Frag) (p g : Addr) (T : String) : Bool := match PySem.W.recIn K p T with
  | some (.ref g' :: _) => decide (g' = g)
  | _ => false
def faSm (x m : PySem.Str) : FaC := fun K => getB K x m "staticmethod.__get__" && (recB K (He.ma K (He.ga K x) m) (At.ad K (.sm x m)) "staticmethod" && PySem.W.keepIn K (.ref (At.ad K (.sm x m))))
theorem sm_ok {K : PySem.W.Frag} {x m : PySem.Str} (h : faSm x m K = true) : SMet K (He.ga K x) (.type "type") m (He.ma K (He.ga K x) m) (At.ad K (.sm x m)) := by
  obtain ⟨h1, h⟩ := He.ba h
  obtain ⟨h2, h3⟩ := He.ba h
  exact ⟨getB_ok h1, rec_ok h2, h3⟩
def faCm (x m : PySem.Str) : FaC := fun K => getB K x m "classmethod.__get__" && (recB K (He.ma K (He.ga K x) m) (At.ad K (.cm x m)) "classmethod" && PySem.W.fnIn K (At.ad K (.cm x m)))
theorem cm_ok {K : PySem.W.Frag} {x m : PySem.Str} (h : faCm x m K = true) : CMet K (He.ga K x) (.type "type") m (He.ma K (He.ga K x) m) (At.ad K (.cm x m)) := by
  obtain ⟨h1, h⟩ := He.ba h
  obtain ⟨h2, h3⟩ := He.ba h
  exact ⟨getB_ok h1, rec_ok h2, h3⟩
def faCv (x m : PySem.Str) (i : Int) : FaC := fun K => match PySem.W.findCls K (.ref (He.ga K x)) (.type "type") m with
  | some (.val (.int j _)) => decide (j = i)
  | _ => false
theorem cv_ok {K : PySem.W.Frag} {x m : PySem.Str} {i : Int} (h : faCv x m i K = true) : ∃ u, CVal K (He.ga K x) (.type "type") m (.int i) u := by
  unfold faCv at h
  split at h
  · rename_i j t e
    have ej := of_decide_eq_true h
    subst ej
    exact ⟨_, e, t, rfl⟩
  · cases h
structure Tx (fa : List FaC) (fn : List DefC) (K : PySem.W.Frag) (mg : PySem.Str → Option Value) : Prop where
  c : SaysC fa fn K
  g : ∃ h : Heap, K.In h ∧ h.Ns mainGlobals mg
section
variable {fa : List FaC} {fn : List DefC} {K : PySem.W.Frag} {mg : PySem.Str → Option Value}
theorem Tx.glo (T : Tx fa fn K mg) (i : Nat) {x : PySem.Str} (h : fa[i]? = some (faHe (.glo x)) := by rfl) : mg x = some (.ref (He.ga K x)) :=
  let ⟨_, X, G⟩ := T.g
  He.glo_ok X G (T.c.fact i h)
theorem Tx.free (T : Tx fa fn K mg) (i : Nat) {x : PySem.Str} (h : fa[i]? = some (faHe (.free x)) := by rfl) : mg x = none :=
  let ⟨_, X, G⟩ := T.g
  He.free_ok X G (T.c.fact i h)
end
section
variable {fa : List FaC} {fn : List DefC} {K : PySem.W.Frag} {mg : PySem.Str → Option Value}
theorem Tx.kp (T : Tx fa fn K mg) (i : Nat) {d : DefC} (h : fn[i]? = some d := by rfl) (hs : d.at_.sup = false := by rfl) : PySem.W.keepIn K (.ref (d.at_.ad K)) = true :=
  let ⟨_, F⟩ := T.c.def_ i h hs
  F.kp
theorem Tx.cls (T : Tx fa fn K mg) (i : Nat) {x : PySem.Str} (h : fa[i]? = some (faHe (.cls x)) := by rfl) : Cls K (He.ga K x) := He.cls_ok (T.c.fact i h)
theorem Tx.keep (T : Tx fa fn K mg) (i : Nat) {x : PySem.Str} (h : fa[i]? = some (faHe (.keep x)) := by rfl) : PySem.W.keepIn K (.ref (He.ga K x)) = true := He.keep_ok (T.c.fact i h)
theorem Tx.sm (T : Tx fa fn K mg) (i : Nat) {x m : PySem.Str} (h : fa[i]? = some (faSm x m) := by rfl) : SMet K (He.ga K x) (.type "type") m (He.ma K (He.ga K x) m) (At.ad K (.sm x m)) := sm_ok (T.c.fact i h)
theorem Tx.cm (T : Tx fa fn K mg) (i : Nat) {x m : PySem.Str} (h : fa[i]? = some (faCm x m) := by rfl) : CMet K (He.ga K x) (.type "type") m (He.ma K (He.ga K x) m) (At.ad K (.cm x m)) := cm_ok (T.c.fact i h)
theorem Tx.ins (T : Tx fa fn K mg) (i : Nat) {x : PySem.Str} (h : fa[i]? = some (faIns x) := by rfl) : InsOk K (He.ga K x) := ins_ok (T.c.fact i h)
end
section
variable {G : Gd} {X : Cx} {Wx : WX} {e : Expr} {es : List Expr} {pos p : Pos} {x : PySem.Str}
theorem ce_ty {n : String} (hg : Gl X x) (hm : X.mg x = none) (hv : bootBuiltins x = some (.type n)) (hn : x ≠ "__name__" := by decide) (hd : (x == ("__debug__" : PySem.Str)) = false := by decide) : CE G X Wx (.Name x p) (cC (.ty n)) :=
  ce_C (pe_bltn (v := .ty n) hg hm hv rfl hn hd) fun _ => .ty n
def tgS (fs : List TgF) : TgF
  | .tup _ ps => tgs fs ps
  | .lst ps => tgs fs ps
  | _ => none
theorem cg_seq {fs : List TgF} {k n : Nat} (hc : X.calm = true) (h : CGs G X es fs) (hl : fs.length = n := by rfl)
    (hn : (assignEach es X.env).length = n := by rfl) (hst : (assignEach es X.env).findIdx? (·.1) = none := by rfl) : CG G X (.Tuple es k pos) (tgS fs) := by
  have h1 := (cg_tup (k := k) (pos := pos) hc h hl hn hst).pg
  have h2 := (cg_lst (k := k) (pos := pos) hc h hl hn hst).pg
  refine ⟨⟨fun pn s σ H v u Q I ru ⟨W, st, p, l, r, k, el, o⟩ => ?_⟩⟩
  unfold tgS at el
  split at el
  · exact h1.run pn s σ H v u Q I ru ⟨W, st, _, l, r, k, el, o⟩
  · exact h2.run pn s σ H v u Q I ru ⟨W, st, _, l, r, k, el, o⟩
  · cases el
end
theorem Tx.cv {fa : List FaC} {fn : List DefC} {K : PySem.W.Frag} {mg : PySem.Str → Option Value} (T : Tx fa fn K mg) (j : Nat) {x m : PySem.Str} {i : Int} (h : fa[j]? = some (faCv x m i) := by rfl) : ∃ u, CVal K (He.ga K x) (.type "type") m (.int i) u := cv_ok (T.c.fact j h)
def isRows : List ((String × String) × Bool) :=
  [(("NoneType", "int"), false), (("NoneType", "bool"), false), (("NoneType", "str"), false), (("NoneType", "list"), false), (("NoneType", "tuple"), false), (("NoneType", "dict"), false),
   (("bool", "int"), true), (("bool", "bool"), true), (("bool", "str"), false), (("bool", "list"), false), (("bool", "tuple"), false), (("bool", "dict"), false),
   (("int", "int"), true), (("int", "bool"), false), (("int", "str"), false), (("int", "list"), false), (("int", "tuple"), false), (("int", "dict"), false),
   (("str", "int"), false), (("str", "bool"), false), (("str", "str"), true), (("str", "list"), false), (("str", "tuple"), false), (("str", "dict"), false),
   (("list", "int"), false), (("list", "bool"), false), (("list", "str"), false), (("list", "list"), true), (("list", "tuple"), false), (("list", "dict"), false),
   (("tuple", "int"), false), (("tuple", "bool"), false), (("tuple", "str"), false), (("tuple", "list"), false), (("tuple", "tuple"), true), (("tuple", "dict"), false),
   (("dict", "int"), false), (("dict", "bool"), false), (("dict", "str"), false), (("dict", "list"), false), (("dict", "tuple"), false), (("dict", "dict"), true)]
theorem isRows_ok : isRows.all (fun r => decide (kitB r.1.1 r.1.2 = some r.2)) = true := by decide +kernel
theorem lookup_mem {α β : Type} [BEq α] [LawfulBEq α] {a : α} {b : β} : ∀ {l : List (α × β)}, l.lookup a = some b → (a, b) ∈ l
  | [], h => nomatch h
  | p :: l, h => by
    rw [List.lookup_cons] at h
    cases hb : a == p.1 with
    | true =>
      rw [hb] at h
      cases h
      rw [show a = p.1 from eq_of_beq hb]
      exact List.mem_cons_self ..
    | false => rw [hb] at h; exact List.mem_cons_of_mem _ (lookup_mem h)
def tbB : TK → CK → Option Bool
  | .ty a, .ty b => isRows.lookup (a, b)
  | _, _ => none
theorem tbB_one {K : PySem.W.Frag} {a b : String} {v : Bool} (e : isRows.lookup (a, b) = some v) : PySem.W.kitOne K (.type a) (.type b) = some v :=
  kit_ty (of_decide_eq_true (List.all_eq_true.mp isRows_ok _ (lookup_mem e)))
theorem isTbB {G : Gd} {K : PySem.W.Frag} : IsTb G K tbB where
  one := fun t c b e => by
    unfold tbB at e
    split at e
    · exact tbB_one e
    · cases e
  ins := fun n c b e => by cases e
end Cl
set_option maxHeartbeats 4000000
namespace Cl
open PySem PySem.Spec PyProof.Rows L2
section
variable {α β : Type} {st st1 : ST} {x : α} {k : α → ST → Out β} {f g : Sm} {fa fb fc : Cm SV} {fs : Cm (List SV)} {p q : PV} {i j : Nat} {ps : List PV} {c : MC} {t t' : Cm Bool} {n : Nat}
@[simp] theorem ev_bind_ok : (Out.ok x st).bind k = k x st := rfl
@[simp] theorem ev_bind_stuck : (Out.stuck : Out α).bind k = .stuck := rfl
@[simp] theorem ev_bind_exc {m : Nat} {hs : List (PySem.Str × PV)} : (Out.exc m hs st : Out α).bind k = .exc m hs st := rfl
@[simp] theorem ev_cC : cC p st = .ok (.t p) st := rfl
@[simp] theorem ev_ofO {o : Option PV} : ofO st o = match o with | some p => .ok (.t p) st | none => .stuck := rfl
@[simp] theorem ev_ofM {o : Option MC} : ofM st o = match o with | some p => .ok p st | none => .stuck := rfl
@[simp] theorem ev_cVar : cVar i st = match st.loc[i]? with
  | some (some (.t p)) => .ok (.t p) st
  | some (some (.m _)) => .ok (.pl (.sl i)) st
  | some (some (.i n)) => .ok (.pl (.ih n)) st
  | _ => .stuck := rfl
@[simp] theorem ev_cMv : cMv i st = match st.loc[i]? with
  | some (some (.t p)) => .ok (.t p) st
  | some (some (.m c)) => .ok (.t c.pv) (st.set i (some (.t c.pv)))
  | _ => .stuck := rfl
@[simp] theorem ev_mMv : mMv i st = match st.loc[i]? with
  | some (some (.m c)) => .ok c (st.set i none)
  | _ => .stuck := rfl
@[simp] theorem ev_cUn {f : PV → Option PV} : cUn f fa st = (fa st).bind fun x st1 => ofO st1 ((view st1 x).bind f) := rfl
@[simp] theorem ev_cBin {f : PV → PV → Option PV} : cBin f fa fb st = (fa st).bind fun x st1 => (fb st1).bind fun y st2 => ofO st2 ((view st2 x).bind fun p => (view st2 y).bind fun q => f p q) := rfl
@[simp] theorem ev_cNil : cNil st = .ok [] st := rfl
@[simp] theorem ev_cCons : cCons fa fs st = (fa st).bind fun x st1 => (fs st1).bind fun xs st2 => .ok (x :: xs) st2 := rfl
@[simp] theorem ev_views_nil : views st [] = some [] := rfl
@[simp] theorem ev_views_cons {x : SV} {xs : List SV} : views st (x :: xs) = (view st x).bind fun p => (views st xs).bind fun ps => some (p :: ps) := rfl
@[simp] theorem ev_view_t : view st (.t p) = some p := rfl
@[simp] theorem ev_view_sl : view st (.pl (.sl j)) = match st.loc[j]? with | some (some (.m c)) => some c.pv | _ => none := rfl
@[simp] theorem ev_view_ih : view st (.pl (.ih n)) = match st.inh[n]? with | some c => some c.pv | none => none := rfl
@[simp] theorem ev_pv_lst : (MC.lst ps).pv = .lst ps := rfl
@[simp] theorem ev_pv_obj {c : Nat} {hs : List (PySem.Str × PV)} : (MC.obj c hs).pv = .obj c hs := rfl
@[simp] theorem ev_pv_dct {hs : List (PV × PV)} : (MC.dct hs).pv = .dct hs := rfl
@[simp] theorem ev_cList {f : List PV → Option PV} : cList f fs st = (fs st).bind fun xs st1 => ofO st1 ((views st1 xs).bind f) := rfl
@[simp] theorem ev_mList {f : List PV → Option MC} : mList f fs st = (fs st).bind fun xs st1 => ofM st1 ((views st1 xs).bind f) := rfl
@[simp] theorem ev_cTruth : cTruth fa st = (fa st).bind fun x st1 => match x with
  | .t (.bl b) => .ok b st1
  | _ => .stuck := rfl
@[simp] theorem ev_cAnd : cAnd t t' st = (t st).bind fun b st1 => if b = true then t' st1 else .ok false st1 := rfl
@[simp] theorem ev_cOr : cOr t t' st = (t st).bind fun b st1 => if b = true then .ok true st1 else t' st1 := rfl
@[simp] theorem ev_cNot : cNot t st = (t st).bind fun b st1 => .ok (!b) st1 := rfl
@[simp] theorem ev_cAndV : cAndV fa fb st = (fa st).bind fun x st1 => match x with
  | .t (.bl true) => fb st1
  | .t (.bl false) => .ok (.t (.bl false)) st1
  | _ => .stuck := rfl
@[simp] theorem ev_cOrV : cOrV fa fb st = (fa st).bind fun x st1 => match x with
  | .t (.bl true) => .ok (.t (.bl true)) st1
  | .t (.bl false) => fb st1
  | _ => .stuck := rfl
@[simp] theorem ev_cNotV : cNotV fa st = (fa st).bind fun x st1 => match x with
  | .t (.bl c) => .ok (.t (.bl (!c))) st1
  | _ => .stuck := rfl
@[simp] theorem ev_cIf {f g : Cm α} : cIf t f g st = (t st).bind fun b st1 => if b = true then f st1 else g st1 := rfl
@[simp] theorem ev_cYes : cYes st = .ok true st := rfl
@[simp] theorem ev_cChain {f f' : PV → PV → Option PV} : cChain f f' fa fb fc st = (fa st).bind fun x st1 => (fb st1).bind fun y st2 =>
  match (view st2 x).bind fun p => (view st2 y).bind fun q => f p q with
  | some (.bl true) => (fc st2).bind fun z st3 => ofO st3 ((view st3 y).bind fun p => (view st3 z).bind fun q => f' p q)
  | some (.bl false) => .ok (.t (.bl false)) st2
  | _ => .stuck := rfl
@[simp] theorem ev_cDisp {k : List PV → PV} : cDisp k fs st = (fs st).bind fun xs st1 => ofO st1 ((trees xs).bind fun ps => if szOk ps.length then some (k ps) else none) := rfl
@[simp] theorem ev_mDisp : mDisp fs st = (fs st).bind fun xs st1 => ofM st1 ((trees xs).bind fun ps => if szOk ps.length then some (.lst ps) else none) := rfl
@[simp] theorem ev_trees_nil : trees [] = some [] := rfl
@[simp] theorem ev_trees_cons {xs : List SV} : trees (.t p :: xs) = (trees xs).map fun ps => p :: ps := rfl
@[simp] theorem ev_cFrz {f : Cm MC} : cFrz f st = (f st).bind fun c st1 => .ok (.t c.pv) st1 := rfl
@[simp] theorem ev_sNil : sNil st = .nx st := rfl
@[simp] theorem ev_sNo : sNo st = .stuck := rfl
@[simp] theorem ev_sSeq : sSeq f g st = match f st with
  | .nx st' => g st'
  | o => o := rfl
@[simp] theorem ev_bindS_ok {k : α → ST → OutS} : bindS (.ok x st) k = k x st := rfl
@[simp] theorem ev_bindS_stuck {k : α → ST → OutS} : bindS (.stuck : Out α) k = .stuck := rfl
@[simp] theorem ev_sExpr : sExpr fa st = bindS (fa st) fun _ st1 => .nx st1 := rfl
@[simp] theorem ev_sRet : sRet fa st = bindS (fa st) fun x st1 => match x with
  | .t p => .rt (.t p) st1
  | _ => .stuck := rfl
@[simp] theorem ev_sRetN : sRetN st = .rt (.t .non) st := rfl
@[simp] theorem ev_sRetM {f : Cm MC} : sRetM f st = bindS (f st) fun c st1 => .rt (.n c) st1 := rfl
@[simp] theorem ev_sIf : sIf t f g st = bindS (t st) fun b st1 => if b = true then f st1 else g st1 := rfl
@[simp] theorem ev_sSet : sSet i fa st = bindS (fa st) fun x st1 => match x with
  | .t p => .nx (st1.set i (some (.t p)))
  | _ => .stuck := rfl
@[simp] theorem ev_sSetM {f : Cm MC} : sSetM i f st = bindS (f st) fun c st1 => .nx (st1.set i (some (.m c))) := rfl
@[simp] theorem ev_sAsg {tg : TgF} : sAsg tg fa st = bindS (fa st) fun x st1 => match x with
  | .t p => match tg p with
    | some l => .nx (st1.sets l)
    | none => .stuck
  | _ => .stuck := rfl
@[simp] theorem ev_sItem : sItem fa fb fc st = bindS (fa st) fun x st1 => bindS (fb st1) fun o st2 => bindS (fc st2) fun i st3 => match x, o, i with
  | .t p, .pl q, .t (.int k) => match getP st3 q with
    | some (.lst ys) => match ixN ys.length k with
      | some j => .nx (Cl.setP st3 q (.lst (ys.set j p)))
      | none => .stuck
    | _ => .stuck
  | _, _, _ => .stuck := rfl
@[simp] theorem ev_getP_sl : getP st (.sl j) = match st.loc[j]? with
    | some (some (.m c)) => some c
    | _ => none := rfl
@[simp] theorem ev_getP_ih : getP st (.ih n) = st.inh[n]? := rfl
@[simp] theorem ev_setP_sl : Cl.setP st (.sl j) c = { st with loc := st.loc.set j (some (.m c)) } := rfl
@[simp] theorem ev_setP_ih : Cl.setP st (.ih n) c = { st with inh := st.inh.set n c } := rfl
@[simp] theorem ev_set {l : Option SL} {loc : List (Option SL)} {inh : List MC} : ST.set ⟨loc, inh⟩ i l = ⟨loc.set i l, inh⟩ := rfl
@[simp] theorem ev_sets_nil : st.sets [] = st := rfl
@[simp] theorem ev_sets_cons {l : List (Nat × PV)} : st.sets ((i, p) :: l) = (st.set i (some (.t p))).sets l := rfl
@[simp] theorem ev_tgN : tgN i p = some [(i, p)] := rfl
@[simp] theorem ev_tgS_tup {k : TF} {l : List TgF} : tgS l (.tup k ps) = tgs l ps := rfl
@[simp] theorem ev_tgS_lst {l : List TgF} : tgS l (.lst ps) = tgs l ps := rfl
@[simp] theorem ev_tgs_nil : tgs [] [] = some [] := rfl
@[simp] theorem ev_tgs_cons {f : TgF} {l : List TgF} : tgs (f :: l) (p :: ps) = (f p).bind fun a => (tgs l ps).map fun m => a ++ m := rfl
@[simp] theorem ev_nNil : nNil st = .ok [] st := rfl
@[simp] theorem ev_nT {fr : Cm (List FV)} : nT fa fr st = (fa st).bind fun x st1 => match x with
  | .t p => (fr st1).bind fun xs st2 => .ok (.t p :: xs) st2
  | _ => .stuck := rfl
@[simp] theorem ev_nM {fm : Cm MC} {fr : Cm (List FV)} : nM fm fr st = (fm st).bind fun c st1 => (fr st1).bind fun xs st2 => .ok (.n c :: xs) st2 := rfl
@[simp] theorem ev_sPar {is : List Nat} {f : Cm (List FV)} : sPar is f st = bindS (f st) fun fs st1 => if fs.length = is.length then .nx (setFs st1 is fs) else .stuck := rfl
@[simp] theorem ev_setFs_nil {fs : List FV} : setFs st [] fs = st := by cases fs <;> rfl
@[simp] theorem ev_setFs_t {is : List Nat} {fs : List FV} : setFs st (i :: is) (.t p :: fs) = setFs (st.set i (some (.t p))) is fs := rfl
@[simp] theorem ev_setFs_n {is : List Nat} {fs : List FV} : setFs st (i :: is) (.n c :: fs) = setFs (st.set i (some (.m c))) is fs := rfl
@[simp] theorem ev_cPl {op : PlOp} : cPl op fa fs st = (fa st).bind fun x st1 => match x with
  | .pl q => match getP st1 q with
    | some (.lst _) => (fs st1).bind fun xs st2 => match trees xs, getP st2 q with
      | some ps, some (.lst ys) => match op ys ps with
        | some (z, zs) => .ok (.t z) (Cl.setP st2 q (.lst zs))
        | none => .stuck
      | _, _ => .stuck
    | _ => .stuck
  | _ => .stuck := rfl
@[simp] theorem ev_cCallF {Fc : List SV → Cm SV} : cCallF Fc fs st = (fs st).bind fun xs st1 => Fc xs st1 := rfl
@[simp] theorem ev_mCallF {Fc : List SV → Cm MC} : mCallF Fc fs st = (fs st).bind fun xs st1 => Fc xs st1 := rfl
@[simp] theorem ev_fcDef {pl : Plan} {F : Fm} {xs : List SV} : fcDef n pl F xs st = if xs.length = n then cRun F st (pickS pl xs) else .stuck := rfl
@[simp] theorem ev_fcDefM {pl : Plan} {F : Fm} {xs : List SV} : fcDefM n pl F xs st = if xs.length = n then cRunM F st (pickS pl xs) else .stuck := rfl
@[simp] theorem ev_mRg1 : mRg1 fa st = (fa st).bind fun x st1 => match x with
  | .t (.int n) => if decide (n.toNat ≤ 16777216) && smallI n then .ok (.lst (rngL 0 1 n.toNat)) st1 else .stuck
  | _ => .stuck := rfl
@[simp] theorem ev_cRng1 : cRng1 fs st = (fs st).bind fun xs st1 => match xs with
  | [.t (.int j)] => if smallI j = true then .ok (rngL 0 1 j.toNat) st1 else .stuck
  | _ => .stuck := rfl
@[simp] theorem ev_cIt : cIt fa st = (fa st).bind fun x st1 => match x with
  | .t (.lst ps) => .ok ps st1
  | .t (.tup _ ps) => .ok ps st1
  | _ => .stuck := rfl
@[simp] theorem ev_sFor {fi : Cm (List PV)} {tg : TgF} : sFor fi tg f st = bindS (fi st) fun items st1 => forL (forB tg f) items st1 := rfl
end
@[simp] theorem ev_part_p : TF.part .p = .p := rfl
@[simp] theorem ev_part_x : TF.part .x = .a := rfl
@[simp] theorem ev_part_a : TF.part .a = .a := rfl
@[simp] theorem ev_join_p : TF.join .p .p = .p := rfl
@[simp] theorem ev_join_x {k : TF} : TF.join .x k = .a := rfl
@[simp] theorem ev_join_a {k : TF} : TF.join .a k = .a := rfl
@[simp] theorem ev_join_px : TF.join .p .x = .a := rfl
@[simp] theorem ev_join_pa : TF.join .p .a = .a := rfl
end Cl
set_option maxHeartbeats 4000000
namespace Cl
open PySem PySem.Spec PyProof.Rows L2
theorem forL_inv {g : PV → Sm} (I : List PV → ST → Prop) (step : ∀ p ps st, I (p :: ps) st → ∃ st', (g p st = .nx st' ∨ g p st = .ct st') ∧ I ps st') : ∀ {ps : List PV} {st : ST}, I ps st → ∃ st', forL g ps st = .nx st' ∧ I [] st'
  | [], st, h => ⟨st, rfl, h⟩
  | p :: ps, st, h => by
    obtain ⟨st1, e, h1⟩ := step p ps st h
    obtain ⟨st2, e2, h2⟩ := forL_inv I step (ps := ps) h1
    refine ⟨st2, ?_, h2⟩
    unfold forL
    rcases e with e | e
    · rw [e]; exact e2
    · rw [e]; exact e2
@[simp] theorem ev_clear_nil {st : ST} : st.clear [] = st := rfl
@[simp] theorem ev_clear_cons {st : ST} {v : Nat} {vs : List Nat} : st.clear (v :: vs) = (st.clear vs).set v none := rfl
@[simp] theorem ev_restore_nil {st st0 : ST} : st.restore st0 [] = st := rfl
@[simp] theorem ev_restore_cons {st st0 : ST} {v : Nat} {vs : List Nat} : st.restore st0 (v :: vs) = (st.restore st0 vs).set v (st0.loc.getD v none) := rfl
end Cl
set_option maxHeartbeats 4000000
namespace Cl
open PySem PySem.Spec PyProof.Rows L2
abbrev iL (ns : List Int) : List PV := ns.map .int
section
variable {ns ms : List Int} {a b i : Int} {k l : TF}
theorem intsP_ints : ∀ {ns : List Int}, intsP (iL ns) = some ns
  | [] => rfl
  | n :: ns => by
    show (intsP (iL ns)).map (fun l => n :: l) = _
    rw [intsP_ints]; rfl
theorem toDs_ints : ∀ {ns : List Int}, toDs (iL ns) = some (ns.map .int)
  | [] => rfl
  | n :: ns => by
    show (toD (.int n)).bind (fun d => (toDs (iL ns)).map fun ds => d :: ds) = _
    rw [toDs_ints]; rfl
theorem canLayAll_ints : ∀ {ns : List Int}, PyData.canLayAll0 (ns.map PyData.int) = true
  | [] => by simp [PyData.canLayAll0]
  | n :: ns => by simp [PyData.canLayAll0, PyData.canLay0, canLayAll_ints]
theorem depthAll_ints : ∀ {ns : List Int}, PyData.depthAll (ns.map PyData.int) = 0
  | [] => by simp [PyData.depthAll]
  | n :: ns => by simp [PyData.depthAll, PyData.depth, depthAll_ints]
theorem shaped_int : SeqAt.shaped (.int a) = true := by simp [SeqAt.shaped, PyData.canLay0, PyData.depth]
theorem shaped_ints : SeqAt.shaped (.list (ns.map PyData.int)) = true := by simp [SeqAt.shaped, PyData.canLay0, PyData.depth, canLayAll_ints, depthAll_ints]
theorem eqvAll_ints : ∀ {xs ys : List Int}, PyData.eqvAll (xs.map PyData.int) (ys.map PyData.int) = decide (xs = ys)
  | [], [] => by simp [PyData.eqvAll]
  | [], y :: ys => by simp [PyData.eqvAll]
  | x :: xs, [] => by simp [PyData.eqvAll]
  | x :: xs, y :: ys => by
    simp only [List.map_cons, PyData.eqvAll, PyData.eqv, eqvAll_ints, List.cons.injEq, Bool.decide_and]
    rfl
theorem pEqB_int : pEqB (.int a) (.int b) = some (decide (a = b)) := by
  show (if SeqAt.shaped (.int a) && SeqAt.shaped (.int b) then some (PyData.eqv (.int a) (.int b)) else none) = _
  rw [shaped_int, shaped_int]
  simp only [PyData.eqv]; rfl
theorem pEq_int : pEq (.int a) (.int b) = some (.bl (decide (a = b))) := by unfold pEq; rw [pEqB_int]; rfl
theorem pNe_int : pNe (.int a) (.int b) = some (.bl (!decide (a = b))) := by unfold pNe; rw [pEqB_int]; rfl
theorem pEqB_ints : pEqB (.lst (iL ns)) (.lst (iL ms)) = some (decide (ns = ms)) := by
  show ((toDs (iL ns)).map PyData.list).bind (fun d => ((toDs (iL ms)).map PyData.list).bind fun e => dEq d e) = _
  rw [toDs_ints, toDs_ints]
  show (if SeqAt.shaped (.list (ns.map PyData.int)) && SeqAt.shaped (.list (ms.map PyData.int)) then some (PyData.eqv (.list (ns.map PyData.int)) (.list (ms.map PyData.int))) else none) = _
  rw [shaped_ints, shaped_ints]
  simp only [PyData.eqv, eqvAll_ints]; rfl
theorem pNe_ints : pNe (.lst (iL ns)) (.lst (iL ms)) = some (.bl (!decide (ns = ms))) := by unfold pNe; rw [pEqB_ints]; rfl
end
theorem rg_nodup {n : Nat} : (rg n).Nodup := by
  unfold rg List.Nodup
  rw [List.pairwise_map]
  exact List.Pairwise.imp (fun h => by omega) (List.pairwise_lt_range (n := n))
theorem mem_rg {n : Nat} {i : Int} : i ∈ rg n ↔ 0 ≤ i ∧ i < n := by
  unfold rg
  rw [List.mem_map]
  constructor
  · rintro ⟨j, h, rfl⟩
    rw [List.mem_range] at h
    omega
  · rintro ⟨h1, h2⟩
    exact ⟨i.toNat, by rw [List.mem_range]; omega, by omega⟩
theorem rngL_rg {n : Nat} : rngL 0 1 n = iL (rg n) := by simp [rngL, rg, iL]
theorem perm_ints : ∀ {ps : List PV} {ns : List Int}, ps.Perm (iL ns) → ∃ ms : List Int, ps = iL ms ∧ ms.Perm ns
  | [], ns, h => by
    have := h.length_eq
    have : ns = [] := by cases ns with
      | nil => rfl
      | cons => simp [iL] at this
    subst this
    exact ⟨[], rfl, .refl _⟩
  | p :: ps, ns, h => by
    have hp : p ∈ iL ns := h.mem_iff.mp (List.mem_cons_self ..)
    obtain ⟨n, hn, rfl⟩ := List.mem_map.mp hp
    have h1 : ns.Perm (n :: ns.erase n) := List.perm_cons_erase hn
    have h2 : (iL ns).Perm (PV.int n :: iL (ns.erase n)) := h1.map PV.int
    obtain ⟨ms, rfl, h3⟩ := perm_ints (List.Perm.cons_inv (h.trans h2))
    exact ⟨n :: ms, rfl, (h3.cons n).trans h1.symm⟩
theorem sIx_n {n d : Nat} : HT.sIx n d none = d := rfl
theorem sIx_pos {n d : Nat} {k : Int} (h : 0 ≤ k) : HT.sIx n d (some k) = min k.toNat n := if_neg (by omega)
theorem cut_to {α : Type} {xs : List α} {k : Int} (h : 0 ≤ k) : cut xs none (some k) = xs.take k.toNat := by
  unfold cut
  rw [sIx_n, sIx_pos h, List.drop_zero, Nat.sub_zero]
  by_cases h2 : k.toNat < xs.length
  · rw [Nat.min_eq_left (by omega)]
  · rw [Nat.min_eq_right (by omega), List.take_length, List.take_of_length_le (by omega)]
end Cl
set_option maxHeartbeats 4000000
namespace Std
open Cl PySem PySem.Spec PyProof.Rows L2
abbrev pl_law_take : Plan := [.inl 0, .inl 1]
def g_law_take : Sm := (sSeq (sIf (cTruth (cBin pGt (cBin pIx (cVar 0) (cC (.int 0))) (cC (.int 0)))) (sSeq (sSet 2 (cBin pMod (cBin pIx (cVar 0) (cC (.int 0))) (cVar 1))) (sSeq (sItem (cBin pDiv (cBin pIx (cVar 0) (cC (.int 0))) (cVar 1)) (cVar 0) (cC (.int 0))) (sRet (cVar 2)))) sNil) (sSeq (sItem (cBin pMod (cBin pAdd (cBin pMul (cBin pIx (cVar 0) (cC (.int 1))) (cC (.int 48271))) (cC (.int 12345))) (cC (.int 2147483647))) (cVar 0) (cC (.int 1))) (sRet (cBin pMod (cBin pDiv (cBin pMod (cBin pMul (cBin pIx (cVar 0) (cC (.int 1))) (cBin pIx (cVar 0) (cC (.int 1)))) (cC (.int 2147483629))) (cC (.int 64))) (cVar 1)))))
def F_law_take : Fm := runF 3 g_law_take
abbrev pl_law_shuffle : Plan := [.inl 0, .inl 1]
def p_law_shuffle_0 : Sm := (sExpr (cPl opAppend (cVar 3) (cCons (cPl opPop (cVar 2) (cCons (cCallF (fcDef 2 pl_law_take F_law_take) (cCons (cVar 0) (cCons (cList bLen (cCons (cVar 2) cNil)) cNil))) cNil)) cNil)))
def g_law_shuffle : Sm := (sSeq (sPar [2, 3] (nM (mList bList (cCons (cVar 1) cNil)) (nM (mDisp cNil) nNil))) (sSeq (sFor (cRng1 (cCons (cList bLen (cCons (cVar 1) cNil)) cNil)) (tgN 4) p_law_shuffle_0) (sRetM (mMv 3))))
def F_law_shuffle : Fm := runF 5 g_law_shuffle
def tk (a b n : Int) : Int × (Int × Int) := if 0 < a then (a % n, (a / n, b)) else
  let b' := (b * 48271 + 12345) % 2147483647
  (b' * b' % 2147483629 / 64 % n, (a, b'))
abbrev pool (a b : Int) : MC := .lst [.int a, .int b]
theorem take_eq (a b n : Int) (h : 0 < n) (h2 : n < 1073741824) : F_law_take [.i (pool a b), .t (.int n)] = .ok (.t (.int (tk a b n).1)) [pool (tk a b n).2.1 (tk a b n).2.2] := by
  unfold F_law_take runF g_law_take
  by_cases ha : 0 < a
  · have h2' : n.natAbs < 1073741824 := by omega
    simp [tk, ha, enter, slots, conts, pIx, atI, ixN, pCmp, pMod, pDiv, h, h2']
  · have hb : 0 ≤ (b * 48271 + 12345) % 2147483647 := Int.emod_nonneg _ (by decide)
    have hb2 : (b * 48271 + 12345) % 2147483647 < 2147483647 := Int.emod_lt_of_pos _ (by decide)
    have hs : Cl.small64 ((b * 48271 + 12345) % 2147483647) = true := by simp [Cl.small64]; omega
    have h2' : n.natAbs < 1073741824 := by omega
    have hs2 : Cl.small64 48271 = true := by decide
    simp [tk, ha, enter, slots, conts, pIx, atI, ixN, pCmp, pMod, pDiv, pMul, pAdd, h, h2, hs, hs2]
theorem tk_range (a b n : Int) (h : 0 < n) : 0 ≤ (tk a b n).1 ∧ (tk a b n).1 < n := by
  unfold tk
  split
  · exact ⟨Int.emod_nonneg _ (by omega), Int.emod_lt_of_pos _ h⟩
  · exact ⟨Int.emod_nonneg _ (by omega), Int.emod_lt_of_pos _ h⟩
theorem run_take {st : ST} {q : PL} {a b n : Int} (hq : getP st q = some (pool a b)) (h : 0 < n) (h2 : n < 1073741824) :
    ∃ r a' b', 0 ≤ r ∧ r < n ∧ cRun F_law_take st [.pl q, .t (.int n)] = .ok (.t (.int r)) (Cl.setP st q (pool a' b')) := by
  obtain ⟨h3, h4⟩ := tk_range a b n h
  refine ⟨(tk a b n).1, (tk a b n).2.1, (tk a b n).2.2, h3, h4, ?_⟩
  unfold cRun
  simp only [mkArgs, hq, Option.bind_some, Option.map_some]
  rw [if_pos (by simp)]
  rw [take_eq a b n h h2]
  rfl
theorem pick2 {x y : SV} : pickS [.inl 0, .inl 1] [x, y] = [x, y] := rfl
theorem eraseIdx_perm {α : Type} : ∀ {l : List α} {i : Nat} {x : α}, l[i]? = some x → l.Perm (x :: l.eraseIdx i)
  | [], _, _, h => by simp at h
  | y :: l, 0, x, h => by simp at h; subst h; exact .refl _
  | y :: l, i + 1, x, h => by
    have := eraseIdx_perm (l := l) (i := i) (by simpa using h)
    exact (this.cons y).trans (.swap x y _)
theorem shuffle_step {items rest res : List PV} {a b : Int} {t : Option SL} {p : PV} (hpos : 0 < rest.length) (hle : rest.length ≤ 1000) (hle2 : res.length ≤ 1000) :
    ∃ i a' b', ∃ h : i < rest.length, forB (tgN 4) p_law_shuffle_0 p ⟨[some (.i 0), some (.t (.lst items)), some (.m (.lst rest)), some (.m (.lst res)), t], [pool a b]⟩ =
      .nx ⟨[some (.i 0), some (.t (.lst items)), some (.m (.lst (rest.eraseIdx i))), some (.m (.lst (res ++ [rest[i]]))), some (.t p)], [pool a' b']⟩ := by
  obtain ⟨r, a', b', r0, r1, er⟩ := run_take (st := ⟨[some (.i 0), some (.t (.lst items)), some (.m (.lst rest)), some (.m (.lst res)), some (.t p)], [pool a b]⟩) (q := .ih 0) (a := a) (b := b) (n := rest.length) rfl (by omega) (by omega)
  have hix : ixN rest.length r = some r.toNat := by unfold ixN; rw [if_pos r0, if_pos r1]
  have hlt : r.toNat < rest.length := by omega
  have z1 : decide (rest.length < 2 ^ 62) = true := decide_eq_true (by omega)
  have z2 : decide (res.length < 16777216) = true := decide_eq_true (by omega)
  refine ⟨r.toNat, a', b', hlt, ?_⟩
  have o1 : opPop rest [.int r] = some (rest[r.toNat], rest.eraseIdx r.toNat) := by simp [opPop, hix, List.getElem?_eq_getElem hlt, z1]
  have o2 : opAppend res [rest[r.toNat]] = some (.non, res ++ [rest[r.toNat]]) := by simp [opAppend]; omega
  simp only [ev_bind_ok, ev_bind_stuck, ev_bind_exc, ev_cC, ev_ofO, ev_ofM, ev_cVar, ev_cMv, ev_mMv, ev_cUn, ev_cBin, ev_cNil, ev_cCons, ev_views_nil, ev_views_cons, ev_view_t, ev_view_sl, ev_view_ih, ev_pv_lst, ev_pv_obj, ev_pv_dct, ev_cList, ev_mList, ev_cTruth, ev_cAnd, ev_cOr, ev_cNot, ev_cAndV, ev_cOrV, ev_cNotV, ev_cIf, ev_cYes, ev_cChain, ev_cDisp, ev_mDisp, ev_trees_nil, ev_trees_cons, ev_cFrz, ev_sNil, ev_sNo, ev_sSeq, ev_bindS_ok, ev_bindS_stuck, ev_sExpr, ev_sRet, ev_sRetN, ev_sRetM, ev_sIf, ev_sSet, ev_sSetM, ev_sAsg, ev_sItem, ev_getP_sl, ev_getP_ih, ev_setP_sl, ev_setP_ih, ev_set, ev_sets_nil, ev_sets_cons, ev_tgN, ev_tgS_tup, ev_tgS_lst, ev_tgs_nil, ev_tgs_cons, ev_nNil, ev_nT, ev_nM, ev_sPar, ev_setFs_nil, ev_setFs_t, ev_setFs_n, ev_cPl, ev_cCallF, ev_mCallF, ev_fcDef, ev_fcDefM, ev_mRg1, ev_cRng1, ev_cIt, ev_sFor, ev_part_p, ev_part_x, ev_part_a, ev_join_p, ev_join_x, ev_join_a, ev_join_px, ev_join_pa, ev_clear_nil, ev_clear_cons, ev_restore_nil, ev_restore_cons, List.set, List.getElem?_cons_succ, List.getElem?_cons_zero, Option.bind_some, Option.map_some, List.length_cons, List.length_nil, if_true, Bool.not_true, Bool.not_false, Bool.false_eq_true, if_false, reduceIte, decide_true, decide_false, Nat.reduceAdd, Nat.zero_add, List.getD_cons_succ, List.getD_cons_zero, forB, p_law_shuffle_0, bLen, pick2, er, o1, o2]
theorem szOk0 : Cl.szOk 0 = true := by decide
theorem sm1000 {n : Nat} (h : n ≤ 1000) : smallI (n : Int) = true := by simp [smallI]; omega
def ShI (items : List PV) (ps : List PV) (st : Cl.ST) : Prop := ∃ rest res a b t, st = ⟨[some (.i 0), some (.t (.lst items)), some (.m (.lst rest)), some (.m (.lst res)), t], [pool a b]⟩ ∧ rest.length = ps.length ∧ (res ++ rest).Perm items
theorem shuffle_turn {items : List PV} (hl : items.length ≤ 1000) (p : PV) (ps : List PV) (st : Cl.ST) (h : ShI items (p :: ps) st) : ∃ st', (forB (tgN 4) p_law_shuffle_0 p st = .nx st' ∨ forB (tgN 4) p_law_shuffle_0 p st = .ct st') ∧ ShI items ps st' := by
  obtain ⟨rest, res, a, b, t, rfl, hr, hp⟩ := h
  have hlen := hp.length_eq
  rw [List.length_append] at hlen
  rw [List.length_cons] at hr
  obtain ⟨i, a', b', h, es⟩ := shuffle_step (items := items) (rest := rest) (res := res) (a := a) (b := b) (t := t) (p := p) (by omega) (by omega) (by omega)
  refine ⟨_, .inl es, _, _, a', b', _, rfl, ?_, ?_⟩
  · rw [List.length_eraseIdx, if_pos h]; omega
  · refine List.Perm.trans ?_ hp
    rw [List.append_assoc]
    exact List.Perm.append_left res (eraseIdx_perm (List.getElem?_eq_getElem h)).symm
theorem shuffle_loop {items : List PV} (hl : items.length ≤ 1000) {ps : List PV} {a b : Int} (h : items.length = ps.length) : ∃ st', forL (forB (tgN 4) p_law_shuffle_0) ps ⟨[some (.i 0), some (.t (.lst items)), some (.m (.lst items)), some (.m (.lst [])), none], [pool a b]⟩ = .nx st' ∧ ShI items [] st' :=
  forL_inv (ShI items) (shuffle_turn hl) ⟨items, [], a, b, none, rfl, h, List.Perm.refl _⟩
theorem shuffle_ok (items : List PV) (a b : Int) (hl : items.length ≤ 1000) : ∃ perm a' b', perm.Perm items ∧ F_law_shuffle [.i (pool a b), .t (.lst items)] = .ok (.n (.lst perm)) [pool a' b'] := by
  obtain ⟨st', e, rest, res, a', b', t, rfl, hr, hp⟩ := shuffle_loop hl (ps := rngL 0 1 items.length) (a := a) (b := b) rngL_length.symm
  have : rest = [] := List.length_eq_zero_iff.mp hr
  subst this
  have hsm := sm1000 hl
  refine ⟨res, a', b', by simpa using hp, ?_⟩
  unfold F_law_shuffle runF g_law_shuffle
  simp only [ev_bind_ok, ev_bind_stuck, ev_bind_exc, ev_cC, ev_ofO, ev_ofM, ev_cVar, ev_cMv, ev_mMv, ev_cUn, ev_cBin, ev_cNil, ev_cCons, ev_views_nil, ev_views_cons, ev_view_t, ev_view_sl, ev_view_ih, ev_pv_lst, ev_pv_obj, ev_pv_dct, ev_cList, ev_mList, ev_cTruth, ev_cAnd, ev_cOr, ev_cNot, ev_cAndV, ev_cOrV, ev_cNotV, ev_cIf, ev_cYes, ev_cChain, ev_cDisp, ev_mDisp, ev_trees_nil, ev_trees_cons, ev_cFrz, ev_sNil, ev_sNo, ev_sSeq, ev_bindS_ok, ev_bindS_stuck, ev_sExpr, ev_sRet, ev_sRetN, ev_sRetM, ev_sIf, ev_sSet, ev_sSetM, ev_sAsg, ev_sItem, ev_getP_sl, ev_getP_ih, ev_setP_sl, ev_setP_ih, ev_set, ev_sets_nil, ev_sets_cons, ev_tgN, ev_tgS_tup, ev_tgS_lst, ev_tgs_nil, ev_tgs_cons, ev_nNil, ev_nT, ev_nM, ev_sPar, ev_setFs_nil, ev_setFs_t, ev_setFs_n, ev_cPl, ev_cCallF, ev_mCallF, ev_fcDef, ev_fcDefM, ev_mRg1, ev_cRng1, ev_cIt, ev_sFor, ev_part_p, ev_part_x, ev_part_a, ev_join_p, ev_join_x, ev_join_a, ev_join_px, ev_join_pa, ev_clear_nil, ev_clear_cons, ev_restore_nil, ev_restore_cons, List.set, List.getElem?_cons_succ, List.getElem?_cons_zero, Option.bind_some, Option.map_some, List.length_cons, List.length_nil, if_true, Bool.not_true, Bool.not_false, Bool.false_eq_true, if_false, reduceIte, decide_true, decide_false, Nat.reduceAdd, Nat.zero_add, List.getD_cons_succ, List.getD_cons_zero, enter, slots, conts, bList, szOk0, bLen, hsm, e, List.replicate, Int.toNat_natCast, List.cons_append, List.nil_append]
end Std
set_option maxHeartbeats 4000000
namespace Std
open Cl PySem PySem.Spec PyProof.Rows L2
def ofIx (n : Int) : PV → Bool
  | .int i => decide (0 ≤ i ∧ i < n)
  | _ => false
end Std
set_option maxHeartbeats 4000000
namespace Cl
open PySem PySem.Spec PyProof.Rows L2
def isRet : Frame → Bool
  | .ret .. => true
  | .gen .. => false
abbrev RetOnly (fs : List Frame) : Prop := ∀ f ∈ fs, isRet f = true
def dull (f : Frame) : Frame := .ret (fun _ => .unsupported "") none false [] f.where_.1 f.where_.2 []
def numb : GenState → GenState
  | .suspended _ l c p fs _ => .suspended (fun _ => .unsupported "") l c p (fs.map dull) false
  | x => x
def asleep : GenState → Bool
  | .suspended .. => true
  | _ => false
theorem numb_seen {x : GenState} : (numb x).seen = x.seen := by
  cases x with
  | suspended k l c p fs cl =>
    show (GenStatus.suspended, some ((c, p) :: (fs.map dull).map Frame.where_)) = (GenStatus.suspended, some ((c, p) :: fs.map Frame.where_))
    rw [List.map_map]
    rfl
  | _ => rfl
theorem numb_bare {x : GenState} (h : x.bare = true) : (numb x).bare = true := by cases x <;> first | rfl | exact h
theorem numb_awake {x : GenState} (h : asleep x = false) : numb x = x := by cases x <;> first | rfl | cases h
def okG : GenState → Prop
  | .suspended _ _ _ _ fs _ => RetOnly fs
  | _ => True
def okE : End → Prop
  | .susp _ _ _ _ _ _ fs => RetOnly fs
  | _ => True
theorem okE_gen {e : End} (h : okE e) : okG e.genState := by cases e with
  | ret r => trivial
  | susp v g l k c p fs => exact h
theorem no_gen {fs : List Frame} (h : RetOnly fs) : splitAtGen fs = none := by
  induction fs with
  | nil => rfl
  | cons f fs ih =>
    cases f with
    | ret k hh g l c p kp =>
      show (splitAtGen fs).map _ = none
      rw [ih fun x hx => h x (List.mem_cons_of_mem _ hx)]; rfl
    | gen g k l c p => exact absurd (show false = true from h _ (List.mem_cons_self ..)) (by decide)
theorem no_unsup {M : Model} {Γ : PySem.Ctx} {p : Pos} {t : Sem PySem.Fin} {fs : List Frame} {s s' : Shared} {e : End} (h : Runs M Γ p t fs s e s') : ∀ w, t ≠ .unsupported w := by
  induction h <;> intro w hw <;> first | (cases hw; done) | (rename_i ih; exact ih w hw) | (rename_i ih _; exact ih w hw) | (rename_i ih _ _; exact ih w hw)
structure Sim (S : Nat → Prop) (s s2 : Shared) : Prop where
  heap : s2.heap = s.heap
  drawn : s2.drawn = s.drawn
  toks : s2.toks = s.toks
  os : s2.os = s.os
  size : s2.gens.size = s.gens.size
  prot : ∀ i, S i → ∃ x, s2.gens[i]? = some x ∧ s.gens[i]? = some (numb x) ∧ asleep x = true
  rest : ∀ i, ¬ S i → s2.gens[i]? = s.gens[i]?
  ok : ∀ i x, ¬ S i → s.gens[i]? = some x → okG x
def KeptAt (S : Nat → Prop) (s s' : Shared) : Prop := ∀ i, S i → s'.gens[i]? = s.gens[i]?
section
variable {S : Nat → Prop} {s s2 : Shared}
theorem Sim.newGen (h : Sim S s s2) (c : Code) : Sim S { s with gens := s.gens.push (.fresh c) } { s2 with gens := s2.gens.push (.fresh c) } := by
  have lt : ∀ i, S i → i < s.gens.size := fun i hi => by
    obtain ⟨x, e, _⟩ := h.prot i hi
    rw [← h.size]; exact (Array.getElem?_eq_some_iff.mp e).1
  refine ⟨h.heap, h.drawn, h.toks, h.os, ?_, fun i hi => ?_, fun i hi => ?_, fun i x hi e => ?_⟩
  · show (s2.gens.push _).size = (s.gens.push _).size
    rw [Array.size_push, Array.size_push, h.size]
  · obtain ⟨x, e1, e2, e3⟩ := h.prot i hi
    have l := lt i hi
    exact ⟨x, by show (s2.gens.push _)[i]? = _; rw [Array.getElem?_push, if_neg (by rw [h.size]; omega)]; exact e1, by show (s.gens.push _)[i]? = _; rw [Array.getElem?_push, if_neg (by omega)]; exact e2, e3⟩
  · show (s2.gens.push _)[i]? = (s.gens.push _)[i]?
    rw [Array.getElem?_push, Array.getElem?_push, h.size, h.rest i hi]
  · have e : (s.gens.push (.fresh c))[i]? = some x := e
    rw [Array.getElem?_push] at e
    split at e
    · cases e; trivial
    · exact h.ok i x hi e
theorem Sim.setGen (h : Sim S s s2) {g : Nat} {x : GenState} (hg : ¬ S g) (hx : okG x) : Sim S (s.setGen g x) (s2.setGen g x) := by
  refine ⟨h.heap, h.drawn, h.toks, h.os, ?_, fun i hi => ?_, fun i hi => ?_, fun i y hi e => ?_⟩
  · show (s2.gens.setIfInBounds g x).size = (s.gens.setIfInBounds g x).size
    rw [Array.size_setIfInBounds, Array.size_setIfInBounds, h.size]
  · obtain ⟨y, e1, e2, e3⟩ := h.prot i hi
    have ne : g ≠ i := fun z => hg (z ▸ hi)
    exact ⟨y, by show (s2.gens.setIfInBounds g x)[i]? = _; rw [Array.getElem?_setIfInBounds_ne ne]; exact e1, by show (s.gens.setIfInBounds g x)[i]? = _; rw [Array.getElem?_setIfInBounds_ne ne]; exact e2, e3⟩
  · show (s2.gens.setIfInBounds g x)[i]? = (s.gens.setIfInBounds g x)[i]?
    rw [Array.getElem?_setIfInBounds, Array.getElem?_setIfInBounds, h.size, h.rest i hi]
  · have e : (s.gens.setIfInBounds g x)[i]? = some y := e
    rw [Array.getElem?_setIfInBounds] at e
    split at e
    · split at e
      · cases e; exact hx
      · cases e
    · exact h.ok i y hi e
theorem kept_setGen {g : Nat} {x : GenState} (hg : ¬ S g) : KeptAt S s (s.setGen g x) := fun i hi => by
  show (s.gens.setIfInBounds g x)[i]? = _
  exact Array.getElem?_setIfInBounds_ne fun z => hg (by rw [z]; exact hi)
theorem KeptAt.refl : KeptAt S s s := fun _ _ => rfl
theorem KeptAt.trans {s3 : Shared} (a : KeptAt S s s2) (b : KeptAt S s2 s3) : KeptAt S s s3 := fun i hi => (b i hi).trans (a i hi)
theorem kept_newGen (h : Sim S s s2) {c : Code} : KeptAt S s2 { s2 with gens := s2.gens.push (.fresh c) } := fun i hi => by
  obtain ⟨x, e, _⟩ := h.prot i hi
  have l := (Array.getElem?_eq_some_iff.mp e).1
  show (s2.gens.push _)[i]? = _
  rw [Array.getElem?_push, if_neg (by omega)]
theorem Sim.awake (h : Sim S s s2) {g : Nat} {x : GenState} (e : s.gens[g]? = some x) (hx : asleep x = false) : ¬ S g := fun hg => by
  obtain ⟨y, _, e2, e3⟩ := h.prot g hg
  rw [e] at e2
  cases e2
  cases y <;> first | (cases e3; done) | (exact absurd (show true = false from hx) (by decide))
theorem Sim.upHeap (h : Sim S s s2) (f : Heap → Heap) : Sim S { s with heap := f s.heap } { s2 with heap := f s2.heap } := ⟨congrArg f h.heap, h.drawn, h.toks, h.os, h.size, h.prot, h.rest, h.ok⟩
theorem Sim.upToks (h : Sim S s s2) (f : Nat → Nat) : Sim S { s with toks := f s.toks } { s2 with toks := f s2.toks } := ⟨h.heap, h.drawn, congrArg f h.toks, h.os, h.size, h.prot, h.rest, h.ok⟩
theorem Sim.upDrawn (h : Sim S s s2) (f : Drawn → Drawn) : Sim S { s with drawn := f s.drawn } { s2 with drawn := f s2.drawn } := ⟨h.heap, congrArg f h.drawn, h.toks, h.os, h.size, h.prot, h.rest, h.ok⟩
theorem Sim.upOs (h : Sim S s s2) (f : OsState → OsState) : Sim S { s with os := f s.os } { s2 with os := f s2.os } := ⟨h.heap, h.drawn, h.toks, congrArg f h.os, h.size, h.prot, h.rest, h.ok⟩
theorem Sim.seen (h : Sim S s s2) {g : Nat} {st : GenState} (e : s.gens[g]? = some st) : ∃ st2, s2.gens[g]? = some st2 ∧ st2.seen = st.seen := by
  by_cases hS : S g
  · obtain ⟨x, e1, e2, _⟩ := h.prot g hS
    rw [e] at e2; cases e2
    exact ⟨x, e1, numb_seen.symm⟩
  · exact ⟨st, by rw [h.rest g hS]; exact e, rfl⟩
theorem Sim.wake (h : Sim S s s2) {g : Nat} {k : Resume → Sem PySem.Fin} {l : List Value} {c : Code} {p : Pos} {fs : List Frame} {cl : Bool} (e : s.gens[g]? = some (.suspended k l c p fs cl)) : ¬ S g ∨ k = fun _ => .unsupported "" := by
  by_cases hS : S g
  · obtain ⟨x, e1, e2, e3⟩ := h.prot g hS
    rw [e] at e2
    cases x with
    | suspended k' l' c' p' fs' cl' => cases e2; exact .inr rfl
    | _ => cases e3
  · exact .inl hS
theorem ret_append {a b : List Frame} (ha : RetOnly a) (hb : RetOnly b) : RetOnly (a ++ b) := fun f hf => (List.mem_append.mp hf).elim (ha f) (hb f)
theorem runs_sim {M : Model} {S : Nat → Prop} {Γ : PySem.Ctx} {p : Pos} {t : Sem PySem.Fin} {fs : List Frame} {s s' : Shared} {e : End} (h : Runs M Γ p t fs s e s') :
    RetOnly fs → ∀ s2, Sim S s s2 → ∃ s2', Runs M Γ p t fs s2 e s2' ∧ Sim S s' s2' ∧ KeptAt S s2 s2' ∧ okE e := by
  induction h with
  | done => intro _ s2 z; exact ⟨s2, .done, z, .refl, trivial⟩
  | raise => intro _ s2 z; exact ⟨s2, .raise, z, .refl, trivial⟩
  | again hq _ ih => intro hf s2 z; obtain ⟨s', a, b⟩ := ih hf s2 z; exact ⟨s', .again hq a, b⟩
  | rule _ ih => intro hf s2 z; obtain ⟨s', a, b⟩ := ih hf s2 z; exact ⟨s', .rule a, b⟩
  | «at» _ ih => intro hf s2 z; obtain ⟨s', a, b⟩ := ih hf s2 z; exact ⟨s', .at a, b⟩
  | load ho _ ih => intro hf s2 z; obtain ⟨s', a, b⟩ := ih hf s2 z; exact ⟨s', .load (by rw [z.heap]; exact ho) a, b⟩
  | update ho _ ih =>
    intro hf s2 z
    obtain ⟨s', x, b⟩ := ih hf _ (z.upHeap fun h => h.update _ _)
    exact ⟨s', .update (by rw [z.heap]; exact ho) x, b⟩
  | loadIfAlive _ ih => intro hf s2 z; obtain ⟨s', a, b⟩ := ih hf s2 z; exact ⟨s', .loadIfAlive (by rw [z.heap]; exact a), b⟩
  | point _ ih => intro hf s2 z; obtain ⟨s', a, b⟩ := ih hf s2 z; exact ⟨s', .point a, b⟩
  | alloc _ ih =>
    intro hf s2 z
    obtain ⟨s', x, b⟩ := ih hf _ (z.upHeap fun h => h.push _)
    exact ⟨s', .alloc (by rw [← z.heap] at x; exact x), b⟩
  | fresh _ ih =>
    intro hf s2 z
    obtain ⟨s', x, b⟩ := ih hf _ (z.upToks fun n => n + 1)
    exact ⟨s', .fresh (by rw [← z.toks] at x; exact x), b⟩
  | ask _ ih => intro hf s2 z; obtain ⟨s', a, b⟩ := ih hf s2 z; exact ⟨s', .ask a, b⟩
  | choose hn _ ih =>
    intro hf s2 z
    obtain ⟨s', x, b⟩ := ih hf _ (z.upDrawn fun d => d.bump _)
    exact ⟨s', .choose hn (by rw [← z.drawn] at x; exact x), b⟩
  | os _ ih =>
    intro hf s2 z
    obtain ⟨s', x, b⟩ := ih hf _ (z.upOs fun o => (Os.step o _).1)
    exact ⟨s', .os (by rw [← z.os] at x; exact x), b⟩
  | handled _ ih => intro hf s2 z; obtain ⟨s', a, b⟩ := ih hf s2 z; exact ⟨s', .handled a, b⟩
  | genState hg _ ih =>
    intro hf s2 z
    obtain ⟨s', a, b⟩ := ih hf s2 z
    obtain ⟨st2, e1, e2⟩ := z.seen hg
    exact ⟨s', .genState e1 (by rw [e2]; exact a), b⟩
  | stack _ ih => intro hf s2 z; obtain ⟨s', a, b⟩ := ih hf s2 z; exact ⟨s', .stack a, b⟩
  | thread _ ih => intro hf s2 z; obtain ⟨s', a, b⟩ := ih hf s2 z; exact ⟨s', .thread a, b⟩
  | newGen _ ih =>
    intro hf s2 z
    obtain ⟨s', a, b, k, o⟩ := ih hf _ (z.newGen _)
    exact ⟨s', .newGen (by rw [z.size]; exact a), b, (kept_newGen z).trans k, o⟩
  | call _ _ ih1 ih2 =>
    intro hf s2 z
    obtain ⟨s3, a1, b1, k1, _⟩ := ih1 (fun f h => nomatch h) s2 z
    obtain ⟨s4, a2, b2, k2, o2⟩ := ih2 hf s3 b1
    exact ⟨s4, .call a1 a2, b2, k1.trans k2, o2⟩
  | callSusp _ ih =>
    intro hf s2 z
    obtain ⟨s3, a, b, k, o⟩ := ih (fun f h => nomatch h) s2 z
    exact ⟨s3, .callSusp a, b, k, ret_append o fun f hf => by rw [List.mem_singleton.mp hf]; rfl⟩
  | yield => intro hf s2 z; exact ⟨s2, .yield, z, .refl, fun f h => nomatch h⟩
  | resumeFresh hg _ hq _ ih1 ih2 =>
    intro hf s2 z
    have hS := z.awake hg rfl
    obtain ⟨s3, a1, b1, k1, o1⟩ := ih1 (fun f h => nomatch h) _ (z.setGen (x := .running) hS trivial)
    obtain ⟨s4, a2, b2, k2, o2⟩ := ih2 hf _ (b1.setGen hS (okE_gen o1))
    exact ⟨s4, .resumeFresh (by rw [z.rest _ hS]; exact hg) a1 hq a2, b2, (((kept_setGen hS).trans k1).trans (kept_setGen hS)).trans k2, o2⟩
  | resumeSuspended hg hr hq _ ih1 ih2 =>
    intro hf s2 z
    rcases z.wake hg with hS | hk
    · have ok := z.ok _ _ hS hg
      obtain ⟨s3, a1, b1, k1, o1⟩ := ih1 ok _ (z.setGen (x := .running) hS trivial)
      obtain ⟨s4, a2, b2, k2, o2⟩ := ih2 hf _ (b1.setGen hS (okE_gen o1))
      exact ⟨s4, .resumeSuspended (by rw [z.rest _ hS]; exact hg) a1 hq a2, b2, (((kept_setGen hS).trans k1).trans (kept_setGen hS)).trans k2, o2⟩
    · rw [hk] at hr
      exact absurd rfl (no_unsup hr "")
  | resumeJustStarted hg hv _ ih =>
    intro hf s2 z
    have hS := z.awake hg rfl
    obtain ⟨s3, a, b⟩ := ih hf s2 z
    exact ⟨s3, .resumeJustStarted (by rw [z.rest _ hS]; exact hg) hv a, b⟩
  | resumeThrowFresh hg _ ih =>
    intro hf s2 z
    have hS := z.awake hg rfl
    obtain ⟨s3, a, b, k, o⟩ := ih hf _ (z.setGen (x := .finished) hS trivial)
    exact ⟨s3, .resumeThrowFresh (by rw [z.rest _ hS]; exact hg) a, b, (kept_setGen hS).trans k, o⟩
  | resumeRunning hg _ ih =>
    intro hf s2 z
    have hS := z.awake hg rfl
    obtain ⟨s3, a, b⟩ := ih hf s2 z
    exact ⟨s3, .resumeRunning (by rw [z.rest _ hS]; exact hg) a, b⟩
  | resumeFinished hg _ ih =>
    intro hf s2 z
    have hS := z.awake hg rfl
    obtain ⟨s3, a, b⟩ := ih hf s2 z
    exact ⟨s3, .resumeFinished (by rw [z.rest _ hS]; exact hg) a, b⟩
  | segRet _ _ ih1 ih2 =>
    intro hf s2 z
    obtain ⟨s3, a1, b1, k1, _⟩ := ih1 (fun f h => nomatch h) s2 z
    obtain ⟨s4, a2, b2, k2, o2⟩ := ih2 (fun f h => hf f (List.mem_cons_of_mem _ h)) s3 b1
    exact ⟨s4, .segRet a1 a2, b2, k1.trans k2, o2⟩
  | segGen _ _ _ _ => intro hf; exact absurd (show false = true from hf _ (List.mem_cons_self ..)) (by decide)
  | segSuspOut hsp _ ih =>
    intro hf s2 z
    obtain ⟨s3, a, b, k, o⟩ := ih (fun f h => nomatch h) s2 z
    exact ⟨s3, .segSuspOut hsp a, b, k, ret_append o hf⟩
  | segSuspGen hsp _ _ _ _ _ => intro hf; rw [no_gen hf] at hsp; cases hsp
end
end Cl
set_option maxHeartbeats 4000000
namespace Cl
open PySem PySem.Spec PyProof.Rows L2
section
variable {α : Type} {M : Model} {Γ : PySem.Ctx} {S : Nat → Prop}
abbrev SimQ (S : Nat → Prop) (s2 : Shared) (Q : α → Pos → Shared → Prop) : α → Pos → Shared → Prop := fun a p s' => ∃ s0, Sim S s0 s' ∧ KeptAt S s2 s' ∧ Q a p s0
theorem wp_sim (t : Sem α) : ∀ {Q : α → Pos → Shared → Prop} {E : Value → Pos → Shared → Prop} {p : Pos} {s s1 s2 : Shared}, Sim S s s2 → KeptAt S s1 s2 → Sem.wp M Γ t Q E p s → Sem.wp M Γ t (SimQ S s1 Q) (SimQ S s1 E) p s2 := by
  induction t with
  | pure a => intro Q E p s s1 s2 z k h; exact ⟨s, z, k, h⟩
  | raise e => intro Q E p s s1 s2 z k h; exact ⟨s, z, k, h⟩
  | unsupported _ => intro Q E p s s1 s2 z k h; exact h
  | finish _ => intro Q E p s s1 s2 z k h; exact h
  | rule _ f ih => intro Q E p s s1 s2 z k h; exact ih () z k h
  | «at» p' f ih => intro Q E p s s1 s2 z k h; exact ih () z k h
  | load a _ f ih => intro Q E p s s1 s2 z k h; obtain ⟨o, ho, h⟩ := h; exact ⟨o, by rw [z.heap]; exact ho, ih o z k h⟩
  | update a _ g f ih => intro Q E p s s1 s2 z k h; exact ⟨by rw [z.heap]; exact h.1, ih () (z.upHeap fun hp => hp.update a g) k h.2⟩
  | loadIfAlive a f ih => intro Q E p s s1 s2 z k h; show Sem.wp M Γ (f (s2.heap.get? a)) _ _ p s2; rw [z.heap]; exact ih _ z k h
  | point _ f ih => intro Q E p s s1 s2 z k h; exact ih () z k h
  | register _ _ => intro Q E p s s1 s2 z k h; exact h
  | alloc o f ih => intro Q E p s s1 s2 z k h; show Sem.wp M Γ (f s2.heap.objs.size) _ _ p _; rw [z.heap]; have := ih s.heap.objs.size (z.upHeap fun hp => hp.push o) k h; rw [z.heap] at this; exact this
  | fresh f ih => intro Q E p s s1 s2 z k h; show Sem.wp M Γ (f s2.toks) _ _ p _; rw [z.toks]; have := ih s.toks (z.upToks fun n => n + 1) k h; rw [z.toks] at this; exact this
  | ask f ih => intro Q E p s s1 s2 z k h; exact ih _ z k h
  | choose src n f ih => intro Q E p s s1 s2 z k h; refine ⟨h.1, ?_⟩; rw [z.drawn]; have := ih _ (z.upDrawn fun d => d.bump src) k h.2; rw [z.drawn] at this; exact this
  | os q _ f ih => intro Q E p s s1 s2 z k h; show Sem.wp M Γ (f (Os.step s2.os q).2) _ _ p _; rw [z.os]; have := ih _ (z.upOs fun o => (Os.step o q).1) k h; rw [z.os] at this; exact this
  | call c hd _ _ f ih =>
    intro Q E p s s1 s2 z k h
    obtain ⟨r, s', hr, h⟩ := h
    obtain ⟨s3, a, b, kk, _⟩ := runs_sim hr (fun f h => nomatch h) s2 z
    exact ⟨r, s3, a, ih r b (k.trans kk) h⟩
  | handled own f ih => intro Q E p s s1 s2 z k h; exact ih _ z k h
  | genState g f ih => intro Q E p s s1 s2 z k h; obtain ⟨st, hs, h⟩ := h; obtain ⟨st2, e1, e2⟩ := z.seen hs; exact ⟨st2, e1, by rw [e2]; exact ih _ z k h⟩
  | newGen c f ih => intro Q E p s s1 s2 z k h; show Sem.wp M Γ (f s2.gens.size) _ _ p _; rw [z.size]; exact ih _ (z.newGen c) (k.trans (kept_newGen z)) h
  | resume g r _ f ih =>
    intro Q E p s s1 s2 z k h
    obtain ⟨res, s', hw, h⟩ := h
    have key : ∃ s3, Wakes M Γ p g r s2 res s3 ∧ Sim S s' s3 ∧ KeptAt S s2 s3 := by
      unfold Wakes at hw
      split at hw
      · exact hw.elim
      · rename_i c hg
        have hS := z.awake hg rfl
        split at hw
        · obtain ⟨e₁, s₁, hr, hq, e1, e2⟩ := hw
          obtain ⟨s3, a1, b1, k1, o1⟩ := runs_sim hr (fun f h => nomatch h) _ (z.setGen (x := .running) hS trivial)
          subst e2
          exact ⟨_, by unfold Wakes; rw [z.rest _ hS, hg]; exact ⟨e₁, s3, a1, hq, e1, rfl⟩, b1.setGen hS (okE_gen o1), ((kept_setGen hS).trans k1).trans (kept_setGen hS)⟩
        · obtain ⟨e1, e2⟩ := hw
          subst e2
          rename_i v hv
          refine ⟨s2, ?_, z, .refl⟩
          unfold Wakes; rw [z.rest _ hS, hg]
          cases v <;> first | exact ⟨e1, rfl⟩ | exact absurd rfl hv
        · obtain ⟨e1, e2⟩ := hw
          subst e2
          exact ⟨_, by unfold Wakes; rw [z.rest _ hS, hg]; exact ⟨e1, rfl⟩, z.setGen hS trivial, kept_setGen hS⟩
      · rename_i k₀ l₀ c₀ p₀ fs cl hg
        obtain ⟨e₁, s₁, hr, hq, e1, e2⟩ := hw
        rcases z.wake hg with hS | hk
        · obtain ⟨s3, a1, b1, k1, o1⟩ := runs_sim hr (z.ok _ _ hS hg) _ (z.setGen (x := .running) hS trivial)
          subst e2
          exact ⟨_, by unfold Wakes; rw [z.rest _ hS, hg]; exact ⟨e₁, s3, a1, hq, e1, rfl⟩, b1.setGen hS (okE_gen o1), ((kept_setGen hS).trans k1).trans (kept_setGen hS)⟩
        · rw [hk] at hr
          exact absurd rfl (no_unsup hr "")
      · rename_i hg
        have hS := z.awake hg rfl
        obtain ⟨e1, e2⟩ := hw
        subst e2
        exact ⟨_, by unfold Wakes; rw [z.rest _ hS, hg]; exact ⟨e1, rfl⟩, z, .refl⟩
      · rename_i hg
        have hS := z.awake hg rfl
        obtain ⟨e1, e2⟩ := hw
        subst e2
        exact ⟨_, by unfold Wakes; rw [z.rest _ hS, hg]; exact ⟨e1, rfl⟩, z, .refl⟩
    obtain ⟨s3, a, b, kk⟩ := key
    exact ⟨res, s3, a, ih res b (k.trans kk) h⟩
  | yield _ _ _ _ => intro Q E p s s1 s2 z k h; exact h
  | stack f ih => intro Q E p s s1 s2 z k h; exact ih _ z k h
  | fork _ _ => intro Q E p s s1 s2 z k h; exact h
  | thread f ih => intro Q E p s s1 s2 z k h; exact ih _ z k h
  | await _ _ _ _ _ => intro Q E p s s1 s2 z k h; exact h
end
def slp (s : Shared) : Nat → Prop := fun i => ∃ x, s.gens[i]? = some x ∧ asleep x = true
def numbAll (s : Shared) : Shared := { s with gens := s.gens.map numb }
theorem sim_all {s : Shared} : Sim (slp s) (numbAll s) s := by
  refine ⟨rfl, rfl, rfl, rfl, by simp [numbAll], fun i ⟨x, e, h⟩ => ⟨x, e, ?_, h⟩, fun i hi => ?_, fun i x hi e => ?_⟩
  · show (s.gens.map numb)[i]? = _
    rw [Array.getElem?_map, e]; rfl
  · show s.gens[i]? = (s.gens.map numb)[i]?
    rw [Array.getElem?_map]
    cases e : s.gens[i]? with
    | none => rfl
    | some x =>
      have : asleep x = false := by
        cases h : asleep x with
        | false => rfl
        | true => exact absurd ⟨x, e, h⟩ hi
      rw [Option.map_some, numb_awake this]
  · have e : (s.gens.map numb)[i]? = some x := e
    rw [Array.getElem?_map] at e
    obtain ⟨y, e1, e2⟩ := Option.map_eq_some_iff.mp e
    have : asleep y = false := by
      cases h : asleep y with
      | false => rfl
      | true => exact absurd ⟨y, e1, h⟩ hi
    rw [numb_awake this] at e2
    subst e2
    cases y <;> first | trivial | cases this
theorem numbAll_bare {s : Shared} (h : AllBare s.gens) : AllBare (numbAll s).gens := fun y hy => by
  obtain ⟨x, hx, rfl⟩ := Array.mem_map.mp hy
  exact numb_bare (h x hx)
def Kept (s s' : Shared) : Prop := ∀ (i : Nat) (x : GenState), s.gens[i]? = some x → asleep x = true → s'.gens[i]? = some x
theorem Kept.refl {s : Shared} : Kept s s := fun _ _ h _ => h
theorem Kept.trans {s s1 s2 : Shared} (a : Kept s s1) (b : Kept s1 s2) : Kept s s2 := fun i x e h => b i x (a i x e h) h
theorem Kept.gens {s s' : Shared} (h : s'.gens = s.gens) : Kept s s' := fun i x e _ => by rw [h]; exact e
theorem bare_of_sim {S : Nat → Prop} {s s2 s0 : Shared} (z : Sim S s0 s2) (hk : KeptAt S s s2) (h : AllBare s.gens) (h0 : AllBare s0.gens) : AllBare s2.gens := fun y hy => by
  obtain ⟨i, hi, e⟩ := Array.mem_iff_getElem.mp hy
  have e' : s2.gens[i]? = some y := by rw [Array.getElem?_eq_getElem hi, e]
  by_cases hS : S i
  · rw [hk i hS] at e'
    exact h y (Array.mem_of_getElem? e')
  · rw [z.rest i hS] at e'
    exact h0 y (Array.mem_of_getElem? e')
section
variable {X : Cx} {pn : List (Addr × Obj)} {σ : Sg} {H : Hp} {s s' : Shared}
theorem inv_regen (I : Inv X pn σ H s) (hh : s'.heap = s.heap) (ho : s'.os = s.os) (hb : AllBare s'.gens) : Inv X pn σ H s' :=
  ⟨I.ok, ho.trans I.os, hb, by rw [hh]; exact I.base, by rw [hh]; exact I.loc, by rw [hh]; exact I.cell, I.free, I.freeC, by rw [hh]; exact I.pin, by rw [hh]; exact I.hok, I.len⟩
end
end Cl
set_option maxHeartbeats 4000000
namespace Cl
open PySem PySem.Spec PyProof.Rows L2
def SegG (M : Model) (A : Around) (Φ : End → Shared → Prop) (c : Code) (t : Sem PySem.Fin) (fs : List Frame) (s : Shared) : Prop :=
  ∀ (Γ : PySem.Ctx) (p : Pos), Γ.code = c → Γ.Woken A → ∃ e s', Runs M Γ p t fs s e s' ∧ Φ e s'
structure Bs where
  A : Around
  s0 : Shared
  H0 : Hp
  ff : List (Addr × Obj)
  W1 : Wd
  o1 : List Addr
  H1 : Hp
abbrev GS.env (Z : GS) : Env := envOfC Z.qual Z.scope Z.L Z.f Z.cd
abbrev noE : XK := fun _ _ _ => False
abbrev gX (Z : GS) (b : Bs) : Cx := cxB Z.P Z.w Z.K Z.mg Z.base Z.N Z.qual Z.scope Z.f Z.cd b.A Z.outer b.s0 b.H0 noE
structure Live (Z : GS) (b : Bs) (hold : List (Addr × Obj)) (gk : List (Nat × GenState)) (st : ST) (W : Wd) (σ : Sg) (H : Hp) (s : Shared) : Prop where
  sz : b.s0.heap.objs.size = Z.L
  inv : Inv (gX Z b) (hold ++ b.ff) σ H s
  r : R Z.G W st σ H
  step : Step b.o1 b.W1 b.H1 (own W st σ) W H
  room : Room Z.k (b.A.deeper Z.env)
  gd : (b.A.deeper Z.env).guards = some []
  gen : Z.g < s.gens.size
  gk : ∀ p ∈ gk, s.gens[p.1]? = some p.2 ∧ p.1 ≠ Z.g ∧ asleep p.2 = true
  sep : ∀ p ∈ hold, ∀ q ∈ b.ff, p.1 ≠ q.1
  gt : ∀ p ∈ hold, Z.L < p.1
theorem Live.envEq {Z : GS} {b : Bs} (h : b.s0.heap.objs.size = Z.L) : (gX Z b).env = Z.env := by
  show envOfC Z.qual Z.scope b.s0.heap.objs.size Z.f Z.cd = _
  rw [h]
def Want (Z : GS) : List PV → Bs → End → Shared → Prop
  | [], b => fun e s => e = .ret (.ok (.ret .none)) ∧ ∃ hold st W σ H, Live Z b hold [] st W σ H s
  | y :: ys, b => fun e s => ∃ v l k c p fs hold st W σ H u, e = .susp v false l k c p fs ∧ fs.any Frame.guarded = false ∧ Live Z b hold [] st W σ H s ∧ Rep Z.G W.F y u ∧ RelV u v ∧
      ∀ b' W' H' s'', Live Z b' hold [] st W' σ H' s'' → Same W.F W'.F → SegG (model Z.P Z.w) b'.A (Want Z ys b') c (k (.send .none)) fs s''
abbrev Gm := ST → List PV × OutS
def flo : OutS → Option (ST × Flow)
  | .nx st => some (st, .next)
  | .bk st => some (st, .brk)
  | .ct st => some (st, .cont)
  | _ => none
structure GCode (Z : GS) (c : Code) (fs : List Frame) (gd : Bool → Bool) : Prop where
  over : ∀ A : Around, A.over c fs = A.deeper Z.env
  split : splitAtGen fs = none
  guard : fs.any Frame.guarded = false
  gd : gd false = false
structure YSs (Z : GS) (body : List Stmt) (g : Gm) : Prop where
  run : ∀ (rest : List PV) (c : Code) (fs : List Frame) (K : Flow → Sem PySem.Fin) (J : Value → Sem PySem.Fin) (gd : Bool → Bool) (lv : List Value → List Value) (hold : List (Addr × Obj)), GCode Z c fs gd →
    ∀ (st : ST) (b : Bs) (W : Wd) (σ : Sg) (H : Hp) (s : Shared), Live Z b hold [] st W σ H s → ∀ (st' : ST) (fl : Flow), flo (g st).2 = some (st', fl) →
    (∀ b' W' σ' H' s', Live Z b' hold [] st' W' σ' H' s' → Same W.F W'.F → SegG (model Z.P Z.w) b'.A (Want Z rest b') c (K fl) fs s') →
    SegG (model Z.P Z.w) b.A (Want Z ((g st).1 ++ rest) b) c ((execs body Z.env).wrap K J gd lv) fs s
structure YS1 (Z : GS) (x : Stmt) (g : Gm) : Prop where
  run : ∀ (rest : List PV) (c : Code) (fs : List Frame) (K : Flow → Sem PySem.Fin) (J : Value → Sem PySem.Fin) (gd : Bool → Bool) (lv : List Value → List Value) (hold : List (Addr × Obj)), GCode Z c fs gd →
    ∀ (st : ST) (b : Bs) (W : Wd) (σ : Sg) (H : Hp) (s : Shared), Live Z b hold [] st W σ H s → ∀ (st' : ST) (fl : Flow), flo (g st).2 = some (st', fl) →
    (∀ b' W' σ' H' s', Live Z b' hold [] st' W' σ' H' s' → Same W.F W'.F → SegG (model Z.P Z.w) b'.A (Want Z rest b') c (K fl) fs s') →
    SegG (model Z.P Z.w) b.A (Want Z ((g st).1 ++ rest) b) c ((exec x Z.env).wrap K J gd lv) fs s
section
variable {Z : GS} {x : Stmt} {xs : List Stmt}
def gNil : Gm := fun st => ([], .nx st)
def gSeq (g k : Gm) : Gm := fun st => match g st with
  | (ys, .nx st1) => (ys ++ (k st1).1, (k st1).2)
  | r => r
end
end Cl
set_option maxHeartbeats 4000000
namespace Cl
open PySem PySem.Spec PyProof.Rows L2
section
variable {Z : GS} {e : Expr} {ypos pos : Pos} {fe : Cm SV} {x : Stmt} {xs : List Stmt}
def gYield (fe : Cm SV) : Gm := fun st => match fe st with
  | .ok (.t p) st1 => ([p], .nx st1)
  | _ => ([], .stuck)
def gForL (tg : TgF) (g : Gm) : List PV → Gm
  | [], st => ([], .nx st)
  | p :: ps, st => match tg p with
    | none => ([], .stuck)
    | some l => match g (st.sets l) with
      | (ys, .nx st1) => (ys ++ (gForL tg g ps st1).1, (gForL tg g ps st1).2)
      | (ys, .ct st1) => (ys ++ (gForL tg g ps st1).1, (gForL tg g ps st1).2)
      | (ys, .bk st1) => (ys, .nx st1)
      | r => r
def gFor (fi : Cm (List PV)) (tg : TgF) (g : Gm) : Gm := fun st => match fi st with
  | .ok items st1 => gForL tg g items st1
  | _ => ([], .stuck)
theorem GCode.loop {c c' : Code} {fs : List Frame} {gd : Bool → Bool} {k : Result → Sem PySem.Fin} {l kp : List Value} {p : Pos} (gc : GCode Z c fs gd) (hw : c'.weight = 0) (hu : c'.cUnits = 0) : GCode Z c' (.ret k none (gd false) l c p kp :: fs) id where
  over := fun A => (GenW.over_loop hw hu).trans (gc.over A)
  split := by
    show (splitAtGen fs).map _ = none
    rw [gc.split]; rfl
  guard := by
    show (gd false || fs.any Frame.guarded) = false
    rw [gc.gd, gc.guard]; rfl
  gd := rfl
structure FpG (Z : GS) (hold : List (Addr × Obj)) (fp : List Addr) : Prop where
  ge : ∀ a ∈ fp, Z.L < a
  nfs : ∀ a ∈ fp, a ∉ frs Z.outer
  cell : ∀ a ∈ fp, ∀ x c, Z.env.cells.lookup x = some c → c ≠ a
  hold : ∀ a ∈ fp, ∀ p ∈ hold, p.1 ≠ a
theorem FpG.ok {hold gk st W σ H s} {b : Bs} {fp : List Addr} (F : FpG Z hold fp) (hl : Live Z b hold gk st W σ H s) (hn : ∀ a ∈ fp, H a = none) (hf : ∀ a ∈ fp, ∀ p ∈ b.ff, p.1 ≠ a) : ∀ a ∈ fp, FpOk (gX Z b) (hold ++ b.ff) H a := fun a ha => by
  have ee := Live.envEq hl.sz
  refine ⟨hn a ha, ?_, F.nfs a ha, .inr ?_, ?_, fun p hp => ?_⟩
  · rw [ee]; exact Nat.ne_of_gt (F.ge a ha)
  · show b.s0.heap.objs.size ≤ a
    rw [hl.sz]; exact Nat.le_of_lt (F.ge a ha)
  · rw [ee]; exact F.cell a ha
  · rcases List.mem_append.mp (show p ∈ hold ++ b.ff from hp) with h | h
    · exact F.hold a ha p h
    · exact hf a ha p h
theorem Live.hold {hold hold2 : List (Addr × Obj)} {gk st W σ H s} {b : Bs} (hl : Live Z b hold gk st W σ H s) (h : ∀ p ∈ hold2, p ∈ hold) : Live Z b hold2 gk st W σ H s :=
  ⟨hl.sz, hl.inv.pins_of fun p hp => hl.inv.pin p (List.mem_append_right _ ((List.mem_append.mp hp).elim (fun z => List.mem_append_left _ (h p z)) fun z => List.mem_append_right _ z)), hl.r, hl.step, hl.room, hl.gd, hl.gen, hl.gk, fun p hp => hl.sep p (h p hp), fun p hp => hl.gt p (h p hp)⟩
theorem Live.at {hold gk st W σ H s} {b : Bs} {c : Code} {fs : List Frame} {gd : Bool → Bool} (hl : Live Z b hold gk st W σ H s) (gc : GCode Z c fs gd) : b.A.over c fs = (gX Z b).A := by
  rw [gc.over]
  show b.A.deeper Z.env = b.A.deeper (gX Z b).env
  rw [Live.envEq hl.sz]
end
end Cl
set_option maxHeartbeats 4000000
namespace Cl
open PySem PySem.Spec PyProof.Rows L2
def hcut (h : Heap) (L : Nat) : Heap := { h with objs := h.objs.extract 0 L }
theorem hcut_size {h : Heap} {L : Nat} (hl : L ≤ h.objs.size) : (hcut h L).objs.size = L := by
  show (h.objs.extract 0 L).size = L
  rw [Array.size_extract]; omega
theorem hcut_get {h : Heap} {L b : Nat} (hb : b < L) (hl : L ≤ h.objs.size) : (hcut h L).get? b = h.get? b := by
  unfold Heap.get? hcut
  simp only
  rw [Array.getElem?_extract, if_pos (by omega), Nat.zero_add]
theorem hcut_lt {h : Heap} {L b : Nat} {o : Obj} (hl : L ≤ h.objs.size) (e : (hcut h L).get? b = some o) : b < L := by
  have := Heap.lt_size e
  rwa [hcut_size hl] at this
structure GOk (Z : GS) : Prop where
  kind : Z.scope.kind = .function
  names : ∀ x, Z.scope.names.lookup x ≠ some .cell ∧ Z.scope.names.lookup x ≠ some .free
  cells : ∀ x, Z.env.cells.lookup x = none
  bsz : Z.base.objs.size ≤ Z.L
  lt : ∀ b ∈ frs Z.outer, b < Z.L
  mod : Mod Z.K Z.mg Z.base
structure Nap (Z : GS) (σ : Sg) (o : Obj) : Prop where
  ns : ∀ h : Heap, h.get? Z.L = some o → ∃ m, h.Ns Z.L m ∧ ∀ (i : Nat) (x : PySem.Str) (v : V), Z.N[i]? = some x → σ[i]? = some (some v) → Vis Z.scope x → ∃ u, RelV v u ∧ Z.env.kindOf x = some .local ∧ m x = some u
  len : σ.length = Z.N.length
  nc : ∀ v, o.data ≠ .cell v
section
variable {Z : GS} {b : Bs} {hold : List (Addr × Obj)} {gk : List (Nat × GenState)} {st : ST} {W : Wd} {σ : Sg} {H : Hp} {s : Shared}
theorem nap_of (ok : GOk Z) (hl : Live Z b hold gk st W σ H s) : ∃ o, s.heap.get? Z.L = some o ∧ Nap Z σ o := by
  have ee := Live.envEq hl.sz
  obtain ⟨m, hn, hm⟩ := hl.inv.loc
  have eL : (gX Z b).env.locals = Z.L := by rw [ee]; rfl
  rw [eL] at hn
  obtain ⟨o, es, ep, ho, hd, hr⟩ := id hn
  refine ⟨o, ho, fun h e => ⟨m, ?_, fun i x v h1 h2 h3 => ?_⟩, hl.inv.len, fun v z => ?_⟩
  · exact ⟨o, es, ep, e, hd, hr⟩
  · have h3' : Vis (gX Z b).env.scope x := by rw [ee]; exact h3
    obtain ⟨u, ru, q⟩ := hm i x v h1 h2 h3'
    refine ⟨u, ru, ?_⟩
    rw [ee] at q
    rcases q with q | ⟨_, c, e1, _⟩
    · exact q
    · have := ok.cells x
      rw [e1] at this; cases this
  · rw [hd] at z; cases z
abbrev wakeB (Z : GS) (A : Around) (s : Shared) (H : Hp) (ff : List (Addr × Obj)) (W : Wd) (o1 : List Addr) : Bs := ⟨A, { s with heap := hcut s.heap Z.L }, fun b => if b < Z.L then H b else none, ff, W, o1, H⟩
theorem wake {A : Around} {ff : List (Addr × Obj)} {o : Obj} (ok : GOk Z) (e0 : Env0 Z.P Z.w Z.K Z.mg Z.base A Z.outer s H) (room : Room Z.k (A.deeper Z.env)) (hd : A.handled = none) (gd : (A.deeper Z.env).guards = some [])
    (hL : s.heap.get? Z.L = some o) (hn : H Z.L = none) (np : Nap Z σ o) (pins : ∀ p ∈ hold ++ ff, s.heap.get? p.1 = some p.2 ∧ H p.1 = none ∧ p.1 ≠ Z.L ∧ p.1 ∉ frs Z.outer ∧ ∀ v, p.2.data ≠ .cell v) (r : R Z.G W st σ H)
    (gen : Z.g < s.gens.size) (hg : ∀ p ∈ gk, s.gens[p.1]? = some p.2 ∧ p.1 ≠ Z.g ∧ asleep p.2 = true) (sep : ∀ p ∈ hold, ∀ q ∈ ff, p.1 ≠ q.1) (gt : ∀ p ∈ hold, Z.L < p.1) :
    Live Z (wakeB Z A s H ff W (own W st σ)) hold gk st W σ H s := by
  have hsz : Z.L ≤ s.heap.objs.size := Nat.le_of_lt (Heap.lt_size hL)
  have sz : (wakeB Z A s H ff W (own W st σ)).s0.heap.objs.size = Z.L := hcut_size hsz
  have ee := Live.envEq (Z := Z) (b := wakeB Z A s H ff W (own W st σ)) sz
  have kx : ∀ x, (gX Z (wakeB Z A s H ff W (own W st σ))).env.cells.lookup x = none := fun x => by rw [ee]; exact ok.cells x
  have hcell : ∀ x c, (gX Z (wakeB Z A s H ff W (own W st σ))).env.cells.lookup x = some c → False := fun x c e => by rw [kx x] at e; cases e
  refine ⟨sz, ⟨⟨ok.mod, by rw [ee]; exact ok.kind, rfl, rfl, ?_, fun x y c h _ => (hcell x c h).elim, fun x h => ?_, fun x c _ h => (hcell x c h).elim, fun _ => hd, Around.frames_deeper e0.frames, .inr ⟨rfl, rfl⟩, (fun c z => absurd (show c ∈ ([] : List Addr) from z) (by simp)),
    fun c u z => ?_, ?_, (fun c u _ z => absurd (show c ∈ ([] : List Addr) from z) (by simp)), (fun c z => absurd (show c ∈ ([] : List Addr) from z) (by simp)), ?_, fun c z => ?_⟩,
    rfl, e0.bare, ?_, ?_, fun x c h => (hcell x c h).elim, ?_, fun x c h => (hcell x c h).elim, fun p hp => ?_, e0.hok, np.len⟩, r, Step.refl, room, gd, gen, hg, sep, gt⟩
  · show (hcut s.heap Z.L).objs.size ≤ (gX Z (wakeB Z A s H ff W (own W st σ))).env.locals
    rw [ee, hcut_size hsz]; exact Nat.le_refl _
  · rw [ee] at h
    obtain ⟨n1, n2⟩ := ok.names x
    rcases h with h | h
    · exact absurd h n1
    · exact absurd h n2
  · have hlt : c < Z.L := Nat.lt_of_lt_of_le (Heap.lt_size z) ok.bsz
    obtain ⟨q1, q2⟩ := e0.bs c u z
    exact ⟨(hcut_get hlt hsz).trans q1, by show (if c < Z.L then H c else none) = none; rw [if_pos hlt]; exact q2⟩
  · show Z.base.objs.size ≤ (hcut s.heap Z.L).objs.size
    rw [hcut_size hsz]; exact ok.bsz
  · have all : ∀ l : List Env, (∀ c ∈ frs l, c < Z.L) → s.heap.FunFrames Z.base l → (hcut s.heap Z.L).FunFrames Z.base l := by
      intro l
      induction l with
      | nil => intro _ _; trivial
      | cons env r ih =>
        intro hs hl
        obtain ⟨hk, ⟨Lx, ox, hf, hnn, ho, hdd⟩, hr⟩ := hl
        have hmem : Lx ∈ frs (env :: r) := by unfold frs; rw [List.filterMap_cons, hf]; exact List.mem_cons_self ..
        refine ⟨hk, ⟨Lx, ox, hf, hnn, (hcut_get (hs Lx hmem) hsz).trans ho, hdd⟩, ih (fun c hc => hs c ?_) hr⟩
        unfold frs at hc ⊢; rw [List.filterMap_cons, hf]; exact List.mem_cons_of_mem _ hc
    exact all Z.outer ok.lt e0.funs
  · show (if c < Z.L then H c else none) = none
    rw [if_pos (ok.lt c z)]; exact e0.frf c z
  · have hb : ∀ {c u}, (hcut s.heap Z.L).get? c = some u → c < Z.L ∧ s.heap.get? c = some u := fun {c u} q => by
      have hlt := hcut_lt hsz q
      exact ⟨hlt, (hcut_get hlt hsz).symm.trans q⟩
    have hH : ∀ {c u}, (if c < Z.L then H c else none) = some u → H c = some u := fun {c u} q => by
      split at q
      · exact q
      · cases q
    refine ⟨fun c u q _ _ _ => (hb q).2, fun c u q _ _ _ => ⟨u.slots, (hb q).2⟩, fun c u q n _ => ?_, fun c u q _ => ⟨u, (hb q).2⟩, fun c xs q => hH q, fun c u v q => hH q, fun c ps q => ⟨#[], by rw [hH q]; simp⟩⟩
    have n : (if c < Z.L then H c else none) = none := n
    rw [if_pos (hb q).1] at n; exact n
  · obtain ⟨m, hm, q⟩ := np.ns s.heap hL
    refine ⟨m, ?_, fun i x v h1 h2 h3 => ?_⟩
    · rw [ee]; exact hm
    · have h3' : Vis Z.scope x := by have := h3; rw [ee] at this; exact this
      obtain ⟨u, ru, z⟩ := q i x v h1 h2 h3'
      exact ⟨u, ru, .inl (by rw [ee]; exact z)⟩
  · rw [ee]; exact hn
  · obtain ⟨q1, q2, q3, q4, q5⟩ := pins p hp
    exact ⟨q1, q2, by rw [ee]; exact q3, q4, q5⟩
theorem own_mut (r : R Z.G W st σ H) : ∀ a ∈ own W st σ, Mut (H a) := by
  have one : ∀ {c : MC} {a : Addr}, RepM Z.G W.F H c a → Mut (H a) := fun {c a} m => by
    cases c with
    | lst xs => obtain ⟨vs, e, _⟩ := m; rw [e]; trivial
    | lsA b xs => obtain ⟨_, vs, e, _⟩ := m; rw [e]; trivial
    | dct xs => obtain ⟨vs, e, _⟩ := m; rw [e]; trivial
    | dtp xs => obtain ⟨vs, e, _⟩ := m; rw [e]; trivial
    | dtn xs => obtain ⟨vs, e, _⟩ := m; rw [e]; trivial
    | obj c xs => obtain ⟨dx, vs, e, _⟩ := m; rw [e]; trivial
    | tbl _ q => obtain ⟨_, ps, e, _⟩ := m; rw [e]; trivial
  have inh : ∀ {cs : List MC} {as : List Addr}, RepMs Z.G W.F H cs as → ∀ a ∈ as, Mut (H a) := by
    intro cs
    induction cs with
    | nil => intro as m a h; cases as with
      | nil => cases h
      | cons _ _ => exact m.elim
    | cons c cs ih => intro as m a h; cases as with
      | nil => exact m.elim
      | cons b as =>
        obtain ⟨m1, m2⟩ := m
        rcases List.mem_cons.mp h with e | e
        · rw [e]; exact one m1
        · exact ih m2 a e
  have loc : ∀ {ls : List (Option SL)} {vs : Sg}, RepLoc Z.G W H ls vs → ∀ a ∈ owned ls vs, Mut (H a) := by
    intro ls
    induction ls with
    | nil => intro vs _ a h; cases vs <;> cases h
    | cons l ls ih =>
      intro vs m a h
      cases vs with
      | nil => cases l <;> exact m.elim
      | cons v vs =>
        rw [owned_cons] at h
        cases l with
        | none =>
          have h : a ∈ owned ls vs := by simpa [con] using h
          exact ih m a h
        | some y =>
          cases v with
          | none => exact m.elim
          | some v =>
            obtain ⟨m1, m2⟩ := m
            rcases List.mem_append.mp h with e | e
            · cases y with
              | m c =>
                obtain ⟨a', rfl, k⟩ := m1
                have : a = a' := by simpa [con] using e
                rw [this]; exact one k
              | t p => simp [con] at e
              | i n => simp [con] at e
            · exact ih m2 a e
  intro a h
  rcases List.mem_append.mp h with h | h
  · exact loc r.loc a h
  · exact inh r.inh a h
theorem backFo {X : Cx} {pins fx : List (Addr × Obj)} {σc : Sg} {H0 H' : Hp} {s0 s' : Shared} {A : Around} {hold' : List (Addr × Obj)} {gk' : List (Nat × GenState)} {st' : ST} {W' : Wd} {σ' : Sg} (ok : GOk Z) (I : Inv X pins σc H0 s0) (ho : Z.outer = X.stack) (hP : Z.P = X.prog) (hw : Z.w = X.w)
    (hs0 : X.s_0.heap.objs.size ≤ Z.L) (hloc : X.env.locals < Z.L ∨ ∃ o, (X.env.locals, o) ∈ fx) (hfx : ∀ p ∈ fx, s0.heap.get? p.1 = some p.2 ∧ H0 p.1 = none) (hcells : ∀ x c, X.env.cells.lookup x = some c → c < Z.L) (hsz : Z.L ≤ s0.heap.objs.size)
    {o1 : List Addr} (mu : ∀ c ∈ o1, Mut (H0 c)) (hl : Live Z (wakeB Z A s0 H0 ((X.pn ++ pins) ++ fx) W o1) hold' gk' st' W' σ' H' s') : Inv X pins σc H' s' := by
  have J := hl.inv
  have jb : Un (frs Z.outer) [] (fun b => if b < Z.L then H0 b else none) H' (hcut s0.heap Z.L) s'.heap := J.base
  have keepT : ∀ {c u}, H0 c = some u → ¬ Mut (some u) → H' c = some u := fun {c u} q nm => hl.step.keep c u q fun hm => nm (by have := mu c hm; rw [q] at this; exact this)
  obtain ⟨ch, hch⟩ : ∃ ch : List Addr, ch = (List.range s0.heap.objs.size).filter fun b => decide (Z.L ≤ b) && !(((X.pn ++ pins) ++ fx).any fun p => decide (p.1 = b)) := ⟨_, rfl⟩
  have pinned : ∀ {c u}, s0.heap.get? c = some u → Z.L ≤ c → c ∉ ch → ∃ p ∈ (X.pn ++ pins) ++ fx, p.1 = c ∧ p.2 = u := fun {c u} q hc hn => by
    rw [hch] at hn
    have : (((X.pn ++ pins) ++ fx).any fun p => decide (p.1 = c)) = true := by
      cases e : ((X.pn ++ pins) ++ fx).any fun p => decide (p.1 = c) with
      | true => rfl
      | false => exact absurd (List.mem_filter.mpr ⟨List.mem_range.mpr (Heap.lt_size q), by rw [e]; simp [hc]⟩) hn
    obtain ⟨p, hp, e⟩ := List.any_eq_true.mp this
    have e := of_decide_eq_true e
    have : s0.heap.get? p.1 = some p.2 := (List.mem_append.mp hp).elim (fun z => (I.pin p z).1) fun z => (hfx p z).1
    rw [e, q] at this
    exact ⟨p, hp, e, (Option.some.inj this).symm⟩
  have still : ∀ {p}, p ∈ (X.pn ++ pins) ++ fx → s'.heap.get? p.1 = some p.2 ∧ H' p.1 = none := fun {p} hp => by
    obtain ⟨q1, q2, _⟩ := J.pin p (List.mem_append_right _ (List.mem_append_right _ hp))
    exact ⟨q1, q2⟩
  have low : ∀ {c u}, s0.heap.get? c = some u → c < Z.L → (hcut s0.heap Z.L).get? c = some u := fun {c u} q hc => (hcut_get hc hsz).trans q
  refine I.call' (ch := ch) J.os ⟨fun c u q n hf hx => ?_, fun c u q n hf hx => ?_, fun c u q n hx => ?_, fun c u q hx => ?_, fun c xs q => keepT q (fun z => z), fun c u v q => keepT q (fun z => z), fun c ps q => ⟨#[], by rw [keepT q (fun z => z)]; simp⟩⟩ (by rw [← hP, ← hw]; exact J.hok) J.bare fun c hc => ?_
  · by_cases hc : c < Z.L
    · exact jb.keep c u (low q hc) (by rw [if_pos hc]; exact n) (by rw [ho]; exact hf) (by simp)
    · obtain ⟨p, hp, e1, e2⟩ := pinned q (Nat.le_of_not_lt hc) hx
      have := (still hp).1
      rw [e1, e2] at this; exact this
  · by_cases hc : c < Z.L
    · exact jb.slot c u (low q hc) (by rw [if_pos hc]; exact n) (by rw [ho]; exact hf) (by simp)
    · obtain ⟨p, hp, e1, e2⟩ := pinned q (Nat.le_of_not_lt hc) hx
      have := (still hp).1
      rw [e1, e2] at this
      exact ⟨u.slots, this⟩
  · by_cases hc : c < Z.L
    · exact jb.free c u (low q hc) (by rw [if_pos hc]; exact n) (by simp)
    · obtain ⟨p, hp, e1, e2⟩ := pinned q (Nat.le_of_not_lt hc) hx
      have := (still hp).2
      rw [e1] at this; exact this
  · by_cases hc : c < Z.L
    · exact jb.there c u (low q hc) (by simp)
    · obtain ⟨p, hp, e1, e2⟩ := pinned q (Nat.le_of_not_lt hc) hx
      have := (still hp).1
      rw [e1] at this
      exact ⟨_, this⟩
  · rw [hch] at hc
    obtain ⟨h1, h2⟩ := List.mem_filter.mp hc
    rw [Bool.and_eq_true] at h2
    have hge : Z.L ≤ c := of_decide_eq_true h2.1
    refine ⟨.inr ?_, fun e => ?_, fun x d e z => ?_, fun p hp z => ?_⟩
    · exact Nat.le_trans hs0 hge
    · rcases hloc with z | ⟨o, z⟩
      · rw [e] at hge; exact absurd (Nat.lt_of_lt_of_le z hge) (Nat.lt_irrefl _)
      · have : (((X.pn ++ pins) ++ fx).any fun p => decide (p.1 = c)) = true := List.any_eq_true.mpr ⟨_, List.mem_append_right _ z, decide_eq_true e.symm⟩
        rw [this] at h2
        exact absurd h2.2 (by simp)
    · rw [← z] at hge; exact absurd (Nat.lt_of_lt_of_le (hcells x d e) hge) (Nat.lt_irrefl _)
    · have : (((X.pn ++ pins) ++ fx).any fun p => decide (p.1 = c)) = true := List.any_eq_true.mpr ⟨p, List.mem_append_left _ hp, decide_eq_true z⟩
      rw [this] at h2
      exact absurd h2.2 (by simp)
end
end Cl
set_option maxHeartbeats 4000000
namespace Cl
open PySem PySem.Spec PyProof.Rows L2
section
variable {M : Model} {A : Around} {s : Shared} {g : Nat} {gs : GenState} {α : Type} {E : Value → Shared → Prop} {Q : α → Shared → Prop}
def GoesG (M : Model) (A : Around) (Φ : End → Shared → Prop) : GenState → Shared → Prop
  | .fresh c => fun s => SegG M A Φ c (M.den c) [] s
  | .suspended k _ c _ fs _ => fun s => SegG M A Φ c (k (.send .none)) fs s
  | _ => fun _ => False
theorem resume_g {Φ : End → Shared → Prop} {l : List Value} {k : GenResult → Sem α} (hg : s.gens[g]? = some gs) (hgo : GoesG M A Φ gs (s.setGen g .running))
    (hk : ∀ e s₁, Φ e s₁ → e.quiet = true ∧ wpAny M A (k e.result) Q E (s₁.setGen g e.genState)) : wpAny M A (.resume g (.send .none) l k) Q E s := by
  intro Γ p hΓ
  rw [Sem.wp_resume]
  cases gs with
  | fresh c =>
    obtain ⟨e, s₁, hr, he⟩ := hgo (Γ.wake c p) p rfl (hΓ.wake c p)
    obtain ⟨q1, q2⟩ := hk e s₁ he
    exact ⟨_, _, by unfold Wakes; rw [hg]; exact ⟨e, s₁, hr, q1, rfl, rfl⟩, q2 Γ p hΓ⟩
  | suspended k₀ l₀ c₀ p₀ fs₀ cl =>
    obtain ⟨e, s₁, hr, he⟩ := hgo (Γ.wake c₀ p) p₀ rfl (hΓ.wake c₀ p)
    obtain ⟨q1, q2⟩ := hk e s₁ he
    exact ⟨_, _, by unfold Wakes; rw [hg]; exact ⟨e, s₁, hr, q1, rfl, rfl⟩, q2 Γ p hΓ⟩
  | running => exact hgo.elim
  | finished => exact hgo.elim
end
def GenAt (h : Heap) (a : Addr) (g : Nat) : Prop :=
  ∃ o nm qn, h.get? a = some o ∧ o.cls = .type "generator" ∧ o.data = .fields #[.int g 0, nm, qn] ∧ (o.slots = #[] ∨ o.slots = #[some (.int 0 0)])
theorem GenAt.of {h : Heap} {a : Addr} {g : Nat} (x : h.IsGen a g) : GenAt h a g := by
  obtain ⟨o, nm, qn, h1, h2, h3, h4⟩ := x
  exact ⟨o, nm, qn, h1, h2, h3, .inl h4⟩
theorem GenAt.typeIs {s : Shared} {a : Addr} {g : Nat} (x : GenAt s.heap a g) : s.TypeIs (.ref a) "generator" := let ⟨o, _, _, ho, hc, _⟩ := x; ⟨o, ho, hc⟩
theorem wpAny_genNumberAt {M : Model} {A : Around} {E : Value → Shared → Prop} {s : Shared} {a : Addr} {g : Nat} {Q : Nat → Shared → Prop} (hg : GenAt s.heap a g) (h : Q g s) : wpAny M A (Builtin.Generator.genNumber (.ref a)) Q E s := by
  obtain ⟨o, nm, qn, ho, _, hd, hsl⟩ := hg
  unfold Builtin.Generator.genNumber
  refine wpAny_bind (wpAny_load ho ?_)
  rcases hsl with hsl | hsl <;>
  · rw [hsl, hd]
    show wpAny M A (pure ((g : Int).toNat)) Q E s
    rw [Int.toNat_natCast]; exact wpAny_pure h
section
variable {P : Program} {w : World} {A : Around} {E : Value → Shared → Prop} {s : Shared}
abbrev StopS (M : Model) (A : Around) (a : Addr) (s : Shared) (Q : Option Value → Shared → Prop) : Prop :=
  wpAny M A (callSpecial? (.ref a) "__next__") (fun r s' => ∃ v, r = some v ∧ Q (some v) s') (fun e s' => ∃ ad o, e = .ref ad ∧ s'.heap.get? ad = some o ∧ o.cls = .type "StopIteration" ∧ (∃ vs, o.data = .fields vs ∧ vs[5]? = some .none) ∧ Q none s') s
theorem nextS_g {a : Addr} {g : Nat} {gs : GenState} {Φ : End → Shared → Prop} {Q : Option Value → Shared → Prop} (hh : A.handled = none) (hl : s.heap.NoLimit) (hroom : A.depth < recursionLimit) (hg : GenAt s.heap a g) (hgs : s.gens[g]? = some gs)
    (hgo : GoesG (model P w) A.in1 Φ gs (s.setGen g .running))
    (hQ : ∀ e s₁, Φ e s₁ → (e = .ret (.ok (.ret .none)) ∧ ∀ h', (∀ b o, s₁.heap.get? b = some o → h'.get? b = some o) → Q none { s₁.setGen g .finished with heap := h' }) ∨
      ∃ v l k c p fs, e = .susp v false l k c p fs ∧ fs.any Frame.guarded = false ∧ Q (some v) (s₁.setGen g (.suspended k l c p fs false))) :
    StopS (model P w) A a s Q := by
  unfold StopS
  refine (wpAny_callSpecial?_slot (name := PySem.Str.ofString "__next__") hg.typeIs slot_gen_next
    (wpAny_call_entry slot_gen_next hg.typeIs entry_gen_next ?_ (args_gen_next _)))
  show wpAny _ A.in1 (Builtin.Generator.genWake (.ref a) (.send .none)) _ _ s
  unfold Builtin.Generator.genWake
  refine wpAny_bind (wpAny_holding (wpAny_genNumberAt hg (wpAny_bind (wpAny_genState hgs ?_))))
  cases gs with
  | running => exact hgo.elim
  | finished => exact hgo.elim
  | _ =>
    refine wpAny_bind (wpAny_roomToWake hl hroom ?_)
    show wpAny _ A.in1 (.resume g (.send .none) [] _) _ _ s
    refine resume_g hgs hgo fun e s₁ he => ?_
    rcases hQ e s₁ he with ⟨rfl, hend⟩ | ⟨v, l, k, c, p, fs, rfl, hfg, hq⟩
    · refine ⟨rfl, ?_⟩
      show wpAny _ A.in1 (newExc (.type "StopIteration") [] >>= _) _ _ _
      refine wpAny_bind ?_
      simp only [newExc, newTuple]
      refine wpAny_bind (wpAny_newObj_type ?_ (by size_fits))
      refine wpAny_bind (m := firstArgMember _ _) (wpAny_of_eq (a := Value.none) (by first | rfl | (simp only [firstArgMember]; rfl)) ?_)
      refine wpAny_newObj_type ?_ (by size_fits)
      simp only [raiseNew]
      refine wpAny_bind (wpAny_bind (wpAny_handled ?_))
      first | rw [show A.in1.handled = none from hh] | rw [hh]
      refine wpAny_throw ?_
      exact ⟨_, _, rfl, Heap.get?_push_size _ rfl, rfl, ⟨_, rfl, by first | rfl | (rw [Array.getElem?_append_left (by decide)]; rfl)⟩, hend _ fun b o hb => Heap.get?_push_of_some _ (Heap.get?_push_of_some _ hb)⟩
    · refine ⟨by show (!(false || fs.any Frame.guarded)) = true; rw [hfg]; rfl, ?_⟩
      have eg : (End.susp v false l k c p fs).genState = .suspended k l c p fs false := by
        show GenState.suspended k l c p fs (false || fs.any Frame.guarded) = _
        rw [hfg]; rfl
      rw [eg]
      exact wpAny_pure ⟨v, rfl, v, rfl, hq⟩
end
abbrev Doze.pins (D : Doze) : List (Addr × Obj) := (D.a, D.go) :: (D.Z.L, D.oL) :: D.hold
abbrev Doze.gens (D : Doze) : List (Nat × GenState) := (D.Z.g, D.gs) :: D.gk
structure Dozes (D : Doze) (ys : List PV) : Prop where
  ok : GOk D.Z
  nap : Nap D.Z D.σ D.oL
  isg : ∀ h : Heap, h.get? D.a = some D.go → GenAt h D.a D.Z.g
  nc : ∀ v, D.go.data ≠ .cell v
  ncH : ∀ p ∈ D.hold, ∀ v, p.2.data ≠ .cell v
  aL : D.a ≠ D.Z.L
  hL : ∀ p ∈ D.hold, p.1 ≠ D.Z.L ∧ p.1 ≠ D.a
  gt : D.Z.L < D.a ∧ ∀ p ∈ D.hold, D.Z.L < p.1
  gkn : ∀ p ∈ D.gk, p.1 ≠ D.Z.g ∧ asleep p.2 = true
  gk0 : D.gk = []
  goes : ∀ (b : Bs) (W : Wd) (H : Hp) (s : Shared), Live D.Z b D.hold D.gk D.st W D.σ H s → Same D.F W.F → GoesG (model D.Z.P D.Z.w) b.A (fun e s' => Want D.Z ys b e s') D.gs s
structure DozeAt (D : Doze) (F H : Hp) (s : Shared) : Prop where
  pins : ∀ p ∈ D.pins, s.heap.get? p.1 = some p.2 ∧ H p.1 = none
  gens : ∀ q ∈ D.gens, s.gens[q.1]? = some q.2
  r : R D.Z.G ⟨F, []⟩ D.st D.σ H
  le : Same D.F F
structure Serves (Z : GS) (X : Cx) : Prop where
  prog : Z.P = X.prog
  w : Z.w = X.w
  K : Z.K = X.K
  mg : Z.mg = X.mg
  base : Z.base = X.base
  outer : Z.outer = X.stack
  loc : X.env.locals < Z.L
  cells : ∀ x c, X.env.cells.lookup x = some c → c < Z.L
theorem Step.frame {o o' q : List Addr} {W W' : Wd} {H H' : Hp} (s : Step o W H o' W' H') : Step (o ++ q) W H (o' ++ q) W' H' :=
  ⟨s.f, s.a, fun b => (s.nf b).imp_right fun h => h.imp_right fun h => List.mem_append_left _ h, fun b h => by
    rcases List.mem_append.mp h with h | h
    · exact (s.no b h).imp_left fun h => List.mem_append_left _ h
    · exact .inl (List.mem_append_right _ h), fun b u e h => s.keep b u e fun z => h (List.mem_append_left _ z)⟩
theorem Step.frameL {o o' q : List Addr} {W W' : Wd} {H H' : Hp} (s : Step o W H o' W' H') : Step (q ++ o) W H (q ++ o') W' H' :=
  ⟨s.f, s.a, fun b => (s.nf b).imp_right fun h => h.imp_right fun h => List.mem_append_right _ h, fun b h => by
    rcases List.mem_append.mp h with h | h
    · exact .inl (List.mem_append_left _ h)
    · exact (s.no b h).imp_left fun h => List.mem_append_right _ h, fun b u e h => s.keep b u e fun z => h (List.mem_append_right _ z)⟩
theorem Step.worlds {o o' : List Addr} {W W' V V' : Wd} {H H' : Hp} (s : Step o W H o' W' H') (e1 : V.F = W.F) (e2 : V'.F = W'.F) (e3 : V'.A = V.A) : Step o V H o' V' H' :=
  ⟨by rw [e1, e2]; exact s.f, e3, fun b => by rw [e1, e2]; exact s.nf b, s.no, s.keep⟩
theorem R.grow' {G : Gd} {W : Wd} {st : ST} {σ : Sg} {H H' F' : Hp} (r : R G W st σ H) (f : Same W.F F') (h : ∀ b u, H b = some u → b ∈ own W st σ → H' b = some u) (l : Same F' H') (n : ∀ b ∈ own W st σ, F' b = none) : R G ⟨F', W.A⟩ st σ H' :=
  ⟨l, RepMs.mono f (fun a ha u e => h a u e (List.mem_append_right _ ha)) r.inh, RepLoc.mono f (fun a ha u e => h a u e (List.mem_append_left _ ha)) r.loc, r.nd, n⟩
theorem frs_stack {X : Cx} {pins : List (Addr × Obj)} {σ : Sg} {H : Hp} {s : Shared} (I : Inv X pins σ H s) : (∀ b ∈ X.fs, b ∈ frs X.stack) := fun b hb => by
  rcases I.ok.stk with e | ⟨e, hf⟩
  · rw [e]; exact hb
  · rw [e]; unfold frs; rw [List.filterMap_cons, hf]; exact List.mem_cons_of_mem _ hb
theorem setGen_other {s : Shared} {g i : Nat} {x : GenState} (h : i ≠ g) : (s.setGen g x).gens[i]? = s.gens[i]? := by
  show (s.gens.setIfInBounds g x)[i]? = _
  exact Array.getElem?_setIfInBounds_ne (Ne.symm h)
structure ServesF (Z : GS) (X : Cx) (fx : List (Addr × Obj)) : Prop where
  prog : Z.P = X.prog
  w : Z.w = X.w
  K : Z.K = X.K
  mg : Z.mg = X.mg
  base : Z.base = X.base
  outer : Z.outer = X.stack
  s0 : X.s_0.heap.objs.size ≤ Z.L
  loc : X.env.locals < Z.L ∨ ∃ o, (X.env.locals, o) ∈ fx
  cells : ∀ x c, X.env.cells.lookup x = some c → c < Z.L
def NextQ (X : Cx) (pins : List (Addr × Obj)) (σc : Sg) (D : Doze) (W : Wd) (stc : ST) (H : Hp) (Gg : Gd) : List PV → Option Value → Shared → Prop
  | [], r, s' => r = none ∧ ∃ W' H', Inv X pins σc H' s' ∧ R Gg W' stc σc H' ∧ Step (own W stc σc ++ D.own) W H (own W' stc σc) W' H'
  | y :: ys, r, s' => ∃ v D' W' H' x, r = some v ∧ RelV x v ∧ Rep Gg W'.F y x ∧ Dozes D' ys ∧ D'.Z = D.Z ∧ D'.a = D.a ∧ D'.go = D.go ∧ asleep D'.gs = true ∧ Inv X (pins ++ D'.pins) σc H' s' ∧ R Gg W' stc σc H' ∧ Step (own W stc σc ++ D.own) W H (own W' stc σc ++ D'.own) W' H' ∧
      DozeAt D' W'.F H' s' ∧ (∀ p ∈ X.pn ++ pins, ∀ q ∈ D'.pins, p.1 ≠ q.1) ∧ ∀ b ∈ D'.own, b ∉ own W' stc σc
theorem next_dozeT {X : Cx} {T : (Option Value → Shared → Prop) → Prop} {pins fx : List (Addr × Obj)} {σc : Sg} {H : Hp} {s : Shared} {W : Wd} {stc : ST} {D : Doze} {ys : List PV} (d : Dozes D ys) (sv : ServesF D.Z X fx) (hfx : ∀ p ∈ fx, s.heap.get? p.1 = some p.2 ∧ H p.1 = none ∧ p.1 ∉ frs X.stack ∧ (∀ v, p.2.data ≠ .cell v) ∧ ∀ q ∈ D.pins, p.1 ≠ q.1) (I : Inv X (pins ++ D.pins) σc H s) (rc : R D.Z.G W stc σc H) (at_ : DozeAt D W.F H s)
    (sepP : ∀ p ∈ X.pn ++ pins, ∀ q ∈ D.pins, p.1 ≠ q.1) (dis : ∀ b ∈ D.own, b ∉ own W stc σc) (room : Room (D.Z.k + 2) X.A) (gd : X.A.guards = some [])
    (NX : ∀ {g : Nat} {gs : GenState} {Φ : End → Shared → Prop} {Q : Option Value → Shared → Prop}, X.A.handled = none → s.heap.NoLimit → X.A.depth < recursionLimit → GenAt s.heap D.a g → s.gens[g]? = some gs → GoesG (model X.prog X.w) X.A.in1 Φ gs (s.setGen g .running) →
      (∀ e s₁, Φ e s₁ → (e = .ret (.ok (.ret .none)) ∧ ∀ h', (∀ b o, s₁.heap.get? b = some o → h'.get? b = some o) → Q none { s₁.setGen g .finished with heap := h' }) ∨
        ∃ v l k c p fs, e = .susp v false l k c p fs ∧ fs.any Frame.guarded = false ∧ Q (some v) (s₁.setGen g (.suspended k l c p fs false))) → T Q) :
    T (NextQ X pins σc D W stc H D.Z.G ys) := by
  have hg : s.gens[D.Z.g]? = some D.gs := at_.gens (D.Z.g, D.gs) (List.mem_cons_self ..)
  have hgl : D.Z.g < s.gens.size := (Array.getElem?_eq_some_iff.mp hg).1
  have pin : ∀ p ∈ D.pins, s.heap.get? p.1 = some p.2 ∧ H p.1 = none ∧ p.1 ≠ X.env.locals ∧ p.1 ∉ X.fs ∧ ∀ v, p.2.data ≠ .cell v := fun p hp => I.pin p (List.mem_append_right _ (List.mem_append_right _ hp))
  have nfr : ∀ {a : Addr}, a ≠ X.env.locals → a ∉ X.fs → a ∉ frs X.stack := fun {a} h1 h2 h => by
    rcases List.mem_cons.mp (I.stkSub a h) with z | z
    · exact h1 z
    · exact h2 z
  have hb : AllBare (s.setGen D.Z.g .running).gens := allBare_setGen I.bare rfl
  have Ir : Inv X (pins ++ [(D.a, D.go)]) σc H (s.setGen D.Z.g .running) := inv_regen (I.pins_of fun p hp => by
    rcases List.mem_append.mp hp with z | z
    · exact I.pin p (List.mem_append_right _ (List.mem_append_left _ z))
    · rw [List.mem_singleton.mp z]; exact pin _ (List.mem_cons_self ..)) rfl rfl hb
  have e0 : Env0 D.Z.P D.Z.w D.Z.K D.Z.mg D.Z.base X.A.in1 D.Z.outer (s.setGen D.Z.g .running) H := by
    rw [sv.prog, sv.w, sv.K, sv.mg, sv.base, sv.outer]
    have z := Ir.env0
    exact ⟨z.frames, z.mod, z.bs, z.bsz, z.funs, z.frf, z.hok, z.bare⟩
  have rm : Room D.Z.k (X.A.in1.deeper D.Z.env) := (Room.in1 (k := D.Z.k + 1) room).deeper _
  have hL := pin (D.Z.L, D.oL) (List.mem_cons_of_mem _ (List.mem_cons_self ..))
  have hszL : D.Z.L ≤ s.heap.objs.size := Nat.le_of_lt (Heap.lt_size hL.1)
  have pinH : ∀ p ∈ D.hold ++ ((X.pn ++ (pins ++ [(D.a, D.go)])) ++ fx), (s.setGen D.Z.g .running).heap.get? p.1 = some p.2 ∧ H p.1 = none ∧ p.1 ≠ D.Z.L ∧ p.1 ∉ frs D.Z.outer ∧ ∀ v, p.2.data ≠ .cell v := fun p hp => by
    rw [sv.outer]
    rcases List.mem_append.mp hp with z | z
    · obtain ⟨q1, q2, q3, q4, q5⟩ := pin p (List.mem_cons_of_mem _ (List.mem_cons_of_mem _ z))
      exact ⟨q1, q2, (d.hL p z).1, nfr q3 q4, q5⟩
    rcases List.mem_append.mp z with z | z
    · obtain ⟨q1, q2, q3, q4, q5⟩ := Ir.pin p z
      refine ⟨q1, q2, ?_, nfr q3 q4, q5⟩
      rw [← List.append_assoc] at z
      rcases List.mem_append.mp z with z | z
      · exact sepP p z (D.Z.L, D.oL) (List.mem_cons_of_mem _ (List.mem_cons_self ..))
      · rw [List.mem_singleton.mp z]; exact d.aL
    · obtain ⟨q1, q2, q3, q4, q5⟩ := hfx p z
      exact ⟨q1, q2, q5 (D.Z.L, D.oL) (List.mem_cons_of_mem _ (List.mem_cons_self ..)), q3, q4⟩
  have live := wake (ff := ((X.pn ++ (pins ++ [(D.a, D.go)])) ++ fx)) (gk := D.gk) d.ok e0 rm room.hd gd hL.1 hL.2.1 d.nap pinH at_.r (by rw [GenW.setGen_size]; exact hgl)
    (fun q hq => ⟨by rw [setGen_other (d.gkn q hq).1]; exact at_.gens q (List.mem_cons_of_mem _ hq), d.gkn q hq⟩) (fun p hp q hq => by
      rcases List.mem_append.mp hq with hq | hq
      · rw [← List.append_assoc] at hq
        rcases List.mem_append.mp hq with z | z
        · exact (sepP q z p (List.mem_cons_of_mem _ (List.mem_cons_of_mem _ hp))).symm
        · rw [List.mem_singleton.mp z]; exact (d.hL p hp).2
      · exact ((hfx q hq).2.2.2.2 p (List.mem_cons_of_mem _ (List.mem_cons_of_mem _ hp))).symm) d.gt.2
  have goes := d.goes _ _ _ _ live at_.le
  rw [sv.prog, sv.w] at goes
  have szr : D.Z.L ≤ (s.setGen D.Z.g .running).heap.objs.size := hszL
  refine NX (Φ := fun e s' => Want D.Z ys _ e s') room.hd I.nolimit (by have := room.dp; omega) (d.isg _ (pin _ (List.mem_cons_self ..)).1) hg goes fun e s₁ he => ?_
  -- what the consumer has of a state that the generator has left
  have came : ∀ {hold' gk' st' W' σ' H'}, Live D.Z (wakeB D.Z X.A.in1 (s.setGen D.Z.g .running) H ((X.pn ++ (pins ++ [(D.a, D.go)])) ++ fx) ⟨W.F, []⟩ (own ⟨W.F, []⟩ D.st D.σ)) hold' gk' st' W' σ' H' s₁ →
      Inv X (pins ++ [(D.a, D.go)]) σc H' s₁ ∧ R D.Z.G ⟨W'.F, W.A⟩ stc σc H' ∧ Step (own W stc σc ++ D.own) W H (own ⟨W'.F, W.A⟩ stc σc ++ own W' st' σ') ⟨W'.F, W.A⟩ H' ∧ (∀ c ∈ own W' st' σ', c ∉ own W stc σc) ∧ W'.A = [] := fun {hold' gk' st' W' σ' H'} hl => by
    have sp := hl.step
    have sp : Step (own ⟨W.F, []⟩ D.st D.σ) ⟨W.F, []⟩ H (own W' st' σ') W' H' := sp
    refine ⟨backFo d.ok Ir sv.outer sv.prog sv.w sv.s0 sv.loc (fun p hp => ⟨(hfx p hp).1, (hfx p hp).2.1⟩) sv.cells szr (own_mut at_.r) hl, ?_, ?_, fun c hc hc2 => ?_, sp.a⟩
    · refine rc.grow' sp.f (fun c u q hc => sp.keep c u q fun z => dis c z hc) hl.r.le fun c hc => ?_
      obtain ⟨u, hu⟩ := rc.there c hc
      rcases sp.nf c with z | z | z
      · rw [z]; exact rc.fr c hc
      · exact absurd hc (rc.notownM z)
      · exact absurd hc (dis c z)
    · exact (sp.frameL (q := own W stc σc)).worlds rfl rfl rfl
    · obtain ⟨u, hu⟩ := rc.there c hc2
      rcases sp.no c hc with z | z
      · exact dis c z hc2
      · rw [hu] at z; cases z
  cases ys with
  | nil =>
    obtain ⟨ee, hold', st', W', σ', H', hl⟩ := he
    obtain ⟨c1, c2, c3, c4, c5⟩ := came hl
    refine .inl ⟨ee, fun h' hk => ⟨rfl, ⟨W'.F, W.A⟩, H', ?_, c2, c3.trans (Step.sub fun a ha => List.mem_append_left _ ha)⟩⟩
    have c1' : Inv X pins σc H' s₁ := c1.pins_of fun p hp => c1.pin p (List.mem_append_right _ (List.mem_append_left _ hp))
    exact inv_regen (c1'.kept (t' := s₁.toks) hk) rfl rfl (allBare_setGen c1'.bare rfl)
  | cons y ys' =>
    obtain ⟨v, l, k, c, p, fs, hold', st', W', σ', H', x, ee, hfg, hl, rp, rv, cont⟩ := he
    obtain ⟨c1, c2, c3, c4, c5⟩ := came hl
    have eo : own W' st' σ' = own ⟨W'.F, []⟩ st' σ' := by unfold own; rw [c5]
    rw [eo] at c3 c4
    obtain ⟨o', ho', np'⟩ := nap_of d.ok hl
    have eeL := Live.envEq hl.sz
    have jn : ∀ q ∈ hold', s₁.heap.get? q.1 = some q.2 ∧ H' q.1 = none ∧ q.1 ≠ D.Z.L ∧ q.1 ∉ frs D.Z.outer ∧ ∀ v, q.2.data ≠ .cell v := fun q hq => by
      obtain ⟨q1, q2, q3, q4, q5⟩ := hl.inv.pin q (List.mem_append_right _ (List.mem_append_left _ hq))
      rw [eeL] at q3
      exact ⟨q1, q2, q3, q4, q5⟩
    have hLn : H' D.Z.L = none := by
      have := hl.inv.free
      rw [eeL] at this; exact this
    have ffm : ∀ q ∈ X.pn ++ pins, q ∈ ((X.pn ++ (pins ++ [(D.a, D.go)])) ++ fx) := fun q hq => List.mem_append_left _ ((List.mem_append.mp hq).elim (fun z => List.mem_append_left _ z) fun z => List.mem_append_right _ (List.mem_append_left _ z))
    have ffa : (D.a, D.go) ∈ ((X.pn ++ (pins ++ [(D.a, D.go)])) ++ fx) := List.mem_append_left _ (List.mem_append_right _ (List.mem_append_right _ (List.mem_singleton.mpr rfl)))
    have bare' : AllBare (s₁.setGen D.Z.g (.suspended k l c p fs false)).gens := allBare_setGen hl.inv.bare rfl
    have sepN : ∀ q ∈ X.pn ++ pins, ∀ r ∈ ((D.a, D.go) :: (D.Z.L, o') :: hold'), q.1 ≠ r.1 := fun q hq r hr => by
      rcases List.mem_cons.mp hr with z | hr
      · rw [z]; exact sepP q hq (D.a, D.go) (List.mem_cons_self ..)
      · rcases List.mem_cons.mp hr with z | hr
        · rw [z]; exact sepP q hq (D.Z.L, D.oL) (List.mem_cons_of_mem _ (List.mem_cons_self ..))
        · exact (hl.sep r hr q (ffm q hq)).symm
    have locN : X.env.locals ≠ D.Z.L ∧ ∀ q ∈ hold', q.1 ≠ X.env.locals := by
      rcases sv.loc with z | ⟨o, z⟩
      · exact ⟨Nat.ne_of_lt z, fun q hq => Nat.ne_of_gt (Nat.lt_trans z (hl.gt q hq))⟩
      · exact ⟨(hfx _ z).2.2.2.2 (D.Z.L, D.oL) (List.mem_cons_of_mem _ (List.mem_cons_self ..)), fun q hq => hl.sep q hq _ (List.mem_append_right _ z)⟩
    have fsL : ∀ b ∈ X.fs, b < D.Z.L := fun b hb => d.ok.lt b (by rw [sv.outer]; exact frs_stack I b hb)
    refine .inr ⟨v, l, k, c, p, fs, ee, hfg, v, { D with oL := o', hold := hold', gk := [], gs := .suspended k l c p fs false, st := st', σ := σ', F := W'.F }, ⟨W'.F, W.A⟩, H', x, rfl, rv, rp, ?_, rfl, rfl, rfl, rfl, ?_, c2, c3, ?_, sepN, c4⟩
    · refine ⟨d.ok, np', d.isg, d.nc, fun q hq => (jn q hq).2.2.2.2, d.aL, fun q hq => ⟨(jn q hq).2.2.1, hl.sep q hq _ ffa⟩, ⟨d.gt.1, hl.gt⟩, (fun q hq => nomatch hq), rfl, fun b2 W2 H2 s2 l2 sm => cont b2 W2 H2 s2 l2 sm⟩
    · refine inv_regen (c1.pins_of fun q hq => ?_) rfl rfl bare'
      rcases List.mem_append.mp hq with z | z
      · exact c1.pin q (List.mem_append_right _ (List.mem_append_left _ z))
      · rcases List.mem_cons.mp z with z | z
        · rw [z]; exact c1.pin _ (List.mem_append_right _ (List.mem_append_right _ (List.mem_singleton.mpr rfl)))
        · rcases List.mem_cons.mp z with z | z
          · rw [z]
            exact ⟨ho', hLn, Ne.symm locN.1, fun hb => absurd (fsL _ hb) (Nat.lt_irrefl _), np'.nc⟩
          · obtain ⟨q1, q2, q3, q4, q5⟩ := jn q z
            exact ⟨q1, q2, locN.2 q z, fun hb => absurd (Nat.lt_trans (fsL _ hb) (hl.gt q z)) (Nat.lt_irrefl _), q5⟩
    · refine ⟨fun q hq => ?_, fun q hq => ?_, ?_, Same.refl _⟩
      · rcases List.mem_cons.mp hq with z | hq
        · rw [z]
          obtain ⟨q1, q2, _⟩ := c1.pin (D.a, D.go) (List.mem_append_right _ (List.mem_append_right _ (List.mem_singleton.mpr rfl)))
          exact ⟨q1, q2⟩
        · rcases List.mem_cons.mp hq with z | hq
          · rw [z]; exact ⟨ho', hLn⟩
          · exact ⟨(jn q hq).1, (jn q hq).2.1⟩
      · rcases List.mem_cons.mp hq with z | hq
        · rw [z]; exact setGen_at hl.gen
        · cases hq
      · have r' := hl.r
        have : W' = ⟨W'.F, []⟩ := by rw [← c5]
        rw [this] at r'; exact r'
theorem Serves.toF {Z : GS} {X : Cx} (sv : Serves Z X) (ab : X.s_0.heap.objs.size ≤ X.env.locals) : ServesF Z X [] := ⟨sv.prog, sv.w, sv.K, sv.mg, sv.base, sv.outer, Nat.le_trans ab (Nat.le_of_lt sv.loc), .inl sv.loc, sv.cells⟩
end Cl
set_option maxHeartbeats 4000000
namespace Cl
open PySem PySem.Spec PyProof.Rows L2
abbrev Fy := List Arg → Option (List PV)
structure Made (G : Gd) (P : Program) (w : World) (K : PySem.W.Frag) (mg : PySem.Str → Option Value) (base : Heap) (k : Nat) (outer : List Env) (H : Hp) (s : Shared) (F : Hp) (ys : List PV) (D : Doze) (s' : Shared) : Prop where
  eG : D.Z.G = G
  eP : D.Z.P = P
  ew : D.Z.w = w
  eK : D.Z.K = K
  emg : D.Z.mg = mg
  ebase : D.Z.base = base
  ek : D.Z.k ≤ k
  eouter : D.Z.outer = outer
  eL : D.Z.L = s.heap.objs.size
  dz : Dozes D ys
  os : s'.os = s.os
  bare : AllBare s'.gens
  kept : Kept s s'
  keep : ∀ b o, s.heap.get? b = some o → s'.heap.get? b = some o
  pins : ∀ p ∈ D.pins, s'.heap.get? p.1 = some p.2
  gens : ∀ q ∈ D.gens, s'.gens[q.1]? = some q.2
  hold : D.hold = []
  gk : D.gk = []
  own : D.own = []
  r : R G ⟨F, []⟩ D.st D.σ H
  eF : D.F = F
  gsz : s.gens.size ≤ D.Z.g
  strict : ∀ h : Heap, h.get? D.a = some D.go → h.IsGen D.a D.Z.g
def FnY (G : Gd) (P : Program) (w : World) (K : PySem.W.Frag) (mg : PySem.Str → Option Value) (base : Heap) (k : Nat) (f : Addr) (n : Nat) (ks : List PySem.Str) (N : List PySem.Str) (pl : Plan) (F : Fy) : Prop :=
  ∀ (A : Around) (outer : List Env) (s : Shared) (H : Hp) (us ws : List Value) (vs : List V) (W : Wd) (as : List Arg) (ys : List PV), Room k A → Env0 P w K mg base A outer s H → us.length = n → ws.length = ks.length → Vals vs (us ++ ws) →
    as.length = (pickV pl vs).length → R G W (enter N.length as) (start N (pickV pl vs)) H → conts as = [] → F as = some ys →
    codeAny (model P w) A (.call (.ref f) ⟨us, ks.zip ws⟩) (fun r s' => ∃ D : Doze, r = .ok (.ret (.ref D.a)) ∧ Made G P w K mg base k outer H s W.F ys D s') s
end Cl
set_option maxHeartbeats 4000000
namespace Cl
open PySem PySem.Spec PyProof.Rows L2
theorem DozeAt.later {G : Gd} {D : Doze} {ys : List PV} {W W' : Wd} {st st' : ST} {σ σ' : Sg} {H H' : Hp} {s s' : Shared} (at_ : DozeAt D W.F H s) (d : Dozes D ys) (ha : asleep D.gs = true) (dis : ∀ b ∈ D.own, b ∉ own W st σ) (stp : Step (own W st σ) W H (own W' st' σ') W' H')
    (r' : R G W' st' σ' H') (pins' : ∀ p ∈ D.pins, s'.heap.get? p.1 = some p.2 ∧ H' p.1 = none) (k : Kept s s') : DozeAt D W'.F H' s' ∧ ∀ b ∈ D.own, b ∉ own W' st' σ' := by
  have there : ∀ b ∈ D.own, ∃ u, H b = some u := fun b hb => at_.r.there b hb
  refine ⟨⟨pins', fun q hq => ?_, ?_, at_.le.trans stp.f⟩, fun b hb hb2 => ?_⟩
  · rcases List.mem_cons.mp hq with z | z
    · rw [z]; exact k _ _ (at_.gens _ (List.mem_cons_self ..)) ha
    · exact k _ _ (at_.gens q hq) (d.gkn q z).2
  · refine at_.r.grow' (F' := W'.F) stp.f (fun b u e hb => stp.keep b u e (dis b hb)) r'.le fun b hb => ?_
    obtain ⟨u, hu⟩ := there b hb
    rcases stp.nf b with z | z | z
    · rw [z]; exact at_.r.fr b hb
    · exact absurd hb (at_.r.notownM z)
    · exact absurd z (dis b hb)
  · obtain ⟨u, hu⟩ := there b hb
    rcases stp.no b hb2 with z | z
    · exact dis b hb z
    · rw [hu] at z; cases z
structure YAt (X : Cx) (pins : List (Addr × Obj)) (σ : Sg) (W : Wd) (st : ST) (H : Hp) (G : Gd) (ys : List PV) (st' : ST) (D : Doze) (W' : Wd) (H' : Hp) (s' : Shared) : Prop where
  d : Dozes D ys
  sv : Serves D.Z X
  eG : D.Z.G = G
  room : Room (D.Z.k + 4) X.A
  inv : Inv X (pins ++ D.pins) σ H' s'
  r : R G W' st' σ H'
  step : Step (own W st σ) W H (own W' st' σ) W' H'
  at_ : DozeAt D W'.F H' s'
  sep : ∀ p ∈ X.pn ++ pins, ∀ q ∈ D.pins, p.1 ≠ q.1
  own : D.own = []
  strict : ∀ h : Heap, h.get? D.a = some D.go → h.IsGen D.a D.Z.g
structure YE (G : Gd) (X : Cx) (e : Expr) (f : Cm (List PV)) : Prop where
  run : ∀ (pins : List (Addr × Obj)) (s : Shared) (σ : Sg) (H : Hp) (W : Wd) (st : ST) (ys : List PV) (st' : ST), Inv X pins σ H s → R G W st σ H → f st = .ok ys st' →
    wpAny (model X.prog X.w) X.A (eval e X.env) (fun u s' => ∃ D W' H', u = .ref D.a ∧ YAt X pins σ W st H G ys st' D W' H' s') X.xe s
section
variable {G : Gd} {X : Cx} {Wx : WX} {k n : Nat} {f : Addr} {N : List PySem.Str} {pl : Plan} {F : Fy} {x : PySem.Str} {p pos : Pos} {e : Expr} {es : List Expr} {fs : Cm (List SV)}
def cGen (n : Nat) (pl : Plan) (F : Fy) (fs : Cm (List SV)) : Cm (List PV) := fun st => (fs st).bind fun xs st1 => if xs.length = n then (match mkArgs st1 (pickS pl xs) with
  | some (as, []) => (match F as with
    | some ys => .ok ys st1
    | none => .stuck)
  | _ => .stuck) else .stuck
end
end Cl
set_option maxHeartbeats 4000000
namespace Cl
open PySem PySem.Spec PyProof.Rows L2
section
variable {G : Gd} {X : Cx} {Wx : WX} {k n : Nat} {f : Addr} {N : List PySem.Str} {pl : Plan} {F : Fy} {x : PySem.Str} {p pos : Pos} {e : Expr} {es : List Expr} {fs : Cm (List SV)}
def noS (g : Sm) : Sm := fun st => match g st with
  | .exc _ _ _ => .stuck
  | o => o
def sForY (fi : Cm (List PV)) (tf : TgF) (g : Sm) : Sm := fun st => match fi st with
  | .ok ys st1 => forL (forB tf (noS g)) ys st1
  | _ => .stuck
end
end Cl
set_option maxHeartbeats 4000000
namespace Cl
open PySem PySem.Spec PyProof.Rows L2 StX ClX
abbrev cutS (s : Shared) (L : Nat) : Shared := { s with heap := hcut s.heap L }
theorem DozeAt.updD {D : Doze} {W : Wd} {H : Hp} {s s' : Shared} {a : Addr} {o : HO} {ys : List PV} (at_ : DozeAt D W.F H s) (d : Dozes D ys) (ha : asleep D.gs = true) (h1 : a ∉ D.own) (h2 : D.F a = none) (h3 : W.F a = none) (pins' : ∀ p ∈ D.pins, s'.heap.get? p.1 = some p.2 ∧ upd H a o p.1 = none) (k : Kept s s') : DozeAt D W.F (upd H a o) s' := by
  refine ⟨pins', fun q hq => ?_, at_.r.updD (by exact h1) h3, at_.le⟩
  rcases List.mem_cons.mp hq with z | z
  · rw [z]; exact k _ _ (at_.gens _ (List.mem_cons_self ..)) ha
  · exact k _ _ (at_.gens q hq) (d.gkn q z).2
section
variable {G : Gd} {X : Cx} {Wx : WX} {tg it elt : Expr} {ifs : List Expr} {fi : Cm (List PV)} {f : TgF} {fc : Cm Bool} {fe : Cm SV} {vs : List Nat} {σ : Sg} {H : Hp} {own' : List (PySem.Str × Nat)} {scope : Scope} {pos : Pos}
def mLcY (fi : Cm (List PV)) (tg : TgF) (fc : Cm Bool) (fe : Cm SV) (vs : List Nat) : Cm MC := fun st => match fi st with
  | .ok items st1 => if plainAt st1 vs = true then (match lcL tg fc fe vs items (st1.clear vs) with
    | .ok qs st2 => if szOk qs.length = true then .ok (.lst qs) (st2.restore st1 vs) else .stuck
    | _ => .stuck) else .stuck
  | _ => .stuck
end
end Cl
set_option maxHeartbeats 4000000
namespace Cl
open PySem PySem.Spec PyProof.Rows L2 StX ClX
def gPlain (g : Sm) : Gm := fun st => ([], g st)
structure CKw (G : Gd) (X : Cx) (Wx : WX) (kws : List Keyword) (f : Cm (List SV)) : Prop where
  pk : PK X kws (tL G Wx f)
section
variable {G : Gd} {X : Cx} {Wx : WX} {k n : Nat} {f : Addr} {x : PySem.Str} {p pos kpos : Pos} {e : Expr} {es : List Expr} {kws : List Keyword} {ks N : List PySem.Str} {fa : Cm SV} {fs fk fr : Cm (List SV)} {pl : Plan} {F : Fm} {nm : Option PySem.Str}
def cCallK (n m : Nat) (pl : Plan) (F : Fm) (fs fk : Cm (List SV)) : Cm SV := fun st => (fs st).bind fun xs st1 => (fk st1).bind fun zs st2 => if xs.length = n ∧ zs.length = m then cRun F st2 (pickS pl (xs ++ zs)) else .stuck
end
section
variable {α : Type} {st : ST}
@[simp] theorem ev_cCallK {n m : Nat} {pl : Plan} {F : Fm} {fs fk : Cm (List SV)} : cCallK n m pl F fs fk st = (fs st).bind fun xs st1 => (fk st1).bind fun zs st2 => if xs.length = n ∧ zs.length = m then cRun F st2 (pickS pl (xs ++ zs)) else .stuck := rfl
@[simp] theorem ev_gNil : gNil st = ([], .nx st) := rfl
@[simp] theorem ev_gSeq {g k : Gm} : gSeq g k st = match g st with
  | (ys, .nx st1) => (ys ++ (k st1).1, (k st1).2)
  | r => r := rfl
@[simp] theorem ev_gPlain {g : Sm} : gPlain g st = ([], g st) := rfl
@[simp] theorem ev_gYield {fe : Cm SV} : gYield fe st = match fe st with
  | .ok (.t p) st1 => ([p], .nx st1)
  | _ => ([], .stuck) := rfl
@[simp] theorem ev_gFor {fi : Cm (List PV)} {tg : TgF} {g : Gm} : gFor fi tg g st = match fi st with
  | .ok items st1 => gForL tg g items st1
  | _ => ([], .stuck) := rfl
@[simp] theorem ev_sForY {fi : Cm (List PV)} {tg : TgF} {g : Sm} : sForY fi tg g st = match fi st with
  | .ok ys st1 => forL (forB tg (noS g)) ys st1
  | _ => .stuck := rfl
@[simp] theorem ev_mLcY {fi : Cm (List PV)} {tg : TgF} {fc : Cm Bool} {fe : Cm SV} {vs : List Nat} : mLcY fi tg fc fe vs st = match fi st with
  | .ok items st1 => if plainAt st1 vs = true then (match lcL tg fc fe vs items (st1.clear vs) with
    | .ok qs st2 => if szOk qs.length = true then .ok (.lst qs) (st2.restore st1 vs) else .stuck
    | _ => .stuck) else .stuck
  | _ => .stuck := rfl
@[simp] theorem ev_cGen {n : Nat} {pl : Plan} {F : Fy} {fs : Cm (List SV)} : cGen n pl F fs st = (fs st).bind fun xs st1 => if xs.length = n then (match mkArgs st1 (pickS pl xs) with
  | some (as, []) => (match F as with
    | some ys => .ok ys st1
    | none => .stuck)
  | _ => .stuck) else .stuck := rfl
end
end Cl
set_option maxHeartbeats 4000000
namespace Cl
open PySem PySem.Spec PyProof.Rows L2 StX ClX
abbrev inA (X : Cx) (A : Around) : Cx := { X with A := A }
section
variable {X : Cx} {pins : List (Addr × Obj)} {σ : Sg} {H : Hp} {s : Shared}
theorem inv_in (I : Inv X pins σ H s) : Inv (inA X X.A.in1.in1) pins σ H s :=
  ⟨⟨I.ok.mod, I.ok.kind, I.ok.glob, I.ok.blt, I.ok.above, I.ok.inj, I.ok.has, I.ok.cab, I.ok.hd, I.ok.frames, I.ok.stk, I.ok.exf, I.ok.bs, I.ok.bsz, I.ok.noex, I.ok.exfs, I.ok.funs, I.ok.frf⟩, I.os, I.bare, I.base, I.loc, I.cell, I.free, I.freeC, I.pin, I.hok, I.len⟩
end
end Cl
set_option maxHeartbeats 4000000
namespace Cl
open PySem PySem.Spec PyProof.Rows L2 StX ClX
def lookPK (kvs : List (PV × PV)) (k : PV) : Option PV := (kvs.find? fun kv => decide (keyOf kv.1 = keyOf k)).map (·.2)
section
variable {G : Gd} {X : Cx} {Wx : WX} {a b o : Expr} {fa fb fo : Cm SV} {pos : Pos}
def sDItem (fv fo fi : Cm SV) : Sm := fun st => bindS (fv st) fun x st1 => bindS (fo st1) fun o st2 => bindS (fi st2) fun i st3 => match x, o, i with
  | .t p, .pl q, .t k => match getP st3 q with
    | some (.dct kvs) => if (keyOf k).isSome = true ∧ szOk (kvs.length + 1) = true then .nx (setP st3 q (.dct (putPK kvs k p))) else .stuck
    | _ => .stuck
  | _, _, _ => .stuck
end
end Cl
set_option maxHeartbeats 4000000
set_option maxHeartbeats 4000000
set_option maxHeartbeats 4000000
namespace Cl
open PySem PySem.Spec PyProof.Rows L2 StX ClX
abbrev inA1 (X : Cx) : Cx := { X with A := X.A.in1 }
section
variable {X : Cx} {pins : List (Addr × Obj)} {σ : Sg} {H : Hp} {s : Shared}
theorem inv_in1 (I : Inv X pins σ H s) : Inv (inA1 X) pins σ H s :=
  ⟨⟨I.ok.mod, I.ok.kind, I.ok.glob, I.ok.blt, I.ok.above, I.ok.inj, I.ok.has, I.ok.cab, I.ok.hd, I.ok.frames, I.ok.stk, I.ok.exf, I.ok.bs, I.ok.bsz, I.ok.noex, I.ok.exfs, I.ok.funs, I.ok.frf⟩, I.os, I.bare, I.base, I.loc, I.cell, I.free, I.freeC, I.pin, I.hok, I.len⟩
theorem inv_out1 (ok : X.Ok) (I : Inv (inA1 X) pins σ H s) : Inv X pins σ H s := ⟨ok, I.os, I.bare, I.base, I.loc, I.cell, I.free, I.freeC, I.pin, I.hok, I.len⟩
end
end Cl
set_option maxHeartbeats 4000000
set_option maxHeartbeats 4000000
namespace Cl
open PySem PySem.Spec PyProof.Rows L2 StX ClX
def cDClear (fo : Cm SV) : Cm SV := fun st => (fo st).bind fun x st1 => match x with
  | .pl q => match getP st1 q with
    | some (.dct _) => .ok (.t .non) (setP st1 q (.dct []))
    | _ => .stuck
  | _ => .stuck
section
variable {G : Gd} {X : Cx} {Wx : WX} {k n : Nat} {f : Addr} {x : PySem.Str} {p pos kpos : Pos} {e : Expr} {es : List Expr} {kws : List Keyword} {ks N : List PySem.Str} {fs fk : Cm (List SV)} {pl : Plan} {F : Fm}
def mCallK (n m : Nat) (pl : Plan) (F : Fm) (fs fk : Cm (List SV)) : Cm MC := fun st => (fs st).bind fun xs st1 => (fk st1).bind fun zs st2 => if xs.length = n ∧ zs.length = m then cRunM F st2 (pickS pl (xs ++ zs)) else .stuck
end
end Cl
set_option maxHeartbeats 4000000
namespace Cl
open PySem PySem.Spec PyProof.Rows L2 StX ClX
structure LkS (F F' : Hp) : Prop where
  n : ∀ b u, F b = some u → (∀ hs, u ≠ .dK hs) → F' b = some u
  k : ∀ b hs, F b = some (.dK hs) → Rd F' b (.dK hs)
theorem LkS.refl {F : Hp} : LkS F F := ⟨fun _ _ e _ => e, fun _ _ e => .inl e⟩
theorem LkS.of {F H F' : Hp} (s : Same F H) (l : LkS H F') : LkS F F' := ⟨fun b u e n => l.n b u (s b u e) n, fun b hs e => l.k b hs (s b _ e)⟩
theorem TupAt.lk {F F' : Hp} (h : LkS F F') {k : TF} {a : Addr} {vs : List V} (r : TupAt k F a vs) : TupAt k F' a vs := by
  cases k with
  | p => exact h.n _ _ r fun _ z => nomatch z
  | x => obtain ⟨o, d, e⟩ := r; exact ⟨o, d, h.n _ _ e fun _ z => nomatch z⟩
  | a => exact r.elim (fun e => .inl (h.n _ _ e fun _ z => nomatch z)) fun ⟨o, d, e⟩ => .inr ⟨o, d, h.n _ _ e fun _ z => nomatch z⟩
section
variable {G : Gd} {F F' : Hp}
mutual
theorem Rep.lk (h : LkS F F') : ∀ {p : PV} {v : V}, Rep G F p v → Rep G F' p v
  | _, _, .non => .non
  | _, _, .bl b => .bl b
  | _, _, .int i => .int i
  | _, _, .str x => .str x
  | _, _, .ty n => .ty n
  | _, _, .fn n => .fn n
  | _, _, .lst r l => .lst (h.n _ _ r (fun _ z => nomatch z)) (RepL.lk h l)
  | _, _, .tup r l => .tup (r.lk h) (RepL.lk h l)
  | _, _, .dtp r l => .dtp (r.elim (fun r => .inl (h.n _ _ r (fun _ z => nomatch z))) (fun ⟨o, r⟩ => .inr ⟨o, h.n _ _ r (fun _ z => nomatch z)⟩)) (RepT.lk h l)
  | _, _, .dtn r l => .dtn (h.n _ _ r (fun _ z => nomatch z)) (RepN.lk h l)
  | _, _, .adr a => .adr a
  | _, _, .dmx r k l => .dmx (h.n _ _ r (fun _ z => nomatch z)) (RepL.lk h k) (RepL.lk h l)
  | _, _, .scr r => .scr (h.n _ _ r (fun _ z => nomatch z))
  | _, _, .dct r l => .dct (r.elim (fun r => h.k _ _ r) (fun ⟨o, r⟩ => .inr ⟨o, h.n _ _ r (fun _ z => nomatch z)⟩)) (RepK.lk h l)
  | _, _, .obj r l => .obj (h.n _ _ r (fun _ z => nomatch z)) (RepF.lk h l)
  | _, _, .xo r e l => .xo (h.n _ _ r (fun _ z => by cases (show HO.ext _ = HO.dK _ from z))) (h.n _ _ e (fun _ z => nomatch z)) (RepF.lk h l)
  | _, _, .xo0 r => .xo0 (h.n _ _ r (fun _ z => by cases (show HO.ext _ = HO.dK _ from z)))
  | _, _, .tbl a => .tbl a
  | _, _, .clo r l => .clo (h.n _ _ r (fun _ z => by cases (show HO.ext _ = HO.dK _ from z))) (RepL.lk h l)
theorem RepL.lk (h : LkS F F') : ∀ {p : List PV} {v : List V}, RepL G F p v → RepL G F' p v
  | _, _, .nil => .nil
  | _, _, .cons r l => .cons (Rep.lk h r) (RepL.lk h l)
theorem RepK.lk (h : LkS F F') : ∀ {p : List (PV × PV)} {v : List (Key × V)}, RepK G F p v → RepK G F' p v
  | _, _, .nil => .nil
  | _, _, .cons e r l => .cons e (Rep.lk h r) (RepK.lk h l)
theorem RepT.lk (h : LkS F F') : ∀ {p : List (List Key × PV)} {v : List (List Key × V)}, RepT G F p v → RepT G F' p v
  | _, _, .nil => .nil
  | _, _, .cons r l => .cons (Rep.lk h r) (RepT.lk h l)
theorem RepN.lk (h : LkS F F') : ∀ {p : List (NK × PV)} {v : List (NK × Addr × V)}, RepN G F p v → RepN G F' p v
  | _, _, .nil => .nil
  | _, _, .cons ⟨b1, b2, x, y, z⟩ r l => .cons ⟨b1, b2, x.lk h, y.lk h, z.lk h⟩ (Rep.lk h r) (RepN.lk h l)
theorem RepF.lk (h : LkS F F') : ∀ {p : List (PySem.Str × PV)} {v : List (PySem.Str × V)}, RepF G F p v → RepF G F' p v
  | _, _, .nil => .nil
  | _, _, .cons r l => .cons (Rep.lk h r) (RepF.lk h l)
end
theorem RepM.lk {H : Hp} {c : MC} {a : Addr} (l : LkS F F') (h : LkS H F') (k : RepM G F H c a) : Rep G F' c.pv (.ref a) := by
  cases c with
  | lsA b xs => obtain ⟨rfl, us, q, k⟩ := k; exact .adr _
  | lst xs => obtain ⟨us, q, k⟩ := k; exact .lst (h.n _ _ q (fun _ z => nomatch z)) (k.lk l)
  | dct xs => obtain ⟨us, q, k⟩ := k; exact .dct (h.k _ _ q) (k.lk l)
  | dtn xs => exact .tbl a
  | dtp xs => obtain ⟨us, q, k⟩ := k; exact .dtp (.inl (h.n _ _ q (fun _ z => nomatch z))) (k.lk l)
  | obj c xs => obtain ⟨dx, us, q, k⟩ := k; exact .obj (h.n _ _ q (fun _ z => nomatch z)) (k.lk l)
  | tbl _ q => exact .tbl a
end
end Cl
set_option maxHeartbeats 4000000
namespace Cl
open PySem PySem.Spec PyProof.Rows L2 StX ClX
theorem oexB_ok {K : PySem.W.Frag} {C : Addr} (h : oexB K C = true) : OexC K C := by
  obtain ⟨h1, h⟩ := He.ba h
  obtain ⟨h2, h⟩ := He.ba h
  obtain ⟨h3, h⟩ := He.ba h
  obtain ⟨h4, h5⟩ := He.ba h
  refine ⟨?_, He.eqO_ok h2, of_decide_eq_true h3, of_decide_eq_true h4, h5⟩
  split at h1
  · rename_i dd cd sl ho
    split at h1
    · rename_i C' bm k0 k1 k2 k3 n k5 hm hs
      obtain ⟨e1, h1⟩ := He.ba h1
      obtain ⟨e2, h1⟩ := He.ba h1
      obtain ⟨e3, h1⟩ := He.ba h1
      obtain ⟨e4, e5⟩ := He.ba h1
      have e1 := of_decide_eq_true e1
      have e2 := of_decide_eq_true e2
      subst e1 e2
      obtain ⟨nm, bs, mro, ns, qn, hd, sn, sub, ab, col, del⟩ := cd
      dsimp only at hm e3 e4
      have e3' : del = false := by simpa using e3
      subst hm e3' e4
      have hsl : sl = #[k0, k1, k2, k3, some (.builtin "ValueError.__new__"), k5] := by
        obtain ⟨l⟩ := sl
        simp only at hs
        rw [hs]
      subst hsl
      exact ⟨_, _, _, _, _, _, _, _, _, _, _, _, _, _, _, ho, e5⟩
    · cases h1
  · cases h1
structure OexF (K : PySem.W.Frag) (C fI : Addr) (f : PySem.Str) : Prop where
  oex : OexC K C
  xf : XfC K C
  ini : PySem.W.findIn K (.ref C) "__init__" = some (some (.ref fI))
  tI : PySem.W.typeIn K (.ref fI) = some (.type "function")
  no : PySem.W.findIn K (.ref C) f = some none
theorem oexF_ok {K : PySem.W.Frag} {x f : PySem.Str} (h : faOex x f K = true) : OexF K (He.ga K x) (He.ma K (He.ga K x) "__init__") f := by
  obtain ⟨h1, h⟩ := He.ba h
  obtain ⟨h2, h⟩ := He.ba h
  obtain ⟨h3, h⟩ := He.ba h
  obtain ⟨h4, h5⟩ := He.ba h
  exact ⟨oexB_ok h1, xfB_ok h2, He.eqO_ok h3, of_decide_eq_true h4, He.eqO_ok h5⟩
theorem ein_ok {K : PySem.W.Frag} {x : PySem.Str} {id : String} (h : faEin x id K = true) : CRead K (He.ga K x) (.type "type") ∧ PySem.W.findCls K (.ref (He.ga K x)) (.type "type") "__init__" = some (.val (.builtin id)) := by
  obtain ⟨h1, h2⟩ := He.ba h
  refine ⟨read_ok h1, ?_⟩
  split at h2
  · rename_i n e
    rw [e, of_decide_eq_true h2]
  · cases h2
section
variable {X : Cx} {e : Expr} {es : List Expr} {ta : TA} {p1 p2 pos : Pos} {x : PySem.Str} {V : Addr} {mc : Value}
theorem pe_einit {pl : Sem Bool} (hg : Gl X x) (hm : X.mg x = some (.ref V)) (r : CRead X.K V mc) (vV : PySem.W.findCls X.K (.ref V) mc "__init__" = some (.val (.builtin "ValueError.__init__"))) (ha : PA X (e :: es) ta)
    (hdb : (x == ("__debug__" : PySem.Str)) = false := by decide)
    (hc : eval (.Call (.Attribute (.Name x p1) "__init__" p2) (e :: es) [] pos) X.env = (do
      let ov ← eval (.Name x p1) X.env
      standAt p2.atName
      let (f, first) ← holding [ov] (getMethod ov "__init__" pl)
      callWith pos f first (backTo pos (starEach (e :: es) X.env)) (backToKw pos (keywordEach [] X.env))) := by rfl)
    (he : starEach (e :: es) X.env = (false, eval e X.env) :: starEach es X.env := by rfl) (hpl : (backTo pos (starEach es X.env)).any (·.1) = false := by rfl) :
    PE X (.Call (.Attribute (.Name x p1) "__init__" p2) (e :: es) [] pos) (tVeI X.K ta) := by
  refine ⟨fun pins s σ H Q I h => ?_⟩
  refine PySem.W.methodCall_KW (ld_glob I hg hm ?_ hdb) hc
  refine PySem.W.method_cls I.kIn r.ga (PySem.W.cls_value I.kIn r.rd vV rfl ?_)
  show wpAny _ _ (callWith pos (Value.builtin "ValueError.__init__") [] (backTo pos (starEach (e :: es) X.env)) []) _ _ _
  refine PyProof.Rows.callWith_method1 (thn (ha.run pos pins _ σ H _ (I.tok _) h) fun us s1 ⟨vs, H1, I1, r1, a, C, ws, ev, hl, T, ea, q⟩ => ?_) he hpl
  subst ev
  cases r1 with
  | @cons _ u0 _ ur ra rw' =>
    obtain rfl : u0 = Value.ref a := ra
    have hlen : ur.length ≤ sizeLine := by
      rw [← Paired.length rw', sizeLine_eq]
      omega
    exact oinit_ok T I1 ea hlen fun s' J => ⟨.non, H1, J, rfl, q⟩
end
def spXi (K : PySem.W.Frag) (f : PySem.Str) : Sp := fun vs H Q _ => ∃ (a C : Addr) (y : V), vs = [.ref a, y] ∧ OexC K C ∧ PySem.W.findIn K (.ref C) f = some none ∧ H a = some (exo a C none) ∧
  ∀ dx, H dx = none → dx ≠ a → Q .non (upd (upd H dx (exd dx [(f, y)])) a (exo a C (some dx)))
abbrev tXi (K : PySem.W.Frag) (f t : PySem.Str) : TS := tSeq (tDrop (tVeI K (tCons (tVar 0) (tCons (tC (.str t)) tNil)))) (tSeq (tOst K f (tVar 0) (tVar 1)) tNext)
section
variable {P : Program} {w : World} {K : PySem.W.Frag} {mg : PySem.Str → Option Value} {base : Heap} {x qual f t : PySem.Str} {params : Arguments} {scope : Scope} {body : List Stmt} {fI : Addr} {fd : FuncData}
theorem xinit_ok (F : FunD K x qual params body scope [] [] fI fd) (S : FnScope ["self", f] ["self", f] scope)
    (hb : ∀ (cd : Value) (A : Around) (outer : List Env) (s : Shared) (H : Hp) (E : XK), PSs (cxB P w K mg base ["self", f] qual scope fI cd A outer s H E) body (tXi K f t)) : FnOk P w K mg base (L2.CX P w) 2 fI fd ["self", f] (spXi K f) := by
  refine F.ok S (fun vs H Q E ⟨a, C, y, e, _⟩ => by rw [e]; rfl) fun cdv A outer s H vs Q E room ⟨a, C, y, ev, T, hno, ea, q⟩ => ?_
  subst ev
  refine ⟨_, hb cdv A outer s H E, ?_⟩
  exact ⟨.ref a, rfl, a, C, [.str t], rfl, by simp, T, ea, y, rfl, .ref a, rfl, a, C, rfl, T, hno, .inl ⟨ea, fun dx h1 h2 => q dx h1 h2⟩⟩
end
def sRaise (c : Nat) (f : PySem.Str) (fe : Cm SV) : Sm := fun st => bindS (fe st) fun x st1 => match x with
  | .t p => .exc c [(f, p)] st1
  | _ => .stuck
theorem upd_exo {H : Hp} {a dx : Addr} {o1 o2 o3 o4 : HO} (ha : H a = none) (hd : dx ≠ a) : upd (del (upd (upd (upd H a o1) dx o2) a o3) a) dx o4 = upd H dx o4 := by
  funext b
  by_cases h1 : b = dx
  · subst h1; rw [upd_same, upd_same]
  · rw [upd_ne h1, upd_ne h1]
    by_cases h2 : b = a
    · subst h2; rw [del_same, ha]
    · rw [del_ne h2, upd_ne h2, upd_ne h1, upd_ne h2]
end Cl
set_option maxHeartbeats 4000000
namespace Std
open Cl PySem PySem.Spec PyProof.Rows L2
abbrev N_law_rankings : List PySem.Str := ["_law_pool_here", "_law_count", "_law_size", "_law_first", "_law_result", "_law_turn", "_law_other"]
abbrev pl_law_rankings : Plan := [.inl 0, .inl 1, .inl 2]
def p_law_rankings_0 : Sm := (sSeq (sSet 6 (cList bTuple (cCons (cCallF (fcDef 2 pl_law_shuffle F_law_shuffle) (cCons (cVar 0) (cCons (cFrz (mRg1 (cVar 2))) cNil))) cNil))) (sExpr (cPl opAppend (cVar 4) (cCons (cBin pIx (cFrz (mDisp (cCons (cVar 3) (cCons (cRev (cVar 3)) (cCons (cVar 6) (cCons (cVar 6) (cCons (cVar 6) cNil))))))) (cCallF (fcDef 2 pl_law_take F_law_take) (cCons (cVar 0) (cCons (cC (.int 5)) cNil)))) cNil))))
def g_law_rankings : Sm := (sSeq (sSet 3 (cList bTuple (cCons (cCallF (fcDef 2 pl_law_shuffle F_law_shuffle) (cCons (cVar 0) (cCons (cFrz (mRg1 (cVar 2))) cNil))) cNil))) (sSeq (sSetM 4 (mDisp (cCons (cVar 3) cNil))) (sSeq (sFor (cRng1 (cCons (cBin pSub (cVar 1) (cC (.int 1))) cNil)) (tgN 5) p_law_rankings_0) (sRetM (mMv 4)))))
def F_law_rankings : Fm := runF 7 g_law_rankings
theorem cRun_i2 {F : Fm} {st : Cl.ST} {q : PL} {c c' : MC} {z p1 : PV} (hq : getP st q = some c) (h : F [.i c, .t p1] = .ok (.t z) [c']) : cRun F st [.pl q, .t p1] = .ok (.t z) (Cl.setP st q c') := by
  unfold cRun
  simp only [mkArgs, hq, Option.bind_some, Option.map_some]
  rw [if_pos (by simp), h]; rfl
theorem cRun_n2 {F : Fm} {st : Cl.ST} {q : PL} {c c' m : MC} {p1 : PV} (hq : getP st q = some c) (h : F [.i c, .t p1] = .ok (.n m) [c']) : cRun F st [.pl q, .t p1] = .ok (.t m.pv) (Cl.setP st q c') := by
  unfold cRun
  simp only [mkArgs, hq, Option.bind_some, Option.map_some]
  rw [if_pos (by simp), h]; rfl
theorem cRun_n3 {F : Fm} {st : Cl.ST} {q : PL} {c c' m : MC} {p1 p2 : PV} (hq : getP st q = some c) (h : F [.i c, .t p1, .t p2] = .ok (.n m) [c']) : cRun F st [.pl q, .t p1, .t p2] = .ok (.t m.pv) (Cl.setP st q c') := by
  unfold cRun
  simp only [mkArgs, hq, Option.bind_some, Option.map_some]
  rw [if_pos (by simp), h]; rfl
theorem shuffle_i (ns : List Int) (a b : Int) (hl : ns.length ≤ 1000) : ∃ ms a' b', ms.Perm ns ∧ F_law_shuffle [.i (pool a b), .t (.lst (iL ns))] = .ok (.n (.lst (iL ms))) [pool a' b'] := by
  obtain ⟨perm, a', b', hp, e⟩ := shuffle_ok (iL ns) a b (by simpa using hl)
  obtain ⟨ms, rfl, h⟩ := perm_ints hp
  exact ⟨ms, a', b', h, e⟩
theorem run_shuffle {st : Cl.ST} {q : PL} {a b : Int} {ns : List Int} (hq : getP st q = some (pool a b)) (hl : ns.length ≤ 1000) :
    ∃ ms a' b', ms.Perm ns ∧ cRun F_law_shuffle st [.pl q, .t (.lst (iL ns))] = .ok (.t (.lst (iL ms))) (Cl.setP st q (pool a' b')) := by
  obtain ⟨ms, a', b', h, e⟩ := shuffle_i ns a b hl
  exact ⟨ms, a', b', h, cRun_n2 hq e⟩
abbrev rkP (r : List Int) : PV := .tup .x (iL r)
abbrev rksP (rs : List (List Int)) : List PV := rs.map rkP
theorem IsRk.rev {m : Nat} {r : List Int} (h : IsRk m r) : IsRk m r.reverse := (List.reverse_perm r).trans h
theorem rankings_eq (a b : Int) (count size : Nat) (hc : 0 < count) (hc2 : count ≤ 900) (hs2 : size ≤ 1000) :
    ∃ rs a' b', rs.length = count ∧ (∀ r ∈ rs, IsRk size r) ∧ F_law_rankings [.i (pool a b), .t (.int count), .t (.int size)] = .ok (.n (.lst (rksP rs))) [pool a' b'] := by
  have hsz : decide (size ≤ 16777216) = true := decide_eq_true (by omega)
  have hsm : smallI (size : Int) = true := by simp [smallI]; omega
  have htn : ((size : Int)).toNat = size := by omega
  have hz5 : szOk 5 = true := by decide
  have hz1 : szOk 1 = true := by decide
  obtain ⟨f, a1, b1, hf, ef⟩ := shuffle_i (rg size) a b (by rw [rg_length]; exact hs2)
  have hf' : IsRk size f := hf
  have loop : ∀ (ps : List PV) (rs : List (List Int)) (a b : Int) (x y : Option SL), (∀ r ∈ rs, IsRk size r) → rs.length + ps.length ≤ 1000 →
      ∃ rs' a' b' x' y', forL (forB (tgN 5) p_law_rankings_0) ps ⟨[some (.i 0), some (.t (.int count)), some (.t (.int size)), some (.t (rkP f)), some (.m (.lst (rksP rs))), x, y], [pool a b]⟩ =
        .nx ⟨[some (.i 0), some (.t (.int count)), some (.t (.int size)), some (.t (rkP f)), some (.m (.lst (rksP rs'))), x', y'], [pool a' b']⟩ ∧ (∀ r ∈ rs', IsRk size r) ∧ rs'.length = rs.length + ps.length := by
    intro ps
    induction ps with
    | nil => intro rs a b x y h1 h2; exact ⟨rs, a, b, x, y, rfl, h1, rfl⟩
    | cons p ps ih =>
      intro rs a b x y h1 h2
      rw [List.length_cons] at h2
      obtain ⟨o, a2, b2, ho, eo⟩ := run_shuffle (st := ⟨[some (.i 0), some (.t (.int count)), some (.t (.int size)), some (.t (rkP f)), some (.m (.lst (rksP rs))), some (.t p), y], [pool a b]⟩) (q := .ih 0) (a := a) (b := b) (ns := rg size) rfl (by rw [rg_length]; exact hs2)
      have ho' : IsRk size o := ho
      obtain ⟨t, a3, b3, t0, t5, et⟩ := run_take (st := ⟨[some (.i 0), some (.t (.int count)), some (.t (.int size)), some (.t (rkP f)), some (.m (.lst (rksP rs))), some (.t p), some (.t (rkP o))], [pool a2 b2]⟩) (q := .ih 0) (a := a2) (b := b2) (n := 5) rfl (by omega) (by omega)
      have pk : ∃ z, IsRk size z ∧ atI [rkP f, .tup .x (iL f).reverse, rkP o, rkP o, rkP o] t = some (rkP z) := by
        have : t = 0 ∨ t = 1 ∨ t = 2 ∨ t = 3 ∨ t = 4 := by omega
        rcases this with rfl | rfl | rfl | rfl | rfl
        · exact ⟨f, hf', rfl⟩
        · exact ⟨f.reverse, hf'.rev, by show some (PV.tup .x (iL f).reverse) = some (.tup .x (iL f.reverse)); rw [iL, iL, List.map_reverse]⟩
        · exact ⟨o, ho', rfl⟩
        · exact ⟨o, ho', rfl⟩
        · exact ⟨o, ho', rfl⟩
      obtain ⟨z, hz, ez⟩ := pk
      have oa : opAppend (rksP rs) [rkP z] = some (.non, rksP (rs ++ [z])) := by
        have : decide ((rksP rs).length < 16777216) = true := decide_eq_true (by simp; omega)
        simp [opAppend]; omega
      obtain ⟨rs', a', b', x', y', e, h3, h4⟩ := ih (rs ++ [z]) a3 b3 (some (.t p)) (some (.t (rkP o))) (fun r hr => by
        rcases List.mem_append.mp hr with h | h
        · exact h1 r h
        · rw [List.mem_singleton.mp h]; exact hz) (by rw [List.length_append]; simp; omega)
      refine ⟨rs', a', b', x', y', ?_, h3, by rw [h4, List.length_append, List.length_cons]; simp; omega⟩
      have step : forB (tgN 5) p_law_rankings_0 p ⟨[some (.i 0), some (.t (.int count)), some (.t (.int size)), some (.t (rkP f)), some (.m (.lst (rksP rs))), x, y], [pool a b]⟩ =
          .nx ⟨[some (.i 0), some (.t (.int count)), some (.t (.int size)), some (.t (rkP f)), some (.m (.lst (rksP (rs ++ [z])))), some (.t p), some (.t (rkP o))], [pool a3 b3]⟩ := by
        simp only [ev_bind_ok, ev_bind_stuck, ev_bind_exc, ev_cC, ev_ofO, ev_ofM, ev_cVar, ev_cMv, ev_mMv, ev_cUn, ev_cBin, ev_cNil, ev_cCons, ev_views_nil, ev_views_cons, ev_view_t, ev_view_sl, ev_view_ih, ev_pv_lst, ev_pv_obj, ev_pv_dct, ev_cList, ev_mList, ev_cTruth, ev_cAnd, ev_cOr, ev_cNot, ev_cAndV, ev_cOrV, ev_cNotV, ev_cIf, ev_cYes, ev_cChain, ev_cDisp, ev_mDisp, ev_trees_nil, ev_trees_cons, ev_cFrz, ev_sNil, ev_sNo, ev_sSeq, ev_bindS_ok, ev_bindS_stuck, ev_sExpr, ev_sRet, ev_sRetN, ev_sRetM, ev_sIf, ev_sSet, ev_sSetM, ev_sAsg, ev_sItem, ev_getP_sl, ev_getP_ih, ev_setP_sl, ev_setP_ih, ev_set, ev_sets_nil, ev_sets_cons, ev_tgN, ev_tgS_tup, ev_tgS_lst, ev_tgs_nil, ev_tgs_cons, ev_nNil, ev_nT, ev_nM, ev_sPar, ev_setFs_nil, ev_setFs_t, ev_setFs_n, ev_cPl, ev_cCallF, ev_mCallF, ev_fcDef, ev_fcDefM, ev_mRg1, ev_cRng1, ev_cIt, ev_sFor, ev_part_p, ev_part_x, ev_part_a, ev_join_p, ev_join_x, ev_join_a, ev_join_px, ev_join_pa, ev_clear_nil, ev_clear_cons, ev_restore_nil, ev_restore_cons, List.set, List.getElem?_cons_succ, List.getElem?_cons_zero, Option.bind_some, Option.map_some, List.length_cons, List.length_nil, if_true, Bool.not_true, Bool.not_false, Bool.false_eq_true, if_false, reduceIte, decide_true, decide_false, Nat.reduceAdd, Nat.zero_add, List.getD_cons_succ, List.getD_cons_zero, forB, p_law_rankings_0, pick2, hsz, hsm, htn, rngL_rg, eo, bTuple, cRev, hz5, et, pIx, ez, oa, Bool.and_self]
      unfold forL
      rw [step]
      exact e
  obtain ⟨rs', a', b', x', y', e, h3, h4⟩ := loop (iL (rg (count - 1))) [f] a1 b1 none none (fun r hr => by rw [List.mem_singleton.mp hr]; exact hf') (by simp [rg_length]; omega)
  rw [List.length_map, rg_length] at h4
  refine ⟨rs', a', b', by rw [h4]; simp; omega, h3, ?_⟩
  have h1 : ((count : Int) - 1).toNat = count - 1 := by omega
  have hsm1 : smallI ((count : Int) - 1) = true := by simp [smallI]; omega
  have ef' : cRun F_law_shuffle ⟨[some (.i 0), some (.t (.int count)), some (.t (.int size)), none, none, none, none], [pool a b]⟩ [.pl (.ih 0), .t (.lst (iL (rg size)))] = .ok (.t (.lst (iL f))) ⟨[some (.i 0), some (.t (.int count)), some (.t (.int size)), none, none, none, none], [pool a1 b1]⟩ := cRun_n2 rfl ef
  have e' : forL (forB (tgN 5) p_law_rankings_0) (iL (rg (count - 1))) ⟨[some (.i 0), some (.t (.int count)), some (.t (.int size)), some (.t (rkP f)), some (.m (.lst [rkP f])), none, none], [pool a1 b1]⟩ = _ := e
  unfold F_law_rankings runF g_law_rankings
  simp only [ev_bind_ok, ev_bind_stuck, ev_bind_exc, ev_cC, ev_ofO, ev_ofM, ev_cVar, ev_cMv, ev_mMv, ev_cUn, ev_cBin, ev_cNil, ev_cCons, ev_views_nil, ev_views_cons, ev_view_t, ev_view_sl, ev_view_ih, ev_pv_lst, ev_pv_obj, ev_pv_dct, ev_cList, ev_mList, ev_cTruth, ev_cAnd, ev_cOr, ev_cNot, ev_cAndV, ev_cOrV, ev_cNotV, ev_cIf, ev_cYes, ev_cChain, ev_cDisp, ev_mDisp, ev_trees_nil, ev_trees_cons, ev_cFrz, ev_sNil, ev_sNo, ev_sSeq, ev_bindS_ok, ev_bindS_stuck, ev_sExpr, ev_sRet, ev_sRetN, ev_sRetM, ev_sIf, ev_sSet, ev_sSetM, ev_sAsg, ev_sItem, ev_getP_sl, ev_getP_ih, ev_setP_sl, ev_setP_ih, ev_set, ev_sets_nil, ev_sets_cons, ev_tgN, ev_tgS_tup, ev_tgS_lst, ev_tgs_nil, ev_tgs_cons, ev_nNil, ev_nT, ev_nM, ev_sPar, ev_setFs_nil, ev_setFs_t, ev_setFs_n, ev_cPl, ev_cCallF, ev_mCallF, ev_fcDef, ev_fcDefM, ev_mRg1, ev_cRng1, ev_cIt, ev_sFor, ev_part_p, ev_part_x, ev_part_a, ev_join_p, ev_join_x, ev_join_a, ev_join_px, ev_join_pa, ev_clear_nil, ev_clear_cons, ev_restore_nil, ev_restore_cons, List.set, List.getElem?_cons_succ, List.getElem?_cons_zero, Option.bind_some, Option.map_some, List.length_cons, List.length_nil, if_true, Bool.not_true, Bool.not_false, Bool.false_eq_true, if_false, reduceIte, decide_true, decide_false, Nat.reduceAdd, Nat.zero_add, List.getD_cons_succ, List.getD_cons_zero, enter, slots, conts, List.replicate, List.cons_append, List.nil_append, Nat.reduceSub, pick2, hsz, hsm, htn, rngL_rg, ef', bTuple, hz1, pSub, hsm1, h1, e', Bool.and_self]
theorem run_rankings {st : Cl.ST} {q : PL} {a b : Int} {count size : Nat} (hq : getP st q = some (pool a b)) (hc : 0 < count) (hc2 : count ≤ 900) (hs2 : size ≤ 1000) :
    ∃ rs a' b', rs.length = count ∧ (∀ r ∈ rs, IsRk size r) ∧ cRun F_law_rankings st [.pl q, .t (.int count), .t (.int size)] = .ok (.t (.lst (rksP rs))) (Cl.setP st q (pool a' b')) := by
  obtain ⟨rs, a', b', h1, h2, e⟩ := rankings_eq a b count size hc hc2 hs2
  exact ⟨rs, a', b', h1, h2, cRun_n3 hq e⟩
end Std
set_option maxHeartbeats 4000000
namespace Std
open Cl PySem PySem.Spec PyProof.Rows L2
structure IsPf (m : Nat) (rs : List (List Int)) : Prop where
  rk : ∀ r ∈ rs, IsRk m r
  pos : 0 < rs.length
  le : rs.length ≤ 6
  mpos : 0 < m
  mle : m ≤ 10
theorem IsPf.first {m : Nat} {rs : List (List Int)} (h : IsPf m rs) : ∃ f, IsRk m f ∧ atI (rksP rs) 0 = some (rkP f) := by
  obtain ⟨f, rs', rfl⟩ : ∃ f rs', rs = f :: rs' := List.ne_nil_iff_exists_cons.mp (List.ne_nil_of_length_pos h.pos)
  exact ⟨f, h.rk f (List.mem_cons_self ..), by simp [atI, ixN]⟩
theorem rksP_length {rs : List (List Int)} : (rksP rs).length = rs.length := by simp
end Std
set_option maxHeartbeats 4000000
namespace Std
open Cl PySem PySem.Spec PyProof.Rows L2
theorem ixN_nat {n k : Nat} (h : k < n) : ixN n (k : Nat) = some k := by
  unfold ixN
  rw [if_pos (by omega), if_pos (by omega), Int.toNat_natCast]
theorem IsPf.set {m : Nat} {rs : List (List Int)} (h : IsPf m rs) {r : List Int} (hr : IsRk m r) (i : Nat) : IsPf m (rs.set i r) :=
  ⟨fun q hq => (List.mem_or_eq_of_mem_set hq).elim (h.rk q) fun e => by rw [e]; exact hr, by rw [List.length_set]; exact h.pos, by rw [List.length_set]; exact h.le, h.mpos, h.mle⟩
def IsTu (n size : Nat) (ts : List Int) : Prop := ts.length + 1 = size ∧ ∀ t ∈ ts, 0 ≤ t ∧ t < (n : Int)
def sqP (tup : Option TF) (ps : List PV) : PV := match tup with
  | some k => .tup k ps
  | none => .lst ps
end Std
set_option maxHeartbeats 4000000
namespace Std
open Cl PySem PySem.Spec PyProof.Rows L2
def leftL (m : Nat) (ps : List PV) : Bool := decide (0 < ps.length) && (ps.all (ofIx (m : Nat)) && match intsP ps with
  | some ns => decide ns.Nodup
  | none => false)
theorem leftL_ints {m : Nat} {ns : List Int} (h : ∀ n ∈ ns, 0 ≤ n ∧ n < (m : Int)) : leftL m (iL ns) = (decide (0 < ns.length) && decide ns.Nodup) := by
  have ha : (iL ns).all (ofIx (m : Nat)) = true := List.all_eq_true.mpr fun p hp => by
    obtain ⟨n, hn, rfl⟩ := List.mem_map.mp hp
    exact decide_eq_true (h n hn)
  unfold leftL
  rw [ha, intsP_ints, List.length_map]
  rfl
end Std
set_option maxHeartbeats 4000000
namespace Std
open Cl PySem PySem.Spec PyProof.Rows L2
theorem sq_len {tup : Option TF} {ps : List PV} : bLen [sqP tup ps] = some (.int (ps.length : Nat)) := by cases tup <;> rfl
end Std
set_option maxHeartbeats 4000000
set_option maxHeartbeats 4000000
namespace Std
open Cl PySem PySem.Spec PyProof.Rows L2
def wst (r rest : List Int) : Int := (r.filter fun i => decide (i ∈ rest)).getLastD 0
structure IsLe (m : Nat) (rest : List Int) : Prop where
  rng : ∀ i ∈ rest, 0 ≤ i ∧ i < (m : Int)
  nd : rest.Nodup
  ne : rest ≠ []
theorem nodup_le : ∀ {l k : List Int}, l.Nodup → (∀ x ∈ l, x ∈ k) → l.length ≤ k.length
  | [], _, _, _ => Nat.zero_le _
  | x :: l, k, h, s => by
    obtain ⟨h1, h2⟩ := List.nodup_cons.mp h
    have hx := s x (List.mem_cons_self ..)
    have q := nodup_le (l := l) (k := k.erase x) h2 fun y hy => (List.mem_erase_of_ne fun (e : y = x) => h1 (by rw [← e]; exact hy)).mpr (s y (List.mem_cons_of_mem _ hy))
    rw [List.length_erase_of_mem hx] at q
    have := List.length_pos_of_mem hx
    simp; omega
theorem IsLe.len {m : Nat} {rest : List Int} (h : IsLe m rest) : rest.length ≤ m := by
  have := nodup_le h.nd fun i hi => mem_rg.mpr (h.rng i hi)
  rwa [rg_length] at this
theorem IsLe.left {m : Nat} {rest : List Int} (h : IsLe m rest) : leftL m (iL rest) = true := by
  rw [leftL_ints h.rng]
  have : 0 < rest.length := List.length_pos_iff.mpr h.ne
  simp [this, h.nd]
theorem atI_rk {rs : List (List Int)} {p : Nat} (h : p < rs.length) : atI (rksP rs) (p : Nat) = some (rkP (rs.getD p [])) := by
  unfold atI
  rw [rksP_length, ixN_nat h]
  simp [rksP, List.getD_eq_getElem?_getD, List.getElem?_eq_getElem h]
def pas (rs : List (List Int)) (ts : List Int) : Nat → List Int → List (Int × Int × Int) × List Int
  | 0, rest => ([], rest)
  | k + 1, rest => ((((k : Nat) : Int), ts.getD k 0, wst (rs.getD (ts.getD k 0).toNat []) rest) :: (pas rs ts k (rest.erase (wst (rs.getD (ts.getD k 0).toNat []) rest))).1, (pas rs ts k (rest.erase (wst (rs.getD (ts.getD k 0).toNat []) rest))).2)
theorem IsLe.erase {m : Nat} {rest : List Int} {w : Int} (h : IsLe m rest) (hw : w ∈ rest) (hl : 1 < rest.length) : IsLe m (rest.erase w) :=
  ⟨fun i hi => h.rng i (List.mem_of_mem_erase hi), h.nd.erase w, fun z => by
    have := List.length_erase_of_mem hw
    rw [z] at this
    simp at this
    omega⟩
theorem IsTu.pl {n size : Nat} {ts : List Int} (h : IsTu n size ts) : ∀ t ∈ ts, 0 ≤ t ∧ t < (n : Int) := h.2
theorem bList_sq {tup : Option TF} {ps : List PV} : bList [sqP tup ps] = some (.lst ps) := by cases tup <;> rfl
def lfL (m : Nat) : Option (Option TF × List Int) → List Int
  | none => rg m
  | some (_, l) => sortI l
def IsLf (m : Nat) : Option (Option TF × List Int) → Prop
  | none => True
  | some (_, l) => IsLe m l
theorem IsLe.perm {m : Nat} {a b : List Int} (h : IsLe m a) (p : b.Perm a) : IsLe m b := ⟨fun i hi => h.rng i (p.mem_iff.mp hi), p.nodup_iff.mpr h.nd, fun z => h.ne (by rw [z] at p; exact p.symm.eq_nil)⟩
theorem IsLf.le {m : Nat} (h0 : 0 < m) : ∀ {o : Option (Option TF × List Int)}, IsLf m o → IsLe m (lfL m o)
  | none, _ => ⟨fun i hi => mem_rg.mp hi, rg_nodup, fun z => by
      have := rg_length (n := m)
      have z : rg m = [] := z
      rw [z] at this; simp at this; omega⟩
  | some (_, l), h => IsLe.perm h (sortI_perm l)
def win (m : Nat) (rs : List (List Int)) (ts : List Int) (o : Option (Option TF × List Int)) : Int := (pas rs ts ts.length (lfL m o)).2.headD 0
def two (m : Nat) (rs : List (List Int)) (ts : List Int) (o : Option (Option TF × List Int)) : PV := match ts with
  | [] => .non
  | t :: ts' => .tup .p [.int (win m rs (t :: ts') o), .int (wst (rs.getD t.toNat []) (pas rs ts' ts'.length (lfL m o)).2)]
end Std
set_option maxHeartbeats 4000000
namespace Std
open Cl PySem PySem.Spec PyProof.Rows L2
theorem ev_mDct0 {st : ST} : mDct0 st = .ok (.dct []) st := rfl
end Std
set_option maxHeartbeats 4000000
set_option maxHeartbeats 4000000
namespace StdO
open Std Cl PySem PySem.Spec PyProof.Rows L2
abbrev pl_law_ranking : Plan := [.inl 0, .inl 1]
def p_law_ranking_0 : Sm := (sExpr (cPl opAppend (cVar 3) (cCons (cPl opPop (cVar 2) (cCons (cCallF (fcDef 2 pl_law_take F_law_take) (cCons (cVar 0) (cCons (cList bLen (cCons (cVar 2) cNil)) cNil))) cNil)) cNil)))
def g_law_ranking : Sm := (sSeq (sPar [2, 3] (nM (mRg1 (cVar 1)) (nM (mDisp cNil) nNil))) (sSeq (whileF (cTruth (cBin pNe (cVar 2) (cFrz (mDisp cNil)))) p_law_ranking_0 100000) (sRet (cList bTuple (cCons (cVar 3) cNil)))))
def F_law_ranking : Fm := runF 4 g_law_ranking
abbrev N_law_rankings : List PySem.Str := ["_law_pool_here", "_law_size", "_law_most", "_law_found", "_law_turn", "_law_way"]
abbrev pl_law_rankings : Plan := [.inl 0, .inl 1, .inl 2]
def p_law_rankings_0 : Sm := (sSeq (sSet 5 (cCallF (fcDef 2 pl_law_take F_law_take) (cCons (cVar 0) (cCons (cC (.int 4)) cNil)))) (sIf (cTruth (cBin pEq (cVar 5) (cC (.int 0)))) (sExpr (cPl opAppend (cVar 3) (cCons (cBin pIx (cVar 3) (cC (.int 0))) cNil))) (sIf (cTruth (cBin pEq (cVar 5) (cC (.int 1)))) (sExpr (cPl opAppend (cVar 3) (cCons (cRev (cBin pIx (cVar 3) (cUn pNeg (cC (.int 1))))) cNil))) (sExpr (cPl opAppend (cVar 3) (cCons (cCallF (fcDef 2 pl_law_ranking F_law_ranking) (cCons (cVar 0) (cCons (cVar 1) cNil))) cNil))))))
def g_law_rankings : Sm := (sSeq (sSetM 3 (mDisp (cCons (cCallF (fcDef 2 pl_law_ranking F_law_ranking) (cCons (cVar 0) (cCons (cVar 1) cNil))) cNil))) (sSeq (sFor (cRng1 (cCons (cCallF (fcDef 2 pl_law_take F_law_take) (cCons (cVar 0) (cCons (cVar 2) cNil))) cNil)) (tgN 4) p_law_rankings_0) (sRetM (mMv 3))))
def F_law_rankings : Fm := runF 6 g_law_rankings
theorem erase_map {α β : Type} {f : α → β} : ∀ {l : List α} {i : Nat}, (l.map f).eraseIdx i = (l.eraseIdx i).map f
  | [], _ => by simp
  | x :: l, 0 => by simp
  | x :: l, i + 1 => by simp [erase_map (l := l) (i := i)]
theorem ranking_step {rest res : List PV} {x : Option SL} {a b : Int} (hpos : 0 < rest.length) (hle : rest.length ≤ 1000) (hle2 : res.length ≤ 1000) :
    ∃ i a' b', ∃ h : i < rest.length, p_law_ranking_0 ⟨[some (.i 0), x, some (.m (.lst rest)), some (.m (.lst res))], [pool a b]⟩ =
      .nx ⟨[some (.i 0), x, some (.m (.lst (rest.eraseIdx i))), some (.m (.lst (res ++ [rest[i]])))], [pool a' b']⟩ := by
  obtain ⟨r, a', b', r0, r1, er⟩ := run_take (st := ⟨[some (.i 0), x, some (.m (.lst rest)), some (.m (.lst res))], [pool a b]⟩) (q := .ih 0) (a := a) (b := b) (n := rest.length) rfl (by omega) (by omega)
  have hix : ixN rest.length r = some r.toNat := by unfold ixN; rw [if_pos r0, if_pos r1]
  have hlt : r.toNat < rest.length := by omega
  have z1 : decide (rest.length < 2 ^ 62) = true := decide_eq_true (by omega)
  refine ⟨r.toNat, a', b', hlt, ?_⟩
  have o1 : opPop rest [.int r] = some (rest[r.toNat], rest.eraseIdx r.toNat) := by simp [opPop, hix, List.getElem?_eq_getElem hlt, z1]
  have o2 : opAppend res [rest[r.toNat]] = some (.non, res ++ [rest[r.toNat]]) := by simp [opAppend]; omega
  simp only [ev_bind_ok, ev_bind_stuck, ev_bind_exc, ev_cC, ev_ofO, ev_ofM, ev_cVar, ev_cMv, ev_mMv, ev_cUn, ev_cBin, ev_cNil, ev_cCons, ev_views_nil, ev_views_cons, ev_view_t, ev_view_sl, ev_view_ih, ev_pv_lst, ev_pv_obj, ev_pv_dct, ev_cList, ev_mList, ev_cTruth, ev_cAnd, ev_cOr, ev_cNot, ev_cAndV, ev_cOrV, ev_cNotV, ev_cIf, ev_cYes, ev_cChain, ev_cDisp, ev_mDisp, ev_trees_nil, ev_trees_cons, ev_cFrz, ev_sNil, ev_sNo, ev_sSeq, ev_bindS_ok, ev_bindS_stuck, ev_sExpr, ev_sRet, ev_sRetN, ev_sRetM, ev_sIf, ev_sSet, ev_sSetM, ev_sAsg, ev_sItem, ev_getP_sl, ev_getP_ih, ev_setP_sl, ev_setP_ih, ev_set, ev_sets_nil, ev_sets_cons, ev_tgN, ev_tgS_tup, ev_tgS_lst, ev_tgs_nil, ev_tgs_cons, ev_nNil, ev_nT, ev_nM, ev_sPar, ev_setFs_nil, ev_setFs_t, ev_setFs_n, ev_cPl, ev_cCallF, ev_mCallF, ev_fcDef, ev_fcDefM, ev_mRg1, ev_cRng1, ev_cIt, ev_sFor, ev_part_p, ev_part_x, ev_part_a, ev_join_p, ev_join_x, ev_join_a, ev_join_px, ev_join_pa, ev_clear_nil, ev_clear_cons, ev_restore_nil, ev_restore_cons, List.set, List.getElem?_cons_succ, List.getElem?_cons_zero, Option.bind_some, Option.map_some, List.length_cons, List.length_nil, if_true, Bool.not_true, Bool.not_false, Bool.false_eq_true, if_false, reduceIte, decide_true, decide_false, Nat.reduceAdd, Nat.zero_add, List.getD_cons_succ, List.getD_cons_zero, p_law_ranking_0, bLen, pick2, er, o1, o2]
theorem ne_nil {ns : List Int} : pNe (.lst (iL ns)) (.lst []) = some (.bl (!decide (ns = []))) := pNe_ints (ms := [])
theorem ranking_loop {x : Option SL} : ∀ {n : Nat} {ns ms : List Int} {a b : Int} {f : Nat}, ns.length = n → n + ms.length ≤ 1000 → n < f →
    ∃ ms' a' b', whileF (cTruth (cBin pNe (cVar 2) (cFrz (mDisp cNil)))) p_law_ranking_0 f ⟨[some (.i 0), x, some (.m (.lst (iL ns))), some (.m (.lst (iL ms)))], [pool a b]⟩ = .nx ⟨[some (.i 0), x, some (.m (.lst [])), some (.m (.lst (iL ms')))], [pool a' b']⟩ ∧ ms'.Perm (ms ++ ns)
  | 0, ns, ms, a, b, f + 1, hn, _, _ => by
    have : ns = [] := List.length_eq_zero_iff.mp hn
    subst this
    refine ⟨ms, a, b, ?_, by simp⟩
    unfold whileF
    simp only [ev_bind_ok, ev_bind_stuck, ev_bind_exc, ev_cC, ev_ofO, ev_ofM, ev_cVar, ev_cMv, ev_mMv, ev_cUn, ev_cBin, ev_cNil, ev_cCons, ev_views_nil, ev_views_cons, ev_view_t, ev_view_sl, ev_view_ih, ev_pv_lst, ev_pv_obj, ev_pv_dct, ev_cList, ev_mList, ev_cTruth, ev_cAnd, ev_cOr, ev_cNot, ev_cAndV, ev_cOrV, ev_cNotV, ev_cIf, ev_cYes, ev_cChain, ev_cDisp, ev_mDisp, ev_trees_nil, ev_trees_cons, ev_cFrz, ev_sNil, ev_sNo, ev_sSeq, ev_bindS_ok, ev_bindS_stuck, ev_sExpr, ev_sRet, ev_sRetN, ev_sRetM, ev_sIf, ev_sSet, ev_sSetM, ev_sAsg, ev_sItem, ev_getP_sl, ev_getP_ih, ev_setP_sl, ev_setP_ih, ev_set, ev_sets_nil, ev_sets_cons, ev_tgN, ev_tgS_tup, ev_tgS_lst, ev_tgs_nil, ev_tgs_cons, ev_nNil, ev_nT, ev_nM, ev_sPar, ev_setFs_nil, ev_setFs_t, ev_setFs_n, ev_cPl, ev_cCallF, ev_mCallF, ev_fcDef, ev_fcDefM, ev_mRg1, ev_cRng1, ev_cIt, ev_sFor, ev_part_p, ev_part_x, ev_part_a, ev_join_p, ev_join_x, ev_join_a, ev_join_px, ev_join_pa, ev_clear_nil, ev_clear_cons, ev_restore_nil, ev_restore_cons, List.set, List.getElem?_cons_succ, List.getElem?_cons_zero, Option.bind_some, Option.map_some, List.length_cons, List.length_nil, if_true, Bool.not_true, Bool.not_false, Bool.false_eq_true, if_false, reduceIte, decide_true, decide_false, Nat.reduceAdd, Nat.zero_add, List.getD_cons_succ, List.getD_cons_zero, szOk0, ne_nil]
    rfl
  | n + 1, ns, ms, a, b, f + 1, hn, hl, hf => by
    obtain ⟨i, a', b', hi, es⟩ := ranking_step (rest := iL ns) (res := iL ms) (x := x) (a := a) (b := b) (by simp; omega) (by simp; omega) (by simp; omega)
    have hi' : i < ns.length := by simpa using hi
    have e1 : (iL ns).eraseIdx i = iL (ns.eraseIdx i) := erase_map
    have e2 : iL ms ++ [(iL ns)[i]] = iL (ms ++ [ns[i]]) := by simp [iL]
    rw [e1, e2] at es
    have hle : (ns.eraseIdx i).length = n := by rw [List.length_eraseIdx, if_pos hi']; omega
    obtain ⟨ms', a2, b2, e, hp⟩ := ranking_loop (x := x) (ns := ns.eraseIdx i) (ms := ms ++ [ns[i]]) (a := a') (b := b') (f := f) hle (by simp; omega) (by omega)
    refine ⟨ms', a2, b2, ?_, hp.trans ?_⟩
    · have hne : ¬ ns = [] := fun z => by rw [z] at hn; simp at hn
      unfold whileF
      simp only [ev_bind_ok, ev_bind_stuck, ev_bind_exc, ev_cC, ev_ofO, ev_ofM, ev_cVar, ev_cMv, ev_mMv, ev_cUn, ev_cBin, ev_cNil, ev_cCons, ev_views_nil, ev_views_cons, ev_view_t, ev_view_sl, ev_view_ih, ev_pv_lst, ev_pv_obj, ev_pv_dct, ev_cList, ev_mList, ev_cTruth, ev_cAnd, ev_cOr, ev_cNot, ev_cAndV, ev_cOrV, ev_cNotV, ev_cIf, ev_cYes, ev_cChain, ev_cDisp, ev_mDisp, ev_trees_nil, ev_trees_cons, ev_cFrz, ev_sNil, ev_sNo, ev_sSeq, ev_bindS_ok, ev_bindS_stuck, ev_sExpr, ev_sRet, ev_sRetN, ev_sRetM, ev_sIf, ev_sSet, ev_sSetM, ev_sAsg, ev_sItem, ev_getP_sl, ev_getP_ih, ev_setP_sl, ev_setP_ih, ev_set, ev_sets_nil, ev_sets_cons, ev_tgN, ev_tgS_tup, ev_tgS_lst, ev_tgs_nil, ev_tgs_cons, ev_nNil, ev_nT, ev_nM, ev_sPar, ev_setFs_nil, ev_setFs_t, ev_setFs_n, ev_cPl, ev_cCallF, ev_mCallF, ev_fcDef, ev_fcDefM, ev_mRg1, ev_cRng1, ev_cIt, ev_sFor, ev_part_p, ev_part_x, ev_part_a, ev_join_p, ev_join_x, ev_join_a, ev_join_px, ev_join_pa, ev_clear_nil, ev_clear_cons, ev_restore_nil, ev_restore_cons, List.set, List.getElem?_cons_succ, List.getElem?_cons_zero, Option.bind_some, Option.map_some, List.length_cons, List.length_nil, if_true, Bool.not_true, Bool.not_false, Bool.false_eq_true, if_false, reduceIte, decide_true, decide_false, Nat.reduceAdd, Nat.zero_add, List.getD_cons_succ, List.getD_cons_zero, szOk0, ne_nil, hne, decide_false, es, e]
    · rw [List.append_assoc]
      exact List.Perm.append_left ms (eraseIdx_perm (List.getElem?_eq_getElem hi')).symm
theorem ranking_eq (a b : Int) (size : Nat) (hs : size ≤ 1000) : ∃ r a' b', IsRk size r ∧ F_law_ranking [.i (pool a b), .t (.int size)] = .ok (.t (rkP r)) [pool a' b'] := by
  have hsz : decide (size ≤ 16777216) = true := decide_eq_true (by omega)
  have hsm : smallI (size : Int) = true := by simp [smallI]; omega
  have htn : ((size : Int)).toNat = size := by omega
  obtain ⟨r, a', b', e, hp⟩ := ranking_loop (x := some (.t (.int size))) (ns := rg size) (ms := []) (a := a) (b := b) (f := 100000) rg_length (by simp; omega) (by omega)
  have hp' : r.Perm (rg size) := by simpa using hp
  refine ⟨r, a', b', hp', ?_⟩
  have e' : whileF (cTruth (cBin pNe (cVar 2) (cFrz (mDisp cNil)))) p_law_ranking_0 100000 ⟨[some (.i 0), some (.t (.int size)), some (.m (.lst (iL (rg size)))), some (.m (.lst []))], [pool a b]⟩ = _ := e
  unfold F_law_ranking runF g_law_ranking
  simp only [ev_bind_ok, ev_bind_stuck, ev_bind_exc, ev_cC, ev_ofO, ev_ofM, ev_cVar, ev_cMv, ev_mMv, ev_cUn, ev_cBin, ev_cNil, ev_cCons, ev_views_nil, ev_views_cons, ev_view_t, ev_view_sl, ev_view_ih, ev_pv_lst, ev_pv_obj, ev_pv_dct, ev_cList, ev_mList, ev_cTruth, ev_cAnd, ev_cOr, ev_cNot, ev_cAndV, ev_cOrV, ev_cNotV, ev_cIf, ev_cYes, ev_cChain, ev_cDisp, ev_mDisp, ev_trees_nil, ev_trees_cons, ev_cFrz, ev_sNil, ev_sNo, ev_sSeq, ev_bindS_ok, ev_bindS_stuck, ev_sExpr, ev_sRet, ev_sRetN, ev_sRetM, ev_sIf, ev_sSet, ev_sSetM, ev_sAsg, ev_sItem, ev_getP_sl, ev_getP_ih, ev_setP_sl, ev_setP_ih, ev_set, ev_sets_nil, ev_sets_cons, ev_tgN, ev_tgS_tup, ev_tgS_lst, ev_tgs_nil, ev_tgs_cons, ev_nNil, ev_nT, ev_nM, ev_sPar, ev_setFs_nil, ev_setFs_t, ev_setFs_n, ev_cPl, ev_cCallF, ev_mCallF, ev_fcDef, ev_fcDefM, ev_mRg1, ev_cRng1, ev_cIt, ev_sFor, ev_part_p, ev_part_x, ev_part_a, ev_join_p, ev_join_x, ev_join_a, ev_join_px, ev_join_pa, ev_clear_nil, ev_clear_cons, ev_restore_nil, ev_restore_cons, List.set, List.getElem?_cons_succ, List.getElem?_cons_zero, Option.bind_some, Option.map_some, List.length_cons, List.length_nil, if_true, Bool.not_true, Bool.not_false, Bool.false_eq_true, if_false, reduceIte, decide_true, decide_false, Nat.reduceAdd, Nat.zero_add, List.getD_cons_succ, List.getD_cons_zero, enter, slots, conts, List.replicate, List.cons_append, List.nil_append, Nat.reduceSub, hsz, hsm, htn, rngL_rg, szOk0, e', bTuple, Bool.and_self]
theorem run_ranking {st : Cl.ST} {q : PL} {a b : Int} {size : Nat} (hq : getP st q = some (pool a b)) (hs : size ≤ 1000) : ∃ r a' b', IsRk size r ∧ cRun F_law_ranking st [.pl q, .t (.int size)] = .ok (.t (rkP r)) (Cl.setP st q (pool a' b')) := by
  obtain ⟨r, a', b', h, e⟩ := ranking_eq a b size hs
  exact ⟨r, a', b', h, cRun_i2 hq e⟩
theorem rk_rev {r : List Int} : (PV.tup .x (iL r).reverse) = rkP r.reverse := by rw [iL, ← List.map_reverse]
theorem at_lastR {rs : List (List Int)} {r : List Int} (hl : rs.length ≤ 1000) : atI (rksP (rs ++ [r])) (-1) = some (rkP r) := by
  have hx : ixN (rksP (rs ++ [r])).length (-1) = some rs.length := by
    unfold ixN
    simp
    omega
  unfold atI
  rw [hx]
  simp [rksP]
theorem rankings_eq (a b : Int) (size most : Nat) (hs : size ≤ 1000) (hm : 0 < most) (hm2 : most ≤ 900) :
    ∃ rs a' b', 0 < rs.length ∧ rs.length ≤ most ∧ (∀ r ∈ rs, IsRk size r) ∧ F_law_rankings [.i (pool a b), .t (.int size), .t (.int most)] = .ok (.n (.lst (rksP rs))) [pool a' b'] := by
  have hz1 : szOk 1 = true := by decide
  obtain ⟨f, a1, b1, hf, ef⟩ := ranking_eq a b size hs
  have loop : ∀ (ps : List PV) (rs : List (List Int)) (a b : Int) (x y z : Option SL), (∀ r ∈ rs, IsRk size r) → 0 < rs.length → rs.length + ps.length ≤ 1000 →
      ∃ rs' a' b' x' y', forL (forB (tgN 4) p_law_rankings_0) ps ⟨[some (.i 0), some (.t (.int size)), z, some (.m (.lst (rksP rs))), x, y], [pool a b]⟩ =
        .nx ⟨[some (.i 0), some (.t (.int size)), z, some (.m (.lst (rksP rs'))), x', y'], [pool a' b']⟩ ∧ (∀ r ∈ rs', IsRk size r) ∧ rs'.length = rs.length + ps.length := by
    intro ps
    induction ps with
    | nil => intro rs a b x y z h1 h0 h2; exact ⟨rs, a, b, x, y, rfl, h1, rfl⟩
    | cons p ps ih =>
      intro rs a b x y z h1 h0 h2
      rw [List.length_cons] at h2
      obtain ⟨t, a3, b3, t0, t4, et⟩ := run_take (st := ⟨[some (.i 0), some (.t (.int size)), z, some (.m (.lst (rksP rs))), some (.t p), y], [pool a b]⟩) (q := .ih 0) (a := a) (b := b) (n := 4) rfl (by omega) (by omega)
      have turn : ∃ (q : List Int) (a4 b4 : Int), IsRk size q ∧ forB (tgN 4) p_law_rankings_0 p ⟨[some (.i 0), some (.t (.int size)), z, some (.m (.lst (rksP rs))), x, y], [pool a b]⟩ =
          .nx ⟨[some (.i 0), some (.t (.int size)), z, some (.m (.lst (rksP (rs ++ [q])))), some (.t p), some (.t (.int t))], [pool a4 b4]⟩ := by
        have oa : ∀ q, opAppend (rksP rs) [rkP q] = some (.non, rksP (rs ++ [q])) := fun q => by simp [opAppend]; omega
        by_cases e0 : t = 0
        · subst e0
          obtain ⟨g, rs1, rfl⟩ : ∃ g rs1, rs = g :: rs1 := by
            cases rs with
            | nil => simp at h0
            | cons g rs1 => exact ⟨g, rs1, rfl⟩
          have a0 : atI (rksP (g :: rs1)) 0 = some (rkP g) := by have := atI_rk (rs := g :: rs1) (p := 0) (by simp); simpa using this
          refine ⟨g, a3, b3, h1 g (List.mem_cons_self ..), ?_⟩
          simp only [ev_bind_ok, ev_bind_stuck, ev_bind_exc, ev_cC, ev_ofO, ev_ofM, ev_cVar, ev_cMv, ev_mMv, ev_cUn, ev_cBin, ev_cNil, ev_cCons, ev_views_nil, ev_views_cons, ev_view_t, ev_view_sl, ev_view_ih, ev_pv_lst, ev_pv_obj, ev_pv_dct, ev_cList, ev_mList, ev_cTruth, ev_cAnd, ev_cOr, ev_cNot, ev_cAndV, ev_cOrV, ev_cNotV, ev_cIf, ev_cYes, ev_cChain, ev_cDisp, ev_mDisp, ev_trees_nil, ev_trees_cons, ev_cFrz, ev_sNil, ev_sNo, ev_sSeq, ev_bindS_ok, ev_bindS_stuck, ev_sExpr, ev_sRet, ev_sRetN, ev_sRetM, ev_sIf, ev_sSet, ev_sSetM, ev_sAsg, ev_sItem, ev_getP_sl, ev_getP_ih, ev_setP_sl, ev_setP_ih, ev_set, ev_sets_nil, ev_sets_cons, ev_tgN, ev_tgS_tup, ev_tgS_lst, ev_tgs_nil, ev_tgs_cons, ev_nNil, ev_nT, ev_nM, ev_sPar, ev_setFs_nil, ev_setFs_t, ev_setFs_n, ev_cPl, ev_cCallF, ev_mCallF, ev_fcDef, ev_fcDefM, ev_mRg1, ev_cRng1, ev_cIt, ev_sFor, ev_part_p, ev_part_x, ev_part_a, ev_join_p, ev_join_x, ev_join_a, ev_join_px, ev_join_pa, ev_clear_nil, ev_clear_cons, ev_restore_nil, ev_restore_cons, List.set, List.getElem?_cons_succ, List.getElem?_cons_zero, Option.bind_some, Option.map_some, List.length_cons, List.length_nil, if_true, Bool.not_true, Bool.not_false, Bool.false_eq_true, if_false, reduceIte, decide_true, decide_false, Nat.reduceAdd, Nat.zero_add, List.getD_cons_succ, List.getD_cons_zero, forB, p_law_rankings_0, pick2, et, pEq_int, pIx, a0, oa]
        · by_cases e1 : t = 1
          · subst e1
            obtain ⟨rs1, g, rfl⟩ : ∃ rs1 g, rs = rs1 ++ [g] := ⟨rs.dropLast, rs.getLast (List.ne_nil_of_length_pos h0), (List.dropLast_concat_getLast _).symm⟩
            have al : atI (rksP (rs1 ++ [g])) (-1) = some (rkP g) := at_lastR (by simp at h2; omega)
            have hg : IsRk size g := h1 g (by simp)
            refine ⟨g.reverse, a3, b3, hg.rev, ?_⟩
            have dn : decide ((1 : Int) = 0) = false := by decide
            simp only [ev_bind_ok, ev_bind_stuck, ev_bind_exc, ev_cC, ev_ofO, ev_ofM, ev_cVar, ev_cMv, ev_mMv, ev_cUn, ev_cBin, ev_cNil, ev_cCons, ev_views_nil, ev_views_cons, ev_view_t, ev_view_sl, ev_view_ih, ev_pv_lst, ev_pv_obj, ev_pv_dct, ev_cList, ev_mList, ev_cTruth, ev_cAnd, ev_cOr, ev_cNot, ev_cAndV, ev_cOrV, ev_cNotV, ev_cIf, ev_cYes, ev_cChain, ev_cDisp, ev_mDisp, ev_trees_nil, ev_trees_cons, ev_cFrz, ev_sNil, ev_sNo, ev_sSeq, ev_bindS_ok, ev_bindS_stuck, ev_sExpr, ev_sRet, ev_sRetN, ev_sRetM, ev_sIf, ev_sSet, ev_sSetM, ev_sAsg, ev_sItem, ev_getP_sl, ev_getP_ih, ev_setP_sl, ev_setP_ih, ev_set, ev_sets_nil, ev_sets_cons, ev_tgN, ev_tgS_tup, ev_tgS_lst, ev_tgs_nil, ev_tgs_cons, ev_nNil, ev_nT, ev_nM, ev_sPar, ev_setFs_nil, ev_setFs_t, ev_setFs_n, ev_cPl, ev_cCallF, ev_mCallF, ev_fcDef, ev_fcDefM, ev_mRg1, ev_cRng1, ev_cIt, ev_sFor, ev_part_p, ev_part_x, ev_part_a, ev_join_p, ev_join_x, ev_join_a, ev_join_px, ev_join_pa, ev_clear_nil, ev_clear_cons, ev_restore_nil, ev_restore_cons, List.set, List.getElem?_cons_succ, List.getElem?_cons_zero, Option.bind_some, Option.map_some, List.length_cons, List.length_nil, if_true, Bool.not_true, Bool.not_false, Bool.false_eq_true, if_false, reduceIte, decide_true, decide_false, Nat.reduceAdd, Nat.zero_add, List.getD_cons_succ, List.getD_cons_zero, forB, p_law_rankings_0, pick2, et, pEq_int, dn, pNeg, pIx, al, cRev, rk_rev, oa]
          · obtain ⟨o, a4, b4, ho, eo⟩ := run_ranking (st := ⟨[some (.i 0), some (.t (.int size)), z, some (.m (.lst (rksP rs))), some (.t p), some (.t (.int t))], [pool a3 b3]⟩) (q := .ih 0) (a := a3) (b := b3) rfl hs
            have d0 : decide (t = 0) = false := decide_eq_false e0
            have d1 : decide (t = 1) = false := decide_eq_false e1
            refine ⟨o, a4, b4, ho, ?_⟩
            simp only [ev_bind_ok, ev_bind_stuck, ev_bind_exc, ev_cC, ev_ofO, ev_ofM, ev_cVar, ev_cMv, ev_mMv, ev_cUn, ev_cBin, ev_cNil, ev_cCons, ev_views_nil, ev_views_cons, ev_view_t, ev_view_sl, ev_view_ih, ev_pv_lst, ev_pv_obj, ev_pv_dct, ev_cList, ev_mList, ev_cTruth, ev_cAnd, ev_cOr, ev_cNot, ev_cAndV, ev_cOrV, ev_cNotV, ev_cIf, ev_cYes, ev_cChain, ev_cDisp, ev_mDisp, ev_trees_nil, ev_trees_cons, ev_cFrz, ev_sNil, ev_sNo, ev_sSeq, ev_bindS_ok, ev_bindS_stuck, ev_sExpr, ev_sRet, ev_sRetN, ev_sRetM, ev_sIf, ev_sSet, ev_sSetM, ev_sAsg, ev_sItem, ev_getP_sl, ev_getP_ih, ev_setP_sl, ev_setP_ih, ev_set, ev_sets_nil, ev_sets_cons, ev_tgN, ev_tgS_tup, ev_tgS_lst, ev_tgs_nil, ev_tgs_cons, ev_nNil, ev_nT, ev_nM, ev_sPar, ev_setFs_nil, ev_setFs_t, ev_setFs_n, ev_cPl, ev_cCallF, ev_mCallF, ev_fcDef, ev_fcDefM, ev_mRg1, ev_cRng1, ev_cIt, ev_sFor, ev_part_p, ev_part_x, ev_part_a, ev_join_p, ev_join_x, ev_join_a, ev_join_px, ev_join_pa, ev_clear_nil, ev_clear_cons, ev_restore_nil, ev_restore_cons, List.set, List.getElem?_cons_succ, List.getElem?_cons_zero, Option.bind_some, Option.map_some, List.length_cons, List.length_nil, if_true, Bool.not_true, Bool.not_false, Bool.false_eq_true, if_false, reduceIte, decide_true, decide_false, Nat.reduceAdd, Nat.zero_add, List.getD_cons_succ, List.getD_cons_zero, forB, p_law_rankings_0, pick2, et, pEq_int, d0, d1, eo, oa]
      obtain ⟨q, a4, b4, hq, step⟩ := turn
      obtain ⟨rs', a', b', x', y', e, h3, h4⟩ := ih (rs ++ [q]) a4 b4 (some (.t p)) (some (.t (.int t))) z (fun r hr => by
        rcases List.mem_append.mp hr with h | h
        · exact h1 r h
        · rw [List.mem_singleton.mp h]; exact hq) (by simp) (by rw [List.length_append]; simp; omega)
      refine ⟨rs', a', b', x', y', ?_, h3, by rw [h4, List.length_append, List.length_cons]; simp; omega⟩
      unfold forL
      rw [step]
      exact e
  obtain ⟨t, a2, b2, t0, t1, et⟩ := run_take (st := ⟨[some (.i 0), some (.t (.int size)), some (.t (.int most)), some (.m (.lst [rkP f])), none, none], [pool a1 b1]⟩) (q := .ih 0) (a := a1) (b := b1) (n := most) rfl (by omega) (by omega)
  have htn : (t : Int) = (t.toNat : Nat) := (Int.toNat_of_nonneg t0).symm
  obtain ⟨rs', a', b', x', y', e, h3, h4⟩ := loop (iL (rg t.toNat)) [f] a2 b2 none none (some (.t (.int most))) (fun r hr => by rw [List.mem_singleton.mp hr]; exact hf) (by simp) (by simp [rg_length]; omega)
  rw [List.length_map, rg_length] at h4
  refine ⟨rs', a', b', by rw [h4, List.length_singleton]; omega, by rw [h4, List.length_singleton]; omega, h3, ?_⟩
  have hsm1 : smallI t = true := by simp [smallI]; omega
  have ef' : cRun F_law_ranking ⟨[some (.i 0), some (.t (.int size)), some (.t (.int most)), none, none, none], [pool a b]⟩ [.pl (.ih 0), .t (.int size)] = .ok (.t (rkP f)) ⟨[some (.i 0), some (.t (.int size)), some (.t (.int most)), none, none, none], [pool a1 b1]⟩ := cRun_i2 rfl ef
  have e' : forL (forB (tgN 4) p_law_rankings_0) (iL (rg t.toNat)) ⟨[some (.i 0), some (.t (.int size)), some (.t (.int most)), some (.m (.lst [rkP f])), none, none], [pool a2 b2]⟩ = _ := e
  unfold F_law_rankings runF g_law_rankings
  simp only [ev_bind_ok, ev_bind_stuck, ev_bind_exc, ev_cC, ev_ofO, ev_ofM, ev_cVar, ev_cMv, ev_mMv, ev_cUn, ev_cBin, ev_cNil, ev_cCons, ev_views_nil, ev_views_cons, ev_view_t, ev_view_sl, ev_view_ih, ev_pv_lst, ev_pv_obj, ev_pv_dct, ev_cList, ev_mList, ev_cTruth, ev_cAnd, ev_cOr, ev_cNot, ev_cAndV, ev_cOrV, ev_cNotV, ev_cIf, ev_cYes, ev_cChain, ev_cDisp, ev_mDisp, ev_trees_nil, ev_trees_cons, ev_cFrz, ev_sNil, ev_sNo, ev_sSeq, ev_bindS_ok, ev_bindS_stuck, ev_sExpr, ev_sRet, ev_sRetN, ev_sRetM, ev_sIf, ev_sSet, ev_sSetM, ev_sAsg, ev_sItem, ev_getP_sl, ev_getP_ih, ev_setP_sl, ev_setP_ih, ev_set, ev_sets_nil, ev_sets_cons, ev_tgN, ev_tgS_tup, ev_tgS_lst, ev_tgs_nil, ev_tgs_cons, ev_nNil, ev_nT, ev_nM, ev_sPar, ev_setFs_nil, ev_setFs_t, ev_setFs_n, ev_cPl, ev_cCallF, ev_mCallF, ev_fcDef, ev_fcDefM, ev_mRg1, ev_cRng1, ev_cIt, ev_sFor, ev_part_p, ev_part_x, ev_part_a, ev_join_p, ev_join_x, ev_join_a, ev_join_px, ev_join_pa, ev_clear_nil, ev_clear_cons, ev_restore_nil, ev_restore_cons, List.set, List.getElem?_cons_succ, List.getElem?_cons_zero, Option.bind_some, Option.map_some, List.length_cons, List.length_nil, if_true, Bool.not_true, Bool.not_false, Bool.false_eq_true, if_false, reduceIte, decide_true, decide_false, Nat.reduceAdd, Nat.zero_add, List.getD_cons_succ, List.getD_cons_zero, enter, slots, conts, List.replicate, List.cons_append, List.nil_append, Nat.reduceSub, pick2, ef', hz1, et, hsm1, rngL_rg, e']
theorem run_rankings {st : Cl.ST} {q : PL} {a b : Int} {size most : Nat} (hq : getP st q = some (pool a b)) (hs : size ≤ 1000) (hm : 0 < most) (hm2 : most ≤ 900) :
    ∃ rs a' b', 0 < rs.length ∧ rs.length ≤ most ∧ (∀ r ∈ rs, IsRk size r) ∧ cRun F_law_rankings st [.pl q, .t (.int size), .t (.int most)] = .ok (.t (.lst (rksP rs))) (Cl.setP st q (pool a' b')) := by
  obtain ⟨rs, a', b', h0, h1, h2, e⟩ := rankings_eq a b size most hs hm hm2
  exact ⟨rs, a', b', h0, h1, h2, cRun_n3 hq e⟩
end StdO
set_option maxHeartbeats 4000000
set_option maxHeartbeats 4000000
set_option maxHeartbeats 4000000
set_option maxHeartbeats 4000000
set_option maxHeartbeats 4000000
set_option maxHeartbeats 4000000
set_option maxHeartbeats 4000000
namespace Std
open Cl PySem PySem.Spec PyProof.Rows L2
mutual
def rwt : PV → Option Nat
  | .non => some 4
  | .bl _ => some 5
  | .int i => if i.natAbs < 1000000 then some (i.natAbs + 2) else none
  | .lst ps => (rwts ps).map (· + 2)
  | .tup _ ps => (rwts ps).map (· + 3)
  | _ => none
def rwts : List PV → Option Nat
  | [] => some 0
  | p :: ps => (rwt p).bind fun a => (rwts ps).map fun b => a + 2 + b
end
mutual
def rdp : PV → Nat
  | .lst ps => rdps ps + 1
  | .tup _ ps => rdps ps + 1
  | _ => 0
def rdps : List PV → Nat
  | [] => 0
  | p :: ps => max (rdp p) (rdps ps)
end
theorem listText_le {ts : List PySem.Str} : (listText ts).length ≤ 2 + piled ts := by
  have e : (listText ts).length = (textFrom 0 "[" ts).length + 1 := by
    unfold listText
    rw [strLen_append]
    rfl
  have e1 : (("[" : String) : PySem.Str).length = 1 := rfl
  rw [e]
  cases ts with
  | nil =>
    have : (textFrom 0 "[" []).length = 1 := e1
    rw [this]
    omega
  | cons t r =>
    have h := textFrom_length_pos r 1 (("[" : PySem.Str) ++ (if 0 > 0 then ", " else "" : String) ++ t) (by omega)
    have e2 : (textFrom 0 "[" (t :: r)) = textFrom 1 (("[" : PySem.Str) ++ (if 0 > 0 then ", " else "" : String) ++ t) r := rfl
    rw [e2, h, strLen_append, strLen_append, piled_cons, e1]
    have e3 : ((if 0 > 0 then ", " else "" : String) : PySem.Str).length = 0 := rfl
    rw [e3]
    omega
theorem tupleText_le {ts : List PySem.Str} : (tupleText ts).length ≤ 3 + piled ts := by
  unfold tupleText
  rw [strLen_append, strLen_append]
  have e1 : (("(" : String) : PySem.Str).length = 1 := rfl
  have e2 : ((if ts.length == 1 then ",)" else ")" : String) : PySem.Str).length ≤ 2 := by
    cases ts.length == 1
    · exact Nat.le_succ 1
    · exact Nat.le_refl 2
  rw [e1]
  cases ts with
  | nil =>
    have : (PySem.Str.join ", " []).length = 0 := rfl
    rw [this]
    omega
  | cons t r =>
    have := join_length_add (t :: r) (by simp)
    omega
mutual
theorem rwt_ok : ∀ {p : PV} {n : Nat}, rwt p = some n → ∃ d, toD p = some d ∧ d.showable = true ∧ d.depth = rdp p ∧ d.shown.length ≤ n
  | .non, n, h => by
    simp only [rwt, Option.some.injEq] at h
    subst h
    exact ⟨.none, rfl, by simp [PyData.showable], by simp [PyData.depth, rdp], by show PySem.Str.length ((if true then "None" else "None" : String) : PySem.Str) ≤ 4; exact Nat.le_refl 4⟩
  | .bl b, n, h => by
    simp only [rwt, Option.some.injEq] at h
    subst h
    refine ⟨.bool b, rfl, by simp [PyData.showable], by simp [PyData.depth, rdp], ?_⟩
    cases b
    · exact Nat.le_refl 5
    · exact Nat.le_succ 4
  | .int i, n, h => by
    unfold rwt at h
    split at h
    · rename_i hi
      cases h
      refine ⟨.int i, rfl, ?_, by simp [PyData.depth, rdp], ?_⟩
      · have : i.natAbs.log2 < 1920 := by
          by_cases h0 : i.natAbs = 0
          · rw [h0]; decide
          · have : i.natAbs.log2 < 20 := (Nat.log2_lt h0).mpr (by omega)
            omega
        simp [PyData.showable, this]
      · have h2 := len_str_of_int i
        have e : (PyData.int i).shown = PySem.Str.ofString (toString i) := by simp [PyData.shown]
        rw [e]
        omega
    · cases h
  | .lst ps, n, h => by
    simp only [rwt, Option.map_eq_some_iff] at h
    obtain ⟨k, h, rfl⟩ := h
    obtain ⟨ds, e1, e2, e3, e4⟩ := rwts_ok h
    refine ⟨.list ds, by simp [toD, e1], by simp [PyData.showable, e2], by simp [PyData.depth, rdp, e3], ?_⟩
    have := listText_le (ts := PyData.shownAll ds)
    simp only [PyData.shown]
    omega
  | .tup _ ps, n, h => by
    simp only [rwt, Option.map_eq_some_iff] at h
    obtain ⟨k, h, rfl⟩ := h
    obtain ⟨ds, e1, e2, e3, e4⟩ := rwts_ok h
    refine ⟨.tuple ds, by simp [toD, e1], by simp [PyData.showable, e2], by simp [PyData.depth, rdp, e3], ?_⟩
    have := tupleText_le (ts := PyData.shownAll ds)
    simp only [PyData.shown]
    omega
  | .str _, _, h => by simp [rwt] at h
  | .ty _, _, h => by simp [rwt] at h
  | .fn _, _, h => by simp [rwt] at h
  | .dct _, _, h => by simp [rwt] at h
  | .obj _ _, _, h => by simp [rwt] at h
  | .scr _, _, h => by simp [rwt] at h
theorem rwts_ok : ∀ {ps : List PV} {n : Nat}, rwts ps = some n → ∃ ds, toDs ps = some ds ∧ PyData.showableAll ds = true ∧ PyData.depthAll ds = rdps ps ∧ piled (PyData.shownAll ds) ≤ n
  | [], n, h => by
    simp only [rwts, Option.some.injEq] at h
    subst h
    exact ⟨[], rfl, by simp [PyData.showableAll], by simp [PyData.depthAll, rdps], by simp [PyData.shownAll, piled]⟩
  | p :: ps, n, h => by
    simp only [rwts, Option.bind_eq_some_iff, Option.map_eq_some_iff] at h
    obtain ⟨a, h1, b, h2, rfl⟩ := h
    obtain ⟨d, e1, e2, e3, e4⟩ := rwt_ok h1
    obtain ⟨ds, f1, f2, f3, f4⟩ := rwts_ok h2
    refine ⟨d :: ds, by simp [toDs, e1, f1], by simp [PyData.showableAll, e2, f2], by simp [PyData.depthAll, rdps, e3, f3], ?_⟩
    simp only [PyData.shownAll, piled_cons]
    omega
end
def Sml (w k : Nat) (p : PV) : Prop := ∃ n, rwt p = some n ∧ n ≤ w ∧ rdp p ≤ k
theorem Sml.mono {w k w' k' : Nat} {p : PV} (h : Sml w k p) (h1 : w ≤ w') (h2 : k ≤ k') : Sml w' k' p := by
  obtain ⟨n, a, b, c⟩ := h
  exact ⟨n, a, by omega, by omega⟩
theorem Sml.int {i : Int} (h : i.natAbs ≤ 1000) : Sml 1002 0 (.int i) := ⟨i.natAbs + 2, by simp [rwt]; omega, by omega, by simp [rdp]⟩
theorem smls {w k : Nat} : ∀ {ps : List PV}, (∀ p ∈ ps, Sml w k p) → ∃ n, rwts ps = some n ∧ n ≤ (w + 2) * ps.length ∧ rdps ps ≤ k
  | [], _ => ⟨0, by simp [rwts], by simp, by simp [rdps]⟩
  | p :: ps, h => by
    obtain ⟨a, h1, h2, h3⟩ := h p (List.mem_cons_self ..)
    obtain ⟨b, g1, g2, g3⟩ := smls fun q hq => h q (List.mem_cons_of_mem _ hq)
    refine ⟨a + 2 + b, by simp [rwts, h1, g1], ?_, by simp [rdps]; omega⟩
    rw [List.length_cons, Nat.mul_add]
    omega
theorem Sml.lst {w k n : Nat} {ps : List PV} (h : ∀ p ∈ ps, Sml w k p) (hn : ps.length ≤ n) : Sml ((w + 2) * n + 3) (k + 1) (.lst ps) := by
  obtain ⟨a, h1, h2, h3⟩ := smls h
  have := Nat.mul_le_mul_left (w + 2) hn
  exact ⟨a + 2, by simp [rwt, h1], by omega, by simp [rdp]; omega⟩
theorem Sml.tup {f : TF} {w k n : Nat} {ps : List PV} (h : ∀ p ∈ ps, Sml w k p) (hn : ps.length ≤ n) : Sml ((w + 2) * n + 3) (k + 1) (.tup f ps) := by
  obtain ⟨a, h1, h2, h3⟩ := smls h
  have := Nat.mul_le_mul_left (w + 2) hn
  exact ⟨a + 3, by simp [rwt, h1], by omega, by simp [rdp]; omega⟩
theorem Sml.ints {n : Nat} {tup : Option TF} {ns : List Int} (h : ∀ i ∈ ns, i.natAbs ≤ 1000) (hn : ns.length ≤ n) : Sml (1004 * n + 3) 1 (sqP tup (iL ns)) := by
  have : ∀ p ∈ iL ns, Sml 1002 0 p := fun p hp => by
    obtain ⟨i, hi, rfl⟩ := List.mem_map.mp hp
    exact Sml.int (h i hi)
  cases tup
  · exact Sml.lst this (by simpa using hn)
  · exact Sml.tup this (by simpa using hn)
end Std
set_option maxHeartbeats 4000000
set_option maxHeartbeats 4000000
namespace Cl
open Std PySem PySem.Spec PyProof.Rows L2
section
variable {st : Cl.ST} {i j : Int} {tup : Option TF} {b c : Bool} {k : TF} {ps qs : List PV} {lo hi : Option Int} {fa fb : Cm SV} {fs fk : Cm (List SV)}
theorem ev_pAdd_i : pAdd (.int i) (.int j) = some (.int (i + j)) := rfl
theorem ev_pSub_i : pSub (.int i) (.int j) = some (.int (i - j)) := rfl
theorem ev_pNeg_i : pNeg (.int i) = some (.int (-i)) := rfl
theorem ev_pCmp_i {f : Int → Int → Bool} : pCmp f (.int i) (.int j) = some (.bl (f i j)) := rfl
theorem ev_pEq_i : pEq (.int i) (.int j) = some (.bl (decide (i = j))) := pEq_int
theorem ev_pNe_i : pNe (.int i) (.int j) = some (.bl (!decide (i = j))) := pNe_int
theorem ev_pIsB : pIsB (.bl b) (.bl c) = some (.bl (decide (b = c))) := rfl
theorem ev_pNotB : pNotB (.bl b) (.bl c) = some (.bl (!decide (b = c))) := rfl
theorem ev_len_l : bLen [.lst ps] = some (.int (ps.length : Nat)) := rfl
theorem ev_len_t : bLen [.tup k ps] = some (.int (ps.length : Nat)) := rfl
theorem ev_len_sq : bLen [sqP tup ps] = some (.int (ps.length : Nat)) := sq_len
theorem ev_len_scr {ns : List Int} : bLen [.scr ns] = some (.int (ns.length : Nat)) := rfl
theorem ev_sl_l : pSl (.lst ps) lo hi = some (.lst (cut ps lo hi)) := rfl
theorem ev_sl_t : pSl (.tup k ps) lo hi = some (.tup k.part (cut ps lo hi)) := rfl
theorem ev_sl_sq : pSl (sqP tup ps) lo hi = some (sqP (tup.map TF.part) (cut ps lo hi)) := by cases tup <;> rfl
theorem ev_list_l : bList [.lst ps] = some (.lst ps) := rfl
theorem ev_list_t : bList [.tup k ps] = some (.lst ps) := rfl
theorem ev_list_sq : bList [sqP tup ps] = some (.lst ps) := bList_sq
theorem ev_tuple_l : bTuple [.lst ps] = some (.tup .x ps) := rfl
theorem ev_tuple_t : bTuple [.tup k ps] = some (.tup k ps) := rfl
theorem ev_tuple_sq : bTuple [sqP tup ps] = some (sqP (some (tup.getD .x)) ps) := by cases tup <;> rfl
theorem ev_isN_n : pIsN .non = some (.bl true) := rfl
theorem ev_isN_i : pIsN (.int i) = some (.bl false) := rfl
theorem ev_isN_sq : pIsN (sqP tup ps) = some (.bl false) := by cases tup <;> rfl
theorem ev_isN_l : pIsN (.lst ps) = some (.bl false) := rfl
theorem ev_isN_t : pIsN (.tup k ps) = some (.bl false) := rfl
theorem ev_notN_n : pNotN .non = some (.bl false) := rfl
theorem ev_notN_i : pNotN (.int i) = some (.bl true) := rfl
theorem ev_notN_sq : pNotN (sqP tup ps) = some (.bl true) := by cases tup <;> rfl
theorem ev_pick1 {x : SV} : pickS [.inl 0] [x] = [x] := rfl
theorem ev_pick2 {x y : SV} : pickS [.inl 0, .inl 1] [x, y] = [x, y] := rfl
theorem ev_pick3 {x y z : SV} : pickS [.inl 0, .inl 1, .inl 2] [x, y, z] = [x, y, z] := rfl
theorem ev_pick4 {x y z u : SV} : pickS [.inl 0, .inl 1, .inl 2, .inl 3] [x, y, z, u] = [x, y, z, u] := rfl
theorem ev_pick5 {x y z u v : SV} : pickS [.inl 0, .inl 1, .inl 2, .inl 3, .inl 4] [x, y, z, u, v] = [x, y, z, u, v] := rfl
theorem ev_pick1d {x : SV} {p : PV} : pickS [.inl 0, .inr p] [x] = [x, .t p] := rfl
theorem ev_pick2d {x y : SV} {p : PV} : pickS [.inl 0, .inl 1, .inr p] [x, y] = [x, y, .t p] := rfl
theorem ev_pick3d {x y z : SV} {p : PV} : pickS [.inl 0, .inl 1, .inl 2, .inr p] [x, y, z] = [x, y, z, .t p] := rfl
theorem ev_cNoPart : cNoPart st = .ok none st := rfl
theorem ev_cPart : cPart fa st = (fa st).bind fun x st1 => match x with
  | .t (.int i) => .ok (some i) st1
  | _ => .stuck := rfl
theorem ev_cSl {fl fh : Cm (Option Int)} : cSl fa fl fh st = (fa st).bind fun x st1 => (fl st1).bind fun lo st2 => (fh st2).bind fun hi st3 => ofO st3 ((view st3 x).bind fun p => pSl p lo hi) := rfl
theorem ev_forB {tg : TgF} {body : Sm} {p : PV} : forB tg body p st = match tg p with
  | some l => body (st.sets l)
  | none => .stuck := rfl
theorem ev_mCallK {n m : Nat} {pl : Plan} {F : Fm} : mCallK n m pl F fs fk st = (fs st).bind fun xs st1 => (fk st1).bind fun zs st2 => if xs.length = n ∧ zs.length = m then cRunM F st2 (pickS pl (xs ++ zs)) else .stuck := rfl
theorem ev_cDClear : cDClear fa st = (fa st).bind fun x st1 => match x with
  | .pl q => match getP st1 q with
    | some (.dct _) => .ok (.t .non) (setP st1 q (.dct []))
    | _ => .stuck
  | _ => .stuck := rfl
theorem ev_runF {n : Nat} {g : Sm} {as : List Arg} : runF n g as = match g (enter n as) with
  | .nx st => .ok (.t .non) st.inh
  | .rt r st => .ok r st.inh
  | .exc c fs st => .exc c fs st.inh
  | _ => .stuck := rfl
theorem ev_sDItem {fv fo fi : Cm SV} : sDItem fv fo fi st = bindS (fv st) fun x st1 => bindS (fo st1) fun o st2 => bindS (fi st2) fun i st3 => match x, o, i with
  | .t p, .pl q, .t k => match getP st3 q with
    | some (.dct kvs) => if (keyOf k).isSome = true ∧ szOk (kvs.length + 1) = true then .nx (setP st3 q (.dct (putPK kvs k p))) else .stuck
    | _ => .stuck
  | _, _, _ => .stuck := rfl
theorem ev_cMeth_o {c : Nat} {m : PySem.Str} {Fc : List SV → Cm SV} : cMeth c m Fc fa fs st = (fa st).bind fun x st1 => match view st1 x with
  | some (.obj c' hs) => if c' = c ∧ (hs.lookup m).isNone = true then (fs st1).bind fun xs st2 => Fc (x :: xs) st2 else .stuck
  | _ => .stuck := rfl
theorem ev_cProp_o {c : Nat} {Fc : List SV → Cm SV} : cProp c Fc fa st = (fa st).bind fun x st1 => match view st1 x with
  | some (.obj c' _) => if c' = c then noX (Fc [x] st1) else .stuck
  | _ => .stuck := rfl
theorem ev_noX_ok {α : Type} {x : α} : noX (Out.ok x st) = .ok x st := rfl
theorem ev_cRev : cRev fa st = (fa st).bind fun x st1 => match view st1 x with
  | some (.lst ps) => .ok (.t (.lst ps.reverse)) st1
  | some (.tup k ps) => .ok (.t (.tup k ps.reverse)) st1
  | _ => .stuck := rfl
theorem ev_cEn : cEn fs st = (fs st).bind fun xs st1 => match xs with
  | [.t (.lst ps)] => .ok (enumL 0 ps) st1
  | [.t (.tup _ ps)] => .ok (enumL 0 ps) st1
  | _ => .stuck := rfl
theorem ev_cRng2 : cRng2 fs st = (fs st).bind fun xs st1 => match xs with
  | [.t (.int i), .t (.int j)] => if smallI i = true ∧ smallI j = true then .ok (rngL i 1 (j - i).toNat) st1 else .stuck
  | _ => .stuck := rfl
theorem ev_mRg2 : mRg2 fa fb st = (fa st).bind fun x st1 => (fb st1).bind fun y st2 => match x, y with
  | .t (.int i), .t (.int j) => if (smallI i && smallI j) && decide ((j - i).toNat ≤ 16777216) then .ok (.lst (rngL i 1 (j - i).toNat)) st2 else .stuck
  | _, _ => .stuck := rfl
theorem ev_lk_ranking {x : PV} : ([("orders", x)] : List (PySem.Str × PV)).lookup ("ranking" : PySem.Str) = none := rfl
theorem ev_lk_rankings {x : PV} : ([("orders", x)] : List (PySem.Str × PV)).lookup ("rankings" : PySem.Str) = none := rfl
theorem ev_lk_worst {x : PV} : ([("orders", x)] : List (PySem.Str × PV)).lookup ("worst" : PySem.Str) = none := rfl
theorem ev_lk_prefers {x : PV} : ([("orders", x)] : List (PySem.Str × PV)).lookup ("prefers" : PySem.Str) = none := rfl
theorem ev_lk_is_left {x : PV} : ([("orders", x)] : List (PySem.Str × PV)).lookup ("is_left" : PySem.Str) = none := rfl
theorem ev_lk_check_player {x : PV} : ([("orders", x)] : List (PySem.Str × PV)).lookup ("check_player" : PySem.Str) = none := rfl
theorem ev_lk_check_alternative {x : PV} : ([("orders", x)] : List (PySem.Str × PV)).lookup ("check_alternative" : PySem.Str) = none := rfl
theorem ev_lk_with_ranking {x : PV} : ([("orders", x)] : List (PySem.Str × PV)).lookup ("with_ranking" : PySem.Str) = none := rfl
theorem ev_lk_renamed {x : PV} : ([("orders", x)] : List (PySem.Str × PV)).lookup ("renamed" : PySem.Str) = none := rfl
theorem ev_fld_orders {rs : PV} : pFld [0] "orders" (.obj 0 [("orders", rs)]) = some rs := rfl
theorem ev_isNone : (none : Option PV).isNone = true := rfl
theorem ev_iL_len {ns : List Int} : (iL ns).length = ns.length := List.length_map ..
theorem ev_rksP_len {rs : List (List Int)} : (rksP rs).length = rs.length := rksP_length
theorem ev_bindS_exc {α : Type} {m : Nat} {hs : List (PySem.Str × PV)} {k : α → ST → OutS} : bindS (.exc m hs st : Out α) k = .exc m hs st := rfl
def itP : PV → Option (List PV)
  | .lst ps => some ps
  | .tup _ ps => some ps
  | _ => none
def itX (x : SV) (st : Cl.ST) : Out (List PV) := match x with
  | .t p => match itP p with
    | some ps => .ok ps st
    | none => .stuck
  | _ => .stuck
theorem ev_itP_l : itP (.lst ps) = some ps := rfl
theorem ev_itP_t : itP (.tup k ps) = some ps := rfl
theorem ev_itP_sq : itP (sqP tup ps) = some ps := by cases tup <;> rfl
theorem ev_itX {p : PV} : itX (.t p) st = match itP p with
    | some ps => .ok ps st
    | none => .stuck := rfl
theorem ev_cIt2 : cIt fa st = (fa st).bind itX := by
  rw [ev_cIt]
  congr 1
  funext x st1
  cases x with
  | t p => cases p <;> rfl
  | pl q => rfl
end
end Cl
local macro_rules
  | `(tactic| simp only [seval, $ts,*] $[$loc]?) => `(tactic| simp only [Cl.ev_bind_ok, Cl.ev_bind_stuck, Cl.ev_bind_exc, Cl.ev_cC, Cl.ev_ofO, Cl.ev_ofM, Cl.ev_cVar, Cl.ev_cMv, Cl.ev_mMv, Cl.ev_cUn, Cl.ev_cBin, Cl.ev_cNil, Cl.ev_cCons, Cl.ev_views_nil, Cl.ev_views_cons, Cl.ev_view_t, Cl.ev_view_sl, Cl.ev_view_ih, Cl.ev_pv_lst, Cl.ev_pv_obj, Cl.ev_pv_dct, Cl.ev_cList, Cl.ev_mList, Cl.ev_cTruth, Cl.ev_cAnd, Cl.ev_cOr, Cl.ev_cNot, Cl.ev_cAndV, Cl.ev_cOrV, Cl.ev_cNotV, Cl.ev_cIf, Cl.ev_cYes, Cl.ev_cChain, Cl.ev_cDisp, Cl.ev_mDisp, Cl.ev_trees_nil, Cl.ev_trees_cons, Cl.ev_cFrz, Cl.ev_sNil, Cl.ev_sNo, Cl.ev_sSeq, Cl.ev_bindS_ok, Cl.ev_bindS_stuck, Cl.ev_sExpr, Cl.ev_sRet, Cl.ev_sRetN, Cl.ev_sRetM, Cl.ev_sIf, Cl.ev_sSet, Cl.ev_sSetM, Cl.ev_sAsg, Cl.ev_sItem, Cl.ev_getP_sl, Cl.ev_getP_ih, Cl.ev_setP_sl, Cl.ev_setP_ih, Cl.ev_set, Cl.ev_sets_nil, Cl.ev_sets_cons, Cl.ev_tgN, Cl.ev_tgS_tup, Cl.ev_tgS_lst, Cl.ev_tgs_nil, Cl.ev_tgs_cons, Cl.ev_nNil, Cl.ev_nT, Cl.ev_nM, Cl.ev_sPar, Cl.ev_setFs_nil, Cl.ev_setFs_t, Cl.ev_setFs_n, Cl.ev_cPl, Cl.ev_cCallF, Cl.ev_mCallF, Cl.ev_fcDef, Cl.ev_fcDefM, Cl.ev_mRg1, Cl.ev_cRng1, Cl.ev_sFor, Cl.ev_part_p, Cl.ev_part_x, Cl.ev_part_a, Cl.ev_join_p, Cl.ev_join_x, Cl.ev_join_a, Cl.ev_join_px, Cl.ev_join_pa, Cl.ev_clear_nil, Cl.ev_clear_cons, Cl.ev_restore_nil, Cl.ev_restore_cons, Cl.ev_cCallK, Cl.ev_gNil, Cl.ev_gSeq, Cl.ev_gPlain, Cl.ev_gYield, Cl.ev_gFor, Cl.ev_sForY, Cl.ev_mLcY, Cl.ev_cGen, Std.ev_mDct0, Cl.ev_pAdd_i, Cl.ev_pSub_i, Cl.ev_pNeg_i, Cl.ev_pCmp_i, Cl.ev_pEq_i, Cl.ev_pNe_i, Cl.ev_pIsB, Cl.ev_pNotB, Cl.ev_len_l, Cl.ev_len_t, Cl.ev_len_sq, Cl.ev_len_scr, Cl.ev_sl_l, Cl.ev_sl_t, Cl.ev_sl_sq, Cl.ev_list_l, Cl.ev_list_t, Cl.ev_list_sq, Cl.ev_tuple_l, Cl.ev_tuple_t, Cl.ev_tuple_sq, Cl.ev_isN_n, Cl.ev_isN_i, Cl.ev_isN_sq, Cl.ev_isN_l, Cl.ev_isN_t, Cl.ev_notN_n, Cl.ev_notN_i, Cl.ev_notN_sq, Cl.ev_pick1, Cl.ev_pick2, Cl.ev_pick3, Cl.ev_pick4, Cl.ev_pick5, Cl.ev_pick1d, Cl.ev_pick2d, Cl.ev_pick3d, Cl.ev_cNoPart, Cl.ev_cPart, Cl.ev_cSl, Cl.ev_forB, Cl.ev_mCallK, Cl.ev_cDClear, Cl.ev_runF, Cl.ev_sDItem, Cl.ev_cMeth_o, Cl.ev_cProp_o, Cl.ev_noX_ok, Cl.ev_cRev, Cl.ev_cEn, Cl.ev_cRng2, Cl.ev_mRg2, Cl.ev_lk_ranking, Cl.ev_lk_rankings, Cl.ev_lk_worst, Cl.ev_lk_prefers, Cl.ev_lk_is_left, Cl.ev_lk_check_player, Cl.ev_lk_check_alternative, Cl.ev_lk_with_ranking, Cl.ev_lk_renamed, Cl.ev_fld_orders, Cl.ev_isNone, Cl.ev_iL_len, Cl.ev_rksP_len, Cl.ev_bindS_exc, Cl.ev_itP_l, Cl.ev_itP_t, Cl.ev_itP_sq, Cl.ev_itX, Cl.ev_cIt2, reduceCtorEq, List.reduceReplicate, Int.reduceEq, Int.reduceNe, Int.reduceLT, Int.reduceLE, Int.reduceGT, Int.reduceGE, Int.reduceAdd, Int.reduceSub, Int.reduceMul, Int.reduceNeg, Int.reduceToNat, Int.reduceBEq, Int.reduceDiv, Int.reduceMod, Int.reducePow, Int.reduceAbs, Nat.reduceEqDiff, Nat.reduceLeDiff, Nat.reduceGT, Nat.reduceLT, Nat.reduceBEq, Nat.reduceSub, Nat.reduceMul, Nat.reduceAdd, Nat.reduceDiv, Nat.reduceMod, Nat.reducePow, Nat.reduceSubDiff, reduceIte, reduceDIte, Int.cast_ofNat_Int, $ts,*] $[$loc]?)
set_option maxHeartbeats 4000000
namespace Std
open Cl PySem PySem.Spec PyProof.Rows L2
theorem forLp_of {g : PV → Sm} {I : Cl.ST → Prop} : ∀ {ps : List PV} {st : Cl.ST} {X : OutS}, forL g ps st = X → I st → (∀ p ∈ ps, ∀ st, I st → ∃ st', g p st = .nx st' ∧ I st') → ∃ st', X = .nx st' ∧ I st'
  | [], st, X, hX, h, _ => ⟨st, hX.symm, h⟩
  | n :: ns, st, X, hX, h, step => by
    obtain ⟨st1, e, h1⟩ := step n (List.mem_cons_self ..) st h
    refine forLp_of (ps := ns) (st := st1) ?_ h1 fun m hm => step m (List.mem_cons_of_mem _ hm)
    rw [← hX]
    conv => rhs; unfold forL
    rw [e]
end Std
set_option maxHeartbeats 4000000
namespace Cl
open PySem PySem.Spec PyProof.Rows L2 StX ClX
def sgIn (i : Option Nat) (a : Addr) (σ : Sg) : Sg := match i with
  | some i => σ.set i (some (.ref a))
  | none => σ
def dEnd (i : Option Nat) (D : Ends) : Ends := match i with
  | some i => { nx := fun σ' H' => D.nx (σ'.set i none) H', rt := D.rt, bk := fun σ' H' => D.bk (σ'.set i none) H', ct := fun σ' H' => D.ct (σ'.set i none) H' }
  | none => D
def wG (K : PySem.W.Frag) (Wout : WX) (D : Ends) : List (Value × Option Nat × TS) → WX
  | [] => Wout
  | (c, i, ts) :: r => fun cls d σ H => ∃ b, PySem.W.exmOne K cls c = some b ∧ (b = true → ∀ a, H a = none → ts (dEnd i D) (sgIn i a σ) (upd H a (xob a cls d))) ∧ (b = false → wG K Wout D r cls d σ H)
inductive HdG (X : Cx) : List ExceptHandler → List (Value × Option Nat × TS) → Prop
  | nil : HdG X [] []
  | as {x n : PySem.Str} {c : Value} {i : Nat} {ts : TS} {b₀ : Stmt} {suite : List Stmt} {np pos' : Pos} {hds : List ExceptHandler} {l : List (Value × Option Nat × TS)} (hc : Names X x c) (hi : X.N[i]? = some n) (hl : X.env.kindOf n = some .local)
      (hsu : ∀ (a : Addr) (pn : List (Addr × Obj)), PSs (X.suite a pn) (b₀ :: suite) ts) (r : HdG X hds l) : HdG X (.ExceptHandler (some (.Name x np)) (some n) (b₀ :: suite) pos' :: hds) ((c, some i, ts) :: l)
  | no {x : PySem.Str} {c : Value} {ts : TS} {b₀ : Stmt} {suite : List Stmt} {np pos' : Pos} {hds : List ExceptHandler} {l : List (Value × Option Nat × TS)} (hc : Names X x c)
      (hsu : ∀ (a : Addr) (pn : List (Addr × Obj)), PSs (X.suite a pn) (b₀ :: suite) ts) (r : HdG X hds l) : HdG X (.ExceptHandler (some (.Name x np)) none (b₀ :: suite) pos' :: hds) ((c, none, ts) :: l)
structure Hdl where
  cs : List Nat
  slot : Option Nat
  g : Sm
def clr (i : Option Nat) (st : ST) : ST := match i with
  | some i => st.clear [i]
  | none => st
def hEnd (i : Option Nat) : OutS → OutS
  | .nx st => .nx (clr i st)
  | .rt r st => .rt r (clr i st)
  | .bk st => .bk (clr i st)
  | .ct st => .ct (clr i st)
  | _ => .stuck
def hIn (i : Option Nat) (c : Nat) (fs : List (PySem.Str × PV)) (st : ST) : ST := match i with
  | some i => st.set i (some (.t (.xo c fs)))
  | none => st
def hGo : List Hdl → Nat → List (PySem.Str × PV) → ST → OutS
  | [], c, fs, st => .exc c fs st
  | h :: r, c, fs, st => if c ∈ h.cs then hEnd h.slot (h.g (hIn h.slot c fs st)) else hGo r c fs st
def Catch (G : Gd) (K : PySem.W.Frag) (known : List Nat) (c : Value) (cs : List Nat) : Prop := ∀ k ∈ known, PySem.W.exmOne K (.ref (G.cls k)) c = some (decide (k ∈ cs))
inductive HX (G : Gd) (X : Cx) (known : List Nat) : List ExceptHandler → List Hdl → Prop
  | nil : HX G X known [] []
  | as {x n : PySem.Str} {c : Value} {i : Nat} {cs : List Nat} {g : Sm} {b₀ : Stmt} {suite : List Stmt} {np pos' : Pos} {hds : List ExceptHandler} {l : List Hdl} (hc : Names X x c) (k : Catch G X.K known c cs) (hi : X.N[i]? = some n) (hl : X.env.kindOf n = some .local)
      (hsu : ∀ (a : Addr) (pn : List (Addr × Obj)), CSs G (X.suite a pn) wx0 (b₀ :: suite) g) (r : HX G X known hds l) : HX G X known (.ExceptHandler (some (.Name x np)) (some n) (b₀ :: suite) pos' :: hds) (⟨cs, some i, g⟩ :: l)
  | no {x : PySem.Str} {c : Value} {cs : List Nat} {g : Sm} {b₀ : Stmt} {suite : List Stmt} {np pos' : Pos} {hds : List ExceptHandler} {l : List Hdl} (hc : Names X x c) (k : Catch G X.K known c cs)
      (hsu : ∀ (a : Addr) (pn : List (Addr × Obj)), CSs G (X.suite a pn) wx0 (b₀ :: suite) g) (r : HX G X known hds l) : HX G X known (.ExceptHandler (some (.Name x np)) none (b₀ :: suite) pos' :: hds) (⟨cs, none, g⟩ :: l)
section
variable {G : Gd} {X : Cx} {Wx : WX} {known : List Nat} {body : List Stmt} {h₀ : ExceptHandler} {hds : List ExceptHandler} {hs : List Hdl} {pos : Pos} {fb : Sm}
theorem HX.list (h : HX G X known hds hs) : ∃ l, HdG X hds l ∧ l.length = hs.length ∧ ∀ (Wout : WX) (D : Ends) (W : Wd) (st st1 : ST) (σ σ' : Sg) (H H' : Hp) (W' : Wd) (c : Nat) (fs : List (PySem.Str × PV)) (d : Option Addr), c ∈ known →
    R G W' st1 σ' H' → Step (own W st σ) W H (own W' st1 σ') W' H' → RepX G W' H' fs d → OutSA G Wout W st σ H (hGo hs c fs st1) D → wG X.K Wout D l (.ref (G.cls c)) d σ' H' := by
  -- what a clause's suite must do
  have key : ∀ {i : Option Nat} {g : Sm} {D : Ends} {Wout : WX} {W W' : Wd} {st st1 : ST} {σ σ' : Sg} {H H' : Hp} {c : Nat} {fs : List (PySem.Str × PV)} {d : Option Addr} {a : Addr}, R G W' st1 σ' H' → Step (own W st σ) W H (own W' st1 σ') W' H' → RepX G W' H' fs d → H' a = none →
      OutSA G Wout W st σ H (hEnd i (g (hIn i c fs st1))) D → tS G wx0 g (dEnd i D) (sgIn i a σ') (upd H' a (xob a (.ref (G.cls c)) d)) := by
    intro i g D Wout W W' st st1 σ σ' H H' c fs d a r s x na o
    have r2 := r.new (o := xob a (.ref (G.cls c)) d) na
    have s2 := r.step_new (o := xob a (.ref (G.cls c)) d) na
    have rep : Rep G (upd W'.F a (xob a (.ref (G.cls c)) d)) (.xo c fs) (.ref a) := by
      cases d with
      | none =>
        have x : fs = [] := x
        subst x
        exact .xo0 upd_same
      | some d =>
        obtain ⟨hs, x1, x2⟩ := x
        exact .xo upd_same (s2.f _ _ x1) (x2.mono s2.f)
    cases i with
    | none =>
      refine ⟨_, st1, r2, ?_⟩
      have o' : OutSA G Wout W st σ H (hEnd none (g st1)) D := o
      cases eg : g st1 with
      | nx st3 => rw [eg] at o'; exact fun W3 σ3 H3 r3 s3 => o' W3 σ3 H3 r3 ((s.trans s2).trans s3)
      | bk st3 => rw [eg] at o'; exact fun W3 σ3 H3 r3 s3 => o' W3 σ3 H3 r3 ((s.trans s2).trans s3)
      | ct st3 => rw [eg] at o'; exact fun W3 σ3 H3 r3 s3 => o' W3 σ3 H3 r3 ((s.trans s2).trans s3)
      | rt v st3 =>
        rw [eg] at o'
        refine fun W3 σ3 H3 u r3 s3 k => o' W3 σ3 H3 u r3 ((s.trans s2).trans s3) ?_
        cases v with
        | t p => exact k
        | n m =>
          obtain ⟨b, e, q, n1, n2, n3⟩ := k
          exact ⟨b, e, q, n1, n2, (s.trans s2).born n3⟩
        | u m p =>
          obtain ⟨t, b, w, e, e1, e2, q, n1, n2, n3⟩ := k
          exact ⟨t, b, w, e, e1, e2, q, n1, n2, (s.trans s2).born n3⟩
        | v p m =>
          obtain ⟨t, b, w, e, e1, e2, q, n1, n2, n3⟩ := k
          exact ⟨t, b, w, e, e1, e2, q, n1, n2, (s.trans s2).born n3⟩
      | exc c2 fs2 st3 => rw [eg] at o'; exact o'.elim
      | stuck => rw [eg] at o'; exact o'.elim
    | some i =>
      have r4 := r2.setT i rep
      have s4 : Step (own W st σ) W H (own ⟨upd W'.F a (xob a (.ref (G.cls c)) d), W'.A⟩ (st1.set i (some (.t (.xo c fs)))) (σ'.set i (some (.ref a)))) ⟨upd W'.F a (xob a (.ref (G.cls c)) d), W'.A⟩ (upd H' a (xob a (.ref (G.cls c)) d)) := (s.trans s2).trans (R.setT_step i)
      refine ⟨_, st1.set i (some (.t (.xo c fs))), r4, ?_⟩
      have o' : OutSA G Wout W st σ H (hEnd (some i) (g (st1.set i (some (.t (.xo c fs)))))) D := o
      have cl : ∀ {W3 : Wd} {st3 : ST} {σ3 : Sg} {H3 : Hp}, R G W3 st3 σ3 H3 → R G W3 (st3.clear [i]) (σ3.set i none) H3 ∧ Step (own W3 st3 σ3) W3 H3 (own W3 (st3.clear [i]) (σ3.set i none)) W3 H3 := fun {W3 st3 σ3 H3} r3 =>
        ⟨r3.clear (vs := [i]), Step.sub (own_clear_sub r3 (vs := [i]))⟩
      cases eg : g (st1.set i (some (.t (.xo c fs)))) with
      | nx st3 =>
        rw [eg] at o'
        exact fun W3 σ3 H3 r3 s3 => o' W3 _ H3 (cl r3).1 ((s4.trans s3).trans (cl r3).2)
      | bk st3 => rw [eg] at o'; exact fun W3 σ3 H3 r3 s3 => o' W3 _ H3 (cl r3).1 ((s4.trans s3).trans (cl r3).2)
      | ct st3 => rw [eg] at o'; exact fun W3 σ3 H3 r3 s3 => o' W3 _ H3 (cl r3).1 ((s4.trans s3).trans (cl r3).2)
      | rt v st3 =>
        rw [eg] at o'
        refine fun W3 σ3 H3 u r3 s3 k => o' W3 _ H3 u (cl r3).1 ((s4.trans s3).trans (cl r3).2) ?_
        cases v with
        | t p => exact k
        | n m =>
          obtain ⟨b, e, q, n1, n2, n3⟩ := k
          exact ⟨b, e, q, fun z => n1 (own_clear_sub r3 (vs := [i]) _ z), n2, s4.born n3⟩
        | u m p =>
          obtain ⟨t, b, w, e, e1, e2, q, n1, n2, n3⟩ := k
          exact ⟨t, b, w, e, e1, e2, q, fun z => n1 (own_clear_sub r3 (vs := [i]) _ z), n2, s4.born n3⟩
        | v p m =>
          obtain ⟨t, b, w, e, e1, e2, q, n1, n2, n3⟩ := k
          exact ⟨t, b, w, e, e1, e2, q, fun z => n1 (own_clear_sub r3 (vs := [i]) _ z), n2, s4.born n3⟩
      | exc c2 fs2 st3 => rw [eg] at o'; exact o'.elim
      | stuck => rw [eg] at o'; exact o'.elim
  induction h with
  | nil => exact ⟨[], .nil, rfl, fun Wout D W st st1 σ σ' H H' W' c fs d _ r s x o => o W' σ' H' d r s x⟩
  | @as x n c0 i cs g b₀ suite np pos' hds l hc k hi hl hsu r ih =>
    obtain ⟨l', h1, h2, h3⟩ := ih
    refine ⟨(c0, some i, tS G wx0 g) :: l', .as hc hi hl (fun a pn => (hsu a pn).pss) h1, by simp [h2], fun Wout D W st st1 σ σ' H H' W' c fs d hk r s x o => ?_⟩
    refine ⟨decide (c ∈ cs), k c hk, fun hb a na => ?_, fun hb => ?_⟩
    · have hb := of_decide_eq_true hb
      have o : OutSA G Wout W st σ H (if c ∈ cs then hEnd (some i) (g (hIn (some i) c fs st1)) else hGo l c fs st1) D := o
      rw [if_pos hb] at o
      exact key r s x na o
    · have hb := of_decide_eq_false hb
      have o : OutSA G Wout W st σ H (if c ∈ cs then hEnd (some i) (g (hIn (some i) c fs st1)) else hGo l c fs st1) D := o
      rw [if_neg hb] at o
      exact h3 Wout D W st st1 σ σ' H H' W' c fs d hk r s x o
  | @no x c0 cs g b₀ suite np pos' hds l hc k hsu r ih =>
    obtain ⟨l', h1, h2, h3⟩ := ih
    refine ⟨(c0, none, tS G wx0 g) :: l', .no hc (fun a pn => (hsu a pn).pss) h1, by simp [h2], fun Wout D W st st1 σ σ' H H' W' c fs d hk r s x o => ?_⟩
    refine ⟨decide (c ∈ cs), k c hk, fun hb a na => ?_, fun hb => ?_⟩
    · have hb := of_decide_eq_true hb
      have o : OutSA G Wout W st σ H (if c ∈ cs then hEnd none (g (hIn none c fs st1)) else hGo l c fs st1) D := o
      rw [if_pos hb] at o
      exact key r s x na o
    · have hb := of_decide_eq_false hb
      have o : OutSA G Wout W st σ H (if c ∈ cs then hEnd none (g (hIn none c fs st1)) else hGo l c fs st1) D := o
      rw [if_neg hb] at o
      exact h3 Wout D W st st1 σ σ' H H' W' c fs d hk r s x o
end
end Cl
set_option maxHeartbeats 4000000
namespace Cl
open PySem PySem.Spec PyProof.Rows L2 StX ClX
section
variable {X : Cx} {e : Expr} {te : TE} {pos : Pos} {n : PySem.Str} {pins : List (Addr × Obj)} {σ : Sg} {H : Hp} {s : Shared}
theorem xob_at {a : Addr} {cls : Value} {d : Option Addr} (I : Inv X pins σ H s) (e : H a = some (xob a cls d)) : ∃ (o : Obj) (vs : Array Value), s.heap.get? a = some o ∧ o.cls = cls ∧ o.dict = d ∧ o.data = .fields vs := by
  have x : ObjOk X.prog X.w H s.heap a (.ext fun h => ∃ (o : Obj) (vs : Array Value), h.get? a = some o ∧ o.cls = cls ∧ o.dict = d ∧ o.data = .fields vs) := I.hok a _ e
  exact x.1
def tXt (K : PySem.W.Frag) (f : PySem.Str) (te : TE) : TE := fun σ H Q => te σ H fun x H1 => ∃ (a C dd : Addr) (fs : List (PySem.Str × V)) (v : V), x = .ref a ∧ XfC K C ∧ PySem.W.findIn K (.ref C) f = some none ∧ H1 a = some (xob a (.ref C) (some dd)) ∧ H1 dd = some (.xd fs) ∧ fs.lookup f = some v ∧ Q v H1
theorem pe_xt (he : PE X e te) (hb : attributeBase e n X.env (eval e X.env) = eval e X.env := by rfl) : PE X (.Attribute e n pos) (tXt X.K n te) := by
  refine ⟨fun pins s σ H Q I h => ?_⟩
  refine attr_of hb (thn (he.run pins s σ H _ I h) fun u s1 hh => ?_)
  obtain ⟨x, H1, I1, rx, a, C, dd, fs, v, ex, T, hno, ea, ed, l, q⟩ := hh
  subst ex
  obtain rfl : u = Value.ref a := rx
  obtain ⟨oe, vs, ha, hc, hdd, hd⟩ := xob_at I1 ea
  have hx : ObjOk X.prog X.w H1 s1.heap dd (.xd fs) := I1.hok dd _ ed
  obtain ⟨mA, hns, hr⟩ := hx
  obtain ⟨od, ho, hl⟩ := lookIn_ns hns
  obtain ⟨u, hu, ru⟩ := RelO.some_of (v := v) (o := mA n) (by rw [← l]; exact hr n)
  have J : PySem.W.InstAt s1.heap a oe C (some od) := ⟨ha, hc, by unfold PySem.W.notCls; rw [hd] <;> rfl, by rw [hdd]; exact ho⟩
  exact HandSPX.exc_get I1.kIn J T.ga T.gg T.exC (PySem.W.findObj_own T.hdC hno rfl (by rw [hl, hu])) (handed_of ru) ⟨v, H1, I1.tok _, ru, q⟩
end
def pXf (cs : List Nat) (f : PySem.Str) : PV → Option PV
  | .xo c fs => if c ∈ cs then fs.lookup f else none
  | _ => none
section
variable {G : Gd} {X : Cx} {Wx : WX} {a : Expr} {fa : Cm SV} {pos : Pos}
theorem xo_fld {F : Hp} {c : Nat} {fs : List (PySem.Str × PV)} {v : V} {f : PySem.Str} {p : PV} (r : Rep G F (.xo c fs) v) (l : fs.lookup f = some p) : ∃ (a dd : Addr) (hs : List (PySem.Str × V)) (u : V), v = .ref a ∧ F a = some (xob a (.ref (G.cls c)) (some dd)) ∧ F dd = some (.xd hs) ∧ hs.lookup f = some u ∧ Rep G F p u := by
  cases r with
  | xo r1 r2 r3 =>
    obtain ⟨u, e1, e2⟩ := r3.lookup.1 p l
    exact ⟨_, _, _, u, rfl, r1, r2, e1, e2⟩
  | xo0 r1 => cases l
theorem ce_xf {cs : List Nat} {f : PySem.Str} (hc : ∀ c ∈ cs, XfC X.K (G.cls c) ∧ PySem.W.findIn X.K (.ref (G.cls c)) f = some none) (ha : CE G X Wx a fa) (hb : attributeBase a f X.env (eval a X.env) = eval a X.env := by rfl) : CE G X Wx (.Attribute a f pos) (cUn (pXf cs f) fa) := by
  refine ⟨pe_imp (pe_xt ha.pe hb) fun σ H Q q => ?_⟩
  refine un_step (r := fun x H1 Q => ∃ (a C dd : Addr) (fs : List (PySem.Str × V)) (v : V), x = .ref a ∧ XfC X.K C ∧ PySem.W.findIn X.K (.ref C) f = some none ∧ H1 a = some (xob a (.ref C) (some dd)) ∧ H1 dd = some (.xd fs) ∧ fs.lookup f = some v ∧ Q v H1) (fun W st σ H p z u Q r vr e g => ?_) q
  unfold pXf at e
  split at e
  · rename_i c fs
    split at e
    · rename_i hk
      obtain ⟨h1, h2⟩ := hc c hk
      obtain ⟨a, dd, hs, u', rfl, r1, r2, r3, r4⟩ := xo_fld (show Rep G W.F (.xo c fs) u from vr) e
      exact ⟨a, G.cls c, dd, hs, u', rfl, h1, h2, r.le _ _ r1, r.le _ _ r2, r3, g.here r r4⟩
    · cases e
  · cases e
end
theorem exc_ok {K : PySem.W.Frag} {x : PySem.Str} (h : faExc x K = true) : ExcC K (He.ga K x) := by
  obtain ⟨h1, h⟩ := He.ba h
  obtain ⟨h2, h⟩ := He.ba h
  obtain ⟨h3, h⟩ := He.ba h
  obtain ⟨h4, h⟩ := He.ba h
  obtain ⟨h5, h⟩ := He.ba h
  obtain ⟨h6, h⟩ := He.ba h
  obtain ⟨h7, h8⟩ := He.ba h
  exact ⟨He.eqO_ok h1, He.eqO_ok h2, of_decide_eq_true h3, h4, He.eqO_ok h5, He.eqO_ok h6, of_decide_eq_true h7, of_decide_eq_true h8⟩
structure XTb (G : Gd) (K : PySem.W.Frag) (tb : List (Nat × CK × Bool)) : Prop where
  ok : ∀ r ∈ tb, ExcC K (G.cls r.1) ∧ PySem.W.kitOne K (.ref (G.cls r.1)) (r.2.1.val G) = some r.2.2
theorem XTb.nil {G : Gd} {K : PySem.W.Frag} : XTb G K [] := ⟨fun _ h => nomatch h⟩
theorem XTb.cons {G : Gd} {K : PySem.W.Frag} {tb : List (Nat × CK × Bool)} {n : Nat} {k : CK} {b : Bool} (h1 : ExcC K (G.cls n)) (h2 : PySem.W.kitOne K (.ref (G.cls n)) (k.val G) = some b) (h : XTb G K tb) : XTb G K ((n, k, b) :: tb) := ⟨fun r hr => by
  rcases List.mem_cons.mp hr with e | hr
  · rw [e]; exact ⟨h1, h2⟩
  · exact h.ok r hr⟩
def xLook : List (Nat × CK × Bool) → Nat → CK → Option Bool
  | [], _, _ => none
  | (n, k, b) :: r, m, l => if n = m ∧ k = l then some b else xLook r m l
theorem xLook_mem : ∀ {tb : List (Nat × CK × Bool)} {n : Nat} {k : CK} {b : Bool}, xLook tb n k = some b → (n, k, b) ∈ tb
  | [], _, _, _, h => nomatch h
  | (m, l, c) :: r, n, k, b, h => by
    unfold xLook at h
    split at h
    · rename_i e
      obtain ⟨e1, e2⟩ := e
      subst e1 e2
      cases h
      exact List.mem_cons_self ..
    · exact List.mem_cons_of_mem _ (xLook_mem h)
def bIsx (tb : List (Nat × CK × Bool)) : List PV → Option PV
  | [.xo c _, k] => (ckOf k).bind fun k => (xLook tb c k).map .bl
  | _ => none
theorem xo_ref {G : Gd} {F : Hp} {c : Nat} {fs : List (PySem.Str × PV)} {v : V} (r : Rep G F (.xo c fs) v) : ∃ (a : Addr) (d : Option Addr), v = .ref a ∧ F a = some (xob a (.ref (G.cls c)) d) ∧ ∀ dd, d = some dd → ∃ hs, F dd = some (.xd hs) := by
  cases r with
  | xo r1 r2 r3 => exact ⟨_, _, rfl, r1, fun dd e => by cases e; exact ⟨_, r2⟩⟩
  | xo0 r1 => exact ⟨_, _, rfl, r1, fun dd e => nomatch e⟩
def rIsX (K : PySem.W.Frag) : List V → Hp → VK → Prop := fun xs H Q => ∃ (a D : Addr) (d : Option Addr) (c : V) (cv : Value) (b : Bool), xs = [.ref a, c] ∧ H a = some (xob a (.ref D) d) ∧ (∀ dd, d = some dd → ∃ hs, H dd = some (.xd hs)) ∧ ExcC K D ∧ (∀ u, RelV c u → u = cv) ∧ PySem.W.kitOne K (.ref D) cv = some b ∧ Q (.bl b) H
theorem call_isX {X : Cx} : CallR X (.builtin "isinstance") (rIsX X.K) := by
  intro pins s σ H xs us Q I r h
  obtain ⟨a, D, d, c, cv, b, rfl, ea, hdd, C, hcv, e, q⟩ := h
  cases r with
  | cons rx rr =>
    cases rr with
    | cons rt rr =>
      cases rr
      cases rx
      have ec := hcv _ rt
      subst ec
      obtain ⟨oe, vs, hget, hcls, hdict, hdata⟩ := xob_at I ea
      have hcl : (PySem.W.clsIn X.K D).isSome = true := by
        obtain ⟨cd, hc, _⟩ := PySem.W.any_some C.hd
        rw [hc]; rfl
      have J : ∃ od, PySem.W.InstAt s.heap a oe D od := by
        cases d with
        | none => exact ⟨none, hget, hcls, by unfold PySem.W.notCls; rw [hdata] <;> rfl, by rw [hdict]; trivial⟩
        | some dd =>
          obtain ⟨hs, hd⟩ := hdd dd rfl
          have hx : ObjOk X.prog X.w H s.heap dd (.xd hs) := I.hok dd _ hd
          obtain ⟨mA, hns, hr⟩ := hx
          obtain ⟨od, ho, hl⟩ := lookIn_ns hns
          exact ⟨some od, hget, hcls, by unfold PySem.W.notCls; rw [hdata] <;> rfl, by rw [hdict]; exact ho⟩
      obtain ⟨od, J⟩ := J
      exact PySem.W.kia_one (PySem.W.kitx_exc hcl C.hg C.hk C.hs C.ha C.hn C.ht C.hm) I.kIn J e (fun z => nomatch z) fun tk => ⟨.bl b, H, I.kept (t' := tk) fun _ _ z => z, rfl, q⟩
theorem ckv_unique {G : Gd} {k : CK} {v : V} (h : ClsV v (k.val G)) : ∀ u, RelV v u → u = k.val G := by
  intro u r
  cases k with
  | ty n =>
    have h : ClsV v (.type n) := h
    cases h
    cases r; rfl
  | fn n =>
    have h : ClsV v (.ref (G.fn n)) := h
    cases h
    cases r; rfl
theorem cf_isx {G : Gd} {X : Cx} {tb : List (Nat × CK × Bool)} (T : XTb G X.K tb) : CallF G X (.builtin "isinstance") (bIsx tb) := ⟨_, call_isX, by
  intro W st σ H ps z us Q r a h g
  unfold bIsx at h
  split at h
  · rename_i c fs k
    obtain ⟨k', e1, h⟩ := Option.bind_eq_some_iff.mp h
    obtain ⟨b, e2, rfl⟩ := Option.map_eq_some_iff.mp h
    obtain ⟨u1, u2, rfl, k1, k2⟩ := a.two
    obtain ⟨T1, T2⟩ := T.ok _ (xLook_mem e2)
    obtain ⟨b', d, rfl, r1, r2⟩ := xo_ref (show Rep G W.F (.xo c fs) u1 from k1)
    exact ⟨b', G.cls c, d, u2, k'.val G, b, rfl, r.le _ _ r1, (fun dd e => let ⟨hs, z⟩ := r2 dd e; ⟨hs, r.le _ _ z⟩), T1, ckv_unique (ckV_at k2 e1), T2, g.here r (.bl b)⟩
  · cases h⟩
theorem Tx.oexf {fa : List FaC} {fn : List DefC} {K : PySem.W.Frag} {mg : PySem.Str → Option Value} (T : Tx fa fn K mg) (i : Nat) {x f : PySem.Str} (h : fa[i]? = some (faOex x f) := by rfl) : OexF K (He.ga K x) (He.ma K (He.ga K x) "__init__") f := oexF_ok (T.c.fact i h)
theorem Tx.ein {fa : List FaC} {fn : List DefC} {K : PySem.W.Frag} {mg : PySem.Str → Option Value} (T : Tx fa fn K mg) (i : Nat) {x : PySem.Str} {id : String} (h : fa[i]? = some (faEin x id) := by rfl) : CRead K (He.ga K x) (.type "type") ∧ PySem.W.findCls K (.ref (He.ga K x)) (.type "type") "__init__" = some (.val (.builtin id)) := ein_ok (T.c.fact i h)
theorem Tx.exc {fa : List FaC} {fn : List DefC} {K : PySem.W.Frag} {mg : PySem.Str → Option Value} (T : Tx fa fn K mg) (i : Nat) {x : PySem.Str} (h : fa[i]? = some (faExc x) := by rfl) : ExcC K (He.ga K x) := exc_ok (T.c.fact i h)
theorem Tx.kit {fa : List FaC} {fn : List DefC} {K : PySem.W.Frag} {mg : PySem.Str → Option Value} (T : Tx fa fn K mg) (i : Nat) {x y : PySem.Str} {b : Bool} (h : fa[i]? = some (faKit x y b) := by rfl) : PySem.W.kitOne K (.ref (He.ga K x)) (.ref (He.ga K y)) = some b := of_decide_eq_true (T.c.fact i h)
theorem Tx.kitT {fa : List FaC} {fn : List DefC} {K : PySem.W.Frag} {mg : PySem.Str → Option Value} (T : Tx fa fn K mg) (i : Nat) {x : PySem.Str} {y : String} {b : Bool} (h : fa[i]? = some (faKitT x y b) := by rfl) : PySem.W.kitOne K (.ref (He.ga K x)) (.type y) = some b := of_decide_eq_true (T.c.fact i h)
end Cl
namespace Cl
open PySem PySem.Spec PyProof.Rows L2 StX ClX
def XIni (P : Program) (w : World) (K : PySem.W.Frag) (mg : PySem.Str → Option Value) (base : Heap) (fI : Addr) (f : PySem.Str) : Prop :=
  ∃ fd, FnOk P w K mg base (L2.CX P w) 2 fI fd ["self", f] (spXi K f) ∧ Binds K fd ["self", f] []
end Cl
set_option maxHeartbeats 4000000
set_option maxHeartbeats 4000000
set_option maxHeartbeats 4000000
namespace Cl
open PySem PySem.Spec PyProof.Rows L2 StX ClX
section
variable {G : Gd} {X : Cx} {Wx : WX} {a b : Expr} {pos : Pos} {fa fb : Cm SV} {k : Nat} {f : Addr} {c : Nat} {Fc : List SV → Cm SV}
def cEqO (c : Nat) (Fc : List SV → Cm SV) (fa fb : Cm SV) : Cm SV := fun st => (fa st).bind fun x st1 => (fb st1).bind fun y st2 => match view st2 x, view st2 y with
  | some (.obj c1 _), some (.obj c2 _) => if c1 = c ∧ c2 = c then noX (Fc [x, y] st2) else .stuck
  | _, _ => .stuck
end
structure OTb (G : Gd) (K : PySem.W.Frag) (l : List (Nat × CK × Bool)) : Prop where
  ok : ∀ r ∈ l, InsOk K (G.cls r.1) ∧ PySem.W.kitOne K (.ref (G.cls r.1)) (r.2.1.val G) = some r.2.2
theorem OTb.nil {G : Gd} {K : PySem.W.Frag} : OTb G K [] := ⟨fun _ h => nomatch h⟩
theorem OTb.cons {G : Gd} {K : PySem.W.Frag} {tb : List (Nat × CK × Bool)} {n : Nat} {k : CK} {b : Bool} (h1 : InsOk K (G.cls n)) (h2 : PySem.W.kitOne K (.ref (G.cls n)) (k.val G) = some b) (h : OTb G K tb) : OTb G K ((n, k, b) :: tb) := ⟨fun r hr => by
  rcases List.mem_cons.mp hr with e | hr
  · rw [e]; exact ⟨h1, h2⟩
  · exact h.ok r hr⟩
structure YX (G : Gd) (X : Cx) (Wx : WX) (e : Expr) (f : Cm (List PV)) : Prop where
  ye : YE G X e f
  exc : ∀ (pins : List (Addr × Obj)) (s : Shared) (σ : Sg) (H : Hp) (W : Wd) (st : ST) (c : Nat) (fs : List (PySem.Str × PV)) (st1 : ST), Inv X pins σ H s → R G W st σ H → f st = .exc c fs st1 →
    (∀ W' H' d, R G W' st1 σ H' → Step (own W st σ) W H (own W' st1 σ) W' H' → RepX G W' H' fs d → Wx (.ref (G.cls c)) d σ H') → wpAny (model X.prog X.w) X.A (eval e X.env) (fun _ _ => False) X.xe s
end Cl
set_option maxHeartbeats 4000000
set_option maxHeartbeats 4000000
namespace Cl
open PySem PySem.Spec PyProof.Rows L2 StX ClX
section
variable {G : Gd}
theorem RepT.app {F : Hp} : ∀ {k l : List (List Key × PV)} {h g : List (List Key × V)}, RepT G F k h → RepT G F l g → RepT G F (k ++ l) (h ++ g)
  | _, _, _, _, .nil, s => s
  | _, _, _, _, .cons r t, s => .cons r (RepT.app t s)
theorem RepT.any {F : Hp} {key : List Key} : ∀ {kvs : List (List Key × PV)} {hs : List (List Key × V)}, RepT G F kvs hs → (kvs.any fun kv => decide (kv.1 = key)) = (hs.any fun kv => decide (kv.1 = key))
  | _, _, .nil => rfl
  | _, _, .cons _ l => by rw [List.any_cons, List.any_cons, RepT.any l]
theorem RepT.mapPut {F : Hp} {p : PV} {key : List Key} {v : V} (r : Rep G F p v) : ∀ {kvs : List (List Key × PV)} {hs : List (List Key × V)}, RepT G F kvs hs → RepT G F (kvs.map fun kv => if kv.1 = key then (kv.1, p) else kv) (hs.map fun kv => if kv.1 = key then (kv.1, v) else kv)
  | _, _, .nil => .nil
  | _, _, .cons (key := kj) rj l => by
    rw [List.map_cons, List.map_cons]
    by_cases e : kj = key
    · rw [if_pos e, if_pos e]; exact .cons r (RepT.mapPut r l)
    · rw [if_neg e, if_neg e]; exact .cons rj (RepT.mapPut r l)
end
section
variable {G : Gd} {X : Cx} {Wx : WX} {a b o : Expr} {fa fb fo : Cm SV} {pos : Pos}
theorem GvM.dtp {σ : Sg} {H : Hp} {Q : VK} {W : Wd} {st : ST} {xs : List (List Key × PV)} {vs : List (List Key × V)} (g : GvM G W st σ H (.dtp xs) Q) (r : R G W st σ H) (l : RepT G W.F xs vs) : ∀ p, H p = none → Q (.ref p) (upd H p (.dT vs)) := fun p hp =>
  g W _ p (r.laid hp) (r.laid_step hp) ⟨vs, upd_same, l⟩ (r.notown hp) (r.frno hp) (.inl hp)
end
end Cl
set_option maxHeartbeats 4000000
set_option maxHeartbeats 4000000
namespace Cl
open PySem PySem.Spec PyProof.Rows L2 StX ClX
def fcMakeM (c : Nat) (Fi : List SV → Cm SV) : List SV → Cm MC := fun xs st =>
  match Fi (.pl (.sl st.loc.length) :: xs) (push st (.obj c [])) with
  | .ok (.t .non) st2 => match st2.loc.getLast? with
    | some (some (.m m)) => .ok m (pop st2)
    | _ => .stuck
  | .exc c fs st2 => .exc c fs (pop st2)
  | _ => .stuck
section
variable {G : Gd} {X : Cx} {Wx : WX} {k n c : Nat} {f fi : Addr} {N : List PySem.Str} {pl : Plan} {F : Fm} {sp : Sp} {Fi : List SV → Cm SV}
theorem make_inM {W : Wd} {st : ST} {σ : Sg} {H H2 : Hp} {Q : VK} {xs : List SV} {a : Addr} (r : R G W st σ H) (hn : H a = none) (hs : Same H H2) (hb : ∀ b, H2 b = none → H b = none) (m : H2 a = some (.ins (G.cls c) dx []))
    (o : OutM G Wx W st σ H (fcMakeM c Fi xs st) Q) :
    R G W (push st (.obj c [])) (σ ++ [some (.ref a)]) H2 ∧ OutE G (wxS Wx σ) W (push st (.obj c [])) (σ ++ [some (.ref a)]) H2 (Fi (.pl (.sl st.loc.length) :: xs) (push st (.obj c []))) fun v H3 => v = .non ∧ Q (.ref a) H3 := by
  have r2 : R G W (push st (.obj c [])) (σ ++ [some (.ref a)]) H2 := r.push hn hs ⟨dx, [], m, .nil⟩
  have oe : ∀ b, b ∈ own W (push st (.obj c [])) (σ ++ [some (.ref a)]) → b ∈ own W st σ ∨ b = a := fun b h => by
    unfold own push at h
    rw [owned_snoc r.loc.length] at h
    simp only [List.mem_append, List.mem_singleton] at h
    unfold own
    rw [List.mem_append]
    rcases h with (h | h) | h
    · exact .inl (.inl h)
    · exact .inr h
    · exact .inl (.inr h)
  have back : ∀ {W' : Wd} {st2 : ST} {H' : Hp}, R G W' st2 (σ ++ [some (.ref a)]) H' → Step (own W (push st (.obj c [])) (σ ++ [some (.ref a)])) W H2 (own W' st2 (σ ++ [some (.ref a)])) W' H' →
      Step (own W st σ) W H (own W' (pop st2) σ) W' H' := fun {W' st2 H'} r' s' => by
    obtain ⟨_, sub, _⟩ := r'.pop
    refine ⟨s'.f, s'.a, fun b => ?_, fun b h => ?_, fun b u e h => ?_⟩
    · rcases s'.nf b with z | z | z
      · exact .inl z
      · exact .inr (.inl (NoM.back hs z))
      · rcases oe b z with y | y
        · exact .inr (.inr y)
        · rw [y]; exact .inr (.inl (.of hn))
    · rcases s'.no b (sub b h) with z | z
      · rcases oe b z with y | y
        · exact .inl y
        · rw [y]; exact .inr hn
      · exact .inr (hb b z)
    · refine s'.keep b u (hs b u e) fun z => ?_
      rcases oe b z with y | y
      · exact h y
      · rw [y, hn] at e; cases e
  refine ⟨r2, ?_⟩
  unfold fcMakeM at o
  cases ef : Fi (.pl (.sl st.loc.length) :: xs) (push st (.obj c [])) with
  | ok v st2 =>
    rw [ef] at o
    intro W' H' u r' s' q
    cases v with
    | t p =>
      cases p with
      | non =>
        cases q
        refine ⟨rfl, ?_⟩
        dsimp only at o
        split at o
        · rename_i mm hl
          obtain ⟨r3, sub, k⟩ := r'.pop
          obtain ⟨m3, na, fa⟩ := k mm hl
          exact o W' H' a r3 (back r' s') m3 na fa (.inl hn)
        · exact o.elim
      | _ => exact o.elim
    | pl q => exact o.elim
  | exc c2 fs st2 =>
    rw [ef] at o
    intro W' H' d r' s' q
    exact o W' H' d r'.pop.1 (back r' s') q
  | stuck => rw [ef] at o; exact o.elim
theorem RunOkM.make (M : Mk X.K (G.cls c) fi) (hf : FnP X.prog X.w X.K X.mg X.base k fi sp) (hp : ∀ Wx, Prom G Wx sp Fi) (room : Room (k + 1) X.A) (gd : X.A.guards = some []) (tk : Takes X Wx) : RunOkM G X Wx (G.cls c) (fcMakeM c Fi) := by
  intro pn s σ H Q us vs xs W st I r hs rv o
  have I2 := Inv.made (C := G.cls c) I
  have n1 : H (s.heap.objs.size + 1) = none := I.hok.fresh (Nat.le_succ _)
  have n0 : H s.heap.objs.size = none := I.hok.fresh (Nat.le_refl _)
  have ne : s.heap.objs.size ≠ s.heap.objs.size + 1 := Nat.ne_of_lt (Nat.lt_succ_self _)
  have sm : Same H (upd (upd H s.heap.objs.size (.own (s.heap.objs.size + 1))) (s.heap.objs.size + 1) (.ins (G.cls c) s.heap.objs.size [])) := fun b u e => by
    rw [upd_ne (ne_of_none e n1), upd_ne (ne_of_none e n0)]; exact e
  have bk : ∀ b, (upd (upd H s.heap.objs.size (.own (s.heap.objs.size + 1))) (s.heap.objs.size + 1) (.ins (G.cls c) s.heap.objs.size [])) b = none → H b = none := fun b e => by
    cases q : H b with
    | none => rfl
    | some u => have := sm b u q; rw [e] at this; cases this
  obtain ⟨r2, o2⟩ := make_inM (Wx := Wx) r n1 sm bk upd_same o
  have hs2 : RepSs G W (σ ++ [some (.ref (s.heap.objs.size + 1))]) (.pl (.sl st.loc.length) :: xs) (.ref (s.heap.objs.size + 1) :: vs) := by
    refine .cons ?_ (Paired.mono (fun x v z => ?_) hs)
    · show (σ ++ [some (V.ref (s.heap.objs.size + 1))])[st.loc.length]? = _
      rw [r.loc.length]
      simp
    · cases x with
      | t p => exact z
      | pl q =>
        cases q with
        | sl j =>
          have z : σ[j]? = some (some v) := z
          show (σ ++ [some (V.ref (s.heap.objs.size + 1))])[j]? = some (some v)
          rw [List.getElem?_append_left (List.getElem?_eq_some_iff.mp z).1]
          exact z
        | ih n => exact z
  have hq := hp (wxS Wx σ) W _ _ _ _ _ _ r2 hs2 o2
  have rv2 : Vals (V.ref (s.heap.objs.size + 1) :: vs) (Value.ref (s.heap.objs.size + 1) :: us) := .cons rfl rv
  refine wpAny_call (make_map (f := fi) I.kIn M.makes M.init (beq_iff_eq.mp M.fn) (codeAny_mono (hf _ X.stack _ _ (Value.ref (s.heap.objs.size + 1) :: us) _ _ _ (room.make (G.cls c) us []) (make_guards gd) (I2.env0.make (G.cls c) us []) rv2 hq) fun z s' q => ?_))
  cases z with
  | error er => exact tk er s' (XE.of_call I2 (fun cls d H' w => w) q)
  | ok fl =>
    cases fl with
    | ret u =>
      obtain ⟨v, H', I3, rv3, ev, q3⟩ := I2.after q
      subst ev
      exact ⟨rv3, ⟨V.ref (s.heap.objs.size + 1), H', I3, rfl, q3⟩⟩
    | next => exact False.elim q
    | brk => exact False.elim q
    | cont => exact False.elim q
end
mutual
def tupP : PV → Bool
  | .non => true
  | .bl _ => true
  | .int _ => true
  | .str _ => true
  | .tup _ xs => tupPs xs
  | _ => false
def tupPs : List PV → Bool
  | [] => true
  | x :: xs => tupP x && tupPs xs
end
section
variable {G : Gd} {F F' : Hp}
mutual
theorem Rep.tups (h : ∀ k b vs, TupAt k F b vs → TupAt k F' b vs) : ∀ {p : PV} {v : V}, tupP p = true → Rep G F p v → Rep G F' p v
  | .non, _, _, .non => .non
  | .bl b, _, _, .bl _ => .bl b
  | .int i, _, _, .int _ => .int i
  | .str x, _, _, .str _ => .str x
  | .tup k xs, _, e, .tup r l => .tup (h _ _ _ r) (RepL.tups h (by simpa [tupP] using e) l)
  | .ty _, _, e, _ => by simp [tupP] at e
  | .fn _, _, e, _ => by simp [tupP] at e
  | .lst _, _, e, _ => by simp [tupP] at e
  | .scr _, _, e, _ => by simp [tupP] at e
  | .dct _, _, e, _ => by simp [tupP] at e
  | .dtp _, _, e, _ => by simp [tupP] at e
  | .dtn _, _, e, _ => by simp [tupP] at e
  | .dmx _ _, _, e, _ => by simp [tupP] at e
  | .obj _ _, _, e, _ => by simp [tupP] at e
  | .xo _ _, _, e, _ => by simp [tupP] at e
  | .tbl, _, e, _ => by simp [tupP] at e
  | .adr _, _, e, _ => by simp [tupP] at e
  | .clo _ _ _ _ _, _, e, _ => by simp [tupP] at e
theorem RepL.tups (h : ∀ k b vs, TupAt k F b vs → TupAt k F' b vs) : ∀ {p : List PV} {v : List V}, tupPs p = true → RepL G F p v → RepL G F' p v
  | _, _, _, .nil => .nil
  | _, _, e, .cons r l => by
    rw [tupPs, Bool.and_eq_true] at e
    exact .cons (Rep.tups h e.1 r) (RepL.tups h e.2 l)
end
end
end Cl
set_option maxHeartbeats 4000000
set_option maxHeartbeats 4000000
set_option maxHeartbeats 4000000
namespace Cl
open PySem PySem.Spec PyProof.Rows L2 StX ClX
section
variable {G : Gd} {X : Cx} {Wx : WX} {e o : Expr} {fe fo : Cm SV} {x : PySem.Str} {p pos apos : Pos} {tg : Expr}
theorem Tx.int {fa : List FaC} {fn : List DefC} {K : PySem.W.Frag} {mg : PySem.Str → Option Value} (T : Tx fa fn K mg) (i : Nat) {x : PySem.Str} {n : Int} (h : fa[i]? = some (faHe (.int x n)) := by rfl) : ∃ t, mg x = some (.int n t) :=
  let ⟨_, X, G⟩ := T.g
  He.int_ok X G (T.c.fact i h)
def strsP : List PV → Option (List PySem.Str)
  | [] => some []
  | .str x :: ps => (strsP ps).map (x :: ·)
  | _ => none
def pJoin : PV → PV → Option PV
  | .str a, .lst ps => (strsP ps).bind fun ys => if decide ((ys.map (·.length)).sum + ys.length * a.length ≤ 16777216) then some (.str (Txt.join a ys)) else none
  | _, _ => none
end
structure PSetOf (K : PySem.W.Frag) (C : Addr) (f : PySem.Str) (p g : Addr) : Prop where
  tak : PySem.W.takerIn K C f = some (some (.ref p))
  ty : PySem.W.typeIn K (.ref p) = some (.type "property")
  rec_ : ∃ a rest, PySem.W.recIn K p "property" = some (a :: .ref g :: rest)
end Cl
set_option maxHeartbeats 1000000
set_option maxHeartbeats 1000000
set_option maxHeartbeats 1000000
set_option maxHeartbeats 4000000
namespace Cl
open PySem PySem.Spec PyProof.Rows L2 StX ClX
section
variable {G : Gd} {X : Cx} {Wx : WX} {e o : Expr} {fe fo : Cm SV} {p pos apos : Pos}
def pSplit : PV → PV → Option MC
  | .str a, .str b => if (b.length == 0) = false ∧ a.length + 2 ≤ 16777216 then some (.lst ((Txt.split a b).map .str)) else none
  | _, _ => none
def mSplit (fo fe : Cm SV) : Cm MC := fun st => (fo st).bind fun x st1 => match x with
  | .t (.str a) => (fe st1).bind fun y st2 => match y with
    | .t q => ofM st2 (pSplit (.str a) q)
    | _ => .stuck
  | _ => .stuck
def pStarts : PV → PV → Option PV
  | .str a, .str b => some (.bl (Txt.startswith a b))
  | _, _ => none
def cStarts (fo fe : Cm SV) : Cm SV := fun st => (fo st).bind fun x st1 => match x with
  | .t (.str a) => (fe st1).bind fun y st2 => match y with
    | .t q => ofO st2 (pStarts (.str a) q)
    | _ => .stuck
  | _ => .stuck
end
section
variable {α : Type} {st : ST} {fo fe : Cm SV}
@[simp] theorem ev_mSplit : mSplit fo fe st = (fo st).bind fun x st1 => match x with
  | .t (.str a) => (fe st1).bind fun y st2 => match y with
    | .t q => ofM st2 (pSplit (.str a) q)
    | _ => .stuck
  | _ => .stuck := rfl
@[simp] theorem ev_cStarts : cStarts fo fe st = (fo st).bind fun x st1 => match x with
  | .t (.str a) => (fe st1).bind fun y st2 => match y with
    | .t q => ofO st2 (pStarts (.str a) q)
    | _ => .stuck
  | _ => .stuck := rfl
end
end Cl
set_option maxHeartbeats 4000000
namespace Cl
open PySem PySem.Spec PyProof.Rows L2 StX ClX
section
variable {G : Gd} {X : Cx} {Wx : WX} {a b : Expr} {pos : Pos} {fa fb : Cm SV} {c k : Nat} {f : Addr} {Fc : List SV → Cm SV}
def cNeO (c : Nat) (Fc : List SV → Cm SV) (fa fb : Cm SV) : Cm SV := fun st => (cEqO c Fc fa fb st).bind fun z st3 => match z with
  | .t (.bl b) => .ok (.t (.bl (!b))) st3
  | _ => .stuck
end
def faNe (x : PySem.Str) : FaC := fun K => He.eqO (PySem.W.findIn K (.ref (He.ga K x)) "__ne__") (some (some (.builtin "object.__ne__"))) && decide (PySem.W.mroIn K (He.ga K x) (.type "object") = some true)
theorem Tx.ne {fa : List FaC} {fn : List DefC} {K : PySem.W.Frag} {mg : PySem.Str → Option Value} (T : Tx fa fn K mg) (i : Nat) {x : PySem.Str} (h : fa[i]? = some (faNe x) := by rfl) : PySem.W.findIn K (.ref (He.ga K x)) "__ne__" = some (some (.builtin "object.__ne__")) ∧ PySem.W.mroIn K (He.ga K x) (.type "object") = some true :=
  have q := He.ba (T.c.fact i h)
  ⟨He.eqO_ok q.1, of_decide_eq_true q.2⟩
def cJoinV (fo fe : Cm SV) : Cm SV := fun st => (fo st).bind fun x st1 => match x with
  | .t (.str a) => (fe st1).bind fun y st2 => ofO st2 ((view st2 y).bind fun q => pJoin (.str a) q)
  | _ => .stuck
section
variable {st : ST} {fa fb : Cm SV} {c : Nat} {Fc : List SV → Cm SV}
@[simp] theorem ev_cNeO : cNeO c Fc fa fb st = (cEqO c Fc fa fb st).bind fun z st3 => match z with
  | .t (.bl b) => .ok (.t (.bl (!b))) st3
  | _ => .stuck := rfl
@[simp] theorem ev_cJoinV : cJoinV fa fb st = (fa st).bind fun x st1 => match x with
  | .t (.str a) => (fb st1).bind fun y st2 => ofO st2 ((view st2 y).bind fun q => pJoin (.str a) q)
  | _ => .stuck := rfl
end
end Cl
set_option maxHeartbeats 4000000
set_option maxHeartbeats 4000000
set_option maxHeartbeats 4000000
set_option maxHeartbeats 4000000
namespace Cl
open PySem PySem.Spec PyProof.Rows L2 StX ClX
mutual
theorem reads_lists {h : Heap} : ∀ {d : PyData} {u : Value} {as : List Addr}, Reads h u d as → d.hasDict = false → ∀ b ∈ as, ∃ o, h.get? b = some o ∧ o.cls = .type "list"
  | _, _, _, .none, _, b, hb => nomatch hb
  | _, _, _, .bool _, _, b, hb => nomatch hb
  | _, _, _, .int _ _, _, b, hb => nomatch hb
  | _, _, _, .str _ _, _, b, hb => nomatch hb
  | _, _, _, .list e c dd r, hd, b, hb => by
    rcases List.mem_cons.mp hb with z | z
    · rw [z]; exact ⟨_, e, c⟩
    · exact reads_listsAll r (by simpa [PyData.hasDict] using hd) b z
  | _, _, _, .tuple e c dd r, hd, b, hb => reads_listsAll r (by simpa [PyData.hasDict] using hd) b hb
  | _, _, _, .dict _ _ _ _ _, hd, b, hb => by simp [PyData.hasDict] at hd
theorem reads_listsAll {h : Heap} : ∀ {ds : List PyData} {us : List Value} {as : List Addr}, ReadsAll h us ds as → PyData.hasDictAll ds = false → ∀ b ∈ as, ∃ o, h.get? b = some o ∧ o.cls = .type "list"
  | _, _, _, .nil, _, b, hb => nomatch hb
  | _, _, _, .cons r1 r2, hd, b, hb => by
    simp only [PyData.hasDictAll, Bool.or_eq_false_iff] at hd
    rcases List.mem_append.mp hb with z | z
    · exact reads_lists r1 hd.1 b z
    · exact reads_listsAll r2 hd.2 b z
end
end Cl
set_option maxHeartbeats 4000000
namespace Cl
open PySem PySem.Spec PyProof.Rows L2 StX ClX
theorem Step.freeze {o o' : List Addr} {W W' : Wd} {H H' : Hp} {t : Addr} {ob : HO} (s : Step o W H o' W' H') (h : H t = none ∨ t ∈ o) (hf : W'.F t = none) : Step o W H o' ⟨upd W'.F t ob, W'.A⟩ H' := by
  refine ⟨s.f.trans (same_upd hf), s.a, fun b => ?_, s.no, s.keep⟩
  by_cases hb : b = t
  · subst hb; exact .inr (h.imp_left .of)
  · rcases s.nf b with z | z
    · exact .inl ((upd_ne hb).trans z)
    · exact .inr z
def OutU (G : Gd) (Wx : WX) (W : Wd) (st : ST) (σ : Sg) (H : Hp) (o : Out (MC × PV)) (Q : VK) : Prop :=
  match o with
  | .ok z st' => ∀ W' H' t a w, R G W' st' σ H' → Step (own W st σ) W H (own W' st' σ) W' H' → W'.F t = some (.tup [.ref a, w]) → Rep G W'.F z.2 w → RepM G W'.F H' z.1 a → a ∉ own W' st' σ → W'.F a = none → (H a = none ∨ a ∈ own W st σ) → Q (.ref t) H'
  | .exc c fs st' => ∀ W' H' d, R G W' st' σ H' → Step (own W st σ) W H (own W' st' σ) W' H' → RepX G W' H' fs d → Wx (.ref (G.cls c)) d σ H'
  | .stuck => False
def tU (G : Gd) (Wx : WX) (f : Cm (MC × PV)) : TE := fun σ H Q => ∃ W st, R G W st σ H ∧ OutU G Wx W st σ H (f st) Q
structure CU (G : Gd) (X : Cx) (Wx : WX) (e : Expr) (f : Cm (MC × PV)) : Prop where
  pe : PE X e (tU G Wx f)
theorem OutU.from {G : Gd} {Wx : WX} {σ : Sg} {Q : VK} {W W1 : Wd} {st st1 : ST} {H H1 : Hp} {o : Out (MC × PV)} (h : OutU G Wx W st σ H o Q) (s : Step (own W st σ) W H (own W1 st1 σ) W1 H1) : OutU G Wx W1 st1 σ H1 o Q := by
  cases o with
  | ok v st' => exact fun W' H' t a w r s' e1 e2 m na fa b => h W' H' t a w r (s.trans s') e1 e2 m na fa (s.born b)
  | exc c fs st' => exact fun W' H' d r s' k => h W' H' d r (s.trans s') k
  | stuck => exact h
def cResU (st : ST) (ps : List PL) : OutF → Out (MC × PV)
  | .ok (.u c p) out => .ok (c, p) (putBack st ps out)
  | .exc c fs out => .exc c fs (putBack st ps out)
  | _ => .stuck
def cRunU (F : Fm) (st : ST) (ys : List SV) : Out (MC × PV) :=
  match mkArgs st ys with
  | some (as, ps) => if ps.Nodup then cResU st ps (F as) else .stuck
  | none => .stuck
def OutO (G : Gd) (Wx : WX) (W : Wd) (st : ST) (σ : Sg) (H : Hp) (o : Out (Option MC)) (Q : VK) : Prop :=
  match o with
  | .ok (some c) st' => ∀ W' H' a, R G W' st' σ H' → Step (own W st σ) W H (own W' st' σ) W' H' → RepM G W'.F H' c a → a ∉ own W' st' σ → W'.F a = none → (H a = none ∨ a ∈ own W st σ) → Q (.ref a) H'
  | .ok none st' => ∀ W' H', R G W' st' σ H' → Step (own W st σ) W H (own W' st' σ) W' H' → Q .non H'
  | .exc c fs st' => ∀ W' H' d, R G W' st' σ H' → Step (own W st σ) W H (own W' st' σ) W' H' → RepX G W' H' fs d → Wx (.ref (G.cls c)) d σ H'
  | .stuck => False
def tO (G : Gd) (Wx : WX) (f : Cm (Option MC)) : TE := fun σ H Q => ∃ W st, R G W st σ H ∧ OutO G Wx W st σ H (f st) Q
structure CQ (G : Gd) (X : Cx) (Wx : WX) (e : Expr) (f : Cm (Option MC)) : Prop where
  pe : PE X e (tO G Wx f)
theorem OutO.from {G : Gd} {Wx : WX} {σ : Sg} {Q : VK} {W W1 : Wd} {st st1 : ST} {H H1 : Hp} {o : Out (Option MC)} (h : OutO G Wx W st σ H o Q) (s : Step (own W st σ) W H (own W1 st1 σ) W1 H1) : OutO G Wx W1 st1 σ H1 o Q := by
  cases o with
  | ok v st' =>
    cases v with
    | some c => exact fun W' H' a r s' m na fa b => h W' H' a r (s.trans s') m na fa (s.born b)
    | none => exact fun W' H' r s' => h W' H' r (s.trans s')
  | exc c fs st' => exact fun W' H' d r s' k => h W' H' d r (s.trans s') k
  | stuck => exact h
def cResO (st : ST) (ps : List PL) : OutF → Out (Option MC)
  | .ok (.n c) out => .ok (some c) (putBack st ps out)
  | .ok (.t .non) out => .ok none (putBack st ps out)
  | .exc c fs out => .exc c fs (putBack st ps out)
  | _ => .stuck
def cRunO (F : Fm) (st : ST) (ys : List SV) : Out (Option MC) :=
  match mkArgs st ys with
  | some (as, ps) => if ps.Nodup then cResO st ps (F as) else .stuck
  | none => .stuck
section
variable {G : Gd} {W : Wd} {st : ST} {σ : Sg} {H H' F' : Hp}
theorem run_core {Wx : WX} {N : List PySem.Str} {F : Fm} {ys : List SV} {us : List V} {Q : VK} {as : List Arg} {ps : List PL} (r : R G W st σ H) (hs : RepSs G W σ ys us) (e : mkArgs st ys = some (as, ps)) (nd : ps.Nodup)
    (back : ∀ {W' : Wd} {H' : Hp} {out : List MC}, R G ⟨W'.F, W.A⟩ (putBack st ps out) σ H' → own ⟨W'.F, W.A⟩ (putBack st ps out) σ = own W st σ → Step (own W st σ) W H (own W st σ) ⟨W'.F, W.A⟩ H' →
      (∀ u v, F as = .ok v out → (∃ o : List Addr, (∀ a, a ∈ o → a ∈ own W st σ) ∧ RepR G W' o o H H' v u) → Q u H') ∧ (∀ c fs d, F as = .exc c fs out → RepX G W' H' fs d → Wx (.ref (G.cls c)) d σ H'))
    (ns : F as ≠ .stuck) : spC G N F us H Q (fun cls d H' => Wx cls d σ H') := by
  obtain ⟨ad, h1, h2, h3, h4, h5, h6⟩ := args_in r e hs
  have ndA := nodup_at r h1 h4 nd
  refine ⟨⟨W.F, ad⟩, as, h3, ⟨r.le, h2, ?_, ?_, ?_⟩, ?_⟩
  · have q := RepLoc.pad (N.length - as.length) (h6 [])
    unfold enter L2.start
    rw [h3] at q ⊢
    exact q
  · rw [own_enter]; exact ndA
  · intro a ha
    rw [own_enter] at ha
    exact r.fr a (h5 a ha)
  · have core : ∀ {W' : Wd} {H' : Hp} {out : List MC}, R G W' ⟨[], out⟩ [] H' → Step ad ⟨W.F, ad⟩ H W'.A W' H' →
        R G ⟨W'.F, W.A⟩ (putBack st ps out) σ H' ∧ own ⟨W'.F, W.A⟩ (putBack st ps out) σ = own W st σ ∧ Step (own W st σ) W H (own W st σ) ⟨W'.F, W.A⟩ H' := fun {W' H' out} r' s' => by
      have ea : W'.A = ad := s'.a
      have hn : ∀ a ∈ ad, W'.F a = none := fun a ha => r'.fr a (by unfold own; simp [owned, ea, ha])
      have nf : ∀ b, W'.F b = W.F b ∨ NoM (H b) := fun b => by
        rcases s'.nf b with z | z | z
        · exact .inl z
        · exact .inr z
        · exact .inl ((hn b z).trans (r.fr b (h5 b z)).symm)
      have r0 : R G ⟨W'.F, W.A⟩ st σ (fun b => if b ∈ ad then H b else H' b) := by
        refine r.growM s'.f (fun b u z _ => ?_) (fun b u z => ?_) nf
        · show (if b ∈ ad then H b else H' b) = some u
          split
          · exact z
          · rename_i hb; exact s'.keep b u z hb
        · show (if b ∈ ad then H b else H' b) = some u
          split
          · rename_i hb; rw [hn b hb] at z; cases z
          · exact r'.le b u z
      have pa : Paired (AtP ⟨W'.F, W.A⟩ σ) ps ad := Paired.mono (fun q a z => by cases q <;> exact z) h1
      obtain ⟨p1, p2⟩ := R.puts r'.le (cs := out) r0 pa h4 nd (by have := r'.inh; rw [ea] at this; exact this) fun b hb => by
        show (if b ∈ ad then H b else H' b) = H' b
        rw [if_neg hb]
      refine ⟨p1, p2, ⟨s'.f, rfl, fun b => (nf b).imp_right .inl, fun b h => .inl h, fun b u z hb => s'.keep b u z fun h => hb (h5 b h)⟩⟩
    unfold OutFA
    cases ef : F as with
    | ok v out =>
      intro W' H' u r' s' k
      obtain ⟨c1, c2, c3⟩ := core r' s'
      have ea : W'.A = ad := s'.a
      refine (back c1 c2 c3).1 u v ef ⟨ad, h5, ?_⟩
      rw [ea] at k
      exact k
    | exc c fs out =>
      intro W' H' d r' s' k
      obtain ⟨c1, c2, c3⟩ := core r' s'
      exact (back c1 c2 c3).2 c fs d ef k
    | stuck => exact absurd ef ns
theorem run_inU {Wx : WX} {N : List PySem.Str} {F : Fm} {ys : List SV} {us : List V} {Q : VK} (r : R G W st σ H) (hs : RepSs G W σ ys us) (o : OutU G Wx W st σ H (cRunU F st ys) Q) :
    spC G N F us H Q (fun cls d H' => Wx cls d σ H') := by
  unfold cRunU at o
  split at o
  · rename_i as ps e
    split at o
    · rename_i nd
      refine run_core r hs e nd (fun {W' H' out} c1 c2 c3 => ⟨fun u v ef k => ?_, fun c fs d ef k => ?_⟩) fun ef => ?_
      · rw [ef] at o
        obtain ⟨ow, hw, k⟩ := k
        cases v with
        | t p => exact (show False from o).elim
        | n c => exact (show False from o).elim
        | u c p =>
          obtain ⟨t, a, w, rfl, e1, e2, m, na, fa, bo⟩ := k
          have ha : H a = none := bo.resolve_right na
          have nown : a ∉ own ⟨W'.F, W.A⟩ (putBack st ps out) σ := by rw [c2]; exact r.notown ha
          exact o ⟨W'.F, W.A⟩ H' t a w c1 (by rw [c2]; exact c3) e1 e2 m nown fa (.inl ha)
        | v p c => exact (show False from o).elim
      · rw [ef] at o
        exact o ⟨W'.F, W.A⟩ H' d c1 (by rw [c2]; exact c3) k
      · rw [ef] at o; exact o.elim
    · exact o.elim
  · exact o.elim
theorem run_inO {Wx : WX} {N : List PySem.Str} {F : Fm} {ys : List SV} {us : List V} {Q : VK} (r : R G W st σ H) (hs : RepSs G W σ ys us) (o : OutO G Wx W st σ H (cRunO F st ys) Q) :
    spC G N F us H Q (fun cls d H' => Wx cls d σ H') := by
  unfold cRunO at o
  split at o
  · rename_i as ps e
    split at o
    · rename_i nd
      refine run_core r hs e nd (fun {W' H' out} c1 c2 c3 => ⟨fun u v ef k => ?_, fun c fs d ef k => ?_⟩) fun ef => ?_
      · rw [ef] at o
        obtain ⟨ow, hw, k⟩ := k
        cases v with
        | t p =>
          cases p with
          | non =>
            have k : Rep G W'.F .non u := k
            cases k
            exact o ⟨W'.F, W.A⟩ H' c1 (by rw [c2]; exact c3)
          | _ => exact (show False from o).elim
        | u c p => exact (show False from o).elim
        | v p c => exact (show False from o).elim
        | n c =>
          obtain ⟨a, rfl, m, na, fa, bo⟩ := k
          have ha : H a = none := bo.resolve_right na
          have nown : a ∉ own ⟨W'.F, W.A⟩ (putBack st ps out) σ := by rw [c2]; exact r.notown ha
          exact o ⟨W'.F, W.A⟩ H' a c1 (by rw [c2]; exact c3) m nown fa (.inl ha)
      · rw [ef] at o
        exact o ⟨W'.F, W.A⟩ H' d c1 (by rw [c2]; exact c3) k
      · rw [ef] at o; exact o.elim
    · exact o.elim
  · exact o.elim
end
def RunOkU (G : Gd) (X : Cx) (Wx : WX) (a : Addr) (Fc : List SV → Cm (MC × PV)) : Prop :=
  ∀ (pn : List (Addr × Obj)) (s : Shared) (σ : Sg) (H : Hp) (Q : VK) (us : List Value) (vs : List V) (xs : List SV) (W : Wd) (st : ST), Inv X pn σ H s → R G W st σ H → RepSs G W σ xs vs → Vals vs us → OutU G Wx W st σ H (Fc xs st) Q →
    wpAny (model X.prog X.w) X.A (call (.ref a) us) (EP X pn σ Q) X.xe s
def fcDefU (n : Nat) (pl : Plan) (F : Fm) : List SV → Cm (MC × PV) := fun xs st => if xs.length = n then cRunU F st (pickS pl xs) else .stuck
def PromU (G : Gd) (Wx : WX) (sp : Sp) (Fc : List SV → Cm (MC × PV)) : Prop :=
  ∀ (W : Wd) (st : ST) (σ : Sg) (H : Hp) (Q : VK) (xs : List SV) (vs : List V), R G W st σ H → RepSs G W σ xs vs → OutU G Wx W st σ H (Fc xs st) Q → sp vs H Q fun cls d H' => Wx cls d σ H'
def RunOkO (G : Gd) (X : Cx) (Wx : WX) (a : Addr) (Fc : List SV → Cm (Option MC)) : Prop :=
  ∀ (pn : List (Addr × Obj)) (s : Shared) (σ : Sg) (H : Hp) (Q : VK) (us : List Value) (vs : List V) (xs : List SV) (W : Wd) (st : ST), Inv X pn σ H s → R G W st σ H → RepSs G W σ xs vs → Vals vs us → OutO G Wx W st σ H (Fc xs st) Q →
    wpAny (model X.prog X.w) X.A (call (.ref a) us) (EP X pn σ Q) X.xe s
def fcDefO (n : Nat) (pl : Plan) (F : Fm) : List SV → Cm (Option MC) := fun xs st => if xs.length = n then cRunO F st (pickS pl xs) else .stuck
def PromO (G : Gd) (Wx : WX) (sp : Sp) (Fc : List SV → Cm (Option MC)) : Prop :=
  ∀ (W : Wd) (st : ST) (σ : Sg) (H : Hp) (Q : VK) (xs : List SV) (vs : List V), R G W st σ H → RepSs G W σ xs vs → OutO G Wx W st σ H (Fc xs st) Q → sp vs H Q fun cls d H' => Wx cls d σ H'
section
variable {G : Gd} {X : Cx} {Wx : WX} {k n i j : Nat} {f : Addr} {F : Fm} {N : List PySem.Str} {pl : Plan} {x y : PySem.Str} {p pos : Pos} {e : Expr} {es : List Expr} {fs : Cm (List SV)}
theorem PromU.def_ (hp : planOk pl = true) : PromU G Wx (fun vs H Q E => vs.length = n ∧ spC G N F (pickV pl vs) H Q E) (fcDefU n pl F) := by
  intro W st σ H Q xs vs r hs o
  unfold fcDefU at o
  split at o
  · rename_i hl
    have l : xs.length = vs.length := Paired.length hs
    exact ⟨by rw [← l]; exact hl, run_inU r (pick_rep hs hp) o⟩
  · exact o.elim
theorem PromO.def_ (hp : planOk pl = true) : PromO G Wx (fun vs H Q E => vs.length = n ∧ spC G N F (pickV pl vs) H Q E) (fcDefO n pl F) := by
  intro W st σ H Q xs vs r hs o
  unfold fcDefO at o
  split at o
  · rename_i hl
    have l : xs.length = vs.length := Paired.length hs
    exact ⟨by rw [← l]; exact hl, run_inO r (pick_rep hs hp) o⟩
  · exact o.elim
theorem RunOkU.of {sp : Sp} {Fc : List SV → Cm (MC × PV)} (hf : FnP X.prog X.w X.K X.mg X.base k f sp) (p : PromU G Wx sp Fc) (room : Room k X.A) (gd : X.A.guards = some []) (tk : Takes X Wx) : RunOkU G X Wx f Fc :=
  fun pn s σ H Q us vs xs W st I r hs rv o => run_fnP hf room gd tk I rv (p W st σ H Q xs vs r hs o)
theorem RunOkO.of {sp : Sp} {Fc : List SV → Cm (Option MC)} (hf : FnP X.prog X.w X.K X.mg X.base k f sp) (p : PromO G Wx sp Fc) (room : Room k X.A) (gd : X.A.guards = some []) (tk : Takes X Wx) : RunOkO G X Wx f Fc :=
  fun pn s σ H Q us vs xs W st I r hs rv o => run_fnP hf room gd tk I rv (p W st σ H Q xs vs r hs o)
end
end Cl
set_option maxHeartbeats 4000000
namespace Cl
open PySem PySem.Spec PyProof.Rows L2 StX ClX
section
variable {G : Gd} {X : Cx} {Wx : WX} {e : Expr} {fe : Cm SV} {p apos cpos pos : Pos}
theorem RepK.vals {F : Hp} : ∀ {kvs : List (PV × PV)} {hs : List (Key × V)}, RepK G F kvs hs → RepL G F (kvs.map (·.2)) (hs.map (·.2))
  | _, _, .nil => .nil
  | _, _, .cons _ r l => .cons r (RepK.vals l)
end
end Cl
set_option maxHeartbeats 4000000
namespace Cl
open PySem PySem.Spec PyProof.Rows L2 StX ClX
def dropPK (kvs : List (PV × PV)) (k : PV) : List (PV × PV) := kvs.filter fun kv => decide (keyOf kv.1 ≠ keyOf k)
end Cl
set_option maxHeartbeats 4000000
namespace Cl
open PySem PySem.Spec PyProof.Rows L2 StX ClX
def isLst : PV → Bool
  | .lst _ => true
  | _ => false
def cLm (f : PV → PV → Option PV) (fo fa : Cm SV) : Cm SV := fun st => (fo st).bind fun x st1 => if ((view st1 x).any isLst) = true then (fa st1).bind fun y st2 => ofO st2 ((view st2 x).bind fun p => (view st2 y).bind fun q => f p q) else .stuck
end Cl
set_option maxHeartbeats 4000000
set_option maxHeartbeats 4000000
namespace Cl
open PySem PySem.Spec PyProof.Rows L2 StX ClX
theorem Rep.sc {G : Gd} {F F' : Hp} {p : PV} {v : V} (h : scOk p = true) (r : Rep G F p v) : Rep G F' p v := by
  cases p with
  | non => cases r; exact .non
  | bl b => cases r; exact .bl b
  | int i => cases r; exact .int i
  | str x => cases r; exact .str x
  | _ => cases h
end Cl
set_option maxHeartbeats 4000000
set_option maxHeartbeats 4000000
set_option maxHeartbeats 4000000
namespace Cl
open PySem PySem.Spec PyProof.Rows L2 StX ClX
structure FunU (K : PySem.W.Frag) (x qual : PySem.Str) (params : Arguments) (body : List Stmt) (scope : Scope) (f D : Addr) (fl : PySem.Str) (cc cda : Addr) (fd : FuncData) : Prop where
  ex : ∃ (oc : Value) (od : Option Addr) (kV doc pm : Value) (an : Option Addr) (ct : Value) (osl : Array (Option Value)),
    fd = PySem.W.ksFn x qual params body scope .none kV doc pm an (.ref cda) ct cc ∧ K.lookup f = some ⟨oc, od, .func fd, osl⟩ ∧ PySem.W.codeIn K (.ref cda) qual = true
  file : ∃ (c1 : Value) (c2 : Option Addr) (vs : Array Value) (c3 : Array (Option Value)) (tf : Tok), K.lookup cda = some ⟨c1, c2, .fields vs, c3⟩ ∧ vs[2]? = some (.str fl tf)
  cell : ∃ (c1 : Value) (c2 : Option Addr) (c3 : Array (Option Value)), K.lookup cc = some ⟨c1, c2, .cell (some (.ref D)), c3⟩
  cls : ∃ cd, PySem.W.clsIn K D = some cd
structure SupP (P : Program) (fl : PySem.Str) : Prop where
  file : P.main.file = fl
  top : (P.main.scope.names.lookup ("super" : PySem.Str)).isSome = false
structure SupIn (K : PySem.W.Frag) (C D : Addr) (m : PySem.Str) (f : Addr) : Prop where
  sub : PySem.W.mroIn K C (.ref D) = some true
  at_ : PySem.W.ks_superIn K C D m = some (some (.ref f))
  ty : PySem.W.typeIn K (.ref f) = some (.type "function")
  op : PySem.W.nsIn K cStatics "thirdparty.any" = some none
  fi : PySem.W.fnIn K f = true
  cl : ∃ cd, PySem.W.clsIn K C = some cd
structure TxU (fa : List FaC) (fn : List DefC) (K : PySem.W.Frag) (mg : PySem.Str → Option Value) (P : Program) (fl : PySem.Str) : Prop extends Tx fa fn K mg where
  u : SupP P fl
structure UScope (N ps : List PySem.Str) (sc : Scope) : Prop where
  kind : sc.kind = .function
  co : sc.isCoroutine = false
  gen : sc.isGenerator = false
  nd : N.Nodup
  pre : N.take ps.length = ps
  par : ∀ x ∈ ps, sc.names.lookup x = some .local ∨ sc.names.lookup x = some .cell
  free : ∀ y ∈ sc.names, y.2 = .free → y.1 = ("__class__" : PySem.Str)
  cl : sc.names.lookup ("__class__" : PySem.Str) = some .free
  su : sc.names.lookup ("super" : PySem.Str) = some .globalImplicit
  ncl : ∀ y ∈ sc.names, y.2 = .cell → y.1 ≠ ("__class__" : PySem.Str)
structure CSA (G : Gd) (X : Cx) (Wx : WX) (b0 : List Stmt) (ss : List Stmt) (g : Sm) : Prop where
  run : ∀ (pn : List (Addr × Obj)) (s : Shared) (σ : Sg) (H : Hp) (D : Ends), Inv X pn σ H s → tS G Wx g D σ H → _root_.PySem.wpAt (model X.prog X.w) X.A (.func b0 X.env) (execs ss X.env) (SP X pn D) X.xe s
end Cl
set_option maxHeartbeats 4000000
namespace Cl
open PySem PySem.Spec PyProof.Rows L2 StX ClX
structure SupC (X : Cx) (D : Addr) (slf fl : PySem.Str) : Prop where
  ks : X.env.kindOf "super" = some .globalImplicit
  kc : X.env.kindOf "__class__" = some .free
  fu : ∃ (f : Addr) (oc : Value) (od : Option Addr) (fd : FuncData) (osl : Array (Option Value)) (ar : PySem.Arg), X.env.func = some f ∧ X.K.lookup f = some ⟨oc, od, .func fd, osl⟩ ∧ (fd.params.posonlyargs ++ fd.params.args).head? = some ar ∧ ar.arg = slf
  co : ∃ (cda : Addr) (c1 : Value) (c2 : Option Addr) (vs : Array Value) (c3 : Array (Option Value)) (tf : Tok), X.env.code = .ref cda ∧ X.K.lookup cda = some ⟨c1, c2, .fields vs, c3⟩ ∧ vs[2]? = some (.str fl tf)
  ce : ∃ (cc : Addr) (c1 : Value) (c2 : Option Addr) (c3 : Array (Option Value)), X.env.cells.lookup ("__class__" : PySem.Str) = some cc ∧ X.K.lookup cc = some ⟨c1, c2, .cell (some (.ref D)), c3⟩
  cl : ∃ cd, PySem.W.clsIn X.K D = some cd
  pr : SupP X.prog fl
  mg : X.mg "super" = none
end Cl
set_option maxHeartbeats 4000000
namespace Cl
open PySem PySem.Spec PyProof.Rows L2 StX ClX
theorem all0 {P : Nat → Prop} : ∀ c ∈ ([] : List Nat), P c := fun _ h => nomatch h
theorem allC {P : Nat → Prop} {a : Nat} {l : List Nat} (h : P a) (t : ∀ c ∈ l, P c) : ∀ c ∈ a :: l, P c := fun c hc => by
  rcases List.mem_cons.mp hc with e | e
  · rw [e]; exact h
  · exact t c e
end Cl
set_option maxHeartbeats 4000000
namespace Cl
open PySem PySem.Spec PyProof.Rows L2 StX ClX
section
variable {G : Gd} {W : Wd} {st : ST} {σ : Sg} {H H' F' : Hp}
theorem Paired.at {α β : Type} {F : α → β → Prop} : ∀ {l : List α} {m : List β} {k : Nat} {a : α}, Paired F l m → l[k]? = some a → ∃ b, m[k]? = some b ∧ F a b
  | _, _, _, _, .nil, h => by simp at h
  | _, _, 0, _, .cons r _, h => by simp at h; subst h; exact ⟨_, rfl, r⟩
  | _, _, k + 1, _, .cons _ t, h => by
    obtain ⟨b, e, f⟩ := Paired.at (k := k) t (by simpa using h)
    exact ⟨b, by simpa using e, f⟩
theorem Paired.snoc {α β : Type} {F : α → β → Prop} : ∀ {l : List α} {m : List β} {a : α} {b : β}, Paired F l m → F a b → Paired F (l ++ [a]) (m ++ [b])
  | _, _, _, _, .nil, h => .cons h .nil
  | _, _, _, _, .cons r t, h => .cons r (Paired.snoc t h)
end
end Cl
set_option maxHeartbeats 4000000
namespace Cl
open PySem PySem.Spec PyProof.Rows L2 StX ClX
section
variable {P : Program} {w : World} {A : Around} {E : Value → Shared → Prop} {s : Shared}
theorem zip_next_w {z TI TO i1 i2 : Addr} {Q : Option Value → Shared → Prop} (hz : IsZip s.heap z TI TO .none) (hTI : IsTupOf2 s.heap TI (.ref i1) (.ref i2))
    (n1 : ∀ h1, IsZip h1 z TI TO .ellipsis → Heap.SameBut z s.heap h1 →
      wpAny (model P w) A.in1 (Builtin.SmallTypes.nextOf (.ref i1)) (fun x s2 => ∃ a b, IsTupOf2 s2.heap TO a b ∧ ∀ h3, IsTupOf2 h3 TO x b → Heap.SameBut TO s2.heap h3 →
          wpAny (model P w) A.in1 (Builtin.SmallTypes.nextOf (.ref i2)) (fun y s4 => ∃ b', IsZip s4.heap z TI TO .ellipsis ∧ IsTupOf2 s4.heap TO x b' ∧ TO ≠ z ∧
            ∀ h8, IsZip h8 z TI TO (rawInt s4.heap.objs.size) → IsTupOf2 h8 TO x y → IsTupOf2 h8 s4.heap.objs.size x y → h8.objs.size = s4.heap.objs.size + 1 → (∀ c o, c ≠ z → c ≠ TO → s4.heap.get? c = some o → h8.get? c = some o) → Q (some (.ref s4.heap.objs.size)) { s4 with heap := h8 })
            (fun _ _ => False) { s2 with heap := h3 })
        (fun e s' => ∃ ad o, e = .ref ad ∧ s'.heap.get? ad = some o ∧ o.cls = .type "StopIteration" ∧ ad ≠ z ∧ IsZip s'.heap z TI TO .ellipsis ∧ ∀ h', Heap.SameBut z s'.heap h' → Q none { s' with heap := h' }) { s with heap := h1 }) :
    wpAny (model P w) A (pyNext (.ref z)) Q E s := by
  have hT : s.TypeIs (.ref z) "zip" := ⟨_, hz, rfl⟩
  unfold pyNext
  refine wpAny_bind (wpAny_attempt (wpAny_callSpecial?_slot (name := Str.ofString "__next__") hT F.slot_zip_next
    (wpAny_call_entry F.slot_zip_next hT F.entry_zip_next ?_ (F.args_zip_next_1 _))))
  show wpAny _ A.in1 (field (.ref z) 2 >>= _) _ _ _
  refine wpAny_bind (wpAny_field hz rfl (x := .bool false) rfl ?_)
  show wpAny _ _ (field (.ref z) 3 >>= _) _ _ _
  refine wpAny_bind (wpAny_field hz rfl (x := .ref TI) rfl ?_)
  refine wpAny_bind (wpAny_seqItems hTI rfl ?_)
  show wpAny _ _ (Builtin.SmallTypes.ownedTupleIsFree (.ref z) >>= _) _ _ _
  refine wpAny_bind ?_
  unfold Builtin.SmallTypes.ownedTupleIsFree
  refine wpAny_bind (wpAny_field hz rfl (x := .none) rfl (wpAny_pure ?_))
  simp only [if_true]
  refine wpAny_bind (wpAny_rule ?_)
  refine wpAny_bind (wpAny_field hz rfl (x := .ref TO) rfl ?_)
  refine wpAny_bind (wpAny_setField_rec hz (by simp) fun h1 hz1 hs1 => ?_)
  replace hz1 : IsZip h1 z TI TO .ellipsis := hz1
  refine wpAny_bind ?_
  simp only [List.zipIdx_cons, List.zipIdx_nil, List.forIn_cons, List.forIn_nil]
  refine wpAny_bind (wpAny_bind (wpAny_onRaise ?_))
  show wpAny _ _ (Builtin.SmallTypes.nextOf (.ref i1) >>= _) _ _ _
  refine wpAny_bind (wpAny_mono (n1 h1 hz1 hs1) (fun x s2 ⟨a, b, hTO2, n2⟩ => wpAny_pure ?_) fun e s' ⟨ad, o, ee, ho, hc, ne, hz', q⟩ => ?_)
  · refine wpAny_bind (wpAny_seqItems hTO2 rfl ?_)
    refine wpAny_bind (updateSeq_IsTupOf2 hTO2 fun h3 hTO3 hs3 => ?_)
    replace hTO3 : IsTupOf2 h3 TO x b := hTO3
    refine wpAny_bind (wpAny_letGo (wpAny_pure ?_))
    refine wpAny_bind (wpAny_bind (wpAny_onRaise ?_))
    show wpAny _ _ (Builtin.SmallTypes.nextOf (.ref i2) >>= _) _ _ _
    refine wpAny_bind (wpAny_mono (n2 h3 hTO3 hs3) (fun y s4 ⟨b', hz4, hTO4, ne, q⟩ => wpAny_pure ?_) fun e s' q => q.elim)
    refine wpAny_bind (wpAny_seqItems hTO4 rfl ?_)
    refine wpAny_bind (updateSeq_IsTupOf2 hTO4 fun h5 hTO5 hs5 => ?_)
    replace hTO5 : IsTupOf2 h5 TO x y := hTO5
    refine wpAny_bind (wpAny_letGo (wpAny_pure (wpAny_pure ?_)))
    refine wpAny_bind (wpAny_seqItems hTO5 rfl ?_)
    refine wpAny_bind (wpAny_newTuple ?_)
    have hsz : h5.objs.size = s4.heap.objs.size := hs5.1
    have hz5 : IsZip h5 z TI TO .ellipsis := (hs5.2 _ (Ne.symm ne)).trans hz4
    have hzlt : z < h5.objs.size := Heap.lt_size hz5
    have hTOlt : TO < h5.objs.size := Heap.lt_size hTO5
    show wpAny _ _ (Builtin.SmallTypes.ownedTupleHandOut (.ref z) (.ref h5.objs.size) >>= _) _ _ _
    refine wpAny_bind ?_
    unfold Builtin.SmallTypes.ownedTupleHandOut
    have hz6 : IsZip (h5.push { cls := .type "tuple", data := .seq #[x, y] }) z TI TO .ellipsis := Heap.get?_push_of_some _ hz5
    refine wpAny_bind (wpAny_setField_rec hz6 (by simp) fun h7 hz7 hs7 => ?_)
    replace hz7 : IsZip h7 z TI TO (rawInt h5.objs.size) := hz7
    refine wpAny_setField_rec hz7 (by simp) fun h8 hz8 hs8 => ?_
    replace hz8 : IsZip h8 z TI TO (rawInt h5.objs.size) := hz8
    have up : ∀ c o, c ≠ z → h5.get? c = some o → h8.get? c = some o := fun c o c1 e => hs8.extBut _ _ c1 (hs7.extBut _ _ c1 (Heap.get?_push_of_some _ e))
    have hT8 : IsTupOf2 h8 h5.objs.size x y := hs8.extBut _ _ (Nat.ne_of_gt hzlt) (hs7.extBut _ _ (Nat.ne_of_gt hzlt) (Heap.get?_push_size _ rfl))
    have hz8' : h8.objs.size = h5.objs.size + 1 := by rw [hs8.1, hs7.1, Heap.size_push]
    rw [hsz] at hz8 hT8 hz8'
    refine wpAny_pure ?_
    rw [hsz]
    exact ⟨_, rfl, wpAny_pure (q h8 hz8 (up _ _ ne hTO5) hT8 hz8' fun c o c1 c2 e => up c o c1 ((hs5.2 _ c2).trans e))⟩
  · refine wpAny_setField_rec hz' (by simp) fun h2 hz2 hs2 => ?_
    subst ee
    refine wpAny_bind (wpAny_isInstance (T := "StopIteration") (b := true) ⟨o, (hs2.2 _ ne).trans ho, hc⟩ isSubtype_stop ?_)
    exact wpAny_pure (q h2 hs2)
end
end Cl
set_option maxHeartbeats 4000000
namespace Cl
open PySem PySem.Spec PyProof.Rows L2 StX ClX
theorem pins_move {X : Cx} {pins zp zp' dp : List (Addr × Obj)} {σ : Sg} {H : Hp} {s : Shared} {h' : Heap} {t' : Nat} (I : Inv X (pins ++ (zp ++ dp)) σ H s) (hk : ∀ c o, c ∉ zp.map (·.1) → s.heap.get? c = some o → h'.get? c = some o)
    (sep : ∀ p ∈ X.pn ++ (pins ++ dp), p.1 ∉ zp.map (·.1)) (stat : ∀ b ∈ zp.map (·.1), (b ∈ X.ex ∨ X.s_0.heap.objs.size ≤ b) ∧ ∀ x c, X.env.cells.lookup x = some c → c ≠ b)
    (new : ∀ p ∈ zp', p.1 ∈ zp.map (·.1) ∧ h'.get? p.1 = some p.2 ∧ ∀ v, p.2.data ≠ .cell v) : Inv X (pins ++ (zp' ++ dp)) σ H { s with heap := h', toks := t' } := by
  have fp : ∀ b ∈ zp.map (·.1), H b = none ∧ b ≠ X.env.locals ∧ b ∉ X.fs := fun b hb => by
    obtain ⟨p, hp, rfl⟩ := List.mem_map.mp hb
    obtain ⟨_, q2, q3, q4, _⟩ := I.pin p (List.mem_append_right _ (List.mem_append_right _ (List.mem_append_left _ hp)))
    exact ⟨q2, q3, q4⟩
  have I0 : Inv X (pins ++ dp) σ H s := I.pins_of fun p hp => I.pin p (List.mem_append_right _ ((List.mem_append.mp hp).elim (fun z => List.mem_append_left _ z) fun z => List.mem_append_right _ (List.mem_append_right _ z)))
  have I1 : Inv X (pins ++ dp) σ H { s with heap := h', toks := t' } := I0.turnedL (ch := zp.map (·.1)) hk fun b hb => ⟨(fp b hb).1, (fp b hb).2.1, (fp b hb).2.2, (stat b hb).1, (stat b hb).2, fun p hp z => sep p hp (by rw [z]; exact hb)⟩
  refine I1.pins_of fun p hp => ?_
  rcases List.mem_append.mp hp with z | z
  · exact I1.pin p (List.mem_append_right _ (List.mem_append_left _ z))
  rcases List.mem_append.mp z with z | z
  · obtain ⟨q1, q2, q3⟩ := new p z
    exact ⟨q2, (fp _ q1).1, (fp _ q1).2.1, (fp _ q1).2.2, q3⟩
  · exact I1.pin p (List.mem_append_right _ (List.mem_append_right _ z))
theorem pins_moveN {X : Cx} {pins zp zp' dp : List (Addr × Obj)} {σ : Sg} {H : Hp} {s : Shared} {h' : Heap} {t' : Nat} {T : Addr} {ob : HO} (I : Inv X (pins ++ (zp ++ dp)) σ H s) (hk : ∀ c o, c ∉ zp.map (·.1) → s.heap.get? c = some o → h'.get? c = some o)
    (sep : ∀ p ∈ X.pn ++ (pins ++ dp), p.1 ∉ zp.map (·.1)) (stat : ∀ b ∈ zp.map (·.1), (b ∈ X.ex ∨ X.s_0.heap.objs.size ≤ b) ∧ ∀ x c, X.env.cells.lookup x = some c → c ≠ b)
    (new : ∀ p ∈ zp', p.1 ∈ zp.map (·.1) ∧ h'.get? p.1 = some p.2 ∧ ∀ v, p.2.data ≠ .cell v) (hT : s.heap.objs.size ≤ T) (nw : ObjOk X.prog X.w (upd H T ob) h' T ob) : Inv X (pins ++ (zp' ++ dp)) σ (upd H T ob) { s with heap := h', toks := t' } := by
  have fp : ∀ b ∈ zp.map (·.1), H b = none ∧ b ≠ X.env.locals ∧ b ∉ X.fs ∧ b < s.heap.objs.size := fun b hb => by
    obtain ⟨p, hp, rfl⟩ := List.mem_map.mp hb
    obtain ⟨q1, q2, q3, q4, _⟩ := I.pin p (List.mem_append_right _ (List.mem_append_right _ (List.mem_append_left _ hp)))
    exact ⟨q2, q3, q4, Heap.lt_size q1⟩
  have I0 : Inv X (pins ++ dp) σ H s := I.pins_of fun p hp => I.pin p (List.mem_append_right _ ((List.mem_append.mp hp).elim (fun z => List.mem_append_left _ z) fun z => List.mem_append_right _ (List.mem_append_right _ z)))
  have I1 : Inv X (pins ++ dp) σ (upd H T ob) { s with heap := h', toks := t' } := I0.turnedNew (ch := zp.map (·.1)) hk (fun b hb => ⟨(fp b hb).1, (fp b hb).2.1, (fp b hb).2.2.1, (stat b hb).1, (stat b hb).2, fun p hp z => sep p hp (by rw [z]; exact hb)⟩) hT nw
  refine I1.pins_of fun p hp => ?_
  rcases List.mem_append.mp hp with z | z
  · exact I1.pin p (List.mem_append_right _ (List.mem_append_left _ z))
  rcases List.mem_append.mp z with z | z
  · obtain ⟨q1, q2, q3⟩ := new p z
    refine ⟨q2, ?_, (fp _ q1).2.1, (fp _ q1).2.2.1, q3⟩
    rw [upd_ne (Nat.ne_of_lt (Nat.lt_of_lt_of_le (fp _ q1).2.2.2 hT))]
    exact (fp _ q1).1
  · exact I1.pin p (List.mem_append_right _ (List.mem_append_right _ z))
abbrev zOb (TI TO : Addr) (f0 : Value) : Obj := { cls := .type "zip", dict := none, data := .fields #[f0, .bool false, .bool false, .ref TI, .ref TO], slots := #[] }
abbrev pOb (a b : Value) : Obj := { cls := .type "tuple", data := .seq #[a, b] }
def ItAt (b : Bool) (h : Heap) (i l : Addr) (k : Nat) : Prop := match b with
  | true => h.IsListIter i l k
  | false => h.IsTupleIter i l k
def ItAt.at' {b : Bool} {h h' : Heap} {i l : Addr} {k : Nat} (x : ItAt b h i l k) (e : ∀ o, h.get? i = some o → h'.get? i = some o) : ItAt b h' i l k := by
  cases b with
  | true => obtain ⟨o, ho, r⟩ := x; exact ⟨o, e o ho, r⟩
  | false => obtain ⟨o, ho, r⟩ := x; exact ⟨o, e o ho, r⟩
theorem ItAt.ob {b : Bool} {h : Heap} {i l : Addr} {k : Nat} (x : ItAt b h i l k) : ∃ o, h.get? i = some o ∧ (∀ v, o.data ≠ .cell v) := by
  cases b with
  | true => obtain ⟨o, ho, _, d⟩ := x; exact ⟨o, ho, fun v z => by rw [d] at z; cases z⟩
  | false => obtain ⟨o, ho, _, d⟩ := x; exact ⟨o, ho, fun v z => by rw [d] at z; cases z⟩
def SqB (b : Bool) (K : PySem.W.Frag) (H : Hp) (l : Addr) (xs : List V) : Prop := match b with
  | true => SqL K H l xs
  | false => SqT K H l xs
def SrcAt (b : Bool) (F : Hp) (l : Addr) (vs : List V) : Prop := match b with
  | true => F l = some (.lst vs)
  | false => ∃ k, TupAt k F l vs
theorem SrcAt.same {b : Bool} {F F' : Hp} {l : Addr} {vs : List V} (x : SrcAt b F l vs) (f : Same F F') : SrcAt b F' l vs := by
  cases b with
  | true => exact f _ _ x
  | false => obtain ⟨k, t⟩ := x; exact ⟨k, t.same f⟩
theorem SrcAt.sq {b : Bool} {K : PySem.W.Frag} {F H : Hp} {l : Addr} {vs : List V} (x : SrcAt b F l vs) (f : Same F H) : SqB b K H l vs := by
  cases b with
  | true => exact .inl (.inl (f _ _ x))
  | false => obtain ⟨k, t⟩ := x; exact t.sq f
structure Zp where
  z : Addr
  TI : Addr
  TO : Addr
  i2 : Addr
  l : Addr
  b : Bool
  k : Nat
  f0 : Value
  a1 : Value
  a2 : Value
  io : Obj
abbrev Zp.pins (Z : Zp) (a : Addr) : List (Addr × Obj) := [(Z.z, zOb Z.TI Z.TO Z.f0), (Z.TI, pOb (.ref a) (.ref Z.i2)), (Z.TO, pOb Z.a1 Z.a2), (Z.i2, Z.io)]
abbrev Zp.addrs (Z : Zp) : List Addr := [Z.z, Z.TI, Z.TO, Z.i2]
structure Zp.Ok (Z : Zp) (X : Cx) : Prop where
  it : ∀ h : Heap, h.get? Z.i2 = some Z.io → ItAt Z.b h Z.i2 Z.l Z.k
  nc : ∀ v, Z.io.data ≠ .cell v
  n1 : Z.TI ≠ Z.z
  n2 : Z.TO ≠ Z.z
  n3 : Z.i2 ≠ Z.z
  n4 : Z.TI ≠ Z.TO
  n5 : Z.TI ≠ Z.i2
  n6 : Z.TO ≠ Z.i2
  st : ∀ b ∈ Z.addrs, (b ∈ X.ex ∨ X.s_0.heap.objs.size ≤ b) ∧ ∀ x c, X.env.cells.lookup x = some c → c ≠ b
section
variable {X : Cx} {pins : List (Addr × Obj)} {σ : Sg} {H : Hp} {s : Shared}
theorem nextOf_of {P : Program} {w : World} {A : Around} {a : Addr} {Q : Option Value → Shared → Prop} (h : StopS (model P w) A a s Q) :
    wpAny (model P w) A (Builtin.SmallTypes.nextOf (.ref a)) (fun v s' => Q (some v) s') (fun e s' => ∃ ad o, e = .ref ad ∧ s'.heap.get? ad = some o ∧ o.cls = .type "StopIteration" ∧ Q none s') s := by
  unfold Builtin.SmallTypes.nextOf
  refine wpAny_bind (wpAny_mono h (fun r s' ⟨v, e, q⟩ => ?_) fun e s' ⟨ad, o, h1, h2, h3, _, h5⟩ => ⟨ad, o, h1, h2, h3, h5⟩)
  subst e
  exact wpAny_pure q
end
end Cl
set_option maxHeartbeats 4000000
namespace Cl
open PySem PySem.Spec PyProof.Rows L2 StX ClX
structure ZSt (XB : Cx) (D2 : Doze) (Z Z2 : Zp) (ys us : List PV) : Prop where
  f0 : Z2.f0 = .none
  z : Z2.z = Z.z
  l : Z2.l = Z.l
  b : Z2.b = Z.b
  addrs : Z2.addrs = Z.addrs
  len : ys.length = (us.drop Z2.k).length
  ok : Z2.Ok XB
structure ZAt (X : Cx) (pins : List (Addr × Obj)) (σ : Sg) (W : Wd) (st : ST) (H : Hp) (G : Gd) (ys us : List PV) (st' : ST) (D : Doze) (Z : Zp) (vs : List V) (W' : Wd) (H' : Hp) (s' : Shared) : Prop where
  d : Dozes D ys
  sv : Serves D.Z X
  eG : D.Z.G = G
  room : Room (D.Z.k + 4) X.A
  inv : Inv X (pins ++ (Z.pins D.a ++ D.pins)) σ H' s'
  r : R G W' st' σ H'
  step : Step (own W st σ) W H (own W' st' σ) W' H'
  at_ : DozeAt D W'.F H' s'
  sep : ∀ p ∈ X.pn ++ (pins ++ Z.pins D.a), ∀ q ∈ D.pins, p.1 ≠ q.1
  sepZ : ∀ p ∈ X.pn ++ pins, p.1 ∉ Z.addrs
  own : D.own = []
  f0 : Z.f0 = .none
  k0 : Z.k = 0
  ok : Z.Ok X
  hi : ∀ b ∈ Z.addrs, D.Z.L ≤ b
  src : SrcAt Z.b W'.F Z.l vs
  lst : RepL G W'.F us vs
structure ZE (G : Gd) (X : Cx) (e : Expr) (f : Cm (List PV × List PV)) : Prop where
  run : ∀ (pins : List (Addr × Obj)) (s : Shared) (σ : Sg) (H : Hp) (W : Wd) (st : ST) (ys us : List PV) (st' : ST), Inv X pins σ H s → R G W st σ H → f st = .ok (ys, us) st' →
    wpAny (model X.prog X.w) X.A (eval e X.env) (fun u s' => ∃ D Z vs W' H', u = .ref Z.z ∧ ZAt X pins σ W st H G ys us st' D Z vs W' H' s') X.xe s
end Cl
set_option maxHeartbeats 4000000
set_option maxHeartbeats 4000000
set_option maxHeartbeats 4000000
namespace Cl
open PySem PySem.Spec PyProof.Rows L2 StX ClX
section
variable {G : Gd} {X : Cx} {Wx : WX}
theorem RepFs.laid {W : Wd} {o : List Addr} {H : Hp} {T : Addr} {u : HO} (hT : H T = none) : ∀ {fs : List FV} {vs : List V}, RepFs G W o H fs vs → RepFs G W o (upd H T u) fs vs
  | [], [], _ => trivial
  | .t p :: fs, v :: vs, ⟨q, l⟩ => ⟨q, l.laid hT⟩
  | .n c :: fs, _ :: vs, ⟨⟨a, e, m, na, fa, nn⟩, l⟩ => ⟨⟨a, e, m.mono (Same.refl _) fun u' e' => same_upd hT a u' e', na, fa, nn⟩, l.laid hT⟩
  | [], _ :: _, h => h.elim
  | .t _ :: _, [], h => h.elim
  | .n _ :: _, [], h => h.elim
end
end Cl
set_option maxHeartbeats 4000000
set_option maxHeartbeats 4000000
namespace Cl
open PySem PySem.Spec PyProof.Rows L2 StX ClX Builtin Builtin.ObjectAttr
structure OexG (K : PySem.W.Frag) (C : Addr) (newId : String) (tl : List Value) : Prop where
  cls : ∃ nm q N bs sn sub ab col dd k0 k1 k2 k3 k5, K.lookup C = some (excClassObj nm q C N bs tl true sn sub ab col dd k0 k1 k2 k3 k5 newId)
  sa : PySem.W.findIn K (.ref C) "__setattr__" = some (some (.builtin "object.__setattr__"))
  exC : PySem.W.subIn K (.ref C) (.type "BaseException") = some true
  tyC : PySem.W.typeIn K (.ref C) = some (.type "type")
  kC : PySem.W.keepIn K (.ref C) = true
structure XBase (B newId initId : String) (tl : List Value) : Prop where
  eb : ExcBaseFacts B newId initId tl
  sf : StoreFacts B tl "object.__setattr__" "object"
  tail : PySem.W.excTail tl tl = true
theorem xb_Overflow : XBase "OverflowError" "OverflowError.__new__" "OverflowError.__init__" [.type "OverflowError", .type "ArithmeticError", .type "Exception", .type "BaseException", .type "object"] := ⟨F.excBase_OverflowError, F.store_OverflowError, by decide⟩
theorem xb_Runtime : XBase "RuntimeError" "RuntimeError.__new__" "RuntimeError.__init__" [.type "RuntimeError", .type "Exception", .type "BaseException", .type "object"] := ⟨F.excBase_RuntimeError, F.store_RuntimeError, by decide⟩
theorem xb_Lookup : XBase "LookupError" "LookupError.__new__" "LookupError.__init__" [.type "LookupError", .type "Exception", .type "BaseException", .type "object"] := ⟨F.excBase_LookupError, F.store_LookupError, by decide⟩
section
variable {X : Cx} {pins : List (Addr × Obj)} {σ : Sg} {H : Hp} {s : Shared} {a C dx : Addr} {f : PySem.Str} {y : V} {u : Value} {A : Around} {B newId initId : String} {tl : List Value}
theorem oexG_cls {K : PySem.W.Frag} (T : OexG K C newId tl) : ∃ cd, PySem.W.clsIn K C = some cd ∧ cd.mro = .ref C :: tl ∧ cd.hasDict = true := by
  obtain ⟨nm, q, N, bs, sn, sub, ab, col, dd, k0, k1, k2, k3, k5, hC⟩ := T.cls
  refine ⟨{ name := nm, bases := bs, mro := .ref C :: tl, ns := N, qualname := q, hasDict := true, slotNames := sn, subclasses := sub, abstract := ab, collection := col, hasDel := false }, ?_, rfl, rfl⟩
  unfold PySem.W.clsIn; rw [hC] <;> rfl
theorem osaG {K : PySem.W.Frag} {hp : Heap} {g : Array GenState} {d : Drawn} {t : Nat} {os : OsState} {prog : Program} {w : World} {x t1 : Addr} {name : PySem.Str} {tk : Tok} {v : Value} {R : Result → Shared → Prop} (XB : XBase B newId initId tl) (T : OexG K C newId tl) (X : K.In hp) (hx : hp.get? x = some (PySem.W.excObj C t1 none .none)) (ha : PySem.W.findIn K (.ref C) name = some none)
    (hq : ∀ h' tk' dx, (∀ b o, b ≠ x → hp.get? b = some o → h'.get? b = some o) → hp.objs.size ≤ dx → dx ≠ x → h'.get? x = some (PySem.W.excObj C t1 (some dx) .none) → h'.Ns1 dx (fun z => if z = name then some v else none) → R (.ok (.ret .none)) ⟨h', g, d, tk', os⟩) :
    codeAny (model prog w) A (.call (.builtin "object.__setattr__") ⟨[.ref x, .str name tk, v], []⟩) R ⟨hp, g, d, t, os⟩ := by
  obtain ⟨cd, hcd, hm, hh⟩ := oexG_cls T
  have ov : PySem.W.excOver K C tl = true := by
    unfold PySem.W.excOver
    rw [hcd, Option.any_some, hm]
    show (C == C && PySem.W.excTail tl tl) = true
    rw [XB.tail]; simp
  have tk0 : PySem.W.takerIn K C name = some none := by
    unfold PySem.W.takerIn
    rw [ha]; rfl
  refine PySem.W.osa_openX (s := ⟨hp, g, d, t, os⟩) (od := none) XB.sf X ⟨hx, rfl, rfl, trivial⟩ ov tk0 fun b => ?_
  have hcls : PySem.W.Looks (model prog w) hp (classData C) cd := PySem.W.looks_clsIn X hcd
  have hxs : x ≠ hp.objs.size := Nat.ne_of_lt (Heap.lt_size hx)
  obtain ⟨nm, bs, mro, ns, qn, hd, sn, sb, ab, col, del⟩ := cd
  dsimp only at hh
  subst hh
  unfold storeInOwnDict ownDictForStores
  repeat (first | with_reducible refine PySem.HandSPX.store_in_new ?_ ?_ | with_reducible refine wpAny_loadPart_at hx ?_ | with_reducible refine hcls.at ?_ | wp_step)
  · exact ⟨_, #[], _, (Heap.get?_update_ne _ _ _ _ hxs.symm).trans (Heap.get?_push_at rfl rfl), rfl, fun e he => absurd he (by simp), fun _ => rfl⟩
  · intro h' tk' hn' hs
    have hx2 : (hp.push { cls := .type "dict", data := .dict #[] }).get? x = some (PySem.W.excObj C t1 none .none) := Heap.get?_push_of_some _ hx
    refine hq h' tk' hp.objs.size (fun b o hb ho => ?_) (Nat.le_refl _) hxs.symm ?_ hn'
    · exact (hs.2 b (Nat.ne_of_lt (Heap.lt_size ho))).trans ((Heap.get?_update_ne _ _ _ _ hb).trans (Heap.get?_push_of_some _ ho))
    · exact (hs.2 x hxs).trans (Heap.get?_update_self _ hx2 rfl)
theorem ostG_new {Q : Unit → Shared → Prop} {E : Value → Shared → Prop} (XB : XBase B newId initId tl) (T : OexG X.K C newId tl) (I : Inv X pins σ H s) (e : H a = some (exo a C none)) (hno : PySem.W.findIn X.K (.ref C) f = some none) (ry : RelV y u)
    (h : ∀ dx s', H dx = none → dx ≠ a → Inv X pins σ (upd (upd H dx (exd dx [(f, y)])) a (exo a C (some dx))) s' → Q () s') : wpAny (model X.prog X.w) A (setAttr (.ref a) f u) Q E s := by
  obtain ⟨t1, ho⟩ := exo_at I.hok e
  obtain ⟨hp, g, d, t, os⟩ := s
  refine PySem.W.set_plain I.kIn (ox := PySem.W.excObj C t1 none .none) (od := none) ⟨ho, rfl, rfl, trivial⟩ T.sa (osaG XB T I.kIn ho hno fun h' tk' dx k dn dne hx hn => ?_)
  have hnd : H dx = none := I.hok.fresh dn
  have old : ∀ {b : Addr} {o : Obj}, hp.get? b = some o → b ≠ dx := fun {b o} q z => by
    have := Heap.lt_size q
    rw [z] at this
    exact absurd (Nat.lt_of_lt_of_le this dn) (Nat.lt_irrefl _)
  have free : ∀ {b : Addr}, H b = none → b ≠ a := fun {b} n z => by rw [z, e] at n; cases n
  have at' : ∀ {b : Addr} {o : HO}, H b = some o → o ≠ exo a C none → upd (upd H dx (exd dx [(f, y)])) a (exo a C (some dx)) b = some o := fun {b o} q n => by
    have n1 : b ≠ a := fun z => by rw [z, e] at q; exact n (Option.some.inj q).symm
    rw [upd_ne n1, upd_ne (ne_of_none q hnd)]; exact q
  have U : Un X.fs [] H (upd (upd H dx (exd dx [(f, y)])) a (exo a C (some dx))) hp h' := ⟨fun b o q n _ _ => k b o (free n) q, fun b o q n _ _ => ⟨o.slots, k b o (free n) q⟩, fun b o q n _ => by rw [upd_ne (free n), upd_ne (old q)]; exact n,
    fun b o q _ => (Classical.em (b = a)).elim (fun z => ⟨PySem.W.excObj C t1 (some dx) .none, by rw [z]; exact hx⟩) fun z => ⟨o, k b o z q⟩, fun b xs q => at' q (Ne.symm exo_tup), fun b o v q => at' q (Ne.symm exo_frz), fun b ps q => ⟨#[], by rw [at' q (Ne.symm exo_tbl)]; simp⟩⟩
  show Q () _
  refine h dx _ hnd dne (I.un (t' := tk') U fun b o q => ?_)
  by_cases hb : b = a
  · subst hb
    rw [upd_same] at q
    cases q
    exact exo_ok hx
  rw [upd_ne hb] at q
  by_cases hd : b = dx
  · subst hd
    rw [upd_same] at q
    cases q
    exact exd_ok hn (relO_put (fs := []) ry fun _ => trivial)
  rw [upd_ne hd] at q
  refine (I.hok b o q).stay (fun c v hc z => k c v ?_ z) (fun c hc => at' hc (Ne.symm exo_own)) fun c xs hc => at' hc (Ne.symm exo_tup)
  rcases hc with hc | hc
  · rw [hc]; exact hb
  · exact fun z => by rw [z, e] at hc; exact exo_own (Option.some.inj hc)
theorem oinitG {us : List Value} {Q : Value → Shared → Prop} {E : Value → Shared → Prop} (XB : XBase B newId initId tl) (T : OexG X.K C newId tl) (I : Inv X pins σ H s) (e : H a = some (exo a C none)) (hl : us.length ≤ sizeLine) (h : ∀ s', Inv X pins σ H s' → Q .none s') :
    wpAny (model X.prog X.w) A (call (.builtin initId) (.ref a :: us)) Q E s := by
  obtain ⟨nm, q, N, bs, sn, sub, ab, col, dd, k0, k1, k2, k3, k5, hC⟩ := T.cls
  obtain ⟨t1, ho⟩ := exo_at I.hok e
  obtain ⟨hp, g, d, t, os⟩ := s
  refine wpAny_call (PySem.HandSPX.init_base XB.eb (fun _ => rfl) (I.kIn _ _ hC) ho hl fun h' t2 k hx => h _ ?_)
  have J := I.write (t' := t) (x := a) (e := a) (o := exo a C none) (by rw [e]; exact True.intro) (.inl rfl) k ⟨_, hx⟩ (exo_ok hx)
  have eu : upd H a (exo a C none) = H := funext fun b => (Classical.em (b = a)).elim (fun z => by rw [z, upd_same, e]) fun z => upd_ne z
  rw [eu] at J
  exact J
end
end Cl
set_option maxHeartbeats 4000000
namespace Cl
open PySem PySem.Spec PyProof.Rows L2 StX ClX
structure XName (B initId : String) (x : PySem.Str) : Prop where
  st : Manifest.isStub B = false
  ty : typeOf (.type B) = pure (.type "type")
  hh : PySem.W.handedIn (.builtin initId) = true
  boot : bootBuiltins x = some (.type B)
  nn : x ≠ "__name__"
  nd : (x == ("__debug__" : PySem.Str)) = false
theorem xn_Overflow : XName "OverflowError" "OverflowError.__init__" "OverflowError" := ⟨by decide +kernel, by kernel_rfl, by decide +kernel, PyProof.Rows.Boot.«OverflowError», by decide, by decide⟩
theorem xn_Runtime : XName "RuntimeError" "RuntimeError.__init__" "RuntimeError" := ⟨by decide +kernel, by kernel_rfl, by decide +kernel, PyProof.Rows.Boot.«RuntimeError», by decide, by decide⟩
theorem xn_Lookup : XName "LookupError" "LookupError.__init__" "LookupError" := ⟨by decide +kernel, by kernel_rfl, by decide +kernel, PyProof.Rows.Boot.«LookupError», by decide, by decide⟩
def tBi (K : PySem.W.Frag) (newId : String) (tl : List Value) (ta : TA) : TE := fun σ H Q => ta σ H fun vs H1 => ∃ (a C : Addr) (ws : List V), vs = .ref a :: ws ∧ ws.length ≤ 1000 ∧ OexG K C newId tl ∧ H1 a = some (exo a C none) ∧ Q .non H1
def tOst1 (K : PySem.W.Frag) (newId : String) (tl : List Value) (f : PySem.Str) (to te : TE) : TS := fun D σ H => te σ H fun y H1 => to σ H1 fun x H2 => ∃ a C : Addr, x = .ref a ∧ OexG K C newId tl ∧ PySem.W.findIn K (.ref C) f = some none ∧ H2 a = some (exo a C none) ∧ ∀ dx, H2 dx = none → dx ≠ a → D.nx σ (upd (upd H2 dx (exd dx [(f, y)])) a (exo a C (some dx)))
section
variable {X : Cx} {o e : Expr} {es : List Expr} {to te : TE} {ta : TA} {f x : PySem.Str} {p p' p1 p2 pos : Pos} {B newId initId : String} {tl : List Value}
theorem pe_binit {pl : Sem Bool} (XB : XBase B newId initId tl) (XN : XName B initId x) (hg : Gl X x) (hm : X.mg x = none) (vV : PySem.W.findCls X.K (.type B) (.type "type") "__init__" = some (.val (.builtin initId))) (ha : PA X (e :: es) ta)
    (hc : eval (.Call (.Attribute (.Name x p1) "__init__" p2) (e :: es) [] pos) X.env = (do
      let ov ← eval (.Name x p1) X.env
      standAt p2.atName
      let (f, first) ← holding [ov] (getMethod ov "__init__" pl)
      callWith pos f first (backTo pos (starEach (e :: es) X.env)) (backToKw pos (keywordEach [] X.env))) := by rfl)
    (he : starEach (e :: es) X.env = (false, eval e X.env) :: starEach es X.env := by rfl) (hpl : (backTo pos (starEach es X.env)).any (·.1) = false := by rfl) :
    PE X (.Call (.Attribute (.Name x p1) "__init__" p2) (e :: es) [] pos) (tBi X.K newId tl ta) := by
  refine ⟨fun pins s σ H Q I h => ?_⟩
  refine PySem.W.methodCall_KW (ld_blt I hg hm XN.boot ?_ XN.nn XN.nd) hc
  obtain ⟨m, fr⟩ := I.fr
  refine PySem.W.method_type fr I.ok.mod.kin XN.ty XN.st vV XN.hh ?_
  refine PyProof.Rows.callWith_method1 (thn (ha.run pos pins _ σ H _ (I.tok _) h) fun us s1 ⟨vs, H1, I1, r1, a, C, ws, ev, hl, T, ea, q⟩ => ?_) he hpl
  subst ev
  cases r1 with
  | @cons _ u0 _ ur ra rw' =>
    obtain rfl : u0 = Value.ref a := ra
    exact oinitG XB T I1 ea (by rw [← Paired.length rw', sizeLine_eq]; omega) fun s' J => ⟨.non, H1, J, rfl, q⟩
theorem ps_ost1 (XB : XBase B newId initId tl) (ho : PE X o to) (he : PE X e te) (hs : swapsWith e (some (.Attribute o f p')) pos.line X.env = pure false := by rfl) : PS X (.Assign [.Attribute o f p'] e pos) (tOst1 X.K newId tl f to te) := by
  refine ⟨fun pins s σ H D I h => ?_⟩
  refine plainObj_wpAny_Assign_Attribute (thn (he.run pins s σ H _ I h) fun v s1 ⟨y, H1, I1, r1, q1⟩ => thn (ho.run pins s1 σ H1 _ I1 q1) fun u s2 ⟨z, H2, I2, r2, a, C, ez, T, hno, ea, q⟩ => ?_) hs
  subst ez
  obtain rfl : u = Value.ref a := r2
  exact ostG_new XB T I2 ea hno r1 fun dx s' n ne J => ⟨σ, _, J, q dx n ne⟩
def tMkG (C : Addr) (sp : Sp) (ta : TA) : L2.St → Hp → XK → Prop := fun σ H Q => ta σ H fun vs H1 => vs.length ≤ 1000 ∧ ∀ a, H1 a = none → sp (.ref a :: vs) (upd H1 a (exo a C none))
  (fun v H2 => v = .non ∧ ∃ (d : Addr) (fs : List (PySem.Str × V)), H2 a = some (exo a C (some d)) ∧ H2 d = some (exd d fs) ∧ H1 d = none ∧ Q (.ref C) (some d) (upd (del H2 a) d (.xd fs))) (fun _ _ _ => False)
theorem pmkG {CX : CXT} {C fI : Addr} {k : Nat} {fd : FuncData} {ps : List PySem.Str} {sp : Sp} (XB : XBase B newId initId tl) (T : OexG X.K C newId tl) (iC : PySem.W.findIn X.K (.ref C) "__init__" = some (some (.ref fI))) (tI : PySem.W.typeIn X.K (.ref fI) = some (.type "function"))
    (F1 : FnOk X.prog X.w X.K X.mg X.base CX k fI fd ps sp) (hr : Room (k + 1) X.A) (hb : Binds X.K fd ps []) (hx : Passes CX X (fun _ _ _ => False)) (hg : Gl X x) (hm : X.mg x = some (.ref C)) (ha : PA X (e :: es) ta)
    (hdb : (x == ("__debug__" : PySem.Str)) = false := by decide) (he : starEach (e :: es) X.env = (false, eval e X.env) :: starEach es X.env := by rfl) (hpl : (backTo pos (starEach es X.env)).any (·.1) = false := by rfl) :
    PMk X (.Call (.Name x p) (e :: es) [] pos) (tMkG C sp ta) := by
  intro pins s σ H Q I h
  obtain ⟨nm, q, N, bs, sn, sub, ab, col, dd, k0, k1, k2, k3, k5, hC⟩ := T.cls
  refine wpAny_Call_Name_kw (ld_glob I hg hm ?_ hdb)
  refine PySem.W.callWith_K (h₀ := X.base) I.ok.mod.kin T.kC (thn (ha.run pos pins s σ H _ I h) fun us s1 ⟨vs, H1, I1, r1, hz, q1⟩ => ⟨I1.kIn, ?_⟩) he hpl
  obtain ⟨hp, g, dr, tk, os⟩ := s1
  have fresh : H1 (hp.objs.size + 1) = none := I1.hok.fresh (Nat.le_succ _)
  have hq := q1 (hp.objs.size + 1) fresh
  have keep : ∀ b o, hp.get? b = some o → ((hp.push (PySem.W.kdv_tup us)).push (PySem.HandSPX.excO C hp.objs.size)).get? b = some o := fun b o e => Heap.get?_push_of_some _ (Heap.get?_push_of_some _ e)
  have made : ((hp.push (PySem.W.kdv_tup us)).push (PySem.HandSPX.excO C hp.objs.size)).get? (hp.objs.size + 1) = some (PySem.HandSPX.excO C hp.objs.size) := by heap_get
  have I2 : Inv X pins σ (upd H1 (hp.objs.size + 1) (exo (hp.objs.size + 1) C none)) ⟨(hp.push (PySem.W.kdv_tup us)).push (PySem.HandSPX.excO C hp.objs.size), g, dr, tk, os⟩ := I1.laid (t' := tk) keep (Nat.le_succ _) (exo_ok made)
  have r2 : Vals (V.ref (hp.objs.size + 1) :: vs) (Value.ref (hp.objs.size + 1) :: us) := .cons rfl r1
  have hl : (Value.ref (hp.objs.size + 1) :: us ++ []).length = ps.length := by
    rw [List.append_nil, ← r2.length]
    exact F1.len _ _ _ _ hq
  have hus : us.length ≤ sizeLine := by
    rw [← Paired.length r1, sizeLine_eq]
    omega
  refine wpAny_call (PySem.HandSPX.call_own XB.eb (fun _ => rfl) (I1.kIn _ _ hC) (PySem.W.looks_findIn I1.kIn iC) (fun self => PySem.W.bind_fn I1.kIn self tI) hus
    (codeAny_mono (F1.run _ X.stack _ _ ⟨Value.ref (hp.objs.size + 1) :: us, []⟩ (Value.ref (hp.objs.size + 1) :: us) _ _ (fun _ _ _ => False) (hr.make C us []) (I2.env0.make C us []) (by have := hb _ (Value.ref (hp.objs.size + 1) :: us) I2.kIn hl; rwa [List.append_nil] at this) r2 hq) fun r s' hq' => ?_))
  cases r with
  | error er => exact hx pins σ _ _ er s' I2 hq'
  | ok fl =>
    cases fl with
    | ret u =>
      obtain ⟨v, H2, os2, bare2, un2, hok2, rv, ev, d, fs, ea, ed, hd1, q2⟩ := hq'
      subst ev
      obtain ⟨h2, g2, d2, t2, os'⟩ := s'
      exact ⟨rv, mk_end (raises_own T.exC T.tyC) I1 (Nat.le_succ _) keep un2 hok2 os2 bare2 ea ed hd1 q2⟩
    | next => exact False.elim hq'
    | brk => exact False.elim hq'
    | cont => exact False.elim hq'
end
end Cl
set_option maxHeartbeats 4000000
namespace Cl
open PySem PySem.Spec PyProof.Rows L2 StX ClX
theorem oexgB_ok {K : PySem.W.Frag} {C : Addr} {newId : String} {tl : List Value} (h : oexgB K C newId tl = true) : OexG K C newId tl := by
  obtain ⟨h1, h⟩ := He.ba h
  obtain ⟨h2, h⟩ := He.ba h
  obtain ⟨h3, h⟩ := He.ba h
  obtain ⟨h4, h5⟩ := He.ba h
  refine ⟨?_, He.eqO_ok h2, of_decide_eq_true h3, of_decide_eq_true h4, h5⟩
  split at h1
  · rename_i dd cd sl ho
    split at h1
    · rename_i C' bm k0 k1 k2 k3 n k5 hm hs
      obtain ⟨e1, h1⟩ := He.ba h1
      obtain ⟨e2, h1⟩ := He.ba h1
      obtain ⟨e3, h1⟩ := He.ba h1
      obtain ⟨e4, e5⟩ := He.ba h1
      have e1 := of_decide_eq_true e1
      have e2 := of_decide_eq_true e2
      have e5 := beq_iff_eq.mp e5
      subst e1 e2 e5
      obtain ⟨nm, bs, mro, ns, qn, hd, sn, sub, ab, col, del⟩ := cd
      dsimp only at hm e3 e4
      have e3' : del = false := by simpa using e3
      subst hm e3' e4
      have hsl : sl = #[k0, k1, k2, k3, some (.builtin n), k5] := by
        obtain ⟨l⟩ := sl
        simp only at hs
        rw [hs]
      subst hsl
      exact ⟨_, _, _, _, _, _, _, _, _, _, _, _, _, _, ho⟩
    · cases h1
  · cases h1
structure OexGF (K : PySem.W.Frag) (C fI : Addr) (f : PySem.Str) (newId : String) (tl : List Value) : Prop where
  oex : OexG K C newId tl
  xf : XfC K C
  ini : PySem.W.findIn K (.ref C) "__init__" = some (some (.ref fI))
  tI : PySem.W.typeIn K (.ref fI) = some (.type "function")
  no : PySem.W.findIn K (.ref C) f = some none
theorem oexGF_ok {K : PySem.W.Frag} {x f : PySem.Str} {newId : String} {tl : List Value} (h : faOexG x f newId tl K = true) : OexGF K (He.ga K x) (He.ma K (He.ga K x) "__init__") f newId tl := by
  obtain ⟨h1, h⟩ := He.ba h
  obtain ⟨h2, h⟩ := He.ba h
  obtain ⟨h3, h⟩ := He.ba h
  obtain ⟨h4, h5⟩ := He.ba h
  exact ⟨oexgB_ok h1, xfB_ok h2, He.eqO_ok h3, of_decide_eq_true h4, He.eqO_ok h5⟩
theorem bin_ok {K : PySem.W.Frag} {B id : String} (h : faBin B id K = true) : PySem.W.findCls K (.type B) (.type "type") "__init__" = some (.val (.builtin id)) := by
  unfold faBin at h
  split at h
  · rename_i n e
    rw [e, of_decide_eq_true h]
  · cases h
theorem Tx.oexg {fa : List FaC} {fn : List DefC} {K : PySem.W.Frag} {mg : PySem.Str → Option Value} (T : Tx fa fn K mg) (i : Nat) {x f : PySem.Str} {newId : String} {tl : List Value} (h : fa[i]? = some (faOexG x f newId tl) := by rfl) : OexGF K (He.ga K x) (He.ma K (He.ga K x) "__init__") f newId tl := oexGF_ok (T.c.fact i h)
theorem Tx.bin {fa : List FaC} {fn : List DefC} {K : PySem.W.Frag} {mg : PySem.Str → Option Value} (T : Tx fa fn K mg) (i : Nat) {B id : String} (h : fa[i]? = some (faBin B id) := by rfl) : PySem.W.findCls K (.type B) (.type "type") "__init__" = some (.val (.builtin id)) := bin_ok (T.c.fact i h)
def spXg (K : PySem.W.Frag) (f : PySem.Str) (newId : String) (tl : List Value) : Sp := fun vs H Q _ => ∃ (a C : Addr) (y : V), vs = [.ref a, y] ∧ OexG K C newId tl ∧ PySem.W.findIn K (.ref C) f = some none ∧ H a = some (exo a C none) ∧
  ∀ dx, H dx = none → dx ≠ a → Q .non (upd (upd H dx (exd dx [(f, y)])) a (exo a C (some dx)))
abbrev tXg (K : PySem.W.Frag) (f t : PySem.Str) (newId : String) (tl : List Value) : TS := tSeq (tDrop (tBi K newId tl (tCons (tVar 0) (tCons (tC (.str t)) tNil)))) (tSeq (tOst1 K newId tl f (tVar 0) (tVar 1)) tNext)
section
variable {P : Program} {w : World} {K : PySem.W.Frag} {mg : PySem.Str → Option Value} {base : Heap} {x qual f t : PySem.Str} {params : Arguments} {scope : Scope} {body : List Stmt} {fI : Addr} {fd : FuncData} {newId : String} {tl : List Value}
theorem xinitG (F : FunD K x qual params body scope [] [] fI fd) (S : FnScope ["self", f] ["self", f] scope)
    (hb : ∀ (cd : Value) (A : Around) (outer : List Env) (s : Shared) (H : Hp) (E : XK), PSs (cxB P w K mg base ["self", f] qual scope fI cd A outer s H E) body (tXg K f t newId tl)) : FnOk P w K mg base (L2.CX P w) 2 fI fd ["self", f] (spXg K f newId tl) := by
  refine F.ok S (fun vs H Q E ⟨a, C, y, e, _⟩ => by rw [e]; rfl) fun cdv A outer s H vs Q E room ⟨a, C, y, ev, T, hno, ea, q⟩ => ?_
  subst ev
  refine ⟨_, hb cdv A outer s H E, ?_⟩
  exact ⟨.ref a, rfl, a, C, [.str t], rfl, by simp, T, ea, y, rfl, .ref a, rfl, a, C, rfl, T, hno, ea, fun dx h1 h2 => q dx h1 h2⟩
end
def XIniG (P : Program) (w : World) (K : PySem.W.Frag) (mg : PySem.Str → Option Value) (base : Heap) (fI : Addr) (f : PySem.Str) (newId : String) (tl : List Value) : Prop :=
  ∃ fd, FnOk P w K mg base (L2.CX P w) 2 fI fd ["self", f] (spXg K f newId tl) ∧ Binds K fd ["self", f] []
end Cl
set_option maxHeartbeats 4000000
set_option maxHeartbeats 1000000
namespace Cl
open PySem PySem.Spec PyProof.Rows L2 StX ClX
section
variable {X : Cx}
def NoF (X : Cx) (d : Addr) : Prop := ∀ o' u', X.H_0 d ≠ some (.frz o' u')
def unP (X : Cx) (P : Hp → Prop) : Hp → Prop := fun H' => P H' ∨ ∃ d od u, H' d = some (.frz od u) ∧ NoF X d ∧ P (upd H' d u)
end
structure Sw (d : Addr) (u : HO) (F F' : Hp) : Prop where
  n : ∀ b, b ≠ d → F' b = F b
  k : (∃ hs, u = .dK hs) ∨ ∃ hs, u = .dT hs
  a : Rd F d u
  b : Rd F' d u
theorem Sw.ne {d : Addr} {u w : HO} {F F' : Hp} {x : Addr} (s : Sw d u F F') (e : F x = some w) (h1 : w ≠ u) (h2 : ∀ o, w ≠ .frz o u) : F' x = some w := by
  by_cases z : x = d
  · subst z
    rcases s.a with q | ⟨o, q⟩
    · rw [q] at e; cases e; exact absurd rfl h1
    · rw [q] at e; cases e; exact absurd rfl (h2 o)
  · rw [s.n x z]; exact e
theorem Sw.nd {d : Addr} {u w : HO} {F F' : Hp} {x : Addr} (s : Sw d u F F') (e : F x = some w) (h : ∀ hs, w ≠ .dK hs) (h' : ∀ hs, w ≠ .dT hs) (h2 : ∀ o y, w ≠ .frz o y) : F' x = some w := by
  refine s.ne e (fun z => ?_) fun o => h2 o u
  rcases s.k with ⟨hs, k⟩ | ⟨hs, k⟩
  · exact h hs (z.trans k)
  · exact h' hs (z.trans k)
theorem Sw.fz {d : Addr} {u w : HO} {o : Obj} {F F' : Hp} {x : Addr} (s : Sw d u F F') (e : F x = some (.frz o w)) (h : ∀ hs, w ≠ .dK hs) (h' : ∀ hs, w ≠ .dT hs) : F' x = some (.frz o w) := by
  refine s.ne e (fun z => ?_) fun o' z => ?_
  · rcases s.k with ⟨hs, k⟩ | ⟨hs, k⟩ <;> rw [k] at z <;> cases z
  · cases z
    rcases s.k with ⟨hs, k⟩ | ⟨hs, k⟩
    · exact h hs k
    · exact h' hs k
theorem Sw.rd {d : Addr} {u w : HO} {F F' : Hp} {x : Addr} (s : Sw d u F F') (hw : ∀ o y, w ≠ .frz o y) (r : Rd F x w) : Rd F' x w := by
  by_cases z : x = d
  · subst z
    have hu : ∀ o y, u ≠ .frz o y := fun o y z => by rcases s.k with ⟨hs, k⟩ | ⟨hs, k⟩ <;> rw [k] at z <;> cases z
    have e : w = u := by
      rcases r with r | ⟨o, r⟩ <;> rcases s.a with q | ⟨o', q⟩ <;> rw [q] at r <;> cases r
      · rfl
      · exact absurd rfl (hw _ _)
      · exact absurd rfl (hu _ _)
      · rfl
    rw [e]; exact s.b
  · rcases r with r | ⟨o, r⟩
    · exact .inl (by rw [s.n x z]; exact r)
    · exact .inr ⟨o, by rw [s.n x z]; exact r⟩
section
variable {G : Gd} {F F' H H' : Hp} {d : Addr} {u : HO}
theorem TupAt.sw (h : Sw d u F F') {k : TF} {a : Addr} {vs : List V} (r : TupAt k F a vs) : TupAt k F' a vs := by
  cases k with
  | p => exact h.nd r (fun _ z => nomatch z) (fun _ z => nomatch z) (fun _ _ z => nomatch z)
  | x => obtain ⟨o, dd, e⟩ := r; exact ⟨o, dd, h.fz e (fun _ z => nomatch z) (fun _ z => nomatch z)⟩
  | a => exact r.elim (fun e => .inl (h.nd e (fun _ z => nomatch z) (fun _ z => nomatch z) (fun _ _ z => nomatch z))) fun ⟨o, dd, e⟩ => .inr ⟨o, dd, h.fz e (fun _ z => nomatch z) (fun _ z => nomatch z)⟩
theorem xob_nd {a : Addr} {cls : Value} {o : Option Addr} : (∀ hs, xob a cls o ≠ .dK hs) ∧ (∀ hs, xob a cls o ≠ .dT hs) ∧ ∀ z y, xob a cls o ≠ .frz z y :=
  ⟨(fun _ z => by cases (show HO.ext _ = HO.dK _ from z)), (fun _ z => by cases (show HO.ext _ = HO.dT _ from z)), (fun _ _ z => by cases (show HO.ext _ = HO.frz _ _ from z))⟩
theorem Sw.xob {a : Addr} {cls : Value} {o : Option Addr} {x : Addr} (h : Sw d u F F') (r : F x = some (xob a cls o)) : F' x = some (xob a cls o) := h.nd r xob_nd.1 xob_nd.2.1 xob_nd.2.2
theorem Sw.lst {x : Addr} {vs : List V} (h : Sw d u F F') (r : F x = some (.lst vs)) : F' x = some (.lst vs) := h.nd r (fun _ z => nomatch z) (fun _ z => nomatch z) (fun _ _ z => nomatch z)
theorem Sw.ins {x C dx : Addr} {hs : List (PySem.Str × V)} (h : Sw d u F F') (r : F x = some (.ins C dx hs)) : F' x = some (.ins C dx hs) := h.nd r (fun _ z => nomatch z) (fun _ z => nomatch z) (fun _ _ z => nomatch z)
theorem Sw.xd {x : Addr} {hs : List (PySem.Str × V)} (h : Sw d u F F') (r : F x = some (.xd hs)) : F' x = some (.xd hs) := h.nd r (fun _ z => nomatch z) (fun _ z => nomatch z) (fun _ _ z => nomatch z)
theorem Sw.scr {x : Addr} {o : Obj} {vs : List V} (h : Sw d u F F') (r : F x = some (.frz o (.lst vs))) : F' x = some (.frz o (.lst vs)) := h.fz r (fun _ z => nomatch z) (fun _ z => nomatch z)
theorem Sw.rdK {x : Addr} {hs : List (Key × V)} (h : Sw d u F F') (r : Rd F x (.dK hs)) : Rd F' x (.dK hs) := h.rd (fun _ _ z => nomatch z) r
theorem Sw.rdT {x : Addr} {hs : List (List Key × V)} (h : Sw d u F F') (r : Rd F x (.dT hs)) : Rd F' x (.dT hs) := h.rd (fun _ _ z => nomatch z) r
mutual
theorem Rep.sw (h : Sw d u F F') : ∀ {p : PV} {v : V}, Rep G F p v → Rep G F' p v
  | _, _, .non => .non
  | _, _, .bl b => .bl b
  | _, _, .int i => .int i
  | _, _, .str x => .str x
  | _, _, .ty n => .ty n
  | _, _, .fn n => .fn n
  | _, _, .lst r l => .lst (h.lst r) (RepL.sw h l)
  | _, _, .tup r l => .tup (TupAt.sw h r) (RepL.sw h l)
  | _, _, .dtp r l => .dtp (h.rdT r) (RepT.sw h l)
  | _, _, .dtn r l => .dtn (h.fz r (fun _ z => by cases (show HO.ext _ = HO.dK _ from z)) (fun _ z => by cases (show HO.ext _ = HO.dT _ from z))) (RepN.sw h l)
  | _, _, .adr a => .adr a
  | _, _, .dmx r k l => .dmx (h.fz r (fun _ z => by cases (show HO.ext _ = HO.dK _ from z)) (fun _ z => by cases (show HO.ext _ = HO.dT _ from z))) (RepL.sw h k) (RepL.sw h l)
  | _, _, .scr r => .scr (h.scr r)
  | _, _, .dct r l => .dct (h.rdK r) (RepK.sw h l)
  | _, _, .obj r l => .obj (h.ins r) (RepF.sw h l)
  | _, _, .xo r e l => .xo (h.xob r) (h.xd e) (RepF.sw h l)
  | _, _, .xo0 r => .xo0 (h.xob r)
  | _, _, .tbl a => .tbl a
  | _, _, .clo r l => .clo (h.nd r (fun _ z => by cases (show HO.ext _ = HO.dK _ from z)) (fun _ z => by cases (show HO.ext _ = HO.dT _ from z)) (fun _ _ z => by cases (show HO.ext _ = HO.frz _ _ from z))) (RepL.sw h l)
theorem RepL.sw (h : Sw d u F F') : ∀ {p : List PV} {v : List V}, RepL G F p v → RepL G F' p v
  | _, _, .nil => .nil
  | _, _, .cons r l => .cons (Rep.sw h r) (RepL.sw h l)
theorem RepK.sw (h : Sw d u F F') : ∀ {p : List (PV × PV)} {v : List (Key × V)}, RepK G F p v → RepK G F' p v
  | _, _, .nil => .nil
  | _, _, .cons e r l => .cons e (Rep.sw h r) (RepK.sw h l)
theorem RepT.sw (h : Sw d u F F') : ∀ {p : List (List Key × PV)} {v : List (List Key × V)}, RepT G F p v → RepT G F' p v
  | _, _, .nil => .nil
  | _, _, .cons r l => .cons (Rep.sw h r) (RepT.sw h l)
theorem RepN.sw (h : Sw d u F F') : ∀ {p : List (NK × PV)} {v : List (NK × Addr × V)}, RepN G F p v → RepN G F' p v
  | _, _, .nil => .nil
  | _, _, .cons ⟨b1, b2, x, y, z⟩ r l => .cons ⟨b1, b2, x.sw h, y.sw h, z.sw h⟩ (Rep.sw h r) (RepN.sw h l)
theorem RepF.sw (h : Sw d u F F') : ∀ {p : List (PySem.Str × PV)} {v : List (PySem.Str × V)}, RepF G F p v → RepF G F' p v
  | _, _, .nil => .nil
  | _, _, .cons r l => .cons (Rep.sw h r) (RepF.sw h l)
end
theorem RepM.sw {c : MC} {a : Addr} (h : Sw d u F F') (hh : ∀ b, b ≠ d → H' b = H b) (ha : a ≠ d) (k : RepM G F H c a) : RepM G F' H' c a := by
  cases c with
  | lst xs => obtain ⟨us, q, k⟩ := k; exact ⟨us, by rw [hh a ha]; exact q, k.sw h⟩
  | lsA b xs => obtain ⟨z, us, q, k⟩ := k; exact ⟨z, us, by rw [hh a ha]; exact q, k.sw h⟩
  | dct xs => obtain ⟨us, q, k⟩ := k; exact ⟨us, by rw [hh a ha]; exact q, k.sw h⟩
  | dtp xs => obtain ⟨us, q, k⟩ := k; exact ⟨us, by rw [hh a ha]; exact q, k.sw h⟩
  | dtn xs => obtain ⟨us, q, k⟩ := k; exact ⟨us, by rw [hh a ha]; exact q, k.sw h⟩
  | obj c xs => obtain ⟨dx, us, q, k⟩ := k; exact ⟨dx, us, by rw [hh a ha]; exact q, k.sw h⟩
  | tbl _ q => obtain ⟨g, ps, e, l, k⟩ := k; exact ⟨g, ps, by rw [hh a ha]; exact e, l, fun pos cv z => let ⟨c, e1, e2⟩ := k pos cv z; ⟨c, e1, h.nd e2 (fun _ z => by cases (show HO.ext _ = HO.dK _ from z)) (fun _ z => by cases (show HO.ext _ = HO.dT _ from z)) (fun _ _ z => by cases (show HO.ext _ = HO.frz _ _ from z))⟩⟩
theorem RepMs.sw (h : Sw d u F F') (hh : ∀ b, b ≠ d → H' b = H b) : ∀ {cs : List MC} {as : List Addr}, (∀ a ∈ as, a ≠ d) → RepMs G F H cs as → RepMs G F' H' cs as
  | [], [], _, _ => trivial
  | c :: cs, a :: as, n, r => ⟨RepM.sw h hh (n a (List.mem_cons_self ..)) r.1, RepMs.sw h hh (fun b hb => n b (List.mem_cons_of_mem _ hb)) r.2⟩
  | [], _ :: _, _, r => r.elim
  | _ :: _, [], _, r => r.elim
theorem R.sw {W : Wd} {st : ST} {σ : Sg} (r : R G W st σ H) (h : Sw d u W.F F') (hh : ∀ b, b ≠ d → H' b = H b) (hd : F' d = H' d) : R G ⟨F', W.A⟩ st σ H' := by
  have fd : W.F d ≠ none := by rcases h.a with q | ⟨o, q⟩ <;> rw [q] <;> simp
  have no : ∀ a ∈ own W st σ, a ≠ d := fun a ha z => by subst z; exact fd (r.fr a ha)
  refine ⟨fun b w e => ?_, RepMs.sw h hh (fun a ha => no a (List.mem_append_right _ ha)) r.inh, RepLoc.of_get r.len fun j l e => ?_, r.nd, fun a ha => ?_⟩
  · by_cases z : b = d
    · subst z; rw [← hd]; exact e
    · rw [hh b z]
      exact r.le b w (by rw [← h.n b z]; exact e)
  · obtain ⟨v, e3, k⟩ := r.loc.get e
    refine ⟨v, e3, ?_⟩
    cases l with
    | t p => exact Rep.sw h k
    | m c =>
      obtain ⟨a, rfl, k⟩ := k
      exact ⟨a, rfl, RepM.sw h hh (no a (List.mem_append_left _ (owned_get e e3))) k⟩
    | i n => exact k
  · show F' a = none
    rw [h.n a (no a ha)]
    exact r.fr a ha
end
def noXS : OutS → OutS
  | .exc _ _ _ => .stuck
  | o => o
abbrev unD (X : Cx) (D : Ends) : Ends := ⟨fun σ' => unP X (D.nx σ'), fun v => unP X (D.rt v), fun σ' => unP X (D.bk σ'), fun σ' => unP X (D.ct σ')⟩
section
variable {G : Gd} {X : Cx} {Wx : WX} {D : Ends}
theorem OutSA.un {W1 : Wd} {st1 : ST} {σ : Sg} {H1 : Hp} {d : Addr} {od : Obj} {u : HO} {z : OutS} (nof : NoF X d) (hk : (∃ hs, u = .dK hs) ∨ ∃ hs, u = .dT hs) (r1 : R G W1 st1 σ H1) (rd : W1.F d = some u) (o : OutSA G Wx W1 st1 σ H1 (noXS z) D) :
    OutSA G wx0 ⟨upd W1.F d (.frz od u), W1.A⟩ st1 σ (upd H1 d (.frz od u)) z (unD X D) := by
  have hd : H1 d = some u := r1.le _ _ rd
  have key : ∀ {W2 : Wd} {st' : ST} {σ2 : Sg} {H2 : Hp}, R G W2 st' σ2 H2 → Step (own ⟨upd W1.F d (.frz od u), W1.A⟩ st1 σ) ⟨upd W1.F d (.frz od u), W1.A⟩ (upd H1 d (.frz od u)) (own W2 st' σ2) W2 H2 →
      H2 d = some (.frz od u) ∧ Sw d u W2.F (upd W2.F d u) ∧ R G ⟨upd W2.F d u, W2.A⟩ st' σ2 (upd H2 d u) ∧ Step (own W1 st1 σ) W1 H1 (own ⟨upd W2.F d u, W2.A⟩ st' σ2) ⟨upd W2.F d u, W2.A⟩ (upd H2 d u) := by
    intro W2 st' σ2 H2 r2 s2
    have fd : W2.F d = some (.frz od u) := s2.f d _ upd_same
    have sw2 : Sw d u W2.F (upd W2.F d u) := ⟨fun b hb => upd_ne hb, hk, .inr ⟨od, fd⟩, .inl upd_same⟩
    refine ⟨r2.le _ _ fd, sw2, r2.sw sw2 (fun b hb => upd_ne hb) (by rw [upd_same, upd_same]), fun b w e => ?_, s2.a, fun b => ?_, fun b hb => ?_, fun b w e hb => ?_⟩
    · show upd W2.F d u b = some w
      by_cases z : b = d
      · subst z; rw [rd] at e; cases e; exact upd_same
      · rw [upd_ne z]; exact s2.f b w (by show upd W1.F d _ b = _; rw [upd_ne z]; exact e)
    · show upd W2.F d u b = W1.F b ∨ _
      by_cases z : b = d
      · subst z; exact .inl (by rw [upd_same, rd])
      · rw [upd_ne z]
        rcases s2.nf b with q | q | q
        · exact .inl (by rw [q]; exact upd_ne z)
        · exact .inr (.inl (by rw [upd_ne z] at q; exact q))
        · exact .inr (.inr q)
    · rcases s2.no b hb with q | q
      · exact .inl q
      · have z : b ≠ d := fun z => by subst z; rw [upd_same] at q; cases q
        exact .inr (by rw [upd_ne z] at q; exact q)
    · by_cases z : b = d
      · subst z; rw [hd] at e; cases e; exact upd_same
      · rw [upd_ne z]; exact s2.keep b w (by rw [upd_ne z]; exact e) hb
  cases z with
  | nx st' =>
    intro W2 σ2 H2 r2 s2
    obtain ⟨k1, _, k2, k3⟩ := key r2 s2
    exact .inr ⟨d, od, u, k1, nof, o _ _ _ k2 k3⟩
  | bk st' =>
    intro W2 σ2 H2 r2 s2
    obtain ⟨k1, _, k2, k3⟩ := key r2 s2
    exact .inr ⟨d, od, u, k1, nof, o _ _ _ k2 k3⟩
  | ct st' =>
    intro W2 σ2 H2 r2 s2
    obtain ⟨k1, _, k2, k3⟩ := key r2 s2
    exact .inr ⟨d, od, u, k1, nof, o _ _ _ k2 k3⟩
  | rt v st' =>
    intro W2 σ2 H2 x r2 s2 q
    obtain ⟨k1, sw2, k2, k3⟩ := key r2 s2
    have fd : W2.F d = some (.frz od u) := s2.f d _ upd_same
    refine .inr ⟨d, od, u, k1, nof, o _ _ _ x k2 k3 ?_⟩
    have bn : ∀ {a : Addr}, (upd H1 d (.frz od u)) a = none ∨ a ∈ own ⟨upd W1.F d (.frz od u), W1.A⟩ st1 σ → H1 a = none ∨ a ∈ own W1 st1 σ := fun {a} q => by
      rcases q with q | q
      · have z : a ≠ d := fun z => by subst z; rw [upd_same] at q; cases q
        exact .inl (by rw [upd_ne z] at q; exact q)
      · exact .inr q
    have nd : ∀ {a : Addr}, W2.F a = none → a ≠ d := fun {a} e z => by subst z; rw [fd] at e; cases e
    cases v with
    | t p => exact Rep.sw sw2 q
    | n c =>
      obtain ⟨a, rfl, m, na, fa, b⟩ := q
      have z := nd fa
      exact ⟨a, rfl, RepM.sw sw2 (fun b hb => upd_ne hb) z m, na, by show upd W2.F d u a = none; rw [upd_ne z]; exact fa, bn b⟩
    | u c p =>
      obtain ⟨t, a, w, rfl, ft, rp, m, na, fa, b⟩ := q
      have z := nd fa
      exact ⟨t, a, w, rfl, sw2.nd ft (fun _ z => nomatch z) (fun _ z => nomatch z) (fun _ _ z => nomatch z), Rep.sw sw2 rp, RepM.sw sw2 (fun b hb => upd_ne hb) z m, na, by show upd W2.F d u a = none; rw [upd_ne z]; exact fa, bn b⟩
    | v p c =>
      obtain ⟨t, a, w, rfl, ft, rp, m, na, fa, b⟩ := q
      have z := nd fa
      exact ⟨t, a, w, rfl, sw2.nd ft (fun _ z => nomatch z) (fun _ z => nomatch z) (fun _ _ z => nomatch z), Rep.sw sw2 rp, RepM.sw sw2 (fun b hb => upd_ne hb) z m, na, by show upd W2.F d u a = none; rw [upd_ne z]; exact fa, bn b⟩
  | exc c fs st' => exact (show False from o).elim
  | stuck => exact o
variable {e tg : Expr} {fe : Cm SV} {body : List Stmt} {pos : Pos} {f : TgF} {g : Sm}
end
end Cl
set_option maxHeartbeats 4000000
set_option maxHeartbeats 4000000
set_option maxHeartbeats 4000000
set_option maxHeartbeats 4000000
set_option maxHeartbeats 4000000
set_option maxHeartbeats 4000000
namespace Cl
open PySem PySem.Spec PyProof.Rows L2 StX ClX
section
variable {G : Gd} {X : Cx} {Wx : WX} {W : Wd} {st : ST} {σ : Sg} {H : Hp} {vs : List Nat}
theorem own_forget (hl : st.loc.length = σ.length) : owned (st.clear vs).loc σ = owned (st.clear vs).loc (wipe σ vs) := by
  refine owned_ext (by rw [clear_length]; exact hl) (by rw [clear_length, wipe_length]; exact hl) rfl fun i => ?_
  rw [clear_get, wipe_get]
  by_cases hi : i ∈ vs ∧ i < st.loc.length
  · rw [if_pos hi]
    rfl
  · rw [if_neg hi, if_neg fun z => hi ⟨z.1, by rw [hl]; exact z.2⟩]
theorem R.forget (r : R G W st σ H) : R G W (st.clear vs) σ H ∧ ∀ a ∈ own W (st.clear vs) σ, a ∈ own W st σ := by
  have c := r.clear (vs := vs)
  have e : own W (st.clear vs) σ = own W (st.clear vs) (wipe σ vs) := by unfold own; rw [own_forget r.len]
  refine ⟨⟨c.le, c.inh, ?_, by rw [e]; exact c.nd, by rw [e]; exact c.fr⟩, fun a h => own_clear_sub r a (by rw [← e]; exact h)⟩
  refine RepLoc.of_get (by rw [clear_length]; exact r.len) fun i l h => ?_
  rw [clear_get] at h
  split at h
  · cases h
  · exact r.loc.get h
def sForget (vs : List Nat) (g : Sm) : Sm := fun st => g (st.clear vs)
end
end Cl
set_option maxHeartbeats 4000000
namespace Cl
open PySem PySem.Spec PyProof.Rows L2
theorem runs_det {M : Model} {Γ : PySem.Ctx} {p : Pos} {t : Sem PySem.Fin} {fs : List Frame} {s s' : Shared} {e : End} (h : Runs M Γ p t fs s e s') : ∀ {e2 : End} {s2 : Shared}, Runs M Γ p t fs s e2 s2 → e = e2 ∧ s' = s2 := by
  induction h with
  | done => intro e2 s2 z; cases z; exact ⟨rfl, rfl⟩
  | raise => intro e2 s2 z; cases z; exact ⟨rfl, rfl⟩
  | again hq _ ih => intro e2 s2 z; cases z with | again _ a => exact ih a
  | rule _ ih => intro e2 s2 z; cases z with | rule a => exact ih a
  | «at» _ ih => intro e2 s2 z; cases z with | «at» a => exact ih a
  | load ho _ ih => intro e2 s2 z; cases z with | load h2 a => rw [ho] at h2; cases h2; exact ih a
  | update ho _ ih => intro e2 s2 z; cases z with | update h2 a => exact ih a
  | loadIfAlive _ ih => intro e2 s2 z; cases z with | loadIfAlive a => exact ih a
  | point _ ih => intro e2 s2 z; cases z with | point a => exact ih a
  | alloc _ ih => intro e2 s2 z; cases z with | alloc a => exact ih a
  | fresh _ ih => intro e2 s2 z; cases z with | fresh a => exact ih a
  | ask _ ih => intro e2 s2 z; cases z with | ask a => exact ih a
  | choose hn _ ih => intro e2 s2 z; cases z with | choose _ a => exact ih a
  | os _ ih => intro e2 s2 z; cases z with | os a => exact ih a
  | handled _ ih => intro e2 s2 z; cases z with | handled a => exact ih a
  | genState hg _ ih => intro e2 s2 z; cases z with | genState h2 a => rw [hg] at h2; cases h2; exact ih a
  | stack _ ih => intro e2 s2 z; cases z with | stack a => exact ih a
  | thread _ ih => intro e2 s2 z; cases z with | thread a => exact ih a
  | newGen _ ih => intro e2 s2 z; cases z with | newGen a => exact ih a
  | call _ _ ih1 ih2 =>
    intro e2 s2 z
    cases z with
    | call a b => obtain ⟨e1, e3⟩ := ih1 a; cases e1; cases e3; exact ih2 b
    | callSusp a => obtain ⟨e1, _⟩ := ih1 a; cases e1
  | callSusp _ ih =>
    intro e2 s2 z
    cases z with
    | call a b => obtain ⟨e1, _⟩ := ih a; cases e1
    | callSusp a => obtain ⟨e1, e3⟩ := ih a; cases e1; cases e3; exact ⟨rfl, rfl⟩
  | yield => intro e2 s2 z; cases z; exact ⟨rfl, rfl⟩
  | resumeFresh hg _ hq _ ih1 ih2 =>
    intro e2 s2 z
    cases z with
    | resumeFresh h a _ b => rw [hg] at h; cases h; obtain ⟨e1, e3⟩ := ih1 a; subst e1 e3; exact ih2 b
    | resumeSuspended h => rw [hg] at h; cases h
    | resumeJustStarted h hv => exact absurd rfl hv
    | resumeRunning h => rw [hg] at h; cases h
    | resumeFinished h => rw [hg] at h; cases h
  | resumeSuspended hg _ hq _ ih1 ih2 =>
    intro e2 s2 z
    cases z with
    | resumeFresh h => rw [hg] at h; cases h
    | resumeSuspended h a _ b => rw [hg] at h; cases h; obtain ⟨e1, e3⟩ := ih1 a; subst e1 e3; exact ih2 b
    | resumeJustStarted h => rw [hg] at h; cases h
    | resumeThrowFresh h => rw [hg] at h; cases h
    | resumeRunning h => rw [hg] at h; cases h
    | resumeFinished h => rw [hg] at h; cases h
  | resumeJustStarted hg hv _ ih =>
    intro e2 s2 z
    cases z with
    | resumeFresh h => exact absurd rfl hv
    | resumeSuspended h => rw [hg] at h; cases h
    | resumeJustStarted h _ a => exact ih a
    | resumeRunning h => rw [hg] at h; cases h
    | resumeFinished h => rw [hg] at h; cases h
  | resumeThrowFresh hg _ ih =>
    intro e2 s2 z
    cases z with
    | resumeSuspended h => rw [hg] at h; cases h
    | resumeThrowFresh h a => exact ih a
    | resumeRunning h => rw [hg] at h; cases h
    | resumeFinished h => rw [hg] at h; cases h
  | resumeRunning hg _ ih =>
    intro e2 s2 z
    cases z with
    | resumeFresh h => rw [hg] at h; cases h
    | resumeSuspended h => rw [hg] at h; cases h
    | resumeJustStarted h => rw [hg] at h; cases h
    | resumeThrowFresh h => rw [hg] at h; cases h
    | resumeRunning h a => exact ih a
    | resumeFinished h => rw [hg] at h; cases h
  | resumeFinished hg _ ih =>
    intro e2 s2 z
    cases z with
    | resumeFresh h => rw [hg] at h; cases h
    | resumeSuspended h => rw [hg] at h; cases h
    | resumeJustStarted h => rw [hg] at h; cases h
    | resumeThrowFresh h => rw [hg] at h; cases h
    | resumeRunning h => rw [hg] at h; cases h
    | resumeFinished h a => exact ih a
  | segRet _ _ ih1 ih2 =>
    intro e2 s2 z
    cases z with
    | segRet a b => obtain ⟨e1, e3⟩ := ih1 a; cases e1; subst e3; exact ih2 b
    | segSuspOut _ a => obtain ⟨e1, _⟩ := ih1 a; cases e1
    | segSuspGen _ a => obtain ⟨e1, _⟩ := ih1 a; cases e1
  | segGen _ _ ih1 ih2 =>
    intro e2 s2 z
    cases z with
    | segGen a b => obtain ⟨e1, e3⟩ := ih1 a; cases e1; subst e3; exact ih2 b
    | segSuspOut _ a => obtain ⟨e1, _⟩ := ih1 a; cases e1
    | segSuspGen _ a => obtain ⟨e1, _⟩ := ih1 a; cases e1
  | segSuspOut hsp _ ih =>
    intro e2 s2 z
    cases z with
    | segRet a => obtain ⟨e1, _⟩ := ih a; cases e1
    | segGen a => obtain ⟨e1, _⟩ := ih a; cases e1
    | segSuspOut _ a => obtain ⟨e1, e3⟩ := ih a; cases e1; exact ⟨rfl, e3⟩
    | segSuspGen h => rw [hsp] at h; cases h
  | segSuspGen hsp _ hq _ ih1 ih2 =>
    intro e2 s2 z
    cases z with
    | segRet a => obtain ⟨e1, _⟩ := ih1 a; cases e1
    | segGen a => obtain ⟨e1, _⟩ := ih1 a; cases e1
    | segSuspOut h => rw [hsp] at h; cases h
    | segSuspGen h a _ b => rw [hsp] at h; cases h; obtain ⟨e1, e3⟩ := ih1 a; cases e1; subst e3; exact ih2 b
end Cl
set_option maxHeartbeats 4000000
namespace Cl
open PySem PySem.Spec PyProof.Rows L2 StX ClX
theorem made_none {X : Cx} {pins : List (Addr × Obj)} {σ : Sg} {H1 H2 : Hp} {hp hp2 h2 : Heap} {g1 g2 : Array GenState} {d1 d2 : Drawn} {t1 t2 : Nat} {os1 os2 : OsState} {a C : Addr} (I1 : Inv X pins σ H1 ⟨hp, g1, d1, t1, os1⟩)
    (ha : hp.objs.size ≤ a) (k : ∀ b o, hp.get? b = some o → hp2.get? b = some o) (un : Un (frs X.stack) [] (upd H1 a (exo a C none)) H2 hp2 h2) (hok : HOk X.prog X.w H2 h2) (ho : os2 = os1) (hb : AllBare g2) (ea : H2 a = some (exo a C none)) :
    ∃ (t0 : Addr) (G : Heap), Inv X pins σ (del H2 a) ⟨G, g2, d2, t2, os2⟩ ∧ (∀ b o, G.get? b = some o → h2.get? b = some o) ∧ G.get? a = none ∧
      h2.get? a = some ({ cls := .ref C, dict := none, data := .fields #[.ref t0, .none, .none, .none, .bool false, .none] } : Obj) := by
  obtain ⟨t0, hoe⟩ := exo_at hok ea
  have hn : H1 a = none := I1.hok.fresh ha
  obtain ⟨G, g1', g2'⟩ := restrict h2 fun b => decide (b ≠ a)
  have gk : ∀ b, b ≠ a → G.get? b = h2.get? b := fun b hb => g1' b (decide_eq_true hb)
  have ge : G.get? a = none := g2' a (by simp)
  have nha : ∀ {b : Addr} {o : Obj}, hp.get? b = some o → b ≠ a := fun {b o} z => Nat.ne_of_lt (Nat.lt_of_lt_of_le (Heap.lt_size z) ha)
  have up : ∀ {b : Addr}, b ≠ a → H1 b = none → upd H1 a (exo a C none) b = none := fun {b} hb n => by rw [upd_ne hb]; exact n
  have U : Un (frs X.stack) [] H1 (del H2 a) hp G := {
    keep := fun b o z n hf hx => by rw [gk b (nha z)]; exact un.keep b o (k b o z) (up (nha z) n) hf hx
    slot := fun b o z n hf hx => by rw [gk b (nha z)]; exact un.slot b o (k b o z) (up (nha z) n) hf hx
    free := fun b o z n hx => by rw [del_ne (nha z)]; exact un.free b o (k b o z) (up (nha z) n) hx
    there := fun b o z hx => by rw [gk b (nha z)]; exact un.there b o (k b o z) hx
    tups := fun b xs z => by rw [del_ne (ne_of_none z hn)]; exact un.tups b xs (by rw [upd_ne (ne_of_none z hn)]; exact z)
    frzs := fun b o v z => by rw [del_ne (ne_of_none z hn)]; exact un.frzs b o v (by rw [upd_ne (ne_of_none z hn)]; exact z)
    tbls := fun b ps z => by rw [del_ne (ne_of_none z hn)]; exact un.tbls b ps (by rw [upd_ne (ne_of_none z hn)]; exact z) }
  have hok3 : HOk X.prog X.w (del H2 a) G := fun b o z => by
    have hba : b ≠ a := fun e => by rw [e, del_same] at z; cases z
    rw [del_ne hba] at z
    have noa : ∀ {c : Addr}, H2 c = some (.own b) → c ≠ a := fun {c} hc => at_ne ea hc exo_own
    exact (hok b o z).stay (fun c v hc y => by
        have hca : c ≠ a := by
          rcases hc with hc | hc
          · rw [hc]; exact hba
          · exact noa hc
        rw [gk c hca]
        exact y)
      (fun c hc => by rw [del_ne (noa hc)]; exact hc) (fun c xs hc => by rw [del_ne (at_ne ea hc exo_tup)]; exact hc)
  refine ⟨t0, G, I1.call' (ch := []) ho U hok3 hb (fun b z => absurd z (by simp)), fun b o z => ?_, ge, hoe⟩
  by_cases hba : b = a
  · rw [hba, ge] at z; cases z
  · exact (gk b hba).symm.trans z
section
variable {X : Cx} {x : PySem.Str} {p pos : Pos} {B newId initId : String} {tl : List Value}
def tMkN (C : Addr) (sp : Sp) : L2.St → Hp → XK → Prop := fun σ H1 Q => ∀ a, H1 a = none → sp [.ref a] (upd H1 a (exo a C none))
  (fun v H2 => v = .non ∧ H2 a = some (exo a C none) ∧ Q (.ref C) none (del H2 a)) (fun _ _ _ => False)
theorem pmkN {CX : CXT} {C fI : Addr} {k : Nat} {fd : FuncData} {ps : List PySem.Str} {sp : Sp} (XB : XBase B newId initId tl) (T : OexG X.K C newId tl) (iC : PySem.W.findIn X.K (.ref C) "__init__" = some (some (.ref fI))) (tI : PySem.W.typeIn X.K (.ref fI) = some (.type "function"))
    (F1 : FnOk X.prog X.w X.K X.mg X.base CX k fI fd ps sp) (hr : Room (k + 1) X.A) (hb : Binds X.K fd ps []) (hx : Passes CX X (fun _ _ _ => False)) (hg : Gl X x) (hm : X.mg x = some (.ref C))
    (hdb : (x == ("__debug__" : PySem.Str)) = false := by decide) :
    PMk X (.Call (.Name x p) [] [] pos) (tMkN C sp) := by
  intro pins s σ H Q I1 q1
  obtain ⟨nm, q, N, bs, sn, sub, ab, col, dd, k0, k1, k2, k3, k5, hC⟩ := T.cls
  refine wpAny_Call_Name_kw (ld_glob I1 hg hm ?_ hdb)
  refine PySem.W.callWith_K0 I1.kIn T.kC ?_
  obtain ⟨hp, g, dr, tk, os⟩ := s
  have fresh : H (hp.objs.size + 1) = none := I1.hok.fresh (Nat.le_succ _)
  have hq := q1 (hp.objs.size + 1) fresh
  have keep : ∀ b o, hp.get? b = some o → ((hp.push (PySem.W.kdv_tup ([] : List Value))).push (PySem.HandSPX.excO C hp.objs.size)).get? b = some o := fun b o e => Heap.get?_push_of_some _ (Heap.get?_push_of_some _ e)
  have made : ((hp.push (PySem.W.kdv_tup ([] : List Value))).push (PySem.HandSPX.excO C hp.objs.size)).get? (hp.objs.size + 1) = some (PySem.HandSPX.excO C hp.objs.size) := by heap_get
  have I2 : Inv X pins σ (upd H (hp.objs.size + 1) (exo (hp.objs.size + 1) C none)) ⟨(hp.push (PySem.W.kdv_tup ([] : List Value))).push (PySem.HandSPX.excO C hp.objs.size), g, dr, tk, os⟩ := I1.laid (t' := tk) keep (Nat.le_succ _) (exo_ok made)
  have r2 : Vals [V.ref (hp.objs.size + 1)] [Value.ref (hp.objs.size + 1)] := .cons rfl .nil
  have hl : ([Value.ref (hp.objs.size + 1)] ++ []).length = ps.length := F1.len _ _ _ _ hq
  refine wpAny_call (PySem.HandSPX.call_own XB.eb (fun _ => rfl) (I1.kIn _ _ hC) (PySem.W.looks_findIn I1.kIn iC) (fun self => PySem.W.bind_fn I1.kIn self tI) (Nat.zero_le _)
    (codeAny_mono (F1.run _ X.stack _ _ ⟨[Value.ref (hp.objs.size + 1)], []⟩ [Value.ref (hp.objs.size + 1)] _ _ (fun _ _ _ => False) (hr.make C [] []) (I2.env0.make C [] []) (by have := hb _ [Value.ref (hp.objs.size + 1)] I2.kIn hl; rwa [List.append_nil] at this) r2 hq) fun r s' hq' => ?_))
  cases r with
  | error er => exact hx pins σ _ _ er s' I2 hq'
  | ok fl =>
    cases fl with
    | ret u =>
      obtain ⟨v, H2, os2, bare2, un2, hok2, rv, ev, ea, q2⟩ := hq'
      subst ev
      obtain ⟨h2, g2, d2, t2, os'⟩ := s'
      obtain ⟨t0, G, J, kG, ge, hoe⟩ := made_none (d2 := d2) (t2 := t2) I1 (Nat.le_succ _) keep un2 hok2 os2 bare2 ea
      exact ⟨rv, _, _, _, ⟨G, g2, d2, t2, os'⟩, _, .ref C, none, rfl, J, kG, ge, hoe, ⟨rfl, rfl⟩, rfl, rfl, del_same, rfl, bare2, raises_own T.exC T.tyC, q2⟩
    | next => exact False.elim hq'
    | brk => exact False.elim hq'
    | cont => exact False.elim hq'
end
structure OexN (K : PySem.W.Frag) (C fI : Addr) (newId : String) (tl : List Value) : Prop where
  oex : OexG K C newId tl
  xf : XfC K C
  ini : PySem.W.findIn K (.ref C) "__init__" = some (some (.ref fI))
  tI : PySem.W.typeIn K (.ref fI) = some (.type "function")
theorem oexN_ok {K : PySem.W.Frag} {x : PySem.Str} {newId : String} {tl : List Value} (h : faOexN x newId tl K = true) : OexN K (He.ga K x) (He.ma K (He.ga K x) "__init__") newId tl := by
  obtain ⟨h1, h⟩ := He.ba h
  obtain ⟨h2, h⟩ := He.ba h
  obtain ⟨h3, h4⟩ := He.ba h
  exact ⟨oexgB_ok h1, xfB_ok h2, He.eqO_ok h3, of_decide_eq_true h4⟩
theorem Tx.oexn {fa : List FaC} {fn : List DefC} {K : PySem.W.Frag} {mg : PySem.Str → Option Value} (T : Tx fa fn K mg) (i : Nat) {x : PySem.Str} {newId : String} {tl : List Value} (h : fa[i]? = some (faOexN x newId tl) := by rfl) : OexN K (He.ga K x) (He.ma K (He.ga K x) "__init__") newId tl := oexN_ok (T.c.fact i h)
def spXn (K : PySem.W.Frag) (newId : String) (tl : List Value) : Sp := fun vs H Q _ => ∃ (a C : Addr), vs = [.ref a] ∧ OexG K C newId tl ∧ H a = some (exo a C none) ∧ Q .non H
abbrev tXn (K : PySem.W.Frag) (t : PySem.Str) (newId : String) (tl : List Value) : TS := tSeq (tDrop (tBi K newId tl (tCons (tVar 0) (tCons (tC (.str t)) tNil)))) tNext
section
variable {P : Program} {w : World} {K : PySem.W.Frag} {mg : PySem.Str → Option Value} {base : Heap} {x qual t : PySem.Str} {params : Arguments} {scope : Scope} {body : List Stmt} {fI : Addr} {fd : FuncData} {newId : String} {tl : List Value}
theorem xinitN (F : FunD K x qual params body scope [] [] fI fd) (S : FnScope ["self"] ["self"] scope)
    (hb : ∀ (cd : Value) (A : Around) (outer : List Env) (s : Shared) (H : Hp) (E : XK), PSs (cxB P w K mg base ["self"] qual scope fI cd A outer s H E) body (tXn K t newId tl)) : FnOk P w K mg base (L2.CX P w) 2 fI fd ["self"] (spXn K newId tl) := by
  refine F.ok S (fun vs H Q E ⟨a, C, e, _⟩ => by rw [e]; rfl) fun cdv A outer s H vs Q E room ⟨a, C, ev, T, ea, q⟩ => ?_
  subst ev
  refine ⟨_, hb cdv A outer s H E, ?_⟩
  exact ⟨.ref a, rfl, a, C, [.str t], rfl, by simp, T, ea, q⟩
end
def XIniN (P : Program) (w : World) (K : PySem.W.Frag) (mg : PySem.Str → Option Value) (base : Heap) (fI : Addr) (newId : String) (tl : List Value) : Prop :=
  ∃ fd, FnOk P w K mg base (L2.CX P w) 2 fI fd ["self"] (spXn K newId tl) ∧ Binds K fd ["self"] []
end Cl
set_option maxHeartbeats 4000000
set_option maxHeartbeats 4000000
set_option maxHeartbeats 4000000
set_option maxHeartbeats 4000000
set_option maxHeartbeats 4000000
namespace Cl
open PySem PySem.Spec PyProof.Rows L2 StX ClX
def enterH (n : Nat) (as : List Arg) (hs : List MC) : ST := ⟨slots 0 as ++ List.replicate (n - as.length) none, conts as ++ hs⟩
abbrev FmH := List Arg → List MC → OutF
def spCH (G : Gd) (N : List PySem.Str) (F : FmH) : Sp := fun vs H Q E => ∃ W as hs, as.length = vs.length ∧ R G W (enterH N.length as hs) (start N vs) H ∧ OutFA G W H (F as hs) Q E
section
variable {G : Gd} {W W' : Wd} {st : ST} {σ : Sg} {H H' : Hp}
theorem own_enterH {n : Nat} {as : List Arg} {hs : List MC} : own W (enterH n as hs) σ = W.A := by
  unfold own enterH
  rw [owned_slots]
  rfl
theorem RepLoc.mid : ∀ {l1 : List (Option SL)} {v1 : Sg} {l2 l3 : List (Option SL)} {v2 v3 : Sg}, l1.length = v1.length → l2.length = v2.length → RepLoc G W H (l1 ++ (l2 ++ l3)) (v1 ++ (v2 ++ v3)) → RepLoc G W H (l1 ++ l3) (v1 ++ v3)
  | [], [], [], _, [], _, _, _, h => h
  | [], [], none :: l2, l3, _ :: v2, v3, e, e2, h => RepLoc.mid (l1 := []) (v1 := []) (l2 := l2) (v2 := v2) e (Nat.succ.inj e2) h
  | [], [], some _ :: l2, l3, some _ :: v2, v3, e, e2, h => RepLoc.mid (l1 := []) (v1 := []) (l2 := l2) (v2 := v2) e (Nat.succ.inj e2) h.2
  | [], [], some _ :: l2, l3, none :: v2, v3, e, e2, h => h.elim
  | [], [], _ :: _, _, [], _, _, e2, _ => nomatch e2
  | [], [], [], _, _ :: _, _, _, e2, _ => nomatch e2
  | none :: l1, _ :: v1, l2, l3, v2, v3, e, e2, h => RepLoc.mid (l1 := l1) (v1 := v1) (l2 := l2) (v2 := v2) (l3 := l3) (v3 := v3) (Nat.succ.inj e) e2 h
  | some _ :: l1, some _ :: v1, l2, l3, v2, v3, e, e2, h => ⟨h.1, RepLoc.mid (l1 := l1) (v1 := v1) (l2 := l2) (v2 := v2) (l3 := l3) (v3 := v3) (Nat.succ.inj e) e2 h.2⟩
  | some _ :: _, none :: _, _, _, _, _, _, _, h => h.elim
  | _ :: _, [], _, _, _, _, e, _, _ => nomatch e
  | [], _ :: _, _, _, _, _, e, _, _ => nomatch e
theorem slots_app : ∀ (as bs : List Arg) (k : Nat), ∃ j, slots k (as ++ bs) = slots k as ++ slots j bs
  | [], bs, k => ⟨k, rfl⟩
  | .t p :: as, bs, k => let ⟨j, e⟩ := slots_app as bs k; ⟨j, congrArg (_ :: ·) e⟩
  | .i c :: as, bs, k => let ⟨j, e⟩ := slots_app as bs (k + 1); ⟨j, congrArg (_ :: ·) e⟩
  | .d c :: as, bs, k => let ⟨j, e⟩ := slots_app as bs k; ⟨j, congrArg (_ :: ·) e⟩
theorem conts_app : ∀ (as bs : List Arg), conts (as ++ bs) = conts as ++ conts bs
  | [], _ => rfl
  | .t _ :: as, bs => conts_app as bs
  | .i c :: as, bs => congrArg (c :: ·) (conts_app as bs)
  | .d _ :: as, bs => conts_app as bs
theorem slots_len : ∀ (as : List Arg) (k : Nat), (slots k as).length = as.length
  | [], _ => rfl
  | .t p :: as, k => congrArg (· + 1) (slots_len as k)
  | .i c :: as, k => congrArg (· + 1) (slots_len as (k + 1))
  | .d c :: as, k => congrArg (· + 1) (slots_len as k)
end
def BodyCd (G : Gd) (P : Program) (w : World) (K : PySem.W.Frag) (mg : PySem.Str → Option Value) (base : Heap) (k : Nat) (N : List PySem.Str) (qual : PySem.Str) (scope : Scope) (f : Addr) (cd : Value) (body : List Stmt) (g : Sm) : Prop :=
  ∀ (A : Around) (outer : List Env) (s : Shared) (H : Hp) (E : XK), Room k (cxB P w K mg base N qual scope f cd A outer s H E).A → (cxB P w K mg base N qual scope f cd A outer s H E).A.guards = some [] →
    Takes (cxB P w K mg base N qual scope f cd A outer s H E) (wxB E) → CSs G (cxB P w K mg base N qual scope f cd A outer s H E) (wxB E) body g
theorem BodyC.cd {G : Gd} {P : Program} {w : World} {K : PySem.W.Frag} {mg : PySem.Str → Option Value} {base : Heap} {k : Nat} {N : List PySem.Str} {qual : PySem.Str} {scope : Scope} {f : Addr} {body : List Stmt} {g : Sm} (h : BodyC G P w K mg base k N qual scope f body g) {cd : Value} : BodyCd G P w K mg base k N qual scope f cd body g :=
  fun A outer s H E a b c => h cd A outer s H E a b c
section
variable {G : Gd} {P : Program} {w : World} {K : PySem.W.Frag} {mg : PySem.Str → Option Value} {base : Heap} {k n : Nat} {N ps ks : List PySem.Str} {pv x qual : PySem.Str} {params : Arguments} {body : List Stmt} {scope : Scope} {dvs : List V} {kws : List (PySem.Str × V)} {f : Addr} {fd : FuncData} {g : Sm} {pl : Plan}
def spStarG (sp : Sp) (m : Nat) : Sp := fun vs H Q E => m ≤ vs.length ∧ vs.length ≤ sizeLine ∧ ∀ p, H p = none → sp (vs.take m ++ [V.ref p]) (upd H p (.tup (vs.drop m))) Q E
end
def hidS (T : Nat) (st : ST) : List SV := (List.range T).map fun j => .pl (.ih (st.inh.length - T + j))
def splitF (n : Nat) (F : FmH) : Fm := fun as => F (as.take n) (conts (as.drop n))
def cRunH (T : Nat) (F : FmH) (st : ST) (ys : List SV) : Out SV := if T ≤ st.inh.length then cRun (splitF ys.length F) st (ys ++ hidS T st) else .stuck
section
variable {G : Gd} {W : Wd} {st : ST} {σ : Sg} {H : Hp} {Wx : WX} {N : List PySem.Str} {F : FmH} {n T : Nat} {pl : Plan}
theorem RepMs.len {F' : Hp} : ∀ {cs : List MC} {as : List Addr}, RepMs G F' H cs as → cs.length = as.length
  | [], [], _ => rfl
  | _ :: cs, _ :: as, h => congrArg (· + 1) (RepMs.len h.2)
  | [], _ :: _, h => h.elim
  | _ :: _, [], h => h.elim
theorem hid_rep (r : R G W st σ H) (hT : T ≤ st.inh.length) : ∃ ts : List V, ts.length = T ∧ RepSs G W σ (hidS T st) ts := by
  have hl := r.inh.len
  have go : ∀ l : List Nat, (∀ j ∈ l, j < T) → ∃ ts : List V, ts.length = l.length ∧ RepSs G W σ (l.map fun j => (.pl (.ih (st.inh.length - T + j)) : SV)) ts := by
    intro l
    induction l with
    | nil => intro _; exact ⟨[], rfl, .nil⟩
    | cons j l ih =>
      intro h
      obtain ⟨ts, e, q⟩ := ih fun i hi => h i (List.mem_cons_of_mem _ hi)
      have hj := h j (List.mem_cons_self ..)
      have lt : st.inh.length - T + j < W.A.length := by omega
      exact ⟨.ref W.A[st.inh.length - T + j] :: ts, congrArg (· + 1) e, .cons ⟨_, rfl, List.getElem?_eq_getElem lt⟩ q⟩
  obtain ⟨ts, e, q⟩ := go (List.range T) fun j h => List.mem_range.mp h
  exact ⟨ts, by rw [e, List.length_range], q⟩
theorem spC_hid {us ts : List V} {Q : VK} {E : XK} (h : spC G (N ++ List.replicate ts.length ("" : PySem.Str)) (splitF us.length F) (us ++ ts) H Q E) (hn : us.length ≤ N.length) : spCH G N F us H Q E := by
  obtain ⟨W, as, hl, r, o⟩ := h
  have la : as.length = us.length + ts.length := by rw [hl, List.length_append]
  have e1 : as = as.take us.length ++ as.drop us.length := (List.take_append_drop _ _).symm
  have lt : (as.take us.length).length = us.length := by rw [List.length_take]; omega
  have ld : (as.drop us.length).length = ts.length := by rw [List.length_drop]; omega
  refine ⟨W, as.take us.length, conts (as.drop us.length), lt, ⟨r.le, ?_, ?_, ?_, ?_⟩, o⟩
  · show RepMs G W.F H (conts _ ++ conts _) W.A
    rw [← conts_app, List.take_append_drop]
    exact r.inh
  · have q := r.loc
    unfold enter L2.start at q
    obtain ⟨j, ej⟩ := slots_app (as.take us.length) (as.drop us.length) 0
    rw [← e1] at ej
    simp only [ej, List.map_append, List.append_assoc] at q
    rw [show (N ++ List.replicate ts.length ("" : PySem.Str)).length - as.length = N.length - us.length by rw [List.length_append, List.length_replicate]; omega,
      show (N ++ List.replicate ts.length ("" : PySem.Str)).length - (us ++ ts).length = N.length - us.length by rw [List.length_append, List.length_append, List.length_replicate]; omega] at q
    have z := q.mid (by rw [slots_len, lt, List.length_map]) (by rw [slots_len, ld, List.length_map])
    unfold enterH L2.start
    rw [lt]
    exact z
  · rw [own_enterH]
    have := r.nd
    rw [own_enter] at this
    exact this
  · intro a ha
    rw [own_enterH] at ha
    exact r.fr a (by rw [own_enter]; exact ha)
theorem run_inH {ys : List SV} {us : List V} {Q : VK} (r : R G W st σ H) (hs : RepSs G W σ ys us) (hn : us.length ≤ N.length) (o : OutE G Wx W st σ H (cRunH T F st ys) Q) : spCH G N F us H Q (fun cls d H' => Wx cls d σ H') := by
  unfold cRunH at o
  split at o
  · rename_i hT
    obtain ⟨ts, e, q⟩ := hid_rep r hT
    have l : ys.length = us.length := Paired.length hs
    rw [l] at o
    exact spC_hid (ts := ts) (run_in r (RepSs.app hs q) o) hn
  · exact o.elim
def spNH (G : Gd) (N : List PySem.Str) (F : FmH) (n : Nat) (pl : Plan) : Sp := fun vs H Q E => vs.length = n ∧ spCH G N F (pickV pl vs) H Q E
def fcDefH (T n : Nat) (pl : Plan) (F : FmH) : List SV → Cm SV := fun xs st => if xs.length = n then cRunH T F st (pickS pl xs) else .stuck
theorem Prom.defH (hp : planOk pl = true) (hl : pl.length ≤ N.length) : Prom G Wx (spNH G N F n pl) (fcDefH T n pl F) := by
  intro W st σ H Q xs vs r hs o
  unfold fcDefH at o
  split at o
  · rename_i h
    have l : xs.length = vs.length := Paired.length hs
    exact ⟨by rw [← l]; exact h, run_inH r (pick_rep hs hp) (by unfold pickV; rw [List.length_map]; exact hl) o⟩
  · exact o.elim
def fcStarH (T m : Nat) (F : FmH) : List SV → Cm SV := fun xs st => match trees (xs.drop m) with
  | some ps => if m ≤ xs.length ∧ szOk xs.length = true then cRunH T F st (xs.take m ++ [.t (.tup .p ps)]) else .stuck
  | none => .stuck
theorem Prom.starH {m : Nat} (hl : m + 1 ≤ N.length) : Prom G Wx (spStarG (spCH G N F) m) (fcStarH T m F) := by
  intro W st σ H Q xs vs r hs o
  unfold fcStarH at o
  split at o
  · rename_i ps e
    split at o
    · rename_i h
      have l : xs.length = vs.length := Paired.length hs
      refine ⟨by rw [← l]; exact h.1, by rw [← l]; exact szOk_le h.2, fun p hp => ?_⟩
      have q := trees_rep (hs.drop m) e
      have st1 := r.step_new (o := .tup (vs.drop m)) hp
      refine run_inH (r.new hp) (RepSs.app ((hs.take m).mono st1.f rfl) (.cons (show RepS G _ σ (.t (.tup .p ps)) (.ref p) from Rep.tup (k := .p) upd_same (q.mono st1.f)) .nil)) ?_ (OutA.from o st1)
      rw [List.length_append, List.length_take, ← l, Nat.min_eq_left h.1]
      exact hl
    · exact o.elim
  · exact o.elim
end
end Cl
set_option maxHeartbeats 4000000
set_option maxHeartbeats 4000000
namespace Cl
open PySem PySem.Spec PyProof.Rows L2 StX ClX LamX NdefX
structure CloAt (q : PySem.Str) (params : Arguments) (body : Expr) (scope : Scope) (fr : List PySem.Str) (f c' : Addr) (cap : List V) (s : Shared) (H : Hp) (fs : List Addr) : Prop where
  ob : ∃ cl pm ctv, s.heap.get? f = some (PySem.W.kla_obj "<lambda>" q params body scope cl pm c' ctv) ∧ CellsAt cl fr (cap.map some) s.heap H
  free : H f = none
  nfr : f ∉ fs
theorem CellsAt.later2 {Z : Cx} {pins : List (Addr × Obj)} {σ : Sg} {H : Hp} {s : Shared} {cl : List (PySem.Str × Addr)} {fr : List PySem.Str} {ws : List (Option V)} (C : CellsAt cl fr ws Z.s_0.heap Z.H_0) (hx : Z.ex = []) (I : Inv Z pins σ H s) : CellsAt cl fr ws s.heap H := by
  have nx : ∀ b : Addr, b ∉ Z.ex := fun b h => by rw [hx] at h; cases h
  have kp : ∀ y c, cl.lookup y = some c → ∀ v, Z.s_0.heap.IsCell c v → s.heap.IsCell c v := fun y c e v ⟨o, ho, hd⟩ => by
    obtain ⟨sl, q⟩ := I.base.any ho (C.all y c e).1 (nx c)
    exact ⟨_, q, hd⟩
  refine ⟨C.len, fun y c e => ?_, C.inj, fun i y e => ?_⟩
  · obtain ⟨n, v, z⟩ := C.all y c e
    refine ⟨?_, v, kp y c e v z⟩
    obtain ⟨o, ho, _⟩ := z
    exact I.base.free c o ho n (nx c)
  · obtain ⟨c, hc, hv⟩ := C.has i y e
    refine ⟨c, hc, fun v ev => ?_⟩
    obtain ⟨u, r, z⟩ := hv v ev
    exact ⟨u, r, kp y c hc _ z⟩
theorem CloAt.later {q : PySem.Str} {params : Arguments} {body : Expr} {scope : Scope} {fr : List PySem.Str} {f c' : Addr} {cap : List V} {Z : Cx} {pins : List (Addr × Obj)} {σ : Sg} {H : Hp} {s : Shared} (C : CloAt q params body scope fr f c' cap Z.s_0 Z.H_0 Z.fs) (hx : Z.ex = []) (I : Inv Z pins σ H s) :
    ∃ cl pm ctv, s.heap.get? f = some (PySem.W.kla_obj "<lambda>" q params body scope cl pm c' ctv) ∧ CellsAt cl fr (cap.map some) s.heap H := by
  obtain ⟨cl, pm, ctv, h1, h2⟩ := C.ob
  exact ⟨cl, pm, ctv, I.base.keep f _ h1 C.free C.nfr (by rw [hx]; simp), CellsAt.later2 h2 hx I⟩
theorem RepL.ss {G : Gd} {W : Wd} {σ : Sg} : ∀ {xs : List PV} {vs : List V}, RepL G W.F xs vs → RepSs G W σ (xs.map .t) vs
  | _, _, .nil => .nil
  | _, _, .cons r l => .cons r (RepL.ss l)
end Cl
set_option maxHeartbeats 4000000
namespace Cl
open PySem PySem.Spec PyProof.Rows L2 StX ClX LamX NdefX
structure LamT where
  q : PySem.Str
  params : Arguments
  body : Expr
  scope : Scope
  ps : List PySem.Str
  fr : List PySem.Str
abbrev FmL := Addr → Addr → List V → Fm
end Cl
set_option maxHeartbeats 4000000
namespace Cl
open PySem PySem.Spec PyProof.Rows L2 StX ClX LamX NdefX
def codeA (K : PySem.W.Frag) (f : Addr) : Addr := match K.lookup f with
  | some ⟨_, _, .func fd, _⟩ => (match fd.code with
    | .ref c => c
    | _ => 0)
  | _ => 0
def tabA (K : PySem.W.Frag) (f : Addr) : Addr := He.tabOf K (codeA K f)
theorem FunD.codeA {K : PySem.W.Frag} {x qual : PySem.Str} {params : Arguments} {body : List Stmt} {scope : Scope} {dvs : List V} {kws : List (PySem.Str × V)} {f : Addr} {fd : FuncData} (F : FunD K x qual params body scope dvs kws f fd) : fd.code = .ref (Cl.codeA K f) := by
  obtain ⟨oc, od, dV, kV, doc, pm, an, cdv, ct, osl, rfl, lk, hcd, _, _⟩ := F.ex
  obtain ⟨c, rfl⟩ := He.codeIn_ref hcd
  unfold Cl.codeA
  rw [lk] <;> rfl
abbrev FnA := PySem.W.Frag → Addr
structure SaysT (fa : List FaC) (fn : List DefC) (tf : List FnA) (h : Heap) (K : PySem.W.Frag) : Prop where
  c : SaysC fa fn K
  hd : ∀ p ∈ tf, PySem.W.codeHdIn K (codeA K (p K)) (tabA K (p K)) = true
  out : ∀ p ∈ tf, K.lookup (tabA K (p K)) = none
  empty : ∀ p ∈ tf, h.get? (tabA K (p K)) = some { cls := .none, data := .fields #[] }
  nd : (tf.map fun p => tabA K (p K)).Nodup
def hs0 : Nat → List PySem.Str → List MC
  | _, [] => []
  | k, q :: r => .tbl k q :: hs0 (k + 1) r
end Cl
set_option maxHeartbeats 4000000
namespace Cl
open PySem PySem.Spec PyProof.Rows L2 StX ClX
theorem RepT.keys {G : Gd} {F : Hp} : ∀ {kvs : List (List Key × PV)} {hs : List (List Key × V)}, RepT G F kvs hs → kvs.map (·.1) = hs.map (·.1)
  | _, _, .nil => rfl
  | _, _, .cons _ l => congrArg (_ :: ·) l.keys
end Cl
set_option maxHeartbeats 4000000
namespace Cl
open PySem PySem.Spec PyProof.Rows L2 StX ClX
section
variable {G : Gd} {X : Cx} {Wx : WX} {tg it elt : Expr} {ifs : List Expr} {f : TgF} {fc : Cm Bool} {fe : Cm SV} {vs : List Nat} {σ : Sg}
theorem OutM.un {W1 : Wd} {st1 : ST} {H1 : Hp} {d : Addr} {od : Obj} {u : HO} {z : Out MC} {Q : VK} (nof : NoF X d) (hk : (∃ hs, u = .dK hs) ∨ ∃ hs, u = .dT hs) (r1 : R G W1 st1 σ H1) (rd : W1.F d = some u) (nx : ∀ c fs st', z ≠ .exc c fs st') (o : OutM G Wx W1 st1 σ H1 z Q) :
    OutM G wx0 ⟨upd W1.F d (.frz od u), W1.A⟩ st1 σ (upd H1 d (.frz od u)) z (fun v => unP X (Q v)) := by
  have hd : H1 d = some u := r1.le _ _ rd
  cases z with
  | stuck => exact o
  | exc c fs st' => exact absurd rfl (nx c fs st')
  | ok c st' =>
    intro W2 H2 a r2 s2 m na fa b
    have fd : W2.F d = some (.frz od u) := s2.f d _ upd_same
    have sw2 : Sw d u W2.F (upd W2.F d u) := ⟨fun b hb => upd_ne hb, hk, .inr ⟨od, fd⟩, .inl upd_same⟩
    have k2 : R G ⟨upd W2.F d u, W2.A⟩ st' σ (upd H2 d u) := r2.sw sw2 (fun b hb => upd_ne hb) (by rw [upd_same, upd_same])
    have k3 : Step (own W1 st1 σ) W1 H1 (own ⟨upd W2.F d u, W2.A⟩ st' σ) ⟨upd W2.F d u, W2.A⟩ (upd H2 d u) := by
      refine ⟨fun b w e => ?_, s2.a, fun b => ?_, fun b hb => ?_, fun b w e hb => ?_⟩
      · show upd W2.F d u b = some w
        by_cases z : b = d
        · subst z; rw [rd] at e; cases e; exact upd_same
        · rw [upd_ne z]; exact s2.f b w (by show upd W1.F d _ b = _; rw [upd_ne z]; exact e)
      · show upd W2.F d u b = W1.F b ∨ _
        by_cases z : b = d
        · subst z; exact .inl (by rw [upd_same, rd])
        · rw [upd_ne z]
          rcases s2.nf b with q | q | q
          · exact .inl (by rw [q]; exact upd_ne z)
          · exact .inr (.inl (by rw [upd_ne z] at q; exact q))
          · exact .inr (.inr q)
      · rcases s2.no b hb with q | q
        · exact .inl q
        · have z : b ≠ d := fun z => by subst z; rw [upd_same] at q; cases q
          exact .inr (by rw [upd_ne z] at q; exact q)
      · by_cases z : b = d
        · subst z; rw [hd] at e; cases e; exact upd_same
        · rw [upd_ne z]; exact s2.keep b w (by rw [upd_ne z]; exact e) hb
    have z : a ≠ d := fun z => by subst z; rw [fd] at fa; cases fa
    refine .inr ⟨d, od, u, r2.le _ _ fd, nof, o ⟨upd W2.F d u, W2.A⟩ _ a k2 k3 (RepM.sw sw2 (fun b hb => upd_ne hb) z m) na (by show upd W2.F d u a = none; rw [upd_ne z]; exact fa) ?_⟩
    rcases b with q | q
    · exact .inl (by rw [upd_ne z] at q; exact q)
    · exact .inr q
end
end Cl
set_option maxHeartbeats 4000000
set_option maxHeartbeats 4000000
namespace Cl
open PySem PySem.Spec PyProof.Rows L2 StX ClX
def cntB (ns : List Bool) (i : Bool) : Option Int := some (ns.countP fun n => decide (n = i) : Nat)
def tLmB (f : List Bool → Bool → Option Int) (to ta : TE) : TE := fun σ H Q => to σ H fun x H1 => ∃ p vs, x = .ref p ∧ H1 p = some (.lst vs) ∧
  ta σ H1 fun y H2 => ∃ (ns : List Bool) (i : Bool) (z : Int), y = .bl i ∧ H2 p = some (.lst (ns.map V.bl)) ∧ f ns i = some z ∧ Q (.int z) H2
theorem count_valsB {i : Bool} : ∀ {ns : List Bool} {us : List Value}, Vals (ns.map V.bl) us → us.countP (eqU (.bl i)) = ns.countP fun n => decide (n = i)
  | [], [], .nil => rfl
  | n :: ns, u :: us, .cons r l => by
    rw [List.countP_cons, List.countP_cons, count_valsB l]
    cases r
    congr 1
theorem flat_bools (ns : List Bool) : (ns.map V.bl).all flatV = true := by
  rw [List.all_map]; exact List.all_eq_true.mpr fun n _ => rfl
section
variable {X : Cx} {o a : Expr} {to ta : TE} {apos cpos : Pos}
theorem pe_lcountB (ho : PE X o to) (ha : PE X a ta) (hbase : attributeBase o "count" X.env (eval o X.env) = eval o X.env := by rfl)
    (hfew : ((backTo cpos (starEach [a] X.env)).all (fun x => !x.1) && (backToKw cpos (keywordEach [] X.env)).all (fun x => x.1.isSome)
      && decide ([a].length + ([] : List Keyword).length + (if ([] : List Keyword).isEmpty then 0 else 1) < 30)) = true := by rfl)
    (hline : (apos.endLine == cpos.line) = true := by rfl) (hs : starEach [a] X.env = [(false, eval a X.env)] := by rfl) : PE X (.Call (.Attribute o "count" apos) [a] [] cpos) (tLmB cntB to ta) := by
  refine ⟨fun pn s σ H Q I q0 => ?_⟩
  refine wpAny_Call_method_late hbase hfew hline (trees := backTo cpos [(false, eval a X.env)]) (by rw [hs]) (thn (ho.run pn s σ H _ I q0) fun ov s1 ⟨x, H1, I1, rx, p, vs0, ex, hp, q1⟩ => ?_)
  subst ex
  obtain rfl : ov = Value.ref p := rx
  obtain ⟨hz1, its1, n1, rv1, g1⟩ := I1.hok p _ hp
  refine ⟨"list", "list.count", PySem.F.plainAttrs_list, PySem.F.slot_list_count, PySem.F.type_list_count, ⟨_, g1, rfl⟩, (fun b e => by cases e; exact ⟨_, g1, rfl⟩), ?_⟩
  refine Calls.callWith_builtin (by show (false || (backTo cpos ([] : List (Bool × Sem Value))).any (·.1)) = false; rfl) (Calls.evalArgs_plain (Calls.spliced_cons (thn (ha.run pn s1 σ H1 _ I1 q1) fun u s2 ⟨y, H2, I2, ry, ns, i, z, ey, hp2, ez, q⟩ => Calls.spliced_nil ?_)))
  subst ey
  cases ry
  cases ez
  obtain ⟨hz2, its, n2, rv, g2⟩ := I2.hok p _ hp2
  refine call_meets PySem.F.slot_list_count ⟨_, g2, rfl⟩ PySem.F.entry_list_count (PySem.F.args_list_count_2 _ _) (PySem.SeqAt.list_countAt p its.toArray n2 none #[] (.bool i) (eqU (.bl i)))
    ⟨g2, fun w hw => mem_eqAt (x := .bl i) rfl rfl rv (flat_bools ns) w (by simpa using hw), ⟨.int _, H2, I2.tok _, ⟨s2.toks, ?_⟩, q⟩⟩
  show Value.int _ _ = Value.int _ _
  rw [show its.toArray.toList = its from rfl, count_valsB rv]
end
theorem repL_bls {G : Gd} {F : Hp} : ∀ {ns : List Bool} {vs : List V}, RepL G F (ns.map PV.bl) vs → vs = ns.map V.bl
  | [], vs, h => by cases h; rfl
  | n :: ns, vs, h => by
    cases h with
    | cons r l => rw [repL_bls l]; cases r; rfl
def pCntB : PV → PV → Option PV
  | .lst ps, .bl i => (bools ps).bind fun ns => (cntB ns i).map .int
  | _, _ => none
theorem pCntB_inv : ∀ {p q z : PV}, pCntB p q = some z → ∃ ns i w, p = .lst (ns.map .bl) ∧ q = .bl i ∧ cntB ns i = some w ∧ z = .int w
  | .lst ps, .bl i, z, e => by
    obtain ⟨ns, e5, e⟩ := Option.bind_eq_some_iff.mp (show (bools ps).bind (fun ns => (cntB ns i).map PV.int) = some z from e)
    obtain ⟨w, e6, rfl⟩ := Option.map_eq_some_iff.mp e
    exact ⟨ns, i, w, by rw [bools_eq e5], rfl, e6, rfl⟩
section
variable {G : Gd} {X : Cx} {Wx : WX} {a o : Expr} {fa fo : Cm SV} {apos cpos : Pos}
theorem lmB_step {σ : Sg} {H : Hp} {Q : VK} (h : tE G Wx (cLm pCntB fo fa) σ H Q) : tLmB cntB (tE G Wx fo) (tE G Wx fa) σ H Q := by
  obtain ⟨W, st, r0, o⟩ := h
  refine tA_mono (tA_then (rel := RepS G) (rel' := RepS G) r0 o) fun u H1 ⟨W1, st1, x, r1, _, _, q1, o1⟩ => ?_
  split at o1
  · rename_i hx
    obtain ⟨p, ep, hp⟩ : ∃ p, view st1 x = some p ∧ isLst p = true := by
      cases ev : view st1 x with
      | none => rw [ev] at hx; cases hx
      | some p => rw [ev] at hx; exact ⟨p, rfl, hx⟩
    cases p <;> first | (cases hp; done) | skip
    rename_i ps0
    obtain ⟨l, vs0, rfl, e0, _⟩ := r1.view q1 ep
    refine ⟨l, vs0, rfl, e0, ?_⟩
    refine tA_mono (tA_then (rel := RepS G) (rel' := RepS G) r1 o1) fun y H2 ⟨W2, st2, z, r2, f2, a2, e2, o2⟩ => ?_
    obtain ⟨zz, ez, g1⟩ := ofO_some o2
    obtain ⟨p, e3, ez⟩ := Option.bind_eq_some_iff.mp ez
    obtain ⟨q, e4, ez⟩ := Option.bind_eq_some_iff.mp ez
    obtain ⟨ns, i, w, rfl, rfl, e6, rfl⟩ := pCntB_inv ez
    obtain ⟨l2, vs, el, e7, rl⟩ := r2.view (q1.mono f2 a2) e3
    cases el
    have ev : y = .bl i := r2.view e2 e4
    rw [repL_bls rl] at e7
    exact ⟨ns, i, w, ev, e7, e6, g1.here r2 (.int _)⟩
  · exact o1.elim
theorem ce_lcountB (ho : CE G X Wx o fo) (ha : CE G X Wx a fa) (hbase : attributeBase o "count" X.env (eval o X.env) = eval o X.env := by rfl)
    (hfew : ((backTo cpos (starEach [a] X.env)).all (fun x => !x.1) && (backToKw cpos (keywordEach [] X.env)).all (fun x => x.1.isSome)
      && decide ([a].length + ([] : List Keyword).length + (if ([] : List Keyword).isEmpty then 0 else 1) < 30)) = true := by rfl)
    (hline : (apos.endLine == cpos.line) = true := by rfl) (hs : starEach [a] X.env = [(false, eval a X.env)] := by rfl) : CE G X Wx (.Call (.Attribute o "count" apos) [a] [] cpos) (cLm pCntB fo fa) :=
  ⟨pe_imp (pe_lcountB ho.pe ha.pe hbase hfew hline hs) fun σ H Q q => lmB_step q⟩
end
end Cl
set_option maxHeartbeats 4000000
namespace Cl
open PySem PySem.Spec PyProof.Rows L2 StX ClX
def cRunHM (T : Nat) (F : FmH) (st : ST) (ys : List SV) : Out MC := if T ≤ st.inh.length then cRunM (splitF ys.length F) st (ys ++ hidS T st) else .stuck
section
variable {G : Gd} {W : Wd} {st : ST} {σ : Sg} {H : Hp} {Wx : WX} {N : List PySem.Str} {F : FmH} {n T : Nat} {pl : Plan}
theorem run_inHM {ys : List SV} {us : List V} {Q : VK} (r : R G W st σ H) (hs : RepSs G W σ ys us) (hn : us.length ≤ N.length) (o : OutM G Wx W st σ H (cRunHM T F st ys) Q) : spCH G N F us H Q (fun cls d H' => Wx cls d σ H') := by
  unfold cRunHM at o
  split at o
  · rename_i hT
    obtain ⟨ts, e, q⟩ := hid_rep r hT
    have l : ys.length = us.length := Paired.length hs
    rw [l] at o
    exact spC_hid (ts := ts) (run_inM r (RepSs.app hs q) o) hn
  · exact o.elim
def fcDefHM (T n : Nat) (pl : Plan) (F : FmH) : List SV → Cm MC := fun xs st => if xs.length = n then cRunHM T F st (pickS pl xs) else .stuck
theorem PromM.defH (hp : planOk pl = true) (hl : pl.length ≤ N.length) : PromM G Wx (spNH G N F n pl) (fcDefHM T n pl F) := by
  intro W st σ H Q xs vs r hs o
  unfold fcDefHM at o
  split at o
  · rename_i h
    have l : xs.length = vs.length := Paired.length hs
    exact ⟨by rw [← l]; exact h, run_inHM r (pick_rep hs hp) (by unfold pickV; rw [List.length_map]; exact hl) o⟩
  · exact o.elim
def fcStarHM (T m : Nat) (F : FmH) : List SV → Cm MC := fun xs st => match trees (xs.drop m) with
  | some ps => if m ≤ xs.length ∧ szOk xs.length = true then cRunHM T F st (xs.take m ++ [.t (.tup .p ps)]) else .stuck
  | none => .stuck
theorem PromM.starH {m : Nat} (hl : m + 1 ≤ N.length) : PromM G Wx (spStarG (spCH G N F) m) (fcStarHM T m F) := by
  intro W st σ H Q xs vs r hs o
  unfold fcStarHM at o
  split at o
  · rename_i ps e
    split at o
    · rename_i h
      have l : xs.length = vs.length := Paired.length hs
      refine ⟨by rw [← l]; exact h.1, by rw [← l]; exact szOk_le h.2, fun p hp => ?_⟩
      have q := trees_rep (hs.drop m) e
      have st1 := r.step_new (o := .tup (vs.drop m)) hp
      refine run_inHM (r.new hp) (RepSs.app ((hs.take m).mono st1.f rfl) (.cons (show RepS G _ σ (.t (.tup .p ps)) (.ref p) from Rep.tup (k := .p) upd_same (q.mono st1.f)) .nil)) ?_ (OutM.from o st1)
      rw [List.length_append, List.length_take, ← l, Nat.min_eq_left h.1]
      exact hl
    · exact o.elim
  · exact o.elim
end
end Cl
set_option maxHeartbeats 4000000
set_option maxHeartbeats 4000000
set_option maxHeartbeats 1000000
namespace Cl
open PySem PySem.Spec PyProof.Rows L2 StX ClX
def valN (ks : List (NK × Addr × V)) (k : NK) : Option V := (ks.find? fun x => decide (x.1 = k)).map (·.2.2)
def putN (ks : List (NK × Addr × V)) (k : NK) (b : Addr) (v : V) : List (NK × Addr × V) :=
  if (valN ks k).isSome then ks.map (fun x => if x.1 = k then (x.1, x.2.1, v) else x) else ks ++ [(k, b, v)]
theorem RelN.val {k : NK} {ks : List (NK × Addr × V)} {xs : List (NK × Addr × Value)} (r : Paired RelN ks xs) : RelO (valN ks k) ((atKey xs k).map (·.2)) := by
  induction r with
  | nil => trivial
  | @cons p q ps qs z t ih =>
    obtain ⟨z1, z2, z3⟩ := z
    unfold valN atKey at ih ⊢
    by_cases e : p.1 = k
    · rw [List.find?_cons_of_pos (by simp [e]), List.find?_cons_of_pos (by simp [← z1, e])]
      exact z3
    · rw [List.find?_cons_of_neg (by simp [e]), List.find?_cons_of_neg (by simp [← z1, e])]
      exact ih
theorem RelN.isSome {k : NK} {ks : List (NK × Addr × V)} {xs : List (NK × Addr × Value)} (r : Paired RelN ks xs) : (atKey xs k).isSome = (valN ks k).isSome := by
  have := (RelN.val (k := k) r).isSome_eq
  rw [Option.isSome_map] at this
  exact this.symm
theorem RelN.map {k : NK} {v : V} {u : Value} (rv : RelV v u) {ks : List (NK × Addr × V)} {xs : List (NK × Addr × Value)} (r : Paired RelN ks xs) : Paired RelN (ks.map fun x => if x.1 = k then (x.1, x.2.1, v) else x) (xs.map (putAt k u)) := by
  induction r with
  | nil => exact .nil
  | @cons p q ps qs z t ih =>
    obtain ⟨z1, z2, z3⟩ := z
    rw [List.map_cons, List.map_cons]
    refine .cons ?_ ih
    unfold putAt
    by_cases e : p.1 = k
    · rw [if_pos e, if_pos (z1 ▸ e)]
      exact ⟨z1, z2, rv⟩
    · rw [if_neg e, if_neg (z1 ▸ e)]
      exact ⟨z1, z2, z3⟩
theorem RelN.snoc {k : NK} {b : Addr} {v : V} {u : Value} (rv : RelV v u) {ks : List (NK × Addr × V)} {xs : List (NK × Addr × Value)} (r : Paired RelN ks xs) : Paired RelN (ks ++ [(k, b, v)]) (xs ++ [(k, b, u)]) := by
  induction r with
  | nil => exact .cons ⟨rfl, rfl, rv⟩ .nil
  | cons z t ih => exact .cons z ih
theorem RelN.put {k : NK} {b : Addr} {v : V} {u : Value} (rv : RelV v u) {ks : List (NK × Addr × V)} {xs : List (NK × Addr × Value)} (r : Paired RelN ks xs) : Paired RelN (putN ks k b v) (storedH xs k b u) := by
  unfold putN storedH
  rw [RelN.isSome r]
  split
  · exact RelN.map rv r
  · exact RelN.snoc rv r
def KeysN (F : Hp) (ks : List (NK × Addr × V)) : Prop := ∀ x ∈ ks, NKAt F x.2.1 x.1
theorem KeysN.put {F : Hp} {ks : List (NK × Addr × V)} {k : NK} {b : Addr} {v : V} (h : KeysN F ks) (hb : NKAt F b k) : KeysN F (putN ks k b v) := by
  unfold putN
  split
  · intro x hx
    obtain ⟨y, hy, rfl⟩ := List.mem_map.mp hx
    split
    · exact h y hy
    · exact h y hy
  · intro x hx
    rcases List.mem_append.mp hx with z | z
    · exact h x z
    · cases List.mem_singleton.mp z
      exact hb
theorem KeysN.rel {F : Hp} {ks : List (NK × Addr × V)} {xs : List (NK × Addr × Value)} (h : KeysN F ks) (r : Paired RelN ks xs) : ∀ x ∈ xs, NKAt F x.2.1 x.1 := by
  induction r with
  | nil => exact fun _ z => nomatch z
  | @cons p q ps qs z t ih =>
    obtain ⟨z1, z2, z3⟩ := z
    intro x hx
    rcases List.mem_cons.mp hx with e | hx
    · rw [e, ← z1, ← z2]; exact h p (List.mem_cons_self ..)
    · exact ih (fun y hy => h y (List.mem_cons_of_mem _ hy)) x hx
section
variable {X : Cx} {pins : List (Addr × Obj)} {σ : L2.St} {H : Hp} {s : Shared} {d : Addr} {o : Obj} {ks : List (NK × Addr × V)}
theorem RelN.get {xs : List (NK × Addr × Value)} (r : Paired RelN ks xs) : ∀ {i : Nat} {x : NK × Addr × V}, ks[i]? = some x → ∃ y, xs[i]? = some y ∧ RelN x y := by
  induction r with
  | nil => intro i x e; simp at e
  | cons z t ih =>
    intro i x e
    cases i with
    | zero => simp at e; subst e; exact ⟨_, rfl, z⟩
    | succ i => simpa using ih (by simpa using e)
theorem Inv.frzN (I : Inv X pins σ H s) (h : H d = some (.frz o (dnO d ks))) : (d == sysModules) = false ∧ s.heap.get? d = some o ∧ o.ExactDict ∧ ∃ (es : Array DictEntry) (ep : Nat), o.data = .dict es ep ∧ es.size = ks.length ∧
    ∀ (i : Nat) (k : NK) (b : Addr) (v : V), ks[i]? = some (k, b, v) → ∃ en : DictEntry, es[i]? = some en ∧ en.key = .ref b ∧ RelV v en.val := by
  obtain ⟨hd, ⟨z1, z2, xs, r, o', es, ep, e1, e2, e3, e4, _⟩, _⟩ := I.hok d _ h
  rw [hd] at e1
  cases e1
  have len : es.size = xs.length := by rw [← Array.length_toList, e4, List.length_map]
  refine ⟨z1, hd, e2, es, ep, e3, by rw [len, ← Paired.length r], fun i k b v e => ?_⟩
  obtain ⟨y, ey, y1, y2, y3⟩ := RelN.get r e
  refine ⟨entN y, ?_, ?_, y3⟩
  · rw [← Array.getElem?_toList, e4, List.getElem?_map, ey] <;> rfl
  · show Value.ref y.2.1 = _
    rw [← y2]
end
end Cl
set_option maxHeartbeats 1000000
namespace Cl
open PySem PySem.Spec PyProof.Rows L2 StX ClX
def lookN (kvs : List (NK × PV)) (k : NK) : Option PV := (kvs.find? fun kv => decide (kv.1 = k)).map (·.2)
def putP2 (kvs : List (NK × PV)) (k : NK) (v : PV) : List (NK × PV) :=
  if (lookN kvs k).isSome = true then kvs.map (fun kv => if kv.1 = k then (kv.1, v) else kv) else kvs ++ [(k, v)]
section
variable {G : Gd} {F H : Hp}
theorem TupAt.a {k : TF} {a : Addr} {vs : List V} (r : TupAt k F a vs) : TupAt .a F a vs := r.any
theorem RepN.keys : ∀ {kvs : List (NK × PV)} {ks : List (NK × Addr × V)}, RepN G F kvs ks → KeysN F ks
  | _, _, .nil => fun _ z => nomatch z
  | _, _, .cons h r t => fun x hx => by
    rcases List.mem_cons.mp hx with e | hx
    · rw [e]; exact h
    · exact RepN.keys t x hx
theorem lookN_rep {key : NK} : ∀ {kvs : List (NK × PV)} {ks : List (NK × Addr × V)}, RepN G F kvs ks → (lookN kvs key = none ∧ valN ks key = none) ∨ ∃ p v, lookN kvs key = some p ∧ valN ks key = some v ∧ Rep G F p v
  | _, _, .nil => .inl ⟨rfl, rfl⟩
  | _, _, .cons (k := kj) (p := q) (v := w) h r t => by
    unfold lookN valN
    by_cases e : kj = key
    · refine .inr ⟨q, w, ?_, ?_, r⟩
      · rw [List.find?_cons_of_pos (by simp [e])] <;> rfl
      · rw [List.find?_cons_of_pos (by simp [e])] <;> rfl
    · rw [List.find?_cons_of_neg (by simp [e]), List.find?_cons_of_neg (by simp [e])]
      exact lookN_rep t
theorem RepN.isSome {key : NK} {kvs : List (NK × PV)} {ks : List (NK × Addr × V)} (t : RepN G F kvs ks) : (lookN kvs key).isSome = (valN ks key).isSome := by
  rcases lookN_rep (key := key) t with ⟨a, b⟩ | ⟨p, v, a, b, _⟩ <;> rw [a, b] <;> rfl
theorem RepN.app : ∀ {k l : List (NK × PV)} {h g : List (NK × Addr × V)}, RepN G F k h → RepN G F l g → RepN G F (k ++ l) (h ++ g)
  | _, _, _, _, .nil, s => s
  | _, _, _, _, .cons b r t, s => .cons b r (RepN.app t s)
theorem RepN.mapPut {p : PV} {key : NK} {v : V} (r : Rep G F p v) : ∀ {kvs : List (NK × PV)} {ks : List (NK × Addr × V)}, RepN G F kvs ks → RepN G F (kvs.map fun kv => if kv.1 = key then (kv.1, p) else kv) (ks.map fun x => if x.1 = key then (x.1, x.2.1, v) else x)
  | _, _, .nil => .nil
  | _, _, .cons (k := kj) b rj t => by
    rw [List.map_cons, List.map_cons]
    by_cases e : kj = key
    · rw [if_pos e, if_pos e]; exact .cons b r (RepN.mapPut r t)
    · rw [if_neg e, if_neg e]; exact .cons b rj (RepN.mapPut r t)
theorem RepN.put {p : PV} {key : NK} {b : Addr} {v : V} (r : Rep G F p v) (hb : NKAt F b key) {kvs : List (NK × PV)} {ks : List (NK × Addr × V)} (t : RepN G F kvs ks) : RepN G F (putP2 kvs key p) (putN ks key b v) := by
  unfold putP2 putN
  rw [t.isSome]
  split
  · exact t.mapPut r
  · exact t.app (.cons hb r .nil)
end
section
variable {G : Gd} {X : Cx} {Wx : WX} {a b o : Expr} {fa fb fo : Cm SV} {pos : Pos}
theorem GvM.dtn {σ : Sg} {H : Hp} {Q : VK} {W : Wd} {st : ST} (g : GvM G W st σ H (.dtn []) Q) (r : R G W st σ H) : ∀ p, H p = none → Q (.ref p) (upd H p (dnO p [])) := fun p hp =>
  g W _ p (r.laid hp) (r.laid_step hp) ⟨[], upd_same, .nil⟩ (r.notown hp) (r.frno hp) (.inl hp)
end
section
variable {G : Gd} {W : Wd} {st : ST} {σ : Sg} {H : Hp}
theorem R.frzN (r : R G W st σ H) {i : Nat} {kvs : List (NK × PV)} (h : st.loc[i]? = some (some (.m (.dtn kvs)))) : ∃ a ks, σ[i]? = some (some (.ref a)) ∧ H a = some (dnO a ks) ∧ ∀ od : Obj,
    Rep G (upd W.F a (.frz od (dnO a ks))) (.dtn kvs) (.ref a) ∧ R G ⟨upd W.F a (.frz od (dnO a ks)), W.A⟩ (st.set i (some (.t (.dtn kvs)))) σ (upd H a (.frz od (dnO a ks))) ∧
    Step (own W st σ) W H (own ⟨upd W.F a (.frz od (dnO a ks)), W.A⟩ (st.set i (some (.t (.dtn kvs)))) σ) ⟨upd W.F a (.frz od (dnO a ks)), W.A⟩ (upd H a (.frz od (dnO a ks))) := by
  obtain ⟨v, e1, a, rfl, ks, m, l⟩ := r.loc.get h
  have ha : a ∈ own W st σ := List.mem_append_left _ (owned_get h e1)
  obtain ⟨n1, n2, n3⟩ := List.nodup_append.mp r.nd
  obtain ⟨q1, q2⟩ := owned_frz (l0 := some (.t (.dtn kvs))) (by simp) h e1 n1
  obtain ⟨q1', q2'⟩ := owned_frz (l0 := none) (by simp) h e1 n1
  refine ⟨a, ks, e1, m, fun od => ?_⟩
  have fa := r.fr a ha
  have fs : Same W.F (upd W.F a (.frz od (dnO a ks))) := same_upd fa
  have k : Rep G (upd W.F a (.frz od (dnO a ks))) (.dtn kvs) (.ref a) := .dtn upd_same (l.mono fs)
  have sub : (own ⟨upd W.F a (.frz od (dnO a ks)), W.A⟩ (st.set i (some (.t (.dtn kvs)))) σ).Sublist (own W st σ) := q1.append (List.Sublist.refl _)
  have na : a ∉ own ⟨upd W.F a (.frz od (dnO a ks)), W.A⟩ (st.set i (some (.t (.dtn kvs)))) σ := fun z => by
    rcases List.mem_append.mp z with z | z
    · exact q2 z
    · exact n3 a (owned_get h e1) a z rfl
  refine ⟨k, ⟨fun b u e => ?_, ?_, ?_, r.nd.sublist sub, fun b hb => ?_⟩, ⟨fs, rfl, fun b => ?_, fun b hb => .inl (sub.subset hb), fun b u e hb => ?_⟩⟩
  · have e : upd W.F a (.frz od (dnO a ks)) b = some u := e
    by_cases z : b = a
    · subst z; rw [upd_same] at e ⊢; exact e
    · rw [upd_ne z] at e ⊢; exact r.le b u e
  · refine RepMs.mono fs (fun b hb u e => ?_) r.inh
    have z : b ≠ a := fun z => n3 a (owned_get h e1) b hb z.symm
    rw [upd_ne z]; exact e
  · have p1 : RepLoc G W H (st.loc.set i none) (σ.set i (some (.ref a))) := RepLoc.set i r.loc fun y e => nomatch e
    rw [set_same e1] at p1
    have p2 : RepLoc G ⟨upd W.F a (.frz od (dnO a ks)), W.A⟩ (upd H a (.frz od (dnO a ks))) (st.loc.set i none) σ := RepLoc.mono (W := W) fs (fun b hb u e => by
      have z : b ≠ a := fun z => q2' (by rw [← z]; exact hb)
      rw [upd_ne z]; exact e) p1
    have p3 := RepLoc.set (l := some (.t (.dtn kvs))) (v := some (.ref a)) i p2 fun y e => ⟨_, rfl, by cases e; exact k⟩
    rw [set_same e1, List.set_set] at p3
    exact p3
  · have z : b ≠ a := fun z => na (by rw [← z]; exact hb)
    show upd W.F a _ b = none
    rw [upd_ne z]
    exact r.fr b (sub.subset hb)
  · by_cases z : b = a
    · subst z; exact .inr (.inr ha)
    · exact .inl (upd_ne z)
  · rw [upd_ne (fun z => hb (by rw [z]; exact ha))]; exact e
end
section
variable {G : Gd} {X : Cx} {Wx : WX} {e tg : Expr} {fe : Cm SV} {p pos : Pos} {x : PySem.Str}
theorem RepN.get {F : Hp} : ∀ {kvs : List (NK × PV)} {ks : List (NK × Addr × V)} {i : Nat} {k : NK} {q : PV}, RepN G F kvs ks → kvs[i]? = some (k, q) → ∃ b v, ks[i]? = some (k, b, v) ∧ NKAt F b k ∧ Rep G F q v
  | _, _, i, _, _, .nil, e => by simp at e
  | _, _, 0, _, _, .cons h r t, e => by simp at e; obtain ⟨rfl, rfl⟩ := e; exact ⟨_, _, rfl, h, r⟩
  | _, _, i + 1, _, _, .cons h r t, e => by
    obtain ⟨b, v, a1, a2, a3⟩ := RepN.get (i := i) t (by simpa using e)
    exact ⟨b, v, by simpa using a1, a2, a3⟩
end
end Cl
set_option maxHeartbeats 1000000
set_option maxHeartbeats 1000000
namespace Cl
open PySem PySem.Spec PyProof.Rows L2 StX ClX
def allN (acc : List (NK × Addr × V)) (kvs : List (NK × Addr × V)) : List (NK × Addr × V) := kvs.foldl (fun acc x => putN acc x.1 x.2.1 x.2.2) acc
def allS (acc xs : List (NK × Addr × Value)) : List (NK × Addr × Value) := xs.foldl (fun acc x => storedH acc x.1 x.2.1 x.2.2) acc
theorem RelN.all {kvs : List (NK × Addr × V)} {xs : List (NK × Addr × Value)} (r : Paired RelN kvs xs) : ∀ {acc : List (NK × Addr × V)} {as : List (NK × Addr × Value)}, Paired RelN acc as → Paired RelN (allN acc kvs) (allS as xs) := by
  induction r with
  | nil => exact fun h => h
  | cons z t ih =>
    rename_i x y kvs xs
    intro acc as h
    obtain ⟨z1, z2, z3⟩ := z
    refine ih (acc := putN acc x.1 x.2.1 x.2.2) (as := storedH as y.1 y.2.1 y.2.2) ?_
    rw [← z1, ← z2]
    exact RelN.put z3 h
end Cl
set_option maxHeartbeats 1000000
namespace Cl
open PySem PySem.Spec PyProof.Rows L2 StX ClX
theorem hu2 {k : Nat} {A : Around} (r : Room k A) : A.units + 2 < cLine := by have := r.un; omega
end Cl
set_option maxHeartbeats 1000000
set_option maxHeartbeats 1000000
set_option maxHeartbeats 4000000
set_option maxHeartbeats 4000000
namespace Cl
open PySem PySem.Spec PyProof.Rows L2
def okY (s : Shared) (th : Thread) : Bool := match th.cur with
  | .yield _ g _ _ => (match splitAtGen th.stack with
    | some (fs, _, _) => !closingShows s fs th.code g
    | none => false)
  | _ => false
section
variable (den : Code → Sem PySem.Fin) (prog : Program) (w : World)
theorem sstep_okY {s : Shared} {t : Thread} (h : okY s t = true) (hz : s.asleep) : sstep den prog w (.single s t) = (step den prog w s t).lift := by
  obtain ⟨hr, hc⟩ := hz
  obtain ⟨cur, code, pos, stack⟩ := t
  cases cur with
  | yield v g l k =>
    have hs : ∃ fs b rest, splitAtGen stack = some (fs, b, rest) ∧ closingShows s fs code g = false := by
      unfold okY at h
      simp only at h
      split at h
      · rename_i fs b rest e
        exact ⟨fs, b, rest, e, by simpa using h⟩
      · cases h
    obtain ⟨fs, b, rest, e, hcl⟩ := hs
    have hm : (Config.single s ⟨.yield v g l k, code, pos, stack⟩).moves w.params.profile = [.run 0] := by
      simp [Config.moves, Config.single, movesFrom, Thread.moves, Thread.atomic, Thread.rests, Thread.tells]
    have h1 : (Config.single s ⟨.yield v g l k, code, pos, stack⟩).collect? w.params = none := by
      simp [Config.collect?, Config.single, (nothing_to_collect _ _ _ s _ hr).1]
    have h2 : (Config.single s ⟨.yield v g l k, code, pos, stack⟩).collectable = [] := by
      simp [Config.collectable, Config.single, (nothing_to_collect w.params _ _ s _ hr).2]
    have hp : (Config.single s ⟨.yield v g l k, code, pos, stack⟩).pick w = .ok (.run 0, .single s ⟨.yield v g l k, code, pos, stack⟩) := by
      simp only [Config.pick, h1, h2, Config.pickThread, hm]
      cases w.params.lifetimes <;> simp
    have hl : ∀ others, lifeStep den prog w others s ⟨.yield v g l k, code, pos, stack⟩ = step den prog w s ⟨.yield v g l k, code, pos, stack⟩ := fun others => by
      unfold lifeStep
      split
      · simp only [collectorTurn?, e, hcl, Bool.false_eq_true, if_false, Bool.false_and, Thread.atItsEnd, stepCounting, hc]
      · simp only [stepCounting, hc, Bool.false_eq_true, if_false, Bool.false_and]
    simp only [sstep, hp, Config.move]
    simp only [Config.run, Config.single]
    simp [hl, others_single, frozenBadly, ThreadState.insideWrite, Thread.finalizes]
    split <;> simp_all [PySem.Step.lift, Config.single] <;> (try split) <;> simp_all
  | _ => simp [okY] at h
end
def stepJ (M : Model) (s : Shared) (th : Thread) : PySem.Step := if th.loud && !okY s th then .halt (.stuck "") s else stepK M.den M.prog M.w s th
inductive Wy (M : Model) : Shared → Thread → Shared → Thread → Prop
  | refl {s : Shared} {t : Thread} : Wy M s t s t
  | step {s : Shared} {t : Thread} {s₁ : Shared} {t₁ : Thread} {s' : Shared} {t' : Thread} : stepJ M s t = .go s₁ t₁ → Wy M s₁ t₁ s' t' → Wy M s t s' t'
section
variable {M : Model} {s s₁ s' : Shared} {t t₁ t' : Thread}
theorem Wy.trans (a : Wy M s t s₁ t₁) (b : Wy M s₁ t₁ s' t') : Wy M s t s' t' := by
  induction a with
  | refl => exact b
  | step e _ ih => exact .step e (ih b)
theorem stepJ_of (h : M.step s t = .go s₁ t₁) : stepJ M s t = .go s₁ t₁ := by
  have h' : stepI M.den M.prog M.w s t = .go s₁ t₁ := h
  cases hl : t.loud with
  | true => rw [stepI_loud _ _ _ hl] at h'; cases h'
  | false =>
    rw [stepI_quiet _ _ _ hl] at h'
    unfold stepJ
    rw [hl, Bool.false_and, if_neg Bool.false_ne_true]; exact h'
theorem Wy.one (h : M.step s t = .go s₁ t₁) : Wy M s t s₁ t₁ := .step (stepJ_of h) .refl
theorem cm_of_comes (h : Comes M s t s' t') : Wy M s t s' t' := by
  obtain ⟨n, hn⟩ := h
  induction n generalizing s t with
  | zero =>
    have e : Run.running s t = .running s' t' := hn
    cases e; exact .refl
  | succ n ih =>
    rw [runN_succ] at hn
    cases hs : M.step s t with
    | go s₂ t₂ => simp only [hs] at hn; exact .step (stepJ_of hs) (ih hn)
    | halt o s₂ => simp only [hs] at hn; cases hn
theorem heap_forget {σ : Shared} (h : σ.forget = s.forget) : σ.heap = s.heap := show σ.forget.heap = s.forget.heap by rw [h]
theorem okY_forget {σ : Shared} {τ : Thread} (hs : σ.forget = s.forget) (ht : τ.forget = t.forget) : okY σ τ = okY s t := by
  have hh := heap_forget hs
  obtain ⟨cur, code, pos, stack⟩ := t
  obtain ⟨cur', code', pos', stack'⟩ := τ
  simp only [Thread.forget, Thread.mk.injEq] at ht
  obtain ⟨rfl, rfl, rfl, e⟩ := ht
  have cs : ∀ (fs fs' : List Frame) (c : Code) (g : Bool), fs'.any Frame.guarded = fs.any Frame.guarded → closingShows σ fs' c g = closingShows s fs c g := fun fs fs' c g q => by
    unfold closingShows delegateShows
    rw [q, hh]
  unfold okY
  cases cur' with
  | yield v g l k =>
    simp only
    have e1 := splitAtGen_forgetAll stack
    have e2 := splitAtGen_forgetAll stack'
    rw [← e, e2] at e1
    cases h1 : splitAtGen stack with
    | none =>
      cases h2 : splitAtGen stack' with
      | none => rfl
      | some x => rw [h1, h2] at e1; cases e1
    | some x =>
      cases h2 : splitAtGen stack' with
      | none => rw [h1, h2] at e1; cases e1
      | some y =>
        rw [h1, h2] at e1
        simp only [Option.map_some, Option.some.injEq, Prod.mk.injEq] at e1
        obtain ⟨q1, _⟩ := e1
        have q : y.1.any Frame.guarded = x.1.any Frame.guarded := by rw [← any_guarded_forgetAll y.1, q1, any_guarded_forgetAll]
        show (!closingShows σ y.1 code' g) = (!closingShows s x.1 code' g)
        rw [cs x.1 y.1 code' g q]
  | _ => rfl
theorem stepJ_life (h : stepJ M s t = .go s₁ t₁) : s₁.heap.life = s.heap.life := by
  have hk : stepK M.den M.prog M.w s t = .go s₁ t₁ := by
    unfold stepJ at h
    split at h
    · cases h
    · exact h
  have fg : (PySem.step M.den M.prog M.w s t).forget = (PySem.Step.go s₁ t₁).forget := by
    rw [← stepK_forget, hk]
  cases hs : PySem.step M.den M.prog M.w s t with
  | halt o σ => rw [hs] at fg; cases fg
  | go σ τ =>
    rw [hs] at fg
    simp only [PySem.Step.forget, PySem.Step.go.injEq] at fg
    rw [← heap_forget fg.1]
    exact step_life M.den M.prog M.w s σ t τ hs
theorem Wy.still (h : Wy M s t s' t') (hz : s.asleep) : s'.asleep := by
  induction h with
  | refl => exact hz
  | step e _ ih => exact ih (Shared.asleep_of_life (stepJ_life e) hz)
theorem Wy.sched (h : Wy M s t s' t') : ∀ (σ : Shared) (τ : Thread), σ.forget = s.forget → τ.forget = t.forget → σ.asleep →
    ∃ n σ' τ', (∀ m, schedN M.den M.prog M.w (n + m) (.single σ τ) = schedN M.den M.prog M.w m (.single σ' τ')) ∧ σ'.forget = s'.forget ∧ τ'.forget = t'.forget ∧ σ'.heap.life = σ.heap.life := by
  induction h with
  | refl => intro σ τ h1 h2 hz; exact ⟨0, σ, τ, fun m => by rw [Nat.zero_add], h1, h2, rfl⟩
  | @step s t s₁ t₁ s' t' e _ ih =>
    intro σ τ h1 h2 hz
    have hk : stepK M.den M.prog M.w s t = .go s₁ t₁ ∧ (t.calm = true ∨ okY s t = true) := by
      unfold stepJ at e
      split at e
      · cases e
      · rename_i hn
        refine ⟨e, ?_⟩
        cases hl : t.loud with
        | true => rw [hl] at hn; exact .inr (by simpa using hn)
        | false =>
          refine .inl ?_
          rw [Thread.calm_eq, hl]
          cases hr : t.refused with
          | false => rfl
          | true =>
            obtain ⟨what, q⟩ := stepK_refused M.den M.prog M.w (s := s) hr
            rw [q] at e; cases e
    obtain ⟨hk, ok⟩ := hk
    have fg : (PySem.step M.den M.prog M.w σ τ).forget = (PySem.Step.go s₁ t₁).forget := by
      rw [← stepK_forget, ← stepK_comm, h1, h2, stepK_comm, hk]
    cases hs : PySem.step M.den M.prog M.w σ τ with
    | halt o σ₁ => rw [hs] at fg; cases fg
    | go σ₁ τ₁ =>
      rw [hs] at fg
      simp only [PySem.Step.forget, PySem.Step.go.injEq] at fg
      have hst : sstep M.den M.prog M.w (.single σ τ) = .go (.single σ₁ τ₁) := by
        rcases ok with ok | ok
        · have c : τ.calm = true := by rw [← Thread.calm_forget, h2, Thread.calm_forget]; exact ok
          rcases sstep_single M.den M.prog M.w σ τ c hz with q | q
          · rw [q, hs]; rfl
          · rw [hs] at q; cases q
        · rw [sstep_okY M.den M.prog M.w (by rw [okY_forget h1 h2]; exact ok) hz, hs]; rfl
      have hlf := step_life M.den M.prog M.w σ σ₁ τ τ₁ hs
      obtain ⟨n, σ', τ', a, b, c, d⟩ := ih σ₁ τ₁ fg.1 fg.2 (Shared.asleep_of_life hlf hz)
      refine ⟨n + 1, σ', τ', fun m => ?_, b, c, d.trans hlf⟩
      rw [show n + 1 + m = (n + m) + 1 by omega]
      simp only [schedN, hst]
      exact a m
theorem Wy.ends {t : Sem PySem.Fin} {c : Code} {p : Pos} {r : Result} {c' : Code} {p' : Pos} (h : Wy M s ⟨t, c, p, []⟩ s' ⟨leafOf r, c', p', []⟩) (hb : leftWithCleanup s'.gens = false) (hz : s.asleep) :
    ∃ n s'', schedN M.den M.prog M.w n (.single s ⟨t, c, p, []⟩) = .halted (outcomeOf r) s'' ∧ s''.forget = s'.forget ∧ s''.heap.life = s.heap.life := by
  obtain ⟨n, σ', τ', a, b, e, d⟩ := h.sched s _ rfl rfl hz
  obtain ⟨cur, code, pos, stack⟩ := τ'
  simp only [Thread.forget, Thread.mk.injEq, forgetAll_nil] at e
  obtain ⟨rfl, rfl, rfl, e⟩ := e
  have es : stack = [] := by cases stack with
    | nil => rfl
    | cons x xs => cases e
  subst es
  refine ⟨n + 1, σ', ?_, b, d⟩
  rw [a 1]
  have lc : leftWithCleanup σ'.gens = false := by
    have e1 := leftWithCleanup_forget σ'.gens
    have e2 := leftWithCleanup_forget s'.gens
    have e3 : σ'.gens.map GenState.forget = s'.gens.map GenState.forget := congrArg Shared.gens b
    rw [← e1, e3, e2]; exact hb
  have hz' : σ'.asleep := Shared.asleep_of_life d hz
  have st : PySem.step M.den M.prog M.w σ' ⟨leafOf r, code, pos, []⟩ = .halt (outcomeOf r) σ' := by
    cases r <;> simp [leafOf, outcomeOf, PySem.step, finish, lc]
  have calm : Thread.calm ⟨leafOf r, code, pos, []⟩ = true := by cases r <;> rfl
  rcases sstep_single M.den M.prog M.w σ' ⟨leafOf r, code, pos, []⟩ calm hz' with q | q
  · simp only [schedN, q, st, PySem.Step.lift]
  · rw [st] at q
    cases r <;> cases q
end
end Cl
set_option maxHeartbeats 4000000
namespace Cl
open PySem PySem.Spec PyProof.Rows L2
def WJ {α : Type} (M : Model) (A : Around) (t : Sem α) (Q : α → Shared → Prop) (E : Value → Shared → Prop) (s : Shared) : Prop :=
  s.asleep → ∀ (K : α → Sem PySem.Fin) (J : Value → Sem PySem.Fin) (gd : Bool → Bool) (lv : List Value → List Value) (Γ : PySem.Ctx) (p : Pos) (st : List Frame), Γ.In A → Γ.Fits st →
    (∃ a s' p', Wy M s ⟨t.wrap K J gd lv, Γ.code, p, st⟩ s' ⟨K a, Γ.code, p', st⟩ ∧ Q a s') ∨ ∃ e s' p', Wy M s ⟨t.wrap K J gd lv, Γ.code, p, st⟩ s' ⟨J e, Γ.code, p', st⟩ ∧ E e s'
def codeJ (M : Model) (A : Around) (c : Code) (R : Result → Shared → Prop) (s : Shared) : Prop :=
  s.asleep → ∀ (Γ : PySem.Ctx) (p : Pos) (st : List Frame), Γ.code = c → Γ.Below A → Γ.Fits st → ∃ r s' c' p', Wy M s ⟨M.den c, c, p, st⟩ s' ⟨leafOf r, c', p', st⟩ ∧ R r s'
section
variable {M : Model} {A : Around} {α β : Type} {Q : α → Shared → Prop} {E : Value → Shared → Prop} {s : Shared}
theorem Wy.via {s₁ s' : Shared} {t t₁ t' : Thread} (h : M.step s t = .go s₁ t₁) (w : Wy M s₁ t₁ s' t') : Wy M s t s' t' := .step (stepJ_of h) w
theorem wp_wy (t : Sem α) {K : α → Sem PySem.Fin} {J : Value → Sem PySem.Fin} {gd : Bool → Bool} {lv : List Value → List Value} {Γ : PySem.Ctx} {st : List Frame} (hf : Γ.Fits st) : ∀ {Q : α → Pos → Shared → Prop} {E : Value → Pos → Shared → Prop} {p : Pos} {s : Shared}, Sem.wp M Γ t Q E p s →
    (∃ a s' p', Wy M s ⟨t.wrap K J gd lv, Γ.code, p, st⟩ s' ⟨K a, Γ.code, p', st⟩ ∧ Q a p' s') ∨ ∃ e s' p', Wy M s ⟨t.wrap K J gd lv, Γ.code, p, st⟩ s' ⟨J e, Γ.code, p', st⟩ ∧ E e p' s' := by
  have up : ∀ {Q : α → Pos → Shared → Prop} {E : Value → Pos → Shared → Prop} {s s₁ : Shared} {t t₁ : Thread}, Wy M s t s₁ t₁ →
      ((∃ a s' p', Wy M s₁ t₁ s' ⟨K a, Γ.code, p', st⟩ ∧ Q a p' s') ∨ ∃ e s' p', Wy M s₁ t₁ s' ⟨J e, Γ.code, p', st⟩ ∧ E e p' s') →
      ((∃ a s' p', Wy M s t s' ⟨K a, Γ.code, p', st⟩ ∧ Q a p' s') ∨ ∃ e s' p', Wy M s t s' ⟨J e, Γ.code, p', st⟩ ∧ E e p' s') := fun h o =>
    o.imp (fun ⟨a, s', p', w, q⟩ => ⟨a, s', p', h.trans w, q⟩) fun ⟨a, s', p', w, q⟩ => ⟨a, s', p', h.trans w, q⟩
  induction t with
  | pure a => intro Q E p s h; exact .inl ⟨a, s, p, .refl, h⟩
  | raise e => intro Q E p s h; exact .inr ⟨e, s, p, .refl, h⟩
  | unsupported _ => intro Q E p s h; exact h.elim
  | finish _ => intro Q E p s h; exact h.elim
  | rule tag k ih => intro Q E p s h; exact up (.one (step_rule ..)) (ih () h)
  | «at» p₀ k ih => intro Q E p s h; exact up (.one (step_at ..)) (ih () h)
  | load a part k ih => intro Q E p s h; obtain ⟨o, ho, h⟩ := h; exact up (.one (step_load _ _ _ _ _ _ _ ho)) (ih o h)
  | update a part f k ih => intro Q E p s h; exact up (.one (step_update _ _ _ _ _ _ _ _ h.1)) (ih () h.2)
  | loadIfAlive a k ih => intro Q E p s h; exact up (.one (step_loadIfAlive ..)) (ih _ h)
  | point l k ih => intro Q E p s h; exact up (.one (step_point ..)) (ih () h)
  | register a k _ => intro Q E p s h; exact h.elim
  | alloc o k ih => intro Q E p s h; exact up (.one (step_alloc ..)) (ih _ h)
  | fresh k ih => intro Q E p s h; exact up (.one (step_fresh ..)) (ih _ h)
  | ask k ih => intro Q E p s h; exact up (.one (step_ask ..)) (ih _ h)
  | choose src n k ih => intro Q E p s h; exact up (.one (step_choose _ _ _ _ _ _ _ h.1)) (ih _ h.2)
  | os q l k ih => intro Q E p s h; exact up (.one (step_os ..)) (ih _ h)
  | call c h₀ g l k ih =>
    intro Q E p s h
    obtain ⟨r, s₁, hr, h⟩ := h
    obtain ⟨t', c', p', pre', hc, hx⟩ := (runs_reach hr _ (hf.enter c (fun x => (k x).wrap K J gd lv) h₀ (gd g) (lv l) p [])).comes
    obtain ⟨rfl, rfl⟩ := hx
    exact up (.via (step_call ..) ((cm_of_comes hc).trans (.one (step_leaf_ret ..)))) (ih r h)
  | handled own k ih =>
    intro Q E p s h
    refine up (.one ?_) (ih _ h)
    refine (step_handled ..).trans ?_
    cases own
    · rw [hf.handled]; rfl
    · rw [hf.own]; rfl
  | genState g k ih => intro Q E p s h; obtain ⟨x, hg, h⟩ := h; exact up (.one (step_genState _ _ _ _ _ _ hg)) (ih _ h)
  | newGen c k ih => intro Q E p s h; exact up (.one (step_newGen ..)) (ih _ h)
  | resume g r l k ih => intro Q E p s h; obtain ⟨res, s₁, hw, h⟩ := h; exact up (cm_of_comes (wakes_comes hf (lv l) (fun x => (k x).wrap K J gd lv) hw)) (ih res h)
  | yield v g l k _ => intro Q E p s h; exact h.elim
  | stack k ih => intro Q E p s h; exact up (.one (by rw [hf.below]; exact step_stack ..)) (ih _ h)
  | fork c k _ => intro Q E p s h; exact h.elim
  | thread k ih => intro Q E p s h; exact up (.one (step_thread ..)) (ih _ h)
  | await a f d l k _ => intro Q E p s h; exact h.elim
theorem wj_of {t : Sem α} (h : wpAny M A t Q E s) : WJ M A t Q E s := fun hz K J gd lv Γ p st hi hf => wp_wy t hf (h Γ p hi)
theorem wj_pure {a : α} (h : Q a s) : WJ M A (pure a) Q E s := wj_of (wpAny_pure h)
theorem wj_code {c : Code} {g : Bool} {l : List Value} {k : Result → Sem α} (h : codeJ M A c (fun r s' => WJ M A (k r) Q E s') s) : WJ M A (.call c none g l k) Q E s := fun hz K J gd lv Γ p st hi hf => by
  have hb : (Γ.enter c none p).Below A := by
    have := hi.enter c none p (by simp)
    simpa [Around.mark] using this
  obtain ⟨r, s1, c1, p1, w, q⟩ := h hz (Γ.enter c none p) p _ rfl hb (hf.enter c (fun x => (k x).wrap K J gd lv) none (gd g) (lv l) p [])
  have w : Wy M s _ s1 _ := .via (step_call M s Γ.code p st c none (gd g) (lv l) (fun x => (k x).wrap K J gd lv)) (w.trans (.one (step_leaf_ret ..)))
  rcases q (w.still hz) K J gd lv Γ p st hi hf with ⟨a, s', p', w2, q2⟩ | ⟨e, s', p', w2, q2⟩
  · exact .inl ⟨a, s', p', w.trans w2, q2⟩
  · exact .inr ⟨e, s', p', w.trans w2, q2⟩
theorem codeJ_mono {c : Code} {R R' : Result → Shared → Prop} (h : codeJ M A c R s) (i : ∀ r s', R r s' → R' r s') : codeJ M A c R' s := fun hz Γ p st a b d =>
  let ⟨r, s', c', p', w, q⟩ := h hz Γ p st a b d
  ⟨r, s', c', p', w, i _ _ q⟩
end
end Cl
set_option maxHeartbeats 4000000
namespace Cl
open PySem PySem.Spec PyProof.Rows L2 StX ClX
abbrev Doze.go' (D : Doze) (o : Obj) : Doze := { D with go := o }
structure DozeIs (D : Doze) : Prop where
  nap : Nap D.Z D.σ D.oL
  isg : ∀ h : Heap, h.get? D.a = some D.go → ∃ o nm qn, h.get? D.a = some o ∧ o.cls = .type "generator" ∧ o.data = .fields #[.int D.Z.g 0, nm, qn] ∧ o.slots = #[some (.int 1 0)]
  nc : ∀ v, D.go.data ≠ .cell v
  ncH : ∀ p ∈ D.hold, ∀ v, p.2.data ≠ .cell v
  aL : D.a ≠ D.Z.L
  hL : ∀ p ∈ D.hold, p.1 ≠ D.Z.L ∧ p.1 ≠ D.a
  gt : D.Z.L < D.a ∧ ∀ p ∈ D.hold, D.Z.L < p.1
  gk0 : D.gk = []
  slp : asleep D.gs = true
structure LvY (Z : GS) (b : Bs) (D : Doze) (st : ST) (W : Wd) (σ : Sg) (H : Hp) (s : Shared) : Prop where
  sz : b.s0.heap.objs.size = Z.L
  inv : Inv (gX Z b) (b.ff ++ D.pins) σ H s
  r : R Z.G W st σ H
  step : Step b.o1 b.W1 b.H1 (own W st σ ++ D.own) W H
  room : Room Z.k (b.A.deeper Z.env)
  gd : (b.A.deeper Z.env).guards = some []
  gen : Z.g < s.gens.size
  at_ : DozeAt D W.F H s
  sep : ∀ p ∈ (gX Z b).pn ++ b.ff, ∀ q ∈ D.pins, p.1 ≠ q.1
  dis : ∀ x ∈ D.own, x ∉ own W st σ
  eG : D.Z.G = Z.G
  sv : Serves D.Z (gX Z b)
  kk : D.Z.k + 4 ≤ Z.k
  gne : D.Z.g ≠ Z.g
section
variable {Z : GS} {b : Bs} {D : Doze} {st : ST} {W : Wd} {σ : Sg} {H : Hp} {s : Shared} {ys : List PV}
theorem LvY.slept (l : LvY Z b D st W σ H s) (aL : D.a ≠ D.Z.L) (hL : ∀ p ∈ D.hold, p.1 ≠ D.a) (gt : D.Z.L < D.a) {o : Obj} {f : Obj → Obj} (hf : f D.go = o) (fr : o.isFreed = false) (nc : ∀ v, o.data ≠ .cell v) :
    LvY Z b (D.go' o) st W σ H { s with heap := s.heap.update D.a f } := by
  have pin := fun p hp => l.inv.pin p hp
  have ga := l.at_.pins (D.a, D.go) (List.mem_cons_self ..)
  have pa := pin (D.a, D.go) (List.mem_append_right _ (List.mem_append_right _ (List.mem_cons_self ..)))
  have up : (s.heap.update D.a f).get? D.a = some o := by rw [Heap.get?_update_self _ ga.1 (by show (f D.go).isFreed = false; rw [hf]; exact fr)]; show some (f D.go) = _; rw [hf]
  have oth : ∀ {c : Addr} {u : Obj}, c ≠ D.a → s.heap.get? c = some u → (s.heap.update D.a f).get? c = some u := fun {c u} hc e => by rw [Heap.get?_update_other _ _ (Ne.symm hc)]; exact e
  have I1 : Inv (gX Z b) (b.ff ++ ((D.Z.L, D.oL) :: D.hold)) σ H s := l.inv.pins_of fun p hp => pin p (by
    rcases List.mem_append.mp hp with z | z
    · exact List.mem_append_right _ (List.mem_append_left _ z)
    · exact List.mem_append_right _ (List.mem_append_right _ (List.mem_cons_of_mem _ z)))
  have ne : ∀ p ∈ ((D.Z.L, D.oL) :: D.hold), p.1 ≠ D.a := fun p hp => by
    rcases List.mem_cons.mp hp with z | z
    · rw [z]; exact Ne.symm aL
    · exact hL p z
  have hloc : (gX Z b).env.locals < D.a := Nat.lt_trans l.sv.loc gt
  have I2 : Inv (gX Z b) (b.ff ++ ((D.Z.L, D.oL) :: D.hold)) σ H { s with heap := s.heap.update D.a f } := by
    refine I1.turnedL (t' := s.toks) (ch := [D.a]) (fun c u hc e => oth (fun z => hc (by rw [z]; exact List.mem_singleton.mpr rfl)) e) fun c hc => ?_
    rw [List.mem_singleton.mp hc]
    refine ⟨pa.2.1, pa.2.2.1, pa.2.2.2.1, .inr (Nat.le_of_lt (Nat.lt_of_le_of_lt l.inv.ok.above hloc)), fun x c e z => ?_, fun p hp z => ?_⟩
    · have := l.sv.cells x c e
      rw [z] at this
      exact absurd (Nat.lt_trans gt this) (Nat.lt_irrefl _)
    · rw [← List.append_assoc] at hp
      rcases List.mem_append.mp hp with q | q
      · exact l.sep p q (D.a, D.go) (List.mem_cons_self ..) z
      · exact ne p q z
  have pins2 : ∀ p ∈ (D.go' o).pins, (s.heap.update D.a f).get? p.1 = some p.2 ∧ H p.1 = none := fun p hp => by
    rcases List.mem_cons.mp hp with z | z
    · rw [z]; exact ⟨up, ga.2⟩
    · have q := l.at_.pins p (List.mem_cons_of_mem _ z)
      exact ⟨oth (ne p z) q.1, q.2⟩
  refine ⟨l.sz, I2.pins_of fun p hp => ?_, l.r, l.step, l.room, l.gd, l.gen, ⟨pins2, l.at_.gens, l.at_.r, l.at_.le⟩, fun p hp q hq => ?_, l.dis, l.eG, l.sv, l.kk, l.gne⟩
  · rcases List.mem_append.mp hp with z | z
    · exact I2.pin p (List.mem_append_right _ (List.mem_append_left _ z))
    · rcases List.mem_cons.mp z with z | z
      · rw [z]; exact ⟨up, ga.2, pa.2.2.1, pa.2.2.2.1, nc⟩
      · exact I2.pin p (List.mem_append_right _ (List.mem_append_right _ z))
  · rcases List.mem_cons.mp hq with z | z
    · rw [z]; exact l.sep p hp (D.a, D.go) (List.mem_cons_self ..)
    · exact l.sep p hp q (List.mem_cons_of_mem _ z)
end
def WantJ (Z : GS) : List PV → Bs → End → Shared → Prop
  | [], b => fun e s => e = .ret (.ok (.ret .none)) ∧ ∃ st W σ H, Live Z b [] [] st W σ H s
  | y :: ys, b => fun e s => ∃ v l k p fs D st W σ H u, e = .susp v true l k (.builtin "proto.yield_from" ⟨[.ref D.a, .bool false, .none], []⟩) p fs ∧ fs.any Frame.guarded = false ∧ splitAtGen fs = none ∧ LvY Z b D st W σ H s ∧ Rep Z.G W.F y u ∧ RelV u v ∧ DozeIs D ∧
      ∀ b' W' H' s'', LvY Z b' D st W' σ H' s'' → Same W.F W'.F → SegG (model Z.P Z.w) b'.A (WantJ Z ys b') (.builtin "proto.yield_from" ⟨[.ref D.a, .bool false, .none], []⟩) (k (.send .none)) fs s''
section
variable {Z : GS} {b : Bs}
abbrev slept (n : Int) (o : Obj) : Obj := { o with slots := #[some (.int n 0)] }
theorem inv_d1 {X : Cx} {pins : List (Addr × Obj)} {σ : Sg} {H : Hp} {s : Shared} (I : Inv X pins σ H s) : Inv (inA X X.A.in1) pins σ H s :=
  ⟨⟨I.ok.mod, I.ok.kind, I.ok.glob, I.ok.blt, I.ok.above, I.ok.inj, I.ok.has, I.ok.cab, I.ok.hd, I.ok.frames, I.ok.stk, I.ok.exf, I.ok.bs, I.ok.bsz, I.ok.noex, I.ok.exfs, I.ok.funs, I.ok.frf⟩, I.os, I.bare, I.base, I.loc, I.cell, I.free, I.freeC, I.pin, I.hok, I.len⟩
theorem LvY.eA {D : Doze} {st : ST} {W : Wd} {σ : Sg} {H : Hp} {s : Shared} (l : LvY Z b D st W σ H s) : (gX Z b).A = b.A.deeper Z.env := by
  show b.A.deeper (gX Z b).env = _
  rw [Live.envEq l.sz]
theorem LvY.rm {D : Doze} {st : ST} {W : Wd} {σ : Sg} {H : Hp} {s : Shared} (l : LvY Z b D st W σ H s) : Room (D.Z.k + 4) (gX Z b).A := by
  rw [l.eA]; exact l.room.mono l.kk
theorem LvY.next {D : Doze} {st : ST} {W : Wd} {σ : Sg} {H : Hp} {s : Shared} {ys : List PV} (l : LvY Z b D st W σ H s) (d : Dozes D ys) :
    StopS (model Z.P Z.w) (gX Z b).A.in1 D.a s (NextQ (inA (gX Z b) (gX Z b).A.in1) b.ff σ D W st H Z.G ys) := by
  rw [← l.eG]
  have h := next_dozeT (X := inA (gX Z b) (gX Z b).A.in1) (pins := b.ff) (fx := []) (stc := st) (T := fun Q => StopS (model Z.P Z.w) (gX Z b).A.in1 D.a s Q) d
    (Serves.toF (X := inA (gX Z b) (gX Z b).A.in1) ⟨l.sv.prog, l.sv.w, l.sv.K, l.sv.mg, l.sv.base, l.sv.outer, l.sv.loc, l.sv.cells⟩ l.inv.ok.above) (fun p hp => absurd hp (by simp)) (inv_d1 l.inv) (by rw [l.eG]; exact l.r) l.at_ l.sep l.dis
    ((Room.in1 (k := D.Z.k + 3) l.rm).mono (by omega)) (by show (gX Z b).A.guards = _; rw [l.eA]; exact l.gd)
    (fun a1 a2 a3 a4 a5 a6 a7 => nextS_g a1 a2 a3 a4 a5 a6 a7)
  exact h
end
end Cl
set_option maxHeartbeats 4000000
namespace Cl
open PySem PySem.Spec PyProof.Rows L2 StX ClX
section
variable {M : Model} {A : Around} {E : Value → Shared → Prop} {s : Shared}
theorem wj_call {f : Value} {us : List Value} {kw : List (PySem.Str × Value)} {Q : Value → Shared → Prop}
    (hc : codeJ M A (.call f ⟨us, kw⟩) (fun r s' => match r with | .ok (.ret v) => Q v s' | .ok _ => False | .error e => E e s') s) : WJ M A (call f us kw) Q E s := by
  show WJ M A (.call (.call f ⟨us, kw⟩) none false [] _) Q E s
  refine wj_code (codeJ_mono hc fun r s' h => ?_)
  cases r with
  | error e => exact wj_of (wpAny_throw h)
  | ok fl =>
    cases fl with
    | ret v => exact wj_pure h
    | next => exact h.elim
    | brk => exact h.elim
    | cont => exact h.elim
end
end Cl
set_option maxHeartbeats 4000000
namespace Cl
open PySem PySem.Spec PyProof.Rows L2 StX ClX
def inPins : Option Doze → List (Addr × Obj)
  | none => []
  | some D => D.pins
abbrev OD.pins (O : OD) : List (Addr × Obj) := (O.a, O.go) :: (O.Z.L, O.oL) :: inPins O.inn
def LvO (Z : GS) (b : Bs) : Option Doze → ST → Wd → Sg → Hp → Shared → Prop
  | none => fun st W σ H s => Live Z b [] [] st W σ H s
  | some D => fun st W σ H s => LvY Z b D st W σ H s
structure Under (Z : GS) (a : Addr) (D : Doze) : Prop where
  is : DozeIs D
  eG : D.Z.G = Z.G
  sv : ∀ b : Bs, b.s0.heap.objs.size = Z.L → Serves D.Z (gX Z b)
  k : D.Z.k + 4 ≤ Z.k
  gne : D.Z.g ≠ Z.g
  na : ∀ p ∈ D.pins, p.1 ≠ a
structure ODs (O : OD) (ys : List PV) : Prop where
  ok : GOk O.Z
  nap : Nap O.Z O.σ O.oL
  isg : ∀ h : Heap, h.get? O.a = some O.go → GenAt h O.a O.Z.g
  nc : ∀ v, O.go.data ≠ .cell v
  aL : O.a ≠ O.Z.L
  gt : O.Z.L < O.a
  inn : ∀ D, O.inn = some D → Under O.Z O.a D
  goes : ∀ (b : Bs) (W : Wd) (H : Hp) (s : Shared), LvO O.Z b O.inn O.st W O.σ H s → Same O.F W.F → GoesG (model O.Z.P O.Z.w) b.A (fun e s' => WantJ O.Z ys b e s') O.gs s
structure ODAt (O : OD) (F H : Hp) (s : Shared) : Prop where
  pins : ∀ p ∈ O.pins, s.heap.get? p.1 = some p.2 ∧ H p.1 = none
  gen : s.gens[O.Z.g]? = some O.gs
  r : R O.Z.G ⟨F, []⟩ O.st O.σ H
  le : Same O.F F
  inn : ∀ D, O.inn = some D → DozeAt D F H s ∧ ∀ x ∈ D.own, x ∉ Cl.own ⟨O.F, []⟩ O.st O.σ
end Cl
set_option maxHeartbeats 4000000
namespace Cl
open PySem PySem.Spec PyProof.Rows L2 StX ClX
structure YEk (G : Gd) (X : Cx) (k : Nat) (e : Expr) (f : Cm (List PV)) : Prop where
  run : ∀ (pins : List (Addr × Obj)) (s : Shared) (σ : Sg) (H : Hp) (W : Wd) (st : ST) (ys : List PV) (st' : ST), Inv X pins σ H s → R G W st σ H → f st = .ok ys st' →
    wpAny (model X.prog X.w) X.A (eval e X.env) (fun u s' => ∃ D W' H', u = .ref D.a ∧ YAt X pins σ W st H G ys st' D W' H' s' ∧ D.Z.k ≤ k ∧ s.gens.size ≤ D.Z.g) X.xe s
structure YJs (Z : GS) (ss : List Stmt) (g : Cm (List PV)) : Prop where
  run : ∀ (c : Code) (fs : List Frame) (K : Flow → Sem PySem.Fin) (J : Value → Sem PySem.Fin) (gd : Bool → Bool) (lv : List Value → List Value), GCode Z c fs gd →
    (∀ (b : Bs) (st : ST) (W : Wd) (σ : Sg) (H : Hp) (s : Shared), Live Z b [] [] st W σ H s → SegG (model Z.P Z.w) b.A (WantJ Z [] b) c (K .next) fs s) →
    ∀ (b : Bs) (st : ST) (W : Wd) (σ : Sg) (H : Hp) (s : Shared), Live Z b [] [] st W σ H s → ∀ (ys : List PV) (st' : ST), g st = .ok ys st' → SegG (model Z.P Z.w) b.A (WantJ Z ys b) c ((execs ss Z.env).wrap K J gd lv) fs s
section
variable {Z : GS} {e : Expr} {yp pos : Pos} {fe : Cm (List PV)} {x : Stmt} {xs : List Stmt} {k : Nat}
def gPre (g : Sm) (f : Cm (List PV)) : Cm (List PV) := fun st => match g st with
  | .nx st1 => f st1
  | _ => .stuck
end
structure MadeJ (G : Gd) (P : Program) (w : World) (K : PySem.W.Frag) (mg : PySem.Str → Option Value) (base : Heap) (k : Nat) (outer : List Env) (H : Hp) (s : Shared) (F : Hp) (ys : List PV) (O : OD) (s' : Shared) : Prop where
  eG : O.Z.G = G
  eP : O.Z.P = P
  ew : O.Z.w = w
  eK : O.Z.K = K
  emg : O.Z.mg = mg
  ebase : O.Z.base = base
  ek : O.Z.k ≤ k
  eouter : O.Z.outer = outer
  eL : O.Z.L = s.heap.objs.size
  dz : ODs O ys
  os : s'.os = s.os
  bare : AllBare s'.gens
  kept : Kept s s'
  keep : ∀ b o, s.heap.get? b = some o → s'.heap.get? b = some o
  pins : ∀ p ∈ O.pins, s'.heap.get? p.1 = some p.2
  gen : s'.gens[O.Z.g]? = some O.gs
  inn : O.inn = none
  own : Cl.own ⟨O.F, []⟩ O.st O.σ = []
  r : R G ⟨F, []⟩ O.st O.σ H
  eF : O.F = F
  gsz : s.gens.size ≤ O.Z.g
  strict : ∀ h : Heap, h.get? O.a = some O.go → h.IsGen O.a O.Z.g
end Cl
set_option maxHeartbeats 4000000
namespace Cl
open PySem PySem.Spec PyProof.Rows L2 StX ClX
structure PEJ (X : Cx) (e : Expr) (t : TE) : Prop where
  run : ∀ (pins : List (Addr × Obj)) (s : Shared) (σ : Sg) (H : Hp) (Q : VK), Inv X pins σ H s → t σ H Q → WJ (model X.prog X.w) X.A (eval e X.env) (EP X pins σ Q) X.xe s
structure PTJ (X : Cx) (e : Expr) (t : TT) : Prop where
  run : ∀ (pins : List (Addr × Obj)) (s : Shared) (σ : Sg) (H : Hp) (Q : Bool → Hp → Prop), Inv X pins σ H s → t σ H Q → WJ (model X.prog X.w) X.A (isTrue e X.env (eval e X.env)) (TP X pins σ Q) X.xe s
structure PWJ (X : Cx) (e : Expr) (t : TT) : Prop where
  run : ∀ (whole : Sem Value) (pins : List (Addr × Obj)) (s : Shared) (σ : Sg) (H : Hp) (Q : Bool → Hp → Prop), Inv X pins σ H s → t σ H Q → WJ (model X.prog X.w) X.A (isTrue e X.env whole) (TP X pins σ Q) X.xe s
structure PSJ (X : Cx) (st : Stmt) (t : TS) : Prop where
  run : ∀ (pins : List (Addr × Obj)) (s : Shared) (σ : Sg) (H : Hp) (D : Ends), Inv X pins σ H s → t D σ H → WJ (model X.prog X.w) X.A (exec st X.env) (SP X pins D) X.xe s
structure PSsJ (X : Cx) (st : List Stmt) (t : TS) : Prop where
  run : ∀ (pins : List (Addr × Obj)) (s : Shared) (σ : Sg) (H : Hp) (D : Ends), Inv X pins σ H s → t D σ H → WJ (model X.prog X.w) X.A (execs st X.env) (SP X pins D) X.xe s
section
variable {X : Cx} {e a b c : Expr} {st : Stmt} {rest : List Stmt} {tx ty : TE} {tt tu : TT} {t u : TS} {pos : Pos} {es : List Expr}
theorem pej_of (h : PE X e tx) : PEJ X e tx := ⟨fun pn s σ H Q I q => wj_of (h.run pn s σ H Q I q)⟩
theorem ptj_of (h : PT X e tt) : PTJ X e tt := ⟨fun pn s σ H Q I q => wj_of (h.run pn s σ H Q I q)⟩
theorem pwj_of (h : PW X e tt) : PWJ X e tt := ⟨fun wh pn s σ H Q I q => wj_of (h.run wh pn s σ H Q I q)⟩
theorem psj_of (h : PS X st t) : PSJ X st t := ⟨fun pn s σ H D I q => wj_of (h.run pn s σ H D I q)⟩
theorem pssj_of (h : PSs X rest t) : PSsJ X rest t := ⟨fun pn s σ H D I q => wj_of (h.run pn s σ H D I q)⟩
theorem PWJ.pt (h : PWJ X e tt) : PTJ X e tt := ⟨h.run _⟩
theorem pej_imp {t' : TE} (h : PEJ X e tx) (i : ∀ σ H Q, t' σ H Q → tx σ H Q) : PEJ X e t' := ⟨fun pn s σ H Q I q => h.run pn s σ H Q I (i σ H Q q)⟩
end
end Cl
set_option maxHeartbeats 4000000
namespace Cl
open PySem PySem.Spec PyProof.Rows L2 StX ClX
structure CEJ (G : Gd) (X : Cx) (Wx : WX) (e : Expr) (f : Cm SV) : Prop where
  pe : PEJ X e (tE G Wx f)
structure CMJ (G : Gd) (X : Cx) (Wx : WX) (e : Expr) (f : Cm MC) : Prop where
  pe : PEJ X e (tM G Wx f)
structure CTJ (G : Gd) (X : Cx) (Wx : WX) (e : Expr) (f : Cm Bool) : Prop where
  pt : PTJ X e (tT G Wx f)
structure CWJ (G : Gd) (X : Cx) (Wx : WX) (e : Expr) (f : Cm Bool) : Prop where
  pw : PWJ X e (tT G Wx f)
structure CSJ (G : Gd) (X : Cx) (Wx : WX) (s : Stmt) (g : Sm) : Prop where
  ps : PSJ X s (tS G Wx g)
structure CSsJ (G : Gd) (X : Cx) (Wx : WX) (s : List Stmt) (g : Sm) : Prop where
  pss : PSsJ X s (tS G Wx g)
section
variable {G : Gd} {X : Cx} {Wx : WX} {e a b : Expr} {es : List Expr} {fe fa fb : Cm SV} {fm : Cm MC} {ft fu : Cm Bool} {s : Stmt} {rest : List Stmt} {g k : Sm} {pos : Pos}
theorem CE.j (h : CE G X Wx e fe) : CEJ G X Wx e fe := ⟨pej_of h.pe⟩
theorem CM.j (h : CM G X Wx e fm) : CMJ G X Wx e fm := ⟨pej_of h.pe⟩
theorem CT.j (h : CT G X Wx e ft) : CTJ G X Wx e ft := ⟨ptj_of h.pt⟩
theorem CW.j (h : CW G X Wx e ft) : CWJ G X Wx e ft := ⟨pwj_of h.pw⟩
theorem CS.j (h : CS G X Wx s g) : CSJ G X Wx s g := ⟨psj_of h.ps⟩
theorem CSs.j (h : CSs G X Wx rest g) : CSsJ G X Wx rest g := ⟨pssj_of h.pss⟩
theorem CMJ.ce (h : CMJ G X Wx e fm) : CEJ G X Wx e (cFrz fm) := ⟨pej_imp h.pe fun σ H Q q => tM_of_frz q⟩
theorem CWJ.ct (h : CWJ G X Wx e ft) : CTJ G X Wx e ft := ⟨h.pw.pt⟩
variable {f : PV → PV → Option PV}
def FnPJ (P : Program) (w : World) (K : PySem.W.Frag) (mg : PySem.Str → Option Value) (base : Heap) (k : Nat) (f : Addr) (sp : Sp) : Prop :=
  ∀ (A : Around) (outer : List Env) (s : Shared) (H : Hp) (us : List Value) (vs : List V) (Q : VK) (E : XK), Room k A → A.guards = some [] → Env0 P w K mg base A outer s H → Vals vs us → sp vs H Q E →
    codeJ (model P w) A (.call (.ref f) ⟨us, []⟩) (CR (L2.CX P w) outer P w H s Q E) s
def RunOkJ (G : Gd) (X : Cx) (Wx : WX) (a : Addr) (Fc : List SV → Cm SV) : Prop :=
  ∀ (pn : List (Addr × Obj)) (s : Shared) (σ : Sg) (H : Hp) (Q : VK) (us : List Value) (vs : List V) (xs : List SV) (W : Wd) (st : ST), Inv X pn σ H s → R G W st σ H → RepSs G W σ xs vs → Vals vs us → OutE G Wx W st σ H (Fc xs st) Q →
    WJ (model X.prog X.w) X.A (call (.ref a) us) (EP X pn σ Q) X.xe s
theorem RunOkJ.of {k : Nat} {f : Addr} {sp : Sp} {Fc : List SV → Cm SV} (hf : FnPJ X.prog X.w X.K X.mg X.base k f sp) (p : Prom G Wx sp Fc) (room : Room k X.A) (gd : X.A.guards = some []) (tk : Takes X Wx) : RunOkJ G X Wx f Fc := by
  intro pn s σ H Q us vs xs W st I r hs rv o
  refine wj_call (codeJ_mono (hf X.A X.stack s H us vs Q _ room gd I.env0 rv (p W st σ H Q xs vs r hs o)) fun z s' q => ?_)
  cases z with
  | error er => exact tk er s' (XE.of_call I (fun cls d H' w => w) q)
  | ok fl =>
    cases fl with
    | ret u => exact I.after q
    | next => exact False.elim q
    | brk => exact False.elim q
    | cont => exact False.elim q
end
end Cl
set_option maxHeartbeats 4000000
namespace Cl
open PySem PySem.Spec PyProof.Rows L2 StX ClX
structure OAt (X : Cx) (pins : List (Addr × Obj)) (σ : Sg) (W : Wd) (st : ST) (H : Hp) (G : Gd) (ys : List PV) (st' : ST) (O : OD) (W' : Wd) (H' : Hp) (s' : Shared) : Prop where
  d : ODs O ys
  sv : Serves O.Z X
  eG : O.Z.G = G
  room : Room (O.Z.k + 4) X.A
  inv : Inv X (pins ++ O.pins) σ H' s'
  r : R G W' st' σ H'
  step : Step (own W st σ) W H (own W' st' σ) W' H'
  at_ : ODAt O W'.F H' s'
  sep : ∀ p ∈ X.pn ++ pins, ∀ q ∈ O.pins, p.1 ≠ q.1
  own : O.own = []
  strict : ∀ h : Heap, h.get? O.a = some O.go → h.IsGen O.a O.Z.g
structure YEJ (G : Gd) (X : Cx) (e : Expr) (f : Cm (List PV)) : Prop where
  run : ∀ (pins : List (Addr × Obj)) (s : Shared) (σ : Sg) (H : Hp) (W : Wd) (st : ST) (ys : List PV) (st' : ST), Inv X pins σ H s → R G W st σ H → f st = .ok ys st' →
    wpAny (model X.prog X.w) X.A (eval e X.env) (fun u s' => ∃ O W' H', u = .ref O.a ∧ OAt X pins σ W st H G ys st' O W' H' s') X.xe s
section
variable {G : Gd} {X : Cx} {Wx : WX} {k n m : Nat} {f : Addr} {N ks : List PySem.Str} {pl : Plan} {F : Fy} {x nm : PySem.Str} {p pos : Pos} {e : Expr} {es : List Expr} {kws : List Keyword} {fs fk : Cm (List SV)} {fi : Cm (List PV)}
def cGenK (n m : Nat) (pl : Plan) (F : Fy) (fs fk : Cm (List SV)) : Cm (List PV) := fun st => (fs st).bind fun xs st1 => (fk st1).bind fun zs st2 => if xs.length = n ∧ zs.length = m then (match mkArgs st2 (pickS pl (xs ++ zs)) with
  | some (as, []) => (match F as with
    | some ys => .ok ys st2
    | none => .stuck)
  | _ => .stuck) else .stuck
end
section
variable {st : ST}
@[simp] theorem ev_cGenK {n m : Nat} {pl : Plan} {F : Fy} {fs fk : Cm (List SV)} : cGenK n m pl F fs fk st = (fs st).bind fun xs st1 => (fk st1).bind fun zs st2 => if xs.length = n ∧ zs.length = m then (match mkArgs st2 (pickS pl (xs ++ zs)) with
  | some (as, []) => (match F as with
    | some ys => .ok ys st2
    | none => .stuck)
  | _ => .stuck) else .stuck := rfl
@[simp] theorem ev_gPre {g : Sm} {f : Cm (List PV)} : gPre g f st = match g st with
  | .nx st1 => f st1
  | _ => .stuck := rfl
end
end Cl
set_option maxHeartbeats 4000000
set_option maxHeartbeats 4000000
set_option maxHeartbeats 4000000
set_option maxHeartbeats 4000000
namespace Cl
open PySem PySem.Spec PyProof.Rows L2 StX ClX
structure PAJ (X : Cx) (es : List Expr) (t : TA) : Prop where
  run : ∀ (pos : Pos) (pins : List (Addr × Obj)) (s : Shared) (σ : Sg) (H : Hp) (Q : List V → Hp → Prop), Inv X pins σ H s → t σ H Q → WJ (model X.prog X.w) X.A (spliced (backTo pos (starEach es X.env))) (AP X pins σ Q) X.xe s
structure CAJ (G : Gd) (X : Cx) (Wx : WX) (es : List Expr) (f : Cm (List SV)) : Prop where
  pa : PAJ X es (tL G Wx f)
section
variable {G : Gd} {X : Cx} {Wx : WX} {e a b : Expr} {es : List Expr} {fe fa fb : Cm SV} {fs fr : Cm (List SV)} {pos p : Pos} {tx ty : TE} {ta : TA} {x : PySem.Str} {f : Addr} {g : PV → PV → Option PV}
theorem CA.j (h : CA G X Wx es fs) : CAJ G X Wx es fs := ⟨⟨fun ps pn s σ H Q I q => wj_of (h.pa.run ps pn s σ H Q I q)⟩⟩
theorem RunOk.j {Fc : List SV → Cm SV} (h : RunOk G X Wx f Fc) : RunOkJ G X Wx f Fc := fun pn s σ H Q us vs xs W st I r hs rv o => wj_of (h pn s σ H Q us vs xs W st I r hs rv o)
def RunOkMJ (G : Gd) (X : Cx) (Wx : WX) (a : Addr) (Fc : List SV → Cm MC) : Prop :=
  ∀ (pn : List (Addr × Obj)) (s : Shared) (σ : Sg) (H : Hp) (Q : VK) (us : List Value) (vs : List V) (xs : List SV) (W : Wd) (st : ST), Inv X pn σ H s → R G W st σ H → RepSs G W σ xs vs → Vals vs us → OutM G Wx W st σ H (Fc xs st) Q →
    WJ (model X.prog X.w) X.A (call (.ref a) us) (EP X pn σ Q) X.xe s
theorem RunOkM.j {Fc : List SV → Cm MC} (h : RunOkM G X Wx f Fc) : RunOkMJ G X Wx f Fc := fun pn s σ H Q us vs xs W st I r hs rv o => wj_of (h pn s σ H Q us vs xs W st I r hs rv o)
theorem RunOkMJ.of {k : Nat} {sp : Sp} {Fc : List SV → Cm MC} (hf : FnPJ X.prog X.w X.K X.mg X.base k f sp) (p : PromM G Wx sp Fc) (room : Room k X.A) (gd : X.A.guards = some []) (tk : Takes X Wx) : RunOkMJ G X Wx f Fc := by
  intro pn s σ H Q us vs xs W st I r hs rv o
  refine wj_call (codeJ_mono (hf X.A X.stack s H us vs Q _ room gd I.env0 rv (p W st σ H Q xs vs r hs o)) fun z s' q => ?_)
  cases z with
  | error er => exact tk er s' (XE.of_call I (fun cls d H' w => w) q)
  | ok fl =>
    cases fl with
    | ret u => exact I.after q
    | next => exact False.elim q
    | brk => exact False.elim q
    | cont => exact False.elim q
theorem keepT {T : String} (h : Heap) : ∃ k, (k = Keeper.frame ∨ k = Keeper.machine ∨ k = Keeper.boundFrame) ∧ PySem.W.Looks (model X.prog X.w) h (keeperOf (.type T)) k := ⟨.machine, .inr (.inl rfl), PySem.W.Looks.of_pure rfl⟩
variable {id T : String} {gl : List PV → Option PV} {gm : List PV → Option MC}
end
end Cl
set_option maxHeartbeats 4000000
namespace Cl
open PySem PySem.Spec PyProof.Rows L2 StX ClX
theorem ODAt.later {G : Gd} {O : OD} {W W' : Wd} {st st' : ST} {σ σ' : Sg} {H H' : Hp} {s s' : Shared} (a : ODAt O W.F H s) (ha : asleep O.gs = true) (hi : ∀ D, O.inn = some D → asleep D.gs = true ∧ D.gk = []) (dis : ∀ b ∈ O.own, b ∉ own W st σ) (stp : Step (own W st σ) W H (own W' st' σ') W' H')
    (r' : R G W' st' σ' H') (pins' : ∀ p ∈ O.pins, s'.heap.get? p.1 = some p.2 ∧ H' p.1 = none) (k : Kept s s') : ODAt O W'.F H' s' ∧ ∀ b ∈ O.own, b ∉ own W' st' σ' := by
  have there : ∀ b ∈ O.own, ∃ u, H b = some u := fun b hb => by
    rcases List.mem_append.mp hb with z | z
    · exact a.r.there b z
    · cases e : O.inn with
      | none => rw [e] at z; cases z
      | some D => rw [e] at z; exact (a.inn D e).1.r.there b z
  refine ⟨⟨pins', k _ _ a.gen ha, ?_, a.le.trans stp.f, fun D e => ?_⟩, fun b hb hb2 => ?_⟩
  · refine a.r.grow' (F' := W'.F) stp.f (fun b u e hb => stp.keep b u e (dis b (List.mem_append_left _ hb))) r'.le fun b hb => ?_
    rcases stp.nf b with z | z | z
    · rw [z]; exact a.r.fr b hb
    · exact absurd hb (a.r.notownM z)
    · exact absurd z (dis b (List.mem_append_left _ hb))
  · obtain ⟨b1, b2⟩ := a.inn D e
    obtain ⟨h1, h2⟩ := hi D e
    have dD : ∀ b ∈ D.own, b ∉ own W st σ := fun b hb => dis b (List.mem_append_right _ (by rw [e]; exact hb))
    refine ⟨⟨fun q hq => pins' q (List.mem_cons_of_mem _ (List.mem_cons_of_mem _ (by rw [e]; exact hq))), fun q hq => ?_, ?_, b1.le.trans stp.f⟩, b2⟩
    · rcases List.mem_cons.mp hq with z | z
      · rw [z]; exact k _ _ (b1.gens _ (List.mem_cons_self ..)) h1
      · rw [h2] at z; cases z
    · refine b1.r.grow' (F' := W'.F) stp.f (fun b u e hb => stp.keep b u e (dD b hb)) r'.le fun b hb => ?_
      rcases stp.nf b with z | z | z
      · rw [z]; exact b1.r.fr b hb
      · exact absurd hb (b1.r.notownM z)
      · exact absurd z (dD b hb)
  · obtain ⟨u, hu⟩ := there b hb
    rcases stp.no b hb2 with z | z
    · exact dis b hb z
    · rw [hu] at z; cases z
def noJ (g : Sm) : Sm := fun st => match g st with
  | .nx st' => .nx st'
  | .ct st' => .ct st'
  | _ => .stuck
def sForYJ (fi : Cm (List PV)) (tf : TgF) (g : Sm) : Sm := fun st => match fi st with
  | .ok ys st1 => forL (forB tf (noJ g)) ys st1
  | _ => .stuck
section
variable {G : Gd} {X : Cx} {Wx : WX} {e : Expr} {pos : Pos}
@[simp] theorem ev_sForYJ {fi : Cm (List PV)} {tg : TgF} {g : Sm} {st : ST} : sForYJ fi tg g st = match fi st with
  | .ok ys st1 => forL (forB tg (noJ g)) ys st1
  | _ => .stuck := rfl
end
end Cl
set_option maxHeartbeats 4000000
set_option maxHeartbeats 4000000
namespace Cl
open PySem PySem.Spec PyProof.Rows L2 StX ClX
abbrev lexP (p q : Int × Int) : Bool := SrtO.lexB p q
def insP (p : Int × Int) : List (Int × Int) → List (Int × Int)
  | [] => [p]
  | q :: l => if lexP q p = true then q :: insP p l else p :: q :: l
def sortP : List (Int × Int) → List (Int × Int)
  | [] => []
  | p :: l => insP p (sortP l)
section
variable {G : Gd} {X : Cx} {Wx : WX} {e : Expr} {fe : Cm SV} {p apos cpos pos : Pos} {W : Wd} {st : ST} {σ : Sg} {H : Hp}
def pairsI : List (PV × PV) → Option (List (Int × Int))
  | [] => some []
  | (.int a, .int b) :: r => (pairsI r).map fun l => (a, b) :: l
  | _ => none
abbrev tP (p : Int × Int) : PV := .tup .p [.int p.1, .int p.2]
theorem R.beside {as : List Addr} {H2 : Hp} (r : R G W st σ H) (ext : ∀ b o, H b = some o → H2 b = some o) (fr : ∀ a ∈ as, H a = none) :
    R G ⟨fun b => if b ∈ as then H2 b else W.F b, W.A⟩ st σ H2 ∧ Step (own W st σ) W H (own ⟨fun b => if b ∈ as then H2 b else W.F b, W.A⟩ st σ) ⟨fun b => if b ∈ as then H2 b else W.F b, W.A⟩ H2 := by
  have f : Same W.F (fun b => if b ∈ as then H2 b else W.F b) := fun b o e => by
    show (if b ∈ as then H2 b else W.F b) = some o
    by_cases hb : b ∈ as
    · have := r.le _ _ e
      rw [fr b hb] at this; cases this
    · rw [if_neg hb]; exact e
  refine ⟨r.grow' f (fun b u e _ => ext b u e) (fun b o e => ?_) (fun b hb => ?_), f, rfl, fun b => ?_, fun b hb => .inl hb, fun b u e _ => ext b u e⟩
  · have e : (if b ∈ as then H2 b else W.F b) = some o := e
    by_cases hb : b ∈ as
    · rw [if_pos hb] at e; exact e
    · rw [if_neg hb] at e; exact ext _ _ (r.le _ _ e)
  · show (if b ∈ as then H2 b else W.F b) = none
    obtain ⟨u, hu⟩ := r.there b hb
    rw [if_neg fun z => by rw [fr b z] at hu; cases hu]
    exact r.fr b hb
  · by_cases hb : b ∈ as
    · exact .inr (.inl (by rw [fr b hb]; trivial))
    · exact .inl (if_neg hb)
def mSortIt (fe : Cm SV) : Cm MC := fun st => (fe st).bind fun x st1 => match view st1 x with
  | some (.dct kvs) => match pairsI kvs with
    | some ps => .ok (.lst ((sortP ps).map tP)) st1
    | none => .stuck
  | _ => .stuck
@[simp] theorem ev_mSortIt {st : ST} : mSortIt fe st = (fe st).bind fun x st1 => match view st1 x with
  | some (.dct kvs) => match pairsI kvs with
    | some ps => .ok (.lst ((sortP ps).map tP)) st1
    | none => .stuck
  | _ => .stuck := rfl
end
end Cl
set_option maxHeartbeats 4000000
namespace Cl
open PySem PySem.Spec PyProof.Rows L2 StX ClX
def selG {α : Type} (is : List (Nat ⊕ Nat)) (xs ms : List α) : List α := is.filterMap fun i => match i with
  | .inl i => xs[i]?
  | .inr j => ms[j]?
theorem selG_rel {is : List (Nat ⊕ Nat)} {xs ms : List V} {us ns : List Value} (h1 : Vals xs us) (h2 : Vals ms ns) : Vals (selG is xs ms) (selG is us ns) := by
  have get : ∀ {xs : List V} {us : List Value} (h : Vals xs us) (i : Nat), (xs[i]? = none ∧ us[i]? = none) ∨ ∃ v u, xs[i]? = some v ∧ us[i]? = some u ∧ RelV v u := by
    intro xs us h
    induction h with
    | nil => intro i; exact .inl ⟨rfl, rfl⟩
    | cons r l ih =>
      intro i
      cases i with
      | zero => exact .inr ⟨_, _, rfl, rfl, r⟩
      | succ i =>
        rcases ih i with ⟨a, b⟩ | ⟨v, u, a, b, c⟩
        · exact .inl ⟨a, b⟩
        · exact .inr ⟨v, u, a, b, c⟩
  induction is with
  | nil => exact .nil
  | cons i is ih =>
    unfold selG at ih ⊢
    cases i with
    | inl i =>
      rcases get h1 i with ⟨a, b⟩ | ⟨v, u, a, b, c⟩
      · rw [List.filterMap_cons_none (by exact a), List.filterMap_cons_none (by exact b)]; exact ih
      · rw [List.filterMap_cons_some (by exact a), List.filterMap_cons_some (by exact b)]; exact .cons c ih
    | inr j =>
      rcases get h2 j with ⟨a, b⟩ | ⟨v, u, a, b, c⟩
      · rw [List.filterMap_cons_none (by exact a), List.filterMap_cons_none (by exact b)]; exact ih
      · rw [List.filterMap_cons_some (by exact a), List.filterMap_cons_some (by exact b)]; exact .cons c ih
theorem selG_len {α β : Type} {xs ms : List α} {ys ns : List β} (h : xs.length = ys.length) (h2 : ms.length = ns.length) {is : List (Nat ⊕ Nat)} : (selG is xs ms).length = (selG is ys ns).length := by
  have get : ∀ {xs : List α} {ys : List β} (h : xs.length = ys.length) (i : Nat), (xs[i]? = none ∧ ys[i]? = none) ∨ ∃ v u, xs[i]? = some v ∧ ys[i]? = some u := by
    intro xs ys h i
    by_cases hi : i < xs.length
    · exact .inr ⟨_, _, List.getElem?_eq_getElem hi, List.getElem?_eq_getElem (h ▸ hi)⟩
    · exact .inl ⟨List.getElem?_eq_none_iff.mpr (by omega), List.getElem?_eq_none_iff.mpr (by omega)⟩
  induction is with
  | nil => rfl
  | cons i is ih =>
    unfold selG at ih ⊢
    cases i with
    | inl i =>
      rcases get h i with ⟨a, b⟩ | ⟨v, u, a, b⟩
      · rw [List.filterMap_cons_none (by exact a), List.filterMap_cons_none (by exact b)]; exact ih
      · rw [List.filterMap_cons_some (by exact a), List.filterMap_cons_some (by exact b), List.length_cons, List.length_cons, ih]
    | inr j =>
      rcases get h2 j with ⟨a, b⟩ | ⟨v, u, a, b⟩
      · rw [List.filterMap_cons_none (by exact a), List.filterMap_cons_none (by exact b)]; exact ih
      · rw [List.filterMap_cons_some (by exact a), List.filterMap_cons_some (by exact b), List.length_cons, List.length_cons, ih]
theorem bdP0 {K : PySem.W.Frag} {x qual : PySem.Str} {params : Arguments} {body : List Stmt} {scope : Scope} {f : Addr} {fd : FuncData} {ps ks : List PySem.Str} {n : Nat} {pl : Plan} (is : List (Nat ⊕ Nat)) (F : FunD K x qual params body scope [] [] f fd)
    (hlen : (selG is (List.replicate (n + ks.length) V.non) []).length = ps.length)
    (h : ∀ (kV doc pm : Value) (an : Option Addr) (cdv ct : Value) (us ws : List Value), us.length = n → ws.length = ks.length → bindArgs (PySem.W.fnOf x qual params body scope .none kV doc pm an cdv ct) ⟨us, ks.zip ws⟩ = pure (ps.zip (selG is (us ++ ws) [])))
    (hsel : ∀ vs : List V, vs.length = n + ks.length → pickV pl vs = selG is vs []) : Bd K fd ps n ks pl := by
  obtain ⟨oc, od, dV, kV, doc, pm, an, cdv, ct, osl, rfl, lk, hcd, hD, hK⟩ := F.ex
  rcases hD with ⟨_, rfl⟩ | ⟨e, _⟩
  · intro s us ws kin lu lw
    have lx : (us ++ ws).length = n + ks.length := by rw [List.length_append, lu, lw]
    refine ⟨selG is (us ++ ws) [], .of_eq (h kV doc pm an cdv ct us ws lu lw), ?_, fun vs r => ?_⟩
    · rw [← hlen]; exact selG_len (ms := ([] : List Value)) (ns := ([] : List V)) (lx.trans List.length_replicate.symm) rfl
    · rw [hsel vs (r.length.trans lx)]; exact selG_rel r .nil
  · exact absurd rfl e
end Cl
set_option maxHeartbeats 4000000
set_option maxHeartbeats 4000000
set_option maxHeartbeats 4000000
namespace Cl
open PySem PySem.Spec PyProof.Rows L2 StX ClX
def pOr (f g : PV → PV → Option PV) : PV → PV → Option PV := fun x y => match f x y with
  | some z => some z
  | none => g x y
@[simp] theorem ev_pOr {f g : PV → PV → Option PV} {x y : PV} : pOr f g x y = match f x y with
  | some z => some z
  | none => g x y := rfl
end Cl
set_option maxHeartbeats 4000000
namespace Cl
open PySem PySem.Spec PyProof.Rows L2 StX ClX
theorem sg_both {M : Model} {A : Around} {Φ Ψ : End → Shared → Prop} {c : Code} {t : Sem PySem.Fin} {fs : List Frame} {s : Shared} (h1 : SegG M A Φ c t fs s) (h2 : SegG M A Ψ c t fs s) : SegG M A (fun e s' => Φ e s' ∧ Ψ e s') c t fs s := fun Γ p a b => by
  obtain ⟨e, s', hr, q⟩ := h1 Γ p a b
  obtain ⟨e2, s2, hr2, q2⟩ := h2 Γ p a b
  obtain ⟨q3, q4⟩ := runs_det hr hr2
  subst q3 q4
  exact ⟨e, s', hr, q, q2⟩
end Cl
set_option maxHeartbeats 4000000
namespace Cl
open PySem PySem.Spec PyProof.Rows L2 StX ClX
def First (D : Doze) (ys : List PV) : Prop := ∀ (y : PV) (ys1 : List PV), ys = y :: ys1 → ∀ (b : Bs) (W : Wd) (H : Hp) (s : Shared), Live D.Z b D.hold D.gk D.st W D.σ H s → Same D.F W.F → GoesG (model D.Z.P D.Z.w) b.A (fun _ s' => s'.gens = s.gens) D.gs s
def FnYF (G : Gd) (P : Program) (w : World) (K : PySem.W.Frag) (mg : PySem.Str → Option Value) (base : Heap) (k : Nat) (f : Addr) (n : Nat) (ks : List PySem.Str) (N : List PySem.Str) (pl : Plan) (F : Fy) : Prop :=
  ∀ (A : Around) (outer : List Env) (s : Shared) (H : Hp) (us ws : List Value) (vs : List V) (W : Wd) (as : List Arg) (ys : List PV), Room k A → Env0 P w K mg base A outer s H → us.length = n → ws.length = ks.length → Vals vs (us ++ ws) →
    as.length = (pickV pl vs).length → R G W (enter N.length as) (start N (pickV pl vs)) H → conts as = [] → F as = some ys →
    codeAny (model P w) A (.call (.ref f) ⟨us, ks.zip ws⟩) (fun r s' => ∃ D : Doze, r = .ok (.ret (.ref D.a)) ∧ Made G P w K mg base k outer H s W.F ys D s' ∧ (∀ (i : Nat) (y : GenState), s.gens[i]? = some y → s'.gens[i]? = some y) ∧ First D ys ∧ ∃ c, D.gs = .fresh c) s
section
variable {M : Model} {A : Around} {α : Type} {s : Shared}
theorem go_both {Φ Ψ : End → Shared → Prop} {gs : GenState} (h1 : GoesG M A Φ gs s) (h2 : GoesG M A Ψ gs s) : GoesG M A (fun e s' => Φ e s' ∧ Ψ e s') gs s := by
  cases gs with
  | fresh c => exact sg_both h1 h2
  | suspended k l c p fs cl => exact sg_both h1 h2
  | running => exact h1.elim
  | finished => exact h1.elim
def numbBut (s : Shared) (g : Nat) (x : GenState) : Shared := (numbAll s).setGen g x
def slpBut (s : Shared) (g : Nat) : Nat → Prop := fun i => i ≠ g ∧ slp s i
theorem sim_but {g : Nat} {x : GenState} (hg : s.gens[g]? = some x) (ok : okG x) : Sim (slpBut s g) (numbBut s g x) s := by
  have z := sim_all (s := s)
  have lt : g < s.gens.size := (Array.getElem?_eq_some_iff.mp hg).1
  have ne : ∀ {i}, i ≠ g → (numbBut s g x).gens[i]? = (numbAll s).gens[i]? := fun {i} h => setGen_other h
  have at_ : (numbBut s g x).gens[g]? = some x := by
    refine setGen_at ?_
    show g < (s.gens.map numb).size
    rw [Array.size_map]; exact lt
  refine ⟨rfl, rfl, rfl, rfl, ?_, fun i ⟨h1, h2⟩ => ?_, fun i hi => ?_, fun i y hi e => ?_⟩
  · show s.gens.size = ((s.gens.map numb).setIfInBounds g x).size
    rw [Array.size_setIfInBounds, Array.size_map]
  · obtain ⟨y, e1, e2, e3⟩ := z.prot i h2
    exact ⟨y, e1, by rw [ne h1]; exact e2, e3⟩
  · by_cases h : i = g
    · rw [h, at_]; exact hg
    · rw [ne h]
      exact z.rest i fun q => hi ⟨h, q⟩
  · by_cases h : i = g
    · rw [h, at_] at e
      cases e; exact ok
    · rw [ne h] at e
      exact z.ok i y (fun q => hi ⟨h, q⟩) e
theorem wpAny_but {t : Sem α} {Q : α → Shared → Prop} {E : Value → Shared → Prop} {g : Nat} {x : GenState} (hg : s.gens[g]? = some x) (ok : okG x) (h : wpAny M A t Q E (numbBut s g x)) :
    wpAny M A t (fun a s' => ∃ s0, Sim (slpBut s g) s0 s' ∧ KeptAt (slpBut s g) s s' ∧ Q a s0) (fun e s' => ∃ s0, Sim (slpBut s g) s0 s' ∧ KeptAt (slpBut s g) s s' ∧ E e s0) s := fun Γ p hΓ =>
  wp_sim t (sim_but hg ok) KeptAt.refl (h Γ p hΓ)
theorem numbBut_bare {g : Nat} {x : GenState} (hg : s.gens[g]? = some x) (h : AllBare s.gens) : AllBare (numbBut s g x).gens := by
  exact allBare_setGen (numbAll_bare h) (h x (Array.mem_of_getElem? hg))
end
theorem next_dozeG {X : Cx} {T : (Option Value → Shared → Prop) → Prop} {pins fx : List (Addr × Obj)} {σc : Sg} {H : Hp} {s : Shared} {W : Wd} {stc : ST} {D : Doze} {ys : List PV} (d : Dozes D ys) (sv : ServesF D.Z X fx) (hfx : ∀ p ∈ fx, s.heap.get? p.1 = some p.2 ∧ H p.1 = none ∧ p.1 ∉ frs X.stack ∧ (∀ v, p.2.data ≠ .cell v) ∧ ∀ q ∈ D.pins, p.1 ≠ q.1) (I : Inv X (pins ++ D.pins) σc H s) (rc : R D.Z.G W stc σc H) (at_ : DozeAt D W.F H s)
    (sepP : ∀ p ∈ X.pn ++ pins, ∀ q ∈ D.pins, p.1 ≠ q.1) (dis : ∀ b ∈ D.own, b ∉ own W stc σc) (room : Room (D.Z.k + 2) X.A) (gd : X.A.guards = some [])
    (hF : ∀ (b : Bs) (W : Wd) (H : Hp) (s : Shared), Live D.Z b D.hold D.gk D.st W D.σ H s → Same D.F W.F → GoesG (model D.Z.P D.Z.w) b.A (fun _ s' => s'.gens = s.gens) D.gs s)
    (NX : ∀ {g : Nat} {gs : GenState} {Φ : End → Shared → Prop} {Q : Option Value → Shared → Prop}, X.A.handled = none → s.heap.NoLimit → X.A.depth < recursionLimit → GenAt s.heap D.a g → s.gens[g]? = some gs → GoesG (model X.prog X.w) X.A.in1 Φ gs (s.setGen g .running) →
      (∀ e s₁, Φ e s₁ → (e = .ret (.ok (.ret .none)) ∧ ∀ h', (∀ b o, s₁.heap.get? b = some o → h'.get? b = some o) → Q none { s₁.setGen g .finished with heap := h' }) ∨
        ∃ v l k c p fs, e = .susp v false l k c p fs ∧ fs.any Frame.guarded = false ∧ Q (some v) (s₁.setGen g (.suspended k l c p fs false))) → T Q) :
    T (fun r s' => NextQ X pins σc D W stc H D.Z.G ys r s' ∧ ∀ i, i ≠ D.Z.g → s'.gens[i]? = s.gens[i]?) := by
  have hg : s.gens[D.Z.g]? = some D.gs := at_.gens (D.Z.g, D.gs) (List.mem_cons_self ..)
  have hgl : D.Z.g < s.gens.size := (Array.getElem?_eq_some_iff.mp hg).1
  have pin : ∀ p ∈ D.pins, s.heap.get? p.1 = some p.2 ∧ H p.1 = none ∧ p.1 ≠ X.env.locals ∧ p.1 ∉ X.fs ∧ ∀ v, p.2.data ≠ .cell v := fun p hp => I.pin p (List.mem_append_right _ (List.mem_append_right _ hp))
  have nfr : ∀ {a : Addr}, a ≠ X.env.locals → a ∉ X.fs → a ∉ frs X.stack := fun {a} h1 h2 h => by
    rcases List.mem_cons.mp (I.stkSub a h) with z | z
    · exact h1 z
    · exact h2 z
  have hb : AllBare (s.setGen D.Z.g .running).gens := allBare_setGen I.bare rfl
  have Ir : Inv X (pins ++ [(D.a, D.go)]) σc H (s.setGen D.Z.g .running) := inv_regen (I.pins_of fun p hp => by
    rcases List.mem_append.mp hp with z | z
    · exact I.pin p (List.mem_append_right _ (List.mem_append_left _ z))
    · rw [List.mem_singleton.mp z]; exact pin _ (List.mem_cons_self ..)) rfl rfl hb
  have e0 : Env0 D.Z.P D.Z.w D.Z.K D.Z.mg D.Z.base X.A.in1 D.Z.outer (s.setGen D.Z.g .running) H := by
    rw [sv.prog, sv.w, sv.K, sv.mg, sv.base, sv.outer]
    have z := Ir.env0
    exact ⟨z.frames, z.mod, z.bs, z.bsz, z.funs, z.frf, z.hok, z.bare⟩
  have rm : Room D.Z.k (X.A.in1.deeper D.Z.env) := (Room.in1 (k := D.Z.k + 1) room).deeper _
  have hL := pin (D.Z.L, D.oL) (List.mem_cons_of_mem _ (List.mem_cons_self ..))
  have hszL : D.Z.L ≤ s.heap.objs.size := Nat.le_of_lt (Heap.lt_size hL.1)
  have pinH : ∀ p ∈ D.hold ++ ((X.pn ++ (pins ++ [(D.a, D.go)])) ++ fx), (s.setGen D.Z.g .running).heap.get? p.1 = some p.2 ∧ H p.1 = none ∧ p.1 ≠ D.Z.L ∧ p.1 ∉ frs D.Z.outer ∧ ∀ v, p.2.data ≠ .cell v := fun p hp => by
    rw [sv.outer]
    rcases List.mem_append.mp hp with z | z
    · obtain ⟨q1, q2, q3, q4, q5⟩ := pin p (List.mem_cons_of_mem _ (List.mem_cons_of_mem _ z))
      exact ⟨q1, q2, (d.hL p z).1, nfr q3 q4, q5⟩
    rcases List.mem_append.mp z with z | z
    · obtain ⟨q1, q2, q3, q4, q5⟩ := Ir.pin p z
      refine ⟨q1, q2, ?_, nfr q3 q4, q5⟩
      rw [← List.append_assoc] at z
      rcases List.mem_append.mp z with z | z
      · exact sepP p z (D.Z.L, D.oL) (List.mem_cons_of_mem _ (List.mem_cons_self ..))
      · rw [List.mem_singleton.mp z]; exact d.aL
    · obtain ⟨q1, q2, q3, q4, q5⟩ := hfx p z
      exact ⟨q1, q2, q5 (D.Z.L, D.oL) (List.mem_cons_of_mem _ (List.mem_cons_self ..)), q3, q4⟩
  have live := wake (ff := ((X.pn ++ (pins ++ [(D.a, D.go)])) ++ fx)) (gk := D.gk) d.ok e0 rm room.hd gd hL.1 hL.2.1 d.nap pinH at_.r (by rw [GenW.setGen_size]; exact hgl)
    (fun q hq => ⟨by rw [setGen_other (d.gkn q hq).1]; exact at_.gens q (List.mem_cons_of_mem _ hq), d.gkn q hq⟩) (fun p hp q hq => by
      rcases List.mem_append.mp hq with hq | hq
      · rw [← List.append_assoc] at hq
        rcases List.mem_append.mp hq with z | z
        · exact (sepP q z p (List.mem_cons_of_mem _ (List.mem_cons_of_mem _ hp))).symm
        · rw [List.mem_singleton.mp z]; exact (d.hL p hp).2
      · exact ((hfx q hq).2.2.2.2 p (List.mem_cons_of_mem _ (List.mem_cons_of_mem _ hp))).symm) d.gt.2
  have goes := go_both (d.goes _ _ _ _ live at_.le) (hF _ _ _ _ live at_.le)
  rw [sv.prog, sv.w] at goes
  have szr : D.Z.L ≤ (s.setGen D.Z.g .running).heap.objs.size := hszL
  refine NX (Φ := fun e s' => Want D.Z ys _ e s' ∧ s'.gens = (s.setGen D.Z.g .running).gens) room.hd I.nolimit (by have := room.dp; omega) (d.isg _ (pin _ (List.mem_cons_self ..)).1) hg goes fun e s₁ ⟨he, hge⟩ => ?_
  have oth : ∀ {x : GenState} {i : Nat}, i ≠ D.Z.g → (s₁.setGen D.Z.g x).gens[i]? = s.gens[i]? := fun {x i} h => by
    rw [setGen_other h, hge, setGen_other h]
  have came : ∀ {hold' gk' st' W' σ' H'}, Live D.Z (wakeB D.Z X.A.in1 (s.setGen D.Z.g .running) H ((X.pn ++ (pins ++ [(D.a, D.go)])) ++ fx) ⟨W.F, []⟩ (own ⟨W.F, []⟩ D.st D.σ)) hold' gk' st' W' σ' H' s₁ →
      Inv X (pins ++ [(D.a, D.go)]) σc H' s₁ ∧ R D.Z.G ⟨W'.F, W.A⟩ stc σc H' ∧ Step (own W stc σc ++ D.own) W H (own ⟨W'.F, W.A⟩ stc σc ++ own W' st' σ') ⟨W'.F, W.A⟩ H' ∧ (∀ c ∈ own W' st' σ', c ∉ own W stc σc) ∧ W'.A = [] := fun {hold' gk' st' W' σ' H'} hl => by
    have sp := hl.step
    have sp : Step (own ⟨W.F, []⟩ D.st D.σ) ⟨W.F, []⟩ H (own W' st' σ') W' H' := sp
    refine ⟨backFo d.ok Ir sv.outer sv.prog sv.w sv.s0 sv.loc (fun p hp => ⟨(hfx p hp).1, (hfx p hp).2.1⟩) sv.cells szr (own_mut at_.r) hl, ?_, ?_, fun c hc hc2 => ?_, sp.a⟩
    · refine rc.grow' sp.f (fun c u q hc => sp.keep c u q fun z => dis c z hc) hl.r.le fun c hc => ?_
      obtain ⟨u, hu⟩ := rc.there c hc
      rcases sp.nf c with z | z | z
      · rw [z]; exact rc.fr c hc
      · exact absurd hc (rc.notownM z)
      · exact absurd hc (dis c z)
    · exact (sp.frameL (q := own W stc σc)).worlds rfl rfl rfl
    · obtain ⟨u, hu⟩ := rc.there c hc2
      rcases sp.no c hc with z | z
      · exact dis c z hc2
      · rw [hu] at z; cases z
  cases ys with
  | nil =>
    obtain ⟨ee, hold', st', W', σ', H', hl⟩ := he
    obtain ⟨c1, c2, c3, c4, c5⟩ := came hl
    refine .inl ⟨ee, fun h' hk => ⟨⟨rfl, ⟨W'.F, W.A⟩, H', ?_, c2, c3.trans (Step.sub fun a ha => List.mem_append_left _ ha)⟩, fun i hi => oth hi⟩⟩
    have c1' : Inv X pins σc H' s₁ := c1.pins_of fun p hp => c1.pin p (List.mem_append_right _ (List.mem_append_left _ hp))
    exact inv_regen (c1'.kept (t' := s₁.toks) hk) rfl rfl (allBare_setGen c1'.bare rfl)
  | cons y ys' =>
    obtain ⟨v, l, k, c, p, fs, hold', st', W', σ', H', x, ee, hfg, hl, rp, rv, cont⟩ := he
    obtain ⟨c1, c2, c3, c4, c5⟩ := came hl
    have eo : own W' st' σ' = own ⟨W'.F, []⟩ st' σ' := by unfold own; rw [c5]
    rw [eo] at c3 c4
    obtain ⟨o', ho', np'⟩ := nap_of d.ok hl
    have eeL := Live.envEq hl.sz
    have jn : ∀ q ∈ hold', s₁.heap.get? q.1 = some q.2 ∧ H' q.1 = none ∧ q.1 ≠ D.Z.L ∧ q.1 ∉ frs D.Z.outer ∧ ∀ v, q.2.data ≠ .cell v := fun q hq => by
      obtain ⟨q1, q2, q3, q4, q5⟩ := hl.inv.pin q (List.mem_append_right _ (List.mem_append_left _ hq))
      rw [eeL] at q3
      exact ⟨q1, q2, q3, q4, q5⟩
    have hLn : H' D.Z.L = none := by
      have := hl.inv.free
      rw [eeL] at this; exact this
    have ffm : ∀ q ∈ X.pn ++ pins, q ∈ ((X.pn ++ (pins ++ [(D.a, D.go)])) ++ fx) := fun q hq => List.mem_append_left _ ((List.mem_append.mp hq).elim (fun z => List.mem_append_left _ z) fun z => List.mem_append_right _ (List.mem_append_left _ z))
    have ffa : (D.a, D.go) ∈ ((X.pn ++ (pins ++ [(D.a, D.go)])) ++ fx) := List.mem_append_left _ (List.mem_append_right _ (List.mem_append_right _ (List.mem_singleton.mpr rfl)))
    have bare' : AllBare (s₁.setGen D.Z.g (.suspended k l c p fs false)).gens := allBare_setGen hl.inv.bare rfl
    have sepN : ∀ q ∈ X.pn ++ pins, ∀ r ∈ ((D.a, D.go) :: (D.Z.L, o') :: hold'), q.1 ≠ r.1 := fun q hq r hr => by
      rcases List.mem_cons.mp hr with z | hr
      · rw [z]; exact sepP q hq (D.a, D.go) (List.mem_cons_self ..)
      · rcases List.mem_cons.mp hr with z | hr
        · rw [z]; exact sepP q hq (D.Z.L, D.oL) (List.mem_cons_of_mem _ (List.mem_cons_self ..))
        · exact (hl.sep r hr q (ffm q hq)).symm
    have locN : X.env.locals ≠ D.Z.L ∧ ∀ q ∈ hold', q.1 ≠ X.env.locals := by
      rcases sv.loc with z | ⟨o, z⟩
      · exact ⟨Nat.ne_of_lt z, fun q hq => Nat.ne_of_gt (Nat.lt_trans z (hl.gt q hq))⟩
      · exact ⟨(hfx _ z).2.2.2.2 (D.Z.L, D.oL) (List.mem_cons_of_mem _ (List.mem_cons_self ..)), fun q hq => hl.sep q hq _ (List.mem_append_right _ z)⟩
    have fsL : ∀ b ∈ X.fs, b < D.Z.L := fun b hb => d.ok.lt b (by rw [sv.outer]; exact frs_stack I b hb)
    refine .inr ⟨v, l, k, c, p, fs, ee, hfg, ⟨v, { D with oL := o', hold := hold', gk := [], gs := .suspended k l c p fs false, st := st', σ := σ', F := W'.F }, ⟨W'.F, W.A⟩, H', x, rfl, rv, rp, ?_, rfl, rfl, rfl, rfl, ?_, c2, c3, ?_, sepN, c4⟩, fun i hi => oth hi⟩
    · refine ⟨d.ok, np', d.isg, d.nc, fun q hq => (jn q hq).2.2.2.2, d.aL, fun q hq => ⟨(jn q hq).2.2.1, hl.sep q hq _ ffa⟩, ⟨d.gt.1, hl.gt⟩, (fun q hq => nomatch hq), rfl, fun b2 W2 H2 s2 l2 sm => cont b2 W2 H2 s2 l2 sm⟩
    · refine inv_regen (c1.pins_of fun q hq => ?_) rfl rfl bare'
      rcases List.mem_append.mp hq with z | z
      · exact c1.pin q (List.mem_append_right _ (List.mem_append_left _ z))
      · rcases List.mem_cons.mp z with z | z
        · rw [z]; exact c1.pin _ (List.mem_append_right _ (List.mem_append_right _ (List.mem_singleton.mpr rfl)))
        · rcases List.mem_cons.mp z with z | z
          · rw [z]
            exact ⟨ho', hLn, Ne.symm locN.1, fun hb => absurd (fsL _ hb) (Nat.lt_irrefl _), np'.nc⟩
          · obtain ⟨q1, q2, q3, q4, q5⟩ := jn q z
            exact ⟨q1, q2, locN.2 q z, fun hb => absurd (Nat.lt_trans (fsL _ hb) (hl.gt q z)) (Nat.lt_irrefl _), q5⟩
    · refine ⟨fun q hq => ?_, fun q hq => ?_, ?_, Same.refl _⟩
      · rcases List.mem_cons.mp hq with z | hq
        · rw [z]
          obtain ⟨q1, q2, _⟩ := c1.pin (D.a, D.go) (List.mem_append_right _ (List.mem_append_right _ (List.mem_singleton.mpr rfl)))
          exact ⟨q1, q2⟩
        · rcases List.mem_cons.mp hq with z | hq
          · rw [z]; exact ⟨ho', hLn⟩
          · exact ⟨(jn q hq).1, (jn q hq).2.1⟩
      · rcases List.mem_cons.mp hq with z | hq
        · rw [z]; exact setGen_at hl.gen
        · cases hq
      · have r' := hl.r
        have : W' = ⟨W'.F, []⟩ := by rw [← c5]
        rw [this] at r'; exact r'
def NextK (X : Cx) (pins : List (Addr × Obj)) (σc : Sg) (D : Doze) (W : Wd) (stc : ST) (H : Hp) (Gg : Gd) (ys : List PV) (s : Shared) (r : Option Value) (s' : Shared) : Prop :=
  NextQ X pins σc D W stc H Gg ys r s' ∧ (∀ x, s'.gens[D.Z.g]? = some x → okG x) ∧ ∀ (i : Nat) (x : GenState), i ≠ D.Z.g → s.gens[i]? = some x → (asleep x = true ∨ (asleep D.gs = false ∧ ys ≠ [])) → s'.gens[i]? = some x
theorem not_but {s : Shared} {g : Nat} : ¬ slpBut s g g := fun h => h.1 rfl
theorem nextK_of {X : Cx} {pins : List (Addr × Obj)} {σc : Sg} {D : Doze} {W : Wd} {stc : ST} {H : Hp} {Gg : Gd} {ys : List PV} {r : Option Value} {s s0 s' : Shared} (z : Sim (slpBut s D.Z.g) s0 s') (kk : KeptAt (slpBut s D.Z.g) s s') (hb : AllBare s.gens)
    (q : NextQ X pins σc D W stc H Gg ys r s0) (hk : asleep D.gs = false → ys ≠ [] → ∀ i, i ≠ D.Z.g → s0.gens[i]? = (numbAll s).gens[i]?) : NextK X pins σc D W stc H Gg ys s r s' := by
  refine ⟨?_, fun x e => ?_, fun i x hi e h => ?_⟩
  · cases ys with
    | nil =>
      obtain ⟨er, W', H', J, r', st'⟩ := q
      exact ⟨er, W', H', inv_regen J z.heap z.os (bare_of_sim z kk hb J.bare), r', st'⟩
    | cons y ys =>
      obtain ⟨v, D', W', H', x, er, rv, rp, d', eZ, ea, ego, as', J, r2, s2, at2, sep2, dis2⟩ := q
      refine ⟨v, D', W', H', x, er, rv, rp, d', eZ, ea, ego, as', inv_regen J z.heap z.os (bare_of_sim z kk hb J.bare), r2, s2, ⟨fun p hp => ?_, fun p hp => ?_, at2.r, at2.le⟩, sep2, dis2⟩
      · rw [z.heap]; exact at2.pins p hp
      · have e := at2.gens p hp
        rcases List.mem_cons.mp hp with k | k
        · rw [k] at e ⊢
          have ne : ¬ slpBut s D.Z.g D'.Z.g := by rw [eZ]; exact not_but
          show s'.gens[D'.Z.g]? = _
          rw [z.rest _ ne]; exact e
        · rw [d'.gk0] at k; cases k
  · rw [z.rest _ not_but] at e
    exact z.ok _ x not_but e
  · by_cases ha : asleep x = true
    · rw [kk i ⟨hi, x, e, ha⟩]; exact e
    · obtain ⟨h1, h2⟩ := h.resolve_left ha
      have ha : asleep x = false := by cases q : asleep x <;> simp_all
      have ne : ¬ slpBut s D.Z.g i := fun ⟨_, y, e2, h3⟩ => by
        rw [e] at e2; cases e2; rw [ha] at h3; cases h3
      rw [z.rest i ne, hk h1 h2 i hi]
      show (s.gens.map numb)[i]? = _
      rw [Array.getElem?_map, e, Option.map_some, numb_awake ha]
theorem step_src {X : Cx} {pins fx : List (Addr × Obj)} {σc : Sg} {H : Hp} {s : Shared} {W : Wd} {stc : ST} {D : Doze} {ys : List PV} (d : Dozes D ys) (ok : okG D.gs) (hF : asleep D.gs = true ∨ First D ys) (sv : ServesF D.Z X fx)
    (hfx : ∀ p ∈ fx, s.heap.get? p.1 = some p.2 ∧ H p.1 = none ∧ p.1 ∉ frs X.stack ∧ (∀ v, p.2.data ≠ .cell v) ∧ ∀ q ∈ D.pins, p.1 ≠ q.1) (I : Inv X (pins ++ D.pins) σc H s) (rc : R D.Z.G W stc σc H) (at_ : DozeAt D W.F H s)
    (sepP : ∀ p ∈ X.pn ++ pins, ∀ q ∈ D.pins, p.1 ≠ q.1) (dis : ∀ b ∈ D.own, b ∉ own W stc σc) (room : Room (D.Z.k + 2) X.A) (gd : X.A.guards = some []) :
    wpAny (model X.prog X.w) X.A (Builtin.SmallTypes.nextOf (.ref D.a)) (fun v s' => NextK X pins σc D W stc H D.Z.G ys s (some v) s') (fun e s' => ∃ ad o, e = .ref ad ∧ s'.heap.get? ad = some o ∧ o.cls = .type "StopIteration" ∧ NextK X pins σc D W stc H D.Z.G ys s none s') s := by
  have hg : s.gens[D.Z.g]? = some D.gs := at_.gens (D.Z.g, D.gs) (List.mem_cons_self ..)
  have lt : D.Z.g < s.gens.size := (Array.getElem?_eq_some_iff.mp hg).1
  have If : Inv X (pins ++ D.pins) σc H (numbBut s D.Z.g D.gs) := inv_regen I rfl rfl (numbBut_bare hg I.bare)
  have atf : DozeAt D W.F H (numbBut s D.Z.g D.gs) := ⟨at_.pins, (fun q hq => by
    rcases List.mem_cons.mp hq with k | k
    · rw [k]
      refine setGen_at ?_
      show D.Z.g < (s.gens.map numb).size
      rw [Array.size_map]; exact lt
    · rw [d.gk0] at k; cases k), at_.r, at_.le⟩
  by_cases hn : asleep D.gs = false ∧ ys ≠ []
  · obtain ⟨h1, h2⟩ := hn
    obtain ⟨y, ys1, ey⟩ := List.exists_cons_of_ne_nil h2
    have hF : First D ys := hF.resolve_left (by rw [h1]; decide)
    have nx := next_dozeG (s := numbBut s D.Z.g D.gs) (T := fun Q => wpAny (model X.prog X.w) X.A (Builtin.SmallTypes.nextOf (.ref D.a)) (fun v s' => Q (some v) s') (fun e s' => ∃ ad o, e = .ref ad ∧ s'.heap.get? ad = some o ∧ o.cls = .type "StopIteration" ∧ Q none s') (numbBut s D.Z.g D.gs))
      d sv hfx If rc atf sepP dis room gd (hF y ys1 ey) fun a1 a2 a3 a4 a5 a6 a7 => nextOf_of (nextS_g a1 a2 a3 a4 a5 a6 a7)
    have key : ∀ {r s0 s'}, Sim (slpBut s D.Z.g) s0 s' → KeptAt (slpBut s D.Z.g) s s' → (NextQ X pins σc D W stc H D.Z.G ys r s0 ∧ ∀ i, i ≠ D.Z.g → s0.gens[i]? = (numbBut s D.Z.g D.gs).gens[i]?) → NextK X pins σc D W stc H D.Z.G ys s r s' := fun z kk q =>
      nextK_of z kk I.bare q.1 fun _ _ i hi => by rw [q.2 i hi]; exact setGen_other hi
    exact wpAny_mono (wpAny_but hg ok nx) (fun v s' ⟨s0, z, kk, q⟩ => key z kk q) fun e s' ⟨s0, z, kk, ad, o, e1, e2, e3, q⟩ => ⟨ad, o, e1, by rw [z.heap]; exact e2, e3, key z kk q⟩
  · have nx := next_dozeT (s := numbBut s D.Z.g D.gs) (T := fun Q => wpAny (model X.prog X.w) X.A (Builtin.SmallTypes.nextOf (.ref D.a)) (fun v s' => Q (some v) s') (fun e s' => ∃ ad o, e = .ref ad ∧ s'.heap.get? ad = some o ∧ o.cls = .type "StopIteration" ∧ Q none s') (numbBut s D.Z.g D.gs))
      d sv hfx If rc atf sepP dis room gd fun a1 a2 a3 a4 a5 a6 a7 => nextOf_of (nextS_g a1 a2 a3 a4 a5 a6 a7)
    have key : ∀ {r s0 s'}, Sim (slpBut s D.Z.g) s0 s' → KeptAt (slpBut s D.Z.g) s s' → NextQ X pins σc D W stc H D.Z.G ys r s0 → NextK X pins σc D W stc H D.Z.G ys s r s' := fun z kk q =>
      nextK_of z kk I.bare q fun a b => absurd ⟨a, b⟩ hn
    exact wpAny_mono (wpAny_but hg ok nx) (fun v s' ⟨s0, z, kk, q⟩ => key z kk q) fun e s' ⟨s0, z, kk, ad, o, e1, e2, e3, q⟩ => ⟨ad, o, e1, by rw [z.heap]; exact e2, e3, key z kk q⟩
end Cl
set_option maxHeartbeats 4000000
namespace Cl
open PySem PySem.Spec PyProof.Rows L2 StX ClX
section
variable {P : Program} {w : World} {A : Around} {E : Value → Shared → Prop} {s : Shared}
theorem zip_next_out {z TI TO T i1 i2 : Addr} {f : Bool} {oT : Obj} {Q : Option Value → Shared → Prop} (hz : IsZipHeld s.heap z TI TO T f) (hT : s.heap.get? T = some oT) (hTI : IsTupOf2 s.heap TI (.ref i1) (.ref i2))
    (n1 : ∀ h1, IsZipHeld h1 z TI TO T true → Heap.SameBut z s.heap h1 →
      wpAny (model P w) A.in1 (Builtin.SmallTypes.nextOf (.ref i1)) (fun x s2 => wpAny (model P w) A.in1 (Builtin.SmallTypes.nextOf (.ref i2)) (fun y s3 => Q (some (.ref s3.heap.objs.size)) { s3 with heap := s3.heap.push { cls := .type "tuple", data := .seq #[x, y] } })
          (fun _ _ => False) s2)
        (fun e s' => ∃ ad o, e = .ref ad ∧ s'.heap.get? ad = some o ∧ o.cls = .type "StopIteration" ∧ Q none s') { s with heap := h1 }) :
    wpAny (model P w) A (pyNext (.ref z)) Q E s := by
  have hTy : s.TypeIs (.ref z) "zip" := ⟨_, hz, rfl⟩
  unfold pyNext
  refine wpAny_bind (wpAny_attempt (wpAny_callSpecial?_slot (name := Str.ofString "__next__") hTy F.slot_zip_next
    (wpAny_call_entry F.slot_zip_next hTy F.entry_zip_next ?_ (F.args_zip_next_1 _))))
  show wpAny _ _ (field (.ref z) 2 >>= _) _ _ _
  refine wpAny_bind (wpAny_field hz rfl (x := .bool false) rfl ?_)
  show wpAny _ _ (field (.ref z) 3 >>= _) _ _ _
  refine wpAny_bind (wpAny_field hz rfl (x := .ref TI) rfl ?_)
  refine wpAny_bind (wpAny_seqItems hTI rfl ?_)
  show wpAny _ _ (Builtin.SmallTypes.ownedTupleIsFree (.ref z) >>= _) _ _ _
  refine wpAny_bind (wpAny_tupleHeld_zip hz hT fun h₁ hz₁ hs₁ => ?_)
  simp only [Bool.false_eq_true, if_false]
  refine wpAny_bind ?_
  rw [← Array.forIn_toList]
  simp only [List.forIn_cons, List.forIn_nil]
  refine wpAny_bind (wpAny_bind (wpAny_holding ?_))
  show wpAny _ _ (Builtin.SmallTypes.nextOf (.ref i1) >>= _) _ _ _
  refine wpAny_bind (wpAny_mono (n1 h₁ hz₁ hs₁) (fun x s2 n2 => wpAny_pure ?_) fun e s' ⟨ad, o, ee, ho, hc, q⟩ => ?_)
  · refine wpAny_pure ?_
    refine wpAny_bind (wpAny_bind (wpAny_holding ?_))
    show wpAny _ _ (Builtin.SmallTypes.nextOf (.ref i2) >>= _) _ _ _
    refine wpAny_bind (wpAny_mono n2 (fun y s3 q => wpAny_pure ?_) fun e s' q => q.elim)
    refine wpAny_pure (wpAny_pure ?_)
    show wpAny _ _ (newTuple [x, y] >>= _) _ _ _
    refine wpAny_bind (wpAny_newTuple ?_)
    exact wpAny_pure ⟨_, rfl, wpAny_pure q⟩
  · subst ee
    refine wpAny_bind (wpAny_isInstance (T := "StopIteration") (b := true) ⟨o, ho, hc⟩ isSubtype_stop ?_)
    exact wpAny_pure q
end
end Cl
set_option maxHeartbeats 4000000
namespace Cl
open PySem PySem.Spec PyProof.Rows L2 StX ClX
theorem inv_re {X : Cx} {pins pins' : List (Addr × Obj)} {σ : Sg} {H : Hp} {s : Shared} (I : Inv X pins σ H s) (h : ∀ p ∈ pins', p ∈ pins) : Inv X pins' σ H s := I.pins_of fun p hp => I.pin p (List.mem_append_right _ (h p hp))
theorem DozeAt.beside {D : Doze} {ys : List PV} {o o' : List Addr} {W W' : Wd} {H H' : Hp} {s s' : Shared} (at_ : DozeAt D W.F H s) (d : Dozes D ys) (dis : ∀ b ∈ D.own, b ∉ o) (stp : Step o W H o' W' H') (le : Same W'.F H')
    (pins' : ∀ p ∈ D.pins, s'.heap.get? p.1 = some p.2 ∧ H' p.1 = none) (g : s'.gens[D.Z.g]? = some D.gs) : DozeAt D W'.F H' s' ∧ ∀ b ∈ D.own, b ∉ o' := by
  have there : ∀ b ∈ D.own, ∃ u, H b = some u := fun b hb => at_.r.there b hb
  refine ⟨⟨pins', fun q hq => ?_, ?_, at_.le.trans stp.f⟩, fun b hb hb2 => ?_⟩
  · rcases List.mem_cons.mp hq with z | z
    · rw [z]; exact g
    · rw [d.gk0] at z; cases z
  · refine at_.r.grow' (F' := W'.F) stp.f (fun b u e hb => stp.keep b u e (dis b hb)) le fun b hb => ?_
    rcases stp.nf b with z | z | z
    · rw [z]; exact at_.r.fr b hb
    · exact absurd hb (at_.r.notownM z)
    · exact absurd z (dis b hb)
  · obtain ⟨u, hu⟩ := there b hb
    rcases stp.no b hb2 with z | z
    · exact dis b hb z
    · rw [hu] at z; cases z
abbrev ZP (z TI TO : Addr) (zo po : Obj) (a1 a2 : Addr) : List (Addr × Obj) := [(z, zo), (TI, pOb (.ref a1) (.ref a2)), (TO, po)]
structure ZZ (X : Cx) (pins : List (Addr × Obj)) (σ : Sg) (G : Gd) (z TI TO : Addr) (zo po : Obj) (D1 D2 : Doze) (ys qs : List PV) (W : Wd) (st : ST) (H : Hp) (s : Shared) : Prop where
  d1 : Dozes D1 ys
  d2 : Dozes D2 qs
  ok1 : okG D1.gs
  ok2 : okG D2.gs
  f1 : asleep D1.gs = true ∨ First D1 ys
  f2 : asleep D2.gs = true ∨ First D2 qs
  at1 : DozeAt D1 W.F H s
  at2 : DozeAt D2 W.F H s
  g1 : D1.Z.G = G
  g2 : D2.Z.G = G
  sv1 : ServesF D1.Z X []
  sv2 : ServesF D2.Z X []
  rm1 : Room (D1.Z.k + 3) X.A
  rm2 : Room (D2.Z.k + 3) X.A
  inv : Inv X (pins ++ (ZP z TI TO zo po D1.a D2.a ++ (D1.pins ++ D2.pins))) σ H s
  r : R G W st σ H
  sepZ : ∀ p ∈ X.pn ++ pins, p.1 ∉ [z, TI, TO]
  sep1 : ∀ p ∈ X.pn ++ pins, ∀ q ∈ D1.pins, p.1 ≠ q.1
  sep2 : ∀ p ∈ X.pn ++ pins, ∀ q ∈ D2.pins, p.1 ≠ q.1
  sepC1 : ∀ q ∈ D1.pins, q.1 ∉ [z, TI, TO]
  sepC2 : ∀ q ∈ D2.pins, q.1 ∉ [z, TI, TO]
  sepD : ∀ p ∈ D1.pins, ∀ q ∈ D2.pins, p.1 ≠ q.1
  dis1 : ∀ b ∈ D1.own, b ∉ own W st σ
  dis2 : ∀ b ∈ D2.own, b ∉ own W st σ
  dis : ∀ b ∈ D2.own, b ∉ D1.own
  gne : D1.Z.g ≠ D2.Z.g
  n1 : TI ≠ z
  n2 : TO ≠ z
  n3 : TI ≠ TO
  nc : (∀ v, zo.data ≠ .cell v) ∧ ∀ v, po.data ≠ .cell v
  cel : ∀ b ∈ [z, TI, TO], (b ∈ X.ex ∨ X.s_0.heap.objs.size ≤ b) ∧ ∀ x c, X.env.cells.lookup x = some c → c ≠ b
section
variable {X : Cx} {pins : List (Addr × Obj)} {σ : Sg} {G : Gd} {z TI TO : Addr} {zo po : Obj} {D1 D2 : Doze} {ys qs : List PV} {W : Wd} {st : ST} {H : Hp} {s : Shared} {y q : PV}
theorem sf_in {Z : GS} (sv : ServesF Z X []) : ServesF Z (inA X X.A.in1) [] := ⟨sv.prog, sv.w, sv.K, sv.mg, sv.base, sv.outer, sv.s0, sv.loc, sv.cells⟩
theorem ZZ.move {zo' po' : Obj} {h' : Heap} (Z : ZZ X pins σ G z TI TO zo po D1 D2 ys qs W st H s) (hk : ∀ c o, c ∉ [z, TI, TO] → s.heap.get? c = some o → h'.get? c = some o) (e1 : h'.get? z = some zo') (e2 : h'.get? TI = some (pOb (.ref D1.a) (.ref D2.a))) (e3 : h'.get? TO = some po')
    (c1 : ∀ v, zo'.data ≠ .cell v) (c3 : ∀ v, po'.data ≠ .cell v) : ZZ X pins σ G z TI TO zo' po' D1 D2 ys qs W st H { s with heap := h' } := by
  have J : Inv X (pins ++ (ZP z TI TO zo' po' D1.a D2.a ++ (D1.pins ++ D2.pins))) σ H { s with heap := h' } := by
    refine pins_move (t' := s.toks) Z.inv (fun c o hc e => hk c o (by simpa using hc) e) (fun p hp z' => ?_) (fun b hb => Z.cel b (by simpa using hb)) fun p hp => ?_
    · have z' : p.1 ∈ [z, TI, TO] := by simpa using z'
      rcases List.mem_append.mp hp with k | k
      · exact Z.sepZ p (List.mem_append_left _ k) z'
      rcases List.mem_append.mp k with k | k
      · exact Z.sepZ p (List.mem_append_right _ k) z'
      rcases List.mem_append.mp k with k | k
      · exact Z.sepC1 p k z'
      · exact Z.sepC2 p k z'
    · rcases List.mem_cons.mp hp with e | hp
      · subst e; exact ⟨by simp, e1, c1⟩
      rcases List.mem_cons.mp hp with e | hp
      · subst e; exact ⟨by simp, e2, fun v q => by cases q⟩
      · rw [List.mem_singleton.mp hp]; exact ⟨by simp, e3, c3⟩
  have pn : ∀ p ∈ D1.pins ++ D2.pins, h'.get? p.1 = some p.2 ∧ H p.1 = none := fun p hp => by
    obtain ⟨q1, q2, _⟩ := J.pin p (List.mem_append_right _ (List.mem_append_right _ (List.mem_append_right _ hp)))
    exact ⟨q1, q2⟩
  exact ⟨Z.d1, Z.d2, Z.ok1, Z.ok2, Z.f1, Z.f2, ⟨fun p hp => pn p (List.mem_append_left _ hp), Z.at1.gens, Z.at1.r, Z.at1.le⟩, ⟨fun p hp => pn p (List.mem_append_right _ hp), Z.at2.gens, Z.at2.r, Z.at2.le⟩, Z.g1, Z.g2, Z.sv1, Z.sv2, Z.rm1, Z.rm2, J, Z.r,
    Z.sepZ, Z.sep1, Z.sep2, Z.sepC1, Z.sepC2, Z.sepD, Z.dis1, Z.dis2, Z.dis, Z.gne, Z.n1, Z.n2, Z.n3, ⟨c1, c3⟩, Z.cel⟩
theorem ZZ.first (Z : ZZ X pins σ G z TI TO zo po D1 D2 ys qs W st H s) (gd : X.A.guards = some []) :
    wpAny (model X.prog X.w) X.A.in1 (Builtin.SmallTypes.nextOf (.ref D1.a)) (fun v s' => NextK (inA X X.A.in1) (pins ++ (ZP z TI TO zo po D1.a D2.a ++ D2.pins)) σ D1 W st H G ys s (some v) s')
      (fun e s' => ∃ ad o, e = .ref ad ∧ s'.heap.get? ad = some o ∧ o.cls = .type "StopIteration" ∧ NextK (inA X X.A.in1) (pins ++ (ZP z TI TO zo po D1.a D2.a ++ D2.pins)) σ D1 W st H G ys s none s') s := by
  have I1 : Inv (inA X X.A.in1) ((pins ++ (ZP z TI TO zo po D1.a D2.a ++ D2.pins)) ++ D1.pins) σ H s := inv_in1 (inv_re Z.inv fun p hp => by
    simp only [List.mem_append] at hp ⊢
    rcases hp with (h | h | h) | h
    · exact .inl h
    · exact .inr (.inl h)
    · exact .inr (.inr (.inr h))
    · exact .inr (.inr (.inl h)))
  have rc := Z.r
  rw [← Z.g1] at rc
  have := step_src (X := inA X X.A.in1) (fx := []) Z.d1 Z.ok1 Z.f1 (sf_in Z.sv1) (fun p hp => absurd hp (by simp)) I1 rc Z.at1 (fun p hp q hq => ?_) Z.dis1 (Room.in1 (k := D1.Z.k + 2) Z.rm1) gd
  · rw [Z.g1] at this; exact this
  · rcases List.mem_append.mp hp with k | k
    · exact Z.sep1 p (List.mem_append_left _ k) q hq
    rcases List.mem_append.mp k with k | k
    · exact Z.sep1 p (List.mem_append_right _ k) q hq
    rcases List.mem_append.mp k with k | k
    · exact fun e => Z.sepC1 q hq (by rw [← e]; simpa using List.mem_map_of_mem (f := (·.1)) k)
    · exact fun e => Z.sepD q hq p k e.symm
theorem ZZ.snd (Z : ZZ X pins σ G z TI TO zo po D1 D2 ys qs W st H s) (gd : X.A.guards = some []) :
    wpAny (model X.prog X.w) X.A.in1 (Builtin.SmallTypes.nextOf (.ref D2.a)) (fun v s' => NextK (inA X X.A.in1) (pins ++ (ZP z TI TO zo po D1.a D2.a ++ D1.pins)) σ D2 W st H G qs s (some v) s')
      (fun e s' => ∃ ad o, e = .ref ad ∧ s'.heap.get? ad = some o ∧ o.cls = .type "StopIteration" ∧ NextK (inA X X.A.in1) (pins ++ (ZP z TI TO zo po D1.a D2.a ++ D1.pins)) σ D2 W st H G qs s none s') s := by
  have I1 : Inv (inA X X.A.in1) ((pins ++ (ZP z TI TO zo po D1.a D2.a ++ D1.pins)) ++ D2.pins) σ H s := inv_in1 (inv_re Z.inv fun p hp => by
    simp only [List.mem_append] at hp ⊢
    rcases hp with (h | h | h) | h
    · exact .inl h
    · exact .inr (.inl h)
    · exact .inr (.inr (.inl h))
    · exact .inr (.inr (.inr h)))
  have rc := Z.r
  rw [← Z.g2] at rc
  have := step_src (X := inA X X.A.in1) (fx := []) Z.d2 Z.ok2 Z.f2 (sf_in Z.sv2) (fun p hp => absurd hp (by simp)) I1 rc Z.at2 (fun p hp q hq => ?_) Z.dis2 (Room.in1 (k := D2.Z.k + 2) Z.rm2) gd
  · rw [Z.g2] at this; exact this
  · rcases List.mem_append.mp hp with k | k
    · exact Z.sep2 p (List.mem_append_left _ k) q hq
    rcases List.mem_append.mp k with k | k
    · exact Z.sep2 p (List.mem_append_right _ k) q hq
    rcases List.mem_append.mp k with k | k
    · exact fun e => Z.sepC2 q hq (by rw [← e]; simpa using List.mem_map_of_mem (f := (·.1)) k)
    · exact Z.sepD p k q hq
structure Mid (X : Cx) (pins : List (Addr × Obj)) (σ : Sg) (G : Gd) (z TI TO : Addr) (zo po : Obj) (D1 D2 : Doze) (ys qs : List PV) (W0 : Wd) (st : ST) (H0 : Hp) (o0 : List Addr) (y : PV) (u : Value) (D1' : Doze) (x : V) (W : Wd) (H : Hp) (s : Shared) : Prop where
  zz : ZZ X pins σ G z TI TO zo po D1' D2 ys qs W st H s
  as : asleep D1'.gs = true
  ea : D1'.a = D1.a
  eZ : D1'.Z = D1.Z
  rv : RelV x u
  rp : Rep G W.F y x
  stp : Step o0 W0 H0 (own W st σ ++ (D1'.own ++ D2.own)) W H
theorem own3 {a b c : List Addr} {W W' : Wd} {H H' : Hp} {a' b' : List Addr} (s : Step (a ++ b) W H (a' ++ b') W' H') : Step (a ++ (b ++ c)) W H (a' ++ (b' ++ c)) W' H' := by
  have := s.frame (q := c)
  rw [List.append_assoc, List.append_assoc] at this
  exact this
theorem own3' {a b c : List Addr} {W W' : Wd} {H H' : Hp} {a' c' : List Addr} (s : Step (a ++ c) W H (a' ++ c') W' H') : Step (a ++ (b ++ c)) W H (a' ++ (b ++ c')) W' H' := by
  have q := s.frame (q := b)
  refine ((Step.sub fun x hx => ?_).trans q).trans (Step.sub fun x hx => ?_)
  · simp only [List.mem_append] at hx ⊢
    rcases hx with (h | h) | h
    · exact .inl h
    · exact .inr (.inr h)
    · exact .inr (.inl h)
  · simp only [List.mem_append] at hx ⊢
    rcases hx with h | h | h
    · exact .inl (.inl h)
    · exact .inr h
    · exact .inl (.inr h)
theorem ZZ.mid (Z : ZZ X pins σ G z TI TO zo po D1 D2 (y :: ys) qs W st H s) (ph : asleep D2.gs = true ∨ asleep D1.gs = false) (gd : X.A.guards = some []) :
    wpAny (model X.prog X.w) X.A.in1 (Builtin.SmallTypes.nextOf (.ref D1.a)) (fun u s2 => ∃ D1' x W' H', Mid X pins σ G z TI TO zo po D1 D2 ys qs W st H (own W st σ ++ (D1.own ++ D2.own)) y u D1' x W' H' s2) (fun _ _ => False) s := by
  refine wpAny_mono (Z.first gd) (fun u s2 hn => ?_) fun e s2 ⟨ad, o, _, _, _, hn⟩ => ?_
  case refine_2 => obtain ⟨⟨v, D', W', H', x, er, _⟩, _⟩ := hn; cases er
  obtain ⟨⟨v, D', W', H', x, er, rv, rp, d', eZ, ea, ego, as', I2, r2, s2', at2, sep2, dis2⟩, okg, kp⟩ := hn
  cases er
  have I2 : Inv X ((pins ++ (ZP z TI TO zo po D1.a D2.a ++ D2.pins)) ++ D'.pins) σ H' s2 := inv_out1 Z.inv.ok I2
  have gk : s2.gens[D2.Z.g]? = some D2.gs := kp _ _ (Ne.symm Z.gne) (Z.at2.gens (D2.Z.g, D2.gs) (List.mem_cons_self ..)) (ph.imp (fun a => a) fun a => ⟨a, by simp⟩)
  have pinD : ∀ p ∈ D2.pins, s2.heap.get? p.1 = some p.2 ∧ H' p.1 = none := fun p hp => by
    obtain ⟨q1, q2, _⟩ := I2.pin p (List.mem_append_right _ (List.mem_append_left _ (List.mem_append_right _ (List.mem_append_right _ hp))))
    exact ⟨q1, q2⟩
  obtain ⟨b1, b2⟩ := Z.at2.beside Z.d2 (fun b hb hb2 => (List.mem_append.mp hb2).elim (Z.dis2 b hb) (Z.dis b hb)) s2' r2.le pinD gk
  have okD : okG D'.gs := okg _ (by have := at2.gens (D'.Z.g, D'.gs) (List.mem_cons_self ..); rw [← eZ]; exact this)
  have memZ : ∀ {p}, p ∈ ZP z TI TO zo po D1.a D2.a → p ∈ (inA X X.A.in1).pn ++ (pins ++ (ZP z TI TO zo po D1.a D2.a ++ D2.pins)) := fun h => List.mem_append_right _ (List.mem_append_right _ (List.mem_append_left _ h))
  refine ⟨D', x, W', H', ⟨d', Z.d2, okD, Z.ok2, .inl as', Z.f2, at2, b1, by rw [eZ]; exact Z.g1, Z.g2, by rw [eZ]; exact Z.sv1, Z.sv2, by rw [eZ]; exact Z.rm1, Z.rm2, inv_re I2 fun p hp => ?_, r2, Z.sepZ, fun p hp q hq => ?_, Z.sep2, fun q hq hz => ?_, Z.sepC2, fun p hp q hq e => ?_, dis2,
    fun b hb hb2 => b2 b hb (List.mem_append_left _ hb2), fun b hb hb2 => b2 b hb (List.mem_append_right _ hb2), by rw [eZ]; exact Z.gne, Z.n1, Z.n2, Z.n3, Z.nc, Z.cel⟩, as', ea, eZ, rv, rp, own3 s2'⟩
  · rw [ea] at hp
    simp only [List.mem_append] at hp ⊢
    rcases hp with h | h | h | h
    · exact .inl (.inl h)
    · exact .inl (.inr (.inl h))
    · exact .inr h
    · exact .inl (.inr (.inr h))
  · rcases List.mem_append.mp hp with k | k
    · exact sep2 p (List.mem_append_left _ k) q hq
    · exact sep2 p (List.mem_append_right _ (List.mem_append_left _ k)) q hq
  · have : q.1 ∈ (ZP z TI TO zo po D1.a D2.a).map (·.1) := by simpa using hz
    obtain ⟨p', hp', e⟩ := List.mem_map.mp this
    exact sep2 p' (memZ hp') q hq e
  · exact sep2 q (List.mem_append_right _ (List.mem_append_right _ (List.mem_append_right _ hq))) p hp e.symm
theorem Mid.second {D1' : Doze} {x : V} {W0 : Wd} {H0 : Hp} {o0 : List Addr} {u : Value} (M : Mid X pins σ G z TI TO zo po D1 D2 ys (q :: qs) W0 st H0 o0 y u D1' x W H s) (gd : X.A.guards = some []) :
    wpAny (model X.prog X.w) X.A.in1 (Builtin.SmallTypes.nextOf (.ref D2.a)) (fun u2 s4 => ∃ D2' w W' H', ZZ X pins σ G z TI TO zo po D1' D2' ys qs W' st H' s4 ∧ asleep D2'.gs = true ∧ D2'.a = D2.a ∧ RelV w u2 ∧ Rep G W'.F q w ∧ Rep G W'.F y x ∧
      Step o0 W0 H0 (own W' st σ ++ (D1'.own ++ D2'.own)) W' H') (fun _ _ => False) s := by
  have Z := M.zz
  refine wpAny_mono (Z.snd gd) (fun u s2 hn => ?_) fun e s2 ⟨ad, o, _, _, _, hn⟩ => ?_
  case refine_2 => obtain ⟨⟨v, D', W', H', x, er, _⟩, _⟩ := hn; cases er
  obtain ⟨⟨v, D', W', H', w, er, rv, rp, d', eZ, ea, ego, as', I2, r2, s2', at2, sep2, dis2⟩, okg, kp⟩ := hn
  cases er
  have I2 : Inv X ((pins ++ (ZP z TI TO zo po D1'.a D2.a ++ D1'.pins)) ++ D'.pins) σ H' s2 := inv_out1 Z.inv.ok I2
  have gk : s2.gens[D1'.Z.g]? = some D1'.gs := kp _ _ Z.gne (Z.at1.gens (D1'.Z.g, D1'.gs) (List.mem_cons_self ..)) (.inl M.as)
  have pinD : ∀ p ∈ D1'.pins, s2.heap.get? p.1 = some p.2 ∧ H' p.1 = none := fun p hp => by
    obtain ⟨q1, q2, _⟩ := I2.pin p (List.mem_append_right _ (List.mem_append_left _ (List.mem_append_right _ (List.mem_append_right _ hp))))
    exact ⟨q1, q2⟩
  obtain ⟨b1, b2⟩ := Z.at1.beside Z.d1 (fun b hb hb2 => (List.mem_append.mp hb2).elim (Z.dis1 b hb) fun h => Z.dis b h hb) s2' r2.le pinD gk
  have okD : okG D'.gs := okg _ (by have := at2.gens (D'.Z.g, D'.gs) (List.mem_cons_self ..); rw [← eZ]; exact this)
  have memZ : ∀ {p}, p ∈ ZP z TI TO zo po D1'.a D2.a → p ∈ (inA X X.A.in1).pn ++ (pins ++ (ZP z TI TO zo po D1'.a D2.a ++ D1'.pins)) := fun h => List.mem_append_right _ (List.mem_append_right _ (List.mem_append_left _ h))
  refine ⟨D', w, W', H', ⟨Z.d1, d', Z.ok1, okD, Z.f1, .inl as', b1, at2, Z.g1, by rw [eZ]; exact Z.g2, Z.sv1, by rw [eZ]; exact Z.sv2, Z.rm1, by rw [eZ]; exact Z.rm2, inv_re I2 fun p hp => ?_, r2, Z.sepZ, Z.sep1, fun p hp q hq => ?_, Z.sepC1, fun q hq hz => ?_, fun p hp q hq e => ?_, fun b hb hb2 => b2 b hb (List.mem_append_left _ hb2),
    dis2, fun b hb hb2 => b2 b hb2 (List.mem_append_right _ hb), by rw [eZ]; exact Z.gne, Z.n1, Z.n2, Z.n3, Z.nc, Z.cel⟩, as', ea, rv, rp, M.rp.mono s2'.f, M.stp.trans (own3' s2')⟩
  · rw [ea] at hp
    simp only [List.mem_append] at hp ⊢
    rcases hp with h | h | h | h
    · exact .inl (.inl h)
    · exact .inl (.inr (.inl h))
    · exact .inl (.inr (.inr h))
    · exact .inr h
  · rcases List.mem_append.mp hp with k | k
    · exact sep2 p (List.mem_append_left _ k) q hq
    · exact sep2 p (List.mem_append_right _ (List.mem_append_left _ k)) q hq
  · have : q.1 ∈ (ZP z TI TO zo po D1'.a D2.a).map (·.1) := by simpa using hz
    obtain ⟨p', hp', e⟩ := List.mem_map.mp this
    exact sep2 p' (memZ hp') q hq e
  · exact sep2 p (List.mem_append_right _ (List.mem_append_right _ (List.mem_append_right _ hp))) q hq e
theorem ZZ.stop (Z : ZZ X pins σ G z TI TO zo po D1 D2 [] qs W st H s) (gd : X.A.guards = some []) :
    wpAny (model X.prog X.w) X.A.in1 (Builtin.SmallTypes.nextOf (.ref D1.a)) (fun _ _ => False) (fun e s' => ∃ ad o, e = .ref ad ∧ s'.heap.get? ad = some o ∧ o.cls = .type "StopIteration" ∧ ∃ W' H', Inv X (pins ++ ZP z TI TO zo po D1.a D2.a) σ H' s' ∧ R G W' st σ H' ∧
      Step (own W st σ ++ (D1.own ++ D2.own)) W H (own W' st σ) W' H') s := by
  refine wpAny_mono (Z.first gd) (fun u s2 hn => ?_) fun e s2 ⟨ad, o, h1, h2, h3, hn⟩ => ?_
  · obtain ⟨⟨er, _⟩, _⟩ := hn; cases er
  · obtain ⟨⟨er, W', H', J, r', s2'⟩, _⟩ := hn
    have J : Inv X (pins ++ (ZP z TI TO zo po D1.a D2.a ++ D2.pins)) σ H' s2 := inv_out1 Z.inv.ok J
    refine ⟨ad, o, h1, h2, h3, W', H', inv_re J fun p hp => ?_, r', (Step.sub fun a ha => ?_).trans (s2'.frame (q := D2.own)) |>.trans (Step.sub fun a ha => List.mem_append_left _ ha)⟩
    · rcases List.mem_append.mp hp with k | k
      · exact List.mem_append_left _ k
      · exact List.mem_append_right _ (List.mem_append_left _ k)
    · rw [List.append_assoc] at ha; exact ha
end
end Cl
set_option maxHeartbeats 4000000
namespace Cl
open PySem PySem.Spec PyProof.Rows L2 StX ClX
abbrev zHeld (TI TO T : Addr) (f : Bool) : Obj := { cls := .type "zip", dict := none, data := .fields #[rawInt T, .bool f, .bool false, .ref TI, .ref TO], slots := #[] }
def Ph (TI TO : Addr) (zo po : Obj) (D1 D2 : Doze) (W : Wd) : Prop := (∃ a b, po = pOb a b) ∧
  ((zo = zOb TI TO .none ∧ asleep D1.gs = false ∧ asleep D2.gs = false) ∨ ∃ T f vs, zo = zHeld TI TO T f ∧ W.F T = some (.tup vs) ∧ asleep D1.gs = true ∧ asleep D2.gs = true)
section
variable {X : Cx} {pins : List (Addr × Obj)} {σ : Sg} {G : Gd} {z TI TO : Addr} {zo po : Obj} {D1 D2 : Doze} {ys qs : List PV} {W : Wd} {st : ST} {H : Hp} {s : Shared} {y q : PV}
theorem ZZ.cells (Z : ZZ X pins σ G z TI TO zo po D1 D2 ys qs W st H s) : s.heap.get? z = some zo ∧ s.heap.get? TI = some (pOb (.ref D1.a) (.ref D2.a)) ∧ s.heap.get? TO = some po := by
  have pn : ∀ p ∈ ZP z TI TO zo po D1.a D2.a, s.heap.get? p.1 = some p.2 := fun p hp => (Z.inv.pin p (List.mem_append_right _ (List.mem_append_right _ (List.mem_append_left _ hp)))).1
  exact ⟨pn (z, zo) (by simp), pn (TI, _) (by simp), pn (TO, po) (by simp)⟩
theorem ZZ.notz (Z : ZZ X pins σ G z TI TO zo po D1 D2 ys qs W st H s) : ∀ p ∈ X.pn ++ (pins ++ (D1.pins ++ D2.pins)), p.1 ∉ [z, TI, TO] := fun p hp => by
  rcases List.mem_append.mp hp with k | k
  · exact Z.sepZ p (List.mem_append_left _ k)
  rcases List.mem_append.mp k with k | k
  · exact Z.sepZ p (List.mem_append_right _ k)
  rcases List.mem_append.mp k with k | k
  · exact Z.sepC1 p k
  · exact Z.sepC2 p k
theorem ZZ.born {zo' po' : Obj} {h' : Heap} {T : Addr} {x w : V} {u u2 : Value} (Z : ZZ X pins σ G z TI TO zo po D1 D2 ys qs W st H s) (hT : s.heap.objs.size ≤ T) (hk : ∀ c o, c ∉ [z, TI, TO] → s.heap.get? c = some o → h'.get? c = some o) (e1 : h'.get? z = some zo')
    (e2 : h'.get? TI = some (pOb (.ref D1.a) (.ref D2.a))) (e3 : h'.get? TO = some po') (c1 : ∀ v, zo'.data ≠ .cell v) (c3 : ∀ v, po'.data ≠ .cell v) (rx : RelV x u) (rw : RelV w u2) (eT : h'.get? T = some (pOb u u2)) :
    ZZ X pins σ G z TI TO zo' po' D1 D2 ys qs ⟨upd W.F T (.tup [x, w]), W.A⟩ st (upd H T (.tup [x, w])) { s with heap := h' } ∧ H T = none := by
  have HT : H T = none := Z.inv.hok.fresh hT
  have nw : ObjOk X.prog X.w (upd H T (.tup [x, w])) h' T (.tup [x, w]) := ⟨by show 2 ≤ sizeLine; decide, [u, u2], .cons rx (.cons rw .nil), ⟨_, eT, rfl, _, rfl⟩⟩
  have J : Inv X (pins ++ (ZP z TI TO zo' po' D1.a D2.a ++ (D1.pins ++ D2.pins))) σ (upd H T (.tup [x, w])) { s with heap := h' } := by
    refine pins_moveN (t' := s.toks) Z.inv (fun c o hc e => hk c o (by simpa using hc) e) (fun p hp z' => Z.notz p hp (by simpa using z')) (fun b hb => Z.cel b (by simpa using hb)) (fun p hp => ?_) hT nw
    rcases List.mem_cons.mp hp with e | hp
    · subst e; exact ⟨by simp, e1, c1⟩
    rcases List.mem_cons.mp hp with e | hp
    · subst e; exact ⟨by simp, e2, fun v q => by cases q⟩
    · rw [List.mem_singleton.mp hp]; exact ⟨by simp, e3, c3⟩
  have pn : ∀ p ∈ D1.pins ++ D2.pins, ({ s with heap := h' } : Shared).heap.get? p.1 = some p.2 ∧ upd H T (.tup [x, w]) p.1 = none := fun p hp => by
    obtain ⟨q1, q2, _⟩ := J.pin p (List.mem_append_right _ (List.mem_append_right _ (List.mem_append_right _ hp)))
    exact ⟨q1, q2⟩
  have r9 := Z.r.new (o := .tup [x, w]) HT
  have s9 := Z.r.step_new (o := .tup [x, w]) HT
  obtain ⟨a1, b1⟩ := Z.at1.beside (s' := { s with heap := h' }) Z.d1 Z.dis1 s9 r9.le (fun p hp => pn p (List.mem_append_left _ hp)) (Z.at1.gens (D1.Z.g, D1.gs) (List.mem_cons_self ..))
  obtain ⟨a2, b2⟩ := Z.at2.beside (s' := { s with heap := h' }) Z.d2 Z.dis2 s9 r9.le (fun p hp => pn p (List.mem_append_right _ hp)) (Z.at2.gens (D2.Z.g, D2.gs) (List.mem_cons_self ..))
  exact ⟨⟨Z.d1, Z.d2, Z.ok1, Z.ok2, Z.f1, Z.f2, a1, a2, Z.g1, Z.g2, Z.sv1, Z.sv2, Z.rm1, Z.rm2, J, r9, Z.sepZ, Z.sep1, Z.sep2, Z.sepC1, Z.sepC2, Z.sepD, b1, b2, Z.dis, Z.gne, Z.n1, Z.n2, Z.n3, ⟨c1, c3⟩, Z.cel⟩, HT⟩
theorem Mid.move {y : PV} {D1' : Doze} {x : V} {W0 : Wd} {H0 : Hp} {o0 : List Addr} {u : Value} {zo' po' : Obj} {h' : Heap} (M : Mid X pins σ G z TI TO zo po D1 D2 ys qs W0 st H0 o0 y u D1' x W H s) (hk : ∀ c o, c ∉ [z, TI, TO] → s.heap.get? c = some o → h'.get? c = some o) (e1 : h'.get? z = some zo')
    (e2 : h'.get? TI = some (pOb (.ref D1'.a) (.ref D2.a))) (e3 : h'.get? TO = some po') (c1 : ∀ v, zo'.data ≠ .cell v) (c3 : ∀ v, po'.data ≠ .cell v) : Mid X pins σ G z TI TO zo' po' D1 D2 ys qs W0 st H0 o0 y u D1' x W H { s with heap := h' } :=
  ⟨M.zz.move hk e1 e2 e3 c1 c3, M.as, M.ea, M.eZ, M.rv, M.rp, M.stp⟩
theorem not3 {a b c d : Addr} (h : d ∉ [a, b, c]) : d ≠ a ∧ d ≠ b ∧ d ≠ c := by
  simp only [List.mem_cons, List.not_mem_nil, or_false, not_or] at h
  exact h
def PairGot (X : Cx) (pins : List (Addr × Obj)) (σ : Sg) (G : Gd) (z TI TO : Addr) (D1 D2 : Doze) (ys qs : List PV) (W : Wd) (st : ST) (H : Hp) (y q : PV) (r : Option Value) (s' : Shared) : Prop :=
  ∃ (T : Addr) (D1' D2' : Doze) (zo' po' : Obj) (W' : Wd) (H' : Hp), r = some (.ref T) ∧ Rep G W'.F (.tup .p [y, q]) (.ref T) ∧ ZZ X pins σ G z TI TO zo' po' D1' D2' ys qs W' st H' s' ∧ Ph TI TO zo' po' D1' D2' W' ∧ D1'.a = D1.a ∧ D2'.a = D2.a ∧
    Step (own W st σ ++ (D1.own ++ D2.own)) W H (own W' st σ ++ (D1'.own ++ D2'.own)) W' H'
theorem ZZ.next {E : Value → Shared → Prop} (Z : ZZ X pins σ G z TI TO zo po D1 D2 (y :: ys) (q :: qs) W st H s) (ph : Ph TI TO zo po D1 D2 W) (gd : X.A.guards = some []) :
    wpAny (model X.prog X.w) X.A (pyNext (.ref z)) (PairGot X pins σ G z TI TO D1 D2 ys qs W st H y q) E s := by
  obtain ⟨⟨a, b, epo⟩, ph⟩ := ph
  obtain ⟨c1, c2, c3⟩ := Z.cells
  rcases ph with ⟨ezo, p1, p2⟩ | ⟨T0, f, vs, ezo, hT0, p1, p2⟩
  · rw [ezo] at c1
    refine zip_next_w (z := z) (TI := TI) (TO := TO) (i1 := D1.a) (i2 := D2.a) c1 c2 fun h1 hz1 hs1 => ?_
    have k1 : ∀ c o, c ∉ [z, TI, TO] → s.heap.get? c = some o → h1.get? c = some o := fun c o hc e => (hs1.2 c (not3 hc).1).trans e
    have Z1 := Z.move (zo' := zOb TI TO .ellipsis) (po' := po) k1 hz1 ((hs1.2 _ Z.n1).trans c2) ((hs1.2 _ Z.n2).trans c3) (fun v e => by cases e) Z.nc.2
    refine wpAny_mono (Z1.mid (.inr p1) gd) (fun u s2 ⟨D1', x, W1, H1, M⟩ => ?_) fun _ _ k => k.elim
    obtain ⟨m1, m2, m3⟩ := M.zz.cells
    rw [epo] at m3
    refine ⟨a, b, m3, fun h3 hTO3 hs3 => ?_⟩
    have M3 := M.move (zo' := zOb TI TO .ellipsis) (po' := pOb u b) (h' := h3) (fun c o hc e => (hs3.2 c (not3 hc).2.2).trans e) ((hs3.2 _ (Ne.symm Z.n2)).trans m1) ((hs3.2 _ Z.n3).trans m2) hTO3 (fun v e => by cases e) (fun v e => by cases e)
    refine wpAny_mono (M3.second gd) (fun u2 s4 ⟨D2', w, W', H', Z4, as2, ea2, rw2, rp2, rp1, stp⟩ => ?_) fun _ _ k => k
    obtain ⟨d1, d2, d3⟩ := Z4.cells
    refine ⟨b, d1, d3, Z.n2, fun h8 hz8 hTO8 hT8 hsz8 hk8 => ?_⟩
    have k8 : ∀ c o, c ∉ [z, TI, TO] → s4.heap.get? c = some o → h8.get? c = some o := fun c o hc e => hk8 c o (not3 hc).1 (not3 hc).2.2 e
    obtain ⟨Z8, HT⟩ := Z4.born (zo' := zHeld TI TO s4.heap.objs.size false) (po' := pOb u u2) (h' := h8) (T := s4.heap.objs.size) (Nat.le_refl _) k8 hz8 (hk8 _ _ Z.n1 Z.n3 d2) hTO8 (fun v e => by cases e) (fun v e => by cases e) M3.rv rw2 hT8
    have s9 := Z4.r.step_new (o := .tup [x, w]) HT
    refine ⟨s4.heap.objs.size, D1', D2', _, _, ⟨upd W'.F s4.heap.objs.size (.tup [x, w]), W'.A⟩, upd H' s4.heap.objs.size (.tup [x, w]), rfl, Rep.tup (k := .p) (show TupAt .p _ _ [x, w] from upd_same) (.cons (rp1.mono s9.f) (.cons (rp2.mono s9.f) .nil)), Z8, ⟨⟨u, u2, rfl⟩, .inr ⟨_, false, _, rfl, upd_same, M3.as, as2⟩⟩, M3.ea, ea2, stp.trans (s9.frame (q := D1'.own ++ D2'.own))⟩
  · rw [ezo] at c1
    have hH : H T0 = some (.tup vs) := Z.r.le _ _ hT0
    obtain ⟨_, us, _, oT, eT, _⟩ := Z.inv.hok T0 _ hH
    refine zip_next_out (z := z) (TI := TI) (TO := TO) (T := T0) (f := f) (i1 := D1.a) (i2 := D2.a) c1 eT c2 fun h1 hz1 hs1 => ?_
    have k1 : ∀ c o, c ∉ [z, TI, TO] → s.heap.get? c = some o → h1.get? c = some o := fun c o hc e => (hs1.2 c (not3 hc).1).trans e
    have Z1 := Z.move (zo' := zHeld TI TO T0 true) (po' := po) k1 hz1 ((hs1.2 _ Z.n1).trans c2) ((hs1.2 _ Z.n2).trans c3) (fun v e => by cases e) Z.nc.2
    refine wpAny_mono (Z1.mid (.inl p2) gd) (fun u s2 ⟨D1', x, W1, H1, M⟩ => ?_) fun _ _ k => k.elim
    refine wpAny_mono (M.second gd) (fun u2 s4 ⟨D2', w, W', H', Z4, as2, ea2, rw2, rp2, rp1, stp⟩ => ?_) fun _ _ k => k
    obtain ⟨d1, d2, d3⟩ := Z4.cells
    obtain ⟨Z8, HT⟩ := Z4.born (zo' := zHeld TI TO T0 true) (po' := po) (h' := s4.heap.push { cls := .type "tuple", data := .seq #[u, u2] }) (T := s4.heap.objs.size) (Nat.le_refl _) (fun c o hc e => Heap.get?_push_of_some _ e) (Heap.get?_push_of_some _ d1) (Heap.get?_push_of_some _ d2) (Heap.get?_push_of_some _ d3) (fun v e => by cases e) Z.nc.2 M.rv rw2 (Heap.get?_push_size _ rfl)
    have s9 := Z4.r.step_new (o := .tup [x, w]) HT
    refine ⟨s4.heap.objs.size, D1', D2', _, _, ⟨upd W'.F s4.heap.objs.size (.tup [x, w]), W'.A⟩, upd H' s4.heap.objs.size (.tup [x, w]), rfl, Rep.tup (k := .p) (show TupAt .p _ _ [x, w] from upd_same) (.cons (rp1.mono s9.f) (.cons (rp2.mono s9.f) .nil)), Z8, ⟨⟨a, b, epo⟩, .inr ⟨T0, true, vs, rfl, ?_, M.as, as2⟩⟩, M.ea, ea2, stp.trans (s9.frame (q := D1'.own ++ D2'.own))⟩
    exact s9.f _ _ (stp.f _ _ hT0)
def PairEnd (X : Cx) (pins : List (Addr × Obj)) (σ : Sg) (G : Gd) (o : List Addr) (W : Wd) (st : ST) (H : Hp) (r : Option Value) (s' : Shared) : Prop :=
  r = none ∧ ∃ W' H', Inv X pins σ H' s' ∧ R G W' st σ H' ∧ Step o W H (own W' st σ) W' H'
theorem ZZ.fin {E : Value → Shared → Prop} (Z : ZZ X pins σ G z TI TO zo po D1 D2 [] qs W st H s) (ph : Ph TI TO zo po D1 D2 W) (gd : X.A.guards = some []) :
    wpAny (model X.prog X.w) X.A (pyNext (.ref z)) (PairEnd X pins σ G (own W st σ ++ (D1.own ++ D2.own)) W st H) E s := by
  obtain ⟨⟨a, b, epo⟩, ph⟩ := ph
  obtain ⟨c1, c2, c3⟩ := Z.cells
  rcases ph with ⟨ezo, p1, p2⟩ | ⟨T0, f, vs, ezo, hT0, p1, p2⟩
  · rw [ezo] at c1
    refine zip_next_w (z := z) (TI := TI) (TO := TO) (i1 := D1.a) (i2 := D2.a) c1 c2 fun h1 hz1 hs1 => ?_
    have k1 : ∀ c o, c ∉ [z, TI, TO] → s.heap.get? c = some o → h1.get? c = some o := fun c o hc e => (hs1.2 c (not3 hc).1).trans e
    have Z1 := Z.move (zo' := zOb TI TO .ellipsis) (po' := po) k1 hz1 ((hs1.2 _ Z.n1).trans c2) ((hs1.2 _ Z.n2).trans c3) (fun v e => by cases e) Z.nc.2
    refine wpAny_mono (Z1.stop gd) (fun u s2 k => k.elim) fun e s2 ⟨ad, o, h2, h3, h4, W', H', J, r', stp⟩ => ?_
    have hz2 : IsZip s2.heap z TI TO .ellipsis := (J.pin (z, zOb TI TO .ellipsis) (List.mem_append_right _ (List.mem_append_right _ (by simp)))).1
    refine ⟨ad, o, h2, h3, h4, fun e => ?_, hz2, fun h' sb => ⟨rfl, W', H', ?_, r', stp⟩⟩
    · rw [e, hz2] at h3
      cases h3
      have h4 : Value.type "zip" = .type "StopIteration" := h4
      injection h4 with h4
      exact absurd h4 (by decide)
    · have J2 : Inv X (pins ++ (ZP z TI TO (zOb TI TO .ellipsis) po D1.a D2.a ++ [])) σ H' s2 := by rw [List.append_nil]; exact J
      have := pins_move (zp' := []) (t' := s2.toks) J2 (h' := h') (fun c o hc e => (sb.2 c (fun k => hc (by simp [k]))).trans e) (fun p hp z' => by
        rw [List.append_nil] at hp
        exact Z.sepZ p hp (by simpa using z')) (fun b hb => Z.cel b (by simpa using hb)) (fun p hp => nomatch hp)
      exact inv_re this fun p hp => List.mem_append_left _ hp
  · rw [ezo] at c1
    have hH : H T0 = some (.tup vs) := Z.r.le _ _ hT0
    obtain ⟨_, us, _, oT, eT, _⟩ := Z.inv.hok T0 _ hH
    refine zip_next_out (z := z) (TI := TI) (TO := TO) (T := T0) (f := f) (i1 := D1.a) (i2 := D2.a) c1 eT c2 fun h1 hz1 hs1 => ?_
    have k1 : ∀ c o, c ∉ [z, TI, TO] → s.heap.get? c = some o → h1.get? c = some o := fun c o hc e => (hs1.2 c (not3 hc).1).trans e
    have Z1 := Z.move (zo' := zHeld TI TO T0 true) (po' := po) k1 hz1 ((hs1.2 _ Z.n1).trans c2) ((hs1.2 _ Z.n2).trans c3) (fun v e => by cases e) Z.nc.2
    exact wpAny_mono (Z1.stop gd) (fun u s2 k => k.elim) fun e s2 ⟨ad, o, h2, h3, h4, W', H', J, r', stp⟩ => ⟨ad, o, h2, h3, h4, rfl, W', H', inv_re J fun p hp => List.mem_append_left _ hp, r', stp⟩
end
end Cl
set_option maxHeartbeats 4000000
namespace Cl
open PySem PySem.Spec PyProof.Rows L2 StX ClX
structure YEF (G : Gd) (X : Cx) (k : Nat) (e : Expr) (f : Cm (List PV)) : Prop where
  run : ∀ (pins : List (Addr × Obj)) (s : Shared) (σ : Sg) (H : Hp) (W : Wd) (st : ST) (ys : List PV) (st' : ST), Inv X pins σ H s → R G W st σ H → f st = .ok ys st' →
    st' = st ∧ wpAny (model X.prog X.w) X.A (eval e X.env) (fun u s' => ∃ D, u = .ref D.a ∧ YAt X pins σ W st H G ys st D W H s' ∧ First D ys ∧ (∃ c, D.gs = .fresh c) ∧ (∀ (i : Nat) (y : GenState), s.gens[i]? = some y → s'.gens[i]? = some y) ∧ s.gens.size ≤ D.Z.g ∧ D.Z.k ≤ k) X.xe s
end Cl
set_option maxHeartbeats 4000000
namespace Cl
open PySem PySem.Spec PyProof.Rows L2 StX ClX
section
variable {X : Cx} {pins : List (Addr × Obj)} {σ : Sg} {G : Gd} {z TI TO : Addr} {zo po : Obj} {D1 D2 : Doze} {ys qs : List PV} {W : Wd} {st : ST} {H : Hp} {s : Shared}
theorem ZZ.upd {S : Addr} {o : HO} {s' : Shared} (Z : ZZ X pins σ G z TI TO zo po D1 D2 ys qs W st H s) (h1 : S ∉ own W st σ) (h2 : S ∉ D1.own) (h3 : S ∉ D2.own) (hF : W.F S = none) (eg : s'.gens = s.gens) (J : Inv X (pins ++ (ZP z TI TO zo po D1.a D2.a ++ (D1.pins ++ D2.pins))) σ (upd H S o) s') :
    ZZ X pins σ G z TI TO zo po D1 D2 ys qs W st (upd H S o) s' := by
  have pn : ∀ p ∈ D1.pins ++ D2.pins, s'.heap.get? p.1 = some p.2 ∧ L2.upd H S o p.1 = none := fun p hp => by
    obtain ⟨q1, q2, _⟩ := J.pin p (List.mem_append_right _ (List.mem_append_right _ (List.mem_append_right _ hp)))
    exact ⟨q1, q2⟩
  exact ⟨Z.d1, Z.d2, Z.ok1, Z.ok2, Z.f1, Z.f2, ⟨fun p hp => pn p (List.mem_append_left _ hp), fun q hq => by rw [eg]; exact Z.at1.gens q hq, Z.at1.r.updD h2 hF, Z.at1.le⟩, ⟨fun p hp => pn p (List.mem_append_right _ hp), fun q hq => by rw [eg]; exact Z.at2.gens q hq, Z.at2.r.updD h3 hF, Z.at2.le⟩, Z.g1, Z.g2, Z.sv1, Z.sv2, Z.rm1, Z.rm2, J, Z.r.updD h1 hF,
    Z.sepZ, Z.sep1, Z.sep2, Z.sepC1, Z.sepC2, Z.sepD, Z.dis1, Z.dis2, Z.dis, Z.gne, Z.n1, Z.n2, Z.n3, Z.nc, Z.cel⟩
end
section
variable {X : Cx} {pins : List (Addr × Obj)} {σ : Sg} {G : Gd} {z TI TO S : Addr} {st : ST} {W0 : Wd} {H0 : Hp} {o0 : List Addr}
theorem ZZ.inA {zo po : Obj} {D1 D2 : Doze} {ys qs : List PV} {W : Wd} {H : Hp} {s : Shared} (Z : ZZ X pins σ G z TI TO zo po D1 D2 ys qs W st H s) (r1 : Room (D1.Z.k + 3) X.A.in1.in1) (r2 : Room (D2.Z.k + 3) X.A.in1.in1) : ZZ (inA X X.A.in1.in1) pins σ G z TI TO zo po D1 D2 ys qs W st H s :=
  ⟨Z.d1, Z.d2, Z.ok1, Z.ok2, Z.f1, Z.f2, Z.at1, Z.at2, Z.g1, Z.g2, ⟨Z.sv1.prog, Z.sv1.w, Z.sv1.K, Z.sv1.mg, Z.sv1.base, Z.sv1.outer, Z.sv1.s0, Z.sv1.loc, Z.sv1.cells⟩, ⟨Z.sv2.prog, Z.sv2.w, Z.sv2.K, Z.sv2.mg, Z.sv2.base, Z.sv2.outer, Z.sv2.s0, Z.sv2.loc, Z.sv2.cells⟩, r1, r2, inv_in Z.inv, Z.r,
    Z.sepZ, Z.sep1, Z.sep2, Z.sepC1, Z.sepC2, Z.sepD, Z.dis1, Z.dis2, Z.dis, Z.gne, Z.n1, Z.n2, Z.n3, Z.nc, Z.cel⟩
end
def mListZ2 (fi fj : Cm (List PV)) : Cm MC := fun st => match fi st with
  | .ok ys st1 => match fj st1 with
    | .ok qs st2 => if ys.length = qs.length ∧ szOk ys.length = true then .ok (.lst (zipL ys qs)) st2 else .stuck
    | _ => .stuck
  | _ => .stuck
section
variable {st : ST}
@[simp] theorem ev_mListZ2 {fi fj : Cm (List PV)} : mListZ2 fi fj st = match fi st with
  | .ok ys st1 => match fj st1 with
    | .ok qs st2 => if ys.length = qs.length ∧ szOk ys.length = true then .ok (.lst (zipL ys qs)) st2 else .stuck
    | _ => .stuck
  | _ => .stuck := rfl
end
end Cl
set_option maxHeartbeats 4000000
namespace Cl
open PySem PySem.Spec PyProof.Rows L2 StX ClX
abbrev ZLP (z TI TO i1 i2 : Addr) (zo po o1 o2 : Obj) : List (Addr × Obj) := [(z, zo), (TI, pOb (.ref i1) (.ref i2)), (TO, po), (i1, o1), (i2, o2)]
structure ZL (X : Cx) (pins : List (Addr × Obj)) (σ : Sg) (G : Gd) (z TI TO i1 i2 l1 l2 : Addr) (zo po o1 o2 : Obj) (ps qs : List PV) (vs us : List V) (j : Nat) (W : Wd) (st : ST) (H : Hp) (s : Shared) : Prop where
  inv : Inv X (pins ++ (ZLP z TI TO i1 i2 zo po o1 o2 ++ [])) σ H s
  r : R G W st σ H
  f1 : W.F l1 = some (.lst vs)
  f2 : W.F l2 = some (.lst us)
  r1 : RepL G W.F ps vs
  r2 : RepL G W.F qs us
  it1 : ∀ h : Heap, h.get? i1 = some o1 → h.IsListIter i1 l1 j
  it2 : ∀ h : Heap, h.get? i2 = some o2 → h.IsListIter i2 l2 j
  nc : (∀ v, zo.data ≠ .cell v) ∧ (∀ v, po.data ≠ .cell v) ∧ (∀ v, o1.data ≠ .cell v) ∧ ∀ v, o2.data ≠ .cell v
  sepZ : ∀ p ∈ X.pn ++ pins, p.1 ∉ [z, TI, TO, i1, i2]
  nd : [z, TI, TO, i1, i2].Nodup
  cel : ∀ b ∈ [z, TI, TO, i1, i2], (b ∈ X.ex ∨ X.s_0.heap.objs.size ≤ b) ∧ ∀ x c, X.env.cells.lookup x = some c → c ≠ b
def PhL (TI TO : Addr) (zo po : Obj) (W : Wd) : Prop := (∃ a b, po = pOb a b) ∧ (zo = zOb TI TO .none ∨ ∃ T f vs, zo = zHeld TI TO T f ∧ W.F T = some (.tup vs))
section
variable {X : Cx} {pins : List (Addr × Obj)} {σ : Sg} {G : Gd} {z TI TO i1 i2 l1 l2 : Addr} {zo po o1 o2 : Obj} {ps qs : List PV} {vs us : List V} {j : Nat} {W : Wd} {st : ST} {H : Hp} {s : Shared} {y q : PV}
theorem nd5 (h : [z, TI, TO, i1, i2].Nodup) : (TI ≠ z ∧ TO ≠ z ∧ i1 ≠ z ∧ i2 ≠ z) ∧ (TI ≠ TO ∧ TI ≠ i1 ∧ TI ≠ i2) ∧ (TO ≠ i1 ∧ TO ≠ i2) ∧ i1 ≠ i2 := by
  simp only [List.nodup_cons, List.mem_cons, List.not_mem_nil, or_false, not_or] at h
  obtain ⟨⟨a, b, c, d⟩, ⟨e, f, g⟩, ⟨i, k⟩, l, _⟩ := h
  exact ⟨⟨Ne.symm a, Ne.symm b, Ne.symm c, Ne.symm d⟩, ⟨e, f, g⟩, ⟨i, k⟩, l⟩
theorem not5 {a b c d e x : Addr} (h : x ∉ [a, b, c, d, e]) : x ≠ a ∧ x ≠ b ∧ x ≠ c ∧ x ≠ d ∧ x ≠ e := by
  simp only [List.mem_cons, List.not_mem_nil, or_false, not_or] at h
  exact h
theorem ZL.cells (Z : ZL X pins σ G z TI TO i1 i2 l1 l2 zo po o1 o2 ps qs vs us j W st H s) : s.heap.get? z = some zo ∧ s.heap.get? TI = some (pOb (.ref i1) (.ref i2)) ∧ s.heap.get? TO = some po ∧ s.heap.get? i1 = some o1 ∧ s.heap.get? i2 = some o2 := by
  have pn : ∀ p ∈ ZLP z TI TO i1 i2 zo po o1 o2, s.heap.get? p.1 = some p.2 := fun p hp => (Z.inv.pin p (List.mem_append_right _ (List.mem_append_right _ (List.mem_append_left _ hp)))).1
  exact ⟨pn (z, zo) (by simp), pn (TI, _) (by simp), pn (TO, po) (by simp), pn (i1, o1) (by simp), pn (i2, o2) (by simp)⟩
theorem ZL.born {zo' po' o1' o2' : Obj} {h' : Heap} {T : Addr} {x w : V} {u u2 : Value} (Z : ZL X pins σ G z TI TO i1 i2 l1 l2 zo po o1 o2 ps qs vs us j W st H s) (hT : s.heap.objs.size ≤ T) (hk : ∀ c o, c ∉ [z, TI, TO, i1, i2] → s.heap.get? c = some o → h'.get? c = some o) (e1 : h'.get? z = some zo') (e2 : h'.get? TI = some (pOb (.ref i1) (.ref i2)))
    (e3 : h'.get? TO = some po') (e4 : h'.get? i1 = some o1') (e5 : h'.get? i2 = some o2') (c1 : (∀ v, zo'.data ≠ .cell v) ∧ (∀ v, po'.data ≠ .cell v)) (t1 : h'.IsListIter i1 l1 (j + 1)) (t2 : h'.IsListIter i2 l2 (j + 1)) (rx : RelV x u) (rw : RelV w u2) (eT : h'.get? T = some (pOb u u2)) :
    ZL X pins σ G z TI TO i1 i2 l1 l2 zo' po' o1' o2' ps qs vs us (j + 1) ⟨upd W.F T (.tup [x, w]), W.A⟩ st (upd H T (.tup [x, w])) { s with heap := h' } ∧ H T = none := by
  have HT : H T = none := Z.inv.hok.fresh hT
  have nw : ObjOk X.prog X.w (upd H T (.tup [x, w])) h' T (.tup [x, w]) := ⟨by show 2 ≤ sizeLine; decide, [u, u2], .cons rx (.cons rw .nil), ⟨_, eT, rfl, _, rfl⟩⟩
  have ncIt : ∀ {i l k o}, h'.IsListIter i l k → h'.get? i = some o → ∀ v, o.data ≠ .cell v := fun {i l k o} t e v z => by
    obtain ⟨o', ho, _, d⟩ := t
    rw [e] at ho; cases ho; rw [d] at z; cases z
  have J : Inv X (pins ++ (ZLP z TI TO i1 i2 zo' po' o1' o2' ++ [])) σ (upd H T (.tup [x, w])) { s with heap := h' } := by
    refine pins_moveN (t' := s.toks) Z.inv (fun c o hc e => hk c o (by simpa using hc) e) (fun p hp z' => Z.sepZ p (by rw [List.append_nil] at hp; exact hp) (by simpa using z')) (fun b hb => Z.cel b (by simpa using hb)) (fun p hp => ?_) hT nw
    rcases List.mem_cons.mp hp with e | hp
    · subst e; exact ⟨by simp, e1, c1.1⟩
    rcases List.mem_cons.mp hp with e | hp
    · subst e; exact ⟨by simp, e2, fun v q => by cases q⟩
    rcases List.mem_cons.mp hp with e | hp
    · subst e; exact ⟨by simp, e3, c1.2⟩
    rcases List.mem_cons.mp hp with e | hp
    · subst e; exact ⟨by simp, e4, ncIt t1 e4⟩
    · rw [List.mem_singleton.mp hp]; exact ⟨by simp, e5, ncIt t2 e5⟩
  have r9 := Z.r.new (o := .tup [x, w]) HT
  have s9 := Z.r.step_new (o := .tup [x, w]) HT
  have at_ : ∀ {i l k o}, h'.IsListIter i l k → h'.get? i = some o → ∀ h : Heap, h.get? i = some o → h.IsListIter i l k := fun {i l k o} t e h e' => by
    obtain ⟨o', ho, c, d⟩ := t
    rw [e] at ho; cases ho
    exact ⟨_, e', c, d⟩
  exact ⟨⟨J, r9, s9.f _ _ Z.f1, s9.f _ _ Z.f2, Z.r1.mono s9.f, Z.r2.mono s9.f, at_ t1 e4, at_ t2 e5, ⟨c1.1, c1.2, ncIt t1 e4, ncIt t2 e5⟩, Z.sepZ, Z.nd, Z.cel⟩, HT⟩
def LGot (X : Cx) (pins : List (Addr × Obj)) (σ : Sg) (G : Gd) (z TI TO i1 i2 l1 l2 : Addr) (ps qs : List PV) (vs us : List V) (j : Nat) (W : Wd) (st : ST) (H : Hp) (y q : PV) (r : Option Value) (s' : Shared) : Prop :=
  ∃ (T : Addr) (zo' po' o1' o2' : Obj) (ob : HO), r = some (.ref T) ∧ Rep G (upd W.F T ob) (.tup .p [y, q]) (.ref T) ∧ ZL X pins σ G z TI TO i1 i2 l1 l2 zo' po' o1' o2' ps qs vs us (j + 1) ⟨upd W.F T ob, W.A⟩ st (upd H T ob) s' ∧ PhL TI TO zo' po' ⟨upd W.F T ob, W.A⟩ ∧ H T = none
theorem ZL.next {E : Value → Shared → Prop} (Z : ZL X pins σ G z TI TO i1 i2 l1 l2 zo po o1 o2 ps qs vs us j W st H s) (ph : PhL TI TO zo po W) (hy : ps[j]? = some y) (hq : qs[j]? = some q) :
    wpAny (model X.prog X.w) X.A (pyNext (.ref z)) (LGot X pins σ G z TI TO i1 i2 l1 l2 ps qs vs us j W st H y q) E s := by
  obtain ⟨⟨a, b, epo⟩, ph⟩ := ph
  obtain ⟨c1, c2, c3, c4, c5⟩ := Z.cells
  obtain ⟨⟨n1, n2, n3, n4⟩, ⟨n5, n6, n7⟩, ⟨n8, n9⟩, n10⟩ := nd5 Z.nd
  obtain ⟨x, hx, rx⟩ := Z.r1.get hy
  obtain ⟨w, hw, rw⟩ := Z.r2.get hq
  obtain ⟨its1, rv1, p1, _⟩ := Z.inv.list (.inl (.inl (Z.r.le _ _ Z.f1)))
  obtain ⟨its2, rv2, p2, _⟩ := Z.inv.list (.inl (.inl (Z.r.le _ _ Z.f2)))
  obtain ⟨u, hu, ru⟩ := rv1.get hx
  obtain ⟨u2, hu2, ru2⟩ := rv2.get hw
  have L1 := p1.isList
  have L2' := p2.isList
  -- the lists' cells are none of these
  have nl : ∀ {l xs}, H l = some (.lst xs) → l ∉ [z, TI, TO, i1, i2] := fun {l xs} e k => by
    have : ∃ o, (l, o) ∈ ZLP z TI TO i1 i2 zo po o1 o2 := by
      simp only [List.mem_cons, List.not_mem_nil, or_false] at k
      rcases k with k | k | k | k | k
      · exact ⟨zo, by simp [k]⟩
      · exact ⟨pOb (.ref i1) (.ref i2), by simp [k]⟩
      · exact ⟨po, by simp [k]⟩
      · exact ⟨o1, by simp [k]⟩
      · exact ⟨o2, by simp [k]⟩
    obtain ⟨o, ho⟩ := this
    have := (Z.inv.pin _ (List.mem_append_right _ (List.mem_append_right _ (List.mem_append_left _ ho)))).2.1
    rw [e] at this; cases this
  obtain ⟨m1, m2, m3, m4, m5⟩ := not5 (nl (Z.r.le _ _ Z.f1))
  obtain ⟨k1, k2, k3, k4, k5⟩ := not5 (nl (Z.r.le _ _ Z.f2))
  have I1 := Z.it1 _ c4
  have I2 := Z.it2 _ c5
  have out : ∀ {T : Addr} {zo' po' : Obj} {h' : Heap} (hT : s.heap.objs.size ≤ T) (hk : ∀ c o, c ∉ [z, TI, TO, i1, i2] → s.heap.get? c = some o → h'.get? c = some o) (e1 : h'.get? z = some zo') (e2 : h'.get? TI = some (pOb (.ref i1) (.ref i2))) (e3 : h'.get? TO = some po') (t1 : h'.IsListIter i1 l1 (j + 1)) (t2 : h'.IsListIter i2 l2 (j + 1))
      (cc : (∀ v, zo'.data ≠ .cell v) ∧ (∀ v, po'.data ≠ .cell v)) (eT : h'.get? T = some (pOb u u2)) (pz : PhL TI TO zo' po' ⟨upd W.F T (HO.tup [x, w]), W.A⟩), LGot X pins σ G z TI TO i1 i2 l1 l2 ps qs vs us j W st H y q (some (.ref T)) { s with heap := h' } := fun {T zo' po' h'} hT hk e1 e2 e3 t1 t2 cc eT pz => by
    obtain ⟨o1', e4, _⟩ := id t1
    obtain ⟨o2', e5, _⟩ := id t2
    obtain ⟨Z8, HT⟩ := Z.born hT hk e1 e2 e3 e4 e5 cc t1 t2 ru ru2 eT
    have s9 := Z.r.step_new (o := HO.tup [x, w]) HT
    exact ⟨T, zo', po', o1', o2', .tup [x, w], rfl, Rep.tup (k := .p) (show TupAt .p _ _ [x, w] from upd_same) (.cons (rx.mono s9.f) (.cons (rw.mono s9.f) .nil)), Z8, pz, HT⟩
  rcases ph with ezo | ⟨T0, f, vs0, ezo, hT0⟩
  · rw [ezo] at c1
    refine zip_next_w (z := z) (TI := TI) (TO := TO) (i1 := i1) (i2 := i2) c1 c2 fun h1 hz1 hs1 => ?_
    refine wpAny_nextOf_list_item (s := { s with heap := h1 }) (I1.at fun o e => (hs1.2 _ n3).trans e) (L1.at fun o e => (hs1.2 _ m1).trans e) (x := u) (by simpa using hu) fun h2 t1 hs2 => ?_
    have d3 : h2.get? TO = some (pOb a b) := by rw [hs2.2 _ n8, hs1.2 _ n2, c3, epo]
    refine ⟨a, b, d3, fun h3 hTO3 hs3 => ?_⟩
    refine wpAny_nextOf_list_item (s := { s with heap := h3 }) (I2.at fun o e => (hs3.2 _ (Ne.symm n9)).trans ((hs2.2 _ (Ne.symm n10)).trans ((hs1.2 _ n4).trans e))) (L2'.at fun o e => (hs3.2 _ k3).trans ((hs2.2 _ k4).trans ((hs1.2 _ k1).trans e))) (x := u2) (by simpa using hu2) fun h4 t2 hs4 => ?_
    have z4 : IsZip h4 z TI TO .ellipsis := (hs4.2 _ (Ne.symm n4)).trans ((hs3.2 _ (Ne.symm n2)).trans ((hs2.2 _ (Ne.symm n3)).trans hz1))
    have sz : h4.objs.size = s.heap.objs.size := by rw [hs4.1, hs3.1, hs2.1, hs1.1]
    refine ⟨b, z4, (hs4.2 _ n9).trans hTO3, n2, fun h8 hz8 hTO8 hT8 hsz8 hk8 => ?_⟩
    have T1 : ∀ {i l k}, i ≠ z → i ≠ TO → h4.IsListIter i l k → h8.IsListIter i l k := fun q1 q2 t => t.at fun o e => hk8 _ o q1 q2 e
    refine out (T := h4.objs.size) (zo' := zHeld TI TO h4.objs.size false) (po' := pOb u u2) (Nat.le_of_eq sz.symm) (fun c o hc e => ?_) hz8 (hk8 _ _ n1 n5 ((hs4.2 _ n7).trans ((hs3.2 _ n5).trans ((hs2.2 _ n6).trans ((hs1.2 _ n1).trans c2))))) hTO8 (T1 n3 (Ne.symm n8) (t1.at fun o e => (hs4.2 _ n10).trans ((hs3.2 _ (Ne.symm n8)).trans e))) (T1 n4 (Ne.symm n9) t2) ⟨fun v e => (by cases e), fun v e => (by cases e)⟩ hT8 ⟨⟨_, _, rfl⟩, .inr ⟨_, false, _, rfl, upd_same⟩⟩
    obtain ⟨q1, q2, q3, q4, q5⟩ := not5 hc
    exact hk8 c o q1 q3 ((hs4.2 _ q5).trans ((hs3.2 _ q3).trans ((hs2.2 _ q4).trans ((hs1.2 _ q1).trans e))))
  · rw [ezo] at c1
    have hH : H T0 = some (.tup vs0) := Z.r.le _ _ hT0
    obtain ⟨_, _, _, oT, eT, _⟩ := Z.inv.hok T0 _ hH
    refine zip_next_out (z := z) (TI := TI) (TO := TO) (T := T0) (f := f) (i1 := i1) (i2 := i2) c1 eT c2 fun h1 hz1 hs1 => ?_
    refine wpAny_nextOf_list_item (s := { s with heap := h1 }) (I1.at fun o e => (hs1.2 _ n3).trans e) (L1.at fun o e => (hs1.2 _ m1).trans e) (x := u) (by simpa using hu) fun h2 t1 hs2 => ?_
    refine wpAny_nextOf_list_item (s := { s with heap := h2 }) (I2.at fun o e => (hs2.2 _ (Ne.symm n10)).trans ((hs1.2 _ n4).trans e)) (L2'.at fun o e => (hs2.2 _ k4).trans ((hs1.2 _ k1).trans e)) (x := u2) (by simpa using hu2) fun h4 t2 hs4 => ?_
    have sz : h4.objs.size = s.heap.objs.size := by rw [hs4.1, hs2.1, hs1.1]
    have pu : ∀ {c o}, h4.get? c = some o → (h4.push { cls := .type "tuple", data := .seq #[u, u2] }).get? c = some o := fun e => Heap.get?_push_of_some _ e
    refine out (T := h4.objs.size) (zo' := zHeld TI TO T0 true) (po' := po) (h' := h4.push { cls := .type "tuple", data := .seq #[u, u2] }) (Nat.le_of_eq sz.symm) (fun c o hc e => ?_) (pu ((hs4.2 _ (Ne.symm n4)).trans ((hs2.2 _ (Ne.symm n3)).trans hz1))) (pu ((hs4.2 _ n7).trans ((hs2.2 _ n6).trans ((hs1.2 _ n1).trans c2)))) (pu ((hs4.2 _ n9).trans ((hs2.2 _ n8).trans ((hs1.2 _ n2).trans c3)))) (t1.at fun o e => pu ((hs4.2 _ n10).trans e)) (t2.at fun o e => pu e) ⟨fun v e => (by cases e), Z.nc.2.1⟩ (Heap.get?_push_size _ rfl) ⟨⟨_, _, epo⟩, .inr ⟨T0, true, vs0, rfl, ?_⟩⟩
    · obtain ⟨q1, q2, q3, q4, q5⟩ := not5 hc
      exact pu ((hs4.2 _ q5).trans ((hs2.2 _ q4).trans ((hs1.2 _ q1).trans e)))
    · have ne : T0 ≠ h4.objs.size := fun e => by
        have := Heap.lt_size eT
        rw [e, sz] at this
        exact absurd this (Nat.lt_irrefl _)
      show upd W.F h4.objs.size _ T0 = _
      rw [upd_ne ne]; exact hT0
theorem ZL.free {h' : Heap} (Z : ZL X pins σ G z TI TO i1 i2 l1 l2 zo po o1 o2 ps qs vs us j W st H s) (hk : ∀ c o, c ∉ [z, TI, TO, i1, i2] → s.heap.get? c = some o → h'.get? c = some o) : Inv X pins σ H { s with heap := h' } := by
  have := pins_move (zp' := []) (t' := s.toks) Z.inv (h' := h') (fun c o hc e => hk c o (by simpa using hc) e) (fun p hp z' => Z.sepZ p (by rw [List.append_nil] at hp; exact hp) (by simpa using z')) (fun b hb => Z.cel b (by simpa using hb)) (fun p hp => nomatch hp)
  exact inv_re this fun p hp => List.mem_append_left _ hp
theorem ZL.fin {E : Value → Shared → Prop} (hh : X.A.in1.handled = none) (Z : ZL X pins σ G z TI TO i1 i2 l1 l2 zo po o1 o2 ps qs vs us j W st H s) (ph : PhL TI TO zo po W) (hj : ps.length ≤ j) :
    wpAny (model X.prog X.w) X.A (pyNext (.ref z)) (fun r s' => r = none ∧ Inv X pins σ H s') E s := by
  obtain ⟨⟨a, b, epo⟩, ph⟩ := ph
  obtain ⟨c1, c2, c3, c4, c5⟩ := Z.cells
  obtain ⟨⟨n1, n2, n3, n4⟩, ⟨n5, n6, n7⟩, ⟨n8, n9⟩, n10⟩ := nd5 Z.nd
  obtain ⟨its1, rv1, p1, _⟩ := Z.inv.list (.inl (.inl (Z.r.le _ _ Z.f1)))
  have L1 := p1.isList
  have hx : its1.toArray[j]? = none := by
    refine Array.getElem?_eq_none ?_
    rw [List.size_toArray, ← rv1.length, ← Z.r1.length]; exact hj
  have m1 : l1 ≠ z := fun e => by
    have := (Z.inv.pin (z, zo) (List.mem_append_right _ (List.mem_append_right _ (List.mem_append_left _ (by simp))))).2.1
    have h := Z.r.le _ _ Z.f1
    rw [e] at h
    rw [h] at this; cases this
  have I1 := Z.it1 _ c4
  rcases ph with ezo | ⟨T0, f, vs0, ezo, hT0⟩
  · rw [ezo] at c1
    refine zip_next_w (z := z) (TI := TI) (TO := TO) (i1 := i1) (i2 := i2) c1 c2 fun h1 hz1 hs1 => ?_
    refine wpAny_nextOf_list_end (s := { s with heap := h1 }) hh (I1.at fun o e => (hs1.2 _ n3).trans e) (L1.at fun o e => (hs1.2 _ m1).trans e) hx fun h2 e hs2 ⟨o, ho, hc⟩ => ?_
    have hz2 : IsZip h2 z TI TO .ellipsis := hs2 _ _ (Ne.symm n3) hz1
    refine ⟨e, o, rfl, ho, hc, fun k => ?_, hz2, fun h' sb => ⟨rfl, Z.free fun c o hc e => ?_⟩⟩
    · rw [k, hz2] at ho
      cases ho
      have h4 : Value.type "zip" = .type "StopIteration" := hc
      injection h4 with h4
      exact absurd h4 (by decide)
    · obtain ⟨q1, q2, q3, q4, q5⟩ := not5 hc
      exact (sb.2 _ q1).trans (hs2 _ _ q4 ((hs1.2 _ q1).trans e))
  · rw [ezo] at c1
    have hH : H T0 = some (.tup vs0) := Z.r.le _ _ hT0
    obtain ⟨_, _, _, oT, eT, _⟩ := Z.inv.hok T0 _ hH
    refine zip_next_out (z := z) (TI := TI) (TO := TO) (T := T0) (f := f) (i1 := i1) (i2 := i2) c1 eT c2 fun h1 hz1 hs1 => ?_
    refine wpAny_nextOf_list_end (s := { s with heap := h1 }) hh (I1.at fun o e => (hs1.2 _ n3).trans e) (L1.at fun o e => (hs1.2 _ m1).trans e) hx fun h2 e hs2 ⟨o, ho, hc⟩ => ?_
    refine ⟨e, o, rfl, ho, hc, rfl, Z.free fun c o hc e => ?_⟩
    obtain ⟨q1, q2, q3, q4, q5⟩ := not5 hc
    exact hs2 _ _ q4 ((hs1.2 _ q1).trans e)
theorem ZL.upd {S : Addr} {o : HO} {s' : Shared} (Z : ZL X pins σ G z TI TO i1 i2 l1 l2 zo po o1 o2 ps qs vs us j W st H s) (h1 : S ∉ own W st σ) (hF : W.F S = none) (J : Inv X (pins ++ (ZLP z TI TO i1 i2 zo po o1 o2 ++ [])) σ (L2.upd H S o) s') :
    ZL X pins σ G z TI TO i1 i2 l1 l2 zo po o1 o2 ps qs vs us j W st (L2.upd H S o) s' :=
  ⟨J, Z.r.updD h1 hF, Z.f1, Z.f2, Z.r1, Z.r2, Z.it1, Z.it2, Z.nc, Z.sepZ, Z.nd, Z.cel⟩
end
end Cl
set_option maxHeartbeats 4000000
set_option maxHeartbeats 4000000
namespace Cl
open PySem PySem.Spec PyProof.Rows L2 StX ClX
theorem FnYF.y {G : Gd} {P : Program} {w : World} {K : PySem.W.Frag} {mg : PySem.Str → Option Value} {base : Heap} {k : Nat} {f : Addr} {n : Nat} {ks N : List PySem.Str} {pl : Plan} {F : Fy} (h : FnYF G P w K mg base k f n ks N pl F) : FnY G P w K mg base k f n ks N pl F :=
  fun A outer s H us ws vs W as ys a1 a2 a3 a4 a5 a6 a7 a8 a9 => codeAny_mono (h A outer s H us ws vs W as ys a1 a2 a3 a4 a5 a6 a7 a8 a9) fun r s' ⟨D, e, m, _⟩ => ⟨D, e, m⟩
end Cl
set_option maxHeartbeats 4000000
namespace Cl
open PySem PySem.Spec PyProof.Rows L2 StX ClX
def wTys : List String := ["NoneType", "bool", "int", "str", "list", "tuple", "dict"]
def wTk : TK → Bool
  | .ty n => wTys.elem n
  | .cl _ => false
def WOk (K : PySem.W.Frag) (C : Addr) : Prop := ∀ n ∈ wTys, PySem.W.notFirst K C (.type n) = true
def faW (x : PySem.Str) : FaC := fun K => wTys.all fun n => PySem.W.notFirst K (He.ga K x) (.type n)
theorem Tx.w {fa : List FaC} {fn : List DefC} {K : PySem.W.Frag} {mg : PySem.Str → Option Value} (T : Tx fa fn K mg) (i : Nat) {x : PySem.Str} (h : fa[i]? = some (faW x) := by rfl) : WOk K (He.ga K x) := fun n hn => List.all_eq_true.mp (T.c.fact i h) n hn
section
variable {G : Gd} {X : Cx} {Wx : WX} {a b : Expr} {pos : Pos} {fa fb : Cm SV} {k : Nat} {f : Addr} {c : Nat} {Fc : List SV → Cm SV}
def cEqW (c : Nat) (Fc : List SV → Cm SV) (fa fb : Cm SV) : Cm SV := fun st => (fa st).bind fun x st1 => (fb st1).bind fun y st2 => match view st2 x, (view st2 y).bind tkOf with
  | some (.obj c1 _), some t => if c1 = c ∧ (t = TK.cl c ∨ wTk t = true) then noX (Fc [x, y] st2) else .stuck
  | _, _ => .stuck
def cNeW (c : Nat) (Fc : List SV → Cm SV) (fa fb : Cm SV) : Cm SV := fun st => (cEqW c Fc fa fb st).bind fun z st3 => match z with
  | .t (.bl b) => .ok (.t (.bl (!b))) st3
  | _ => .stuck
end
section
variable {st : ST} {fa fb : Cm SV} {c : Nat} {Fc : List SV → Cm SV}
@[simp] theorem ev_cNeW : cNeW c Fc fa fb st = (cEqW c Fc fa fb st).bind fun z st3 => match z with
  | .t (.bl b) => .ok (.t (.bl (!b))) st3
  | _ => .stuck := rfl
@[simp] theorem ev_cEqW : cEqW c Fc fa fb st = (fa st).bind fun x st1 => (fb st1).bind fun y st2 => match view st2 x, (view st2 y).bind tkOf with
  | some (.obj c1 _), some t => if c1 = c ∧ (t = TK.cl c ∨ wTk t = true) then noX (Fc [x, y] st2) else .stuck
  | _, _ => .stuck := rfl
end
end Cl
set_option maxHeartbeats 4000000
set_option maxHeartbeats 4000000
set_option maxHeartbeats 4000000
namespace Cl
open PySem PySem.Spec PyProof.Rows L2 StX ClX
section
variable {X : Cx} {pins : List (Addr × Obj)} {σ : L2.St} {H : Hp} {s : Shared} {d : Addr} {o : Obj} {ks vs : List V}
theorem Inv.frzX (I : Inv X pins σ H s) (h : H d = some (.frz o (dmO d ks vs))) : (d == sysModules) = false ∧ s.heap.get? d = some o ∧ o.ExactDict ∧ ∃ (es : Array DictEntry) (ep : Nat), o.data = .dict es ep ∧ es.size = ks.length ∧
    Vals ks (es.toList.map (·.key)) ∧ Vals vs (es.toList.map (·.val)) := by
  obtain ⟨hd, ⟨z1, z2, o', es, ep, e1, e2, e3, e4, e5⟩, _⟩ := I.hok d _ h
  rw [hd] at e1
  cases e1
  refine ⟨z1, hd, e2, es, ep, e3, ?_, e4, e5⟩
  have := Paired.length e4
  rw [List.length_map, Array.length_toList] at this
  exact this.symm
end
end Cl
set_option maxHeartbeats 4000000
namespace Cl
open PySem PySem.Spec PyProof.Rows L2 StX ClX
def leafOf : Key → Leaf
  | .inl i => .num i
  | .inr x => .text x
def bi (b : Bool) : Int := if b = true then 1 else 0
end Cl
set_option maxHeartbeats 4000000
namespace Cl
open PySem PySem.Spec PyProof.Rows L2 StX ClX
section
variable {G : Gd} {F H : Hp}
theorem RepK.keysL : ∀ {kvs : List (PV × PV)} {hs : List (Key × V)}, RepK G F kvs hs → RepL G F (kvs.map (·.1)) (hs.map fun x => kV x.1)
  | _, _, .nil => .nil
  | (k, _) :: _, _, .cons e r l => by
    refine .cons ?_ l.keysL
    cases k <;> first | (cases e; done) | skip
    · cases e; exact .int _
    · cases e; exact .str _
theorem RepK.valsL : ∀ {kvs : List (PV × PV)} {hs : List (Key × V)}, RepK G F kvs hs → RepL G F (kvs.map (·.2)) (hs.map (·.2))
  | _, _, .nil => .nil
  | (_, _) :: _, _, .cons e r l => .cons r l.valsL
end
def addX (kvs : List (PV × PV)) (k p : PV) : PV := .dmx (kvs.map (·.1) ++ [k]) (kvs.map (·.2) ++ [p])
section
variable {G : Gd} {W : Wd} {st : ST} {σ : Sg} {H : Hp}
abbrev uX (a : Addr) (hs : List (Key × V)) (vk vp : V) (od : Obj) : HO := .frz od (dmO a (hs.map (fun x => kV x.1) ++ [vk]) (hs.map (·.2) ++ [vp]))
theorem R.frzX (r : R G W st σ H) {i : Nat} {kvs : List (PV × PV)} {k p : PV} {vk vp : V} (h : st.loc[i]? = some (some (.m (.dct kvs)))) (rk : Rep G W.F k vk) (rp : Rep G W.F p vp) : ∃ a hs, σ[i]? = some (some (.ref a)) ∧ H a = some (.dK hs) ∧ RepK G W.F kvs hs ∧ ∀ od : Obj,
    R G ⟨upd W.F a (uX a hs vk vp od), W.A⟩ (st.set i (some (.t (addX kvs k p)))) σ (upd H a (uX a hs vk vp od)) ∧
    Step (own W st σ) W H (own ⟨upd W.F a (uX a hs vk vp od), W.A⟩ (st.set i (some (.t (addX kvs k p)))) σ) ⟨upd W.F a (uX a hs vk vp od), W.A⟩ (upd H a (uX a hs vk vp od)) := by
  obtain ⟨v, e1, a, rfl, hs, m, l⟩ := r.loc.get h
  have ha : a ∈ own W st σ := List.mem_append_left _ (owned_get h e1)
  obtain ⟨n1, n2, n3⟩ := List.nodup_append.mp r.nd
  obtain ⟨q1, q2⟩ := owned_frz (l0 := some (.t (addX kvs k p))) (by simp) h e1 n1
  obtain ⟨q1', q2'⟩ := owned_frz (l0 := none) (by simp) h e1 n1
  refine ⟨a, hs, e1, m, l, fun od => ?_⟩
  have fa := r.fr a ha
  have fs : Same W.F (upd W.F a (uX a hs vk vp od)) := same_upd fa
  have kr : Rep G (upd W.F a (uX a hs vk vp od)) (addX kvs k p) (.ref a) := .dmx upd_same ((l.keysL.mono fs).append (.cons (rk.mono fs) .nil)) ((l.valsL.mono fs).append (.cons (rp.mono fs) .nil))
  have sub : (own ⟨upd W.F a (uX a hs vk vp od), W.A⟩ (st.set i (some (.t (addX kvs k p)))) σ).Sublist (own W st σ) := q1.append (List.Sublist.refl _)
  have na : a ∉ own ⟨upd W.F a (uX a hs vk vp od), W.A⟩ (st.set i (some (.t (addX kvs k p)))) σ := fun z => by
    rcases List.mem_append.mp z with z | z
    · exact q2 z
    · exact n3 a (owned_get h e1) a z rfl
  refine ⟨⟨fun b u e => ?_, ?_, ?_, r.nd.sublist sub, fun b hb => ?_⟩, ⟨fs, rfl, fun b => ?_, fun b hb => .inl (sub.subset hb), fun b u e hb => ?_⟩⟩
  · have e : upd W.F a (uX a hs vk vp od) b = some u := e
    by_cases z : b = a
    · subst z; rw [upd_same] at e ⊢; exact e
    · rw [upd_ne z] at e ⊢; exact r.le b u e
  · refine RepMs.mono fs (fun b hb u e => ?_) r.inh
    have z : b ≠ a := fun z => n3 a (owned_get h e1) b hb z.symm
    rw [upd_ne z]; exact e
  · have p1 : RepLoc G W H (st.loc.set i none) (σ.set i (some (.ref a))) := RepLoc.set i r.loc fun y e => nomatch e
    rw [set_same e1] at p1
    have p2 : RepLoc G ⟨upd W.F a (uX a hs vk vp od), W.A⟩ (upd H a (uX a hs vk vp od)) (st.loc.set i none) σ := RepLoc.mono (W := W) fs (fun b hb u e => by
      have z : b ≠ a := fun z => q2' (by rw [← z]; exact hb)
      rw [upd_ne z]; exact e) p1
    have p3 := RepLoc.set (l := some (.t (addX kvs k p))) (v := some (.ref a)) i p2 fun y e => ⟨_, rfl, by cases e; exact kr⟩
    rw [set_same e1, List.set_set] at p3
    exact p3
  · have z : b ≠ a := fun z => na (by rw [← z]; exact hb)
    show upd W.F a _ b = none
    rw [upd_ne z]
    exact r.fr b (sub.subset hb)
  · by_cases z : b = a
    · subst z; exact .inr (.inr ha)
    · exact .inl (upd_ne z)
  · rw [upd_ne (fun z => hb (by rw [z]; exact ha))]; exact e
end
def tupFree (kvs : List (PV × PV)) (m : Int) : Bool := kvs.all fun kv => match kv.1 with
  | .int j => decide (hashInt j ≠ thash [m])
  | _ => false
def oddOut (n : Nat) (kvs : List (PV × PV)) (k p : PV) (st : ST) : OutS := match k with
  | .bl b => if (lookPK kvs (.int (bi b))).isSome = true then .nx (setP st (.sl n) (.dct (putPK kvs (.int (bi b)) p))) else .nx (st.set n (some (.t (addX kvs k p))))
  | .non => .nx (st.set n (some (.t (addX kvs k p))))
  | .tup _ [.int m] => if tupFree kvs m = true then .nx (st.set n (some (.t (addX kvs k p)))) else .stuck
  | k => if (keyOf k).isSome = true then .nx (setP st (.sl n) (.dct (putPK kvs k p))) else .stuck
def oddAt (x o i : SV) (st3 : ST) : OutS := match x, o, i with
  | .t p, .pl (.sl n), .t k => match st3.loc[n]? with
    | some (some (.m (.dct kvs))) => if szOk (kvs.length + 1) = true then oddOut n kvs k p st3 else .stuck
    | _ => .stuck
  | _, _, _ => .stuck
def sDOdd (fv fo fi : Cm SV) : Sm := fun st => bindS (fv st) fun x st1 => bindS (fo st1) fun o st2 => bindS (fi st2) fun i st3 => oddAt x o i st3
end Cl
set_option maxHeartbeats 4000000
namespace Cl
open PySem PySem.Spec PyProof.Rows L2 StX ClX
section
variable {G : Gd} {X : Cx} {Wx : WX}
def popO (q : PL) (i x : SV) (st3 : ST) : Out SV := match i, x with
  | .t k, .t p => match getP st3 q with
    | some (.dct kvs) => if (keyOf k).isSome = true then match lookPK kvs k with
      | some y => .ok (.t y) (setP st3 q (.dct (dropPK kvs k)))
      | none => .ok (.t p) st3
      else .stuck
    | _ => .stuck
  | _, _ => .stuck
def cPopD (fo fk fv : Cm SV) : Cm SV := fun st => (fo st).bind fun o st1 => match o with
  | .pl q => match getP st1 q with
    | some (.dct _) => (fk st1).bind fun i st2 => (fv st2).bind fun x st3 => popO q i x st3
    | _ => .stuck
  | _ => .stuck
end
def mItems (fe : Cm SV) : Cm MC := fun st => (fe st).bind fun x st1 => match view st1 x with
  | some (.dct kvs) => .ok (.lst (kvs.map fun kv => .tup .p [kv.1, kv.2])) st1
  | _ => .stuck
def sRetX (i : Nat) : Sm := fun st => match st.loc[i]? with
  | some (some (.m _)) => sRetM (mMv i) st
  | _ => sRet (cVar i) st
theorem ev_sRetX {i : Nat} {st : ST} : sRetX i st = match st.loc[i]? with
  | some (some (.m _)) => sRetM (mMv i) st
  | _ => sRet (cVar i) st := rfl
theorem ev_mItems {fe : Cm SV} {st : ST} : mItems fe st = (fe st).bind fun x st1 => match view st1 x with
  | some (.dct kvs) => .ok (.lst (kvs.map fun kv => .tup .p [kv.1, kv.2])) st1
  | _ => .stuck := rfl
theorem ev_cPopD {fo fk fv : Cm SV} {st : ST} : cPopD fo fk fv st = (fo st).bind fun o st1 => match o with
  | .pl q => match getP st1 q with
    | some (.dct _) => (fk st1).bind fun i st2 => (fv st2).bind fun x st3 => popO q i x st3
    | _ => .stuck
  | _ => .stuck := rfl
theorem ev_popO {q : PL} {i x : SV} {st3 : ST} : popO q i x st3 = match i, x with
  | .t k, .t p => match getP st3 q with
    | some (.dct kvs) => if (keyOf k).isSome = true then match lookPK kvs k with
      | some y => .ok (.t y) (setP st3 q (.dct (dropPK kvs k)))
      | none => .ok (.t p) st3
      else .stuck
    | _ => .stuck
  | _, _ => .stuck := rfl
theorem ev_sDOdd {fv fo fi : Cm SV} {st : ST} : sDOdd fv fo fi st = bindS (fv st) fun x st1 => bindS (fo st1) fun o st2 => bindS (fi st2) fun i st3 => oddAt x o i st3 := rfl
end Cl
set_option maxHeartbeats 4000000
set_option maxHeartbeats 4000000
namespace Cl
open PySem PySem.Spec PyProof.Rows L2 StX ClX
theorem pe_mkx {X : Cx} {e : Expr} {t : L2.St → Hp → XK → Prop} (h : PMk X e t) : PE X e (fun σ H Q => t σ H fun cls d H' => ∀ a, H' a = none → Q (.ref a) (upd H' a (xob a cls d))) := by
  refine ⟨fun pins s σ H Q I q => wpAny_mono (h pins s σ H _ I q) (fun u s1 hu => ?_) fun _ _ x => x⟩
  obtain ⟨a, oe, vs, sI, H', cls, d, rfl, J, k, hne, ha, hz, hd, h1, na, os, ag, r, q⟩ := hu
  refine ⟨.ref a, upd H' a (xob a cls d), ?_, rfl, q a na⟩
  have nea : ∀ {b : Addr} {o : Obj}, sI.heap.get? b = some o → b ≠ a := fun {b o} e z => by rw [z, hne] at e; cases e
  have neH : ∀ {b : Addr} {u : HO}, H' b = some u → b ≠ a := fun {b u} e z => by rw [z, na] at e; cases e
  have hok : HOk X.prog X.w (upd H' a (xob a cls d)) s1.heap := fun b u q => by
    by_cases hb : b = a
    · subst hb
      rw [upd_same] at q
      cases q
      exact ⟨⟨oe, vs, ha, hz.1, hz.2, hd⟩, ⟨oe, ha⟩, fun h1 h2 z k => by
        obtain ⟨o, vs, z1, z2, z3, z4⟩ := z
        exact ⟨o, vs, k o z1, z2, z3, z4⟩⟩
    · rw [upd_ne hb] at q
      refine ((J.hok.kept k) b u q).stay (fun c v _ z => z) (fun c z => ?_) fun c xs z => ?_
      · rw [upd_ne (neH z)]; exact z
      · rw [upd_ne (neH z)]; exact z
  have K := J.call (ch := []) (h' := s1.heap) (g' := s1.gens) (t' := s1.toks) (d' := s1.drawn) (H' := upd H' a (xob a cls d))
    ⟨fun b o e _ _ _ => k b o e, fun b o e _ _ _ => ⟨o.slots, k b o e⟩, fun b o e n _ => by rw [upd_ne (nea e)]; exact n, fun b o e _ => ⟨o, k b o e⟩,
      fun b xs e => by rw [upd_ne (neH e)]; exact e, fun b o xs e => by rw [upd_ne (neH e)]; exact e, fun b ps e => ⟨#[], by rw [upd_ne (neH e), e]; simp⟩⟩
    hok ag (fun _ z => nomatch z)
  obtain ⟨a1, a2, a3, a4, a5⟩ := s1
  have e5 : a5 = sI.os := os
  subst e5
  exact K
def cMkx (c : Nat) (f : PySem.Str) (fe : Cm SV) : Cm SV := fun st => (fe st).bind fun x st1 => match x with
  | .t p => .ok (.t (.xo c [(f, p)])) st1
  | _ => .stuck
def cMkx0 (c : Nat) : Cm SV := fun st => .ok (.t (.xo c [])) st
section
variable {G : Gd} {X : Cx} {Wx : WX} {e : Expr} {fe : Cm SV} {p pos : Pos} {x f : PySem.Str} {fI : Addr} {c : Nat} {fd : FuncData} {B newId initId : String} {tl : List Value}
theorem xo_laid {W1 : Wd} {st1 : ST} {σ : Sg} {H1 : Hp} {dx a : Addr} {v : PV} {u : V} {Q : VK} (r1 : R G W1 st1 σ H1) (q1 : Rep G W1.F v u) (hdx : H1 dx = none) (ha : upd H1 dx (.xd [(f, u)]) a = none)
    (o : OutE G Wx W1 st1 σ H1 (.ok (.t (.xo c [(f, v)])) st1) Q) : Q (.ref a) (upd (upd H1 dx (.xd [(f, u)])) a (xob a (.ref (G.cls c)) (some dx))) := by
  have r2 := r1.new (o := .xd [(f, u)]) hdx
  have s2 := r1.step_new (o := .xd [(f, u)]) hdx
  have r3 := r2.new (o := xob a (.ref (G.cls c)) (some dx)) ha
  have s3 := r2.step_new (o := xob a (.ref (G.cls c)) (some dx)) ha
  refine o _ _ (.ref a) r3 (s2.trans s3) ?_
  refine .xo upd_same (hs := [(f, u)]) (d := dx) ?_ (.cons (Rep.mono (s2.f.trans s3.f) q1) .nil)
  exact s3.f _ _ upd_same
theorem ce_mkx (T : OexF X.K (G.cls c) fI f) (hI : XIni X.prog X.w X.K X.mg X.base fI f) (room : Room 3 X.A)
    (hg : Gl X x) (hm : X.mg x = some (.ref (G.cls c))) (he : CE G X Wx e fe) (hdb : (x == ("__debug__" : PySem.Str)) = false := by decide)
    (hst : starEach [e] X.env = (false, eval e X.env) :: starEach [] X.env := by rfl) (hpl : (backTo pos (starEach [] X.env)).any (·.1) = false := by rfl) :
    CE G X Wx (.Call (.Name x p) [e] [] pos) (cMkx c f fe) := by
  obtain ⟨fd, F1, hb⟩ := hI
  refine ⟨pe_imp (pe_mkx (pmk_oex T.oex T.ini T.tI F1 room hb .nil (fun _ _ _ _ _ _ _ h => by
    obtain ⟨_, _, _, _, _, _, _, _, _, _, _, _, z⟩ := h
    exact z.elim) hg hm (pa_cons he.pe pa_nil (by exact hst)) hdb hst hpl)) fun σ H Q ⟨W, st, r, o⟩ => ?_⟩
  refine tA_mono (tA_then (rel := RepS G) (rel' := RepS G) r o) fun u H1 ⟨W1, st1, v, r1, _, _, q1, o1⟩ => ?_
  split at o1
  · rename_i p
    refine ⟨by simp, fun a ha => ?_⟩
    refine ⟨a, G.cls c, u, rfl, T.oex, T.no, upd_same, fun dx hdx hne => ⟨rfl, dx, [(f, u)], upd_same, ?_, ?_, ?_⟩⟩
    · rw [upd_ne hne, upd_same]
    · rw [upd_ne hne] at hdx; exact hdx
    · rw [upd_ne hne] at hdx
      rw [upd_exo ha hne]
      exact fun a' ha' => xo_laid r1 q1 hdx ha' o1
  · exact o1.elim
theorem ce_mkxG (XB : XBase B newId initId tl) (T : OexGF X.K (G.cls c) fI f newId tl) (hI : XIniG X.prog X.w X.K X.mg X.base fI f newId tl) (room : Room 3 X.A)
    (hg : Gl X x) (hm : X.mg x = some (.ref (G.cls c))) (he : CE G X Wx e fe) (hdb : (x == ("__debug__" : PySem.Str)) = false := by decide)
    (hst : starEach [e] X.env = (false, eval e X.env) :: starEach [] X.env := by rfl) (hpl : (backTo pos (starEach [] X.env)).any (·.1) = false := by rfl) :
    CE G X Wx (.Call (.Name x p) [e] [] pos) (cMkx c f fe) := by
  obtain ⟨fd, F1, hb⟩ := hI
  refine ⟨pe_imp (pe_mkx (pmkG XB T.oex T.ini T.tI F1 room hb (fun _ _ _ _ _ _ _ h => by
    obtain ⟨_, _, _, _, _, _, _, _, _, _, _, _, z⟩ := h
    exact z.elim) hg hm (pa_cons he.pe pa_nil (by exact hst)) hdb hst hpl)) fun σ H Q ⟨W, st, r, o⟩ => ?_⟩
  refine tA_mono (tA_then (rel := RepS G) (rel' := RepS G) r o) fun u H1 ⟨W1, st1, v, r1, _, _, q1, o1⟩ => ?_
  split at o1
  · rename_i p
    refine ⟨by simp, fun a ha => ?_⟩
    refine ⟨a, G.cls c, u, rfl, T.oex, T.no, upd_same, fun dx hdx hne => ⟨rfl, dx, [(f, u)], upd_same, ?_, ?_, ?_⟩⟩
    · rw [upd_ne hne, upd_same]
    · rw [upd_ne hne] at hdx; exact hdx
    · rw [upd_ne hne] at hdx
      rw [upd_exo ha hne]
      exact fun a' ha' => xo_laid r1 q1 hdx ha' o1
  · exact o1.elim
theorem ce_mkxN (XB : XBase B newId initId tl) (T : OexN X.K (G.cls c) fI newId tl) (hI : XIniN X.prog X.w X.K X.mg X.base fI newId tl) (room : Room 3 X.A)
    (hg : Gl X x) (hm : X.mg x = some (.ref (G.cls c))) (hdb : (x == ("__debug__" : PySem.Str)) = false := by decide) :
    CE G X Wx (.Call (.Name x p) [] [] pos) (cMkx0 c) := by
  obtain ⟨fd, F1, hb⟩ := hI
  refine ⟨pe_imp (pe_mkx (pmkN XB T.oex T.ini T.tI F1 room hb (fun _ _ _ _ _ _ _ h => by
    obtain ⟨_, _, _, _, _, _, _, _, _, _, _, _, z⟩ := h
    exact z.elim) hg hm hdb)) fun σ H Q ⟨W, st, r, o⟩ => ?_⟩
  intro a ha
  refine ⟨a, G.cls c, rfl, T.oex, upd_same, rfl, upd_same, ?_⟩
  have e : del (upd H a (exo a (G.cls c) none)) a = H := funext fun b => (Classical.em (b = a)).elim (fun z => by rw [z, del_same, ha]) fun z => by rw [del_ne z, upd_ne z]
  rw [e]
  intro a' ha'
  have r3 := r.new (o := xob a' (.ref (G.cls c)) none) ha'
  have s3 := r.step_new (o := xob a' (.ref (G.cls c)) none) ha'
  exact o _ _ (.ref a') r3 s3 (.xo0 upd_same)
end
end Cl
set_option maxHeartbeats 4000000
namespace PySem
namespace HandSPX
open Sem (wp)
open Builtin Builtin.ObjectAttr
section
variable {M : Model} {A : Around} {E : Value → Shared → Prop} {h : Heap} {g : Array GenState} {d : Drawn} {t : Nat} {os : OsState}
variable {nm q : Str} {C N : Addr} {bs bm bmB : List Value} {hdct : Bool} {sn : List Str} {sub : List Value} {ab : Bool} {col : Option Bool} {dd : Option Addr} {k0 k1 k2 k3 k5 : Option Value} {B newId initId : String}
theorem check_new_ownK (F : ExcBaseFacts B newId initId bmB) (hT : ∀ X : String, bm.contains (.type X) = bmB.contains (.type X)) {rest : List Value} {kw : List (Str × Value)} {Q : Unit → Shared → Prop}
    (hC : h.get? C = some (excClassObj nm q C N bs bm hdct sn sub ab col dd k0 k1 k2 k3 k5 newId)) (hq : Q () ⟨h, g, d, t, os⟩) : wpAny M A (checkBuiltinCall newId ⟨.ref C :: rest, kw⟩) Q E ⟨h, g, d, t, os⟩ := by
  have hcont : (Value.ref C :: bm).contains (.type B) = true := by rw [List.contains_cons, hT, F.hasB, Bool.or_true]
  have hstar := F.noStar
  simp only [checkBuiltinCall, F.newKind, F.newSplit, F.newRow]
  repeat (first | refine wpAny_loadPart_at hC ?_ | (refine wpAny_isSubtype_exc hC ?_; rw [hcont]) | refine wpAny_staticBase_exc hC ?_ | refine wpAny_madeBy_exc hC ?_ | simp only [bne_self_eq_false, Bool.false_eq_true, if_false] | wp_step)
  exact hq
end
section
variable {prog : Program} {w : World} {A : Around} {E : Value → Shared → Prop} {R : Result → Shared → Prop} {h : Heap} {g : Array GenState} {d : Drawn} {t : Nat} {os : OsState}
variable {nm q : Str} {C N : Addr} {bs bm bmB : List Value} {hdct : Bool} {sn : List Str} {sub : List Value} {ab : Bool} {col : Option Bool} {dd : Option Addr} {k0 k1 k2 k3 k5 : Option Value} {B newId initId : String}
theorem new_ownK (F : ExcBaseFacts B newId initId bmB) (hT : ∀ X : String, bm.contains (.type X) = bmB.contains (.type X)) {rest : List Value} {kw : List (Str × Value)}
    (hC : h.get? C = some (excClassObj nm q C N bs bm hdct sn sub ab col dd k0 k1 k2 k3 k5 newId))
    (hq : R (.ok (.ret (.ref (h.objs.size + 1)))) ⟨(h.push { cls := .type "tuple", data := .seq rest.toArray }).push
      { cls := .ref C, data := .fields #[.ref h.objs.size, .none, .none, .none, .bool false, .none] }, g, d, t, os⟩) (hrest : rest.length ≤ sizeLine) :
    codeAny (model prog w) A (.builtin newId ⟨.ref C :: rest, kw⟩) R ⟨h, g, d, t, os⟩ := by
  have hends := F.ends
  have hcB : (Value.ref C :: bm).contains (.type B) = true := by rw [List.contains_cons, hT, F.hasB, Bool.or_true]
  have hcA : (Value.ref C :: bm).contains (.type "AttributeError") = false := by rw [List.contains_cons, hT, F.noAttr]; rfl
  have hcN : (Value.ref C :: bm).contains (.type "NameError") = false := by rw [List.contains_cons, hT, F.noName]; rfl
  refine codeAny_builtinAt F.entry ?_
  unfold Builtin.«BaseException.__new__»
  refine wpAt_bind ?_
  show wpAt _ _ _ (stack >>= _) _ _ _
  refine wpAt_bind (wpAt_stack fun p below => wpAt_of_wpAny ?_)
  wp_walk
  refine wpAt_of_wpAny ?_
  rw [F.owner]
  repeat (first | with_reducible refine wpAny_madeHere_exc F.canon hC ?_ | with_reducible refine wpAny_loadPart_at hC ?_ | (with_reducible refine wpAny_isSubtype_exc hC ?_; first | rw [hcB] | rw [hcA] | rw [hcN]) | wp_step)
  show R _ _
  rw [Heap.size_push]
  exact hq
theorem type_call_ownK (F : ExcBaseFacts B newId initId bmB) (hT : ∀ X : String, bm.contains (.type X) = bmB.contains (.type X)) {rest : List Value} {kw : List (Str × Value)} {fI : Addr} {Q : Fin → Shared → Prop}
    (hC : h.get? C = some (excClassObj nm q C N bs bm hdct sn sub ab col dd k0 k1 k2 k3 k5 newId))
    (hi : W.Looks (model prog w) h (typeLookup (.ref C) "__init__") (some (.ref fI))) (hb : ∀ self, W.Looks (model prog w) h (bindSpecial (.ref fI) self) (.ref fI, [self])) (hrest : rest.length ≤ sizeLine)
    (hq : codeAny (model prog w) A (.call (.ref fI) ⟨.ref (h.objs.size + 1) :: rest, kw⟩)
      (fun r s' => match r with | .ok (.ret v) => v = .none ∧ Q (.done (.ret (.ref (h.objs.size + 1)))) s' | .ok _ => False | .error e => E e s')
      ⟨(h.push (W.kdv_tup rest)).push (excO C h.objs.size), g, d, t, os⟩) :
    wpAny (model prog w) A (Builtin.«type.__call__» ⟨.ref C :: rest, kw⟩) Q E ⟨h, g, d, t, os⟩ := by
  repeat (first | with_reducible refine wpAny_loadPart_at hC ?_ | with_reducible refine wpAny_madeBy_exc hC ?_ | wp_step)
  refine codeAny_call_builtin_code (Code.quiet_builtin _ F.quiet) (check_new_ownK F hT hC ?_)
  refine new_ownK F hT hC ?_ hrest
  show wpAny _ _ _ _ _ _
  have k : ∀ b o, h.get? b = some o → ((h.push (W.kdv_tup rest)).push (excO C h.objs.size)).get? b = some o := fun b o e => Heap.get?_push_of_some _ (Heap.get?_push_of_some _ e)
  have hC₁ := k _ _ hC
  have hget : ((h.push (W.kdv_tup rest)).push (excO C h.objs.size)).get? (h.objs.size + 1) = some (excO C h.objs.size) := by heap_get
  have hcC : (Value.ref C :: bm).contains (.ref C) = true := by simp
  have i1 := hi.keeps k
  have b1 := (hb (.ref (h.objs.size + 1))).keeps k
  unfold isInstance
  repeat (first | with_reducible refine wpAny_loadPart_at hget ?_ | (with_reducible refine wpAny_isSubtype_exc hC₁ ?_; rw [hcC]) | wp_step)
  show wpAny _ _ (typeLookup (.ref C) _) _ _ _
  refine i1.at ?_
  refine wpAny_holding (wpAny_bind (b1.at ?_))
  refine wpAny_bind (wpAny_call (codeAny_mono hq fun r s' z => ?_))
  rcases r with e | (v | _ | _ | _) <;> first | exact z | exact z.elim | skip
  obtain ⟨rfl, z⟩ := z
  first
    | exact wpAny_pure (wpAny_pure z)
    | (wp_walk; exact z)
theorem call_ownK (F : ExcBaseFacts B newId initId bmB) (hT : ∀ X : String, bm.contains (.type X) = bmB.contains (.type X)) {rest : List Value} {kw : List (Str × Value)} {fI : Addr}
    (hC : h.get? C = some (excClassObj nm q C N bs bm hdct sn sub ab col dd k0 k1 k2 k3 k5 newId))
    (hi : W.Looks (model prog w) h (typeLookup (.ref C) "__init__") (some (.ref fI))) (hb : ∀ self, W.Looks (model prog w) h (bindSpecial (.ref fI) self) (.ref fI, [self])) (hrest : rest.length ≤ sizeLine)
    (hq : codeAny (model prog w) (A.under (.builtin "type.__call__" ⟨.ref C :: rest, kw⟩)) (.call (.ref fI) ⟨.ref (h.objs.size + 1) :: rest, kw⟩) (W.InitBack (h.objs.size + 1) R)
      ⟨(h.push (W.kdv_tup rest)).push (excO C h.objs.size), g, d, t, os⟩) :
    codeAny (model prog w) A (.call (.ref C) ⟨rest, kw⟩) R ⟨h, g, d, t, os⟩ := by
  have f1 := tc_lookup
  have f2 := tc_bind (.ref C)
  have hTy : (⟨h, g, d, t, os⟩ : Shared).TypeIs (.ref C) "type" := ⟨_, hC, rfl⟩
  refine codeAny_of_tree ?_
  show wpAny _ _ (callAny (.ref C) _) _ _ _
  repeat (any_goals (first | assumption | with_reducible refine wpAny_loadPart_at hC ?_ | wp_step))
  refine ⟨rfl, ?_⟩
  refine codeAny_call_builtin_at (Code.quiet_builtin _ (by decide +kernel)) entry_typeCall (wpAny_check_type_call_sub hC (type_call_ownK F hT hC hi hb hrest ?_))
  refine codeAny_mono hq fun r s' z => ?_
  rcases r with e | (v | _ | _ | _) <;> exact z
end
end HandSPX
end PySem
namespace Cl
open PySem PySem.Spec PyProof.Rows L2 StX ClX
section
variable {X : Cx} {kws : List Keyword} {ta : TA} {f x : PySem.Str} {p pos : Pos} {B newId initId : String} {tl : List Value}
theorem pmkKG {CX : CXT} {C fI : Addr} {k : Nat} {fd : FuncData} {sp : Sp} (XB : XBase B newId initId tl) (T : OexG X.K C newId tl) (iC : PySem.W.findIn X.K (.ref C) "__init__" = some (some (.ref fI))) (tI : PySem.W.typeIn X.K (.ref fI) = some (.type "function"))
    (F1 : FnOk X.prog X.w X.K X.mg X.base CX k fI fd ["self", f] sp) (hr : Room (k + 1) X.A) (hb : Bd X.K fd ["self", f] 1 [f] [.inl 0, .inl 1]) (hx : Passes CX X (fun _ _ _ => False)) (hg : Gl X x) (hm : X.mg x = some (.ref C)) (ha : PK X kws ta)
    (hall : (backToKw pos (keywordEach kws X.env)).all (·.1.isSome) = true) (hks : (backToKw pos (keywordEach kws X.env)).filterMap (·.1) = [f])
    (hdb : (x == ("__debug__" : PySem.Str)) = false) (hpl : ((backTo pos (starEach [] X.env)).any (·.1) || (backToKw pos (keywordEach kws X.env)).any (·.1.isNone)) = false) :
    PMk X (.Call (.Name x p) [] kws pos) (tMkG C sp ta) := by
  intro pins s σ H Q I h
  obtain ⟨nm, q, N, bs, sn, sub, ab, col, dd, k0, k1, k2, k3, k5, hC⟩ := T.cls
  refine wpAny_Call_Name_kw (ld_glob I hg hm ?_ hdb)
  refine PySem.W.callWith_KW0 (h₀ := X.base) I.ok.mod.kin T.kC hall (thn (ha.run pos pins s σ H _ I h) fun ws s1 ⟨vs, H1, I1, r1, hz, q1⟩ => ⟨I1.kIn, ?_⟩) hpl
  rw [hks]
  obtain ⟨hp, g, dr, tk, os⟩ := s1
  have fresh : H1 (hp.objs.size + 1) = none := I1.hok.fresh (Nat.le_succ _)
  have hq := q1 (hp.objs.size + 1) fresh
  have keep : ∀ b o, hp.get? b = some o → ((hp.push (PySem.W.kdv_tup [])).push (PySem.HandSPX.excO C hp.objs.size)).get? b = some o := fun b o e => Heap.get?_push_of_some _ (Heap.get?_push_of_some _ e)
  have made : ((hp.push (PySem.W.kdv_tup [])).push (PySem.HandSPX.excO C hp.objs.size)).get? (hp.objs.size + 1) = some (PySem.HandSPX.excO C hp.objs.size) := by heap_get
  have I2 : Inv X pins σ (upd H1 (hp.objs.size + 1) (exo (hp.objs.size + 1) C none)) ⟨(hp.push (PySem.W.kdv_tup [])).push (PySem.HandSPX.excO C hp.objs.size), g, dr, tk, os⟩ := I1.laid (t' := tk) keep (Nat.le_succ _) (exo_ok made)
  have r2 : Vals (V.ref (hp.objs.size + 1) :: vs) (Value.ref (hp.objs.size + 1) :: ws) := .cons rfl r1
  have hl : vs.length = 1 := by
    have := F1.len _ _ _ _ hq
    simpa using this
  obtain ⟨v0, rfl⟩ : ∃ v, vs = [v] := List.length_eq_one_iff.mp hl
  have hw : ws.length = [f].length := by rw [← Paired.length r1]; rfl
  obtain ⟨bz, hbt, hbl, hbv⟩ := hb _ [Value.ref (hp.objs.size + 1)] ws I2.kIn rfl hw
  refine wpAny_call (PySem.HandSPX.call_ownK XB.eb (fun _ => rfl) (I1.kIn _ _ hC) (PySem.W.looks_findIn I1.kIn iC) (fun self => PySem.W.bind_fn I1.kIn self tI) (Nat.zero_le _)
    (codeAny_mono (F1.run _ X.stack _ _ ⟨[Value.ref (hp.objs.size + 1)], [f].zip ws⟩ bz _ _ (fun _ _ _ => False) (hr.make C [] ([f].zip ws)) (I2.env0.make C [] ([f].zip ws)) hbt (hbv _ r2) hq) fun r s' hq' => ?_))
  cases r with
  | error er => exact hx pins σ _ _ er s' I2 hq'
  | ok fl =>
    cases fl with
    | ret u =>
      obtain ⟨v, H2, os2, bare2, un2, hok2, rv, ev, d, fs, ea, ed, hd1, q2⟩ := hq'
      subst ev
      obtain ⟨h2, g2, d2, t2, os'⟩ := s'
      exact ⟨rv, mk_end (raises_own T.exC T.tyC) I1 (Nat.le_succ _) keep un2 hok2 os2 bare2 ea ed hd1 q2⟩
    | next => exact False.elim hq'
    | brk => exact False.elim hq'
    | cont => exact False.elim hq'
theorem pmkK {CX : CXT} {C fI : Addr} {k : Nat} {fd : FuncData} {sp : Sp} (T : OexC X.K C) (iC : PySem.W.findIn X.K (.ref C) "__init__" = some (some (.ref fI))) (tI : PySem.W.typeIn X.K (.ref fI) = some (.type "function"))
    (F1 : FnOk X.prog X.w X.K X.mg X.base CX k fI fd ["self", f] sp) (hr : Room (k + 1) X.A) (hb : Bd X.K fd ["self", f] 1 [f] [.inl 0, .inl 1]) (hx : Passes CX X (fun _ _ _ => False)) (hg : Gl X x) (hm : X.mg x = some (.ref C)) (ha : PK X kws ta)
    (hall : (backToKw pos (keywordEach kws X.env)).all (·.1.isSome) = true) (hks : (backToKw pos (keywordEach kws X.env)).filterMap (·.1) = [f])
    (hdb : (x == ("__debug__" : PySem.Str)) = false) (hpl : ((backTo pos (starEach [] X.env)).any (·.1) || (backToKw pos (keywordEach kws X.env)).any (·.1.isNone)) = false) :
    PMk X (.Call (.Name x p) [] kws pos) (tMkG C sp ta) := by
  intro pins s σ H Q I h
  obtain ⟨nm, q, N, bs, bm, sn, sub, ab, col, dd, k0, k1, k2, k3, k5, hC, hbm⟩ := T.cls
  refine wpAny_Call_Name_kw (ld_glob I hg hm ?_ hdb)
  refine PySem.W.callWith_KW0 (h₀ := X.base) I.ok.mod.kin T.kC hall (thn (ha.run pos pins s σ H _ I h) fun ws s1 ⟨vs, H1, I1, r1, hz, q1⟩ => ⟨I1.kIn, ?_⟩) hpl
  rw [hks]
  obtain ⟨hp, g, dr, tk, os⟩ := s1
  have fresh : H1 (hp.objs.size + 1) = none := I1.hok.fresh (Nat.le_succ _)
  have hq := q1 (hp.objs.size + 1) fresh
  have keep : ∀ b o, hp.get? b = some o → ((hp.push (PySem.W.kdv_tup [])).push (PySem.HandSPX.excO C hp.objs.size)).get? b = some o := fun b o e => Heap.get?_push_of_some _ (Heap.get?_push_of_some _ e)
  have made : ((hp.push (PySem.W.kdv_tup [])).push (PySem.HandSPX.excO C hp.objs.size)).get? (hp.objs.size + 1) = some (PySem.HandSPX.excO C hp.objs.size) := by heap_get
  have I2 : Inv X pins σ (upd H1 (hp.objs.size + 1) (exo (hp.objs.size + 1) C none)) ⟨(hp.push (PySem.W.kdv_tup [])).push (PySem.HandSPX.excO C hp.objs.size), g, dr, tk, os⟩ := I1.laid (t' := tk) keep (Nat.le_succ _) (exo_ok made)
  have r2 : Vals (V.ref (hp.objs.size + 1) :: vs) (Value.ref (hp.objs.size + 1) :: ws) := .cons rfl r1
  have hl : vs.length = 1 := by
    have := F1.len _ _ _ _ hq
    simpa using this
  obtain ⟨v0, rfl⟩ : ∃ v, vs = [v] := List.length_eq_one_iff.mp hl
  have hw : ws.length = [f].length := by rw [← Paired.length r1]; rfl
  obtain ⟨bz, hbt, hbl, hbv⟩ := hb _ [Value.ref (hp.objs.size + 1)] ws I2.kIn rfl hw
  refine wpAny_call (PySem.HandSPX.call_ownK F.excBase_ValueError (fun Y => PySem.HandSPX.refsVE_contains Y bm hbm) (I1.kIn _ _ hC) (PySem.W.looks_findIn I1.kIn iC) (fun self => PySem.W.bind_fn I1.kIn self tI) (Nat.zero_le _)
    (codeAny_mono (F1.run _ X.stack _ _ ⟨[Value.ref (hp.objs.size + 1)], [f].zip ws⟩ bz _ _ (fun _ _ _ => False) (hr.make C [] ([f].zip ws)) (I2.env0.make C [] ([f].zip ws)) hbt (hbv _ r2) hq) fun r s' hq' => ?_))
  cases r with
  | error er => exact hx pins σ _ _ er s' I2 hq'
  | ok fl =>
    cases fl with
    | ret u =>
      obtain ⟨v, H2, os2, bare2, un2, hok2, rv, ev, d, fs, ea, ed, hd1, q2⟩ := hq'
      subst ev
      obtain ⟨h2, g2, d2, t2, os'⟩ := s'
      exact ⟨rv, mk_end (raises_own T.exC T.tyC) I1 (Nat.le_succ _) keep un2 hok2 os2 bare2 ea ed hd1 q2⟩
    | next => exact False.elim hq'
    | brk => exact False.elim hq'
    | cont => exact False.elim hq'
end
def XIniK (P : Program) (w : World) (K : PySem.W.Frag) (mg : PySem.Str → Option Value) (base : Heap) (fI : Addr) (f : PySem.Str) : Prop :=
  ∃ fd, FnOk P w K mg base (L2.CX P w) 2 fI fd ["self", f] (spXi K f) ∧ Bd K fd ["self", f] 1 [f] [.inl 0, .inl 1]
def XIniGK (P : Program) (w : World) (K : PySem.W.Frag) (mg : PySem.Str → Option Value) (base : Heap) (fI : Addr) (f : PySem.Str) (newId : String) (tl : List Value) : Prop :=
  ∃ fd, FnOk P w K mg base (L2.CX P w) 2 fI fd ["self", f] (spXg K f newId tl) ∧ Bd K fd ["self", f] 1 [f] [.inl 0, .inl 1]
section
variable {G : Gd} {X : Cx} {Wx : WX} {e : Expr} {fe : Cm SV} {p pos kpos : Pos} {x f : PySem.Str} {fI : Addr} {c : Nat} {fd : FuncData} {B newId initId : String} {tl : List Value}
theorem ce_mkxK (T : OexF X.K (G.cls c) fI f) (hI : XIniK X.prog X.w X.K X.mg X.base fI f) (room : Room 3 X.A)
    (hg : Gl X x) (hm : X.mg x = some (.ref (G.cls c))) (he : CE G X Wx e fe) (hdb : (x == ("__debug__" : PySem.Str)) = false := by decide)
    (hall : (backToKw pos (keywordEach [⟨some f, e, kpos⟩] X.env)).all (·.1.isSome) = true := by rfl) (hks : (backToKw pos (keywordEach [⟨some f, e, kpos⟩] X.env)).filterMap (·.1) = [f] := by rfl)
    (hpl : ((backTo pos (starEach [] X.env)).any (·.1) || (backToKw pos (keywordEach [⟨some f, e, kpos⟩] X.env)).any (·.1.isNone)) = false := by rfl) :
    CE G X Wx (.Call (.Name x p) [] [⟨some f, e, kpos⟩] pos) (cMkx c f fe) := by
  obtain ⟨fd, F1, hb⟩ := hI
  refine ⟨pe_imp (pe_mkx (pmkK T.oex T.ini T.tI F1 room hb (fun _ _ _ _ _ _ _ h => by
    obtain ⟨_, _, _, _, _, _, _, _, _, _, _, _, z⟩ := h
    exact z.elim) hg hm (pk_cons he.pe pk_nil) hall hks hdb hpl)) fun σ H Q ⟨W, st, r, o⟩ => ?_⟩
  refine tA_mono (tA_then (rel := RepS G) (rel' := RepS G) r o) fun u H1 ⟨W1, st1, v, r1, _, _, q1, o1⟩ => ?_
  split at o1
  · rename_i p
    refine ⟨by simp, fun a ha => ?_⟩
    refine ⟨a, G.cls c, u, rfl, T.oex, T.no, upd_same, fun dx hdx hne => ⟨rfl, dx, [(f, u)], upd_same, ?_, ?_, ?_⟩⟩
    · rw [upd_ne hne, upd_same]
    · rw [upd_ne hne] at hdx; exact hdx
    · rw [upd_ne hne] at hdx
      rw [upd_exo ha hne]
      exact fun a' ha' => xo_laid r1 q1 hdx ha' o1
  · exact o1.elim
theorem ce_mkxGK (XB : XBase B newId initId tl) (T : OexGF X.K (G.cls c) fI f newId tl) (hI : XIniGK X.prog X.w X.K X.mg X.base fI f newId tl) (room : Room 3 X.A)
    (hg : Gl X x) (hm : X.mg x = some (.ref (G.cls c))) (he : CE G X Wx e fe) (hdb : (x == ("__debug__" : PySem.Str)) = false := by decide)
    (hall : (backToKw pos (keywordEach [⟨some f, e, kpos⟩] X.env)).all (·.1.isSome) = true := by rfl) (hks : (backToKw pos (keywordEach [⟨some f, e, kpos⟩] X.env)).filterMap (·.1) = [f] := by rfl)
    (hpl : ((backTo pos (starEach [] X.env)).any (·.1) || (backToKw pos (keywordEach [⟨some f, e, kpos⟩] X.env)).any (·.1.isNone)) = false := by rfl) :
    CE G X Wx (.Call (.Name x p) [] [⟨some f, e, kpos⟩] pos) (cMkx c f fe) := by
  obtain ⟨fd, F1, hb⟩ := hI
  refine ⟨pe_imp (pe_mkx (pmkKG XB T.oex T.ini T.tI F1 room hb (fun _ _ _ _ _ _ _ h => by
    obtain ⟨_, _, _, _, _, _, _, _, _, _, _, _, z⟩ := h
    exact z.elim) hg hm (pk_cons he.pe pk_nil) hall hks hdb hpl)) fun σ H Q ⟨W, st, r, o⟩ => ?_⟩
  refine tA_mono (tA_then (rel := RepS G) (rel' := RepS G) r o) fun u H1 ⟨W1, st1, v, r1, _, _, q1, o1⟩ => ?_
  split at o1
  · rename_i p
    refine ⟨by simp, fun a ha => ?_⟩
    refine ⟨a, G.cls c, u, rfl, T.oex, T.no, upd_same, fun dx hdx hne => ⟨rfl, dx, [(f, u)], upd_same, ?_, ?_, ?_⟩⟩
    · rw [upd_ne hne, upd_same]
    · rw [upd_ne hne] at hdx; exact hdx
    · rw [upd_ne hne] at hdx
      rw [upd_exo ha hne]
      exact fun a' ha' => xo_laid r1 q1 hdx ha' o1
  · exact o1.elim
end
end Cl
set_option maxHeartbeats 4000000
namespace Cl
open PySem PySem.Spec PyProof.Rows L2 StX ClX
noncomputable def uniS (f : Addr → OutS) : OutS := open Classical in if h : ∃ o, ∀ a, f a = o then h.choose else .stuck
theorem uniS_eq {f : Addr → OutS} {o : OutS} (h : ∀ a, f a = o) : uniS f = o := by
  unfold uniS
  have e : ∃ o, ∀ a, f a = o := ⟨o, h⟩
  rw [dif_pos e]
  exact (e.choose_spec 0).symm.trans (h 0)
theorem uniS_or (f : Addr → OutS) (a : Addr) : uniS f = .stuck ∨ uniS f = f a := by
  unfold uniS
  split
  · rename_i e
    exact .inr (e.choose_spec a).symm
  · exact .inl rfl
section
variable {G : Gd} {X : Cx} {Wx : WX} {σ : Sg} {H : Hp} {W : Wd} {st : ST}
theorem eSb {α β : Type} {rel : Wd → Sg → α → β → Prop} {f : Cm α} {k : α → ST → OutS} {D : Ends} {H2 : Hp} (r : R G W st σ H2) (s0 : Step (own W st σ) W H (own W st σ) W H2) (h : OutSA G Wx W st σ H (bindS (f st) k) D) :
    tA G Wx rel f σ H2 fun u H1 => ∃ W1 st1 v, R G W1 st1 σ H1 ∧ Step (own W st σ) W H2 (own W1 st1 σ) W1 H1 ∧ rel W1 σ v u ∧ OutSA G Wx W st σ H (k v st1) D := by
  refine ⟨W, st, r, ?_⟩
  cases e : f st with
  | ok v st' =>
    rw [e] at h
    exact fun W' H' u r' s q => ⟨W', st', v, r', s, q, h⟩
  | exc c fs st' =>
    rw [e] at h
    exact fun W' H' d r' s q => h W' σ H' d r' (s0.trans s) q
  | stuck => rw [e] at h; exact h
noncomputable def sPickA (i : Nat) (f1 f2 f3 f4 f5 fi : Cm SV) (g : Sm) : Sm := fun st =>
  bindS (f1 st) fun x1 st => bindS (f2 st) fun x2 st => bindS (f3 st) fun x3 st => bindS (f4 st) fun x4 st => bindS (f5 st) fun x5 st =>
    bindS (fi st) fun z st => match x1, x2, x3, x4, x5, z with
      | .t p1, .t p2, .t p3, .t p4, .t p5, .t (.int k) =>
        if k = 4 then uniS fun a => g (st.set i (some (.m (.lsA a [p5]))))
        else if k = 0 then g (st.set i (some (.t p1)))
        else if k = 1 then g (st.set i (some (.t p2)))
        else if k = 2 then g (st.set i (some (.t p3)))
        else if k = 3 then g (st.set i (some (.t p4)))
        else .stuck
      | _, _, _, _, _, _ => .stuck
variable {e1 e2 e3 e4 e5 b : Expr} {f1 f2 f3 f4 f5 fi : Cm SV} {pos posA pos2 pos3 : Pos} {g : Sm} {rest : List Stmt}
theorem css_pickA {i : Nat} {x : PySem.Str} {pos' : Pos} (hN : X.N.Nodup) (hi : X.N[i]? = some x) (hx : Loc X.env.scope x) (h1 : CE G X Wx e1 f1) (h2 : CE G X Wx e2 f2) (h3 : CE G X Wx e3 f3) (h4 : CE G X Wx e4 f4) (h5 : CE G X Wx e5 f5) (hb : CE G X Wx b fi) (hr : CSs G X Wx rest g)
    (t1 : starEach [e1, e2, e3, e4, .List [e5] pos3] X.env = (false, eval e1 X.env) :: starEach [e2, e3, e4, .List [e5] pos3] X.env := by rfl)
    (t2 : starEach [e2, e3, e4, .List [e5] pos3] X.env = (false, eval e2 X.env) :: starEach [e3, e4, .List [e5] pos3] X.env := by rfl)
    (t3 : starEach [e3, e4, .List [e5] pos3] X.env = (false, eval e3 X.env) :: starEach [e4, .List [e5] pos3] X.env := by rfl)
    (t4 : starEach [e4, .List [e5] pos3] X.env = (false, eval e4 X.env) :: starEach [.List [e5] pos3] X.env := by rfl)
    (t5 : starEach [.List [e5] pos3] X.env = (false, eval (.List [e5] pos3) X.env) :: starEach [] X.env := by rfl)
    (t6 : starEach [e5] X.env = (false, eval e5 X.env) :: starEach [] X.env := by rfl)
    (hp : PlainIx b := by exact fun _ _ => rfl)
    (hs : swapsWith (.Subscript (.List [e1, e2, e3, e4, .List [e5] pos3] pos2) b pos) (some (.Name x pos')) posA.line X.env = pure false := by rfl)
    (hf : X.fn x = true ∨ X.env.scope.names.lookup x = some .local := by first | exact .inl rfl | exact .inr rfl | assumption) :
    CSs G X Wx (.Assign [.Name x pos'] (.Subscript (.List [e1, e2, e3, e4, .List [e5] pos3] pos2) b pos) posA :: rest) (sPickA i f1 f2 f3 f4 f5 fi g) := by
  have pe := pe_ix (pos := pos) (ix_seq (X := X)) (pe_lst (pos := pos2) (pa_cons h1.pe (pa_cons h2.pe (pa_cons h3.pe (pa_cons h4.pe (pa_cons (pe_lst (pos := pos3) (pa_cons h5.pe pa_nil t6)) pa_nil t5) t4) t3) t2) t1)) hb.pe hp
  refine ⟨pss_imp (pss_cons (ps_set hN hi hx pe hs hf) hr.pss) fun D σ H ⟨W, st, r, o⟩ => ?_⟩
  refine tA_mono (eS (rel := RepS G) r o) fun v1 H1 ⟨W1, st1, x1, r1, m1, a1, q1, o1⟩ => ?_
  refine tA_mono (eS (rel := RepS G) r1 o1) fun v2 H2 ⟨W2, st2, x2, r2, m2, a2, q2, o2⟩ => ?_
  refine tA_mono (eS (rel := RepS G) r2 o2) fun v3 H3 ⟨W3, st3, x3, r3, m3, a3, q3, o3⟩ => ?_
  refine tA_mono (eS (rel := RepS G) r3 o3) fun v4 H4 ⟨W4, st4, x4, r4, m4, a4, q4, o4⟩ => ?_
  refine tA_mono (eS (rel := RepS G) r4 o4) fun v5 H5 ⟨W5, st5, x5, r5, m5, a5, q5, o5⟩ => ?_
  refine ⟨by show 1 ≤ sizeLine; rw [sizeLine_eq]; omega, fun a ha => ⟨by show 5 ≤ sizeLine; rw [sizeLine_eq]; omega, fun p hp => ?_⟩⟩
  have r6 := r5.laid (o := .lst [v5]) ha
  have s6 := r5.laid_step (o := .lst [v5]) ha
  have r7 := r6.laid (o := .lst [v1, v2, v3, v4, .ref a]) hp
  have s7 := s6.trans (r6.laid_step (o := .lst [v1, v2, v3, v4, .ref a]) hp)
  have nea : a ≠ p := fun z => by rw [← z, upd_same] at hp; cases hp
  refine tA_mono (eSb (rel := RepS G) r7 s7 o5) fun z H8 ⟨W8, st8, xz, r8, s8, q8, o8⟩ => ?_
  have no_a : a ∉ own W5 st5 σ := r5.notown ha
  have no_p : p ∉ own W5 st5 σ := r6.notown hp
  have d_a : H8 a = some (.lst [v5]) := s8.keep a _ (by rw [upd_ne nea, upd_same]) no_a
  have d_p : H8 p = some (.lst [v1, v2, v3, v4, .ref a]) := s8.keep p _ upd_same no_p
  have na8 : a ∉ own W8 st8 σ := fun h => by
    rcases s8.no a h with z | z
    · exact no_a z
    · rw [upd_ne nea, upd_same] at z; cases z
  have fa8 : W8.F a = none := by
    rcases s8.nf a with z | z | z
    · rw [z]; exact r5.frno ha
    · rw [upd_ne nea, upd_same] at z; exact z.elim
    · exact absurd z no_a
  obtain ⟨p1, rfl⟩ : ∃ p, x1 = .t p := by cases x1 with | t p => exact ⟨p, rfl⟩ | pl q => exact o8.elim
  obtain ⟨p2, rfl⟩ : ∃ p, x2 = .t p := by cases x2 with | t p => exact ⟨p, rfl⟩ | pl q => exact o8.elim
  obtain ⟨p3, rfl⟩ : ∃ p, x3 = .t p := by cases x3 with | t p => exact ⟨p, rfl⟩ | pl q => exact o8.elim
  obtain ⟨p4, rfl⟩ : ∃ p, x4 = .t p := by cases x4 with | t p => exact ⟨p, rfl⟩ | pl q => exact o8.elim
  obtain ⟨p5, rfl⟩ : ∃ p, x5 = .t p := by cases x5 with | t p => exact ⟨p, rfl⟩ | pl q => exact o8.elim
  obtain ⟨k, rfl⟩ : ∃ k, xz = .t (.int k) := by
    cases xz with
    | pl q => exact o8.elim
    | t p => cases p <;> first | exact ⟨_, rfl⟩ | exact o8.elim
  dsimp only at o8
  obtain rfl : z = .int k := by cases q8; rfl
  have f58 := s8.f
  have k5 : Rep G W8.F p5 v5 := Rep.mono f58 q5
  have k4 : Rep G W8.F p4 v4 := Rep.mono (m5.trans f58) q4
  have k3 : Rep G W8.F p3 v3 := Rep.mono (m4.trans (m5.trans f58)) q3
  have k2 : Rep G W8.F p2 v2 := Rep.mono (m3.trans (m4.trans (m5.trans f58))) q2
  have k1 : Rep G W8.F p1 v1 := Rep.mono (m2.trans (m3.trans (m4.trans (m5.trans f58)))) q1
  have fin : ∀ (j : Nat) (v : V), atI [v1, v2, v3, v4, V.ref a] (j : Int) = some v → (tS G Wx g D (σ.set i (some v)) H8) → rIx X.K (.ref p) (.int j) H8 fun v H1 => tS G Wx g D (σ.set i (some v)) H1 := fun j v e q =>
    .inl ⟨p, _, j, v, rfl, rfl, .inl (.inl d_p), e, q⟩
  have tree : ∀ (q : PV) (v : V), Rep G W8.F q v → OutSA G Wx W5 st5 σ H5 (g (st8.set i (some (.t q)))) D → tS G Wx g D (σ.set i (some v)) H8 := fun q v kq oq =>
    ⟨W8, _, r8.setT i kq, OutSA.from oq (s7.trans (s8.trans (R.setT_step i)))⟩
  split at o8
  · rename_i e
    subst e
    refine fin 4 (.ref a) rfl ?_
    rcases uniS_or (fun a => g (st8.set i (some (.m (.lsA a [p5]))))) a with e | e
    · rw [e] at o8; exact o8.elim
    · rw [e] at o8
      have S := s7.trans s8
      refine ⟨W8, _, r8.setM i (c := .lsA a [p5]) ⟨rfl, [v5], d_a, .cons k5 .nil⟩ na8 fa8, OutSA.from o8 ⟨S.f, S.a, S.nf, fun x hx => ?_, S.keep⟩⟩
      rcases r8.setM_own i x hx with z | z
      · exact S.no x z
      · subst z; exact .inr ha
  · split at o8
    · rename_i e; subst e; exact fin 0 v1 rfl (tree p1 v1 k1 o8)
    · split at o8
      · rename_i e; subst e; exact fin 1 v2 rfl (tree p2 v2 k2 o8)
      · split at o8
        · rename_i e; subst e; exact fin 2 v3 rfl (tree p3 v3 k3 o8)
        · split at o8
          · rename_i e; subst e; exact fin 3 v4 rfl (tree p4 v4 k4 o8)
          · exact o8.elim
end
def cAdr (f : Cm SV) : Cm SV := fun st => (f st).bind fun x st1 => match x with
  | .t p => .ok (.t p) st1
  | .pl q => match getP st1 q with
    | some (.lsA a _) => .ok (.t (.adr a)) st1
    | _ => .ok (.pl q) st1
def cAsL {α : Type} (i : Nat) (f : Cm α) : Cm α := fun st => match st.loc[i]? with
  | some (some (.m (.lsA a xs))) => (f (st.set i (some (.m (.lst xs))))).bind fun v st1 => match st1.loc[i]? with
    | some (some (.m (.lst ys))) => .ok v (st1.set i (some (.m (.lsA a ys))))
    | _ => .stuck
  | _ => f st
section
variable {G : Gd} {X : Cx} {Wx : WX} {e : Expr} {f : Cm SV}
theorem ce_adr (h : CE G X Wx e f) : CE G X Wx e (cAdr f) := by
  refine ⟨pe_imp h.pe fun σ H Q ⟨W, st, r, o⟩ => ⟨W, st, r, ?_⟩⟩
  unfold cAdr at o
  cases ef : f st with
  | stuck => rw [ef] at o; exact o.elim
  | exc c fs st1 => rw [ef] at o; exact o
  | ok x st1 =>
    rw [ef] at o
    intro W' H' u r' s' q
    cases x with
    | t p => exact o W' H' u r' s' q
    | pl z =>
      dsimp only [Out.bind] at o
      split at o
      · rename_i a xs hz
        obtain ⟨b, rfl, _, m, _⟩ := RepS.at r' q hz
        obtain ⟨rfl, _⟩ := m
        exact o W' H' _ r' s' (Rep.adr _)
      · exact o W' H' u r' s' q
theorem asL_step {α β : Type} {rel : Wd → Sg → α → β → Prop} {i : Nat} {f : Cm α} {σ : Sg} {H : Hp} {Q : β → Hp → Prop} (h : tA G Wx rel (cAsL i f) σ H Q) : tA G Wx rel f σ H Q := by
  obtain ⟨W, st, r, o⟩ := h
  unfold cAsL at o
  split at o
  · rename_i a xs hq
    have hg : getP st (.sl i) = some (.lsA a xs) := by
      dsimp only [getP]
      rw [hq]
    obtain ⟨b, e, m, ho⟩ := r.atP hg
    obtain ⟨rfl, vs, d, l⟩ := m
    have r' := r.setP (H' := H) (d := .lst xs) hg e (Same.refl _) r.le ⟨vs, d, l⟩ (fun b _ hb u z => z) r.fr
    have ow := own_setP (W := W) (σ := σ) (d := .lst xs) hg
    refine ⟨W, _, r', ?_⟩
    have ow' : own W (st.set i (some (.m (.lst xs)))) σ = own W st σ := ow
    show OutA G Wx rel W (st.set i (some (.m (.lst xs)))) σ H (f (st.set i (some (.m (.lst xs))))) Q
    cases ef : f (st.set i (some (.m (.lst xs)))) with
    | stuck => rw [ef] at o; exact o.elim
    | exc c fs st1 => rw [ef] at o; exact fun W' H' d r2 s2 q => o W' H' d r2 (by rw [← ow']; exact s2) q
    | ok v st1 =>
      rw [ef] at o
      intro W1 H1 u r1 s1 q1
      dsimp only [Out.bind] at o
      split at o
      · rename_i ys hy
        have hg1 : getP st1 (.sl i) = some (.lst ys) := by
          dsimp only [getP]
          rw [hy]
        obtain ⟨b1, e1, m1, ho1⟩ := r1.atP hg1
        have eb : b1 = b := by
          have z1 : σ[i]? = some (some (.ref b1)) := e1
          have z2 : σ[i]? = some (some (.ref b)) := e
          rw [z1] at z2; cases z2; rfl
        subst eb
        have r2 := r1.setP (H' := H1) (d := .lsA b1 ys) hg1 e1 (Same.refl _) r1.le ⟨rfl, m1⟩ (fun b _ hb u z => z) r1.fr
        have ow2 : own W1 (st1.set i (some (.m (.lsA b1 ys)))) σ = own W1 st1 σ := own_setP (W := W1) (σ := σ) (d := .lsA b1 ys) hg1
        exact o W1 H1 u r2 (by rw [ow2, ← ow']; exact s1) q1
      · exact o.elim
  · exact ⟨W, st, r, o⟩
theorem ce_asL (i : Nat) (h : CE G X Wx e f) : CE G X Wx e (cAsL i f) := ⟨pe_imp h.pe fun σ H Q q => asL_step q⟩
end
mutual
def toDA (a : Addr) (z : PyData) : PV → Option PyData
  | .adr b => if b = a then some z else none
  | .lst xs => (toDAs a z xs).map .list
  | .tup _ xs => (toDAs a z xs).map .tuple
  | .non => some .none
  | .bl b => some (.bool b)
  | .int i => some (.int i)
  | .str x => some (.str x)
  | _ => none
def toDAs (a : Addr) (z : PyData) : List PV → Option (List PyData)
  | [] => some []
  | x :: xs => (toDA a z x).bind fun d => (toDAs a z xs).map fun ds => d :: ds
end
section
variable {G : Gd} {K : PySem.W.Frag} {F H : Hp} {a : Addr} {z : PyData}
mutual
theorem dpA_of (l : Same F H) (hz : Dp K H (.ref a) z) : ∀ {p : PV} {v : V} {d : PyData}, Rep G F p v → toDA a z p = some d → Dp K H v d
  | .non, _, _, .non, h => by simp [toDA] at h; subst h; exact .non
  | .bl b, _, _, .bl _, h => by simp [toDA] at h; subst h; exact .bl b
  | .int b, _, _, .int _, h => by simp [toDA] at h; subst h; exact .int b
  | .str b, _, _, .str _, h => by simp [toDA] at h; subst h; exact .str b
  | .lst xs, _, _, .lst r q, h => by
    simp only [toDA, Option.map_eq_some_iff] at h
    obtain ⟨ds, e, rfl⟩ := h
    exact .lst (.inl (.inl (l _ _ r))) (dpAs_of l hz q e)
  | .tup _ xs, _, _, .tup r q, h => by
    simp only [toDA, Option.map_eq_some_iff] at h
    obtain ⟨ds, e, rfl⟩ := h
    exact .tup (r.sq l) (dpAs_of l hz q e)
  | .dct _, _, _, _, h => by simp [toDA] at h
  | .dtp _, _, _, _, h => by simp [toDA] at h
  | .dtn _, _, _, _, h => by simp [toDA] at h
  | .dmx _ _, _, _, _, h => by simp [toDA] at h
  | .obj _ _, _, _, _, h => by simp [toDA] at h
  | .ty _, _, _, _, h => by simp [toDA] at h
  | .fn _, _, _, _, h => by simp [toDA] at h
  | .scr _, _, _, _, h => by simp [toDA] at h
  | .xo _ _, _, _, _, h => by simp [toDA] at h
  | .tbl, _, _, _, h => by simp [toDA] at h
  | .adr b, _, _, .adr _, h => by
    simp only [toDA] at h
    split at h
    · rename_i e
      subst e
      cases h
      exact hz
    · cases h
  | .clo _ _ _ _ _, _, _, _, h => by simp [toDA] at h
theorem dpAs_of (l : Same F H) (hz : Dp K H (.ref a) z) : ∀ {ps : List PV} {vs : List V} {ds : List PyData}, RepL G F ps vs → toDAs a z ps = some ds → DpAll K H vs ds
  | [], _, _, .nil, h => by simp [toDAs] at h; subst h; exact .nil
  | x :: xs, _, _, .cons r q, h => by
    obtain ⟨d, e1, h⟩ := Option.bind_eq_some_iff.mp h
    simp only [Option.map_eq_some_iff] at h
    obtain ⟨ds, e2, rfl⟩ := h
    exact .cons (dpA_of l hz r e1) (dpAs_of l hz q e2)
end
theorem VRep.dpA (l : Same F H) (hz : Dp K H (.ref a) z) {p : PV} {v : V} {d : PyData} (r : VRep G F H p v) (h : toDA a z p = some d) : Dp K H v d := by
  cases p with
  | non => cases r; simp [toDA] at h; subst h; exact .non
  | bl b => cases r; simp [toDA] at h; subst h; exact .bl b
  | int b => cases r; simp [toDA] at h; subst h; exact .int b
  | str b => cases r; simp [toDA] at h; subst h; exact .str b
  | lst xs =>
    obtain ⟨a, vs, rfl, rd, q⟩ := r
    simp only [toDA, Option.map_eq_some_iff] at h
    obtain ⟨ds, e, rfl⟩ := h
    exact .lst (.inl (.inl rd)) (dpAs_of l hz q e)
  | tup k xs =>
    obtain ⟨a, vs, rfl, rd, q⟩ := r
    simp only [toDA, Option.map_eq_some_iff] at h
    obtain ⟨ds, e, rfl⟩ := h
    exact .tup (rd.sq l) (dpAs_of l hz q e)
  | adr b =>
    cases r
    simp only [toDA] at h
    split at h
    · rename_i e
      subst e
      cases h
      exact hz
    · cases h
  | dct _ => simp [toDA] at h
  | dtp _ => simp [toDA] at h
  | dtn _ => simp [toDA] at h
  | dmx _ _ => simp [toDA] at h
  | obj _ _ => simp [toDA] at h
  | ty _ => simp [toDA] at h
  | fn _ => simp [toDA] at h
  | scr _ => simp [toDA] at h
  | xo _ _ => simp [toDA] at h
  | tbl => simp [toDA] at h
  | clo _ _ _ => simp [toDA] at h
end
def pNeA (st : ST) (i : Nat) (p q : PV) : Option PV := match st.loc[i]? with
  | some (some (.m (.lsA a xs))) => (toDs xs).bind fun ds => (toDA a (.list ds) p).bind fun d => (toDA a (.list ds) q).bind fun e => (dEq d e).map fun b => .bl (!b)
  | _ => pNe p q
def cNeA (i : Nat) (fa fb : Cm SV) : Cm SV := fun st => (fa st).bind fun x st1 => (fb st1).bind fun y st2 => ofO st2 ((view st2 x).bind fun p => (view st2 y).bind fun q => pNeA st2 i p q)
section
variable {G : Gd} {X : Cx} {Wx : WX} {a b : Expr} {fa fb : Cm SV} {pos : Pos}
theorem neA_step {σ : Sg} {H : Hp} {Q : VK} {K : PySem.W.Frag} {i : Nat} (h : tE G Wx (cNeA i fa fb) σ H Q) :
    tE G Wx fa σ H fun u H1 => tE G Wx fb σ H1 fun v H2 => rEqs K not rNe u v H2 Q := by
  obtain ⟨W, st, r0, o⟩ := h
  refine tA_mono (tA_then (rel := RepS G) (rel' := RepS G) r0 o) fun u H1 ⟨W1, st1, x, r1, _, _, q1, o1⟩ => ?_
  refine tA_mono (tA_then (rel := RepS G) (rel' := RepS G) r1 o1) fun v H2 ⟨W2, st2, y, r2, f2, a2, q2, o2⟩ => ?_
  obtain ⟨z, e, g⟩ := ofO_some o2
  obtain ⟨p, e1, e⟩ := Option.bind_eq_some_iff.mp e
  obtain ⟨q, e2, e3⟩ := Option.bind_eq_some_iff.mp e
  have k1 := r2.view (q1.mono f2 a2) e1
  have k2 := r2.view q2 e2
  unfold pNeA at e3
  split at e3
  · rename_i a xs hq
    have hg : getP st2 (.sl i) = some (.lsA a xs) := by
      dsimp only [getP]
      rw [hq]
    obtain ⟨b, _, m, _⟩ := r2.atP hg
    obtain ⟨rfl, vs, d, l⟩ := m
    obtain ⟨ds, e4, e3⟩ := Option.bind_eq_some_iff.mp e3
    obtain ⟨d1, e5, e3⟩ := Option.bind_eq_some_iff.mp e3
    obtain ⟨d2, e6, e3⟩ := Option.bind_eq_some_iff.mp e3
    obtain ⟨c, e7, rfl⟩ := Option.map_eq_some_iff.mp e3
    obtain ⟨s1, s2, s3⟩ := dEq_p e7
    have hz : Dp K H2 (.ref b) (.list ds) := .lst (.inl (.inl d)) (dps_of r2.le l e4)
    exact .inr ⟨d1, d2, k1.dpA r2.le hz e5, k2.dpA r2.le hz e6, s1, s2, by rw [s3]; exact g.here r2 (.bl _)⟩
  · exact snd_ne W2 st2 σ H2 p q z u v Q r2 k1 k2 e3 g
theorem ct_neA (i : Nat) (hu : X.A.units + 64 < cLine) (ha : CE G X Wx a fa) (hb : CE G X Wx b fb) (hm : behindInMarks .NotEq b = false) : CT G X Wx (.Compare a [.NotEq] [b] pos) (cTruth (cNeA i fa fb)) :=
  ⟨pt_imp (pt_cmpR (op_nes hu) ha.pe hb.pe hm) fun σ H Q q => neA_step (truth_step q)⟩
end
end Cl
set_option maxHeartbeats 4000000
namespace Cl
open PySem PySem.Spec PyProof.Rows L2 StX ClX
def idxB (ns : List Bool) (i : Bool) : Option Int := (ns.findIdx? fun n => decide (n = i)).map fun j => ((j : Nat) : Int)
section
variable {X : Cx} {o a : Expr} {to ta : TE} {apos cpos : Pos}
theorem pe_lindexB (ho : PE X o to) (ha : PE X a ta) (hbase : attributeBase o "index" X.env (eval o X.env) = eval o X.env := by rfl)
    (hfew : ((backTo cpos (starEach [a] X.env)).all (fun x => !x.1) && (backToKw cpos (keywordEach [] X.env)).all (fun x => x.1.isSome)
      && decide ([a].length + ([] : List Keyword).length + (if ([] : List Keyword).isEmpty then 0 else 1) < 30)) = true := by rfl)
    (hline : (apos.endLine == cpos.line) = true := by rfl) (hs : starEach [a] X.env = [(false, eval a X.env)] := by rfl) : PE X (.Call (.Attribute o "index" apos) [a] [] cpos) (tLmB idxB to ta) := by
  refine ⟨fun pn s σ H Q I q0 => ?_⟩
  refine wpAny_Call_method_late hbase hfew hline (trees := backTo cpos [(false, eval a X.env)]) (by rw [hs]) (thn (ho.run pn s σ H _ I q0) fun ov s1 ⟨x, H1, I1, rx, p, vs0, ex, hp, q1⟩ => ?_)
  subst ex
  obtain rfl : ov = Value.ref p := rx
  obtain ⟨hz1, its1, n1, rv1, g1⟩ := I1.hok p _ hp
  refine ⟨"list", "list.index", PySem.F.plainAttrs_list, PySem.F.slot_list_index, PySem.F.type_list_index, ⟨_, g1, rfl⟩, (fun b e => by cases e; exact ⟨_, g1, rfl⟩), ?_⟩
  refine Calls.callWith_builtin (by show (false || (backTo cpos ([] : List (Bool × Sem Value))).any (·.1)) = false; rfl) (Calls.evalArgs_plain (Calls.spliced_cons (thn (ha.run pn s1 σ H1 _ I1 q1) fun u s2 ⟨y, H2, I2, ry, ns, i, z, ey, hp2, ez, q⟩ => Calls.spliced_nil ?_)))
  subst ey
  cases ry
  obtain ⟨j, ej, rfl⟩ := Option.map_eq_some_iff.mp ez
  obtain ⟨hz2, its, n2, rv, g2⟩ := I2.hok p _ hp2
  obtain ⟨j1, j2, j3⟩ := List.findIdx?_eq_some_iff_getElem.mp ej
  have hl : its.toArray.size = ns.length := by rw [List.size_toArray, ← rv.length, List.length_map]
  have hj' : j < its.toArray.size := by rw [hl]; exact j1
  have item : ∀ (m : Nat) (hm : m < its.toArray.size), ∃ y, ns[m]? = some y ∧ its.toArray[m] = Value.bool y := fun m hm => by
    have hm' : m < ns.length := by rw [← hl]; exact hm
    obtain ⟨w, hw, hw'⟩ := rv.get (i := m) (x := .bl ns[m]) (by simp [hm'])
    refine ⟨ns[m], List.getElem?_eq_getElem hm', ?_⟩
    have e := (List.getElem?_eq_some_iff.mp hw).2
    cases hw'
    rw [← e]
    simp
  have hsz : (its.toArray.size : Int) ≤ 16777216 := by
    have hz2 : (ns.map V.bl).length ≤ sizeLine := hz2
    rw [sizeLine_eq, List.length_map] at hz2
    rw [hl]
    omega
  refine call_meets PySem.F.slot_list_index ⟨_, g2, rfl⟩ PySem.F.entry_list_index (PySem.F.args_list_index_2 _ _) (PySem.SeqAt.list_indexAt p its.toArray n2 none #[] (.bool i) (eqU (.bl i)) j hj' (by omega) ?_ ?_)
    ⟨g2, fun w hw => mem_eqAt (x := .bl i) rfl rfl rv (flat_bools ns) w (by simpa using hw), ⟨.int (j : Nat), H2, I2.tok _, ⟨_, rfl⟩, q⟩⟩
  · obtain ⟨y, h1, h2⟩ := item j hj'
    rw [List.getElem?_eq_getElem j1] at h1
    have h1 := Option.some.inj h1
    rw [h2]
    have : y = i := by rw [← h1, of_decide_eq_true j2]
    subst this
    cases y <;> rfl
  · intro m hm hmj
    obtain ⟨y, h1, h2⟩ := item m hm
    rw [h2]
    have : y ≠ i := fun z => by
      have := j3 m hmj
      have hm' : m < ns.length := by rw [← hl]; exact hm
      rw [List.getElem?_eq_getElem hm'] at h1
      rw [Option.some.inj h1, z] at this
      simp at this
    revert this
    cases y <;> cases i <;> intro this <;> first | rfl | exact absurd rfl this
end
def pIdB : PV → PV → Option PV
  | .lst ps, .bl i => (bools ps).bind fun ns => (idxB ns i).map .int
  | _, _ => none
theorem pIdB_inv : ∀ {p q z : PV}, pIdB p q = some z → ∃ ns i w, p = .lst (ns.map .bl) ∧ q = .bl i ∧ idxB ns i = some w ∧ z = .int w
  | .lst ps, .bl i, z, e => by
    obtain ⟨ns, e5, e⟩ := Option.bind_eq_some_iff.mp (show (bools ps).bind (fun ns => (idxB ns i).map PV.int) = some z from e)
    obtain ⟨w, e6, rfl⟩ := Option.map_eq_some_iff.mp e
    exact ⟨ns, i, w, by rw [bools_eq e5], rfl, e6, rfl⟩
section
variable {G : Gd} {X : Cx} {Wx : WX} {a o : Expr} {fa fo : Cm SV} {apos cpos : Pos}
theorem lmB_stepI {σ : Sg} {H : Hp} {Q : VK} (h : tE G Wx (cLm pIdB fo fa) σ H Q) : tLmB idxB (tE G Wx fo) (tE G Wx fa) σ H Q := by
  obtain ⟨W, st, r0, o⟩ := h
  refine tA_mono (tA_then (rel := RepS G) (rel' := RepS G) r0 o) fun u H1 ⟨W1, st1, x, r1, _, _, q1, o1⟩ => ?_
  split at o1
  · rename_i hx
    obtain ⟨p, ep, hp⟩ : ∃ p, view st1 x = some p ∧ isLst p = true := by
      cases ev : view st1 x with
      | none => rw [ev] at hx; cases hx
      | some p => rw [ev] at hx; exact ⟨p, rfl, hx⟩
    cases p <;> first | (cases hp; done) | skip
    rename_i ps0
    obtain ⟨l, vs0, rfl, e0, _⟩ := r1.view q1 ep
    refine ⟨l, vs0, rfl, e0, ?_⟩
    refine tA_mono (tA_then (rel := RepS G) (rel' := RepS G) r1 o1) fun y H2 ⟨W2, st2, z, r2, f2, a2, e2, o2⟩ => ?_
    obtain ⟨zz, ez, g1⟩ := ofO_some o2
    obtain ⟨p, e3, ez⟩ := Option.bind_eq_some_iff.mp ez
    obtain ⟨q, e4, ez⟩ := Option.bind_eq_some_iff.mp ez
    obtain ⟨ns, i, w, rfl, rfl, e6, rfl⟩ := pIdB_inv ez
    obtain ⟨l2, vs, el, e7, rl⟩ := r2.view (q1.mono f2 a2) e3
    cases el
    have ev : y = .bl i := r2.view e2 e4
    rw [repL_bls rl] at e7
    exact ⟨ns, i, w, ev, e7, e6, g1.here r2 (.int _)⟩
  · exact o1.elim
theorem ce_lindexB (ho : CE G X Wx o fo) (ha : CE G X Wx a fa) (hbase : attributeBase o "index" X.env (eval o X.env) = eval o X.env := by rfl)
    (hfew : ((backTo cpos (starEach [a] X.env)).all (fun x => !x.1) && (backToKw cpos (keywordEach [] X.env)).all (fun x => x.1.isSome)
      && decide ([a].length + ([] : List Keyword).length + (if ([] : List Keyword).isEmpty then 0 else 1) < 30)) = true := by rfl)
    (hline : (apos.endLine == cpos.line) = true := by rfl) (hs : starEach [a] X.env = [(false, eval a X.env)] := by rfl) : CE G X Wx (.Call (.Attribute o "index" apos) [a] [] cpos) (cLm pIdB fo fa) :=
  ⟨pe_imp (pe_lindexB ho.pe ha.pe hbase hfew hline hs) fun σ H Q q => lmB_stepI q⟩
theorem css_nilF (vs : List Nat) : CSs G X Wx [] (sForget vs sNil) :=
  ⟨pss_imp pss_nil fun D σ H ⟨W, st, r, o⟩ => o W σ H r.forget.1 (Step.sub r.forget.2)⟩
end
def rCatF (K : PySem.W.Frag) : R2 := fun x y H Q => ∃ l b xs zs, x = .ref l ∧ y = .ref b ∧ SqL K H l xs ∧ SqL K H b zs ∧ xs.length + zs.length ≤ sizeLine ∧ ∀ p, H p = none → Q (.ref p) (upd H p (.lst (xs ++ zs)))
theorem op_catF {X : Cx} : OpR X (binaryOp .Add) (rCatF X.K) := by
  intro pins s σ H x y v u Q I rx ry h
  obtain ⟨l, b, xs, zs, rfl, rfl, hH, hB, hz, q⟩ := h
  cases rx
  cases ry
  obtain ⟨its, r, hl, z⟩ := I.list hH
  obtain ⟨its2, r2, hl2, z2⟩ := I.list hB
  obtain ⟨⟨cls, dd, data, sl⟩, n, ho, hc, hd, hs⟩ := hl
  obtain ⟨⟨cls2, dd2, data2, sl2⟩, n2, ho2, hc2, hd2, hs2⟩ := hl2
  simp only at hc hd hc2 hd2 hs hs2
  subst hc hd hc2 hd2 hs hs2
  refine PySem.concat_meets ⟨_, ho, rfl⟩ ⟨_, ho2, rfl⟩ noFill_list_add seq_list_add PySem.F.slot_list_add PySem.F.entry_list_add (PySem.F.args_list_add_2 _ _) (list_addW l b its.toArray its2.toArray n n2 none none sl sl2 (by rw [List.size_toArray, List.size_toArray, ← r.length, ← r2.length]; exact hz)) ⟨ho, ho2, ?_⟩
  have ea : its.toArray ++ its2.toArray = (its ++ its2).toArray := by simp
  rw [ea]
  exact ⟨.ref _, _, I.lnew (t' := s.toks) (r.append r2) (by rw [List.length_append]; omega), rfl, q _ I.fresh⟩
def pAddS : PV → PV → Option PV
  | .scr ns, .lst ys => if szOk (ns.length + ys.length) then some (.lst (ns.map PV.int ++ ys)) else none
  | _, _ => none
theorem snd_addS {G : Gd} {K : PySem.W.Frag} : Snd2 G (rCatF K) pAddS := by
  intro W st σ H p q z u v Q r a b e g
  unfold pAddS at e
  split at e
  · rename_i ns ys
    split at e
    · rename_i hz
      cases e
      obtain ⟨a1, o1, rfl, d1⟩ := a
      obtain ⟨a2, v2, rfl, d2, l2⟩ := b
      exact ⟨_, _, _, _, rfl, rfl, .inl (.inr ⟨o1, r.le _ _ d1⟩), .inl (.inl d2), by rw [List.length_map, ← l2.length]; exact szOk_le hz, g.lst r ((RepL.ints ns).append l2)⟩
    · cases e
  · cases e
theorem ce_addS {G : Gd} {X : Cx} {Wx : WX} {a b : Expr} {fa fb : Cm SV} {pos : Pos} (ha : CE G X Wx a fa) (hb : CE G X Wx b fb) : CE G X Wx (.BinOp a .Add b pos) (cBin pAddS fa fb) := ce_op op_catF snd_addS ha hb
end Cl
set_option maxHeartbeats 4000000
namespace K04
open Std Cl PySem PySem.Spec PyProof.Rows L2 StX ClX
noncomputable section
abbrev N_law_errors : List PySem.Str := ["_law_x", "_law_some"]
abbrev pl_law_errors : Plan := [.inl 0]
def g_law_errors : Sm := (sSeq (sSet 1 (cFrz (mDisp (cCons (cMkx 1 "value" (cVar 0)) (cCons (cMkx 2 "value" (cVar 0)) (cCons (cMkx 3 "value" (cVar 0)) (cCons (cMkx 4 "value" (cVar 0)) (cCons (cMkx 5 "value" (cVar 0)) cNil)))))))) (sSeq (sSet 1 (cBin pAdd (cVar 1) (cFrz (mDisp (cCons (cMkx 6 "value" (cVar 0)) (cCons (cMkx 7 "value" (cVar 0)) (cCons (cMkx 8 "value" (cVar 0)) (cCons (cMkx 9 "value" (cVar 0)) (cCons (cMkx 10 "value" (cVar 0)) cNil))))))))) (sRet (cBin pAdd (cVar 1) (cFrz (mDisp (cCons (cMkx 11 "line" (cVar 0)) (cCons (cMkx 12 "limit" (cVar 0)) (cCons (cMkx0 13) (cCons (cMkx0 14) (cCons (cMkx0 15) cNil)))))))))))
def F_law_errors : Fm := runF 2 g_law_errors
abbrev N_law_kinds : List PySem.Str := ["_law_e", "_law_kinds_here"]
abbrev pl_law_kinds : Plan := [.inl 0]
def g_law_kinds : Sm := (sSeq (sSet 1 (cFrz (mDisp (cCons (cList (bIsx ((1, (.fn 5), true) :: ((2, (.fn 5), false) :: ((3, (.fn 5), false) :: ((4, (.fn 5), false) :: ((5, (.fn 5), false) :: ((6, (.fn 5), false) :: ((7, (.fn 5), false) :: ((8, (.fn 5), false) :: ((9, (.fn 5), false) :: ((10, (.fn 5), false) :: ((11, (.fn 5), false) :: ((12, (.fn 5), false) :: ((13, (.fn 5), false) :: ((14, (.fn 5), false) :: ((15, (.fn 5), false) :: [])))))))))))))))) (cCons (cVar 0) (cCons (cC (.fn 5)) cNil))) (cCons (cList (bIsx ((1, (.fn 2), false) :: ((2, (.fn 2), true) :: ((3, (.fn 2), false) :: ((4, (.fn 2), false) :: ((5, (.fn 2), false) :: ((6, (.fn 2), false) :: ((7, (.fn 2), false) :: ((8, (.fn 2), false) :: ((9, (.fn 2), false) :: ((10, (.fn 2), false) :: ((11, (.fn 2), false) :: ((12, (.fn 2), false) :: ((13, (.fn 2), false) :: ((14, (.fn 2), false) :: ((15, (.fn 2), false) :: [])))))))))))))))) (cCons (cVar 0) (cCons (cC (.fn 2)) cNil))) (cCons (cList (bIsx ((1, (.fn 3), false) :: ((2, (.fn 3), false) :: ((3, (.fn 3), true) :: ((4, (.fn 3), false) :: ((5, (.fn 3), false) :: ((6, (.fn 3), false) :: ((7, (.fn 3), false) :: ((8, (.fn 3), false) :: ((9, (.fn 3), false) :: ((10, (.fn 3), false) :: ((11, (.fn 3), false) :: ((12, (.fn 3), false) :: ((13, (.fn 3), false) :: ((14, (.fn 3), false) :: ((15, (.fn 3), false) :: [])))))))))))))))) (cCons (cVar 0) (cCons (cC (.fn 3)) cNil))) cNil)))))) (sSeq (sSet 1 (cBin pAdd (cVar 1) (cFrz (mDisp (cCons (cList (bIsx ((1, (.fn 4), false) :: ((2, (.fn 4), false) :: ((3, (.fn 4), false) :: ((4, (.fn 4), true) :: ((5, (.fn 4), false) :: ((6, (.fn 4), false) :: ((7, (.fn 4), false) :: ((8, (.fn 4), false) :: ((9, (.fn 4), false) :: ((10, (.fn 4), false) :: ((11, (.fn 4), false) :: ((12, (.fn 4), false) :: ((13, (.fn 4), false) :: ((14, (.fn 4), false) :: ((15, (.fn 4), false) :: [])))))))))))))))) (cCons (cVar 0) (cCons (cC (.fn 4)) cNil))) (cCons (cList (bIsx ((1, (.fn 9), false) :: ((2, (.fn 9), false) :: ((3, (.fn 9), false) :: ((4, (.fn 9), false) :: ((5, (.fn 9), true) :: ((6, (.fn 9), false) :: ((7, (.fn 9), false) :: ((8, (.fn 9), false) :: ((9, (.fn 9), false) :: ((10, (.fn 9), false) :: ((11, (.fn 9), false) :: ((12, (.fn 9), false) :: ((13, (.fn 9), false) :: ((14, (.fn 9), false) :: ((15, (.fn 9), false) :: [])))))))))))))))) (cCons (cVar 0) (cCons (cC (.fn 9)) cNil))) (cCons (cList (bIsx ((1, (.fn 10), false) :: ((2, (.fn 10), false) :: ((3, (.fn 10), false) :: ((4, (.fn 10), false) :: ((5, (.fn 10), false) :: ((6, (.fn 10), true) :: ((7, (.fn 10), false) :: ((8, (.fn 10), false) :: ((9, (.fn 10), false) :: ((10, (.fn 10), false) :: ((11, (.fn 10), false) :: ((12, (.fn 10), false) :: ((13, (.fn 10), false) :: ((14, (.fn 10), false) :: ((15, (.fn 10), false) :: [])))))))))))))))) (cCons (cVar 0) (cCons (cC (.fn 10)) cNil))) cNil))))))) (sSeq (sSet 1 (cBin pAdd (cVar 1) (cFrz (mDisp (cCons (cList (bIsx ((1, (.fn 11), false) :: ((2, (.fn 11), false) :: ((3, (.fn 11), false) :: ((4, (.fn 11), false) :: ((5, (.fn 11), false) :: ((6, (.fn 11), false) :: ((7, (.fn 11), true) :: ((8, (.fn 11), false) :: ((9, (.fn 11), false) :: ((10, (.fn 11), false) :: ((11, (.fn 11), false) :: ((12, (.fn 11), false) :: ((13, (.fn 11), false) :: ((14, (.fn 11), false) :: ((15, (.fn 11), false) :: [])))))))))))))))) (cCons (cVar 0) (cCons (cC (.fn 11)) cNil))) (cCons (cList (bIsx ((1, (.fn 12), false) :: ((2, (.fn 12), false) :: ((3, (.fn 12), false) :: ((4, (.fn 12), false) :: ((5, (.fn 12), false) :: ((6, (.fn 12), false) :: ((7, (.fn 12), false) :: ((8, (.fn 12), true) :: ((9, (.fn 12), false) :: ((10, (.fn 12), false) :: ((11, (.fn 12), false) :: ((12, (.fn 12), false) :: ((13, (.fn 12), false) :: ((14, (.fn 12), false) :: ((15, (.fn 12), false) :: [])))))))))))))))) (cCons (cVar 0) (cCons (cC (.fn 12)) cNil))) (cCons (cList (bIsx ((1, (.fn 13), false) :: ((2, (.fn 13), false) :: ((3, (.fn 13), false) :: ((4, (.fn 13), false) :: ((5, (.fn 13), false) :: ((6, (.fn 13), false) :: ((7, (.fn 13), false) :: ((8, (.fn 13), false) :: ((9, (.fn 13), true) :: ((10, (.fn 13), false) :: ((11, (.fn 13), false) :: ((12, (.fn 13), false) :: ((13, (.fn 13), false) :: ((14, (.fn 13), false) :: ((15, (.fn 13), false) :: [])))))))))))))))) (cCons (cVar 0) (cCons (cC (.fn 13)) cNil))) cNil))))))) (sSeq (sSet 1 (cBin pAdd (cVar 1) (cFrz (mDisp (cCons (cList (bIsx ((1, (.fn 14), false) :: ((2, (.fn 14), false) :: ((3, (.fn 14), false) :: ((4, (.fn 14), false) :: ((5, (.fn 14), false) :: ((6, (.fn 14), false) :: ((7, (.fn 14), false) :: ((8, (.fn 14), false) :: ((9, (.fn 14), false) :: ((10, (.fn 14), true) :: ((11, (.fn 14), false) :: ((12, (.fn 14), false) :: ((13, (.fn 14), false) :: ((14, (.fn 14), false) :: ((15, (.fn 14), false) :: [])))))))))))))))) (cCons (cVar 0) (cCons (cC (.fn 14)) cNil))) (cCons (cList (bIsx ((1, (.fn 6), false) :: ((2, (.fn 6), false) :: ((3, (.fn 6), false) :: ((4, (.fn 6), false) :: ((5, (.fn 6), false) :: ((6, (.fn 6), false) :: ((7, (.fn 6), false) :: ((8, (.fn 6), false) :: ((9, (.fn 6), false) :: ((10, (.fn 6), false) :: ((11, (.fn 6), true) :: ((12, (.fn 6), false) :: ((13, (.fn 6), false) :: ((14, (.fn 6), false) :: ((15, (.fn 6), false) :: [])))))))))))))))) (cCons (cVar 0) (cCons (cC (.fn 6)) cNil))) (cCons (cList (bIsx ((1, (.fn 15), false) :: ((2, (.fn 15), false) :: ((3, (.fn 15), false) :: ((4, (.fn 15), false) :: ((5, (.fn 15), false) :: ((6, (.fn 15), false) :: ((7, (.fn 15), false) :: ((8, (.fn 15), false) :: ((9, (.fn 15), false) :: ((10, (.fn 15), false) :: ((11, (.fn 15), false) :: ((12, (.fn 15), true) :: ((13, (.fn 15), false) :: ((14, (.fn 15), false) :: ((15, (.fn 15), false) :: [])))))))))))))))) (cCons (cVar 0) (cCons (cC (.fn 15)) cNil))) cNil))))))) (sRet (cBin pAdd (cVar 1) (cFrz (mDisp (cCons (cList (bIsx ((1, (.fn 16), false) :: ((2, (.fn 16), false) :: ((3, (.fn 16), false) :: ((4, (.fn 16), false) :: ((5, (.fn 16), false) :: ((6, (.fn 16), false) :: ((7, (.fn 16), false) :: ((8, (.fn 16), false) :: ((9, (.fn 16), false) :: ((10, (.fn 16), false) :: ((11, (.fn 16), false) :: ((12, (.fn 16), false) :: ((13, (.fn 16), true) :: ((14, (.fn 16), false) :: ((15, (.fn 16), false) :: [])))))))))))))))) (cCons (cVar 0) (cCons (cC (.fn 16)) cNil))) (cCons (cList (bIsx ((1, (.fn 17), false) :: ((2, (.fn 17), false) :: ((3, (.fn 17), false) :: ((4, (.fn 17), false) :: ((5, (.fn 17), false) :: ((6, (.fn 17), false) :: ((7, (.fn 17), false) :: ((8, (.fn 17), false) :: ((9, (.fn 17), false) :: ((10, (.fn 17), false) :: ((11, (.fn 17), false) :: ((12, (.fn 17), false) :: ((13, (.fn 17), false) :: ((14, (.fn 17), true) :: ((15, (.fn 17), false) :: [])))))))))))))))) (cCons (cVar 0) (cCons (cC (.fn 17)) cNil))) (cCons (cList (bIsx ((1, (.fn 18), false) :: ((2, (.fn 18), false) :: ((3, (.fn 18), false) :: ((4, (.fn 18), false) :: ((5, (.fn 18), false) :: ((6, (.fn 18), false) :: ((7, (.fn 18), false) :: ((8, (.fn 18), false) :: ((9, (.fn 18), false) :: ((10, (.fn 18), false) :: ((11, (.fn 18), false) :: ((12, (.fn 18), false) :: ((13, (.fn 18), false) :: ((14, (.fn 18), false) :: ((15, (.fn 18), true) :: [])))))))))))))))) (cCons (cVar 0) (cCons (cC (.fn 18)) cNil))) cNil)))))))))))
def F_law_kinds : Fm := runF 2 g_law_kinds
abbrev N_law_bases : List PySem.Str := ["_law_e", "_law_bases_here"]
abbrev pl_law_bases : Plan := [.inl 0]
def g_law_bases : Sm := (sSeq (sSet 1 (cFrz (mDisp (cCons (cList (bIsx ((1, (.fn 1), true) :: ((2, (.fn 1), true) :: ((3, (.fn 1), true) :: ((4, (.fn 1), true) :: ((5, (.fn 1), true) :: ((6, (.fn 1), true) :: ((7, (.fn 1), true) :: ((8, (.fn 1), true) :: ((9, (.fn 1), true) :: ((10, (.fn 1), true) :: ((11, (.fn 1), true) :: ((12, (.fn 1), false) :: ((13, (.fn 1), false) :: ((14, (.fn 1), false) :: ((15, (.fn 1), false) :: [])))))))))))))))) (cCons (cVar 0) (cCons (cC (.fn 1)) cNil))) (cCons (cList (bIsx ((1, (.ty "ValueError"), true) :: ((2, (.ty "ValueError"), true) :: ((3, (.ty "ValueError"), true) :: ((4, (.ty "ValueError"), true) :: ((5, (.ty "ValueError"), true) :: ((6, (.ty "ValueError"), true) :: ((7, (.ty "ValueError"), true) :: ((8, (.ty "ValueError"), true) :: ((9, (.ty "ValueError"), true) :: ((10, (.ty "ValueError"), true) :: ((11, (.ty "ValueError"), true) :: ((12, (.ty "ValueError"), false) :: ((13, (.ty "ValueError"), false) :: ((14, (.ty "ValueError"), false) :: ((15, (.ty "ValueError"), false) :: [])))))))))))))))) (cCons (cVar 0) (cCons (cC (.ty "ValueError")) cNil))) (cCons (cList (bIsx ((1, (.ty "OverflowError"), false) :: ((2, (.ty "OverflowError"), false) :: ((3, (.ty "OverflowError"), false) :: ((4, (.ty "OverflowError"), false) :: ((5, (.ty "OverflowError"), false) :: ((6, (.ty "OverflowError"), false) :: ((7, (.ty "OverflowError"), false) :: ((8, (.ty "OverflowError"), false) :: ((9, (.ty "OverflowError"), false) :: ((10, (.ty "OverflowError"), false) :: ((11, (.ty "OverflowError"), false) :: ((12, (.ty "OverflowError"), true) :: ((13, (.ty "OverflowError"), false) :: ((14, (.ty "OverflowError"), false) :: ((15, (.ty "OverflowError"), false) :: [])))))))))))))))) (cCons (cVar 0) (cCons (cC (.ty "OverflowError")) cNil))) cNil)))))) (sRet (cBin pAdd (cVar 1) (cFrz (mDisp (cCons (cList (bIsx ((1, (.ty "RuntimeError"), false) :: ((2, (.ty "RuntimeError"), false) :: ((3, (.ty "RuntimeError"), false) :: ((4, (.ty "RuntimeError"), false) :: ((5, (.ty "RuntimeError"), false) :: ((6, (.ty "RuntimeError"), false) :: ((7, (.ty "RuntimeError"), false) :: ((8, (.ty "RuntimeError"), false) :: ((9, (.ty "RuntimeError"), false) :: ((10, (.ty "RuntimeError"), false) :: ((11, (.ty "RuntimeError"), false) :: ((12, (.ty "RuntimeError"), false) :: ((13, (.ty "RuntimeError"), true) :: ((14, (.ty "RuntimeError"), true) :: ((15, (.ty "RuntimeError"), false) :: [])))))))))))))))) (cCons (cVar 0) (cCons (cC (.ty "RuntimeError")) cNil))) (cCons (cList (bIsx ((1, (.ty "LookupError"), false) :: ((2, (.ty "LookupError"), false) :: ((3, (.ty "LookupError"), false) :: ((4, (.ty "LookupError"), false) :: ((5, (.ty "LookupError"), false) :: ((6, (.ty "LookupError"), false) :: ((7, (.ty "LookupError"), false) :: ((8, (.ty "LookupError"), false) :: ((9, (.ty "LookupError"), false) :: ((10, (.ty "LookupError"), false) :: ((11, (.ty "LookupError"), false) :: ((12, (.ty "LookupError"), false) :: ((13, (.ty "LookupError"), false) :: ((14, (.ty "LookupError"), false) :: ((15, (.ty "LookupError"), true) :: [])))))))))))))))) (cCons (cVar 0) (cCons (cC (.ty "LookupError")) cNil))) cNil)))))))
def F_law_bases : Fm := runF 2 g_law_bases
abbrev N_law_named : List PySem.Str := ["_law_x", "_law_some"]
abbrev pl_law_named : Plan := [.inl 0]
def g_law_named : Sm := (sSeq (sSet 1 (cFrz (mDisp (cCons (cMkx 1 "value" (cVar 0)) (cCons (cMkx 2 "value" (cVar 0)) (cCons (cMkx 3 "value" (cVar 0)) (cCons (cMkx 4 "value" (cVar 0)) cNil))))))) (sSeq (sSet 1 (cBin pAdd (cVar 1) (cFrz (mDisp (cCons (cMkx 5 "value" (cVar 0)) (cCons (cMkx 6 "value" (cVar 0)) (cCons (cMkx 7 "value" (cVar 0)) (cCons (cMkx 8 "value" (cVar 0)) cNil)))))))) (sRet (cBin pAdd (cVar 1) (cFrz (mDisp (cCons (cMkx 9 "value" (cVar 0)) (cCons (cMkx 10 "value" (cVar 0)) cNil))))))))
def F_law_named : Fm := runF 2 g_law_named
abbrev N_law : List PySem.Str := ["_law_script", "_law_cell", "_law_x", "_law_some", "_law_at", "_law_e"]
abbrev pl_law : Plan := [.inl 0]
def p_law_0 : Sm := (sSeq (sIf (cOr (cTruth (cBin pNe (cLm pCntB (cCallF (fcDef 1 pl_law_kinds F_law_kinds) (cCons (cVar 5) cNil)) (cC (.bl true))) (cC (.int 1)))) (cTruth (cBin pNe (cLm pIdB (cCallF (fcDef 1 pl_law_kinds F_law_kinds) (cCons (cVar 5) cNil)) (cC (.bl true))) (cVar 4)))) (sRet (cC (.bl false))) sNil) (sIf (cTruth (cBin pNe (cCallF (fcDef 1 pl_law_bases F_law_bases) (cCons (cVar 5) cNil)) (cFrz (mDisp (cCons (cBin pLt (cVar 4) (cC (.int 11))) (cCons (cBin pLt (cVar 4) (cC (.int 11))) (cCons (cBin pEq (cVar 4) (cC (.int 11))) (cCons (cBin pIn (cVar 4) (cDisp (.tup .p) (cCons (cC (.int 12)) (cCons (cC (.int 13)) cNil)))) (cCons (cBin pEq (cVar 4) (cC (.int 14))) cNil))))))))) (sRet (cC (.bl false))) sNil))
def c_law_1_t : Cm Bool := cYes
def c_law_1_e : Cm SV := (cUn (pXf [1, 2, 3, 4, 5, 6, 7, 8, 9, 10] "value") (cVar 5))
def c_law_2_t : Cm Bool := cYes
def c_law_2_e : Cm SV := (cUn (pXf [1, 2, 3, 4, 5, 6, 7, 8, 9, 10] "value") (cVar 5))
def c_law_3_t : Cm Bool := cYes
def c_law_3_e : Cm SV := (cUn (pXf [1, 2, 3, 4, 5, 6, 7, 8, 9, 10] "value") (cVar 5))
def p_law_4 : Sm := (sIf (cOr (cTruth (cNeA 2 (cFrz (mLc (cIt (cSl (cVar 3) cNoPart (cPart (cC (.int 10))))) (tgN 5) (c_law_3_t) (c_law_3_e) [5])) (cBin pMul (cFrz (mDisp (cCons (cAdr (cVar 2)) cNil))) (cC (.int 10))))) (cTruth (cNeA 2 (cFrz (mDisp (cCons (cUn (pXf [11] "line") (cBin pIx (cVar 3) (cC (.int 10)))) (cCons (cUn (pXf [12] "limit") (cBin pIx (cVar 3) (cC (.int 11)))) cNil)))) (cBin pMul (cFrz (mDisp (cCons (cAdr (cVar 2)) cNil))) (cC (.int 2)))))) (sRet (cC (.bl false))) sNil)
def p_law_5 : Sm := (sIf (cTruth (cAsL 2 (cList (bIsi tbB) (cCons (cVar 2) (cCons (cC (.ty "list")) cNil))))) (sExpr (cAsL 2 (cPl opAppend (cVar 2) (cCons (cC (.int 2)) cNil)))) sNil)
def p_law_6 : Sm := (sIf (cOr (cTruth (cNeA 2 (cUn (pXf [11] "line") (cMkx 11 "line" (cAdr (cVar 2)))) (cAdr (cVar 2)))) (cTruth (cNeA 2 (cUn (pXf [12] "limit") (cMkx 12 "limit" (cAdr (cVar 2)))) (cAdr (cVar 2))))) (sRet (cC (.bl false))) sNil)
def p_law_7 : Sm := (sIf (cTruth (cNeA 2 (cFrz (mLc (cIt (cCallF (fcDef 1 pl_law_named F_law_named) (cCons (cAdr (cVar 2)) cNil))) (tgN 5) (c_law_2_t) (c_law_2_e) [5])) (cBin pMul (cFrz (mDisp (cCons (cAdr (cVar 2)) cNil))) (cC (.int 10))))) (sRet (cC (.bl false))) sNil)
def p_law_8 : Sm := (sIf (cOr (cTruth (cNeA 2 (cFrz (mLc (cIt (cSl (cVar 3) cNoPart (cPart (cC (.int 10))))) (tgN 5) (c_law_1_t) (c_law_1_e) [5])) (cBin pMul (cFrz (mDisp (cCons (cAdr (cVar 2)) cNil))) (cC (.int 10))))) (cTruth (cNeA 2 (cFrz (mDisp (cCons (cUn (pXf [11] "line") (cBin pIx (cVar 3) (cC (.int 10)))) (cCons (cUn (pXf [12] "limit") (cBin pIx (cVar 3) (cC (.int 11)))) cNil)))) (cBin pMul (cFrz (mDisp (cCons (cAdr (cVar 2)) cNil))) (cC (.int 2)))))) (sRet (cC (.bl false))) sNil)
def p_law_9 : Sm := (sFor (cEn (cCons (cVar 3) cNil)) (tgS [(tgN 4), (tgN 5)]) p_law_0)
def p_law_10 : Sm := (sSet 3 (cCallF (fcDef 1 pl_law_errors F_law_errors) (cCons (cAdr (cVar 2)) cNil)))
def p_law_11 : Sm := (sSeq p_law_10 (sSeq p_law_9 (sSeq p_law_8 (sSeq p_law_7 (sSeq p_law_6 (sSeq p_law_5 (sSeq p_law_4 (sForget [2, 3, 4, 5] sNil))))))))
def p_law_12 : Sm := (sPickA 2 (cDisp (.tup .p) (cCons (cBin pMod (cVar 1) (cBin pPow (cC (.int 10)) (cC (.int 9)))) cNil)) (cBin pMod (cVar 1) (cC (.int 7))) (cC .non) (cC (.str "a")) (cC (.int 1)) (cBin pMod (cVar 1) (cC (.int 5))) p_law_11)
def g_law : Sm := (sSeq (sFor (cIt (cSl (cBin pAddS (cVar 0) (cFrz (mDisp (cCons (cC (.int 1)) cNil)))) cNoPart (cPart (cC (.int 6))))) (tgN 1) p_law_12) (sRet (cC (.bl true))))
def F_law : Fm := runF 6 g_law
end
end K04
set_option maxHeartbeats 4000000
namespace K04
open Std Cl PySem PySem.Spec PyProof.Rows L2 StX ClX
abbrev gd_ (K : PySem.W.Frag) : Gd := ⟨fun | 0 => He.ga K "Profile" | 1 => He.ga K "VetoError" | 2 => He.ga K "InvalidPlayer" | 3 => He.ga K "InvalidAlternative" | 4 => He.ga K "InvalidTurns" | 5 => He.ga K "InvalidRanking" | 6 => He.ga K "ParseError" | 7 => He.ga K "Knowledge" | 8 => He.ga K "Play" | 9 => He.ga K "InvalidCounts" | 10 => He.ga K "InvalidLeft" | 11 => He.ga K "InvalidGroups" | 12 => He.ga K "InvalidPosition" | 13 => He.ga K "InvalidName" | 14 => He.ga K "InvalidCommand" | 15 => He.ga K "LimitExceeded" | 16 => He.ga K "PlayEnded" | 17 => He.ga K "NothingToUndo" | 18 => He.ga K "NoPlay" | _ => 0, fun | 0 => He.ga K "Profile" | 1 => He.ga K "InvalidRanking" | 2 => He.ga K "InvalidPlayer" | 3 => He.ga K "InvalidAlternative" | 4 => He.ga K "InvalidTurns" | 5 => He.ga K "InvalidCounts" | 6 => He.ga K "InvalidLeft" | 7 => He.ga K "InvalidGroups" | 8 => He.ga K "InvalidPosition" | 9 => He.ga K "InvalidName" | 10 => He.ga K "InvalidCommand" | 11 => He.ga K "ParseError" | 12 => He.ga K "LimitExceeded" | 13 => He.ga K "PlayEnded" | 14 => He.ga K "NothingToUndo" | 15 => He.ga K "NoPlay" | 16 => He.ga K "Play" | 17 => He.ga K "Trial" | 18 => He.ga K "Knowledge" | 19 => He.ga K "Change" | 20 => He.ga K "PairedChange" | 21 => He.ga K "TurnExchange" | 22 => He.ga K "RankExchange" | 23 => He.ga K "Addition" | 24 => He.ga K "Console" | _ => 0, fun _ => 0⟩
theorem nmk {op : CmpOp} {e : Expr} (h : behindInMarks op e = false := by first | exact nomark _ | exact nobehind _ (by decide) | rfl) : behindInMarks op e = false := h
section
variable {P : Program} {w : World} {K : PySem.W.Frag} {mg : PySem.Str → Option Value} {base : Heap}
theorem xi_InvalidRanking (T : Tx fas fns K mg) : XIni P w K mg base (He.ma K (He.ga K "InvalidRanking") "__init__") "value" := by
  obtain ⟨fd, F⟩ := T.c.def_ 5
  have B : Binds K fd ["self", "value"] [] := F.bindsN (ps := ["self", "value"]) fun _ _ _ _ _ _ us hl => match us, hl with | [_, _], _ => rfl
  exact ⟨fd, xinit_ok F ⟨rfl, rfl, rfl, by decide +kernel, rfl, by decide +kernel, by decide +kernel⟩ fun cd A outer s H E => pss_cons (ps_expr (pe_einit rfl (T.glo 1) (T.ein 0).1 (T.ein 0).2 (pa_cons (pe_var rfl (by first | exact Or.inl rfl | exact Or.inr (Or.inl rfl) | exact Or.inr (Or.inr rfl))) (pa_cons pe_str pa_nil)))) (pss_cons (ps_ost (pe_var rfl (by first | exact Or.inl rfl | exact Or.inr (Or.inl rfl) | exact Or.inr (Or.inr rfl))) (pe_var rfl (by first | exact Or.inl rfl | exact Or.inr (Or.inl rfl) | exact Or.inr (Or.inr rfl)))) pss_nil), B⟩
theorem xi_InvalidPlayer (T : Tx fas fns K mg) : XIni P w K mg base (He.ma K (He.ga K "InvalidPlayer") "__init__") "value" := by
  obtain ⟨fd, F⟩ := T.c.def_ 6
  have B : Binds K fd ["self", "value"] [] := F.bindsN (ps := ["self", "value"]) fun _ _ _ _ _ _ us hl => match us, hl with | [_, _], _ => rfl
  exact ⟨fd, xinit_ok F ⟨rfl, rfl, rfl, by decide +kernel, rfl, by decide +kernel, by decide +kernel⟩ fun cd A outer s H E => pss_cons (ps_expr (pe_einit rfl (T.glo 1) (T.ein 0).1 (T.ein 0).2 (pa_cons (pe_var rfl (by first | exact Or.inl rfl | exact Or.inr (Or.inl rfl) | exact Or.inr (Or.inr rfl))) (pa_cons pe_str pa_nil)))) (pss_cons (ps_ost (pe_var rfl (by first | exact Or.inl rfl | exact Or.inr (Or.inl rfl) | exact Or.inr (Or.inr rfl))) (pe_var rfl (by first | exact Or.inl rfl | exact Or.inr (Or.inl rfl) | exact Or.inr (Or.inr rfl)))) pss_nil), B⟩
theorem xi_InvalidAlternative (T : Tx fas fns K mg) : XIni P w K mg base (He.ma K (He.ga K "InvalidAlternative") "__init__") "value" := by
  obtain ⟨fd, F⟩ := T.c.def_ 7
  have B : Binds K fd ["self", "value"] [] := F.bindsN (ps := ["self", "value"]) fun _ _ _ _ _ _ us hl => match us, hl with | [_, _], _ => rfl
  exact ⟨fd, xinit_ok F ⟨rfl, rfl, rfl, by decide +kernel, rfl, by decide +kernel, by decide +kernel⟩ fun cd A outer s H E => pss_cons (ps_expr (pe_einit rfl (T.glo 1) (T.ein 0).1 (T.ein 0).2 (pa_cons (pe_var rfl (by first | exact Or.inl rfl | exact Or.inr (Or.inl rfl) | exact Or.inr (Or.inr rfl))) (pa_cons pe_str pa_nil)))) (pss_cons (ps_ost (pe_var rfl (by first | exact Or.inl rfl | exact Or.inr (Or.inl rfl) | exact Or.inr (Or.inr rfl))) (pe_var rfl (by first | exact Or.inl rfl | exact Or.inr (Or.inl rfl) | exact Or.inr (Or.inr rfl)))) pss_nil), B⟩
theorem xi_InvalidTurns (T : Tx fas fns K mg) : XIni P w K mg base (He.ma K (He.ga K "InvalidTurns") "__init__") "value" := by
  obtain ⟨fd, F⟩ := T.c.def_ 8
  have B : Binds K fd ["self", "value"] [] := F.bindsN (ps := ["self", "value"]) fun _ _ _ _ _ _ us hl => match us, hl with | [_, _], _ => rfl
  exact ⟨fd, xinit_ok F ⟨rfl, rfl, rfl, by decide +kernel, rfl, by decide +kernel, by decide +kernel⟩ fun cd A outer s H E => pss_cons (ps_expr (pe_einit rfl (T.glo 1) (T.ein 0).1 (T.ein 0).2 (pa_cons (pe_var rfl (by first | exact Or.inl rfl | exact Or.inr (Or.inl rfl) | exact Or.inr (Or.inr rfl))) (pa_cons pe_str pa_nil)))) (pss_cons (ps_ost (pe_var rfl (by first | exact Or.inl rfl | exact Or.inr (Or.inl rfl) | exact Or.inr (Or.inr rfl))) (pe_var rfl (by first | exact Or.inl rfl | exact Or.inr (Or.inl rfl) | exact Or.inr (Or.inr rfl)))) pss_nil), B⟩
theorem xi_InvalidCounts (T : Tx fas fns K mg) : XIni P w K mg base (He.ma K (He.ga K "InvalidCounts") "__init__") "value" := by
  obtain ⟨fd, F⟩ := T.c.def_ 9
  have B : Binds K fd ["self", "value"] [] := F.bindsN (ps := ["self", "value"]) fun _ _ _ _ _ _ us hl => match us, hl with | [_, _], _ => rfl
  exact ⟨fd, xinit_ok F ⟨rfl, rfl, rfl, by decide +kernel, rfl, by decide +kernel, by decide +kernel⟩ fun cd A outer s H E => pss_cons (ps_expr (pe_einit rfl (T.glo 1) (T.ein 0).1 (T.ein 0).2 (pa_cons (pe_var rfl (by first | exact Or.inl rfl | exact Or.inr (Or.inl rfl) | exact Or.inr (Or.inr rfl))) (pa_cons pe_str pa_nil)))) (pss_cons (ps_ost (pe_var rfl (by first | exact Or.inl rfl | exact Or.inr (Or.inl rfl) | exact Or.inr (Or.inr rfl))) (pe_var rfl (by first | exact Or.inl rfl | exact Or.inr (Or.inl rfl) | exact Or.inr (Or.inr rfl)))) pss_nil), B⟩
theorem xi_InvalidLeft (T : Tx fas fns K mg) : XIni P w K mg base (He.ma K (He.ga K "InvalidLeft") "__init__") "value" := by
  obtain ⟨fd, F⟩ := T.c.def_ 10
  have B : Binds K fd ["self", "value"] [] := F.bindsN (ps := ["self", "value"]) fun _ _ _ _ _ _ us hl => match us, hl with | [_, _], _ => rfl
  exact ⟨fd, xinit_ok F ⟨rfl, rfl, rfl, by decide +kernel, rfl, by decide +kernel, by decide +kernel⟩ fun cd A outer s H E => pss_cons (ps_expr (pe_einit rfl (T.glo 1) (T.ein 0).1 (T.ein 0).2 (pa_cons (pe_var rfl (by first | exact Or.inl rfl | exact Or.inr (Or.inl rfl) | exact Or.inr (Or.inr rfl))) (pa_cons pe_str pa_nil)))) (pss_cons (ps_ost (pe_var rfl (by first | exact Or.inl rfl | exact Or.inr (Or.inl rfl) | exact Or.inr (Or.inr rfl))) (pe_var rfl (by first | exact Or.inl rfl | exact Or.inr (Or.inl rfl) | exact Or.inr (Or.inr rfl)))) pss_nil), B⟩
theorem xi_InvalidGroups (T : Tx fas fns K mg) : XIni P w K mg base (He.ma K (He.ga K "InvalidGroups") "__init__") "value" := by
  obtain ⟨fd, F⟩ := T.c.def_ 11
  have B : Binds K fd ["self", "value"] [] := F.bindsN (ps := ["self", "value"]) fun _ _ _ _ _ _ us hl => match us, hl with | [_, _], _ => rfl
  exact ⟨fd, xinit_ok F ⟨rfl, rfl, rfl, by decide +kernel, rfl, by decide +kernel, by decide +kernel⟩ fun cd A outer s H E => pss_cons (ps_expr (pe_einit rfl (T.glo 1) (T.ein 0).1 (T.ein 0).2 (pa_cons (pe_var rfl (by first | exact Or.inl rfl | exact Or.inr (Or.inl rfl) | exact Or.inr (Or.inr rfl))) (pa_cons pe_str pa_nil)))) (pss_cons (ps_ost (pe_var rfl (by first | exact Or.inl rfl | exact Or.inr (Or.inl rfl) | exact Or.inr (Or.inr rfl))) (pe_var rfl (by first | exact Or.inl rfl | exact Or.inr (Or.inl rfl) | exact Or.inr (Or.inr rfl)))) pss_nil), B⟩
theorem xi_InvalidPosition (T : Tx fas fns K mg) : XIni P w K mg base (He.ma K (He.ga K "InvalidPosition") "__init__") "value" := by
  obtain ⟨fd, F⟩ := T.c.def_ 12
  have B : Binds K fd ["self", "value"] [] := F.bindsN (ps := ["self", "value"]) fun _ _ _ _ _ _ us hl => match us, hl with | [_, _], _ => rfl
  exact ⟨fd, xinit_ok F ⟨rfl, rfl, rfl, by decide +kernel, rfl, by decide +kernel, by decide +kernel⟩ fun cd A outer s H E => pss_cons (ps_expr (pe_einit rfl (T.glo 1) (T.ein 0).1 (T.ein 0).2 (pa_cons (pe_var rfl (by first | exact Or.inl rfl | exact Or.inr (Or.inl rfl) | exact Or.inr (Or.inr rfl))) (pa_cons pe_str pa_nil)))) (pss_cons (ps_ost (pe_var rfl (by first | exact Or.inl rfl | exact Or.inr (Or.inl rfl) | exact Or.inr (Or.inr rfl))) (pe_var rfl (by first | exact Or.inl rfl | exact Or.inr (Or.inl rfl) | exact Or.inr (Or.inr rfl)))) pss_nil), B⟩
theorem xi_InvalidName (T : Tx fas fns K mg) : XIni P w K mg base (He.ma K (He.ga K "InvalidName") "__init__") "value" := by
  obtain ⟨fd, F⟩ := T.c.def_ 13
  have B : Binds K fd ["self", "value"] [] := F.bindsN (ps := ["self", "value"]) fun _ _ _ _ _ _ us hl => match us, hl with | [_, _], _ => rfl
  exact ⟨fd, xinit_ok F ⟨rfl, rfl, rfl, by decide +kernel, rfl, by decide +kernel, by decide +kernel⟩ fun cd A outer s H E => pss_cons (ps_expr (pe_einit rfl (T.glo 1) (T.ein 0).1 (T.ein 0).2 (pa_cons (pe_var rfl (by first | exact Or.inl rfl | exact Or.inr (Or.inl rfl) | exact Or.inr (Or.inr rfl))) (pa_cons pe_str pa_nil)))) (pss_cons (ps_ost (pe_var rfl (by first | exact Or.inl rfl | exact Or.inr (Or.inl rfl) | exact Or.inr (Or.inr rfl))) (pe_var rfl (by first | exact Or.inl rfl | exact Or.inr (Or.inl rfl) | exact Or.inr (Or.inr rfl)))) pss_nil), B⟩
theorem xi_InvalidCommand (T : Tx fas fns K mg) : XIni P w K mg base (He.ma K (He.ga K "InvalidCommand") "__init__") "value" := by
  obtain ⟨fd, F⟩ := T.c.def_ 14
  have B : Binds K fd ["self", "value"] [] := F.bindsN (ps := ["self", "value"]) fun _ _ _ _ _ _ us hl => match us, hl with | [_, _], _ => rfl
  exact ⟨fd, xinit_ok F ⟨rfl, rfl, rfl, by decide +kernel, rfl, by decide +kernel, by decide +kernel⟩ fun cd A outer s H E => pss_cons (ps_expr (pe_einit rfl (T.glo 1) (T.ein 0).1 (T.ein 0).2 (pa_cons (pe_var rfl (by first | exact Or.inl rfl | exact Or.inr (Or.inl rfl) | exact Or.inr (Or.inr rfl))) (pa_cons pe_str pa_nil)))) (pss_cons (ps_ost (pe_var rfl (by first | exact Or.inl rfl | exact Or.inr (Or.inl rfl) | exact Or.inr (Or.inr rfl))) (pe_var rfl (by first | exact Or.inl rfl | exact Or.inr (Or.inl rfl) | exact Or.inr (Or.inr rfl)))) pss_nil), B⟩
theorem xi_ParseError (T : Tx fas fns K mg) : XIni P w K mg base (He.ma K (He.ga K "ParseError") "__init__") "line" := by
  obtain ⟨fd, F⟩ := T.c.def_ 15
  have B : Binds K fd ["self", "line"] [] := F.bindsN (ps := ["self", "line"]) fun _ _ _ _ _ _ us hl => match us, hl with | [_, _], _ => rfl
  exact ⟨fd, xinit_ok F ⟨rfl, rfl, rfl, by decide +kernel, rfl, by decide +kernel, by decide +kernel⟩ fun cd A outer s H E => pss_cons (ps_expr (pe_einit rfl (T.glo 1) (T.ein 0).1 (T.ein 0).2 (pa_cons (pe_var rfl (by first | exact Or.inl rfl | exact Or.inr (Or.inl rfl) | exact Or.inr (Or.inr rfl))) (pa_cons pe_str pa_nil)))) (pss_cons (ps_ost (pe_var rfl (by first | exact Or.inl rfl | exact Or.inr (Or.inl rfl) | exact Or.inr (Or.inr rfl))) (pe_var rfl (by first | exact Or.inl rfl | exact Or.inr (Or.inl rfl) | exact Or.inr (Or.inr rfl)))) pss_nil), B⟩
theorem xi_LimitExceeded (T : Tx fas fns K mg) : XIniG P w K mg base (He.ma K (He.ga K "LimitExceeded") "__init__") "limit" "OverflowError.__new__" [.type "OverflowError", .type "ArithmeticError", .type "Exception", .type "BaseException", .type "object"] := by
  obtain ⟨fd, F⟩ := T.c.def_ 16
  have B : Binds K fd ["self", "limit"] [] := F.bindsN (ps := ["self", "limit"]) fun _ _ _ _ _ _ us hl => match us, hl with | [_, _], _ => rfl
  exact ⟨fd, xinitG F ⟨rfl, rfl, rfl, by decide +kernel, rfl, by decide +kernel, by decide +kernel⟩ fun cd A outer s H E => pss_cons (ps_expr (pe_binit xb_Overflow xn_Overflow rfl (T.free 25) (T.bin 24) (pa_cons (pe_var rfl (by first | exact Or.inl rfl | exact Or.inr (Or.inl rfl) | exact Or.inr (Or.inr rfl))) (pa_cons pe_str pa_nil)))) (pss_cons (ps_ost1 xb_Overflow (pe_var rfl (by first | exact Or.inl rfl | exact Or.inr (Or.inl rfl) | exact Or.inr (Or.inr rfl))) (pe_var rfl (by first | exact Or.inl rfl | exact Or.inr (Or.inl rfl) | exact Or.inr (Or.inr rfl)))) pss_nil), B⟩
theorem xi_PlayEnded (T : Tx fas fns K mg) : XIniN P w K mg base (He.ma K (He.ga K "PlayEnded") "__init__") "RuntimeError.__new__" [.type "RuntimeError", .type "Exception", .type "BaseException", .type "object"] := by
  obtain ⟨fd, F⟩ := T.c.def_ 17
  have B : Binds K fd ["self"] [] := F.bindsN (ps := ["self"]) fun _ _ _ _ _ _ us hl => match us, hl with | [_], _ => rfl
  exact ⟨fd, xinitN F ⟨rfl, rfl, rfl, by decide +kernel, rfl, by decide +kernel, by decide +kernel⟩ fun cd A outer s H E => pss_cons (ps_expr (pe_binit xb_Runtime xn_Runtime rfl (T.free 29) (T.bin 28) (pa_cons (pe_var rfl (by first | exact Or.inl rfl | exact Or.inr (Or.inl rfl) | exact Or.inr (Or.inr rfl))) (pa_cons pe_str pa_nil)))) pss_nil, B⟩
theorem xi_NothingToUndo (T : Tx fas fns K mg) : XIniN P w K mg base (He.ma K (He.ga K "NothingToUndo") "__init__") "RuntimeError.__new__" [.type "RuntimeError", .type "Exception", .type "BaseException", .type "object"] := by
  obtain ⟨fd, F⟩ := T.c.def_ 18
  have B : Binds K fd ["self"] [] := F.bindsN (ps := ["self"]) fun _ _ _ _ _ _ us hl => match us, hl with | [_], _ => rfl
  exact ⟨fd, xinitN F ⟨rfl, rfl, rfl, by decide +kernel, rfl, by decide +kernel, by decide +kernel⟩ fun cd A outer s H E => pss_cons (ps_expr (pe_binit xb_Runtime xn_Runtime rfl (T.free 29) (T.bin 28) (pa_cons (pe_var rfl (by first | exact Or.inl rfl | exact Or.inr (Or.inl rfl) | exact Or.inr (Or.inr rfl))) (pa_cons pe_str pa_nil)))) pss_nil, B⟩
theorem xi_NoPlay (T : Tx fas fns K mg) : XIniN P w K mg base (He.ma K (He.ga K "NoPlay") "__init__") "LookupError.__new__" [.type "LookupError", .type "Exception", .type "BaseException", .type "object"] := by
  obtain ⟨fd, F⟩ := T.c.def_ 19
  have B : Binds K fd ["self"] [] := F.bindsN (ps := ["self"]) fun _ _ _ _ _ _ us hl => match us, hl with | [_], _ => rfl
  exact ⟨fd, xinitN F ⟨rfl, rfl, rfl, by decide +kernel, rfl, by decide +kernel, by decide +kernel⟩ fun cd A outer s H E => pss_cons (ps_expr (pe_binit xb_Lookup xn_Lookup rfl (T.free 35) (T.bin 34) (pa_cons (pe_var rfl (by first | exact Or.inl rfl | exact Or.inr (Or.inl rfl) | exact Or.inr (Or.inr rfl))) (pa_cons pe_str pa_nil)))) pss_nil, B⟩
theorem xik_InvalidRanking (T : Tx fas fns K mg) : XIniK P w K mg base (He.ma K (He.ga K "InvalidRanking") "__init__") "value" := by
  obtain ⟨fd, F⟩ := T.c.def_ 5
  have B : Bd K fd ["self", "value"] 1 ["value"] [.inl 0, .inl 1] := bdP0 (ps := ["self", "value"]) [.inl 0, .inl 1] F rfl (fun _ _ _ _ _ _ us ws h1 h2 => match us, ws, h1, h2 with | [_], [_], _, _ => rfl) (fun vs h => match vs, h with | [_, _], _ => rfl)
  exact ⟨fd, xinit_ok F ⟨rfl, rfl, rfl, by decide +kernel, rfl, by decide +kernel, by decide +kernel⟩ fun cd A outer s H E => pss_cons (ps_expr (pe_einit rfl (T.glo 1) (T.ein 0).1 (T.ein 0).2 (pa_cons (pe_var rfl (by first | exact Or.inl rfl | exact Or.inr (Or.inl rfl) | exact Or.inr (Or.inr rfl))) (pa_cons pe_str pa_nil)))) (pss_cons (ps_ost (pe_var rfl (by first | exact Or.inl rfl | exact Or.inr (Or.inl rfl) | exact Or.inr (Or.inr rfl))) (pe_var rfl (by first | exact Or.inl rfl | exact Or.inr (Or.inl rfl) | exact Or.inr (Or.inr rfl)))) pss_nil), B⟩
theorem xik_InvalidPlayer (T : Tx fas fns K mg) : XIniK P w K mg base (He.ma K (He.ga K "InvalidPlayer") "__init__") "value" := by
  obtain ⟨fd, F⟩ := T.c.def_ 6
  have B : Bd K fd ["self", "value"] 1 ["value"] [.inl 0, .inl 1] := bdP0 (ps := ["self", "value"]) [.inl 0, .inl 1] F rfl (fun _ _ _ _ _ _ us ws h1 h2 => match us, ws, h1, h2 with | [_], [_], _, _ => rfl) (fun vs h => match vs, h with | [_, _], _ => rfl)
  exact ⟨fd, xinit_ok F ⟨rfl, rfl, rfl, by decide +kernel, rfl, by decide +kernel, by decide +kernel⟩ fun cd A outer s H E => pss_cons (ps_expr (pe_einit rfl (T.glo 1) (T.ein 0).1 (T.ein 0).2 (pa_cons (pe_var rfl (by first | exact Or.inl rfl | exact Or.inr (Or.inl rfl) | exact Or.inr (Or.inr rfl))) (pa_cons pe_str pa_nil)))) (pss_cons (ps_ost (pe_var rfl (by first | exact Or.inl rfl | exact Or.inr (Or.inl rfl) | exact Or.inr (Or.inr rfl))) (pe_var rfl (by first | exact Or.inl rfl | exact Or.inr (Or.inl rfl) | exact Or.inr (Or.inr rfl)))) pss_nil), B⟩
theorem xik_InvalidAlternative (T : Tx fas fns K mg) : XIniK P w K mg base (He.ma K (He.ga K "InvalidAlternative") "__init__") "value" := by
  obtain ⟨fd, F⟩ := T.c.def_ 7
  have B : Bd K fd ["self", "value"] 1 ["value"] [.inl 0, .inl 1] := bdP0 (ps := ["self", "value"]) [.inl 0, .inl 1] F rfl (fun _ _ _ _ _ _ us ws h1 h2 => match us, ws, h1, h2 with | [_], [_], _, _ => rfl) (fun vs h => match vs, h with | [_, _], _ => rfl)
  exact ⟨fd, xinit_ok F ⟨rfl, rfl, rfl, by decide +kernel, rfl, by decide +kernel, by decide +kernel⟩ fun cd A outer s H E => pss_cons (ps_expr (pe_einit rfl (T.glo 1) (T.ein 0).1 (T.ein 0).2 (pa_cons (pe_var rfl (by first | exact Or.inl rfl | exact Or.inr (Or.inl rfl) | exact Or.inr (Or.inr rfl))) (pa_cons pe_str pa_nil)))) (pss_cons (ps_ost (pe_var rfl (by first | exact Or.inl rfl | exact Or.inr (Or.inl rfl) | exact Or.inr (Or.inr rfl))) (pe_var rfl (by first | exact Or.inl rfl | exact Or.inr (Or.inl rfl) | exact Or.inr (Or.inr rfl)))) pss_nil), B⟩
theorem xik_InvalidTurns (T : Tx fas fns K mg) : XIniK P w K mg base (He.ma K (He.ga K "InvalidTurns") "__init__") "value" := by
  obtain ⟨fd, F⟩ := T.c.def_ 8
  have B : Bd K fd ["self", "value"] 1 ["value"] [.inl 0, .inl 1] := bdP0 (ps := ["self", "value"]) [.inl 0, .inl 1] F rfl (fun _ _ _ _ _ _ us ws h1 h2 => match us, ws, h1, h2 with | [_], [_], _, _ => rfl) (fun vs h => match vs, h with | [_, _], _ => rfl)
  exact ⟨fd, xinit_ok F ⟨rfl, rfl, rfl, by decide +kernel, rfl, by decide +kernel, by decide +kernel⟩ fun cd A outer s H E => pss_cons (ps_expr (pe_einit rfl (T.glo 1) (T.ein 0).1 (T.ein 0).2 (pa_cons (pe_var rfl (by first | exact Or.inl rfl | exact Or.inr (Or.inl rfl) | exact Or.inr (Or.inr rfl))) (pa_cons pe_str pa_nil)))) (pss_cons (ps_ost (pe_var rfl (by first | exact Or.inl rfl | exact Or.inr (Or.inl rfl) | exact Or.inr (Or.inr rfl))) (pe_var rfl (by first | exact Or.inl rfl | exact Or.inr (Or.inl rfl) | exact Or.inr (Or.inr rfl)))) pss_nil), B⟩
theorem xik_InvalidCounts (T : Tx fas fns K mg) : XIniK P w K mg base (He.ma K (He.ga K "InvalidCounts") "__init__") "value" := by
  obtain ⟨fd, F⟩ := T.c.def_ 9
  have B : Bd K fd ["self", "value"] 1 ["value"] [.inl 0, .inl 1] := bdP0 (ps := ["self", "value"]) [.inl 0, .inl 1] F rfl (fun _ _ _ _ _ _ us ws h1 h2 => match us, ws, h1, h2 with | [_], [_], _, _ => rfl) (fun vs h => match vs, h with | [_, _], _ => rfl)
  exact ⟨fd, xinit_ok F ⟨rfl, rfl, rfl, by decide +kernel, rfl, by decide +kernel, by decide +kernel⟩ fun cd A outer s H E => pss_cons (ps_expr (pe_einit rfl (T.glo 1) (T.ein 0).1 (T.ein 0).2 (pa_cons (pe_var rfl (by first | exact Or.inl rfl | exact Or.inr (Or.inl rfl) | exact Or.inr (Or.inr rfl))) (pa_cons pe_str pa_nil)))) (pss_cons (ps_ost (pe_var rfl (by first | exact Or.inl rfl | exact Or.inr (Or.inl rfl) | exact Or.inr (Or.inr rfl))) (pe_var rfl (by first | exact Or.inl rfl | exact Or.inr (Or.inl rfl) | exact Or.inr (Or.inr rfl)))) pss_nil), B⟩
theorem xik_InvalidLeft (T : Tx fas fns K mg) : XIniK P w K mg base (He.ma K (He.ga K "InvalidLeft") "__init__") "value" := by
  obtain ⟨fd, F⟩ := T.c.def_ 10
  have B : Bd K fd ["self", "value"] 1 ["value"] [.inl 0, .inl 1] := bdP0 (ps := ["self", "value"]) [.inl 0, .inl 1] F rfl (fun _ _ _ _ _ _ us ws h1 h2 => match us, ws, h1, h2 with | [_], [_], _, _ => rfl) (fun vs h => match vs, h with | [_, _], _ => rfl)
  exact ⟨fd, xinit_ok F ⟨rfl, rfl, rfl, by decide +kernel, rfl, by decide +kernel, by decide +kernel⟩ fun cd A outer s H E => pss_cons (ps_expr (pe_einit rfl (T.glo 1) (T.ein 0).1 (T.ein 0).2 (pa_cons (pe_var rfl (by first | exact Or.inl rfl | exact Or.inr (Or.inl rfl) | exact Or.inr (Or.inr rfl))) (pa_cons pe_str pa_nil)))) (pss_cons (ps_ost (pe_var rfl (by first | exact Or.inl rfl | exact Or.inr (Or.inl rfl) | exact Or.inr (Or.inr rfl))) (pe_var rfl (by first | exact Or.inl rfl | exact Or.inr (Or.inl rfl) | exact Or.inr (Or.inr rfl)))) pss_nil), B⟩
theorem xik_InvalidGroups (T : Tx fas fns K mg) : XIniK P w K mg base (He.ma K (He.ga K "InvalidGroups") "__init__") "value" := by
  obtain ⟨fd, F⟩ := T.c.def_ 11
  have B : Bd K fd ["self", "value"] 1 ["value"] [.inl 0, .inl 1] := bdP0 (ps := ["self", "value"]) [.inl 0, .inl 1] F rfl (fun _ _ _ _ _ _ us ws h1 h2 => match us, ws, h1, h2 with | [_], [_], _, _ => rfl) (fun vs h => match vs, h with | [_, _], _ => rfl)
  exact ⟨fd, xinit_ok F ⟨rfl, rfl, rfl, by decide +kernel, rfl, by decide +kernel, by decide +kernel⟩ fun cd A outer s H E => pss_cons (ps_expr (pe_einit rfl (T.glo 1) (T.ein 0).1 (T.ein 0).2 (pa_cons (pe_var rfl (by first | exact Or.inl rfl | exact Or.inr (Or.inl rfl) | exact Or.inr (Or.inr rfl))) (pa_cons pe_str pa_nil)))) (pss_cons (ps_ost (pe_var rfl (by first | exact Or.inl rfl | exact Or.inr (Or.inl rfl) | exact Or.inr (Or.inr rfl))) (pe_var rfl (by first | exact Or.inl rfl | exact Or.inr (Or.inl rfl) | exact Or.inr (Or.inr rfl)))) pss_nil), B⟩
theorem xik_InvalidPosition (T : Tx fas fns K mg) : XIniK P w K mg base (He.ma K (He.ga K "InvalidPosition") "__init__") "value" := by
  obtain ⟨fd, F⟩ := T.c.def_ 12
  have B : Bd K fd ["self", "value"] 1 ["value"] [.inl 0, .inl 1] := bdP0 (ps := ["self", "value"]) [.inl 0, .inl 1] F rfl (fun _ _ _ _ _ _ us ws h1 h2 => match us, ws, h1, h2 with | [_], [_], _, _ => rfl) (fun vs h => match vs, h with | [_, _], _ => rfl)
  exact ⟨fd, xinit_ok F ⟨rfl, rfl, rfl, by decide +kernel, rfl, by decide +kernel, by decide +kernel⟩ fun cd A outer s H E => pss_cons (ps_expr (pe_einit rfl (T.glo 1) (T.ein 0).1 (T.ein 0).2 (pa_cons (pe_var rfl (by first | exact Or.inl rfl | exact Or.inr (Or.inl rfl) | exact Or.inr (Or.inr rfl))) (pa_cons pe_str pa_nil)))) (pss_cons (ps_ost (pe_var rfl (by first | exact Or.inl rfl | exact Or.inr (Or.inl rfl) | exact Or.inr (Or.inr rfl))) (pe_var rfl (by first | exact Or.inl rfl | exact Or.inr (Or.inl rfl) | exact Or.inr (Or.inr rfl)))) pss_nil), B⟩
theorem xik_InvalidName (T : Tx fas fns K mg) : XIniK P w K mg base (He.ma K (He.ga K "InvalidName") "__init__") "value" := by
  obtain ⟨fd, F⟩ := T.c.def_ 13
  have B : Bd K fd ["self", "value"] 1 ["value"] [.inl 0, .inl 1] := bdP0 (ps := ["self", "value"]) [.inl 0, .inl 1] F rfl (fun _ _ _ _ _ _ us ws h1 h2 => match us, ws, h1, h2 with | [_], [_], _, _ => rfl) (fun vs h => match vs, h with | [_, _], _ => rfl)
  exact ⟨fd, xinit_ok F ⟨rfl, rfl, rfl, by decide +kernel, rfl, by decide +kernel, by decide +kernel⟩ fun cd A outer s H E => pss_cons (ps_expr (pe_einit rfl (T.glo 1) (T.ein 0).1 (T.ein 0).2 (pa_cons (pe_var rfl (by first | exact Or.inl rfl | exact Or.inr (Or.inl rfl) | exact Or.inr (Or.inr rfl))) (pa_cons pe_str pa_nil)))) (pss_cons (ps_ost (pe_var rfl (by first | exact Or.inl rfl | exact Or.inr (Or.inl rfl) | exact Or.inr (Or.inr rfl))) (pe_var rfl (by first | exact Or.inl rfl | exact Or.inr (Or.inl rfl) | exact Or.inr (Or.inr rfl)))) pss_nil), B⟩
theorem xik_InvalidCommand (T : Tx fas fns K mg) : XIniK P w K mg base (He.ma K (He.ga K "InvalidCommand") "__init__") "value" := by
  obtain ⟨fd, F⟩ := T.c.def_ 14
  have B : Bd K fd ["self", "value"] 1 ["value"] [.inl 0, .inl 1] := bdP0 (ps := ["self", "value"]) [.inl 0, .inl 1] F rfl (fun _ _ _ _ _ _ us ws h1 h2 => match us, ws, h1, h2 with | [_], [_], _, _ => rfl) (fun vs h => match vs, h with | [_, _], _ => rfl)
  exact ⟨fd, xinit_ok F ⟨rfl, rfl, rfl, by decide +kernel, rfl, by decide +kernel, by decide +kernel⟩ fun cd A outer s H E => pss_cons (ps_expr (pe_einit rfl (T.glo 1) (T.ein 0).1 (T.ein 0).2 (pa_cons (pe_var rfl (by first | exact Or.inl rfl | exact Or.inr (Or.inl rfl) | exact Or.inr (Or.inr rfl))) (pa_cons pe_str pa_nil)))) (pss_cons (ps_ost (pe_var rfl (by first | exact Or.inl rfl | exact Or.inr (Or.inl rfl) | exact Or.inr (Or.inr rfl))) (pe_var rfl (by first | exact Or.inl rfl | exact Or.inr (Or.inl rfl) | exact Or.inr (Or.inr rfl)))) pss_nil), B⟩
theorem xik_ParseError (T : Tx fas fns K mg) : XIniK P w K mg base (He.ma K (He.ga K "ParseError") "__init__") "line" := by
  obtain ⟨fd, F⟩ := T.c.def_ 15
  have B : Bd K fd ["self", "line"] 1 ["line"] [.inl 0, .inl 1] := bdP0 (ps := ["self", "line"]) [.inl 0, .inl 1] F rfl (fun _ _ _ _ _ _ us ws h1 h2 => match us, ws, h1, h2 with | [_], [_], _, _ => rfl) (fun vs h => match vs, h with | [_, _], _ => rfl)
  exact ⟨fd, xinit_ok F ⟨rfl, rfl, rfl, by decide +kernel, rfl, by decide +kernel, by decide +kernel⟩ fun cd A outer s H E => pss_cons (ps_expr (pe_einit rfl (T.glo 1) (T.ein 0).1 (T.ein 0).2 (pa_cons (pe_var rfl (by first | exact Or.inl rfl | exact Or.inr (Or.inl rfl) | exact Or.inr (Or.inr rfl))) (pa_cons pe_str pa_nil)))) (pss_cons (ps_ost (pe_var rfl (by first | exact Or.inl rfl | exact Or.inr (Or.inl rfl) | exact Or.inr (Or.inr rfl))) (pe_var rfl (by first | exact Or.inl rfl | exact Or.inr (Or.inl rfl) | exact Or.inr (Or.inr rfl)))) pss_nil), B⟩
theorem xik_LimitExceeded (T : Tx fas fns K mg) : XIniGK P w K mg base (He.ma K (He.ga K "LimitExceeded") "__init__") "limit" "OverflowError.__new__" [.type "OverflowError", .type "ArithmeticError", .type "Exception", .type "BaseException", .type "object"] := by
  obtain ⟨fd, F⟩ := T.c.def_ 16
  have B : Bd K fd ["self", "limit"] 1 ["limit"] [.inl 0, .inl 1] := bdP0 (ps := ["self", "limit"]) [.inl 0, .inl 1] F rfl (fun _ _ _ _ _ _ us ws h1 h2 => match us, ws, h1, h2 with | [_], [_], _, _ => rfl) (fun vs h => match vs, h with | [_, _], _ => rfl)
  exact ⟨fd, xinitG F ⟨rfl, rfl, rfl, by decide +kernel, rfl, by decide +kernel, by decide +kernel⟩ fun cd A outer s H E => pss_cons (ps_expr (pe_binit xb_Overflow xn_Overflow rfl (T.free 25) (T.bin 24) (pa_cons (pe_var rfl (by first | exact Or.inl rfl | exact Or.inr (Or.inl rfl) | exact Or.inr (Or.inr rfl))) (pa_cons pe_str pa_nil)))) (pss_cons (ps_ost1 xb_Overflow (pe_var rfl (by first | exact Or.inl rfl | exact Or.inr (Or.inl rfl) | exact Or.inr (Or.inr rfl))) (pe_var rfl (by first | exact Or.inl rfl | exact Or.inr (Or.inl rfl) | exact Or.inr (Or.inr rfl)))) pss_nil), B⟩
theorem kp_law_errors (T : Tx fas fns K mg) : PySem.W.keepIn K (.ref (At.ad K (.g "_law_errors"))) = true := T.kp 0
abbrev Ok_law_errors (P : Program) (w : World) (K : PySem.W.Frag) (mg : PySem.Str → Option Value) (base : Heap) : Prop := FnP P w K mg base 4 (At.ad K (.g "_law_errors")) (spN (gd_ K) N_law_errors F_law_errors 1 pl_law_errors)
theorem sc_law_errors : FnScope N_law_errors ["_law_x"] (defScope s_law_errors) := ⟨rfl, rfl, rfl, by decide +kernel, rfl, by decide +kernel, by decide +kernel⟩
theorem b_law_errors (T : Tx fas fns K mg) : BodyC (gd_ K) P w K mg base 3 N_law_errors "_law_errors" (defScope s_law_errors) (At.ad K (.g "_law_errors")) (defBody s_law_errors) g_law_errors := by
  intro cd A outer s H E room gd tk
  have S := sc_law_errors
  exact (css_cons (cs_set (i := 1) S.nd rfl (by first | exact Or.inl rfl | exact Or.inr rfl) (CM.ce (cm_lst (ca_cons (ce_mkx (c := 1) (T.oexf 2) (xi_InvalidRanking T) (room.mono (by decide)) rfl (T.glo 3) (ce_var 0)) (ca_cons (ce_mkx (c := 2) (T.oexf 4) (xi_InvalidPlayer T) (room.mono (by decide)) rfl (T.glo 5) (ce_var 0)) (ca_cons (ce_mkx (c := 3) (T.oexf 6) (xi_InvalidAlternative T) (room.mono (by decide)) rfl (T.glo 7) (ce_var 0)) (ca_cons (ce_mkx (c := 4) (T.oexf 8) (xi_InvalidTurns T) (room.mono (by decide)) rfl (T.glo 9) (ce_var 0)) (ca_cons (ce_mkx (c := 5) (T.oexf 10) (xi_InvalidCounts T) (room.mono (by decide)) rfl (T.glo 11) (ce_var 0)) ca_nil)))))))) (css_cons (cs_set (i := 1) S.nd rfl (by first | exact Or.inl rfl | exact Or.inr rfl) (ce_add (ce_var 1) (CM.ce (cm_lst (ca_cons (ce_mkx (c := 6) (T.oexf 12) (xi_InvalidLeft T) (room.mono (by decide)) rfl (T.glo 13) (ce_var 0)) (ca_cons (ce_mkx (c := 7) (T.oexf 14) (xi_InvalidGroups T) (room.mono (by decide)) rfl (T.glo 15) (ce_var 0)) (ca_cons (ce_mkx (c := 8) (T.oexf 16) (xi_InvalidPosition T) (room.mono (by decide)) rfl (T.glo 17) (ce_var 0)) (ca_cons (ce_mkx (c := 9) (T.oexf 18) (xi_InvalidName T) (room.mono (by decide)) rfl (T.glo 19) (ce_var 0)) (ca_cons (ce_mkx (c := 10) (T.oexf 20) (xi_InvalidCommand T) (room.mono (by decide)) rfl (T.glo 21) (ce_var 0)) ca_nil))))))))) (css_one (cs_ret (ce_add (ce_var 1) (CM.ce (cm_lst (ca_cons (ce_mkx (c := 11) (T.oexf 22) (xi_ParseError T) (room.mono (by decide)) rfl (T.glo 23) (ce_var 0)) (ca_cons (ce_mkxG xb_Overflow (c := 12) (T.oexg 26) (xi_LimitExceeded T) (room.mono (by decide)) rfl (T.glo 27) (ce_var 0)) (ca_cons (ce_mkxN xb_Runtime (c := 13) (T.oexn 30) (xi_PlayEnded T) (room.mono (by decide)) rfl (T.glo 31)) (ca_cons (ce_mkxN xb_Runtime (c := 14) (T.oexn 32) (xi_NothingToUndo T) (room.mono (by decide)) rfl (T.glo 33)) (ca_cons (ce_mkxN xb_Lookup (c := 15) (T.oexn 36) (xi_NoPlay T) (room.mono (by decide)) rfl (T.glo 37)) ca_nil))))))))))))
theorem ok_law_errors (T : Tx fas fns K mg) : Ok_law_errors P w K mg base := by
  obtain ⟨fd, F⟩ := T.c.def_ 0
  have B : Binds K fd ["_law_x"] [] := F.bindsN (ps := ["_law_x"]) fun _ _ _ _ _ _ us hl => match us, hl with | [_], _ => rfl
  exact FnP.of (fn_body F sc_law_errors (Bd.of (n := 1) (dp := []) B .nil rfl rfl) (b_law_errors T))
theorem kp_law_kinds (T : Tx fas fns K mg) : PySem.W.keepIn K (.ref (At.ad K (.g "_law_kinds"))) = true := T.kp 1
abbrev Ok_law_kinds (P : Program) (w : World) (K : PySem.W.Frag) (mg : PySem.Str → Option Value) (base : Heap) : Prop := FnP P w K mg base 1 (At.ad K (.g "_law_kinds")) (spN (gd_ K) N_law_kinds F_law_kinds 1 pl_law_kinds)
theorem sc_law_kinds : FnScope N_law_kinds ["_law_e"] (defScope s_law_kinds) := ⟨rfl, rfl, rfl, by decide +kernel, rfl, by decide +kernel, by decide +kernel⟩
theorem b_law_kinds (T : Tx fas fns K mg) : BodyC (gd_ K) P w K mg base 0 N_law_kinds "_law_kinds" (defScope s_law_kinds) (At.ad K (.g "_law_kinds")) (defBody s_law_kinds) g_law_kinds := by
  intro cd A outer s H E room gd tk
  have S := sc_law_kinds
  exact (css_cons (cs_set (i := 1) S.nd rfl (by first | exact Or.inl rfl | exact Or.inr rfl) (CM.ce (cm_lst (ca_cons (ce_bi (cf_isx (XTb.cons (n := 1) (k := (.fn 5)) (b := true) (T.exc 67) (T.kit 66) (XTb.cons (n := 2) (k := (.fn 5)) (b := false) (T.exc 65) (T.kit 64) (XTb.cons (n := 3) (k := (.fn 5)) (b := false) (T.exc 63) (T.kit 62) (XTb.cons (n := 4) (k := (.fn 5)) (b := false) (T.exc 61) (T.kit 60) (XTb.cons (n := 5) (k := (.fn 5)) (b := false) (T.exc 59) (T.kit 58) (XTb.cons (n := 6) (k := (.fn 5)) (b := false) (T.exc 57) (T.kit 56) (XTb.cons (n := 7) (k := (.fn 5)) (b := false) (T.exc 55) (T.kit 54) (XTb.cons (n := 8) (k := (.fn 5)) (b := false) (T.exc 53) (T.kit 52) (XTb.cons (n := 9) (k := (.fn 5)) (b := false) (T.exc 51) (T.kit 50) (XTb.cons (n := 10) (k := (.fn 5)) (b := false) (T.exc 49) (T.kit 48) (XTb.cons (n := 11) (k := (.fn 5)) (b := false) (T.exc 47) (T.kit 46) (XTb.cons (n := 12) (k := (.fn 5)) (b := false) (T.exc 45) (T.kit 44) (XTb.cons (n := 13) (k := (.fn 5)) (b := false) (T.exc 43) (T.kit 42) (XTb.cons (n := 14) (k := (.fn 5)) (b := false) (T.exc 41) (T.kit 40) (XTb.cons (n := 15) (k := (.fn 5)) (b := false) (T.exc 39) (T.kit 38) XTb.nil)))))))))))))))) rfl (T.free 68) (by decide +kernel) (ca_cons (ce_var 0) (ca_cons (ce_glob (n := 5) rfl (T.glo 3) rfl) ca_nil))) (ca_cons (ce_bi (cf_isx (XTb.cons (n := 1) (k := (.fn 2)) (b := false) (T.exc 67) (T.kit 83) (XTb.cons (n := 2) (k := (.fn 2)) (b := true) (T.exc 65) (T.kit 82) (XTb.cons (n := 3) (k := (.fn 2)) (b := false) (T.exc 63) (T.kit 81) (XTb.cons (n := 4) (k := (.fn 2)) (b := false) (T.exc 61) (T.kit 80) (XTb.cons (n := 5) (k := (.fn 2)) (b := false) (T.exc 59) (T.kit 79) (XTb.cons (n := 6) (k := (.fn 2)) (b := false) (T.exc 57) (T.kit 78) (XTb.cons (n := 7) (k := (.fn 2)) (b := false) (T.exc 55) (T.kit 77) (XTb.cons (n := 8) (k := (.fn 2)) (b := false) (T.exc 53) (T.kit 76) (XTb.cons (n := 9) (k := (.fn 2)) (b := false) (T.exc 51) (T.kit 75) (XTb.cons (n := 10) (k := (.fn 2)) (b := false) (T.exc 49) (T.kit 74) (XTb.cons (n := 11) (k := (.fn 2)) (b := false) (T.exc 47) (T.kit 73) (XTb.cons (n := 12) (k := (.fn 2)) (b := false) (T.exc 45) (T.kit 72) (XTb.cons (n := 13) (k := (.fn 2)) (b := false) (T.exc 43) (T.kit 71) (XTb.cons (n := 14) (k := (.fn 2)) (b := false) (T.exc 41) (T.kit 70) (XTb.cons (n := 15) (k := (.fn 2)) (b := false) (T.exc 39) (T.kit 69) XTb.nil)))))))))))))))) rfl (T.free 68) (by decide +kernel) (ca_cons (ce_var 0) (ca_cons (ce_glob (n := 2) rfl (T.glo 5) rfl) ca_nil))) (ca_cons (ce_bi (cf_isx (XTb.cons (n := 1) (k := (.fn 3)) (b := false) (T.exc 67) (T.kit 98) (XTb.cons (n := 2) (k := (.fn 3)) (b := false) (T.exc 65) (T.kit 97) (XTb.cons (n := 3) (k := (.fn 3)) (b := true) (T.exc 63) (T.kit 96) (XTb.cons (n := 4) (k := (.fn 3)) (b := false) (T.exc 61) (T.kit 95) (XTb.cons (n := 5) (k := (.fn 3)) (b := false) (T.exc 59) (T.kit 94) (XTb.cons (n := 6) (k := (.fn 3)) (b := false) (T.exc 57) (T.kit 93) (XTb.cons (n := 7) (k := (.fn 3)) (b := false) (T.exc 55) (T.kit 92) (XTb.cons (n := 8) (k := (.fn 3)) (b := false) (T.exc 53) (T.kit 91) (XTb.cons (n := 9) (k := (.fn 3)) (b := false) (T.exc 51) (T.kit 90) (XTb.cons (n := 10) (k := (.fn 3)) (b := false) (T.exc 49) (T.kit 89) (XTb.cons (n := 11) (k := (.fn 3)) (b := false) (T.exc 47) (T.kit 88) (XTb.cons (n := 12) (k := (.fn 3)) (b := false) (T.exc 45) (T.kit 87) (XTb.cons (n := 13) (k := (.fn 3)) (b := false) (T.exc 43) (T.kit 86) (XTb.cons (n := 14) (k := (.fn 3)) (b := false) (T.exc 41) (T.kit 85) (XTb.cons (n := 15) (k := (.fn 3)) (b := false) (T.exc 39) (T.kit 84) XTb.nil)))))))))))))))) rfl (T.free 68) (by decide +kernel) (ca_cons (ce_var 0) (ca_cons (ce_glob (n := 3) rfl (T.glo 7) rfl) ca_nil))) ca_nil)))))) (css_cons (cs_set (i := 1) S.nd rfl (by first | exact Or.inl rfl | exact Or.inr rfl) (ce_add (ce_var 1) (CM.ce (cm_lst (ca_cons (ce_bi (cf_isx (XTb.cons (n := 1) (k := (.fn 4)) (b := false) (T.exc 67) (T.kit 113) (XTb.cons (n := 2) (k := (.fn 4)) (b := false) (T.exc 65) (T.kit 112) (XTb.cons (n := 3) (k := (.fn 4)) (b := false) (T.exc 63) (T.kit 111) (XTb.cons (n := 4) (k := (.fn 4)) (b := true) (T.exc 61) (T.kit 110) (XTb.cons (n := 5) (k := (.fn 4)) (b := false) (T.exc 59) (T.kit 109) (XTb.cons (n := 6) (k := (.fn 4)) (b := false) (T.exc 57) (T.kit 108) (XTb.cons (n := 7) (k := (.fn 4)) (b := false) (T.exc 55) (T.kit 107) (XTb.cons (n := 8) (k := (.fn 4)) (b := false) (T.exc 53) (T.kit 106) (XTb.cons (n := 9) (k := (.fn 4)) (b := false) (T.exc 51) (T.kit 105) (XTb.cons (n := 10) (k := (.fn 4)) (b := false) (T.exc 49) (T.kit 104) (XTb.cons (n := 11) (k := (.fn 4)) (b := false) (T.exc 47) (T.kit 103) (XTb.cons (n := 12) (k := (.fn 4)) (b := false) (T.exc 45) (T.kit 102) (XTb.cons (n := 13) (k := (.fn 4)) (b := false) (T.exc 43) (T.kit 101) (XTb.cons (n := 14) (k := (.fn 4)) (b := false) (T.exc 41) (T.kit 100) (XTb.cons (n := 15) (k := (.fn 4)) (b := false) (T.exc 39) (T.kit 99) XTb.nil)))))))))))))))) rfl (T.free 68) (by decide +kernel) (ca_cons (ce_var 0) (ca_cons (ce_glob (n := 4) rfl (T.glo 9) rfl) ca_nil))) (ca_cons (ce_bi (cf_isx (XTb.cons (n := 1) (k := (.fn 9)) (b := false) (T.exc 67) (T.kit 128) (XTb.cons (n := 2) (k := (.fn 9)) (b := false) (T.exc 65) (T.kit 127) (XTb.cons (n := 3) (k := (.fn 9)) (b := false) (T.exc 63) (T.kit 126) (XTb.cons (n := 4) (k := (.fn 9)) (b := false) (T.exc 61) (T.kit 125) (XTb.cons (n := 5) (k := (.fn 9)) (b := true) (T.exc 59) (T.kit 124) (XTb.cons (n := 6) (k := (.fn 9)) (b := false) (T.exc 57) (T.kit 123) (XTb.cons (n := 7) (k := (.fn 9)) (b := false) (T.exc 55) (T.kit 122) (XTb.cons (n := 8) (k := (.fn 9)) (b := false) (T.exc 53) (T.kit 121) (XTb.cons (n := 9) (k := (.fn 9)) (b := false) (T.exc 51) (T.kit 120) (XTb.cons (n := 10) (k := (.fn 9)) (b := false) (T.exc 49) (T.kit 119) (XTb.cons (n := 11) (k := (.fn 9)) (b := false) (T.exc 47) (T.kit 118) (XTb.cons (n := 12) (k := (.fn 9)) (b := false) (T.exc 45) (T.kit 117) (XTb.cons (n := 13) (k := (.fn 9)) (b := false) (T.exc 43) (T.kit 116) (XTb.cons (n := 14) (k := (.fn 9)) (b := false) (T.exc 41) (T.kit 115) (XTb.cons (n := 15) (k := (.fn 9)) (b := false) (T.exc 39) (T.kit 114) XTb.nil)))))))))))))))) rfl (T.free 68) (by decide +kernel) (ca_cons (ce_var 0) (ca_cons (ce_glob (n := 9) rfl (T.glo 11) rfl) ca_nil))) (ca_cons (ce_bi (cf_isx (XTb.cons (n := 1) (k := (.fn 10)) (b := false) (T.exc 67) (T.kit 143) (XTb.cons (n := 2) (k := (.fn 10)) (b := false) (T.exc 65) (T.kit 142) (XTb.cons (n := 3) (k := (.fn 10)) (b := false) (T.exc 63) (T.kit 141) (XTb.cons (n := 4) (k := (.fn 10)) (b := false) (T.exc 61) (T.kit 140) (XTb.cons (n := 5) (k := (.fn 10)) (b := false) (T.exc 59) (T.kit 139) (XTb.cons (n := 6) (k := (.fn 10)) (b := true) (T.exc 57) (T.kit 138) (XTb.cons (n := 7) (k := (.fn 10)) (b := false) (T.exc 55) (T.kit 137) (XTb.cons (n := 8) (k := (.fn 10)) (b := false) (T.exc 53) (T.kit 136) (XTb.cons (n := 9) (k := (.fn 10)) (b := false) (T.exc 51) (T.kit 135) (XTb.cons (n := 10) (k := (.fn 10)) (b := false) (T.exc 49) (T.kit 134) (XTb.cons (n := 11) (k := (.fn 10)) (b := false) (T.exc 47) (T.kit 133) (XTb.cons (n := 12) (k := (.fn 10)) (b := false) (T.exc 45) (T.kit 132) (XTb.cons (n := 13) (k := (.fn 10)) (b := false) (T.exc 43) (T.kit 131) (XTb.cons (n := 14) (k := (.fn 10)) (b := false) (T.exc 41) (T.kit 130) (XTb.cons (n := 15) (k := (.fn 10)) (b := false) (T.exc 39) (T.kit 129) XTb.nil)))))))))))))))) rfl (T.free 68) (by decide +kernel) (ca_cons (ce_var 0) (ca_cons (ce_glob (n := 10) rfl (T.glo 13) rfl) ca_nil))) ca_nil))))))) (css_cons (cs_set (i := 1) S.nd rfl (by first | exact Or.inl rfl | exact Or.inr rfl) (ce_add (ce_var 1) (CM.ce (cm_lst (ca_cons (ce_bi (cf_isx (XTb.cons (n := 1) (k := (.fn 11)) (b := false) (T.exc 67) (T.kit 158) (XTb.cons (n := 2) (k := (.fn 11)) (b := false) (T.exc 65) (T.kit 157) (XTb.cons (n := 3) (k := (.fn 11)) (b := false) (T.exc 63) (T.kit 156) (XTb.cons (n := 4) (k := (.fn 11)) (b := false) (T.exc 61) (T.kit 155) (XTb.cons (n := 5) (k := (.fn 11)) (b := false) (T.exc 59) (T.kit 154) (XTb.cons (n := 6) (k := (.fn 11)) (b := false) (T.exc 57) (T.kit 153) (XTb.cons (n := 7) (k := (.fn 11)) (b := true) (T.exc 55) (T.kit 152) (XTb.cons (n := 8) (k := (.fn 11)) (b := false) (T.exc 53) (T.kit 151) (XTb.cons (n := 9) (k := (.fn 11)) (b := false) (T.exc 51) (T.kit 150) (XTb.cons (n := 10) (k := (.fn 11)) (b := false) (T.exc 49) (T.kit 149) (XTb.cons (n := 11) (k := (.fn 11)) (b := false) (T.exc 47) (T.kit 148) (XTb.cons (n := 12) (k := (.fn 11)) (b := false) (T.exc 45) (T.kit 147) (XTb.cons (n := 13) (k := (.fn 11)) (b := false) (T.exc 43) (T.kit 146) (XTb.cons (n := 14) (k := (.fn 11)) (b := false) (T.exc 41) (T.kit 145) (XTb.cons (n := 15) (k := (.fn 11)) (b := false) (T.exc 39) (T.kit 144) XTb.nil)))))))))))))))) rfl (T.free 68) (by decide +kernel) (ca_cons (ce_var 0) (ca_cons (ce_glob (n := 11) rfl (T.glo 15) rfl) ca_nil))) (ca_cons (ce_bi (cf_isx (XTb.cons (n := 1) (k := (.fn 12)) (b := false) (T.exc 67) (T.kit 173) (XTb.cons (n := 2) (k := (.fn 12)) (b := false) (T.exc 65) (T.kit 172) (XTb.cons (n := 3) (k := (.fn 12)) (b := false) (T.exc 63) (T.kit 171) (XTb.cons (n := 4) (k := (.fn 12)) (b := false) (T.exc 61) (T.kit 170) (XTb.cons (n := 5) (k := (.fn 12)) (b := false) (T.exc 59) (T.kit 169) (XTb.cons (n := 6) (k := (.fn 12)) (b := false) (T.exc 57) (T.kit 168) (XTb.cons (n := 7) (k := (.fn 12)) (b := false) (T.exc 55) (T.kit 167) (XTb.cons (n := 8) (k := (.fn 12)) (b := true) (T.exc 53) (T.kit 166) (XTb.cons (n := 9) (k := (.fn 12)) (b := false) (T.exc 51) (T.kit 165) (XTb.cons (n := 10) (k := (.fn 12)) (b := false) (T.exc 49) (T.kit 164) (XTb.cons (n := 11) (k := (.fn 12)) (b := false) (T.exc 47) (T.kit 163) (XTb.cons (n := 12) (k := (.fn 12)) (b := false) (T.exc 45) (T.kit 162) (XTb.cons (n := 13) (k := (.fn 12)) (b := false) (T.exc 43) (T.kit 161) (XTb.cons (n := 14) (k := (.fn 12)) (b := false) (T.exc 41) (T.kit 160) (XTb.cons (n := 15) (k := (.fn 12)) (b := false) (T.exc 39) (T.kit 159) XTb.nil)))))))))))))))) rfl (T.free 68) (by decide +kernel) (ca_cons (ce_var 0) (ca_cons (ce_glob (n := 12) rfl (T.glo 17) rfl) ca_nil))) (ca_cons (ce_bi (cf_isx (XTb.cons (n := 1) (k := (.fn 13)) (b := false) (T.exc 67) (T.kit 188) (XTb.cons (n := 2) (k := (.fn 13)) (b := false) (T.exc 65) (T.kit 187) (XTb.cons (n := 3) (k := (.fn 13)) (b := false) (T.exc 63) (T.kit 186) (XTb.cons (n := 4) (k := (.fn 13)) (b := false) (T.exc 61) (T.kit 185) (XTb.cons (n := 5) (k := (.fn 13)) (b := false) (T.exc 59) (T.kit 184) (XTb.cons (n := 6) (k := (.fn 13)) (b := false) (T.exc 57) (T.kit 183) (XTb.cons (n := 7) (k := (.fn 13)) (b := false) (T.exc 55) (T.kit 182) (XTb.cons (n := 8) (k := (.fn 13)) (b := false) (T.exc 53) (T.kit 181) (XTb.cons (n := 9) (k := (.fn 13)) (b := true) (T.exc 51) (T.kit 180) (XTb.cons (n := 10) (k := (.fn 13)) (b := false) (T.exc 49) (T.kit 179) (XTb.cons (n := 11) (k := (.fn 13)) (b := false) (T.exc 47) (T.kit 178) (XTb.cons (n := 12) (k := (.fn 13)) (b := false) (T.exc 45) (T.kit 177) (XTb.cons (n := 13) (k := (.fn 13)) (b := false) (T.exc 43) (T.kit 176) (XTb.cons (n := 14) (k := (.fn 13)) (b := false) (T.exc 41) (T.kit 175) (XTb.cons (n := 15) (k := (.fn 13)) (b := false) (T.exc 39) (T.kit 174) XTb.nil)))))))))))))))) rfl (T.free 68) (by decide +kernel) (ca_cons (ce_var 0) (ca_cons (ce_glob (n := 13) rfl (T.glo 19) rfl) ca_nil))) ca_nil))))))) (css_cons (cs_set (i := 1) S.nd rfl (by first | exact Or.inl rfl | exact Or.inr rfl) (ce_add (ce_var 1) (CM.ce (cm_lst (ca_cons (ce_bi (cf_isx (XTb.cons (n := 1) (k := (.fn 14)) (b := false) (T.exc 67) (T.kit 203) (XTb.cons (n := 2) (k := (.fn 14)) (b := false) (T.exc 65) (T.kit 202) (XTb.cons (n := 3) (k := (.fn 14)) (b := false) (T.exc 63) (T.kit 201) (XTb.cons (n := 4) (k := (.fn 14)) (b := false) (T.exc 61) (T.kit 200) (XTb.cons (n := 5) (k := (.fn 14)) (b := false) (T.exc 59) (T.kit 199) (XTb.cons (n := 6) (k := (.fn 14)) (b := false) (T.exc 57) (T.kit 198) (XTb.cons (n := 7) (k := (.fn 14)) (b := false) (T.exc 55) (T.kit 197) (XTb.cons (n := 8) (k := (.fn 14)) (b := false) (T.exc 53) (T.kit 196) (XTb.cons (n := 9) (k := (.fn 14)) (b := false) (T.exc 51) (T.kit 195) (XTb.cons (n := 10) (k := (.fn 14)) (b := true) (T.exc 49) (T.kit 194) (XTb.cons (n := 11) (k := (.fn 14)) (b := false) (T.exc 47) (T.kit 193) (XTb.cons (n := 12) (k := (.fn 14)) (b := false) (T.exc 45) (T.kit 192) (XTb.cons (n := 13) (k := (.fn 14)) (b := false) (T.exc 43) (T.kit 191) (XTb.cons (n := 14) (k := (.fn 14)) (b := false) (T.exc 41) (T.kit 190) (XTb.cons (n := 15) (k := (.fn 14)) (b := false) (T.exc 39) (T.kit 189) XTb.nil)))))))))))))))) rfl (T.free 68) (by decide +kernel) (ca_cons (ce_var 0) (ca_cons (ce_glob (n := 14) rfl (T.glo 21) rfl) ca_nil))) (ca_cons (ce_bi (cf_isx (XTb.cons (n := 1) (k := (.fn 6)) (b := false) (T.exc 67) (T.kit 218) (XTb.cons (n := 2) (k := (.fn 6)) (b := false) (T.exc 65) (T.kit 217) (XTb.cons (n := 3) (k := (.fn 6)) (b := false) (T.exc 63) (T.kit 216) (XTb.cons (n := 4) (k := (.fn 6)) (b := false) (T.exc 61) (T.kit 215) (XTb.cons (n := 5) (k := (.fn 6)) (b := false) (T.exc 59) (T.kit 214) (XTb.cons (n := 6) (k := (.fn 6)) (b := false) (T.exc 57) (T.kit 213) (XTb.cons (n := 7) (k := (.fn 6)) (b := false) (T.exc 55) (T.kit 212) (XTb.cons (n := 8) (k := (.fn 6)) (b := false) (T.exc 53) (T.kit 211) (XTb.cons (n := 9) (k := (.fn 6)) (b := false) (T.exc 51) (T.kit 210) (XTb.cons (n := 10) (k := (.fn 6)) (b := false) (T.exc 49) (T.kit 209) (XTb.cons (n := 11) (k := (.fn 6)) (b := true) (T.exc 47) (T.kit 208) (XTb.cons (n := 12) (k := (.fn 6)) (b := false) (T.exc 45) (T.kit 207) (XTb.cons (n := 13) (k := (.fn 6)) (b := false) (T.exc 43) (T.kit 206) (XTb.cons (n := 14) (k := (.fn 6)) (b := false) (T.exc 41) (T.kit 205) (XTb.cons (n := 15) (k := (.fn 6)) (b := false) (T.exc 39) (T.kit 204) XTb.nil)))))))))))))))) rfl (T.free 68) (by decide +kernel) (ca_cons (ce_var 0) (ca_cons (ce_glob (n := 6) rfl (T.glo 23) rfl) ca_nil))) (ca_cons (ce_bi (cf_isx (XTb.cons (n := 1) (k := (.fn 15)) (b := false) (T.exc 67) (T.kit 233) (XTb.cons (n := 2) (k := (.fn 15)) (b := false) (T.exc 65) (T.kit 232) (XTb.cons (n := 3) (k := (.fn 15)) (b := false) (T.exc 63) (T.kit 231) (XTb.cons (n := 4) (k := (.fn 15)) (b := false) (T.exc 61) (T.kit 230) (XTb.cons (n := 5) (k := (.fn 15)) (b := false) (T.exc 59) (T.kit 229) (XTb.cons (n := 6) (k := (.fn 15)) (b := false) (T.exc 57) (T.kit 228) (XTb.cons (n := 7) (k := (.fn 15)) (b := false) (T.exc 55) (T.kit 227) (XTb.cons (n := 8) (k := (.fn 15)) (b := false) (T.exc 53) (T.kit 226) (XTb.cons (n := 9) (k := (.fn 15)) (b := false) (T.exc 51) (T.kit 225) (XTb.cons (n := 10) (k := (.fn 15)) (b := false) (T.exc 49) (T.kit 224) (XTb.cons (n := 11) (k := (.fn 15)) (b := false) (T.exc 47) (T.kit 223) (XTb.cons (n := 12) (k := (.fn 15)) (b := true) (T.exc 45) (T.kit 222) (XTb.cons (n := 13) (k := (.fn 15)) (b := false) (T.exc 43) (T.kit 221) (XTb.cons (n := 14) (k := (.fn 15)) (b := false) (T.exc 41) (T.kit 220) (XTb.cons (n := 15) (k := (.fn 15)) (b := false) (T.exc 39) (T.kit 219) XTb.nil)))))))))))))))) rfl (T.free 68) (by decide +kernel) (ca_cons (ce_var 0) (ca_cons (ce_glob (n := 15) rfl (T.glo 27) rfl) ca_nil))) ca_nil))))))) (css_one (cs_ret (ce_add (ce_var 1) (CM.ce (cm_lst (ca_cons (ce_bi (cf_isx (XTb.cons (n := 1) (k := (.fn 16)) (b := false) (T.exc 67) (T.kit 248) (XTb.cons (n := 2) (k := (.fn 16)) (b := false) (T.exc 65) (T.kit 247) (XTb.cons (n := 3) (k := (.fn 16)) (b := false) (T.exc 63) (T.kit 246) (XTb.cons (n := 4) (k := (.fn 16)) (b := false) (T.exc 61) (T.kit 245) (XTb.cons (n := 5) (k := (.fn 16)) (b := false) (T.exc 59) (T.kit 244) (XTb.cons (n := 6) (k := (.fn 16)) (b := false) (T.exc 57) (T.kit 243) (XTb.cons (n := 7) (k := (.fn 16)) (b := false) (T.exc 55) (T.kit 242) (XTb.cons (n := 8) (k := (.fn 16)) (b := false) (T.exc 53) (T.kit 241) (XTb.cons (n := 9) (k := (.fn 16)) (b := false) (T.exc 51) (T.kit 240) (XTb.cons (n := 10) (k := (.fn 16)) (b := false) (T.exc 49) (T.kit 239) (XTb.cons (n := 11) (k := (.fn 16)) (b := false) (T.exc 47) (T.kit 238) (XTb.cons (n := 12) (k := (.fn 16)) (b := false) (T.exc 45) (T.kit 237) (XTb.cons (n := 13) (k := (.fn 16)) (b := true) (T.exc 43) (T.kit 236) (XTb.cons (n := 14) (k := (.fn 16)) (b := false) (T.exc 41) (T.kit 235) (XTb.cons (n := 15) (k := (.fn 16)) (b := false) (T.exc 39) (T.kit 234) XTb.nil)))))))))))))))) rfl (T.free 68) (by decide +kernel) (ca_cons (ce_var 0) (ca_cons (ce_glob (n := 16) rfl (T.glo 31) rfl) ca_nil))) (ca_cons (ce_bi (cf_isx (XTb.cons (n := 1) (k := (.fn 17)) (b := false) (T.exc 67) (T.kit 263) (XTb.cons (n := 2) (k := (.fn 17)) (b := false) (T.exc 65) (T.kit 262) (XTb.cons (n := 3) (k := (.fn 17)) (b := false) (T.exc 63) (T.kit 261) (XTb.cons (n := 4) (k := (.fn 17)) (b := false) (T.exc 61) (T.kit 260) (XTb.cons (n := 5) (k := (.fn 17)) (b := false) (T.exc 59) (T.kit 259) (XTb.cons (n := 6) (k := (.fn 17)) (b := false) (T.exc 57) (T.kit 258) (XTb.cons (n := 7) (k := (.fn 17)) (b := false) (T.exc 55) (T.kit 257) (XTb.cons (n := 8) (k := (.fn 17)) (b := false) (T.exc 53) (T.kit 256) (XTb.cons (n := 9) (k := (.fn 17)) (b := false) (T.exc 51) (T.kit 255) (XTb.cons (n := 10) (k := (.fn 17)) (b := false) (T.exc 49) (T.kit 254) (XTb.cons (n := 11) (k := (.fn 17)) (b := false) (T.exc 47) (T.kit 253) (XTb.cons (n := 12) (k := (.fn 17)) (b := false) (T.exc 45) (T.kit 252) (XTb.cons (n := 13) (k := (.fn 17)) (b := false) (T.exc 43) (T.kit 251) (XTb.cons (n := 14) (k := (.fn 17)) (b := true) (T.exc 41) (T.kit 250) (XTb.cons (n := 15) (k := (.fn 17)) (b := false) (T.exc 39) (T.kit 249) XTb.nil)))))))))))))))) rfl (T.free 68) (by decide +kernel) (ca_cons (ce_var 0) (ca_cons (ce_glob (n := 17) rfl (T.glo 33) rfl) ca_nil))) (ca_cons (ce_bi (cf_isx (XTb.cons (n := 1) (k := (.fn 18)) (b := false) (T.exc 67) (T.kit 278) (XTb.cons (n := 2) (k := (.fn 18)) (b := false) (T.exc 65) (T.kit 277) (XTb.cons (n := 3) (k := (.fn 18)) (b := false) (T.exc 63) (T.kit 276) (XTb.cons (n := 4) (k := (.fn 18)) (b := false) (T.exc 61) (T.kit 275) (XTb.cons (n := 5) (k := (.fn 18)) (b := false) (T.exc 59) (T.kit 274) (XTb.cons (n := 6) (k := (.fn 18)) (b := false) (T.exc 57) (T.kit 273) (XTb.cons (n := 7) (k := (.fn 18)) (b := false) (T.exc 55) (T.kit 272) (XTb.cons (n := 8) (k := (.fn 18)) (b := false) (T.exc 53) (T.kit 271) (XTb.cons (n := 9) (k := (.fn 18)) (b := false) (T.exc 51) (T.kit 270) (XTb.cons (n := 10) (k := (.fn 18)) (b := false) (T.exc 49) (T.kit 269) (XTb.cons (n := 11) (k := (.fn 18)) (b := false) (T.exc 47) (T.kit 268) (XTb.cons (n := 12) (k := (.fn 18)) (b := false) (T.exc 45) (T.kit 267) (XTb.cons (n := 13) (k := (.fn 18)) (b := false) (T.exc 43) (T.kit 266) (XTb.cons (n := 14) (k := (.fn 18)) (b := false) (T.exc 41) (T.kit 265) (XTb.cons (n := 15) (k := (.fn 18)) (b := true) (T.exc 39) (T.kit 264) XTb.nil)))))))))))))))) rfl (T.free 68) (by decide +kernel) (ca_cons (ce_var 0) (ca_cons (ce_glob (n := 18) rfl (T.glo 37) rfl) ca_nil))) ca_nil))))))))))))
theorem ok_law_kinds (T : Tx fas fns K mg) : Ok_law_kinds P w K mg base := by
  obtain ⟨fd, F⟩ := T.c.def_ 1
  have B : Binds K fd ["_law_e"] [] := F.bindsN (ps := ["_law_e"]) fun _ _ _ _ _ _ us hl => match us, hl with | [_], _ => rfl
  exact FnP.of (fn_body F sc_law_kinds (Bd.of (n := 1) (dp := []) B .nil rfl rfl) (b_law_kinds T))
theorem kp_law_bases (T : Tx fas fns K mg) : PySem.W.keepIn K (.ref (At.ad K (.g "_law_bases"))) = true := T.kp 2
abbrev Ok_law_bases (P : Program) (w : World) (K : PySem.W.Frag) (mg : PySem.Str → Option Value) (base : Heap) : Prop := FnP P w K mg base 1 (At.ad K (.g "_law_bases")) (spN (gd_ K) N_law_bases F_law_bases 1 pl_law_bases)
theorem sc_law_bases : FnScope N_law_bases ["_law_e"] (defScope s_law_bases) := ⟨rfl, rfl, rfl, by decide +kernel, rfl, by decide +kernel, by decide +kernel⟩
theorem b_law_bases (T : Tx fas fns K mg) : BodyC (gd_ K) P w K mg base 0 N_law_bases "_law_bases" (defScope s_law_bases) (At.ad K (.g "_law_bases")) (defBody s_law_bases) g_law_bases := by
  intro cd A outer s H E room gd tk
  have S := sc_law_bases
  exact (css_cons (cs_set (i := 1) S.nd rfl (by first | exact Or.inl rfl | exact Or.inr rfl) (CM.ce (cm_lst (ca_cons (ce_bi (cf_isx (XTb.cons (n := 1) (k := (.fn 1)) (b := true) (T.exc 67) (T.kit 293) (XTb.cons (n := 2) (k := (.fn 1)) (b := true) (T.exc 65) (T.kit 292) (XTb.cons (n := 3) (k := (.fn 1)) (b := true) (T.exc 63) (T.kit 291) (XTb.cons (n := 4) (k := (.fn 1)) (b := true) (T.exc 61) (T.kit 290) (XTb.cons (n := 5) (k := (.fn 1)) (b := true) (T.exc 59) (T.kit 289) (XTb.cons (n := 6) (k := (.fn 1)) (b := true) (T.exc 57) (T.kit 288) (XTb.cons (n := 7) (k := (.fn 1)) (b := true) (T.exc 55) (T.kit 287) (XTb.cons (n := 8) (k := (.fn 1)) (b := true) (T.exc 53) (T.kit 286) (XTb.cons (n := 9) (k := (.fn 1)) (b := true) (T.exc 51) (T.kit 285) (XTb.cons (n := 10) (k := (.fn 1)) (b := true) (T.exc 49) (T.kit 284) (XTb.cons (n := 11) (k := (.fn 1)) (b := true) (T.exc 47) (T.kit 283) (XTb.cons (n := 12) (k := (.fn 1)) (b := false) (T.exc 45) (T.kit 282) (XTb.cons (n := 13) (k := (.fn 1)) (b := false) (T.exc 43) (T.kit 281) (XTb.cons (n := 14) (k := (.fn 1)) (b := false) (T.exc 41) (T.kit 280) (XTb.cons (n := 15) (k := (.fn 1)) (b := false) (T.exc 39) (T.kit 279) XTb.nil)))))))))))))))) rfl (T.free 68) (by decide +kernel) (ca_cons (ce_var 0) (ca_cons (ce_glob (n := 1) rfl (T.glo 1) rfl) ca_nil))) (ca_cons (ce_bi (cf_isx (XTb.cons (n := 1) (k := (.ty "ValueError")) (b := true) (T.exc 67) (T.kitT 308) (XTb.cons (n := 2) (k := (.ty "ValueError")) (b := true) (T.exc 65) (T.kitT 307) (XTb.cons (n := 3) (k := (.ty "ValueError")) (b := true) (T.exc 63) (T.kitT 306) (XTb.cons (n := 4) (k := (.ty "ValueError")) (b := true) (T.exc 61) (T.kitT 305) (XTb.cons (n := 5) (k := (.ty "ValueError")) (b := true) (T.exc 59) (T.kitT 304) (XTb.cons (n := 6) (k := (.ty "ValueError")) (b := true) (T.exc 57) (T.kitT 303) (XTb.cons (n := 7) (k := (.ty "ValueError")) (b := true) (T.exc 55) (T.kitT 302) (XTb.cons (n := 8) (k := (.ty "ValueError")) (b := true) (T.exc 53) (T.kitT 301) (XTb.cons (n := 9) (k := (.ty "ValueError")) (b := true) (T.exc 51) (T.kitT 300) (XTb.cons (n := 10) (k := (.ty "ValueError")) (b := true) (T.exc 49) (T.kitT 299) (XTb.cons (n := 11) (k := (.ty "ValueError")) (b := true) (T.exc 47) (T.kitT 298) (XTb.cons (n := 12) (k := (.ty "ValueError")) (b := false) (T.exc 45) (T.kitT 297) (XTb.cons (n := 13) (k := (.ty "ValueError")) (b := false) (T.exc 43) (T.kitT 296) (XTb.cons (n := 14) (k := (.ty "ValueError")) (b := false) (T.exc 41) (T.kitT 295) (XTb.cons (n := 15) (k := (.ty "ValueError")) (b := false) (T.exc 39) (T.kitT 294) XTb.nil)))))))))))))))) rfl (T.free 68) (by decide +kernel) (ca_cons (ce_var 0) (ca_cons (ce_ty rfl (T.free 309) (by decide +kernel)) ca_nil))) (ca_cons (ce_bi (cf_isx (XTb.cons (n := 1) (k := (.ty "OverflowError")) (b := false) (T.exc 67) (T.kitT 324) (XTb.cons (n := 2) (k := (.ty "OverflowError")) (b := false) (T.exc 65) (T.kitT 323) (XTb.cons (n := 3) (k := (.ty "OverflowError")) (b := false) (T.exc 63) (T.kitT 322) (XTb.cons (n := 4) (k := (.ty "OverflowError")) (b := false) (T.exc 61) (T.kitT 321) (XTb.cons (n := 5) (k := (.ty "OverflowError")) (b := false) (T.exc 59) (T.kitT 320) (XTb.cons (n := 6) (k := (.ty "OverflowError")) (b := false) (T.exc 57) (T.kitT 319) (XTb.cons (n := 7) (k := (.ty "OverflowError")) (b := false) (T.exc 55) (T.kitT 318) (XTb.cons (n := 8) (k := (.ty "OverflowError")) (b := false) (T.exc 53) (T.kitT 317) (XTb.cons (n := 9) (k := (.ty "OverflowError")) (b := false) (T.exc 51) (T.kitT 316) (XTb.cons (n := 10) (k := (.ty "OverflowError")) (b := false) (T.exc 49) (T.kitT 315) (XTb.cons (n := 11) (k := (.ty "OverflowError")) (b := false) (T.exc 47) (T.kitT 314) (XTb.cons (n := 12) (k := (.ty "OverflowError")) (b := true) (T.exc 45) (T.kitT 313) (XTb.cons (n := 13) (k := (.ty "OverflowError")) (b := false) (T.exc 43) (T.kitT 312) (XTb.cons (n := 14) (k := (.ty "OverflowError")) (b := false) (T.exc 41) (T.kitT 311) (XTb.cons (n := 15) (k := (.ty "OverflowError")) (b := false) (T.exc 39) (T.kitT 310) XTb.nil)))))))))))))))) rfl (T.free 68) (by decide +kernel) (ca_cons (ce_var 0) (ca_cons (ce_ty rfl (T.free 25) (by decide +kernel)) ca_nil))) ca_nil)))))) (css_one (cs_ret (ce_add (ce_var 1) (CM.ce (cm_lst (ca_cons (ce_bi (cf_isx (XTb.cons (n := 1) (k := (.ty "RuntimeError")) (b := false) (T.exc 67) (T.kitT 339) (XTb.cons (n := 2) (k := (.ty "RuntimeError")) (b := false) (T.exc 65) (T.kitT 338) (XTb.cons (n := 3) (k := (.ty "RuntimeError")) (b := false) (T.exc 63) (T.kitT 337) (XTb.cons (n := 4) (k := (.ty "RuntimeError")) (b := false) (T.exc 61) (T.kitT 336) (XTb.cons (n := 5) (k := (.ty "RuntimeError")) (b := false) (T.exc 59) (T.kitT 335) (XTb.cons (n := 6) (k := (.ty "RuntimeError")) (b := false) (T.exc 57) (T.kitT 334) (XTb.cons (n := 7) (k := (.ty "RuntimeError")) (b := false) (T.exc 55) (T.kitT 333) (XTb.cons (n := 8) (k := (.ty "RuntimeError")) (b := false) (T.exc 53) (T.kitT 332) (XTb.cons (n := 9) (k := (.ty "RuntimeError")) (b := false) (T.exc 51) (T.kitT 331) (XTb.cons (n := 10) (k := (.ty "RuntimeError")) (b := false) (T.exc 49) (T.kitT 330) (XTb.cons (n := 11) (k := (.ty "RuntimeError")) (b := false) (T.exc 47) (T.kitT 329) (XTb.cons (n := 12) (k := (.ty "RuntimeError")) (b := false) (T.exc 45) (T.kitT 328) (XTb.cons (n := 13) (k := (.ty "RuntimeError")) (b := true) (T.exc 43) (T.kitT 327) (XTb.cons (n := 14) (k := (.ty "RuntimeError")) (b := true) (T.exc 41) (T.kitT 326) (XTb.cons (n := 15) (k := (.ty "RuntimeError")) (b := false) (T.exc 39) (T.kitT 325) XTb.nil)))))))))))))))) rfl (T.free 68) (by decide +kernel) (ca_cons (ce_var 0) (ca_cons (ce_ty rfl (T.free 29) (by decide +kernel)) ca_nil))) (ca_cons (ce_bi (cf_isx (XTb.cons (n := 1) (k := (.ty "LookupError")) (b := false) (T.exc 67) (T.kitT 354) (XTb.cons (n := 2) (k := (.ty "LookupError")) (b := false) (T.exc 65) (T.kitT 353) (XTb.cons (n := 3) (k := (.ty "LookupError")) (b := false) (T.exc 63) (T.kitT 352) (XTb.cons (n := 4) (k := (.ty "LookupError")) (b := false) (T.exc 61) (T.kitT 351) (XTb.cons (n := 5) (k := (.ty "LookupError")) (b := false) (T.exc 59) (T.kitT 350) (XTb.cons (n := 6) (k := (.ty "LookupError")) (b := false) (T.exc 57) (T.kitT 349) (XTb.cons (n := 7) (k := (.ty "LookupError")) (b := false) (T.exc 55) (T.kitT 348) (XTb.cons (n := 8) (k := (.ty "LookupError")) (b := false) (T.exc 53) (T.kitT 347) (XTb.cons (n := 9) (k := (.ty "LookupError")) (b := false) (T.exc 51) (T.kitT 346) (XTb.cons (n := 10) (k := (.ty "LookupError")) (b := false) (T.exc 49) (T.kitT 345) (XTb.cons (n := 11) (k := (.ty "LookupError")) (b := false) (T.exc 47) (T.kitT 344) (XTb.cons (n := 12) (k := (.ty "LookupError")) (b := false) (T.exc 45) (T.kitT 343) (XTb.cons (n := 13) (k := (.ty "LookupError")) (b := false) (T.exc 43) (T.kitT 342) (XTb.cons (n := 14) (k := (.ty "LookupError")) (b := false) (T.exc 41) (T.kitT 341) (XTb.cons (n := 15) (k := (.ty "LookupError")) (b := true) (T.exc 39) (T.kitT 340) XTb.nil)))))))))))))))) rfl (T.free 68) (by decide +kernel) (ca_cons (ce_var 0) (ca_cons (ce_ty rfl (T.free 35) (by decide +kernel)) ca_nil))) ca_nil))))))))
theorem ok_law_bases (T : Tx fas fns K mg) : Ok_law_bases P w K mg base := by
  obtain ⟨fd, F⟩ := T.c.def_ 2
  have B : Binds K fd ["_law_e"] [] := F.bindsN (ps := ["_law_e"]) fun _ _ _ _ _ _ us hl => match us, hl with | [_], _ => rfl
  exact FnP.of (fn_body F sc_law_bases (Bd.of (n := 1) (dp := []) B .nil rfl rfl) (b_law_bases T))
theorem kp_law_named (T : Tx fas fns K mg) : PySem.W.keepIn K (.ref (At.ad K (.g "_law_named"))) = true := T.kp 3
abbrev Ok_law_named (P : Program) (w : World) (K : PySem.W.Frag) (mg : PySem.Str → Option Value) (base : Heap) : Prop := FnP P w K mg base 4 (At.ad K (.g "_law_named")) (spN (gd_ K) N_law_named F_law_named 1 pl_law_named)
theorem sc_law_named : FnScope N_law_named ["_law_x"] (defScope s_law_named) := ⟨rfl, rfl, rfl, by decide +kernel, rfl, by decide +kernel, by decide +kernel⟩
theorem b_law_named (T : Tx fas fns K mg) : BodyC (gd_ K) P w K mg base 3 N_law_named "_law_named" (defScope s_law_named) (At.ad K (.g "_law_named")) (defBody s_law_named) g_law_named := by
  intro cd A outer s H E room gd tk
  have S := sc_law_named
  exact (css_cons (cs_set (i := 1) S.nd rfl (by first | exact Or.inl rfl | exact Or.inr rfl) (CM.ce (cm_lst (ca_cons (ce_mkxK (c := 1) (T.oexf 2) (xik_InvalidRanking T) (room.mono (by decide)) rfl (T.glo 3) (ce_var 0)) (ca_cons (ce_mkxK (c := 2) (T.oexf 4) (xik_InvalidPlayer T) (room.mono (by decide)) rfl (T.glo 5) (ce_var 0)) (ca_cons (ce_mkxK (c := 3) (T.oexf 6) (xik_InvalidAlternative T) (room.mono (by decide)) rfl (T.glo 7) (ce_var 0)) (ca_cons (ce_mkxK (c := 4) (T.oexf 8) (xik_InvalidTurns T) (room.mono (by decide)) rfl (T.glo 9) (ce_var 0)) ca_nil))))))) (css_cons (cs_set (i := 1) S.nd rfl (by first | exact Or.inl rfl | exact Or.inr rfl) (ce_add (ce_var 1) (CM.ce (cm_lst (ca_cons (ce_mkxK (c := 5) (T.oexf 10) (xik_InvalidCounts T) (room.mono (by decide)) rfl (T.glo 11) (ce_var 0)) (ca_cons (ce_mkxK (c := 6) (T.oexf 12) (xik_InvalidLeft T) (room.mono (by decide)) rfl (T.glo 13) (ce_var 0)) (ca_cons (ce_mkxK (c := 7) (T.oexf 14) (xik_InvalidGroups T) (room.mono (by decide)) rfl (T.glo 15) (ce_var 0)) (ca_cons (ce_mkxK (c := 8) (T.oexf 16) (xik_InvalidPosition T) (room.mono (by decide)) rfl (T.glo 17) (ce_var 0)) ca_nil)))))))) (css_one (cs_ret (ce_add (ce_var 1) (CM.ce (cm_lst (ca_cons (ce_mkxK (c := 9) (T.oexf 18) (xik_InvalidName T) (room.mono (by decide)) rfl (T.glo 19) (ce_var 0)) (ca_cons (ce_mkxK (c := 10) (T.oexf 20) (xik_InvalidCommand T) (room.mono (by decide)) rfl (T.glo 21) (ce_var 0)) ca_nil)))))))))
theorem ok_law_named (T : Tx fas fns K mg) : Ok_law_named P w K mg base := by
  obtain ⟨fd, F⟩ := T.c.def_ 3
  have B : Binds K fd ["_law_x"] [] := F.bindsN (ps := ["_law_x"]) fun _ _ _ _ _ _ us hl => match us, hl with | [_], _ => rfl
  exact FnP.of (fn_body F sc_law_named (Bd.of (n := 1) (dp := []) B .nil rfl rfl) (b_law_named T))
abbrev Ok_law (P : Program) (w : World) (K : PySem.W.Frag) (mg : PySem.Str → Option Value) (base : Heap) : Prop := FnP P w K mg base 5 (At.ad K (.g "law")) (spN (gd_ K) N_law F_law 1 pl_law)
theorem sc_law : FnScope N_law ["_law_script"] (defScope s_law) := ⟨rfl, rfl, rfl, by decide +kernel, rfl, by decide +kernel, by decide +kernel⟩
theorem b_law (T : Tx fas fns K mg) (h_law_bases : Ok_law_bases P w K mg base) (h_law_errors : Ok_law_errors P w K mg base) (h_law_kinds : Ok_law_kinds P w K mg base) (h_law_named : Ok_law_named P w K mg base) : BodyC (gd_ K) P w K mg base 4 N_law "law" (defScope s_law) (At.ad K (.g "law")) (defBody s_law) g_law := by
  intro cd A outer s H E room gd tk
  have S := sc_law
  exact (css_cons (cs_for (passes_of rfl) rfl (ci_seq (ce_slice (ce_addS (ce_var 0) (CM.ce (cm_lst (ca_cons ce_int ca_nil)))) co_none (co_some ce_int))) (cg_name (i := 1) S.nd rfl (by first | exact Or.inl rfl | exact Or.inr rfl)) (css_pickA (i := 2) S.nd rfl (by first | exact Or.inl rfl | exact Or.inr rfl) (ce_tup (ca_cons (ce_mod (ce_var 1) (ce_pow ce_int ce_int)) ca_nil)) (ce_mod (ce_var 1) ce_int) ce_non ce_str ce_int (ce_mod (ce_var 1) ce_int) (css_cons (cs_set (i := 3) S.nd rfl (by first | exact Or.inl rfl | exact Or.inr rfl) (ce_call (kp_law_errors T) (RunOk.of h_law_errors (Prom.def_ rfl) (room.mono (by decide)) gd tk) rfl (T.glo 355) (ca_cons (ce_adr (ce_var 2)) ca_nil))) (css_cons (cs_for (passes_of rfl) rfl (ci_en rfl (T.free 356) (ca_cons (ce_var 3) ca_nil)) (cg_seq rfl (cgs_cons (cg_name (i := 4) S.nd rfl (by first | exact Or.inl rfl | exact Or.inr rfl)) (cgs_cons (cg_name (i := 5) S.nd rfl (by first | exact Or.inl rfl | exact Or.inr rfl)) cgs_nil))) (css_cons (cs_if (CW.ct (cw_or (ct_cmp (cm_ne (hu64 room)) (ce_lcountB (ce_call (kp_law_kinds T) (RunOk.of h_law_kinds (Prom.def_ rfl) (room.mono (by decide)) gd tk) rfl (T.glo 357) (ca_cons (ce_var 5) ca_nil)) ce_bl) ce_int nmk) (cw_or1 (ct_cmp (cm_ne (hu64 room)) (ce_lindexB (ce_call (kp_law_kinds T) (RunOk.of h_law_kinds (Prom.def_ rfl) (room.mono (by decide)) gd tk) rfl (T.glo 357) (ca_cons (ce_var 5) ca_nil)) ce_bl) (ce_var 4) nmk)))) (css_one (cs_ret ce_bl)) css_nil) (css_one (cs_if (ct_cmp (cm_ne (hu64 room)) (ce_call (kp_law_bases T) (RunOk.of h_law_bases (Prom.def_ rfl) (room.mono (by decide)) gd tk) rfl (T.glo 358) (ca_cons (ce_var 5) ca_nil)) (CM.ce (cm_lst (ca_cons (ce_cmp cm_lt (ce_var 4) ce_int nmk) (ca_cons (ce_cmp cm_lt (ce_var 4) ce_int nmk) (ca_cons (ce_cmp (cm_eq (hu64 room)) (ce_var 4) ce_int nmk) (ca_cons (ce_cmp (cm_in (hu65 room)) (ce_var 4) (ce_tup (ca_cons ce_int (ca_cons ce_int ca_nil))) nmk) (ca_cons (ce_cmp (cm_eq (hu64 room)) (ce_var 4) ce_int nmk) ca_nil))))))) nmk) (css_one (cs_ret ce_bl)) css_nil)))) (css_cons (cs_if (CW.ct (cw_or (ct_neA 2 (hu64 room) (CM.ce (cm_lc (own := [("_law_e", 5)]) rfl S.nd (ci_seq (ce_slice (ce_var 3) co_none (co_some ce_int))) (blkOk_by (own := [("_law_e", 5)]) (N := N_law) (sc := defScope (top 22)) (by decide +kernel)) (fun _ _ _ _ _ => (cg_name (i := 5) S.nd rfl (by first | exact Or.inl rfl | exact Or.inr rfl))) (fun _ _ _ _ _ => cts_nil) (fun _ _ _ _ _ => (ce_xf (cs := [1, 2, 3, 4, 5, 6, 7, 8, 9, 10]) (allC ⟨(T.oexf 2).xf, (T.oexf 2).no⟩ (allC ⟨(T.oexf 4).xf, (T.oexf 4).no⟩ (allC ⟨(T.oexf 6).xf, (T.oexf 6).no⟩ (allC ⟨(T.oexf 8).xf, (T.oexf 8).no⟩ (allC ⟨(T.oexf 10).xf, (T.oexf 10).no⟩ (allC ⟨(T.oexf 12).xf, (T.oexf 12).no⟩ (allC ⟨(T.oexf 14).xf, (T.oexf 14).no⟩ (allC ⟨(T.oexf 16).xf, (T.oexf 16).no⟩ (allC ⟨(T.oexf 18).xf, (T.oexf 18).no⟩ (allC ⟨(T.oexf 20).xf, (T.oexf 20).no⟩ all0)))))))))) (ce_var 5))) (onlyAt_n (by decide)))) (ce_mul (CM.ce (cm_lst (ca_cons (ce_adr (ce_var 2)) ca_nil))) ce_int) nmk) (cw_or1 (ct_neA 2 (hu64 room) (CM.ce (cm_lst (ca_cons (ce_xf (cs := [11]) (allC ⟨(T.oexf 22).xf, (T.oexf 22).no⟩ all0) (ce_ix (ce_var 3) ce_int)) (ca_cons (ce_xf (cs := [12]) (allC ⟨(T.oexg 26).xf, (T.oexg 26).no⟩ all0) (ce_ix (ce_var 3) ce_int)) ca_nil)))) (ce_mul (CM.ce (cm_lst (ca_cons (ce_adr (ce_var 2)) ca_nil))) ce_int) nmk)))) (css_one (cs_ret ce_bl)) css_nil) (css_cons (cs_if (ct_neA 2 (hu64 room) (CM.ce (cm_lc (own := [("_law_e", 5)]) rfl S.nd (ci_seq (ce_call (kp_law_named T) (RunOk.of h_law_named (Prom.def_ rfl) (room.mono (by decide)) gd tk) rfl (T.glo 359) (ca_cons (ce_adr (ce_var 2)) ca_nil))) (blkOk_by (own := [("_law_e", 5)]) (N := N_law) (sc := defScope (top 22)) (by decide +kernel)) (fun _ _ _ _ _ => (cg_name (i := 5) S.nd rfl (by first | exact Or.inl rfl | exact Or.inr rfl))) (fun _ _ _ _ _ => cts_nil) (fun _ _ _ _ _ => (ce_xf (cs := [1, 2, 3, 4, 5, 6, 7, 8, 9, 10]) (allC ⟨(T.oexf 2).xf, (T.oexf 2).no⟩ (allC ⟨(T.oexf 4).xf, (T.oexf 4).no⟩ (allC ⟨(T.oexf 6).xf, (T.oexf 6).no⟩ (allC ⟨(T.oexf 8).xf, (T.oexf 8).no⟩ (allC ⟨(T.oexf 10).xf, (T.oexf 10).no⟩ (allC ⟨(T.oexf 12).xf, (T.oexf 12).no⟩ (allC ⟨(T.oexf 14).xf, (T.oexf 14).no⟩ (allC ⟨(T.oexf 16).xf, (T.oexf 16).no⟩ (allC ⟨(T.oexf 18).xf, (T.oexf 18).no⟩ (allC ⟨(T.oexf 20).xf, (T.oexf 20).no⟩ all0)))))))))) (ce_var 5))) (onlyAt_n (by decide)))) (ce_mul (CM.ce (cm_lst (ca_cons (ce_adr (ce_var 2)) ca_nil))) ce_int) nmk) (css_one (cs_ret ce_bl)) css_nil) (css_cons (cs_if (CW.ct (cw_or (ct_neA 2 (hu64 room) (ce_xf (cs := [11]) (allC ⟨(T.oexf 22).xf, (T.oexf 22).no⟩ all0) (ce_mkxK (c := 11) (T.oexf 22) (xik_ParseError T) (room.mono (by decide)) rfl (T.glo 23) (ce_adr (ce_var 2)))) (ce_adr (ce_var 2)) nmk) (cw_or1 (ct_neA 2 (hu64 room) (ce_xf (cs := [12]) (allC ⟨(T.oexg 26).xf, (T.oexg 26).no⟩ all0) (ce_mkxGK xb_Overflow (c := 12) (T.oexg 26) (xik_LimitExceeded T) (room.mono (by decide)) rfl (T.glo 27) (ce_adr (ce_var 2)))) (ce_adr (ce_var 2)) nmk)))) (css_one (cs_ret ce_bl)) css_nil) (css_cons (cs_if (ct_val (ce_asL 2 (ce_bi (cf_isi isTbB) rfl (T.free 68) (by decide +kernel) (ca_cons (ce_var 2) (ca_cons (ce_ty rfl (T.free 360) (by decide +kernel)) ca_nil))))) (css_one (cs_expr (ce_asL 2 (ce_pl sn_append PySem.F.plainAttrs_list PySem.F.slot_list_append PySem.F.type_list_append mt_append (ce_var 2) (ca_cons ce_int ca_nil))))) css_nil) (css_cons (cs_if (CW.ct (cw_or (ct_neA 2 (hu64 room) (CM.ce (cm_lc (own := [("_law_e", 5)]) rfl S.nd (ci_seq (ce_slice (ce_var 3) co_none (co_some ce_int))) (blkOk_by (own := [("_law_e", 5)]) (N := N_law) (sc := defScope (top 22)) (by decide +kernel)) (fun _ _ _ _ _ => (cg_name (i := 5) S.nd rfl (by first | exact Or.inl rfl | exact Or.inr rfl))) (fun _ _ _ _ _ => cts_nil) (fun _ _ _ _ _ => (ce_xf (cs := [1, 2, 3, 4, 5, 6, 7, 8, 9, 10]) (allC ⟨(T.oexf 2).xf, (T.oexf 2).no⟩ (allC ⟨(T.oexf 4).xf, (T.oexf 4).no⟩ (allC ⟨(T.oexf 6).xf, (T.oexf 6).no⟩ (allC ⟨(T.oexf 8).xf, (T.oexf 8).no⟩ (allC ⟨(T.oexf 10).xf, (T.oexf 10).no⟩ (allC ⟨(T.oexf 12).xf, (T.oexf 12).no⟩ (allC ⟨(T.oexf 14).xf, (T.oexf 14).no⟩ (allC ⟨(T.oexf 16).xf, (T.oexf 16).no⟩ (allC ⟨(T.oexf 18).xf, (T.oexf 18).no⟩ (allC ⟨(T.oexf 20).xf, (T.oexf 20).no⟩ all0)))))))))) (ce_var 5))) (onlyAt_n (by decide)))) (ce_mul (CM.ce (cm_lst (ca_cons (ce_adr (ce_var 2)) ca_nil))) ce_int) nmk) (cw_or1 (ct_neA 2 (hu64 room) (CM.ce (cm_lst (ca_cons (ce_xf (cs := [11]) (allC ⟨(T.oexf 22).xf, (T.oexf 22).no⟩ all0) (ce_ix (ce_var 3) ce_int)) (ca_cons (ce_xf (cs := [12]) (allC ⟨(T.oexg 26).xf, (T.oexg 26).no⟩ all0) (ce_ix (ce_var 3) ce_int)) ca_nil)))) (ce_mul (CM.ce (cm_lst (ca_cons (ce_adr (ce_var 2)) ca_nil))) ce_int) nmk)))) (css_one (cs_ret ce_bl)) css_nil) (css_nilF [2, 3, 4, 5])))))))))) (css_one (cs_ret ce_bl)))
theorem ok_law (T : Tx fas fns K mg) (h_law_bases : Ok_law_bases P w K mg base) (h_law_errors : Ok_law_errors P w K mg base) (h_law_kinds : Ok_law_kinds P w K mg base) (h_law_named : Ok_law_named P w K mg base) : Ok_law P w K mg base := by
  obtain ⟨fd, F⟩ := T.c.def_ 4
  have B : Binds K fd ["_law_script"] [] := F.bindsN (ps := ["_law_script"]) fun _ _ _ _ _ _ us hl => match us, hl with | [_], _ => rfl
  exact FnP.of (fn_body F sc_law (Bd.of (n := 1) (dp := []) B .nil rfl rfl) (b_law T h_law_bases h_law_errors h_law_kinds h_law_named))
theorem all_ok (T : Tx fas fns K mg) : Ok_law P w K mg base := by
  have h_law_errors := ok_law_errors (P := P) (w := w) (base := base) T
  have h_law_kinds := ok_law_kinds (P := P) (w := w) (base := base) T
  have h_law_bases := ok_law_bases (P := P) (w := w) (base := base) T
  have h_law_named := ok_law_named (P := P) (w := w) (base := base) T
  have h_law := ok_law (P := P) (w := w) (base := base) T h_law_bases h_law_errors h_law_kinds h_law_named
  exact h_law
end
theorem ob_eq (s : PySem.W.SharedT) : ob s = hk.obs s.abs := obsCG_eq (HandSHeadRun.getT_eq s)
end K04
set_option maxHeartbeats 0
namespace K04
open Std Cl PySem PySem.Spec PyProof.Rows L2 StX ClX
theorem end_ {l : PySem.W.OpenLaw} {q : Program} {loose : List PySem.Str} {XP : (PySem.Str → Option Value) → Heap → Prop} {d : DefRec} (hn : l.most = some 63) (hdf : d.params.defaults = []) (hd : d.name = ("law" : PySem.Str))
    (plain : ∀ ns : List Int, ns.length ≤ 63 → ∃ out, F_law [.t (.scr ns)] = .ok (.t (.bl true)) out) :
    PySem.W.WalkO q loose XP hk.says l.row.toRowW d [] (fun f vs => PySem.call f vs) := by
  refine walk_ofC (n := 63) (k := 5) hn (by decide) hdf ⟨rfl, by decide, by decide⟩ fun w mg fa h Y G hmg => ?_
  obtain ⟨K, KX, c⟩ := Y
  have T : Tx fas fns K mg := ⟨c, h, KX, G⟩
  rw [hd] at hmg
  have e := hmg.symm.trans (T.glo (x := "law") 362)
  cases e
  refine ⟨K, spN (gd_ K) N_law F_law 1 pl_law, KX, noList_ok (c.fact 361), fun H a o ns hl h1 h2 => ⟨rfl, law_in (plain ns hl) h1 h2⟩, fun base kb nb => ?_⟩
  exact all_ok T
end K04
open PySem PySem.W PySem.Calls PyProof.Rows in
set_option maxHeartbeats 0 in
theorem holds_of_K04 (plain : ∀ ns : List Int, ns.length ≤ 63 → ∃ out, K04.F_law [.t (.scr ns)] = .ok (.t (.bl true)) out) : PySem.Challenge.rw_vetoturns_k04_error_classes.Holds := by
  w_on; o_law
  refine HandSHeadRun.head_any (r := OpenLaw.row PySem.Challenge.rw_vetoturns_k04_error_classes) (q := view (OpenLaw.row PySem.Challenge.rw_vetoturns_k04_error_classes).prog [22]) (H := K04.hk) (ob := K04.ob) (M := 9000) (loose := K04.names) (d := HandSHeadRun.topDef (OpenLaw.row PySem.Challenge.rw_vetoturns_k04_error_classes).prog 22) (kwd := []) K04.ob_eq
    (by kernel_rfl) (fun s => by kernel_rfl) K04.run (by kernel_rfl) (by kernel_rfl) (by kernel_rfl) (by rfl) (by first | assumption | decide +kernel) (by decide +kernel) ⟨rfl, rfl, rfl, rfl, rfl, by decide +kernel⟩ ?hw ?hc
  case hw => w_witness2
  case hc => exact K04.end_ rfl (by kernel_rfl) (by kernel_rfl) plain
local macro_rules
  | `(tactic| simp only [seval, $ts,*] $[$loc]?) => `(tactic| simp only [Cl.ev_bind_ok, Cl.ev_bind_stuck, Cl.ev_bind_exc, Cl.ev_cC, Cl.ev_ofO, Cl.ev_ofM, Cl.ev_cVar, Cl.ev_cMv, Cl.ev_mMv, Cl.ev_cUn, Cl.ev_cBin, Cl.ev_cNil, Cl.ev_cCons, Cl.ev_views_nil, Cl.ev_views_cons, Cl.ev_view_t, Cl.ev_view_sl, Cl.ev_view_ih, Cl.ev_pv_lst, Cl.ev_pv_obj, Cl.ev_pv_dct, Cl.ev_cList, Cl.ev_mList, Cl.ev_cTruth, Cl.ev_cAnd, Cl.ev_cOr, Cl.ev_cNot, Cl.ev_cAndV, Cl.ev_cOrV, Cl.ev_cNotV, Cl.ev_cIf, Cl.ev_cYes, Cl.ev_cChain, Cl.ev_cDisp, Cl.ev_mDisp, Cl.ev_trees_nil, Cl.ev_trees_cons, Cl.ev_cFrz, Cl.ev_sNil, Cl.ev_sNo, Cl.ev_sSeq, Cl.ev_bindS_ok, Cl.ev_bindS_stuck, Cl.ev_sExpr, Cl.ev_sRet, Cl.ev_sRetN, Cl.ev_sRetM, Cl.ev_sIf, Cl.ev_sSet, Cl.ev_sSetM, Cl.ev_sAsg, Cl.ev_sItem, Cl.ev_getP_sl, Cl.ev_getP_ih, Cl.ev_setP_sl, Cl.ev_setP_ih, Cl.ev_set, Cl.ev_sets_nil, Cl.ev_sets_cons, Cl.ev_tgN, Cl.ev_tgS_tup, Cl.ev_tgS_lst, Cl.ev_tgs_nil, Cl.ev_tgs_cons, Cl.ev_nNil, Cl.ev_nT, Cl.ev_nM, Cl.ev_sPar, Cl.ev_setFs_nil, Cl.ev_setFs_t, Cl.ev_setFs_n, Cl.ev_cPl, Cl.ev_cCallF, Cl.ev_mCallF, Cl.ev_fcDef, Cl.ev_fcDefM, Cl.ev_mRg1, Cl.ev_cRng1, Cl.ev_sFor, Cl.ev_part_p, Cl.ev_part_x, Cl.ev_part_a, Cl.ev_join_p, Cl.ev_join_x, Cl.ev_join_a, Cl.ev_join_px, Cl.ev_join_pa, Cl.ev_clear_nil, Cl.ev_clear_cons, Cl.ev_restore_nil, Cl.ev_restore_cons, Cl.ev_cCallK, Cl.ev_gNil, Cl.ev_gSeq, Cl.ev_gPlain, Cl.ev_gYield, Cl.ev_gFor, Cl.ev_sForY, Cl.ev_mLcY, Cl.ev_cGen, Std.ev_mDct0, Cl.ev_pAdd_i, Cl.ev_pSub_i, Cl.ev_pNeg_i, Cl.ev_pCmp_i, Cl.ev_pEq_i, Cl.ev_pNe_i, Cl.ev_pIsB, Cl.ev_pNotB, Cl.ev_len_l, Cl.ev_len_t, Cl.ev_len_sq, Cl.ev_len_scr, Cl.ev_sl_l, Cl.ev_sl_t, Cl.ev_sl_sq, Cl.ev_list_l, Cl.ev_list_t, Cl.ev_list_sq, Cl.ev_tuple_l, Cl.ev_tuple_t, Cl.ev_tuple_sq, Cl.ev_isN_n, Cl.ev_isN_i, Cl.ev_isN_sq, Cl.ev_isN_l, Cl.ev_isN_t, Cl.ev_notN_n, Cl.ev_notN_i, Cl.ev_notN_sq, Cl.ev_pick1, Cl.ev_pick2, Cl.ev_pick3, Cl.ev_pick4, Cl.ev_pick5, Cl.ev_pick1d, Cl.ev_pick2d, Cl.ev_pick3d, Cl.ev_cNoPart, Cl.ev_cPart, Cl.ev_cSl, Cl.ev_forB, Cl.ev_mCallK, Cl.ev_cDClear, Cl.ev_runF, Cl.ev_sDItem, Cl.ev_cMeth_o, Cl.ev_cProp_o, Cl.ev_noX_ok, Cl.ev_cRev, Cl.ev_cEn, Cl.ev_cRng2, Cl.ev_mRg2, Cl.ev_lk_ranking, Cl.ev_lk_rankings, Cl.ev_lk_worst, Cl.ev_lk_prefers, Cl.ev_lk_is_left, Cl.ev_lk_check_player, Cl.ev_lk_check_alternative, Cl.ev_lk_with_ranking, Cl.ev_lk_renamed, Cl.ev_fld_orders, Cl.ev_isNone, Cl.ev_iL_len, Cl.ev_rksP_len, Cl.ev_bindS_exc, Cl.ev_itP_l, Cl.ev_itP_t, Cl.ev_itP_sq, Cl.ev_itX, Cl.ev_cIt2, Cl.ev_mSplit, Cl.ev_cStarts, Cl.ev_cNeO, Cl.ev_cJoinV, Cl.ev_cGenK, Cl.ev_gPre, Cl.ev_sForYJ, Cl.ev_mSortIt, Cl.ev_pOr, Cl.ev_mListZ2, Cl.ev_cNeW, Cl.ev_cEqW, Cl.ev_sRetX, Cl.ev_mItems, Cl.ev_cPopD, Cl.ev_popO, Cl.ev_sDOdd, reduceCtorEq, List.reduceReplicate, Int.reduceEq, Int.reduceNe, Int.reduceLT, Int.reduceLE, Int.reduceGT, Int.reduceGE, Int.reduceAdd, Int.reduceSub, Int.reduceMul, Int.reduceNeg, Int.reduceToNat, Int.reduceBEq, Int.reduceDiv, Int.reduceMod, Int.reducePow, Int.reduceAbs, Nat.reduceEqDiff, Nat.reduceLeDiff, Nat.reduceGT, Nat.reduceLT, Nat.reduceBEq, Nat.reduceSub, Nat.reduceMul, Nat.reduceAdd, Nat.reduceDiv, Nat.reduceMod, Nat.reducePow, Nat.reduceSubDiff, reduceIte, reduceDIte, Int.cast_ofNat_Int, $ts,*] $[$loc]?)
set_option maxHeartbeats 4000000
namespace Std
open Cl PySem PySem.Spec PyProof.Rows L2
section
variable {st : Cl.ST} {c : Nat} {f : PySem.Str} {fe : Cm SV}
@[simp] theorem ev_sRaise : sRaise c f fe st = bindS (fe st) fun x st1 => match x with
  | .t p => .exc c [(f, p)] st1
  | _ => .stuck := rfl
end
local macro_rules
  | `(tactic| simp only [seval, $ts,*] $[$loc]?) => `(tactic| simp only [Cl.ev_bind_ok, Cl.ev_bind_stuck, Cl.ev_bind_exc, Cl.ev_cC, Cl.ev_ofO, Cl.ev_ofM, Cl.ev_cVar, Cl.ev_cMv, Cl.ev_mMv, Cl.ev_cUn, Cl.ev_cBin, Cl.ev_cNil, Cl.ev_cCons, Cl.ev_views_nil, Cl.ev_views_cons, Cl.ev_view_t, Cl.ev_view_sl, Cl.ev_view_ih, Cl.ev_pv_lst, Cl.ev_pv_obj, Cl.ev_pv_dct, Cl.ev_cList, Cl.ev_mList, Cl.ev_cTruth, Cl.ev_cAnd, Cl.ev_cOr, Cl.ev_cNot, Cl.ev_cAndV, Cl.ev_cOrV, Cl.ev_cNotV, Cl.ev_cIf, Cl.ev_cYes, Cl.ev_cChain, Cl.ev_cDisp, Cl.ev_mDisp, Cl.ev_trees_nil, Cl.ev_trees_cons, Cl.ev_cFrz, Cl.ev_sNil, Cl.ev_sNo, Cl.ev_sSeq, Cl.ev_bindS_ok, Cl.ev_bindS_stuck, Cl.ev_sExpr, Cl.ev_sRet, Cl.ev_sRetN, Cl.ev_sRetM, Cl.ev_sIf, Cl.ev_sSet, Cl.ev_sSetM, Cl.ev_sAsg, Cl.ev_sItem, Cl.ev_getP_sl, Cl.ev_getP_ih, Cl.ev_setP_sl, Cl.ev_setP_ih, Cl.ev_set, Cl.ev_sets_nil, Cl.ev_sets_cons, Cl.ev_tgN, Cl.ev_tgS_tup, Cl.ev_tgS_lst, Cl.ev_tgs_nil, Cl.ev_tgs_cons, Cl.ev_nNil, Cl.ev_nT, Cl.ev_nM, Cl.ev_sPar, Cl.ev_setFs_nil, Cl.ev_setFs_t, Cl.ev_setFs_n, Cl.ev_cPl, Cl.ev_cCallF, Cl.ev_mCallF, Cl.ev_fcDef, Cl.ev_fcDefM, Cl.ev_mRg1, Cl.ev_cRng1, Cl.ev_sFor, Cl.ev_part_p, Cl.ev_part_x, Cl.ev_part_a, Cl.ev_join_p, Cl.ev_join_x, Cl.ev_join_a, Cl.ev_join_px, Cl.ev_join_pa, Cl.ev_clear_nil, Cl.ev_clear_cons, Cl.ev_restore_nil, Cl.ev_restore_cons, Cl.ev_cCallK, Cl.ev_gNil, Cl.ev_gSeq, Cl.ev_gPlain, Cl.ev_gYield, Cl.ev_gFor, Cl.ev_sForY, Cl.ev_mLcY, Cl.ev_cGen, Std.ev_mDct0, Cl.ev_pAdd_i, Cl.ev_pSub_i, Cl.ev_pNeg_i, Cl.ev_pCmp_i, Cl.ev_pEq_i, Cl.ev_pNe_i, Cl.ev_pIsB, Cl.ev_pNotB, Cl.ev_len_l, Cl.ev_len_t, Cl.ev_len_sq, Cl.ev_len_scr, Cl.ev_sl_l, Cl.ev_sl_t, Cl.ev_sl_sq, Cl.ev_list_l, Cl.ev_list_t, Cl.ev_list_sq, Cl.ev_tuple_l, Cl.ev_tuple_t, Cl.ev_tuple_sq, Cl.ev_isN_n, Cl.ev_isN_i, Cl.ev_isN_sq, Cl.ev_isN_l, Cl.ev_isN_t, Cl.ev_notN_n, Cl.ev_notN_i, Cl.ev_notN_sq, Cl.ev_pick1, Cl.ev_pick2, Cl.ev_pick3, Cl.ev_pick4, Cl.ev_pick5, Cl.ev_pick1d, Cl.ev_pick2d, Cl.ev_pick3d, Cl.ev_cNoPart, Cl.ev_cPart, Cl.ev_cSl, Cl.ev_forB, Cl.ev_mCallK, Cl.ev_cDClear, Cl.ev_runF, Cl.ev_sDItem, Cl.ev_cMeth_o, Cl.ev_cProp_o, Cl.ev_noX_ok, Cl.ev_cRev, Cl.ev_cEn, Cl.ev_cRng2, Cl.ev_mRg2, Cl.ev_lk_ranking, Cl.ev_lk_rankings, Cl.ev_lk_worst, Cl.ev_lk_prefers, Cl.ev_lk_is_left, Cl.ev_lk_check_player, Cl.ev_lk_check_alternative, Cl.ev_lk_with_ranking, Cl.ev_lk_renamed, Cl.ev_fld_orders, Cl.ev_isNone, Cl.ev_iL_len, Cl.ev_rksP_len, Cl.ev_bindS_exc, Cl.ev_itP_l, Cl.ev_itP_t, Cl.ev_itP_sq, Cl.ev_itX, Cl.ev_cIt2, Cl.ev_mSplit, Cl.ev_cStarts, Cl.ev_cNeO, Cl.ev_cJoinV, Cl.ev_cGenK, Cl.ev_gPre, Cl.ev_sForYJ, Cl.ev_mSortIt, Cl.ev_pOr, Cl.ev_mListZ2, Cl.ev_cNeW, Cl.ev_cEqW, Cl.ev_sRetX, Cl.ev_mItems, Cl.ev_cPopD, Cl.ev_popO, Cl.ev_sDOdd, Std.ev_sRaise, reduceCtorEq, List.reduceReplicate, Int.reduceEq, Int.reduceNe, Int.reduceLT, Int.reduceLE, Int.reduceGT, Int.reduceGE, Int.reduceAdd, Int.reduceSub, Int.reduceMul, Int.reduceNeg, Int.reduceToNat, Int.reduceBEq, Int.reduceDiv, Int.reduceMod, Int.reducePow, Int.reduceAbs, Nat.reduceEqDiff, Nat.reduceLeDiff, Nat.reduceGT, Nat.reduceLT, Nat.reduceBEq, Nat.reduceSub, Nat.reduceMul, Nat.reduceAdd, Nat.reduceDiv, Nat.reduceMod, Nat.reducePow, Nat.reduceSubDiff, reduceIte, reduceDIte, Int.cast_ofNat_Int, $ts,*] $[$loc]?)
end Std
set_option maxHeartbeats 4000000
namespace Std
open Cl PySem PySem.Spec PyProof.Rows L2
theorem ok_of (s : String) : PyData.strOk (PySem.Str.ofString s) = true := by
  rw [PySem.Str.ofString_eq_toList]
  unfold PyData.strOk
  rw [List.all_toArray, List.all_map, List.all_eq_true]
  intro c _
  show decide (c.toNat < 0x110000) = true
  refine decide_eq_true ?_
  have := c.valid
  show c.val.toNat < 0x110000
  rcases this with h | ⟨_, h⟩
  · have : c.val.toNat < 0xd800 := h
    omega
  · exact h
theorem ok_app {a b : PySem.Str} : PyData.strOk (a ++ b) = (PyData.strOk a && PyData.strOk b) := by
  show (a.cps ++ b.cps).all _ = _
  rw [Array.all_append]; rfl
theorem ok_from : ∀ {ts : List PySem.Str} {k : Nat} {acc : PySem.Str}, PyData.strOk acc = true → (∀ t ∈ ts, PyData.strOk t = true) → PyData.strOk (textFrom k acc ts) = true
  | [], k, acc, h, _ => h
  | t :: ts, k, acc, h, ht => by
    show PyData.strOk (textFrom (k + 1) (acc ++ PySem.Str.ofString (if k > 0 then ", " else "" : String) ++ t) ts) = true
    refine ok_from ?_ fun x hx => ht x (List.mem_cons_of_mem _ hx)
    rw [ok_app, ok_app, h, ok_of, ht t (List.mem_cons_self ..)]; rfl
theorem ok_list {ts : List PySem.Str} (ht : ∀ t ∈ ts, PyData.strOk t = true) : PyData.strOk (listText ts) = true := by
  show PyData.strOk (textFrom 0 (PySem.Str.ofString "[") ts ++ PySem.Str.ofString "]") = true
  rw [ok_app, ok_from (ok_of _) ht, ok_of]; rfl
theorem ok_join : ∀ {ts : List PySem.Str}, (∀ t ∈ ts, PyData.strOk t = true) → PyData.strOk (PySem.Str.join ", " ts) = true
  | [], _ => by
    show PyData.strOk PySem.Str.empty = true
    simp [PyData.strOk, PySem.Str.empty]
  | [x], h => h x (List.mem_cons_self ..)
  | x :: y :: r, h => by
    have e := ok_join (ts := y :: r) fun t ht => h t (List.mem_cons_of_mem _ ht)
    show PyData.strOk (x ++ PySem.Str.ofString ", " ++ PySem.Str.join ", " (y :: r)) = true
    rw [ok_app, ok_app, h x (List.mem_cons_self ..), ok_of, e]; rfl
theorem ok_tuple {ts : List PySem.Str} (ht : ∀ t ∈ ts, PyData.strOk t = true) : PyData.strOk (tupleText ts) = true := by
  show PyData.strOk (PySem.Str.ofString "(" ++ PySem.Str.join ", " ts ++ PySem.Str.ofString (if ts.length == 1 then ",)" else ")" : String)) = true
  rw [ok_app, ok_app, ok_of, ok_join ht, ok_of]; rfl
mutual
theorem sh_ok : ∀ {p : PV} {n : Nat} {d : PyData}, rwt p = some n → toD p = some d → PyData.strOk d.shown = true ∧ d.canLay0 = true
  | .non, n, d, _, e => by
    cases e
    exact ⟨ok_of _, rfl⟩
  | .bl b, n, d, _, e => by
    cases e
    refine ⟨?_, rfl⟩
    cases b <;> exact ok_of _
  | .int i, n, d, _, e => by
    cases e
    exact ⟨ok_of _, rfl⟩
  | .lst ps, n, d, h, e => by
    simp only [toD, Option.map_eq_some_iff] at e
    obtain ⟨ds, e, rfl⟩ := e
    simp only [rwt, Option.map_eq_some_iff] at h
    obtain ⟨k, h, _⟩ := h
    obtain ⟨h1, h2⟩ := sh_oks h e
    exact ⟨ok_list h1, h2⟩
  | .tup _ ps, n, d, h, e => by
    simp only [toD, Option.map_eq_some_iff] at e
    obtain ⟨ds, e, rfl⟩ := e
    simp only [rwt, Option.map_eq_some_iff] at h
    obtain ⟨k, h, _⟩ := h
    obtain ⟨h1, h2⟩ := sh_oks h e
    exact ⟨ok_tuple h1, h2⟩
  | .str _, _, _, h, _ => by simp [rwt] at h
  | .dct _, _, _, h, _ => by simp [rwt] at h
  | .obj _ _, _, _, h, _ => by simp [rwt] at h
  | .ty _, _, _, h, _ => by simp [rwt] at h
  | .fn _, _, _, h, _ => by simp [rwt] at h
  | .scr _, _, _, h, _ => by simp [rwt] at h
  | .xo _ _, _, _, h, _ => by simp [rwt] at h
  | .tbl, _, _, h, _ => by simp [rwt] at h
  | .clo _ _ _ _ _, _, _, h, _ => by simp [rwt] at h
theorem sh_oks : ∀ {ps : List PV} {n : Nat} {ds : List PyData}, rwts ps = some n → toDs ps = some ds → (∀ t ∈ PyData.shownAll ds, PyData.strOk t = true) ∧ PyData.canLayAll0 ds = true
  | [], n, ds, _, e => by
    simp only [toDs, Option.some.injEq] at e
    subst e
    exact ⟨fun t ht => by simp [PyData.shownAll] at ht, rfl⟩
  | p :: ps, n, ds, h, e => by
    simp only [toDs, Option.bind_eq_some_iff, Option.map_eq_some_iff] at e
    obtain ⟨d, e1, ds', e2, rfl⟩ := e
    simp only [rwts, Option.bind_eq_some_iff, Option.map_eq_some_iff] at h
    obtain ⟨a, h1, b, h2, _⟩ := h
    obtain ⟨x1, x2⟩ := sh_ok h1 e1
    obtain ⟨y1, y2⟩ := sh_oks h2 e2
    refine ⟨fun t ht => ?_, by show (PyData.canLay0 d && PyData.canLayAll0 ds') = true; rw [x2, y2]; rfl⟩
    rcases List.mem_cons.mp (show t ∈ d.shown :: PyData.shownAll ds' from ht) with z | z
    · rw [z]; exact x1
    · exact y1 t z
end
theorem ne_of_data {p : PV} {d : PyData} (h : toD p = some d) (hs : ∀ x, p ≠ .str x) (h1 : d.canLay0 = true) (h2 : d.depth ≤ 64) : pNe p p = some (.bl false) := by
  have : pEqB p p = (toD p).bind fun d => (toD p).bind fun e => dEq d e := by
    cases p <;> first | rfl | exact absurd rfl (hs _)
  unfold pNe
  rw [this, h]
  show Option.map _ (dEq d d) = _
  unfold dEq SeqAt.shaped
  rw [h1, decide_eq_true h2, SeqAt.eqv_refl d h1]
  rfl
theorem Sml.ne {w k : Nat} {p : PV} (h : Sml w k p) (h2 : k ≤ 60) : pNe p p = some (.bl false) := by
  obtain ⟨n, a, b, c⟩ := h
  obtain ⟨d, e1, e2, e3, e4⟩ := rwt_ok a
  refine ne_of_data e1 (fun x e => ?_) (sh_ok a e1).2 (by omega)
  subst e
  simp [rwt] at a
end Std
set_option maxHeartbeats 400000
namespace K04
open Std Cl PySem PySem.Spec PyProof.Rows L2 StX ClX
def ten (v : PV) : PV := .lst [v, v, v, v, v, v, v, v, v, v]
def errs (v : PV) : List PV := [.xo 1 [("value", v)], .xo 2 [("value", v)], .xo 3 [("value", v)], .xo 4 [("value", v)], .xo 5 [("value", v)], .xo 6 [("value", v)], .xo 7 [("value", v)], .xo 8 [("value", v)], .xo 9 [("value", v)], .xo 10 [("value", v)],
  .xo 11 [("line", v)], .xo 12 [("limit", v)], .xo 13 [], .xo 14 [], .xo 15 []]
abbrev S (ns : List Int) (n : Int) (x s t e : Option SL) : Cl.ST := ⟨[some (.t (.scr ns)), some (.t (.int n)), x, s, t, e], []⟩
theorem if_no {c : Cm Bool} {g : Sm} {st st' : Cl.ST} (h : c st = .ok false st') : sIf c g sNil st = .nx st' := by
  unfold sIf; rw [h]; rfl
theorem or_no {c d : Cm Bool} {st : Cl.ST} (h : c st = .ok false st) (h' : d st = .ok false st) : cOr c d st = .ok false st := by
  unfold cOr; rw [h]; exact h'
theorem tr_no {f : Cm SV} {st st' : Cl.ST} (h : f st = .ok (.t (.bl false)) st') : cTruth f st = .ok false st' := by
  unfold cTruth; rw [h]; rfl
theorem seq_nx {g k : Sm} {st st' : Cl.ST} (h : g st = .nx st') : sSeq g k st = k st' := by
  unfold sSeq; rw [h]
section
variable {ns : List Int} {n : Int} {v : PV}
theorem t10 : p_law_10 (S ns n (some (.t v)) none none none) = .nx (S ns n (some (.t v)) (some (.t (.lst (errs v)))) none none) := by kernel_rfl
theorem t9 : p_law_9 (S ns n (some (.t v)) (some (.t (.lst (errs v)))) none none) = .nx (S ns n (some (.t v)) (some (.t (.lst (errs v)))) (some (.t (.int 14))) (some (.t (.xo 15 [])))) := by kernel_rfl
abbrev S3 (ns : List Int) (n : Int) (x : Option SL) (v : PV) : Cl.ST := S ns n x (some (.t (.lst (errs v)))) (some (.t (.int 14))) (some (.t (.xo 15 [])))
theorem ok_no {st : Cl.ST} {o : Option PV} (h : o = some (.bl false)) : ofO st o = .ok (.t (.bl false)) st := by rw [h]; rfl
theorem t8 (h1 : pNe (ten v) (ten v) = some (.bl false)) (h2 : pNe (.lst [v, v]) (.lst [v, v]) = some (.bl false)) : p_law_8 (S3 ns n (some (.t v)) v) = .nx (S3 ns n (some (.t v)) v) := by
  refine if_no (or_no (tr_no ?_) (tr_no ?_))
  · have : cNeA 2 (cFrz (mLc (cIt (cSl (cVar 3) cNoPart (cPart (cC (.int 10))))) (tgN 5) (c_law_1_t) (c_law_1_e) [5])) (cBin pMul (cFrz (mDisp (cCons (cAdr (cVar 2)) cNil))) (cC (.int 10))) (S3 ns n (some (.t v)) v) = ofO (S3 ns n (some (.t v)) v) (pNe (ten v) (ten v)) := by kernel_rfl
    exact this.trans (ok_no h1)
  · have : cNeA 2 (cFrz (mDisp (cCons (cUn (pXf [11] "line") (cBin pIx (cVar 3) (cC (.int 10)))) (cCons (cUn (pXf [12] "limit") (cBin pIx (cVar 3) (cC (.int 11)))) cNil)))) (cBin pMul (cFrz (mDisp (cCons (cAdr (cVar 2)) cNil))) (cC (.int 2))) (S3 ns n (some (.t v)) v) = ofO (S3 ns n (some (.t v)) v) (pNe (.lst [v, v]) (.lst [v, v])) := by kernel_rfl
    exact this.trans (ok_no h2)
theorem t7 (h1 : pNe (ten v) (ten v) = some (.bl false)) : p_law_7 (S3 ns n (some (.t v)) v) = .nx (S3 ns n (some (.t v)) v) := by
  refine if_no (tr_no ?_)
  have : cNeA 2 (cFrz (mLc (cIt (cCallF (fcDef 1 pl_law_named F_law_named) (cCons (cAdr (cVar 2)) cNil))) (tgN 5) (c_law_2_t) (c_law_2_e) [5])) (cBin pMul (cFrz (mDisp (cCons (cAdr (cVar 2)) cNil))) (cC (.int 10))) (S3 ns n (some (.t v)) v) = ofO (S3 ns n (some (.t v)) v) (pNe (ten v) (ten v)) := by kernel_rfl
  exact this.trans (ok_no h1)
theorem t6 (h1 : pNe v v = some (.bl false)) : p_law_6 (S3 ns n (some (.t v)) v) = .nx (S3 ns n (some (.t v)) v) := by
  refine if_no (or_no (tr_no ?_) (tr_no ?_))
  · have : cNeA 2 (cUn (pXf [11] "line") (cMkx 11 "line" (cAdr (cVar 2)))) (cAdr (cVar 2)) (S3 ns n (some (.t v)) v) = ofO (S3 ns n (some (.t v)) v) (pNe v v) := by kernel_rfl
    exact this.trans (ok_no h1)
  · have : cNeA 2 (cUn (pXf [12] "limit") (cMkx 12 "limit" (cAdr (cVar 2)))) (cAdr (cVar 2)) (S3 ns n (some (.t v)) v) = ofO (S3 ns n (some (.t v)) v) (pNe v v) := by kernel_rfl
    exact this.trans (ok_no h1)
theorem t5 (h : bIsi tbB [v, .ty "list"] = some (.bl false)) : p_law_5 (S3 ns n (some (.t v)) v) = .nx (S3 ns n (some (.t v)) v) := by
  refine if_no (tr_no ?_)
  have : cAsL 2 (cList (bIsi tbB) (cCons (cVar 2) (cCons (cC (.ty "list")) cNil))) (S3 ns n (some (.t v)) v) = ofO (S3 ns n (some (.t v)) v) (bIsi tbB [v, .ty "list"]) := by kernel_rfl
  exact this.trans (ok_no h)
theorem t4 (h1 : pNe (ten v) (ten v) = some (.bl false)) (h2 : pNe (.lst [v, v]) (.lst [v, v]) = some (.bl false)) : p_law_4 (S3 ns n (some (.t v)) v) = .nx (S3 ns n (some (.t v)) v) := by
  refine if_no (or_no (tr_no ?_) (tr_no ?_))
  · have : cNeA 2 (cFrz (mLc (cIt (cSl (cVar 3) cNoPart (cPart (cC (.int 10))))) (tgN 5) (c_law_3_t) (c_law_3_e) [5])) (cBin pMul (cFrz (mDisp (cCons (cAdr (cVar 2)) cNil))) (cC (.int 10))) (S3 ns n (some (.t v)) v) = ofO (S3 ns n (some (.t v)) v) (pNe (ten v) (ten v)) := by kernel_rfl
    exact this.trans (ok_no h1)
  · have : cNeA 2 (cFrz (mDisp (cCons (cUn (pXf [11] "line") (cBin pIx (cVar 3) (cC (.int 10)))) (cCons (cUn (pXf [12] "limit") (cBin pIx (cVar 3) (cC (.int 11)))) cNil)))) (cBin pMul (cFrz (mDisp (cCons (cAdr (cVar 2)) cNil))) (cC (.int 2))) (S3 ns n (some (.t v)) v) = ofO (S3 ns n (some (.t v)) v) (pNe (.lst [v, v]) (.lst [v, v])) := by kernel_rfl
    exact this.trans (ok_no h2)
theorem body_t (h10 : pNe (ten v) (ten v) = some (.bl false)) (h2 : pNe (.lst [v, v]) (.lst [v, v]) = some (.bl false)) (h1 : pNe v v = some (.bl false)) (hI : bIsi tbB [v, .ty "list"] = some (.bl false)) :
    p_law_11 (S ns n (some (.t v)) none none none) = .nx (S ns n none none none none) := by
  unfold p_law_11
  rw [seq_nx t10, seq_nx t9, seq_nx (t8 h10 h2), seq_nx (t7 h10), seq_nx (t6 h1), seq_nx (t5 hI), seq_nx (t4 h10 h2)]
  rfl
variable {a : Addr}
abbrev X1 (a : Addr) (xs : List PV) : Option SL := some (.m (.lsA a xs))
theorem u10 : p_law_10 (S ns n (X1 a [.int 1]) none none none) = .nx (S ns n (X1 a [.int 1]) (some (.t (.lst (errs (.adr a))))) none none) := by kernel_rfl
theorem u9 : p_law_9 (S ns n (X1 a [.int 1]) (some (.t (.lst (errs (.adr a))))) none none) = .nx (S3 ns n (X1 a [.int 1]) (.adr a)) := by kernel_rfl
def neX (a : Addr) (xs : List PV) (p q : PV) : Option PV := (toDs xs).bind fun ds => (toDA a (.list ds) p).bind fun d => (toDA a (.list ds) q).bind fun e => (dEq d e).map fun b => .bl (!b)
theorem dEq_self {d : PyData} (h : SeqAt.shaped d = true) (h0 : d.canLay0 = true) : dEq d d = some true := by
  unfold dEq
  rw [h, SeqAt.eqv_refl d h0]; rfl
section
variable {xs : List PV}
theorem u8 (h1 : neX a xs (ten (.adr a)) (ten (.adr a)) = some (.bl false)) (h2 : neX a xs (.lst [.adr a, .adr a]) (.lst [.adr a, .adr a]) = some (.bl false)) : p_law_8 (S3 ns n (X1 a xs) (.adr a)) = .nx (S3 ns n (X1 a xs) (.adr a)) := by
  refine if_no (or_no (tr_no ?_) (tr_no ?_))
  · have : cNeA 2 (cFrz (mLc (cIt (cSl (cVar 3) cNoPart (cPart (cC (.int 10))))) (tgN 5) (c_law_1_t) (c_law_1_e) [5])) (cBin pMul (cFrz (mDisp (cCons (cAdr (cVar 2)) cNil))) (cC (.int 10))) (S3 ns n (X1 a xs) (.adr a)) = ofO (S3 ns n (X1 a xs) (.adr a)) (neX a xs (ten (.adr a)) (ten (.adr a))) := by kernel_rfl
    exact this.trans (ok_no h1)
  · have : cNeA 2 (cFrz (mDisp (cCons (cUn (pXf [11] "line") (cBin pIx (cVar 3) (cC (.int 10)))) (cCons (cUn (pXf [12] "limit") (cBin pIx (cVar 3) (cC (.int 11)))) cNil)))) (cBin pMul (cFrz (mDisp (cCons (cAdr (cVar 2)) cNil))) (cC (.int 2))) (S3 ns n (X1 a xs) (.adr a)) = ofO (S3 ns n (X1 a xs) (.adr a)) (neX a xs (.lst [.adr a, .adr a]) (.lst [.adr a, .adr a])) := by kernel_rfl
    exact this.trans (ok_no h2)
theorem u7 (h1 : neX a xs (ten (.adr a)) (ten (.adr a)) = some (.bl false)) : p_law_7 (S3 ns n (X1 a xs) (.adr a)) = .nx (S3 ns n (X1 a xs) (.adr a)) := by
  refine if_no (tr_no ?_)
  have : cNeA 2 (cFrz (mLc (cIt (cCallF (fcDef 1 pl_law_named F_law_named) (cCons (cAdr (cVar 2)) cNil))) (tgN 5) (c_law_2_t) (c_law_2_e) [5])) (cBin pMul (cFrz (mDisp (cCons (cAdr (cVar 2)) cNil))) (cC (.int 10))) (S3 ns n (X1 a xs) (.adr a)) = ofO (S3 ns n (X1 a xs) (.adr a)) (neX a xs (ten (.adr a)) (ten (.adr a))) := by kernel_rfl
  exact this.trans (ok_no h1)
theorem u6 (h1 : neX a xs (.adr a) (.adr a) = some (.bl false)) : p_law_6 (S3 ns n (X1 a xs) (.adr a)) = .nx (S3 ns n (X1 a xs) (.adr a)) := by
  refine if_no (or_no (tr_no ?_) (tr_no ?_))
  · have : cNeA 2 (cUn (pXf [11] "line") (cMkx 11 "line" (cAdr (cVar 2)))) (cAdr (cVar 2)) (S3 ns n (X1 a xs) (.adr a)) = ofO (S3 ns n (X1 a xs) (.adr a)) (neX a xs (.adr a) (.adr a)) := by kernel_rfl
    exact this.trans (ok_no h1)
  · have : cNeA 2 (cUn (pXf [12] "limit") (cMkx 12 "limit" (cAdr (cVar 2)))) (cAdr (cVar 2)) (S3 ns n (X1 a xs) (.adr a)) = ofO (S3 ns n (X1 a xs) (.adr a)) (neX a xs (.adr a) (.adr a)) := by kernel_rfl
    exact this.trans (ok_no h1)
theorem u4 (h1 : neX a xs (ten (.adr a)) (ten (.adr a)) = some (.bl false)) (h2 : neX a xs (.lst [.adr a, .adr a]) (.lst [.adr a, .adr a]) = some (.bl false)) : p_law_4 (S3 ns n (X1 a xs) (.adr a)) = .nx (S3 ns n (X1 a xs) (.adr a)) := by
  refine if_no (or_no (tr_no ?_) (tr_no ?_))
  · have : cNeA 2 (cFrz (mLc (cIt (cSl (cVar 3) cNoPart (cPart (cC (.int 10))))) (tgN 5) (c_law_3_t) (c_law_3_e) [5])) (cBin pMul (cFrz (mDisp (cCons (cAdr (cVar 2)) cNil))) (cC (.int 10))) (S3 ns n (X1 a xs) (.adr a)) = ofO (S3 ns n (X1 a xs) (.adr a)) (neX a xs (ten (.adr a)) (ten (.adr a))) := by kernel_rfl
    exact this.trans (ok_no h1)
  · have : cNeA 2 (cFrz (mDisp (cCons (cUn (pXf [11] "line") (cBin pIx (cVar 3) (cC (.int 10)))) (cCons (cUn (pXf [12] "limit") (cBin pIx (cVar 3) (cC (.int 11)))) cNil)))) (cBin pMul (cFrz (mDisp (cCons (cAdr (cVar 2)) cNil))) (cC (.int 2))) (S3 ns n (X1 a xs) (.adr a)) = ofO (S3 ns n (X1 a xs) (.adr a)) (neX a xs (.lst [.adr a, .adr a]) (.lst [.adr a, .adr a])) := by kernel_rfl
    exact this.trans (ok_no h2)
end
theorem u5 : p_law_5 (S3 ns n (X1 a [.int 1]) (.adr a)) = .nx (S3 ns n (X1 a [.int 1, .int 2]) (.adr a)) := by kernel_rfl
theorem ta {z : PyData} : toDA a z (.adr a) = some z := by simp [toDA]
theorem ta2 {z : PyData} : toDA a z (.lst [.adr a, .adr a]) = some (.list [z, z]) := by simp [toDA, toDAs]
theorem ta10 {z : PyData} : toDA a z (ten (.adr a)) = some (.list [z, z, z, z, z, z, z, z, z, z]) := by simp [ten, toDA, toDAs]
theorem nx {xs : List PV} {p : PV} {ds : List PyData} {d : PyData} (h : toDs xs = some ds) (h1 : toDA a (.list ds) p = some d) (h2 : SeqAt.shaped d = true) (h3 : d.canLay0 = true) : neX a xs p p = some (.bl false) := by
  unfold neX
  simp [h, h1, dEq_self h2 h3]
theorem body_a : p_law_11 (S ns n (X1 a [.int 1]) none none none) = .nx (S ns n none none none none) := by
  have e1 : toDs [PV.int 1] = some [.int 1] := rfl
  have e2 : toDs [PV.int 1, PV.int 2] = some [.int 1, .int 2] := rfl
  have a10 := nx (a := a) (p := ten (.adr a)) e1 ta10 (by decide +kernel) (by decide +kernel)
  have a2 := nx (a := a) (p := .lst [.adr a, .adr a]) e1 ta2 (by decide +kernel) (by decide +kernel)
  have a1 := nx (a := a) (p := .adr a) e1 ta (by decide +kernel) (by decide +kernel)
  have b10 := nx (a := a) (p := ten (.adr a)) e2 ta10 (by decide +kernel) (by decide +kernel)
  have b2 := nx (a := a) (p := .lst [.adr a, .adr a]) e2 ta2 (by decide +kernel) (by decide +kernel)
  unfold p_law_11
  rw [seq_nx u10, seq_nx u9, seq_nx (u8 a10 a2), seq_nx (u7 a10), seq_nx (u6 a1), seq_nx u5, seq_nx (u4 b10 b2)]
  rfl
theorem b_int {i : Int} : p_law_11 (S ns n (some (.t (.int i))) none none none) = .nx (S ns n none none none none) :=
  body_t (ne_of_data (d := .list [.int i, .int i, .int i, .int i, .int i, .int i, .int i, .int i, .int i, .int i]) rfl (fun _ e => nomatch e) rfl (Nat.le_of_ble_eq_true (by kernel_rfl))) (ne_of_data (d := .list [.int i, .int i]) rfl (fun _ e => nomatch e) rfl (Nat.le_of_ble_eq_true (by kernel_rfl))) (ne_of_data (d := .int i) rfl (fun _ e => nomatch e) rfl (Nat.le_of_ble_eq_true (by kernel_rfl))) rfl
theorem b_tup {i : Int} : p_law_11 (S ns n (some (.t (.tup .p [.int i]))) none none none) = .nx (S ns n none none none none) :=
  body_t (ne_of_data (d := .list [.tuple [.int i], .tuple [.int i], .tuple [.int i], .tuple [.int i], .tuple [.int i], .tuple [.int i], .tuple [.int i], .tuple [.int i], .tuple [.int i], .tuple [.int i]]) rfl (fun _ e => nomatch e) rfl (Nat.le_of_ble_eq_true (by kernel_rfl))) (ne_of_data (d := .list [.tuple [.int i], .tuple [.int i]]) rfl (fun _ e => nomatch e) rfl (Nat.le_of_ble_eq_true (by kernel_rfl))) (ne_of_data (d := .tuple [.int i]) rfl (fun _ e => nomatch e) rfl (Nat.le_of_ble_eq_true (by kernel_rfl))) rfl
theorem b_non : p_law_11 (S ns n (some (.t .non)) none none none) = .nx (S ns n none none none none) :=
  body_t (by kernel_rfl) (by kernel_rfl) (by kernel_rfl) rfl
theorem b_str : p_law_11 (S ns n (some (.t (.str "a"))) none none none) = .nx (S ns n none none none none) :=
  body_t (by kernel_rfl) (by kernel_rfl) (by kernel_rfl) rfl
theorem turn_ : p_law_12 (S ns n none none none none) = .nx (S ns n none none none none) := by
  have e : p_law_12 (S ns n none none none none) = (if n % 5 = 4 then uniS fun a => p_law_11 (S ns n (X1 a [.int 1]) none none none)
      else if n % 5 = 0 then p_law_11 (S ns n (some (.t (.tup .p [.int (n % 1000000000)]))) none none none)
      else if n % 5 = 1 then p_law_11 (S ns n (some (.t (.int (n % 7)))) none none none)
      else if n % 5 = 2 then p_law_11 (S ns n (some (.t .non)) none none none)
      else if n % 5 = 3 then p_law_11 (S ns n (some (.t (.str "a"))) none none none)
      else .stuck) := by kernel_rfl
  rw [e, uniS_eq fun a => body_a, b_tup, b_int, b_non, b_str]
  have : n % 5 = 4 ∨ n % 5 = 0 ∨ n % 5 = 1 ∨ n % 5 = 2 ∨ n % 5 = 3 := by omega
  rcases this with h | h | h | h | h <;> rw [h] <;> simp
end
def items (ns : List Int) : List PV := cut (ns.map PV.int ++ [.int 1]) none (some 6)
theorem items_int {ns : List Int} {p : PV} (h : p ∈ items ns) : ∃ m, p = .int m := by
  unfold items at h
  rw [cut_to (by decide)] at h
  have h := List.mem_of_mem_take h
  rcases List.mem_append.mp h with h | h
  · obtain ⟨m, _, rfl⟩ := List.mem_map.mp h
    exact ⟨m, rfl⟩
  · exact ⟨1, List.mem_singleton.mp h⟩
def J (ns : List Int) (st : Cl.ST) : Prop := ∃ c : Option SL, st = ⟨[some (.t (.scr ns)), c, none, none, none, none], []⟩
theorem it_ok {ns : List Int} (hn : ns.length ≤ 63) : cIt (cSl (cBin pAddS (cVar 0) (cFrz (mDisp (cCons (cC (.int 1)) cNil)))) cNoPart (cPart (cC (.int 6)))) ⟨[some (.t (.scr ns)), none, none, none, none, none], []⟩ = .ok (items ns) ⟨[some (.t (.scr ns)), none, none, none, none, none], []⟩ := by
  have hz : szOk (ns.length + 1) = true := decide_eq_true (by omega)
  have e : cBin pAddS (cVar 0) (cFrz (mDisp (cCons (cC (.int 1)) cNil))) ⟨[some (.t (.scr ns)), none, none, none, none, none], []⟩ = .ok (.t (.lst (ns.map PV.int ++ [.int 1]))) ⟨[some (.t (.scr ns)), none, none, none, none, none], []⟩ := by
    have : cBin pAddS (cVar 0) (cFrz (mDisp (cCons (cC (.int 1)) cNil))) ⟨[some (.t (.scr ns)), none, none, none, none, none], []⟩ = ofO ⟨[some (.t (.scr ns)), none, none, none, none, none], []⟩ (if szOk (ns.length + 1) then some (.lst (ns.map PV.int ++ [.int 1])) else none) := by kernel_rfl
    rw [this, hz]; rfl
  have : cSl (cBin pAddS (cVar 0) (cFrz (mDisp (cCons (cC (.int 1)) cNil)))) cNoPart (cPart (cC (.int 6))) ⟨[some (.t (.scr ns)), none, none, none, none, none], []⟩ = .ok (.t (.lst (items ns))) ⟨[some (.t (.scr ns)), none, none, none, none, none], []⟩ := by
    unfold cSl
    rw [e]; rfl
  unfold cIt
  rw [this]; rfl
theorem plain (ns : List Int) (hn : ns.length ≤ 63) : ∃ out, F_law [.t (.scr ns)] = .ok (.t (.bl true)) out := by
  obtain ⟨st', e, c, rfl⟩ := forLp_of (g := forB (tgN 1) p_law_12) (I := J ns) (ps := items ns) (st := ⟨[some (.t (.scr ns)), none, none, none, none, none], []⟩) rfl ⟨none, rfl⟩ fun p hp st ⟨c, hs⟩ => by
    obtain ⟨m, rfl⟩ := items_int hp
    subst hs
    refine ⟨S ns m none none none none, ?_, ⟨_, rfl⟩⟩
    have : forB (tgN 1) p_law_12 (.int m) ⟨[some (.t (.scr ns)), c, none, none, none, none], []⟩ = p_law_12 (S ns m none none none none) := by kernel_rfl
    rw [this, turn_]
  refine ⟨[], ?_⟩
  have : sFor (cIt (cSl (cBin pAddS (cVar 0) (cFrz (mDisp (cCons (cC (.int 1)) cNil)))) cNoPart (cPart (cC (.int 6))))) (tgN 1) p_law_12 ⟨[some (.t (.scr ns)), none, none, none, none, none], []⟩ = .nx ⟨[some (.t (.scr ns)), c, none, none, none, none], []⟩ := by
    unfold sFor
    rw [it_ok hn]
    exact e
  show runF 6 g_law [.t (.scr ns)] = _
  unfold runF
  have : g_law (enter 6 [.t (.scr ns)]) = .rt (.t (.bl true)) ⟨[some (.t (.scr ns)), c, none, none, none, none], []⟩ := by
    show sSeq _ _ ⟨[some (.t (.scr ns)), none, none, none, none, none], []⟩ = _
    rw [seq_nx this]; rfl
  rw [this]
end K04
set_option maxRecDepth 100000 in
set_option maxHeartbeats 0 in
theorem PySem.Challenge.cw_vetoturns_k04_error_classes_holds : PySem.Challenge.rw_vetoturns_k04_error_classes.Holds := by
  exact holds_of_K04 K04.plain

