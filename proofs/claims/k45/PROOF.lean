import PyProof.Rows.All
import Wide.All
import OpenK.AllK
import Wide.FinOn
import HandS.ForMost
import HandS.ForExc
import HandS.TupAny
import HandS.SortInts
import HandS.Style
import HandS.Conv
import HandS.Deep
import HandS.SetFor
import HandS.Defaults
import HandS.Star
import HandS.Property
import HandS.ClsMeth
import HandS.NoneIn
import HandS.IsInst
import HandS.More
import HandS.RaiseMore
import HandS.WordsDict
import HandS.Zip
import PyProof.TupleOfSeq
import KE.GoesEnum
import KE.KRevSl
import HandS.Ends
import HandS.EndBits
import HandS.Head0
import HandS.Head1
import HandS.Head2
import HandS.HeadHook1
import HandS.HeadHook2
import HandS.ExcInit
import PySem.Challenge.RW_vetoturns_k45_sets_avoided_by_the_whole
set_option Elab.async false
set_option linter.all false
set_option maxRecDepth 100000
set_option maxHeartbeats 4000000
namespace Cl
open PySem PySem.Spec PyProof.Rows L2

abbrev Sg := L2.St
inductive PV where
  | non | bl (b : Bool) | int (i : Int) | str (s : PySem.Str) | ty (n : String) | fn (n : Nat)
  | lst (xs : List PV) | tup (xs : List PV) | dct (kvs : List (PV × PV)) | obj (c : Nat) (fs : List (PySem.Str × PV))
  | scr (ns : List Int)
structure Gd where
  fn : Nat → Addr
  cls : Nat → Addr

def keyOf : PV → Option Key
  | .int i => some (.inl i)
  | .str s => some (.inr s)
  | _ => none

mutual
inductive Rep (G : Gd) (F : Hp) : PV → V → Prop
  | non : Rep G F .non .non
  | bl (b : Bool) : Rep G F (.bl b) (.bl b)
  | int (i : Int) : Rep G F (.int i) (.int i)
  | str (x : PySem.Str) : Rep G F (.str x) (.str x)
  | ty (n : String) : Rep G F (.ty n) (.ty n)
  | fn (n : Nat) : Rep G F (.fn n) (.ref (G.fn n))
  | lst {a : Addr} {xs : List PV} {vs : List V} : F a = some (.lst vs) → RepL G F xs vs → Rep G F (.lst xs) (.ref a)
  | tup {a : Addr} {xs : List PV} {vs : List V} : F a = some (.tup vs) → RepL G F xs vs → Rep G F (.tup xs) (.ref a)
  | dct {a : Addr} {kvs : List (PV × PV)} {hs : List (Key × V)} : Rd F a (.dK hs) → RepK G F kvs hs → Rep G F (.dct kvs) (.ref a)
  | obj {a dx : Addr} {c : Nat} {fs : List (PySem.Str × PV)} {hs : List (PySem.Str × V)} : F a = some (.ins (G.cls c) dx hs) → RepF G F fs hs → Rep G F (.obj c fs) (.ref a)
  | scr {a : Addr} {o : Obj} {ns : List Int} : F a = some (.frz o (.lst (ns.map V.int))) → Rep G F (.scr ns) (.ref a)
inductive RepL (G : Gd) (F : Hp) : List PV → List V → Prop
  | nil : RepL G F [] []
  | cons {p : PV} {ps : List PV} {v : V} {vs : List V} : Rep G F p v → RepL G F ps vs → RepL G F (p :: ps) (v :: vs)
inductive RepK (G : Gd) (F : Hp) : List (PV × PV) → List (Key × V) → Prop
  | nil : RepK G F [] []
  | cons {k p : PV} {key : Key} {v : V} {ps : List (PV × PV)} {vs : List (Key × V)} : keyOf k = some key → Rep G F p v → RepK G F ps vs → RepK G F ((k, p) :: ps) ((key, v) :: vs)
inductive RepF (G : Gd) (F : Hp) : List (PySem.Str × PV) → List (PySem.Str × V) → Prop
  | nil : RepF G F [] []
  | cons {f : PySem.Str} {p : PV} {v : V} {ps : List (PySem.Str × PV)} {vs : List (PySem.Str × V)} : Rep G F p v → RepF G F ps vs → RepF G F ((f, p) :: ps) ((f, v) :: vs)
end

theorem rd_mono {F F' : Hp} (h : Same F F') {a : Addr} {o : HO} (r : Rd F a o) : Rd F' a o := by
  rcases r with r | ⟨z, r⟩
  · exact .inl (h _ _ r)
  · exact .inr ⟨z, h _ _ r⟩

section
variable {G : Gd} {F F' : Hp}
mutual
theorem Rep.mono (h : Same F F') : ∀ {p : PV} {v : V}, Rep G F p v → Rep G F' p v
  | _, _, .non => .non
  | _, _, .bl b => .bl b
  | _, _, .int i => .int i
  | _, _, .str x => .str x
  | _, _, .ty n => .ty n
  | _, _, .fn n => .fn n
  | _, _, .lst r l => .lst (h _ _ r) (RepL.mono h l)
  | _, _, .tup r l => .tup (h _ _ r) (RepL.mono h l)
  | _, _, .scr r => .scr (h _ _ r)
  | _, _, .dct r l => .dct (rd_mono h r) (RepK.mono h l)
  | _, _, .obj r l => .obj (h _ _ r) (RepF.mono h l)
theorem RepL.mono (h : Same F F') : ∀ {p : List PV} {v : List V}, RepL G F p v → RepL G F' p v
  | _, _, .nil => .nil
  | _, _, .cons r l => .cons (Rep.mono h r) (RepL.mono h l)
theorem RepK.mono (h : Same F F') : ∀ {p : List (PV × PV)} {v : List (Key × V)}, RepK G F p v → RepK G F' p v
  | _, _, .nil => .nil
  | _, _, .cons e r l => .cons e (Rep.mono h r) (RepK.mono h l)
theorem RepF.mono (h : Same F F') : ∀ {p : List (PySem.Str × PV)} {v : List (PySem.Str × V)}, RepF G F p v → RepF G F' p v
  | _, _, .nil => .nil
  | _, _, .cons r l => .cons (Rep.mono h r) (RepF.mono h l)
end
theorem RepL.length : ∀ {p : List PV} {v : List V}, RepL G F p v → p.length = v.length
  | _, _, .nil => rfl
  | _, _, .cons _ l => congrArg (· + 1) l.length
theorem RepL.append : ∀ {p q : List PV} {v u : List V}, RepL G F p v → RepL G F q u → RepL G F (p ++ q) (v ++ u)
  | _, _, _, _, .nil, s => s
  | _, _, _, _, .cons r l, s => .cons r (RepL.append l s)
theorem RepL.get : ∀ {p : List PV} {v : List V} {i : Nat} {x : PV}, RepL G F p v → p[i]? = some x → ∃ u, v[i]? = some u ∧ Rep G F x u
  | _, _, _, _, .nil, e => by simp at e
  | _, _, 0, _, .cons r _, e => by simp at e; subst e; exact ⟨_, rfl, r⟩
  | _, _, i + 1, _, .cons _ l, e => by
    obtain ⟨u, a, b⟩ := RepL.get (i := i) l (by simpa using e)
    exact ⟨u, by simpa using a, b⟩
theorem RepL.getV : ∀ {p : List PV} {v : List V} {i : Nat} {u : V}, RepL G F p v → v[i]? = some u → ∃ x, p[i]? = some x ∧ Rep G F x u
  | _, _, _, _, .nil, e => by simp at e
  | _, _, 0, _, .cons r _, e => by simp at e; subst e; exact ⟨_, rfl, r⟩
  | _, _, i + 1, _, .cons _ l, e => by
    obtain ⟨u, a, b⟩ := RepL.getV (i := i) l (by simpa using e)
    exact ⟨u, by simpa using a, b⟩
theorem RepL.set : ∀ {p : List PV} {v : List V} {x : PV} {u : V} (i : Nat), RepL G F p v → Rep G F x u → RepL G F (p.set i x) (v.set i u)
  | _, _, _, _, _, .nil, _ => .nil
  | _, _, _, _, 0, .cons _ l, r => .cons r l
  | _, _, _, _, i + 1, .cons q l, r => .cons q (RepL.set i l r)
theorem RepL.take : ∀ {p : List PV} {v : List V} (n : Nat), RepL G F p v → RepL G F (p.take n) (v.take n)
  | _, _, 0, _ => .nil
  | _, _, _ + 1, .nil => .nil
  | _, _, n + 1, .cons r l => .cons r (RepL.take n l)
theorem RepL.drop : ∀ {p : List PV} {v : List V} (n : Nat), RepL G F p v → RepL G F (p.drop n) (v.drop n)
  | _, _, 0, l => l
  | _, _, _ + 1, .nil => .nil
  | _, _, n + 1, .cons _ l => RepL.drop n l
theorem RepL.reverse {p : List PV} {v : List V} (l : RepL G F p v) : RepL G F p.reverse v.reverse := by
  have go : ∀ {p q : List PV} {v u : List V}, RepL G F p v → RepL G F q u → RepL G F (p.reverse ++ q) (v.reverse ++ u) := by
    intro p
    induction p with
    | nil => intro q v u a b; cases a; exact b
    | cons x p ih =>
      intro q v u a b
      cases a with
      | cons r l =>
        simp only [List.reverse_cons, List.append_assoc, List.singleton_append]
        exact ih l (.cons r b)
  simpa using go l .nil
theorem RepL.ints : ∀ (ns : List Int), RepL G F (ns.map PV.int) (ns.map V.int)
  | [] => .nil
  | n :: ns => .cons (.int n) (RepL.ints ns)
theorem RepF.lookup : ∀ {fs : List (PySem.Str × PV)} {hs : List (PySem.Str × V)} {f : PySem.Str}, RepF G F fs hs →
    (∀ p, fs.lookup f = some p → ∃ v, hs.lookup f = some v ∧ Rep G F p v) ∧ (fs.lookup f = none → hs.lookup f = none)
  | _, _, _, .nil => ⟨(fun _ h => by cases h), (fun _ => rfl)⟩
  | _, _, f, .cons (f := g) r l => by
    have ih := RepF.lookup (f := f) l
    constructor
    · intro p h
      rw [List.lookup_cons] at h ⊢
      cases e : f == g with
      | true => rw [e] at h; simp at h; subst h; exact ⟨_, rfl, r⟩
      | false => rw [e] at h; simp only at h ⊢; exact ih.1 p h
    · intro h
      rw [List.lookup_cons] at h ⊢
      cases e : f == g with
      | true => rw [e] at h; simp at h
      | false => rw [e] at h; simp only at h ⊢; exact ih.2 h
end
inductive MC where
  | lst (xs : List PV) | dct (kvs : List (PV × PV)) | obj (c : Nat) (fs : List (PySem.Str × PV))
def MC.pv : MC → PV
  | .lst xs => .lst xs
  | .dct kvs => .dct kvs
  | .obj c fs => .obj c fs
inductive SL where
  | t (p : PV) | m (c : MC) | i (n : Nat)
structure ST where
  loc : List (Option SL)
  inh : List MC
inductive PL where
  | sl (j : Nat) | ih (n : Nat)
  deriving DecidableEq
inductive SV where
  | t (p : PV) | pl (q : PL)
structure Wd where
  F : Hp
  A : List Addr

def RepM (G : Gd) (F H : Hp) : MC → Addr → Prop
  | .lst xs, a => ∃ vs, H a = some (.lst vs) ∧ RepL G F xs vs
  | .dct kvs, a => ∃ hs, H a = some (.dK hs) ∧ RepK G F kvs hs
  | .obj c fs, a => ∃ dx hs, H a = some (.ins (G.cls c) dx hs) ∧ RepF G F fs hs
def RepMs (G : Gd) (F H : Hp) : List MC → List Addr → Prop
  | [], [] => True
  | c :: cs, a :: as => RepM G F H c a ∧ RepMs G F H cs as
  | _, _ => False
def RepSl (G : Gd) (W : Wd) (H : Hp) : SL → V → Prop
  | .t p, v => Rep G W.F p v
  | .m c, v => ∃ a, v = .ref a ∧ RepM G W.F H c a
  | .i n, v => ∃ a, v = .ref a ∧ W.A[n]? = some a
def RepLoc (G : Gd) (W : Wd) (H : Hp) : List (Option SL) → Sg → Prop
  | [], [] => True
  | none :: ls, _ :: vs => RepLoc G W H ls vs
  | some l :: ls, some v :: vs => RepSl G W H l v ∧ RepLoc G W H ls vs
  | _, _ => False
def owned : List (Option SL) → Sg → List Addr
  | some (.m _) :: ls, some (.ref a) :: vs => a :: owned ls vs
  | _ :: ls, _ :: vs => owned ls vs
  | _, _ => []
def own (W : Wd) (st : ST) (σ : Sg) : List Addr := owned st.loc σ ++ W.A

structure R (G : Gd) (W : Wd) (st : ST) (σ : Sg) (H : Hp) : Prop where
  le : Same W.F H
  inh : RepMs G W.F H st.inh W.A
  loc : RepLoc G W H st.loc σ
  nd : (own W st σ).Nodup
  fr : ∀ a ∈ own W st σ, W.F a = none
structure Step (o : List Addr) (W : Wd) (H : Hp) (o' : List Addr) (W' : Wd) (H' : Hp) : Prop where
  f : Same W.F W'.F
  a : W'.A = W.A
  nf : ∀ b, W'.F b = W.F b ∨ H b = none ∨ b ∈ o
  no : ∀ b ∈ o', b ∈ o ∨ H b = none
  keep : ∀ b u, H b = some u → b ∉ o → H' b = some u

theorem Step.refl {o : List Addr} {W : Wd} {H : Hp} : Step o W H o W H :=
  ⟨Same.refl _, rfl, fun _ => .inl rfl, fun _ h => .inl h, fun _ _ h _ => h⟩
theorem Step.back {o o' : List Addr} {W W' : Wd} {H H' : Hp} (s : Step o W H o' W' H') {b : Addr} (h : H' b = none) (hb : b ∉ o) : H b = none := by
  cases e : H b with
  | none => rfl
  | some u => have := s.keep b u e hb; rw [h] at this; cases this
theorem Step.trans {o o1 o2 : List Addr} {W W1 W2 : Wd} {H H1 H2 : Hp} (s : Step o W H o1 W1 H1) (s' : Step o1 W1 H1 o2 W2 H2) : Step o W H o2 W2 H2 where
  f := s.f.trans s'.f
  a := s'.a.trans s.a
  nf := fun b => by
    rcases s'.nf b with e | e | e
    · rw [e]; exact s.nf b
    · by_cases hb : b ∈ o
      · exact .inr (.inr hb)
      · exact .inr (.inl (s.back e hb))
    · rcases s.no b e with q | q
      · exact .inr (.inr q)
      · exact .inr (.inl q)
  no := fun b h => by
    rcases s'.no b h with q | q
    · exact s.no b q
    · by_cases hb : b ∈ o
      · exact .inl hb
      · exact .inr (s.back q hb)
  keep := fun b u e hb => s'.keep b u (s.keep b u e hb) fun h => by
    rcases s.no b h with q | q
    · exact hb q
    · rw [q] at e; cases e
inductive Out (α : Type) where
  | ok (v : α) (st : ST)
  | exc (c : Nat) (fs : List (PySem.Str × PV)) (st : ST)
  | stuck
def Out.bind {α β : Type} (o : Out α) (k : α → ST → Out β) : Out β :=
  match o with
  | .ok v st => k v st
  | .exc c fs st => .exc c fs st
  | .stuck => .stuck

def RepS (G : Gd) (W : Wd) (σ : Sg) : SV → V → Prop
  | .t p, v => Rep G W.F p v
  | .pl (.sl j), v => σ[j]? = some (some v)
  | .pl (.ih n), v => ∃ a, v = .ref a ∧ W.A[n]? = some a
theorem RepS.mono {G : Gd} {W W' : Wd} {σ : Sg} {x : SV} {v : V} (f : Same W.F W'.F) (a : W'.A = W.A) (h : RepS G W σ x v) : RepS G W' σ x v := by
  cases x with
  | t p => exact Rep.mono f h
  | pl q =>
    cases q with
    | sl j => exact h
    | ih n =>
      obtain ⟨b, e1, e2⟩ := h
      exact ⟨b, e1, by rw [a]; exact e2⟩
def RepX (G : Gd) (W : Wd) (H : Hp) (fs : List (PySem.Str × PV)) (d : Addr) : Prop := ∃ hs, H d = some (.xd hs) ∧ RepF G W.F fs hs
def OutA {α β : Type} (G : Gd) (Wx : WX) (rel : Wd → Sg → α → β → Prop) (W : Wd) (st : ST) (σ : Sg) (H : Hp) (o : Out α) (Q : β → Hp → Prop) : Prop :=
  match o with
  | .ok v st' => ∀ W' H' u, R G W' st' σ H' → Step (own W st σ) W H (own W' st' σ) W' H' → rel W' σ v u → Q u H'
  | .exc c fs st' => ∀ W' H' d, R G W' st' σ H' → Step (own W st σ) W H (own W' st' σ) W' H' → RepX G W' H' fs d → Wx (.ref (G.cls c)) (some d) σ H'
  | .stuck => False
abbrev OutE (G : Gd) (Wx : WX) := OutA (α := SV) (β := V) G Wx (RepS G)
def RepSs (G : Gd) (W : Wd) (σ : Sg) (xs : List SV) (vs : List V) : Prop := Paired (RepS G W σ) xs vs
abbrev OutL (G : Gd) (Wx : WX) := OutA (α := List SV) (β := List V) G Wx (RepSs G)
def RepB (_ : Wd) (_ : Sg) (b c : Bool) : Prop := b = c
abbrev OutB (G : Gd) (Wx : WX) := OutA (α := Bool) (β := Bool) G Wx RepB

theorem OutA.from {α β : Type} {G : Gd} {Wx : WX} {rel : Wd → Sg → α → β → Prop} {W W1 : Wd} {st st1 : ST} {σ : Sg} {H H1 : Hp} {o : Out α} {Q : β → Hp → Prop}
    (h : OutA G Wx rel W st σ H o Q) (s : Step (own W st σ) W H (own W1 st1 σ) W1 H1) : OutA G Wx rel W1 st1 σ H1 o Q := by
  cases o with
  | ok v st' => exact fun W' H' u r s' q => h W' H' u r (s.trans s') q
  | exc c fs st' => exact fun W' H' d r s' q => h W' H' d r (s.trans s') q
  | stuck => exact h
theorem OutA.bind {α α' β β' : Type} {G : Gd} {Wx : WX} {rel : Wd → Sg → α → β → Prop} {rel' : Wd → Sg → α' → β' → Prop} {W : Wd} {st : ST} {σ : Sg} {H : Hp} {o : Out α} {k : α → ST → Out α'} {Q : β' → Hp → Prop}
    (h : OutA G Wx rel' W st σ H (o.bind k) Q) :
    OutA G Wx rel W st σ H o fun u H1 => ∃ W1 st1 v, R G W1 st1 σ H1 ∧ Same W.F W1.F ∧ W1.A = W.A ∧ rel W1 σ v u ∧ OutA G Wx rel' W1 st1 σ H1 (k v st1) Q := by
  cases o with
  | ok v st' => exact fun W' H' u r s q => ⟨W', st', v, r, s.f, s.a, q, OutA.from h s⟩
  | exc c fs st' => exact h
  | stuck => exact h

abbrev Cm (α : Type) := ST → Out α
def tA {α β : Type} (G : Gd) (Wx : WX) (rel : Wd → Sg → α → β → Prop) (f : Cm α) : Sg → Hp → (β → Hp → Prop) → Prop :=
  fun σ H Q => ∃ W st, R G W st σ H ∧ OutA G Wx rel W st σ H (f st) Q
abbrev tE (G : Gd) (Wx : WX) (f : Cm SV) : TE := tA G Wx (RepS G) f
abbrev tT (G : Gd) (Wx : WX) (f : Cm Bool) : TT := tA G Wx RepB f
abbrev tL (G : Gd) (Wx : WX) (f : Cm (List SV)) : TA := tA G Wx (RepSs G) f
structure CE (G : Gd) (X : Cx) (Wx : WX) (e : Expr) (f : Cm SV) : Prop where
  pe : PE X e (tE G Wx f)
structure CT (G : Gd) (X : Cx) (Wx : WX) (e : Expr) (f : Cm Bool) : Prop where
  pt : PT X e (tT G Wx f)
structure CA (G : Gd) (X : Cx) (Wx : WX) (es : List Expr) (f : Cm (List SV)) : Prop where
  pa : PA X es (tL G Wx f)

theorem pe_imp {X : Cx} {e : Expr} {t t' : TE} (h : PE X e t) (i : ∀ σ H Q, t' σ H Q → t σ H Q) : PE X e t' := ⟨fun pn s σ H Q I q => h.run pn s σ H Q I (i σ H Q q)⟩
theorem pt_imp {X : Cx} {e : Expr} {t t' : TT} (h : PT X e t) (i : ∀ σ H Q, t' σ H Q → t σ H Q) : PT X e t' := ⟨fun pn s σ H Q I q => h.run pn s σ H Q I (i σ H Q q)⟩
theorem pa_imp {X : Cx} {es : List Expr} {t t' : TA} (h : PA X es t) (i : ∀ σ H Q, t' σ H Q → t σ H Q) : PA X es t' := ⟨fun ps pn s σ H Q I q => h.run ps pn s σ H Q I (i σ H Q q)⟩
theorem tA_seq {α α' β β' : Type} {G : Gd} {Wx : WX} {rel : Wd → Sg → α → β → Prop} {rel' : Wd → Sg → α' → β' → Prop} {f : Cm α} {k : α → ST → Out α'} {σ : Sg} {H : Hp} {Q : β' → Hp → Prop}
    (h : tA G Wx rel' (fun st => (f st).bind k) σ H Q) : tA G Wx rel f σ H fun u H1 => ∃ W1 st1 v, R G W1 st1 σ H1 ∧ rel W1 σ v u ∧ OutA G Wx rel' W1 st1 σ H1 (k v st1) Q := by
  obtain ⟨W, st, r, o⟩ := h
  refine ⟨W, st, r, ?_⟩
  have o' := OutA.bind (rel := rel) o
  revert o'
  cases f st with
  | ok v st' => exact fun o' W' H' u r' s q => let ⟨W1, st1, v1, a, _, _, b, c⟩ := o' W' H' u r' s q; ⟨W1, st1, v1, a, b, c⟩
  | exc c fs st' => exact fun o' => o'
  | stuck => exact fun o' => o'
end Cl
set_option Elab.async false
set_option linter.all false
set_option maxRecDepth 100000
set_option maxHeartbeats 4000000
namespace Cl
open PySem PySem.Spec PyProof.Rows L2

section
variable {G : Gd} {W : Wd} {st : ST} {σ : Sg} {H H' F' : Hp}
theorem RepM.mono {c : MC} {a : Addr} {F : Hp} (f : Same F F') (h : ∀ u, H a = some u → H' a = some u) (r : RepM G F H c a) : RepM G F' H' c a := by
  cases c with
  | lst xs => obtain ⟨vs, e, l⟩ := r; exact ⟨vs, h _ e, l.mono f⟩
  | dct kvs => obtain ⟨hs, e, l⟩ := r; exact ⟨hs, h _ e, l.mono f⟩
  | obj c fs => obtain ⟨dx, hs, e, l⟩ := r; exact ⟨dx, hs, h _ e, l.mono f⟩
theorem RepM.there {c : MC} {a : Addr} {F : Hp} (r : RepM G F H c a) : ∃ u, H a = some u := by
  cases c with
  | lst xs => obtain ⟨vs, e, l⟩ := r; exact ⟨_, e⟩
  | dct kvs => obtain ⟨hs, e, l⟩ := r; exact ⟨_, e⟩
  | obj c fs => obtain ⟨dx, hs, e, l⟩ := r; exact ⟨_, e⟩
theorem RepMs.mono {F : Hp} (f : Same F F') : ∀ {cs : List MC} {as : List Addr}, (∀ a ∈ as, ∀ u, H a = some u → H' a = some u) → RepMs G F H cs as → RepMs G F' H' cs as
  | [], [], _, _ => trivial
  | c :: cs, a :: as, k, ⟨r, l⟩ => ⟨r.mono f (k a (List.mem_cons_self ..)), RepMs.mono f (fun b hb => k b (List.mem_cons_of_mem _ hb)) l⟩
  | [], _ :: _, _, h => h.elim
  | _ :: _, [], _, h => h.elim
theorem RepMs.there {F : Hp} : ∀ {cs : List MC} {as : List Addr}, RepMs G F H cs as → ∀ a ∈ as, ∃ u, H a = some u
  | [], [], _, _, h => nomatch h
  | c :: cs, a :: as, ⟨r, l⟩, b, h => by
    rcases List.mem_cons.mp h with e | e
    · subst e; exact r.there
    · exact RepMs.there l b e
  | [], _ :: _, h, _, _ => h.elim
  | _ :: _, [], h, _, _ => h.elim
theorem RepMs.length {F : Hp} : ∀ {cs : List MC} {as : List Addr}, RepMs G F H cs as → cs.length = as.length
  | [], [], _ => rfl
  | c :: cs, a :: as, ⟨_, l⟩ => congrArg (· + 1) (RepMs.length l)
  | [], _ :: _, h => h.elim
  | _ :: _, [], h => h.elim
theorem RepMs.get {F : Hp} : ∀ {cs : List MC} {as : List Addr} {n : Nat} {c : MC} {a : Addr}, RepMs G F H cs as → cs[n]? = some c → as[n]? = some a → RepM G F H c a
  | [], _, n, _, _, _, e, _ => by simp at e
  | c :: cs, [], _, _, _, h, _, _ => h.elim
  | c :: cs, a :: as, 0, _, _, ⟨r, _⟩, e1, e2 => by simp at e1 e2; subst e1; subst e2; exact r
  | c :: cs, a :: as, n + 1, _, _, ⟨_, l⟩, e1, e2 => RepMs.get (n := n) l (by simpa using e1) (by simpa using e2)
theorem RepSl.mono {l : SL} {v : V} {A : List Addr} (f : Same W.F F') (h : ∀ a, v = .ref a → (∃ c, l = .m c) → ∀ u, H a = some u → H' a = some u) (r : RepSl G W H l v) (e : A = W.A) : RepSl G ⟨F', A⟩ H' l v := by
  subst e
  cases l with
  | t p => exact Rep.mono f r
  | m c => obtain ⟨a, e, r⟩ := r; exact ⟨a, e, r.mono f (h a e ⟨c, rfl⟩)⟩
  | i n => exact r
theorem RepLoc.mono (f : Same W.F F') : ∀ {ls : List (Option SL)} {vs : Sg}, (∀ a ∈ owned ls vs, ∀ u, H a = some u → H' a = some u) → RepLoc G W H ls vs → RepLoc G ⟨F', W.A⟩ H' ls vs
  | [], [], _, _ => trivial
  | none :: ls, _ :: vs, k, r => RepLoc.mono (ls := ls) f (fun a h => k a (by cases hv : ‹Option V› <;> exact h)) r
  | some l :: ls, some v :: vs, k, ⟨r, q⟩ => by
    refine ⟨RepSl.mono f (fun a e c => ?_) r rfl, RepLoc.mono f (fun a h => ?_) q⟩
    · obtain ⟨c, rfl⟩ := c
      subst e
      exact k a (List.mem_cons_self ..)
    · refine k a ?_
      cases l with
      | m c => cases v <;> first | exact List.mem_cons_of_mem _ h | exact h
      | _ => exact h
  | [], _ :: _, _, h => h.elim
  | some _ :: _, [], _, h => h.elim
  | none :: _, [], _, h => h.elim
  | some _ :: _, none :: _, _, h => h.elim
theorem RepLoc.there : ∀ {ls : List (Option SL)} {vs : Sg}, RepLoc G W H ls vs → ∀ a ∈ owned ls vs, ∃ u, H a = some u
  | [], [], _, _, h => nomatch h
  | none :: ls, v :: vs, r, a, h => RepLoc.there (ls := ls) (vs := vs) r a (by cases v <;> exact h)
  | some l :: ls, some v :: vs, ⟨r, q⟩, a, h => by
    cases l with
    | m c =>
      obtain ⟨b, e, r⟩ := r
      subst e
      rcases List.mem_cons.mp h with e | e
      · subst e; exact r.there
      · exact RepLoc.there q a e
    | t p => exact RepLoc.there q a h
    | i n => exact RepLoc.there q a h
  | [], _ :: _, h, _, _ => h.elim
  | some _ :: _, [], h, _, _ => h.elim
  | none :: _, [], h, _, _ => h.elim
  | some _ :: _, none :: _, h, _, _ => h.elim
theorem RepLoc.length : ∀ {ls : List (Option SL)} {vs : Sg}, RepLoc G W H ls vs → ls.length = vs.length
  | [], [], _ => rfl
  | none :: ls, v :: vs, r => congrArg (· + 1) (RepLoc.length (ls := ls) r)
  | some l :: ls, some v :: vs, ⟨_, q⟩ => congrArg (· + 1) (RepLoc.length q)
  | [], _ :: _, h => h.elim
  | some _ :: _, [], h => h.elim
  | none :: _, [], h => h.elim
  | some _ :: _, none :: _, h => h.elim
theorem RepLoc.get : ∀ {ls : List (Option SL)} {vs : Sg} {i : Nat} {l : SL}, RepLoc G W H ls vs → ls[i]? = some (some l) → ∃ v, vs[i]? = some (some v) ∧ RepSl G W H l v
  | [], [], i, _, _, e => by simp at e
  | none :: ls, v :: vs, 0, _, r, e => by simp at e
  | none :: ls, v :: vs, i + 1, _, r, e => RepLoc.get (ls := ls) (vs := vs) (i := i) r (by simpa using e)
  | some l :: ls, some v :: vs, 0, _, ⟨r, _⟩, e => by simp at e; subst e; exact ⟨v, rfl, r⟩
  | some l :: ls, some v :: vs, i + 1, _, ⟨_, q⟩, e => RepLoc.get (ls := ls) (vs := vs) (i := i) q (by simpa using e)
  | [], _ :: _, _, _, h, _ => h.elim
  | some _ :: _, [], _, _, h, _ => h.elim
  | none :: _, [], _, _, h, _ => h.elim
  | some _ :: _, none :: _, _, _, h, _ => h.elim
theorem owned_get : ∀ {ls : List (Option SL)} {vs : Sg} {i : Nat} {c : MC} {a : Addr}, ls[i]? = some (some (.m c)) → vs[i]? = some (some (.ref a)) → a ∈ owned ls vs
  | [], _, i, _, _, e, _ => by simp at e
  | l :: ls, [], i, _, _, _, e => by simp at e
  | l :: ls, v :: vs, 0, _, _, e1, e2 => by
    simp at e1 e2
    subst e1; subst e2
    exact List.mem_cons_self ..
  | l :: ls, v :: vs, i + 1, _, _, e1, e2 => by
    have ih := owned_get (ls := ls) (vs := vs) (i := i) (by simpa using e1) (by simpa using e2)
    cases l with
    | none => cases v <;> exact ih
    | some l =>
      cases l with
      | m c =>
        cases v with
        | none => exact ih
        | some v => cases v <;> first | exact List.mem_cons_of_mem _ ih | exact ih
      | t p => cases v <;> exact ih
      | i n => cases v <;> exact ih

theorem R.there (r : R G W st σ H) : ∀ a ∈ own W st σ, ∃ u, H a = some u := fun a h => by
  rcases List.mem_append.mp h with h | h
  · exact r.loc.there a h
  · exact r.inh.there a h
theorem R.notown (r : R G W st σ H) {a : Addr} (h : H a = none) : a ∉ own W st σ := fun k => by
  obtain ⟨u, e⟩ := r.there a k
  rw [h] at e; cases e
theorem R.grow (r : R G W st σ H) (f : Same W.F F') (h : ∀ b u, H b = some u → b ∈ own W st σ ∨ W.F b = some u → H' b = some u) (l : Same F' H') (n : ∀ b, F' b = W.F b ∨ H b = none) : R G ⟨F', W.A⟩ st σ H' := by
  refine ⟨l, ?_, ?_, r.nd, fun a ha => ?_⟩
  · exact RepMs.mono f (fun a ha u e => h a u e (.inl (List.mem_append_right _ ha))) r.inh
  · exact RepLoc.mono f (fun a ha u e => h a u e (.inl (List.mem_append_left _ ha))) r.loc
  · rcases n a with e | e
    · exact e.trans (r.fr a ha)
    · exact absurd ha (r.notown e)
theorem same_upd {p : Addr} {o : HO} (h : H p = none) : Same H (upd H p o) := fun b u e => by rw [upd_ne (ne_of_none e h)]; exact e
theorem R.new (r : R G W st σ H) {p : Addr} {o : HO} (h : H p = none) : R G ⟨upd W.F p o, W.A⟩ st σ (upd H p o) := by
  have hf : W.F p = none := by
    cases e : W.F p with
    | none => rfl
    | some u => have := r.le p u e; rw [h] at this; cases this
  refine r.grow (same_upd hf) (fun b u e _ => same_upd h b u e) (fun b u e => ?_) fun b => ?_
  · by_cases q : b = p
    · subst q; rw [upd_same] at e ⊢; exact e
    · rw [upd_ne q] at e ⊢; exact r.le b u e
  · by_cases q : b = p
    · subst q; exact .inr h
    · exact .inl (upd_ne q)
theorem R.step_new (r : R G W st σ H) {p : Addr} {o : HO} (h : H p = none) : Step (own W st σ) W H (own ⟨upd W.F p o, W.A⟩ st σ) ⟨upd W.F p o, W.A⟩ (upd H p o) := by
  have hf : W.F p = none := by
    cases e : W.F p with
    | none => rfl
    | some u => have := r.le p u e; rw [h] at this; cases this
  exact ⟨same_upd hf, rfl, fun b => by
    by_cases q : b = p
    · subst q; exact .inr (.inl h)
    · exact .inl (upd_ne q), fun b k => .inl k, fun b u e _ => same_upd h b u e⟩
end

def view (st : ST) : SV → Option PV
  | .t p => some p
  | .pl (.sl j) => match st.loc[j]? with
    | some (some (.m c)) => some c.pv
    | _ => none
  | .pl (.ih n) => match st.inh[n]? with
    | some c => some c.pv
    | none => none
def VRep (G : Gd) (F H : Hp) : PV → V → Prop
  | .lst xs, v => ∃ a vs, v = .ref a ∧ H a = some (.lst vs) ∧ RepL G F xs vs
  | .tup xs, v => ∃ a vs, v = .ref a ∧ F a = some (.tup vs) ∧ RepL G F xs vs
  | .dct kvs, v => ∃ a hs, v = .ref a ∧ Rd H a (.dK hs) ∧ RepK G F kvs hs
  | .obj c fs, v => ∃ a dx hs, v = .ref a ∧ H a = some (.ins (G.cls c) dx hs) ∧ RepF G F fs hs
  | .non, v => v = .non
  | .bl b, v => v = .bl b
  | .int i, v => v = .int i
  | .str x, v => v = .str x
  | .ty n, v => v = .ty n
  | .fn n, v => v = .ref (G.fn n)
  | .scr ns, v => ∃ a o, v = .ref a ∧ F a = some (.frz o (.lst (ns.map V.int)))
section
variable {G : Gd} {W : Wd} {st : ST} {σ : Sg} {H : Hp}
theorem Rep.v {F : Hp} (l : Same F H) {p : PV} {v : V} (r : Rep G F p v) : VRep G F H p v := by
  cases r with
  | non => rfl
  | bl b => rfl
  | int i => rfl
  | str x => rfl
  | ty n => rfl
  | fn n => rfl
  | lst r q => exact ⟨_, _, rfl, l _ _ r, q⟩
  | scr r => exact ⟨_, _, rfl, r⟩
  | tup r q => exact ⟨_, _, rfl, r, q⟩
  | dct r q => exact ⟨_, _, rfl, rd_mono l r, q⟩
  | obj r q => exact ⟨_, _, _, rfl, l _ _ r, q⟩
theorem RepM.v {F : Hp} {c : MC} {a : Addr} (r : RepM G F H c a) : VRep G F H c.pv (.ref a) := by
  cases c with
  | lst xs => obtain ⟨vs, e, l⟩ := r; exact ⟨a, vs, rfl, e, l⟩
  | dct xs => obtain ⟨vs, e, l⟩ := r; exact ⟨a, vs, rfl, .inl e, l⟩
  | obj c xs => obtain ⟨dx, vs, e, l⟩ := r; exact ⟨a, dx, vs, rfl, e, l⟩
theorem R.view (r : R G W st σ H) {x : SV} {v : V} {p : PV} (h : RepS G W σ x v) (e : view st x = some p) : VRep G W.F H p v := by
  cases x with
  | t q => simp [Cl.view] at e; subst e; exact Rep.v r.le h
  | pl q =>
    cases q with
    | sl j =>
      have e : (match st.loc[j]? with | some (some (.m c)) => some c.pv | _ => none) = some p := e
      split at e
      · rename_i c hc
        simp at e; subst e
        obtain ⟨u, e1, a, e2, k⟩ := r.loc.get hc
        have e3 : σ[j]? = some (some v) := h
        rw [e1] at e3
        cases e3
        subst e2
        exact k.v
      · cases e
    | ih n =>
      have e : (match st.inh[n]? with | some c => some c.pv | none => none) = some p := e
      split at e
      · rename_i c hc
        simp at e; subst e
        obtain ⟨a, e1, e2⟩ := h
        subst e1
        exact (RepMs.get r.inh hc e2).v
      · cases e
end
def Gv (G : Gd) (W : Wd) (st : ST) (σ : Sg) (H : Hp) (z : PV) (Q : VK) : Prop :=
  ∀ W' H' u, R G W' st σ H' → Step (own W st σ) W H (own W' st σ) W' H' → Rep G W'.F z u → Q u H'
section
variable {G : Gd} {W : Wd} {st : ST} {σ : Sg} {H : Hp} {z : PV} {Q : VK}
theorem Gv.here (g : Gv G W st σ H z Q) (r : R G W st σ H) {u : V} (h : Rep G W.F z u) : Q u H := g W H u r Step.refl h
theorem Gv.lst {xs : List PV} {vs : List V} (g : Gv G W st σ H (.lst xs) Q) (r : R G W st σ H) (h : RepL G W.F xs vs) : ∀ p, H p = none → Q (.ref p) (upd H p (.lst vs)) := fun p hp =>
  g ⟨upd W.F p (.lst vs), W.A⟩ _ _ (r.new hp) (r.step_new hp) (.lst upd_same (h.mono (r.step_new (o := .lst vs) hp).f))
theorem Gv.tup {xs : List PV} {vs : List V} (g : Gv G W st σ H (.tup xs) Q) (r : R G W st σ H) (h : RepL G W.F xs vs) : ∀ p, H p = none → Q (.ref p) (upd H p (.tup vs)) := fun p hp =>
  g ⟨upd W.F p (.tup vs), W.A⟩ _ _ (r.new hp) (r.step_new hp) (.tup upd_same (h.mono (r.step_new (o := .tup vs) hp).f))
theorem Gv.dct {xs : List (PV × PV)} {vs : List (Key × V)} (g : Gv G W st σ H (.dct xs) Q) (r : R G W st σ H) (h : RepK G W.F xs vs) : ∀ p, H p = none → Q (.ref p) (upd H p (.dK vs)) := fun p hp =>
  g ⟨upd W.F p (.dK vs), W.A⟩ _ _ (r.new hp) (r.step_new hp) (.dct (.inl upd_same) (h.mono (r.step_new (o := .dK vs) hp).f))
end

def ofO (st : ST) (o : Option PV) : Out SV :=
  match o with
  | some p => .ok (.t p) st
  | none => .stuck
def cC (p : PV) : Cm SV := fun st => .ok (.t p) st
def cVar (i : Nat) : Cm SV := fun st => match st.loc[i]? with
  | some (some (.t p)) => .ok (.t p) st
  | some (some (.m _)) => .ok (.pl (.sl i)) st
  | some (some (.i n)) => .ok (.pl (.ih n)) st
  | _ => .stuck
def cUn (f : PV → Option PV) (fa : Cm SV) : Cm SV := fun st => (fa st).bind fun x st1 => ofO st1 ((view st1 x).bind f)
def cBin (f : PV → PV → Option PV) (fa fb : Cm SV) : Cm SV := fun st => (fa st).bind fun x st1 => (fb st1).bind fun y st2 =>
  ofO st2 ((view st2 x).bind fun p => (view st2 y).bind fun q => f p q)
def cNil : Cm (List SV) := fun st => .ok [] st
def cCons (fa : Cm SV) (fr : Cm (List SV)) : Cm (List SV) := fun st => (fa st).bind fun x st1 => (fr st1).bind fun xs st2 => .ok (x :: xs) st2
def views (st : ST) : List SV → Option (List PV)
  | [] => some []
  | x :: xs => (view st x).bind fun p => (views st xs).bind fun ps => some (p :: ps)
def cList (f : List PV → Option PV) (fa : Cm (List SV)) : Cm SV := fun st => (fa st).bind fun xs st1 => ofO st1 ((views st1 xs).bind f)

section
variable {G : Gd} {X : Cx} {Wx : WX} {σ : Sg} {H : Hp} {α α' β β' : Type}
theorem OutA.mono {rel : Wd → Sg → α → β → Prop} {W : Wd} {st : ST} {o : Out α} {Q Q' : β → Hp → Prop} (h : OutA G Wx rel W st σ H o Q) (i : ∀ u H, Q u H → Q' u H) : OutA G Wx rel W st σ H o Q' := by
  cases o with
  | ok v st' => exact fun W' H' u r s q => i _ _ (h W' H' u r s q)
  | exc c fs st' => exact h
  | stuck => exact h
theorem tA_mono {rel : Wd → Sg → α → β → Prop} {f : Cm α} {Q Q' : β → Hp → Prop} (h : tA G Wx rel f σ H Q) (i : ∀ u H, Q u H → Q' u H) : tA G Wx rel f σ H Q' :=
  let ⟨W, st, r, o⟩ := h
  ⟨W, st, r, o.mono i⟩
theorem tA_then {rel : Wd → Sg → α → β → Prop} {rel' : Wd → Sg → α' → β' → Prop} {f : Cm α} {k : α → ST → Out α'} {W : Wd} {st : ST} {Q : β' → Hp → Prop}
    (r : R G W st σ H) (h : OutA G Wx rel' W st σ H ((f st).bind k) Q) :
    tA G Wx rel f σ H fun u H1 => ∃ W1 st1 v, R G W1 st1 σ H1 ∧ Same W.F W1.F ∧ W1.A = W.A ∧ rel W1 σ v u ∧ OutA G Wx rel' W1 st1 σ H1 (k v st1) Q :=
  ⟨W, st, r, OutA.bind h⟩
theorem tA_of {rel : Wd → Sg → α → β → Prop} {f : Cm α} {Q : β → Hp → Prop} {W : Wd} {st : ST} (r : R G W st σ H) (h : OutA G Wx rel W st σ H (f st) Q) : tA G Wx rel f σ H Q := ⟨W, st, r, h⟩
theorem ofO_some {W : Wd} {st : ST} {o : Option PV} {Q : VK} (h : OutE G Wx W st σ H (ofO st o) Q) : ∃ z, o = some z ∧ Gv G W st σ H z Q := by
  cases o with
  | none => exact h.elim
  | some z => exact ⟨z, rfl, fun W' H' u r s q => h W' H' u r s q⟩
def Snd1 (G : Gd) (r : V → Hp → VK → Prop) (f : PV → Option PV) : Prop :=
  ∀ (W : Wd) (st : ST) (σ : Sg) (H : Hp) (p z : PV) (u : V) (Q : VK), R G W st σ H → VRep G W.F H p u → f p = some z → Gv G W st σ H z Q → r u H Q
def Snd2 (G : Gd) (r : V → V → Hp → VK → Prop) (f : PV → PV → Option PV) : Prop :=
  ∀ (W : Wd) (st : ST) (σ : Sg) (H : Hp) (p q z : PV) (u v : V) (Q : VK), R G W st σ H → VRep G W.F H p u → VRep G W.F H q v → f p q = some z → Gv G W st σ H z Q → r u v H Q
def VReps (G : Gd) (F H : Hp) : List PV → List V → Prop := Paired (VRep G F H)
def SndL (G : Gd) (r : List V → Hp → VK → Prop) (f : List PV → Option PV) : Prop :=
  ∀ (W : Wd) (st : ST) (σ : Sg) (H : Hp) (ps : List PV) (z : PV) (us : List V) (Q : VK), R G W st σ H → VReps G W.F H ps us → f ps = some z → Gv G W st σ H z Q → r us H Q

theorem un_step {r : V → Hp → VK → Prop} {f : PV → Option PV} {fa : Cm SV} {Q : VK} (s : Snd1 G r f) (h : tE G Wx (cUn f fa) σ H Q) : tE G Wx fa σ H fun u H1 => r u H1 Q := by
  refine tA_mono (tA_seq (rel := RepS G) (rel' := RepS G) h) fun u H1 ⟨W1, st1, v, r1, q1, o⟩ => ?_
  obtain ⟨z, e, g⟩ := ofO_some o
  obtain ⟨p, e1, e2⟩ := Option.bind_eq_some_iff.mp e
  exact s W1 st1 σ H1 p z u Q r1 (r1.view q1 e1) e2 g
theorem bin_step {r : V → V → Hp → VK → Prop} {f : PV → PV → Option PV} {fa fb : Cm SV} {Q : VK} (s : Snd2 G r f) (h : tE G Wx (cBin f fa fb) σ H Q) :
    tE G Wx fa σ H fun u H1 => tE G Wx fb σ H1 fun v H2 => r u v H2 Q := by
  obtain ⟨W, st, r0, o⟩ := h
  refine tA_mono (tA_then (rel := RepS G) (rel' := RepS G) r0 o) fun u H1 ⟨W1, st1, x, r1, _, _, q1, o1⟩ => ?_
  refine tA_mono (tA_then (rel := RepS G) (rel' := RepS G) r1 o1) fun v H2 ⟨W2, st2, y, r2, f2, a2, q2, o2⟩ => ?_
  obtain ⟨z, e, g⟩ := ofO_some o2
  obtain ⟨p, e1, e⟩ := Option.bind_eq_some_iff.mp e
  obtain ⟨q, e2, e3⟩ := Option.bind_eq_some_iff.mp e
  exact s W2 st2 σ H2 p q z u v Q r2 (r2.view (q1.mono f2 a2) e1) (r2.view q2 e2) e3 g
theorem views_reps {W : Wd} {st : ST} (r : R G W st σ H) : ∀ {xs : List SV} {vs : List V} {ps : List PV}, RepSs G W σ xs vs → views st xs = some ps → VReps G W.F H ps vs
  | _, _, _, .nil, e => by simp [views] at e; subst e; exact .nil
  | _, _, _, .cons q l, e => by
    obtain ⟨p, e1, e⟩ := Option.bind_eq_some_iff.mp e
    obtain ⟨ps, e2, e3⟩ := Option.bind_eq_some_iff.mp e
    simp at e3
    subst e3
    exact .cons (r.view q e1) (views_reps r l e2)
theorem list_step {r : List V → Hp → VK → Prop} {f : List PV → Option PV} {fa : Cm (List SV)} {Q : VK} (s : SndL G r f) (h : tE G Wx (cList f fa) σ H Q) : tL G Wx fa σ H fun us H1 => r us H1 Q := by
  refine tA_mono (tA_seq (rel := RepSs G) (rel' := RepS G) h) fun us H1 ⟨W1, st1, v, r1, q1, o⟩ => ?_
  obtain ⟨z, e, g⟩ := ofO_some o
  obtain ⟨ps, e1, e2⟩ := Option.bind_eq_some_iff.mp e
  exact s W1 st1 σ H1 ps z us Q r1 (views_reps r1 q1 e1) e2 g

variable {e a b : Expr} {es : List Expr} {pos p : Pos} {x : PySem.Str} {fa fb : Cm SV} {fr : Cm (List SV)}
theorem ce_C {v : PV} {u : V} (h : PE X e (tC u)) (r : ∀ F, Rep G F v u) : CE G X Wx e (cC v) := ⟨pe_imp h fun σ H Q ⟨W, st, r0, o⟩ => o W H u r0 Step.refl (r _)⟩
theorem ce_int {i j pos} : CE G X Wx (.Constant (.int i) j pos) (cC (.int i)) := ce_C pe_int fun _ => .int i
theorem ce_bl {i j pos} : CE G X Wx (.Constant (.bool i) j pos) (cC (.bl i)) := ce_C pe_bl fun _ => .bl i
theorem ce_non {j pos} : CE G X Wx (.Constant .none j pos) (cC .non) := ce_C pe_non fun _ => .non
theorem ce_str {i j pos} : CE G X Wx (.Constant (.str i) j pos) (cC (.str i)) := ce_C pe_str fun _ => .str i
theorem ce_var (i : Nat) (hN : X.N[i]? = some x := by rfl) (hv : Vis X.env.scope x := by first | exact Or.inl rfl | exact Or.inr (Or.inl rfl) | exact Or.inr (Or.inr rfl))
    (hd : (x == ("__debug__" : PySem.Str)) = false := by decide) (hcd : (x == ("__classdict__" : PySem.Str)) = false := by decide) : CE G X Wx (.Name x pos) (cVar i) := by
  refine ⟨pe_imp (pe_var hN hv hd hcd) fun σ H Q ⟨W, st, r, o⟩ => ?_⟩
  unfold cVar at o
  split at o
  · rename_i q hq
    obtain ⟨v, e1, k⟩ := r.loc.get hq
    exact ⟨v, e1, o W H v r Step.refl k⟩
  · rename_i c hq
    obtain ⟨v, e1, k⟩ := r.loc.get hq
    exact ⟨v, e1, o W H v r Step.refl e1⟩
  · rename_i n hq
    obtain ⟨v, e1, k⟩ := r.loc.get hq
    exact ⟨v, e1, o W H v r Step.refl k⟩
  · exact o.elim
theorem ce_glob {n : Nat} {f : Addr} (hg : Gl X x) (hm : X.mg x = some (.ref f)) (hf : G.fn n = f) (hd : (x == ("__debug__" : PySem.Str)) = false := by decide) : CE G X Wx (.Name x pos) (cC (.fn n)) :=
  ce_C (pe_glob (v := .ref f) hg hm rfl hd) fun _ => hf ▸ .fn n
theorem ce_globI {i : Int} {t : Tok} (hg : Gl X x) (hm : X.mg x = some (.int i t)) (hd : (x == ("__debug__" : PySem.Str)) = false := by decide) : CE G X Wx (.Name x pos) (cC (.int i)) :=
  ce_C (pe_glob (v := .int i) hg hm ⟨t, rfl⟩ hd) fun _ => .int i
theorem ce_globS {i : PySem.Str} {t : Tok} (hg : Gl X x) (hm : X.mg x = some (.str i t)) (hd : (x == ("__debug__" : PySem.Str)) = false := by decide) : CE G X Wx (.Name x pos) (cC (.str i)) :=
  ce_C (pe_glob (v := .str i) hg hm ⟨t, rfl⟩ hd) fun _ => .str i
theorem ca_nil : CA G X Wx [] cNil := ⟨pa_imp pa_nil fun σ H Q ⟨W, st, r, o⟩ => o W H [] r Step.refl .nil⟩
theorem ca_cons (ha : CE G X Wx e fa) (hr : CA G X Wx es fr) (hs : starEach (e :: es) X.env = (false, eval e X.env) :: starEach es X.env := by rfl) : CA G X Wx (e :: es) (cCons fa fr) := by
  refine ⟨pa_imp (pa_cons ha.pe hr.pa hs) fun σ H Q ⟨W, st, r0, o⟩ => ?_⟩
  refine tA_mono (tA_then (rel := RepS G) (rel' := RepSs G) r0 o) fun u H1 ⟨W1, st1, x, r1, _, _, q1, o1⟩ => ?_
  refine tA_mono (tA_then (rel := RepSs G) (rel' := RepSs G) r1 o1) fun vs H2 ⟨W2, st2, ys, r2, f2, a2, q2, o2⟩ => ?_
  exact o2 W2 H2 (u :: vs) r2 Step.refl (.cons (q1.mono f2 a2) q2)

def cTruth (fa : Cm SV) : Cm Bool := fun st => (fa st).bind fun x st1 => match x with
  | .t (.bl b) => .ok b st1
  | _ => .stuck
theorem ct_val (h : CE G X Wx e fa) (he : ∀ whole, isTrue e X.env whole = (do let v ← whole; standAt e.pos; holding [v] (truthy v)) := by intro _; rfl) : CT G X Wx e (cTruth fa) := by
  refine ⟨pt_imp (pt_val h.pe he) fun σ H Q q => ?_⟩
  refine tA_mono (tA_seq (rel := RepS G) (rel' := RepB) q) fun u H1 ⟨W1, st1, v, r1, q1, o⟩ => ?_
  split at o
  · rename_i b
    cases q1
    exact ⟨b, rfl, o W1 H1 b r1 Step.refl rfl⟩
  · exact o.elim
def cAnd (f g : Cm Bool) : Cm Bool := fun st => (f st).bind fun b st1 => if b = true then g st1 else .ok false st1
def cOr (f g : Cm Bool) : Cm Bool := fun st => (f st).bind fun b st1 => if b = true then .ok true st1 else g st1
def cNot (f : Cm Bool) : Cm Bool := fun st => (f st).bind fun b st1 => .ok (!b) st1
structure CW (G : Gd) (X : Cx) (Wx : WX) (e : Expr) (f : Cm Bool) : Prop where
  pw : PW X e (tT G Wx f)
theorem CW.ct {f : Cm Bool} (h : CW G X Wx e f) : CT G X Wx e f := ⟨h.pw.pt⟩
theorem pw_imp {t t' : TT} (h : PW X e t) (i : ∀ σ H Q, t' σ H Q → t σ H Q) : PW X e t' := ⟨fun wh pn s σ H Q I q => h.run wh pn s σ H Q I (i σ H Q q)⟩
variable {f g : Cm Bool} {rest : List Expr}
theorem cw_and1 (h : CT G X Wx a f) : CW G X Wx (.BoolOp .And [a] pos) f := ⟨pw_and1 h.pt⟩
theorem cw_or1 (h : CT G X Wx a f) : CW G X Wx (.BoolOp .Or [a] pos) f := ⟨pw_or1 h.pt⟩
theorem cw_and (ha : CT G X Wx a f) (hb : CW G X Wx (.BoolOp .And (b :: rest) pos) g) : CW G X Wx (.BoolOp .And (a :: b :: rest) pos) (cAnd f g) := by
  refine ⟨pw_imp (pw_and ha.pt hb.pw) fun σ H Q q => ?_⟩
  refine tA_mono (tA_seq (rel := RepB) (rel' := RepB) q) fun c H1 ⟨W1, st1, v, r1, q1, o⟩ => ?_
  cases q1
  cases c with
  | true => exact ⟨W1, st1, r1, o⟩
  | false => exact o W1 H1 false r1 Step.refl rfl
theorem cw_or (ha : CT G X Wx a f) (hb : CW G X Wx (.BoolOp .Or (b :: rest) pos) g) : CW G X Wx (.BoolOp .Or (a :: b :: rest) pos) (cOr f g) := by
  refine ⟨pw_imp (pw_or ha.pt hb.pw) fun σ H Q q => ?_⟩
  refine tA_mono (tA_seq (rel := RepB) (rel' := RepB) q) fun c H1 ⟨W1, st1, v, r1, q1, o⟩ => ?_
  cases q1
  cases c with
  | true => exact o W1 H1 true r1 Step.refl rfl
  | false => exact ⟨W1, st1, r1, o⟩
theorem ct_not (ha : CT G X Wx a f) : CT G X Wx (.UnaryOp .Not a pos) (cNot f) := by
  refine ⟨pt_imp (pt_not ha.pt) fun σ H Q q => ?_⟩
  refine tA_mono (tA_seq (rel := RepB) (rel' := RepB) q) fun c H1 ⟨W1, st1, v, r1, q1, o⟩ => ?_
  cases q1
  exact o W1 H1 (!c) r1 Step.refl rfl
def cAndV (fa fb : Cm SV) : Cm SV := fun st => (fa st).bind fun x st1 => match x with
  | .t (.bl true) => fb st1
  | .t (.bl false) => .ok (.t (.bl false)) st1
  | _ => .stuck
def cOrV (fa fb : Cm SV) : Cm SV := fun st => (fa st).bind fun x st1 => match x with
  | .t (.bl true) => .ok (.t (.bl true)) st1
  | .t (.bl false) => fb st1
  | _ => .stuck
def cNotV (fa : Cm SV) : Cm SV := fun st => (fa st).bind fun x st1 => match x with
  | .t (.bl c) => .ok (.t (.bl (!c))) st1
  | _ => .stuck
theorem ce_one {op} (h : CE G X Wx a fa) : CE G X Wx (.BoolOp op [a] pos) fa := ⟨pe_one h.pe⟩
theorem ce_and (ha : CE G X Wx a fa) (hb : CE G X Wx (.BoolOp .And (b :: rest) pos) fb) : CE G X Wx (.BoolOp .And (a :: b :: rest) pos) (cAndV fa fb) := by
  refine ⟨pe_imp (pe_and ha.pe hb.pe) fun σ H Q q => ?_⟩
  refine tA_mono (tA_seq (rel := RepS G) (rel' := RepS G) q) fun c H1 ⟨W1, st1, v, r1, q1, o⟩ => ?_
  split at o
  · cases q1; exact ⟨true, rfl, ⟨W1, st1, r1, o⟩⟩
  · cases q1; exact ⟨false, rfl, o W1 H1 _ r1 Step.refl (Rep.bl false)⟩
  · exact o.elim
theorem ce_or (ha : CE G X Wx a fa) (hb : CE G X Wx (.BoolOp .Or (b :: rest) pos) fb) : CE G X Wx (.BoolOp .Or (a :: b :: rest) pos) (cOrV fa fb) := by
  refine ⟨pe_imp (pe_or ha.pe hb.pe) fun σ H Q q => ?_⟩
  refine tA_mono (tA_seq (rel := RepS G) (rel' := RepS G) q) fun c H1 ⟨W1, st1, v, r1, q1, o⟩ => ?_
  split at o
  · cases q1; exact ⟨true, rfl, o W1 H1 _ r1 Step.refl (Rep.bl true)⟩
  · cases q1; exact ⟨false, rfl, ⟨W1, st1, r1, o⟩⟩
  · exact o.elim
theorem ce_not (ha : CE G X Wx a fa) : CE G X Wx (.UnaryOp .Not a pos) (cNotV fa) := by
  refine ⟨pe_imp (pe_not ha.pe) fun σ H Q q => ?_⟩
  refine tA_mono (tA_seq (rel := RepS G) (rel' := RepS G) q) fun c H1 ⟨W1, st1, v, r1, q1, o⟩ => ?_
  split at o
  · rename_i b; cases q1; exact ⟨b, rfl, o W1 H1 _ r1 Step.refl (Rep.bl (!b))⟩
  · exact o.elim
def cIf {α : Type} (t : Cm Bool) (f g : Cm α) : Cm α := fun st => (t st).bind fun b st1 => if b = true then f st1 else g st1
theorem ce_if {c : Expr} (hc : CT G X Wx c f) (ha : CE G X Wx a fa) (hb : CE G X Wx b fb) : CE G X Wx (.IfExp c a b pos) (cIf f fa fb) := by
  refine ⟨pe_imp (pe_ifExp hc.pt ha.pe hb.pe) fun σ H Q q => ?_⟩
  refine tA_mono (tA_seq (rel := RepB) (rel' := RepS G) q) fun c H1 ⟨W1, st1, v, r1, q1, o⟩ => ?_
  cases q1
  cases c with
  | true => exact ⟨W1, st1, r1, o⟩
  | false => exact ⟨W1, st1, r1, o⟩
end
end Cl
set_option Elab.async false
set_option linter.all false
set_option maxRecDepth 100000
set_option maxHeartbeats 4000000
namespace Cl
open PySem PySem.Spec PyProof.Rows L2

section
variable {X : Cx}
theorem opR_or {f : Value → Value → Sem Value} {r r' : R2} (h : OpR X f r) (h' : OpR X f r') : OpR X f fun x y H Q => r x y H Q ∨ r' x y H Q := by
  intro pn s g K x y v u Q I rx ry q
  rcases q with q | q
  · exact h pn s g K x y v u Q I rx ry q
  · exact h' pn s g K x y v u Q I rx ry q
theorem callR_or {f : Value} {r r' : List V → Hp → VK → Prop} (h : CallR X f r) (h' : CallR X f r') : CallR X f fun xs H Q => r xs H Q ∨ r' xs H Q := by
  intro pn s g K xs us Q I rx q
  rcases q with q | q
  · exact h pn s g K xs us Q I rx q
  · exact h' pn s g K xs us Q I rx q
theorem opR_false {f : Value → Value → Sem Value} : OpR X f fun _ _ _ _ => False := fun _ _ _ _ _ _ _ _ _ _ _ _ h => h.elim
end

mutual
def toD : PV → Option PyData
  | .non => some .none
  | .bl b => some (.bool b)
  | .int i => some (.int i)
  | .str x => some (.str x)
  | .lst xs => (toDs xs).map .list
  | .tup xs => (toDs xs).map .tuple
  | _ => none
def toDs : List PV → Option (List PyData)
  | [] => some []
  | x :: xs => (toD x).bind fun d => (toDs xs).map fun ds => d :: ds
end
section
variable {G : Gd} {K : PySem.W.Frag} {F H : Hp}
mutual
theorem dp_of (l : Same F H) : ∀ {p : PV} {v : V} {d : PyData}, Rep G F p v → toD p = some d → Dp K H v d
  | .non, _, _, .non, h => by simp [toD] at h; subst h; exact .non
  | .bl b, _, _, .bl _, h => by simp [toD] at h; subst h; exact .bl b
  | .int b, _, _, .int _, h => by simp [toD] at h; subst h; exact .int b
  | .str b, _, _, .str _, h => by simp [toD] at h; subst h; exact .str b
  | .lst xs, _, _, .lst r q, h => by
    simp only [toD, Option.map_eq_some_iff] at h
    obtain ⟨ds, e, rfl⟩ := h
    exact .lst (.inl (.inl (l _ _ r))) (dps_of l q e)
  | .tup xs, _, _, .tup r q, h => by
    simp only [toD, Option.map_eq_some_iff] at h
    obtain ⟨ds, e, rfl⟩ := h
    exact .tup (.inl (.inl (l _ _ r))) (dps_of l q e)
  | .dct _, _, _, _, h => by simp [toD] at h
  | .obj _ _, _, _, _, h => by simp [toD] at h
  | .ty _, _, _, _, h => by simp [toD] at h
  | .fn _, _, _, _, h => by simp [toD] at h
  | .scr _, _, _, _, h => by simp [toD] at h
theorem dps_of (l : Same F H) : ∀ {ps : List PV} {vs : List V} {ds : List PyData}, RepL G F ps vs → toDs ps = some ds → DpAll K H vs ds
  | [], _, _, .nil, h => by simp [toDs] at h; subst h; exact .nil
  | x :: xs, _, _, .cons r q, h => by
    obtain ⟨d, e1, h⟩ := Option.bind_eq_some_iff.mp h
    simp only [Option.map_eq_some_iff] at h
    obtain ⟨ds, e2, rfl⟩ := h
    exact .cons (dp_of l r e1) (dps_of l q e2)
end
theorem VRep.dp (l : Same F H) {p : PV} {v : V} {d : PyData} (r : VRep G F H p v) (h : toD p = some d) : Dp K H v d := by
  cases p with
  | non => cases r; simp [toD] at h; subst h; exact .non
  | bl b => cases r; simp [toD] at h; subst h; exact .bl b
  | int b => cases r; simp [toD] at h; subst h; exact .int b
  | str b => cases r; simp [toD] at h; subst h; exact .str b
  | lst xs =>
    obtain ⟨a, vs, rfl, rd, q⟩ := r
    simp only [toD, Option.map_eq_some_iff] at h
    obtain ⟨ds, e, rfl⟩ := h
    exact .lst (.inl (.inl rd)) (dps_of l q e)
  | tup xs =>
    obtain ⟨a, vs, rfl, rd, q⟩ := r
    simp only [toD, Option.map_eq_some_iff] at h
    obtain ⟨ds, e, rfl⟩ := h
    exact .tup (.inl (.inl (l _ _ rd))) (dps_of l q e)
  | dct _ => simp [toD] at h
  | obj _ _ => simp [toD] at h
  | ty _ => simp [toD] at h
  | fn _ => simp [toD] at h
  | scr _ => simp [toD] at h
end

def szOk (n : Nat) : Bool := decide (n ≤ 16777216)
theorem szOk_le {n : Nat} (h : szOk n = true) : n ≤ sizeLine := by rw [sizeLine_eq]; exact of_decide_eq_true h
def pAdd : PV → PV → Option PV
  | .int i, .int j => some (.int (i + j))
  | .lst xs, .lst ys => if szOk (xs.length + ys.length) then some (.lst (xs ++ ys)) else none
  | .tup xs, .tup ys => if szOk (xs.length + ys.length) then some (.tup (xs ++ ys)) else none
  | .str x, .str y => if szOk (x.length + y.length) then some (.str (x ++ y)) else none
  | _, _ => none
def pSub : PV → PV → Option PV
  | .int i, .int j => some (.int (i - j))
  | _, _ => none
def small64 (i : Int) : Bool := decide (i.natAbs < 18446744073709551616)
def pMul : PV → PV → Option PV
  | .int i, .int j => if small64 i || small64 j then some (.int (i * j)) else none
  | .lst xs, .int k => if decide (0 ≤ k) && (decide (k.natAbs < 4611686018427387904) && szOk (xs.length * k.toNat)) then some (.lst (List.replicate k.toNat xs).flatten) else none
  | _, _ => none
def pDiv : PV → PV → Option PV
  | .int i, .int j => if decide (0 < j) && decide (j.natAbs < 1073741824) then some (.int (i / j)) else none
  | _, _ => none
def pMod : PV → PV → Option PV
  | .int i, .int j => if decide (0 < j) then some (.int (i % j)) else none
  | _, _ => none
def pPow : PV → PV → Option PV
  | .int i, .int j => if decide (0 ≤ j) && (decide (j ≤ 1000000) && decide (i.natAbs < 2 ^ 64)) then some (.int (i ^ j.toNat)) else none
  | _, _ => none
def pNeg : PV → Option PV
  | .int i => some (.int (-i))
  | _ => none
def pCmp (f : Int → Int → Bool) : PV → PV → Option PV
  | .int i, .int j => some (.bl (f i j))
  | _, _ => none
abbrev pLt := pCmp fun i j => decide (i < j)
abbrev pLe := pCmp fun i j => decide (i ≤ j)
abbrev pGt := pCmp fun i j => decide (j < i)
abbrev pGe := pCmp fun i j => decide (j ≤ i)
def dEq (d e : PyData) : Option Bool := if SeqAt.shaped d && SeqAt.shaped e then some (PyData.eqv d e) else none
def pEqB : PV → PV → Option Bool
  | .str x, .str y => some (decide (x = y))
  | p, q => (toD p).bind fun d => (toD q).bind fun e => dEq d e
def pEq (p q : PV) : Option PV := (pEqB p q).map .bl
def pNe (p q : PV) : Option PV := (pEqB p q).map fun b => .bl (!b)

section
variable {G : Gd} {X : Cx}
def rAdds (K : PySem.W.Frag) : R2 := fun x y H Q => (rI0 (fun i j => .int (i + j)) x y H Q ∨ rCat x y H Q) ∨ (rCatA K x y H Q ∨ ∃ i j, x = .str i ∧ y = .str j ∧ i.length + j.length ≤ sizeLine ∧ Q (.str (i ++ j)) H)
theorem op_adds : OpR X (binaryOp .Add) (rAdds X.K) := opR_or (opR_or op_add op_cat) (opR_or op_catA op_add_str)
theorem snd_add {K : PySem.W.Frag} : Snd2 G (rAdds K) pAdd := by
  intro W st σ H p q z u v Q r a b e g
  unfold pAdd at e
  split at e
  · cases e; cases a; cases b
    exact .inl (.inl ⟨_, _, rfl, rfl, g.here r (.int _)⟩)
  · split at e
    · rename_i xs ys hz
      cases e
      obtain ⟨a1, v1, rfl, d1, l1⟩ := a
      obtain ⟨a2, v2, rfl, d2, l2⟩ := b
      exact .inl (.inr ⟨_, _, _, _, rfl, rfl, d1, d2, by rw [← l1.length, ← l2.length]; exact szOk_le hz, g.lst r (l1.append l2)⟩)
    · cases e
  · split at e
    · rename_i xs ys hz
      cases e
      obtain ⟨a1, v1, rfl, d1, l1⟩ := a
      obtain ⟨a2, v2, rfl, d2, l2⟩ := b
      refine .inr (.inl ⟨_, _, _, _, rfl, rfl, .inl (.inl (r.le _ _ d1)), .inl (.inl (r.le _ _ d2)), by rw [← l1.length, ← l2.length]; exact szOk_le hz, fun e1 => ?_, fun _ e2 => ?_, fun _ _ => g.tup r (l1.append l2)⟩)
      · subst e1; cases l1; exact g.here r (.tup d2 l2)
      · subst e2; cases l2; rw [List.append_nil] at g; exact g.here r (.tup d1 l1)
    · cases e
  · split at e
    · rename_i xs ys hz
      cases e; cases a; cases b
      exact .inr (.inr ⟨_, _, rfl, rfl, szOk_le hz, g.here r (.str _)⟩)
    · cases e
  · cases e
theorem snd_sub : Snd2 G (rI0 fun i j => .int (i - j)) pSub := by
  intro W st σ H p q z u v Q r a b e g
  unfold pSub at e
  split at e
  · cases e; cases a; cases b
    exact ⟨_, _, rfl, rfl, g.here r (.int _)⟩
  · cases e
theorem small64_p {i : Int} (h : small64 i = true) : -(2 ^ 64) < i ∧ i < 2 ^ 64 := by
  have := of_decide_eq_true h
  omega
def rMuls : R2 := fun x y H Q => rI CMul (fun i j => .int (i * j)) x y H Q ∨ rRep x y H Q
theorem op_muls : OpR X (binaryOp .Mult) rMuls := opR_or op_mul op_rep
theorem RepL.rep {F : Hp} {ps : List PV} {vs : List V} (h : RepL G F ps vs) : ∀ k : Nat, RepL G F (List.replicate k ps).flatten (List.replicate k vs).flatten
  | 0 => .nil
  | k + 1 => by
    rw [List.replicate_succ, List.replicate_succ, List.flatten_cons, List.flatten_cons]
    exact h.append (RepL.rep h k)
theorem snd_mul : Snd2 G rMuls pMul := by
  intro W st σ H p q z u v Q r a b e g
  unfold pMul at e
  split at e
  · split at e
    · rename_i hz
      cases e; cases a; cases b
      refine .inl ⟨_, _, rfl, rfl, ?_, g.here r (.int _)⟩
      rcases Bool.or_eq_true_iff.mp hz with h | h
      · exact .inl (small64_p h)
      · exact .inr (small64_p h)
    · cases e
  · split at e
    · rename_i xs k hz
      cases e; cases b
      obtain ⟨a1, v1, rfl, d1, l1⟩ := a
      simp only [Bool.and_eq_true, decide_eq_true_eq] at hz
      obtain ⟨h0, h1, h2⟩ := hz
      exact .inr ⟨_, _, _, rfl, rfl, d1, by omega, by omega, by rw [← l1.length]; exact szOk_le h2, g.lst r (l1.rep _)⟩
    · cases e
  · cases e
theorem snd_div : Snd2 G (rI CDiv fun i j => .int (i / j)) pDiv := by
  intro W st σ H p q z u v Q r a b e g
  unfold pDiv at e
  split at e
  · split at e
    · rename_i hz
      cases e; cases a; cases b
      simp only [Bool.and_eq_true, decide_eq_true_eq] at hz
      exact ⟨_, _, rfl, rfl, ⟨hz.1, by have := hz.2; omega⟩, g.here r (.int _)⟩
    · cases e
  · cases e
theorem snd_mod : Snd2 G (rI (fun _ j => 0 < j) fun i j => .int (i % j)) pMod := by
  intro W st σ H p q z u v Q r a b e g
  unfold pMod at e
  split at e
  · split at e
    · rename_i hz
      cases e; cases a; cases b
      exact ⟨_, _, rfl, rfl, of_decide_eq_true hz, g.here r (.int _)⟩
    · cases e
  · cases e
theorem snd_pow : Snd2 G (rI CPow fun i j => .int (i ^ j.toNat)) pPow := by
  intro W st σ H p q z u v Q r a b e g
  unfold pPow at e
  split at e
  · split at e
    · rename_i hz
      cases e; cases a; cases b
      simp only [Bool.and_eq_true, decide_eq_true_eq] at hz
      exact ⟨_, _, rfl, rfl, hz, g.here r (.int _)⟩
    · cases e
  · cases e
theorem snd_neg : Snd1 G (rU fun i => .int (-i)) pNeg := by
  intro W st σ H p z u Q r a e g
  unfold pNeg at e
  split at e
  · cases e; cases a
    exact ⟨_, rfl, g.here r (.int _)⟩
  · cases e
theorem snd_cmp (f : Int → Int → Bool) : Snd2 G (rI0 fun i j => .bl (f i j)) (pCmp f) := by
  intro W st σ H p q z u v Q r a b e g
  unfold pCmp at e
  split at e
  · cases e; cases a; cases b
    exact ⟨_, _, rfl, rfl, g.here r (.bl _)⟩
  · cases e

def rEqs (K : PySem.W.Frag) (k : Bool → Bool) (r : R2) : R2 := fun x y H Q => r x y H Q ∨ ∃ d e, Dp K H x d ∧ Dp K H y e ∧ SeqAt.shaped d = true ∧ SeqAt.shaped e = true ∧ Q (.bl (k (PyData.eqv d e))) H
theorem op_eqs (hu : X.A.units + 64 < cLine) : OpR X (compareOp .Eq) (rEqs X.K id rEq) := opR_or op_eq (op_eqD hu)
theorem op_nes (hu : X.A.units + 64 < cLine) : OpR X (compareOp .NotEq) (rEqs X.K not rNe) := opR_or op_ne (op_neD hu)
theorem dEq_p {d e : PyData} {b : Bool} (h : dEq d e = some b) : SeqAt.shaped d = true ∧ SeqAt.shaped e = true ∧ PyData.eqv d e = b := by
  unfold dEq at h
  split at h
  · rename_i q
    obtain ⟨q1, q2⟩ := Bool.and_eq_true_iff.mp q
    exact ⟨q1, q2, Option.some.inj h⟩
  · cases h
theorem pEqB_p {K : PySem.W.Frag} {F H : Hp} (l : Same F H) {p q : PV} {u v : V} {c : Bool} (a : VRep G F H p u) (b : VRep G F H q v) (h : pEqB p q = some c) :
    (scal u v = true ∧ decide (u = v) = c) ∨ ∃ d e, Dp K H u d ∧ Dp K H v e ∧ SeqAt.shaped d = true ∧ SeqAt.shaped e = true ∧ PyData.eqv d e = c := by
  unfold pEqB at h
  split at h
  · rename_i x y
    cases a; cases b
    refine .inl ⟨rfl, ?_⟩
    have e := Option.some.inj h
    rw [← e, Bool.eq_iff_iff]
    simp
  · obtain ⟨d, e1, h⟩ := Option.bind_eq_some_iff.mp h
    obtain ⟨e, e2, h⟩ := Option.bind_eq_some_iff.mp h
    obtain ⟨h1, h2, h3⟩ := dEq_p h
    exact .inr ⟨d, e, a.dp l e1, b.dp l e2, h1, h2, h3⟩
theorem snd_eq {K : PySem.W.Frag} : Snd2 G (rEqs K id rEq) pEq := by
  intro W st σ H p q z u v Q r a b e g
  unfold pEq at e
  simp only [Option.map_eq_some_iff] at e
  obtain ⟨c, e, rfl⟩ := e
  rcases pEqB_p (K := K) r.le a b e with ⟨h1, h2⟩ | ⟨d, e, d1, d2, s1, s2, h⟩
  · exact .inl ⟨h1, by rw [h2]; exact g.here r (.bl _)⟩
  · exact .inr ⟨d, e, d1, d2, s1, s2, by rw [h]; exact g.here r (.bl _)⟩
theorem snd_ne {K : PySem.W.Frag} : Snd2 G (rEqs K not rNe) pNe := by
  intro W st σ H p q z u v Q r a b e g
  unfold pNe at e
  simp only [Option.map_eq_some_iff] at e
  obtain ⟨c, e, rfl⟩ := e
  rcases pEqB_p (K := K) r.le a b e with ⟨h1, h2⟩ | ⟨d, e, d1, d2, s1, s2, h⟩
  · exact .inl ⟨h1, by rw [h2]; exact g.here r (.bl _)⟩
  · exact .inr ⟨d, e, d1, d2, s1, s2, by rw [h]; exact g.here r (.bl _)⟩
end
end Cl
set_option Elab.async false
set_option linter.all false
set_option maxRecDepth 100000
set_option maxHeartbeats 4000000
namespace Cl
open PySem PySem.Spec PyProof.Rows L2

section
variable {G : Gd} {X : Cx} {Wx : WX} {a b c e : Expr} {es : List Expr} {pos p : Pos} {fa fb fc : Cm SV} {fs : Cm (List SV)} {f f' : PV → PV → Option PV}
theorem ce_op {op : Operator} {r : R2} (ho : OpR X (binaryOp op) r) (hs : Snd2 G r f) (ha : CE G X Wx a fa) (hb : CE G X Wx b fb) : CE G X Wx (.BinOp a op b pos) (cBin f fa fb) :=
  ⟨pe_imp (pe_op ho ha.pe hb.pe) fun σ H Q q => bin_step hs q⟩
theorem ce_add (ha : CE G X Wx a fa) (hb : CE G X Wx b fb) : CE G X Wx (.BinOp a .Add b pos) (cBin pAdd fa fb) := ce_op op_adds snd_add ha hb
theorem ce_sub (ha : CE G X Wx a fa) (hb : CE G X Wx b fb) : CE G X Wx (.BinOp a .Sub b pos) (cBin pSub fa fb) := ce_op op_sub snd_sub ha hb
theorem ce_mul (ha : CE G X Wx a fa) (hb : CE G X Wx b fb) : CE G X Wx (.BinOp a .Mult b pos) (cBin pMul fa fb) := ce_op op_muls snd_mul ha hb
theorem ce_div (ha : CE G X Wx a fa) (hb : CE G X Wx b fb) : CE G X Wx (.BinOp a .FloorDiv b pos) (cBin pDiv fa fb) := ce_op op_fdiv snd_div ha hb
theorem ce_mod (ha : CE G X Wx a fa) (hb : CE G X Wx b fb) : CE G X Wx (.BinOp a .Mod b pos) (cBin pMod fa fb) := ce_op op_mod snd_mod ha hb
theorem ce_pow (ha : CE G X Wx a fa) (hb : CE G X Wx b fb) : CE G X Wx (.BinOp a .Pow b pos) (cBin pPow fa fb) := ce_op op_pow snd_pow ha hb
theorem ce_neg (ha : CE G X Wx a fa) : CE G X Wx (.UnaryOp .USub a pos) (cUn pNeg fa) := ⟨pe_imp (pe_un un_neg ha.pe) fun σ H Q q => un_step snd_neg q⟩

structure CmpR (G : Gd) (X : Cx) (op : CmpOp) (f : PV → PV → Option PV) : Prop where
  ex : ∃ r, OpR X (compareOp op) r ∧ Snd2 G r f
theorem cm_lt : CmpR G X .Lt pLt := ⟨_, opB0 fun _ _ _ _ _ _ _ q => lt_int q, snd_cmp _⟩
theorem cm_le : CmpR G X .LtE pLe := ⟨_, opB0 fun _ _ _ _ _ _ _ q => le_int q, snd_cmp _⟩
theorem cm_gt : CmpR G X .Gt pGt := ⟨_, opB0 fun _ _ _ _ _ _ _ q => gt_int q, snd_cmp _⟩
theorem cm_ge : CmpR G X .GtE pGe := ⟨_, opB0 fun _ _ _ _ _ _ _ q => ge_int q, snd_cmp _⟩
theorem cm_eq (hu : X.A.units + 64 < cLine) : CmpR G X .Eq pEq := ⟨_, op_eqs hu, snd_eq⟩
theorem cm_ne (hu : X.A.units + 64 < cLine) : CmpR G X .NotEq pNe := ⟨_, op_nes hu, snd_ne⟩
theorem ce_cmp {op : CmpOp} (hc : CmpR G X op f) (ha : CE G X Wx a fa) (hb : CE G X Wx b fb) (hm : behindInMarks op b = false) : CE G X Wx (.Compare a [op] [b] pos) (cBin f fa fb) := by
  obtain ⟨r, ho, hs⟩ := hc.ex
  exact ⟨pe_imp (pe_cmpR ho ha.pe hb.pe hm) fun σ H Q q => bin_step hs q⟩
theorem truth_step {σ : Sg} {H : Hp} {Q : Bool → Hp → Prop} (q : tT G Wx (cTruth fa) σ H Q) : tE G Wx fa σ H fun x H' => ∃ k, x = .bl k ∧ Q k H' := by
  refine tA_mono (tA_seq (rel := RepS G) (rel' := RepB) q) fun u H1 ⟨W1, st1, v, r1, q1, o⟩ => ?_
  split at o
  · rename_i k
    cases q1
    exact ⟨k, rfl, o W1 H1 k r1 Step.refl rfl⟩
  · exact o.elim
theorem ct_cmp {op : CmpOp} (hc : CmpR G X op f) (ha : CE G X Wx a fa) (hb : CE G X Wx b fb) (hm : behindInMarks op b = false) : CT G X Wx (.Compare a [op] [b] pos) (cTruth (cBin f fa fb)) := by
  obtain ⟨r, ho, hs⟩ := hc.ex
  exact ⟨pt_imp (pt_cmpR ho ha.pe hb.pe hm) fun σ H Q q => bin_step hs (truth_step q)⟩
def cChain (f f' : PV → PV → Option PV) (fa fb fc : Cm SV) : Cm SV := fun st => (fa st).bind fun x st1 => (fb st1).bind fun y st2 =>
  match (view st2 x).bind fun p => (view st2 y).bind fun q => f p q with
  | some (.bl true) => (fc st2).bind fun z st3 => ofO st3 ((view st3 y).bind fun p => (view st3 z).bind fun q => f' p q)
  | some (.bl false) => .ok (.t (.bl false)) st2
  | _ => .stuck
theorem chain_step {r r' : R2} (hs : Snd2 G r f) (hs' : Snd2 G r' f') {σ : Sg} {H : Hp} {Q : VK} (h : tE G Wx (cChain f f' fa fb fc) σ H Q) : tChain r r' (tE G Wx fa) (tE G Wx fb) (tE G Wx fc) σ H Q := by
  obtain ⟨W, st, r0, o⟩ := h
  refine tA_mono (tA_then (rel := RepS G) (rel' := RepS G) r0 o) fun u H1 ⟨W1, st1, x, r1, _, _, q1, o1⟩ => ?_
  refine tA_mono (tA_then (rel := RepS G) (rel' := RepS G) r1 o1) fun v H2 ⟨W2, st2, y, r2, f2, a2, q2, o2⟩ => ?_
  have q1' := q1.mono f2 a2
  split at o2
  · rename_i hz
    obtain ⟨p, e1, hz⟩ := Option.bind_eq_some_iff.mp hz
    obtain ⟨q, e2, e3⟩ := Option.bind_eq_some_iff.mp hz
    refine hs W2 st2 σ H2 p q _ u v _ r2 (r2.view q1' e1) (r2.view q2 e2) e3 fun W3 H3 w r3 s3 k3 => ?_
    cases k3
    refine ⟨true, rfl, ?_⟩
    rw [if_pos rfl]
    refine tA_mono (tA_then (rel := RepS G) (rel' := RepS G) r3 (OutA.from o2 s3)) fun t H4 ⟨W4, st4, z, r4, f4, a4, q4, o4⟩ => ?_
    obtain ⟨zz, e, g⟩ := ofO_some o4
    obtain ⟨p', d1, e⟩ := Option.bind_eq_some_iff.mp e
    obtain ⟨q', d2, d3⟩ := Option.bind_eq_some_iff.mp e
    exact hs' W4 st4 σ H4 p' q' zz v t Q r4 (r4.view ((q2.mono s3.f s3.a).mono f4 a4) d1) (r4.view q4 d2) d3 g
  · rename_i hz
    obtain ⟨p, e1, hz⟩ := Option.bind_eq_some_iff.mp hz
    obtain ⟨q, e2, e3⟩ := Option.bind_eq_some_iff.mp hz
    refine hs W2 st2 σ H2 p q _ u v _ r2 (r2.view q1' e1) (r2.view q2 e2) e3 fun W3 H3 w r3 s3 k3 => ?_
    cases k3
    exact ⟨false, rfl, o2 W3 H3 (.bl false) r3 s3 (Rep.bl false)⟩
  · exact o2.elim
theorem ce_chain {op op' : CmpOp} (h1 : CmpR G X op f) (h2 : CmpR G X op' f') (ha : CE G X Wx a fa) (hb : CE G X Wx b fb) (hc : CE G X Wx c fc) (hm : lastMarks [op, op'] [b, c] = false := by with_unfolding_all rfl) :
    CE G X Wx (.Compare a [op, op'] [b, c] pos) (cChain f f' fa fb fc) := by
  obtain ⟨r, ho, hs⟩ := h1.ex
  obtain ⟨r', ho', hs'⟩ := h2.ex
  exact ⟨pe_imp (pe_chain ho ho' ha.pe hb.pe hc.pe hm) fun σ H Q q => chain_step hs hs' q⟩
theorem ct_chain {op op' : CmpOp} (h1 : CmpR G X op f) (h2 : CmpR G X op' f') (ha : CE G X Wx a fa) (hb : CE G X Wx b fb) (hc : CE G X Wx c fc) (hm : lastMarks [op, op'] [b, c] = false := by with_unfolding_all rfl) :
    CT G X Wx (.Compare a [op, op'] [b, c] pos) (cTruth (cChain f f' fa fb fc)) := by
  obtain ⟨r, ho, hs⟩ := h1.ex
  obtain ⟨r', ho', hs'⟩ := h2.ex
  exact ⟨pt_imp (pt_chain ho ho' ha.pe hb.pe hc.pe hm) fun σ H Q q => chain_step hs hs' (truth_step q)⟩

def pIsN : PV → Option PV
  | .non => some (.bl true)
  | _ => some (.bl false)
def pNotN : PV → Option PV
  | .non => some (.bl false)
  | _ => some (.bl true)
theorem isN_vrep {F H : Hp} {q : PV} {v : V} (h : VRep G F H q v) : (decide (v = .non)) = (match q with | .non => true | _ => false) := by
  cases q with
  | non => cases h; rfl
  | bl _ => cases h; rfl
  | int _ => cases h; rfl
  | str _ => cases h; rfl
  | ty _ => cases h; rfl
  | fn _ => cases h; rfl
  | lst _ => obtain ⟨_, _, rfl, _⟩ := h; rfl
  | tup _ => obtain ⟨_, _, rfl, _⟩ := h; rfl
  | dct _ => obtain ⟨_, _, rfl, _⟩ := h; rfl
  | obj _ _ => obtain ⟨_, _, _, rfl, _⟩ := h; rfl
  | scr _ => obtain ⟨_, _, rfl, _⟩ := h; rfl
theorem isN_step {σ : Sg} {H : Hp} {Q : VK} (h : tE G Wx (cUn pIsN fa) σ H Q) : tIsN (tE G Wx fa) σ H Q := by
  refine tA_mono (tA_seq (rel := RepS G) (rel' := RepS G) h) fun u H1 ⟨W1, st1, v, r1, q1, o⟩ => ?_
  obtain ⟨z, e, g⟩ := ofO_some o
  obtain ⟨p, e1, e2⟩ := Option.bind_eq_some_iff.mp e
  rw [isN_vrep (r1.view q1 e1)]
  cases p <;> (cases e2; exact g.here r1 (.bl _))
theorem notN_step {σ : Sg} {H : Hp} {Q : VK} (h : tE G Wx (cUn pNotN fa) σ H Q) : tNotN (tE G Wx fa) σ H Q := by
  refine tA_mono (tA_seq (rel := RepS G) (rel' := RepS G) h) fun u H1 ⟨W1, st1, v, r1, q1, o⟩ => ?_
  obtain ⟨z, e, g⟩ := ofO_some o
  obtain ⟨p, e1, e2⟩ := Option.bind_eq_some_iff.mp e
  rw [isN_vrep (r1.view q1 e1)]
  cases p <;> (cases e2; exact g.here r1 (.bl _))
theorem ce_isN {j pos'} (ha : CE G X Wx a fa) : CE G X Wx (.Compare a [.Is] [.Constant .none j pos'] pos) (cUn pIsN fa) := ⟨pe_imp (pe_cmp (pc_isN ha.pe) rfl) fun σ H Q q => isN_step q⟩
theorem ce_notN {j pos'} (ha : CE G X Wx a fa) : CE G X Wx (.Compare a [.IsNot] [.Constant .none j pos'] pos) (cUn pNotN fa) := ⟨pe_imp (pe_cmp (pc_notN ha.pe) rfl) fun σ H Q q => notN_step q⟩
theorem ct_isN {j pos'} (ha : CE G X Wx a fa) : CT G X Wx (.Compare a [.Is] [.Constant .none j pos'] pos) (cTruth (cUn pIsN fa)) := ⟨pt_imp (pt_cmp (pc_isN ha.pe) rfl) fun σ H Q q => isN_step (truth_step q)⟩
theorem ct_notN {j pos'} (ha : CE G X Wx a fa) : CT G X Wx (.Compare a [.IsNot] [.Constant .none j pos'] pos) (cTruth (cUn pNotN fa)) := ⟨pt_imp (pt_cmp (pc_notN ha.pe) rfl) fun σ H Q q => notN_step (truth_step q)⟩
def pIsB : PV → PV → Option PV
  | .bl x, .bl y => some (.bl (decide (x = y)))
  | _, _ => none
def pNotB : PV → PV → Option PV
  | .bl x, .bl y => some (.bl (!decide (x = y)))
  | _, _ => none
theorem cm_isB : CmpR G X .Is pIsB := ⟨_, op_isBl, by
  intro W st σ H p q z u v Q r a b e g
  unfold pIsB at e
  split at e
  · cases e; cases a; cases b; exact ⟨_, _, rfl, rfl, g.here r (.bl _)⟩
  · cases e⟩
theorem cm_notB : CmpR G X .IsNot pNotB := ⟨_, op_notBl, by
  intro W st σ H p q z u v Q r a b e g
  unfold pNotB at e
  split at e
  · cases e; cases a; cases b; exact ⟨_, _, rfl, rfl, g.here r (.bl _)⟩
  · cases e⟩

def dIn (d : PyData) (ds : List PyData) : Option Bool := if SeqAt.shaped d && SeqAt.shaped (.list ds) then some (ds.any fun z => PyData.eqv z d) else none
def pInB : PV → PV → Option Bool
  | p, .lst xs => (toD p).bind fun d => (toDs xs).bind fun ds => dIn d ds
  | p, .tup xs => (toD p).bind fun d => (toDs xs).bind fun ds => dIn d ds
  | .str x, .str y => some (!(Builtin.Str.occurrences y x 0 y.length 1).isEmpty)
  | _, _ => none
def pIn (p q : PV) : Option PV := (pInB p q).map .bl
def pNotIn (p q : PV) : Option PV := (pInB p q).map fun b => .bl (!b)
def rInT (K : PySem.W.Frag) (k : Bool → Bool) : R2 := fun x y H Q => ∃ d ds, Dp K H x d ∧ Dp K H y (.tuple ds) ∧ SeqAt.shaped d = true ∧ SeqAt.shaped (.list ds) = true ∧ Q (.bl (k (ds.any fun z => PyData.eqv z d))) H
theorem op_inT (hu : X.A.units + 65 < cLine) : OpR X (compareOp .In) (rInT X.K id) := by
  intro pn s g H x y v u Q I rx ry ⟨d, ds, hd, he, sd, se, q⟩
  obtain ⟨as, r1⟩ := Dp.reads I d x v hd rx
  obtain ⟨bs, r2⟩ := Dp.reads I (.tuple ds) y u he ry
  exact SeqAt.in_tuple_reads r2 r1 (by have := SeqAt.canLay_of_shaped se; simpa [PyData.canLay0] using this) (SeqAt.canLay_of_shaped sd) (room_in_shaped sd hu) ⟨.bl _, H, I, rfl, q⟩
theorem op_notInT (hu : X.A.units + 65 < cLine) : OpR X (compareOp .NotIn) (rInT X.K not) := by
  intro pn s g H x y v u Q I rx ry ⟨d, ds, hd, he, sd, se, q⟩
  obtain ⟨as, r1⟩ := Dp.reads I d x v hd rx
  obtain ⟨bs, r2⟩ := Dp.reads I (.tuple ds) y u he ry
  exact SeqAt.notIn_tuple_reads r2 r1 (by have := SeqAt.canLay_of_shaped se; simpa [PyData.canLay0] using this) (SeqAt.canLay_of_shaped sd) (room_in_shaped sd hu) ⟨.bl _, H, I, rfl, q⟩
def rIns (K : PySem.W.Frag) (k : Bool → Bool) (rs : R2) : R2 := fun x y H Q => rs x y H Q ∨ (rInT K k x y H Q ∨ ∃ d ds, Dp K H x d ∧ Dp K H y (.list ds) ∧ SeqAt.shaped d = true ∧ SeqAt.shaped (.list ds) = true ∧ Q (.bl (k (ds.any fun z => PyData.eqv z d))) H)
def rInSt (k : Bool → Bool) : R2 := fun x y H Q => ∃ i j, x = .str i ∧ y = .str j ∧ Q (.bl (k (!(Builtin.Str.occurrences j i 0 j.length 1).isEmpty))) H
theorem op_ins (hu : X.A.units + 65 < cLine) : OpR X (compareOp .In) (rIns X.K id (rInSt id)) := opR_or op_in_str (opR_or (op_inT hu) (op_inD hu))
theorem op_notIns (hu : X.A.units + 65 < cLine) : OpR X (compareOp .NotIn) (rIns X.K not (rInSt not)) := opR_or op_notIn_str (opR_or (op_notInT hu) (op_notInD hu))
theorem dIn_p {d : PyData} {ds : List PyData} {b : Bool} (h : dIn d ds = some b) : SeqAt.shaped d = true ∧ SeqAt.shaped (.list ds) = true ∧ (ds.any fun z => PyData.eqv z d) = b := by
  unfold dIn at h
  split at h
  · rename_i q
    obtain ⟨q1, q2⟩ := Bool.and_eq_true_iff.mp q
    exact ⟨q1, q2, Option.some.inj h⟩
  · cases h
theorem snd_in_any {K : PySem.W.Frag} (k : Bool → Bool) : Snd2 G (rIns K k (rInSt k)) fun p q => (pInB p q).map fun b => .bl (k b) := by
  intro W st σ H p q z u v Q r a b e g
  simp only [Option.map_eq_some_iff] at e
  obtain ⟨c, e, rfl⟩ := e
  unfold pInB at e
  split at e
  · obtain ⟨d, e1, e⟩ := Option.bind_eq_some_iff.mp e
    obtain ⟨ds, e2, e⟩ := Option.bind_eq_some_iff.mp e
    obtain ⟨h1, h2, h3⟩ := dIn_p e
    refine .inr (.inr ⟨d, ds, a.dp r.le e1, b.dp r.le (by simp [toD, e2]), h1, h2, ?_⟩)
    rw [h3]; exact g.here r (.bl _)
  · obtain ⟨d, e1, e⟩ := Option.bind_eq_some_iff.mp e
    obtain ⟨ds, e2, e⟩ := Option.bind_eq_some_iff.mp e
    obtain ⟨h1, h2, h3⟩ := dIn_p e
    refine .inr (.inl ⟨d, ds, a.dp r.le e1, b.dp r.le (by simp [toD, e2]), h1, h2, ?_⟩)
    rw [h3]; exact g.here r (.bl _)
  · cases a; cases b
    refine .inl ⟨_, _, rfl, rfl, ?_⟩
    rw [Option.some.inj e]; exact g.here r (.bl _)
  · cases e
theorem cm_in (hu : X.A.units + 65 < cLine) : CmpR G X .In pIn := ⟨_, op_ins hu, snd_in_any id⟩
theorem cm_notIn (hu : X.A.units + 65 < cLine) : CmpR G X .NotIn pNotIn := ⟨_, op_notIns hu, snd_in_any not⟩
def trees : List SV → Option (List PV)
  | [] => some []
  | .t p :: xs => (trees xs).map fun ps => p :: ps
  | .pl _ :: _ => none
theorem trees_rep {W : Wd} {σ : Sg} : ∀ {xs : List SV} {vs : List V} {ps : List PV}, RepSs G W σ xs vs → trees xs = some ps → RepL G W.F ps vs
  | _, _, _, .nil, e => by simp [trees] at e; subst e; exact .nil
  | .t p :: xs, _, _, .cons q l, e => by
    simp only [trees, Option.map_eq_some_iff] at e
    obtain ⟨ps, e, rfl⟩ := e
    exact .cons q (trees_rep l e)
  | .pl _ :: _, _, _, .cons _ _, e => by cases e
def cDisp (k : List PV → PV) (fs : Cm (List SV)) : Cm SV := fun st => (fs st).bind fun xs st1 => ofO st1 ((trees xs).bind fun ps => if szOk ps.length then some (k ps) else none)
theorem disp_step {k : List PV → PV} {r : List V → HO} (hk : ∀ {W : Wd} {st : ST} {σ : Sg} {H : Hp} {ps : List PV} {vs : List V} {Q : VK}, Gv G W st σ H (k ps) Q → R G W st σ H → RepL G W.F ps vs → ∀ p, H p = none → Q (.ref p) (upd H p (r vs)))
    {σ : Sg} {H : Hp} {Q : VK} (h : tE G Wx (cDisp k fs) σ H Q) : tL G Wx fs σ H fun vs H1 => vs.length ≤ sizeLine ∧ ∀ p, H1 p = none → Q (.ref p) (upd H1 p (r vs)) := by
  refine tA_mono (tA_seq (rel := RepSs G) (rel' := RepS G) h) fun us H1 ⟨W1, st1, v, r1, q1, o⟩ => ?_
  obtain ⟨z, e, g⟩ := ofO_some o
  obtain ⟨ps, e1, e2⟩ := Option.bind_eq_some_iff.mp e
  have l := trees_rep q1 e1
  split at e2
  · rename_i hz
    cases e2
    exact ⟨by rw [← l.length]; exact szOk_le hz, hk g r1 l⟩
  · cases e2
theorem ce_lst (h : CA G X Wx es fs) : CE G X Wx (.List es pos) (cDisp .lst fs) := ⟨pe_imp (pe_lst h.pa) fun σ H Q q => disp_step (r := .lst) (fun g r l => g.lst r l) q⟩
theorem ce_tup {k} (h : CA G X Wx es fs) : CE G X Wx (.Tuple es k pos) (cDisp .tup fs) := ⟨pe_imp (pe_tup h.pa) fun σ H Q q => disp_step (r := .tup) (fun g r l => g.tup r l) q⟩

def pIx : PV → PV → Option PV
  | .lst xs, .int i => atI xs i
  | .tup xs, .int i => atI xs i
  | .str x, .int i => if szOk x.length then (atI x.cps.toList i).map fun c => .str ⟨#[c]⟩ else none
  | .scr ns, .int i => (atI ns i).map .int
  | _, _ => none
theorem atI_rep {F : Hp} {ps : List PV} {vs : List V} {i : Int} {z : PV} (l : RepL G F ps vs) (h : atI ps i = some z) : ∃ v, atI vs i = some v ∧ Rep G F z v := by
  unfold atI at h ⊢
  obtain ⟨j, e1, e2⟩ := Option.bind_eq_some_iff.mp h
  obtain ⟨v, e3, q⟩ := l.get e2
  exact ⟨v, by rw [← l.length, e1]; exact e3, q⟩
theorem snd_ix {K : PySem.W.Frag} : Snd2 G (rIx K) pIx := by
  intro W st σ H p q z u v Q r a b e g
  unfold pIx at e
  split at e
  · cases b
    obtain ⟨a1, vs, rfl, d, l⟩ := a
    obtain ⟨w, e1, k⟩ := atI_rep l e
    exact .inl ⟨a1, vs, _, w, rfl, rfl, .inl (.inl d), e1, g.here r k⟩
  · cases b
    obtain ⟨a1, vs, rfl, d, l⟩ := a
    obtain ⟨w, e1, k⟩ := atI_rep l e
    exact .inr (.inl ⟨a1, vs, _, w, rfl, rfl, .inl (.inl (r.le _ _ d)), e1, g.here r k⟩)
  · split at e
    · rename_i hz
      cases a; cases b
      simp only [Option.map_eq_some_iff] at e
      obtain ⟨c, e, rfl⟩ := e
      exact .inr (.inr ⟨_, _, c, rfl, rfl, szOk_le hz, e, g.here r (.str _)⟩)
    · cases e
  · cases b
    rename_i ns i
    obtain ⟨a1, o, rfl, d⟩ := a
    simp only [Option.map_eq_some_iff] at e
    obtain ⟨c, e, rfl⟩ := e
    refine .inl ⟨a1, ns.map V.int, i, .int c, rfl, rfl, .inl (.inr ⟨o, r.le _ _ d⟩), ?_, g.here r (.int _)⟩
    unfold atI at e ⊢
    obtain ⟨j, e1, e2⟩ := Option.bind_eq_some_iff.mp e
    rw [List.length_map, e1]
    simp [e2]
  · cases e
theorem ce_ix (ha : CE G X Wx a fa) (hb : CE G X Wx b fb) (hs : PlainIx b := by exact fun _ _ => rfl) : CE G X Wx (.Subscript a b pos) (cBin pIx fa fb) := ⟨pe_imp (pe_ix ix_seq ha.pe hb.pe hs) fun σ H Q q => bin_step snd_ix q⟩

structure CO (G : Gd) (X : Cx) (Wx : WX) (e : Option Expr) (f : Cm (Option Int)) : Prop where
  po : PO X e (tA G Wx (fun _ _ a b => a = b) f)
def cNoPart : Cm (Option Int) := fun st => .ok none st
def cPart (fa : Cm SV) : Cm (Option Int) := fun st => (fa st).bind fun x st1 => match x with
  | .t (.int i) => .ok (some i) st1
  | _ => .stuck
theorem po_imp {e : Option Expr} {t t' : TO} (h : PO X e t) (i : ∀ σ H Q, t' σ H Q → t σ H Q) : PO X e t' := ⟨fun pn s g H Q I q => h.run pn s g H Q I (i g H Q q)⟩
theorem co_none : CO G X Wx none cNoPart := ⟨po_imp po_none fun σ H Q ⟨W, st, r, o⟩ => o W H none r Step.refl rfl⟩
theorem co_some (h : CE G X Wx a fa) : CO G X Wx (some a) (cPart fa) := by
  refine ⟨po_imp (po_some h.pe) fun σ H Q q => ?_⟩
  refine tA_mono (tA_seq (rel := RepS G) (rel' := fun _ _ a b => a = b) q) fun u H1 ⟨W1, st1, v, r1, q1, o⟩ => ?_
  split at o
  · rename_i i
    cases q1
    exact ⟨i, rfl, o W1 H1 (some i) r1 Step.refl rfl⟩
  · exact o.elim
def cut (xs : List α) (lo hi : Option Int) : List α := (xs.drop (HT.sIx xs.length 0 lo)).take (HT.sIx xs.length xs.length hi - HT.sIx xs.length 0 lo)
theorem cut_whole {α : Type} {xs : List α} {lo hi : Option Int} (h1 : HT.sIx xs.length 0 lo = 0) (h2 : HT.sIx xs.length xs.length hi = xs.length) : cut xs lo hi = xs := by
  unfold cut
  rw [h1, h2, List.drop_zero, Nat.sub_zero, List.take_length]
theorem cut_rep {F : Hp} {ps : List PV} {vs : List V} (l : RepL G F ps vs) (lo hi : Option Int) : RepL G F (cut ps lo hi) (cutV vs lo hi) := by
  unfold cut cutV
  rw [l.length]
  exact (l.drop _).take _
def pSl (p : PV) (lo hi : Option Int) : Option PV :=
  match p with
  | .lst xs => some (.lst (cut xs lo hi))
  | .tup xs => some (.tup (cut xs lo hi))
  | .str x => if szOk x.length then some (.str (cutS x lo hi)) else none
  | _ => none
def cSl (fa : Cm SV) (fl fh : Cm (Option Int)) : Cm SV := fun st => (fa st).bind fun x st1 => (fl st1).bind fun lo st2 => (fh st2).bind fun hi st3 => ofO st3 ((view st3 x).bind fun p => pSl p lo hi)
def rSls (K : PySem.W.Frag) : V → Option Int → Option Int → Hp → VK → Prop := fun x lo hi H Q => rSlL K x lo hi H Q ∨ (rSlA K x lo hi H Q ∨ rSlS x lo hi H Q)
theorem sl_any : SlR X (rSls X.K) := SlR.or sl_list (SlR.or sl_tupA sl_str)
theorem sl_step {K : PySem.W.Frag} {fl fh : Cm (Option Int)} {σ : Sg} {H : Hp} {Q : VK} (h : tE G Wx (cSl fa fl fh) σ H Q) : tSl (rSls K) (tE G Wx fa) (tA G Wx (fun _ _ a b => a = b) fl) (tA G Wx (fun _ _ a b => a = b) fh) σ H Q := by
  obtain ⟨W, st, r0, o⟩ := h
  refine tA_mono (tA_then (rel := RepS G) (rel' := RepS G) r0 o) fun u H1 ⟨W1, st1, x, r1, _, _, q1, o1⟩ => ?_
  refine tA_mono (tA_then (rel := fun _ _ a b => a = b) (rel' := RepS G) r1 o1) fun lo H2 ⟨W2, st2, y, r2, f2, a2, e2, o2⟩ => ?_
  subst e2
  refine tA_mono (tA_then (rel := fun _ _ a b => a = b) (rel' := RepS G) r2 o2) fun hi H3 ⟨W3, st3, z, r3, f3, a3, e3, o3⟩ => ?_
  subst e3
  obtain ⟨zz, e, g⟩ := ofO_some o3
  obtain ⟨p, e1, e⟩ := Option.bind_eq_some_iff.mp e
  have vr := r3.view ((q1.mono f2 a2).mono f3 a3) e1
  unfold pSl at e
  split at e
  · cases e
    obtain ⟨a1, vs, rfl, d, l⟩ := vr
    exact .inl ⟨a1, vs, rfl, .inl (.inl d), g.lst r3 (cut_rep l _ _)⟩
  · cases e
    obtain ⟨a1, vs, rfl, d, l⟩ := vr
    refine .inr (.inl ⟨a1, vs, rfl, .inl (.inl (r3.le _ _ d)), fun hw => ?_, fun _ => g.tup r3 (cut_rep l _ _)⟩)
    refine g.here r3 ?_
    rw [cut_whole (xs := _) (by rw [l.length]; exact hw.1) (by rw [l.length]; exact hw.2)]
    exact .tup d l
  · split at e
    · rename_i hz
      cases e; cases vr
      exact .inr (.inr ⟨_, rfl, szOk_le hz, g.here r3 (.str _)⟩)
    · cases e
  · cases e
theorem ce_slice {lo hi : Option Expr} {p2 : Pos} {fl fh : Cm (Option Int)} (ha : CE G X Wx a fa) (hl : CO G X Wx lo fl) (hh : CO G X Wx hi fh) : CE G X Wx (.Subscript a (.Slice lo hi none p2) pos) (cSl fa fl fh) :=
  ⟨pe_imp (pe_slice sl_any ha.pe hl.po hh.po) fun σ H Q q => sl_step q⟩

def pFld (cs : List Nat) (f : PySem.Str) : PV → Option PV
  | .obj c fs => if c ∈ cs then fs.lookup f else none
  | _ => none
theorem ce_fld {cs : List Nat} {f : PySem.Str} (hc : ∀ c ∈ cs, Cls X.K (G.cls c) ∧ NoAttr X.K (G.cls c) f) (ha : CE G X Wx a fa) (hb : attributeBase a f X.env (eval a X.env) = eval a X.env := by rfl) : CE G X Wx (.Attribute a f pos) (cUn (pFld cs f) fa) := by
  refine ⟨pe_imp (pe_fld ha.pe hb) fun σ H Q q => ?_⟩
  refine un_step (r := fun x H1 Q => ∃ a C dx fs v, x = .ref a ∧ H1 a = some (.ins C dx fs) ∧ Cls X.K C ∧ NoAttr X.K C f ∧ fs.lookup f = some v ∧ Q v H1) (fun W st σ H p z u Q r vr e g => ?_) q
  unfold pFld at e
  split at e
  · split at e
    · rename_i c fs hm
      obtain ⟨a1, dx, hs, rfl, d, l⟩ := vr
      obtain ⟨v, e1, k⟩ := l.lookup.1 _ e
      exact ⟨a1, _, dx, hs, v, rfl, d, (hc c hm).1, (hc c hm).2, e1, g.here r k⟩
    · cases e
  · cases e
end
end Cl
set_option Elab.async false
set_option linter.all false
set_option maxRecDepth 100000
set_option maxHeartbeats 4000000
namespace Cl
open PySem PySem.Spec PyProof.Rows L2
inductive RV where
  | t (p : PV) | n (c : MC)
inductive OutS where
  | nx (st : ST) | rt (r : RV) (st : ST) | bk (st : ST) | ct (st : ST)
  | exc (c : Nat) (fs : List (PySem.Str × PV)) (st : ST) | stuck
abbrev Sm := ST → OutS
def RepR (G : Gd) (W' : Wd) (o o' : List Addr) (H H' : Hp) : RV → V → Prop
  | .t p, u => Rep G W'.F p u
  | .n c, u => ∃ a, u = .ref a ∧ RepM G W'.F H' c a ∧ a ∉ o' ∧ W'.F a = none ∧ (H a = none ∨ a ∈ o)
def OutSA (G : Gd) (Wx : WX) (W : Wd) (st : ST) (σ : Sg) (H : Hp) (o : OutS) (D : Ends) : Prop :=
  match o with
  | .nx st' => ∀ W' σ' H', R G W' st' σ' H' → Step (own W st σ) W H (own W' st' σ') W' H' → D.nx σ' H'
  | .bk st' => ∀ W' σ' H', R G W' st' σ' H' → Step (own W st σ) W H (own W' st' σ') W' H' → D.bk σ' H'
  | .ct st' => ∀ W' σ' H', R G W' st' σ' H' → Step (own W st σ) W H (own W' st' σ') W' H' → D.ct σ' H'
  | .rt r st' => ∀ W' σ' H' u, R G W' st' σ' H' → Step (own W st σ) W H (own W' st' σ') W' H' → RepR G W' (own W st σ) (own W' st' σ') H H' r u → D.rt u H'
  | .exc c fs st' => ∀ W' σ' H' d, R G W' st' σ' H' → Step (own W st σ) W H (own W' st' σ') W' H' → RepX G W' H' fs d → Wx (.ref (G.cls c)) (some d) σ' H'
  | .stuck => False
def tS (G : Gd) (Wx : WX) (g : Sm) : TS := fun D σ H => ∃ W st, R G W st σ H ∧ OutSA G Wx W st σ H (g st) D
structure CS (G : Gd) (X : Cx) (Wx : WX) (s : Stmt) (g : Sm) : Prop where
  ps : PS X s (tS G Wx g)
structure CSs (G : Gd) (X : Cx) (Wx : WX) (s : List Stmt) (g : Sm) : Prop where
  pss : PSs X s (tS G Wx g)
theorem ps_imp {X : Cx} {s : Stmt} {t t' : TS} (h : PS X s t) (i : ∀ D σ H, t' D σ H → t D σ H) : PS X s t' := ⟨fun pn s g H D I q => h.run pn s g H D I (i D g H q)⟩
theorem pss_imp {X : Cx} {s : List Stmt} {t t' : TS} (h : PSs X s t) (i : ∀ D σ H, t' D σ H → t D σ H) : PSs X s t' := ⟨fun pn s g H D I q => h.run pn s g H D I (i D g H q)⟩

section
variable {G : Gd} {X : Cx} {Wx : WX} {σ σ1 : Sg} {H H1 : Hp} {W W1 : Wd} {st st1 : ST}
theorem Step.born {o o1 : List Addr} {a : Addr} (s : Step o W H o1 W1 H1) (h : H1 a = none ∨ a ∈ o1) : H a = none ∨ a ∈ o := by
  rcases h with h | h
  · by_cases q : a ∈ o
    · exact .inr q
    · exact .inl (s.back h q)
  · exact (s.no a h).symm
theorem OutSA.from {o : OutS} {D : Ends} (h : OutSA G Wx W st σ H o D) (s : Step (own W st σ) W H (own W1 st1 σ1) W1 H1) : OutSA G Wx W1 st1 σ1 H1 o D := by
  cases o with
  | nx st' => exact fun W' σ' H' r q => h W' σ' H' r (s.trans q)
  | bk st' => exact fun W' σ' H' r q => h W' σ' H' r (s.trans q)
  | ct st' => exact fun W' σ' H' r q => h W' σ' H' r (s.trans q)
  | rt v st' =>
    refine fun W' σ' H' u r q k => h W' σ' H' u r (s.trans q) ?_
    cases v with
    | t p => exact k
    | n c =>
      obtain ⟨a, e, m, n1, n2, b⟩ := k
      exact ⟨a, e, m, n1, n2, s.born b⟩
  | exc c fs st' => exact fun W' σ' H' d r q k => h W' σ' H' d r (s.trans q) k
  | stuck => exact h
def bindS {α : Type} (o : Out α) (k : α → ST → OutS) : OutS :=
  match o with
  | .ok v st => k v st
  | .exc c fs st => .exc c fs st
  | .stuck => .stuck
theorem eS {α β : Type} {rel : Wd → Sg → α → β → Prop} {f : Cm α} {k : α → ST → OutS} {D : Ends} (r : R G W st σ H) (h : OutSA G Wx W st σ H (bindS (f st) k) D) :
    tA G Wx rel f σ H fun u H1 => ∃ W1 st1 v, R G W1 st1 σ H1 ∧ Same W.F W1.F ∧ W1.A = W.A ∧ rel W1 σ v u ∧ OutSA G Wx W1 st1 σ H1 (k v st1) D := by
  refine ⟨W, st, r, ?_⟩
  cases e : f st with
  | ok v st' =>
    rw [e] at h
    exact fun W' H' u r' s q => ⟨W', st', v, r', s.f, s.a, q, OutSA.from h s⟩
  | exc c fs st' =>
    rw [e] at h
    exact fun W' H' d r' s q => h W' σ H' d r' s q
  | stuck => rw [e] at h; exact h

variable {s : Stmt} {rest : List Stmt} {g k : Sm} {e : Expr} {fe : Cm SV} {pos : Pos}
def sNil : Sm := fun st => .nx st
def sSeq (g k : Sm) : Sm := fun st => match g st with
  | .nx st' => k st'
  | o => o
theorem css_nil : CSs G X Wx [] sNil := ⟨pss_imp pss_nil fun D σ H ⟨W, st, r, o⟩ => o W σ H r Step.refl⟩
theorem css_one (h : CS G X Wx s g) : CSs G X Wx [s] g := ⟨pss_one h.ps⟩
theorem css_cons (h : CS G X Wx s g) (hr : CSs G X Wx rest k) : CSs G X Wx (s :: rest) (sSeq g k) := by
  refine ⟨pss_imp (pss_cons h.ps hr.pss) fun D σ H ⟨W, st, r, o⟩ => ⟨W, st, r, ?_⟩⟩
  unfold sSeq at o
  cases e : g st with
  | nx st' =>
    rw [e] at o
    exact fun W' σ' H' r' s' => ⟨W', st', r', OutSA.from o s'⟩
  | bk st' => rw [e] at o; exact o
  | ct st' => rw [e] at o; exact o
  | rt v st' => rw [e] at o; exact o
  | exc c fs st' => rw [e] at o; exact o
  | stuck => rw [e] at o; exact o
theorem cs_pass : CS G X Wx (.Pass pos) sNil := ⟨ps_imp ps_pass fun D σ H ⟨W, st, r, o⟩ => o W σ H r Step.refl⟩
def sBreak : Sm := fun st => .bk st
def sCont : Sm := fun st => .ct st
theorem cs_break : CS G X Wx (.Break pos) sBreak := ⟨ps_imp ps_break fun D σ H ⟨W, st, r, o⟩ => o W σ H r Step.refl⟩
theorem cs_cont : CS G X Wx (.Continue pos) sCont := ⟨ps_imp ps_continue fun D σ H ⟨W, st, r, o⟩ => o W σ H r Step.refl⟩
def sNo : Sm := fun _ => .stuck
theorem cs_no : CS G X Wx s sNo := ⟨ps_imp ps_never fun D σ H ⟨W, st, r, o⟩ => o⟩
theorem css_no : CSs G X Wx rest sNo := ⟨pss_imp pss_never fun D σ H ⟨W, st, r, o⟩ => o⟩
def sExpr (fe : Cm SV) : Sm := fun st => bindS (fe st) fun _ st1 => .nx st1
theorem cs_expr (h : CE G X Wx e fe) (hs : swapsWith e none pos.line X.env = pure false := by rfl) : CS G X Wx (.Expr e pos) (sExpr fe) := by
  refine ⟨ps_imp (ps_expr h.pe hs) fun D σ H ⟨W, st, r, o⟩ => ?_⟩
  exact tA_mono (eS (rel := RepS G) r o) fun u H1 ⟨W1, st1, v, r1, _, _, _, o1⟩ => o1 W1 σ H1 r1 Step.refl
def sRet (fe : Cm SV) : Sm := fun st => bindS (fe st) fun x st1 => match x with
  | .t p => .rt (.t p) st1
  | _ => .stuck
theorem cs_ret (h : CE G X Wx e fe) : CS G X Wx (.Return (some e) pos) (sRet fe) := by
  refine ⟨ps_imp (ps_ret h.pe) fun D σ H ⟨W, st, r, o⟩ => ?_⟩
  refine tA_mono (eS (rel := RepS G) r o) fun u H1 ⟨W1, st1, v, r1, _, _, q1, o1⟩ => ?_
  split at o1
  · exact o1 W1 σ H1 u r1 Step.refl q1
  · exact o1.elim
def sRetN : Sm := fun st => .rt (.t .non) st
theorem cs_retN : CS G X Wx (.Return none pos) sRetN := ⟨ps_imp ps_retN fun D σ H ⟨W, st, r, o⟩ => o W σ H .non r Step.refl Rep.non⟩
def sIf (c : Cm Bool) (g k : Sm) : Sm := fun st => bindS (c st) fun b st1 => if b = true then g st1 else k st1
theorem cs_if {c : Expr} {fc : Cm Bool} {a b : List Stmt} (hc : CT G X Wx c fc) (ha : CSs G X Wx a g) (hb : CSs G X Wx b k) : CS G X Wx (.If c a b pos) (sIf fc g k) := by
  refine ⟨ps_imp (ps_if hc.pt ha.pss hb.pss) fun D σ H ⟨W, st, r, o⟩ => ?_⟩
  refine tA_mono (eS (rel := RepB) r o) fun u H1 ⟨W1, st1, v, r1, _, _, q1, o1⟩ => ?_
  cases q1
  cases u with
  | true => exact ⟨W1, st1, r1, o1⟩
  | false => exact ⟨W1, st1, r1, o1⟩

theorem RepLoc.set : ∀ {ls : List (Option SL)} {vs : Sg} (i : Nat) {l : Option SL} {v : Option V}, RepLoc G W H ls vs → (∀ y, l = some y → ∃ u, v = some u ∧ RepSl G W H y u) → RepLoc G W H (ls.set i l) (vs.set i v)
  | [], [], _, _, _, _, _ => trivial
  | none :: ls, x :: vs, 0, l, v, r, h => by
    cases l with
    | none => exact r
    | some y => obtain ⟨u, rfl, k⟩ := h y rfl; exact ⟨k, r⟩
  | none :: ls, x :: vs, i + 1, l, v, r, h => RepLoc.set (ls := ls) (vs := vs) i r h
  | some _ :: ls, some x :: vs, 0, l, v, ⟨_, r⟩, h => by
    cases l with
    | none => exact r
    | some y => obtain ⟨u, rfl, k⟩ := h y rfl; exact ⟨k, r⟩
  | some _ :: ls, some x :: vs, i + 1, l, v, ⟨q, r⟩, h => ⟨q, RepLoc.set i r h⟩
  | [], _ :: _, _, _, _, h, _ => h.elim
  | some _ :: _, [], _, _, _, h, _ => h.elim
  | none :: _, [], _, _, _, h, _ => h.elim
  | some _ :: _, none :: _, _, _, _, h, _ => h.elim
theorem owned_set_sub : ∀ {ls : List (Option SL)} {vs : Sg} (i : Nat) {l : Option SL} {v : Option V}, (∀ c, l ≠ some (.m c)) → (owned (ls.set i l) (vs.set i v)).Sublist (owned ls vs)
  | [], _, _, _, _, _ => by simp [owned]
  | l0 :: ls, [], i, l, v, _ => by
    cases i <;> simp [owned, List.set]
  | l0 :: ls, v0 :: vs, 0, l, v, h => by
    have e : owned (l :: ls) (v :: vs) = owned ls vs := by
      cases l with
      | none => cases v <;> rfl
      | some y =>
        cases y with
        | m c => exact absurd rfl (h c)
        | t p => cases v <;> rfl
        | i n => cases v <;> rfl
    show (owned (l :: ls) (v :: vs)).Sublist _
    rw [e]
    cases l0 with
    | none => cases v0 <;> exact List.Sublist.refl _
    | some y =>
      cases y with
      | m c =>
        cases v0 with
        | none => exact List.Sublist.refl _
        | some w => cases w <;> first | exact List.sublist_cons_self _ _ | exact List.Sublist.refl _
      | t p => cases v0 <;> exact List.Sublist.refl _
      | i n => cases v0 <;> exact List.Sublist.refl _
  | l0 :: ls, v0 :: vs, i + 1, l, v, h => by
    have ih := owned_set_sub (ls := ls) (vs := vs) i (v := v) h
    show (owned (l0 :: ls.set i l) (v0 :: vs.set i v)).Sublist _
    cases l0 with
    | none => cases v0 <;> exact ih
    | some y =>
      cases y with
      | m c =>
        cases v0 with
        | none => exact ih
        | some w => cases w <;> first | exact ih.cons_cons _ | exact ih
      | t p => cases v0 <;> exact ih
      | i n => cases v0 <;> exact ih
def ST.set (st : ST) (i : Nat) (l : Option SL) : ST := { st with loc := st.loc.set i l }
theorem R.setT (r : R G W st σ H) (i : Nat) {p : PV} {u : V} (k : Rep G W.F p u) : R G W (st.set i (some (.t p))) (σ.set i (some u)) H := by
  have sub : (own W (st.set i (some (.t p))) (σ.set i (some u))).Sublist (own W st σ) := (owned_set_sub i (by simp)).append (List.Sublist.refl _)
  exact ⟨r.le, r.inh, RepLoc.set i r.loc fun y e => ⟨u, rfl, by cases e; exact k⟩, r.nd.sublist sub, fun a h => r.fr a (sub.subset h)⟩
theorem Step.sub {o o' : List Addr} (h : ∀ a ∈ o', a ∈ o) : Step o W H o' W H := ⟨Same.refl _, rfl, fun _ => .inl rfl, fun b q => .inl (h b q), fun _ _ q _ => q⟩
theorem R.setT_step (i : Nat) {p : PV} {u : V} : Step (own W st σ) W H (own W (st.set i (some (.t p))) (σ.set i (some u))) W H :=
  Step.sub fun a h => (((owned_set_sub i (by simp)).append (List.Sublist.refl _)).subset h)
def sSet (i : Nat) (fe : Cm SV) : Sm := fun st => bindS (fe st) fun x st1 => match x with
  | .t p => .nx (st1.set i (some (.t p)))
  | _ => .stuck
theorem cs_set {i : Nat} {x : PySem.Str} {pos' : Pos} (hN : X.N.Nodup) (hi : X.N[i]? = some x) (hx : Loc X.env.scope x) (he : CE G X Wx e fe) (hs : swapsWith e (some (.Name x pos')) pos.line X.env = pure false := by rfl)
    (hf : X.fn x = true ∨ X.env.scope.names.lookup x = some .local := by first | exact .inl rfl | exact .inr rfl | assumption) : CS G X Wx (.Assign [.Name x pos'] e pos) (sSet i fe) := by
  refine ⟨ps_imp (ps_set hN hi hx he.pe hs hf) fun D σ H ⟨W, st, r, o⟩ => ?_⟩
  refine tA_mono (eS (rel := RepS G) r o) fun u H1 ⟨W1, st1, v, r1, _, _, q1, o1⟩ => ?_
  split at o1
  · exact o1 W1 _ H1 (r1.setT i q1) (R.setT_step i)
  · exact o1.elim
end
end Cl
set_option Elab.async false
set_option linter.all false
set_option maxRecDepth 100000
set_option maxHeartbeats 4000000
namespace Cl
open PySem PySem.Spec PyProof.Rows L2

inductive Arg where
  | t (p : PV) | i (c : MC)
def conts : List Arg → List MC
  | [] => []
  | .t _ :: r => conts r
  | .i c :: r => c :: conts r
def slots : Nat → List Arg → List (Option SL)
  | _, [] => []
  | k, .t p :: r => some (.t p) :: slots k r
  | k, .i _ :: r => some (.i k) :: slots (k + 1) r
def enter (n : Nat) (as : List Arg) : ST := ⟨slots 0 as ++ List.replicate (n - as.length) none, conts as⟩
inductive OutF where
  | ok (r : RV) (o : List MC) | exc (c : Nat) (fs : List (PySem.Str × PV)) (o : List MC) | stuck
abbrev Fm := List Arg → OutF
def runF (n : Nat) (g : Sm) : Fm := fun as =>
  match g (enter n as) with
  | .nx st => .ok (.t .non) st.inh
  | .rt r st => .ok r st.inh
  | .exc c fs st => .exc c fs st.inh
  | _ => .stuck
def OutFA (G : Gd) (W : Wd) (H : Hp) (o : OutF) (Q : VK) (E : XK) : Prop :=
  match o with
  | .ok r out => ∀ W' H' u, R G W' ⟨[], out⟩ [] H' → Step W.A W H W'.A W' H' → RepR G W' W.A W'.A H H' r u → Q u H'
  | .exc c fs out => ∀ W' H' d, R G W' ⟨[], out⟩ [] H' → Step W.A W H W'.A W' H' → RepX G W' H' fs d → E (.ref (G.cls c)) (some d) H'
  | .stuck => False
def spC (G : Gd) (N : List PySem.Str) (F : Fm) : Sp := fun vs H Q E => ∃ W as, as.length = vs.length ∧ R G W (enter N.length as) (start N vs) H ∧ OutFA G W H (F as) Q E

section
variable {G : Gd} {W W' : Wd} {st : ST} {σ : Sg} {H H' : Hp}
theorem owned_slots : ∀ (as : List Arg) (k : Nat) (vs : Sg) (m : Nat), owned (slots k as ++ List.replicate m none) vs = []
  | [], k, [], m => by cases m <;> simp [slots, owned, List.replicate]
  | [], k, v :: vs, 0 => by simp [slots, owned]
  | [], k, v :: vs, m + 1 => by
    have := owned_slots [] k vs m
    simp only [slots, List.nil_append, List.replicate_succ] at this ⊢
    cases v <;> exact this
  | .t p :: r, k, [], m => by simp [slots, owned]
  | .i c :: r, k, [], m => by simp [slots, owned]
  | .t p :: r, k, v :: vs, m => by
    have := owned_slots r k vs m
    cases v <;> exact this
  | .i c :: r, k, v :: vs, m => by
    have := owned_slots r (k + 1) vs m
    cases v <;> exact this
theorem own_enter {n : Nat} {as : List Arg} : own W (enter n as) σ = W.A := by
  unfold own enter
  rw [owned_slots]
  rfl
theorem R.leave (r : R G W st σ H) : R G W ⟨[], st.inh⟩ [] H :=
  ⟨r.le, r.inh, trivial, (r.nd.sublist (List.sublist_append_right _ _)), fun a h => r.fr a (List.mem_append_right _ h)⟩
theorem Step.leave {o : List Addr} (s : Step o W H (own W' st σ) W' H') : Step o W H W'.A W' H' := s.trans (Step.sub fun a h => List.mem_append_right _ h)
end
abbrev Plan := List (Sum Nat PV)
def scV : PV → V
  | .bl b => .bl b
  | .int i => .int i
  | .str x => .str x
  | _ => .non
def scOk : PV → Bool
  | .non => true
  | .bl _ => true
  | .int _ => true
  | .str _ => true
  | _ => false
def pickV (pl : Plan) (vs : List V) : List V := pl.map fun
  | .inl i => vs.getD i .non
  | .inr p => scV p
def pickS (pl : Plan) (xs : List SV) : List SV := pl.map fun
  | .inl i => xs.getD i (.t .non)
  | .inr p => .t p
def planOk (pl : Plan) : Bool := pl.all fun
  | .inl _ => true
  | .inr p => scOk p
def Bd (K : PySem.W.Frag) (fd : FuncData) (ps : List PySem.Str) (n : Nat) (ks : List PySem.Str) (pl : Plan) : Prop :=
  ∀ (s : Shared) (us ws : List Value), K.In s.heap → us.length = n → ws.length = ks.length → ∃ bs, BindsTo s fd ⟨us, ks.zip ws⟩ (ps.zip bs) ∧ bs.length = ps.length ∧ ∀ vs, Vals vs (us ++ ws) → Vals (pickV pl vs) bs
def FnG (P : Program) (w : World) (K : PySem.W.Frag) (mg : PySem.Str → Option Value) (base : Heap) (k : Nat) (f : Addr) (n : Nat) (ks : List PySem.Str) (sp : Sp) : Prop :=
  ∀ (A : Around) (outer : List Env) (s : Shared) (H : Hp) (us ws : List Value) (vs : List V) (Q : VK) (E : XK), Room k A → A.guards = some [] → Env0 P w K mg base A outer s H → us.length = n → ws.length = ks.length → Vals vs (us ++ ws) → sp vs H Q E →
    codeAny (model P w) A (.call (.ref f) ⟨us, ks.zip ws⟩) (CR (L2.CX P w) outer P w H s Q E) s
abbrev cxB (P : Program) (w : World) (K : PySem.W.Frag) (mg : PySem.Str → Option Value) (base : Heap) (N : List PySem.Str) (qual : PySem.Str) (scope : Scope) (f : Addr) (cd : Value) (A : Around) (outer : List Env) (s : Shared) (H : Hp) (E : XK) : Cx :=
  cxOf (L2.CX P w) P w K mg base N qual scope f cd A outer s H E
abbrev wxB (E : XK) : WX := fun cls d _ H => E cls d H
def BodyC (G : Gd) (P : Program) (w : World) (K : PySem.W.Frag) (mg : PySem.Str → Option Value) (base : Heap) (k : Nat) (N : List PySem.Str) (qual : PySem.Str) (scope : Scope) (f : Addr) (body : List Stmt) (g : Sm) : Prop :=
  ∀ (cd : Value) (A : Around) (outer : List Env) (s : Shared) (H : Hp) (E : XK), Room k (cxB P w K mg base N qual scope f cd A outer s H E).A → (cxB P w K mg base N qual scope f cd A outer s H E).A.guards = some [] →
    Takes (cxB P w K mg base N qual scope f cd A outer s H E) (wxB E) → CSs G (cxB P w K mg base N qual scope f cd A outer s H E) (wxB E) body g

section
variable {G : Gd} {P : Program} {w : World} {K : PySem.W.Frag} {mg : PySem.Str → Option Value} {base : Heap} {k n : Nat} {N ps ks : List PySem.Str} {x qual : PySem.Str} {params : Arguments} {body : List Stmt} {scope : Scope} {dvs : List V} {kws : List (PySem.Str × V)} {f : Addr} {fd : FuncData} {g : Sm} {pl : Plan}
theorem body_in {vs : List V} {H : Hp} {Q : VK} {E : XK} (h : spC G N (runF N.length g) vs H Q E) : tS G (wxB E) g { nx := fun _ H' => Q .non H', rt := Q } (start N vs) H := by
  obtain ⟨W, as, hl, r, o⟩ := h
  refine ⟨W, _, r, ?_⟩
  unfold runF at o
  have oe : own W (enter N.length as) (start N vs) = W.A := own_enter
  cases e : g (enter N.length as) with
  | nx st' =>
    rw [e] at o
    intro W' σ' H' r' s'
    rw [oe] at s'
    exact o W' H' .non r'.leave s'.leave Rep.non
  | rt v st' =>
    rw [e] at o
    intro W' σ' H' u r' s' q
    rw [oe] at s' q
    refine o W' H' u r'.leave s'.leave ?_
    cases v with
    | t p => exact q
    | n c =>
      obtain ⟨a, e1, m, n1, n2, b⟩ := q
      exact ⟨a, e1, m, fun z => n1 (List.mem_append_right _ z), n2, b⟩
  | exc c fs st' =>
    rw [e] at o
    intro W' σ' H' d r' s' q
    rw [oe] at s'
    exact o W' H' d r'.leave s'.leave q
  | bk st' => rw [e] at o; exact o.elim
  | ct st' => rw [e] at o; exact o.elim
  | stuck => rw [e] at o; exact o.elim
theorem fn_body (F : FunD K x qual params body scope dvs kws f fd) (S : FnScope N ps scope) (B : Bd K fd ps n ks pl)
    (hb : BodyC G P w K mg base k N qual scope f body g) : FnG P w K mg base (k + 1) f n ks fun vs H Q E => spC G N (runF N.length g) (pickV pl vs) H Q E := by
  intro A outer s H us ws vs Q E room gd e0 lu lw rv hsp
  obtain ⟨oc, od, dV, kV, doc, pm, an, cdv, ct, osl, rfl, lk, hcd, _, _⟩ := F.ex
  have kin : K.In s.heap := e0.mod.kin.keeps fun b o z => (e0.bs b o z).1
  have nl : s.heap.NoLimit := e0.mod.nolimit.keeps fun b o z => (e0.bs b o z).1
  obtain ⟨bs, bto, bl, brel⟩ := B s us ws kin lu lw
  have rb := brel vs rv
  have known : ∀ y ∈ ps.zip bs, scope.names.lookup y.1 = some .local ∨ (scope.names.lookup y.1 = some .cell ∧ ((cellsFrom (s.heap.objs.size + 1) scope.names []).lookup y.1).isSome = true) := by
    rintro ⟨nm, v⟩ hy
    rcases S.par nm (List.of_mem_zip hy).1 with q | q
    · exact .inl q
    · exact .inr ⟨q, PySem.W.cellsFrom_some _ _ _ (.inl q)⟩
  refine codeAny_call_function room.depth (kin _ _ lk) rfl S.co S.gen rfl (PySem.W.codeRec_of kin hcd) (bto _ _ _ _ ?_)
  refine wpAny_newFunctionEnv_cells S.kind known fun env henv s1 inx => ?_
  subst henv
  refine ⟨nl.keeps inx.toInCall.keep, codeAny_func ?_⟩
  have I0 : Inv (cxB P w K mg base N qual scope f cdv A outer s H E) [] (start N (pickV pl vs)) H s1 := inv_start S room.hd e0 (rb.length.trans bl) rb inx
  have tk : Takes (cxB P w K mg base N qual scope f cdv A outer s H E) (wxB E) := takes_of rfl rfl rfl rfl
  have c := hb cdv A outer s H E (room.deeper _) gd tk
  refine wpAny_mono (c.pss.run [] s1 _ H _ I0 (body_in hsp)) (fun fl s' hs => ?_) fun _ _ z => z
  cases fl with
  | ret u =>
    obtain ⟨v, σ', H', J, rv', q⟩ := hs
    exact ⟨v, H', J.os, J.bare, J.base, J.hok, rv', q⟩
  | next =>
    obtain ⟨σ', H', J, q⟩ := hs
    exact ⟨.non, H', J.os, J.bare, J.base, J.hok, rfl, q⟩
  | brk => obtain ⟨_, _, _, q⟩ := hs; exact q.elim
  | cont => obtain ⟨_, _, _, q⟩ := hs; exact q.elim
end
end Cl
set_option Elab.async false
set_option linter.all false
set_option maxRecDepth 100000
set_option maxHeartbeats 4000000
namespace Cl
open PySem PySem.Spec PyProof.Rows L2

section
variable {G : Gd} {W : Wd} {st : ST} {σ : Sg} {H : Hp}
theorem RepLoc.of_get : ∀ {ls : List (Option SL)} {vs : Sg}, ls.length = vs.length → (∀ (i : Nat) (l : SL), ls[i]? = some (some l) → ∃ v, vs[i]? = some (some v) ∧ RepSl G W H l v) → RepLoc G W H ls vs
  | [], [], _, _ => trivial
  | none :: ls, v :: vs, e, h => by
    show RepLoc G W H ls vs
    exact RepLoc.of_get (by simpa using e) fun i l q => by
      obtain ⟨u, a, b⟩ := h (i + 1) l (by simpa using q)
      exact ⟨u, by simpa using a, b⟩
  | some l :: ls, v :: vs, e, h => by
    obtain ⟨u, a, b⟩ := h 0 l (by simp)
    simp at a
    subst a
    refine ⟨b, RepLoc.of_get (by simpa using e) fun i l q => ?_⟩
    obtain ⟨u, a, b⟩ := h (i + 1) l (by simpa using q)
    exact ⟨u, by simpa using a, b⟩
  | [], _ :: _, e, _ => by simp at e
  | _ :: _, [], e, _ => by simp at e
theorem RepMs.of_get {F : Hp} : ∀ {cs : List MC} {as : List Addr}, cs.length = as.length → (∀ (i : Nat) (c : MC) (a : Addr), cs[i]? = some c → as[i]? = some a → RepM G F H c a) → RepMs G F H cs as
  | [], [], _, _ => trivial
  | c :: cs, a :: as, e, h => ⟨h 0 c a rfl rfl, RepMs.of_get (by simpa using e) fun i x b q q' => h (i + 1) x b (by simpa using q) (by simpa using q')⟩
  | [], _ :: _, e, _ => by simp at e
  | _ :: _, [], e, _ => by simp at e
theorem owned_inj : ∀ {ls : List (Option SL)} {vs : Sg} {i j : Nat} {c d : MC} {a : Addr}, (owned ls vs).Nodup → ls[i]? = some (some (.m c)) → vs[i]? = some (some (.ref a)) → ls[j]? = some (some (.m d)) → vs[j]? = some (some (.ref a)) → i = j
  | [], _, i, _, _, _, _, _, e, _, _, _ => by simp at e
  | _ :: _, [], i, _, _, _, _, _, _, e, _, _ => by simp at e
  | l :: ls, v :: vs, 0, 0, _, _, _, _, _, _, _, _ => rfl
  | l :: ls, v :: vs, 0, j + 1, c, d, a, nd, e1, e2, e3, e4 => by
    simp at e1 e2
    subst e1 e2
    have h : a ∈ owned ls vs := owned_get (i := j) (by simpa using e3) (by simpa using e4)
    exact absurd h (List.nodup_cons.mp nd).1
  | l :: ls, v :: vs, i + 1, 0, c, d, a, nd, e1, e2, e3, e4 => by
    simp at e3 e4
    subst e3 e4
    have h : a ∈ owned ls vs := owned_get (i := i) (by simpa using e1) (by simpa using e2)
    exact absurd h (List.nodup_cons.mp nd).1
  | l :: ls, v :: vs, i + 1, j + 1, c, d, a, nd, e1, e2, e3, e4 => by
    have nd' : (owned ls vs).Nodup := by
      cases l with
      | none => cases v <;> exact nd
      | some y =>
        cases y with
        | m c =>
          cases v with
          | none => exact nd
          | some w => cases w <;> first | exact (List.nodup_cons.mp nd).2 | exact nd
        | t p => cases v <;> exact nd
        | i n => cases v <;> exact nd
    exact congrArg (· + 1) (owned_inj (i := i) (j := j) nd' (by simpa using e1) (by simpa using e2) (by simpa using e3) (by simpa using e4))
theorem owned_setM : ∀ {ls : List (Option SL)} {vs : Sg} {i : Nat} {c : MC} (d : MC), ls[i]? = some (some (.m c)) → owned (ls.set i (some (.m d))) vs = owned ls vs
  | [], _, i, _, _, e => by simp at e
  | l :: ls, [], i, c, d, e => by cases i <;> simp [owned, List.set]
  | l :: ls, v :: vs, 0, c, d, e => by
    simp at e; subst e
    cases v with
    | none => rfl
    | some w => cases w <;> rfl
  | l :: ls, v :: vs, i + 1, c, d, e => by
    have ih := owned_setM (ls := ls) (vs := vs) (i := i) d (by simpa using e)
    show owned (l :: ls.set i (some (.m d))) (v :: vs) = _
    cases l with
    | none => cases v <;> exact ih
    | some y =>
      cases y with
      | m c =>
        cases v with
        | none => exact ih
        | some w => cases w <;> first | exact congrArg (List.cons _) ih | exact ih
      | t p => cases v <;> exact ih
      | i n => cases v <;> exact ih

def getP (st : ST) : PL → Option MC
  | .sl j => match st.loc[j]? with
    | some (some (.m c)) => some c
    | _ => none
  | .ih n => st.inh[n]?
def setP (st : ST) (q : PL) (c : MC) : ST :=
  match q with
  | .sl j => { st with loc := st.loc.set j (some (.m c)) }
  | .ih n => { st with inh := st.inh.set n c }
def AtP (W : Wd) (σ : Sg) : PL → Addr → Prop
  | .sl j, a => σ[j]? = some (some (.ref a))
  | .ih n, a => W.A[n]? = some a
theorem getP_sl {j : Nat} {c : MC} (h : getP st (.sl j) = some c) : st.loc[j]? = some (some (.m c)) := by
  have h : (match st.loc[j]? with | some (some (.m c)) => some c | _ => none) = some c := h
  split at h
  · rename_i e; cases h; exact e
  · cases h
theorem R.atP (r : R G W st σ H) {q : PL} {c : MC} (h : getP st q = some c) : ∃ a, AtP W σ q a ∧ RepM G W.F H c a ∧ a ∈ own W st σ := by
  cases q with
  | sl j =>
    have e := getP_sl h
    obtain ⟨v, e1, a, rfl, m⟩ := r.loc.get e
    exact ⟨a, e1, m, List.mem_append_left _ (owned_get e e1)⟩
  | ih n =>
    have e : st.inh[n]? = some c := h
    have hl : n < W.A.length := by rw [← r.inh.length]; exact (List.getElem?_eq_some_iff.mp e).1
    exact ⟨W.A[n], List.getElem?_eq_getElem hl, RepMs.get r.inh e (List.getElem?_eq_getElem hl), List.mem_append_right _ (List.getElem_mem hl)⟩
theorem R.atP_inj (r : R G W st σ H) {q q' : PL} {c c' : MC} {a : Addr} (h : getP st q = some c) (h' : getP st q' = some c') (e : AtP W σ q a) (e' : AtP W σ q' a) : q = q' := by
  obtain ⟨n1, n2, n3⟩ := List.nodup_append.mp r.nd
  cases q with
  | sl j =>
    cases q' with
    | sl j' => rw [owned_inj n1 (getP_sl h) e (getP_sl h') e']
    | ih n => exact absurd rfl (n3 a (owned_get (getP_sl h) e) a (List.mem_of_getElem? e'))
  | ih n =>
    cases q' with
    | sl j => exact absurd rfl (n3 a (owned_get (getP_sl h') e') a (List.mem_of_getElem? e))
    | ih n' =>
      obtain ⟨h1, e1⟩ := List.getElem?_eq_some_iff.mp (show W.A[n]? = some a from e)
      obtain ⟨h2, e2⟩ := List.getElem?_eq_some_iff.mp (show W.A[n']? = some a from e')
      rw [(List.getElem_inj n2).mp (e1.trans e2.symm)]
theorem own_setP {q : PL} {c d : MC} (h : getP st q = some c) : own W (setP st q d) σ = own W st σ := by
  cases q with
  | sl j => unfold own setP; rw [owned_setM d (getP_sl h)]
  | ih n => rfl
theorem getP_set {q q' : PL} {c d : MC} (h : getP st q = some c) : getP (setP st q d) q' = if q' = q then some d else getP st q' := by
  cases q with
  | sl j =>
    have e := getP_sl h
    have hj : j < st.loc.length := (List.getElem?_eq_some_iff.mp e).1
    cases q' with
    | sl j' =>
      by_cases q : j' = j
      · subst q
        rw [if_pos rfl]
        show (match (st.loc.set j' (some (.m d)))[j']? with | some (some (.m c)) => some c | _ => none) = some d
        rw [List.getElem?_set_self hj]
      · rw [if_neg (fun z => q (by cases z; rfl))]
        show (match (st.loc.set j (some (.m d)))[j']? with | some (some (.m c)) => some c | _ => none) = _
        rw [List.getElem?_set_ne (Ne.symm q)]
        rfl
    | ih n => rw [if_neg (by simp)]; rfl
  | ih n =>
    have hn : n < st.inh.length := (List.getElem?_eq_some_iff.mp (show st.inh[n]? = some c from h)).1
    cases q' with
    | sl j => rw [if_neg (by simp)]; rfl
    | ih n' =>
      by_cases q : n' = n
      · subst q
        rw [if_pos rfl]
        exact List.getElem?_set_self hn
      · rw [if_neg (fun z => q (by cases z; rfl))]
        exact List.getElem?_set_ne (Ne.symm q)
theorem R.setP {F' H' : Hp} (r : R G W st σ H) {q : PL} {c d : MC} {a : Addr} (h : getP st q = some c) (e : AtP W σ q a) (f : Same W.F F') (le : Same F' H') (m : RepM G F' H' d a)
    (keep : ∀ b ∈ own W st σ, b ≠ a → ∀ u, H b = some u → H' b = some u) (fr : ∀ b ∈ own W st σ, F' b = none) : R G ⟨F', W.A⟩ (Cl.setP st q d) σ H' := by
  obtain ⟨n1, n2, n3⟩ := List.nodup_append.mp r.nd
  have oe : own ⟨F', W.A⟩ (Cl.setP st q d) σ = own W st σ := own_setP (W := ⟨F', W.A⟩) h
  have other : ∀ {q' : PL} {c' : MC} {a' : Addr}, q' ≠ q → getP st q' = some c' → AtP W σ q' a' → RepM G W.F H c' a' → a' ∈ own W st σ → RepM G F' H' c' a' := fun {q' c' a'} hq h' e' m' ho =>
    m'.mono f fun u hu => keep a' ho (fun z => hq (r.atP_inj h' h (z ▸ e') e)) u hu
  refine ⟨le, ?_, ?_, by rw [oe]; exact r.nd, by rw [oe]; exact fr⟩
  · cases q with
    | sl j =>
      refine RepMs.of_get r.inh.length fun i c' a' e1 e2 => ?_
      exact other (q' := .ih i) (by simp) e1 e2 (RepMs.get r.inh e1 e2) (List.mem_append_right _ (List.mem_of_getElem? e2))
    | ih n =>
      refine RepMs.of_get (by simpa [Cl.setP] using r.inh.length) fun i c' a' e1 e2 => ?_
      by_cases hi : i = n
      · subst hi
        have e3 : W.A[i]? = some a' := e2
        rw [show W.A[i]? = some a from e] at e3
        cases e3
        have hn : i < st.inh.length := (List.getElem?_eq_some_iff.mp (show st.inh[i]? = some c from h)).1
        have e4 : (st.inh.set i d)[i]? = some c' := e1
        rw [List.getElem?_set_self hn] at e4
        cases e4
        exact m
      · have e4 : (st.inh.set n d)[i]? = some c' := e1
        rw [List.getElem?_set_ne (Ne.symm hi)] at e4
        exact other (q' := .ih i) (fun z => hi (by cases z; rfl)) e4 e2 (RepMs.get r.inh e4 e2) (List.mem_append_right _ (List.mem_of_getElem? e2))
  · have slots : ∀ (i : Nat) (l : SL) (v : V), RepSl G W H l v → (∀ c', l = .m c' → ∀ a', v = .ref a' → RepM G F' H' c' a') → RepSl G ⟨F', W.A⟩ H' l v := fun i l v s k => by
      cases l with
      | t p => exact Rep.mono f s
      | m c' => obtain ⟨a', rfl, _⟩ := s; exact ⟨a', rfl, k c' rfl a' rfl⟩
      | i n => exact s
    have keepSl : ∀ (i : Nat) (l : SL), PL.sl i ≠ q → st.loc[i]? = some (some l) → ∃ v, σ[i]? = some (some v) ∧ RepSl G ⟨F', W.A⟩ H' l v := fun i l hq e1 => by
      obtain ⟨v, e2, s⟩ := r.loc.get e1
      refine ⟨v, e2, slots i l v s fun c' hc a' hv => ?_⟩
      subst hc hv
      obtain ⟨a2, z, m'⟩ := s
      cases z
      refine other (q' := .sl i) hq ?_ e2 m' (List.mem_append_left _ (owned_get e1 e2))
      show (match st.loc[i]? with | some (some (.m c)) => some c | _ => none) = _
      rw [e1]
    cases q with
    | sl j =>
      refine RepLoc.of_get (by simpa [Cl.setP] using r.loc.length) fun i l e1 => ?_
      have e1 : (st.loc.set j (some (.m d)))[i]? = some (some l) := e1
      by_cases hi : i = j
      · subst hi
        rw [List.getElem?_set_self (List.getElem?_eq_some_iff.mp (getP_sl h)).1] at e1
        cases e1
        exact ⟨_, e, a, rfl, m⟩
      · rw [List.getElem?_set_ne (Ne.symm hi)] at e1
        exact keepSl i l (fun z => hi (by cases z; rfl)) e1
    | ih n => exact RepLoc.of_get r.loc.length fun i l e1 => keepSl i l (by simp) e1
end
end Cl
set_option Elab.async false
set_option linter.all false
set_option maxRecDepth 100000
set_option maxHeartbeats 4000000
namespace Cl
open PySem PySem.Spec PyProof.Rows L2

def mkArgs (st : ST) : List SV → Option (List Arg × List PL)
  | [] => some ([], [])
  | .t p :: r => (mkArgs st r).map fun z => (.t p :: z.1, z.2)
  | .pl q :: r => (getP st q).bind fun c => (mkArgs st r).map fun z => (.i c :: z.1, q :: z.2)
def putBack (st : ST) : List PL → List MC → ST
  | q :: ps, c :: cs => putBack (setP st q c) ps cs
  | _, _ => st
def cRes (st : ST) (ps : List PL) : OutF → Out SV
  | .ok (.t p) out => .ok (.t p) (putBack st ps out)
  | .ok (.n c) out => .ok (.t c.pv) (putBack st ps out)
  | .exc c fs out => .exc c fs (putBack st ps out)
  | .stuck => .stuck
def cRun (F : Fm) (st : ST) (ys : List SV) : Out SV :=
  match mkArgs st ys with
  | some (as, ps) => if ps.Nodup then cRes st ps (F as) else .stuck
  | none => .stuck
def cCall (F : Fm) (pl : Plan) (fs : Cm (List SV)) : Cm SV := fun st => (fs st).bind fun xs st1 => cRun F st1 (pickS pl xs)

section
variable {G : Gd} {W : Wd} {st : ST} {σ : Sg} {H H' F' : Hp}
theorem R.puts {A : List Addr} (le : Same F' H') : ∀ {ps : List PL} {as : List Addr} {cs : List MC} {st : ST} {H : Hp}, R G ⟨F', A⟩ st σ H → Paired (AtP ⟨F', A⟩ σ) ps as → (∀ q ∈ ps, getP st q ≠ none) → ps.Nodup → RepMs G F' H' cs as →
    (∀ b, b ∉ as → H b = H' b) → R G ⟨F', A⟩ (putBack st ps cs) σ H' ∧ own ⟨F', A⟩ (putBack st ps cs) σ = own ⟨F', A⟩ st σ
  | [], _, [], st, H, r, .nil, _, _, _, e => by
    have q : H = H' := funext fun b => e b (by simp)
    subst q
    exact ⟨r, rfl⟩
  | [], _, _ :: _, _, _, _, .nil, _, _, m, _ => m.elim
  | q :: ps, a :: as, [], _, _, _, .cons _ _, _, _, m, _ => m.elim
  | q :: ps, a :: as, c :: cs, st, H, r, .cons e l, g, nd, ⟨m, ms⟩, k => by
    obtain ⟨c0, hc⟩ := Option.ne_none_iff_exists'.mp (g q (List.mem_cons_self ..))
    obtain ⟨nq, nd⟩ := List.nodup_cons.mp nd
    have ha : a ∈ own ⟨F', A⟩ st σ := by
      obtain ⟨a', e', _, h⟩ := r.atP hc
      cases q with
      | sl j =>
        have e1 : σ[j]? = some (some (.ref a)) := e
        have e2 : σ[j]? = some (some (.ref a')) := e'
        rw [e1] at e2; cases e2; exact h
      | ih n =>
        have e1 : A[n]? = some a := e
        have e2 : A[n]? = some a' := e'
        rw [e1] at e2; cases e2; exact h
    have hn : F' a = none := r.fr a ha
    have na : a ∉ as := fun h => by
      have go : ∀ {ps : List PL} {as : List Addr}, Paired (AtP ⟨F', A⟩ σ) ps as → (∀ q ∈ ps, getP st q ≠ none) → a ∈ as → q ∈ ps := by
        intro ps
        induction ps with
        | nil => intro as l _ h; cases l; cases h
        | cons q1 ps ih =>
          intro as l g h
          cases l with
          | cons e1 l =>
            rcases List.mem_cons.mp h with z | z
            · subst z
              obtain ⟨c1, hc1⟩ := Option.ne_none_iff_exists'.mp (g q1 (List.mem_cons_self ..))
              rw [r.atP_inj hc hc1 e e1]
              exact List.mem_cons_self ..
            · exact List.mem_cons_of_mem _ (ih l (fun q h => g q (List.mem_cons_of_mem _ h)) z)
      exact nq (go l (fun q h => g q (List.mem_cons_of_mem _ h)) h)
    have r1 : R G ⟨F', A⟩ (Cl.setP st q c) σ (fun b => if b = a then H' b else H b) := by
      refine r.setP (H' := fun b => if b = a then H' b else H b) hc e (Same.refl _) (fun b u z => ?_) (m.mono (Same.refl _) fun u z => ?_) (fun b _ hb u z => ?_) r.fr
      · have hb : b ≠ a := fun z' => by rw [z', hn] at z; cases z
        show (if b = a then H' b else H b) = some u
        rw [if_neg hb]; exact r.le b u z
      · show (if a = a then H' a else H a) = some u
        rw [if_pos rfl]; exact z
      · show (if b = a then H' b else H b) = some u
        rw [if_neg hb]; exact z
    have step := R.puts le (ps := ps) (as := as) (cs := cs) r1 l (fun q' h' => ?_) nd ms fun b hb => ?_
    · refine ⟨step.1, step.2.trans (own_setP hc)⟩
    · rw [getP_set hc]
      split
      · simp
      · exact g q' (List.mem_cons_of_mem _ h')
    · show (if b = a then H' b else H b) = H' b
      split
      · rfl
      · rename_i h1
        exact k b fun z => (List.mem_cons.mp z).elim h1 hb
theorem args_in (r : R G W st σ H) : ∀ {ys : List SV} {us : List V} {as : List Arg} {ps : List PL}, mkArgs st ys = some (as, ps) → RepSs G W σ ys us →
    ∃ ad, Paired (AtP W σ) ps ad ∧ RepMs G W.F H (conts as) ad ∧ as.length = us.length ∧ (∀ q ∈ ps, getP st q ≠ none) ∧ (∀ a ∈ ad, a ∈ own W st σ) ∧ ∀ pre : List Addr, RepLoc G ⟨W.F, pre ++ ad⟩ H (slots pre.length as) (us.map some)
  | [], _, _, _, e, .nil => by
    simp [mkArgs] at e
    obtain ⟨rfl, rfl⟩ := e
    exact ⟨[], .nil, trivial, rfl, (by simp), (by simp), fun _ => trivial⟩
  | .t p :: ys, _, _, _, e, .cons k l => by
    simp only [mkArgs, Option.map_eq_some_iff] at e
    obtain ⟨⟨as, ps⟩, e, z⟩ := e
    cases z
    obtain ⟨ad, h1, h2, h3, h4, h5, h6⟩ := args_in r e l
    exact ⟨ad, h1, h2, congrArg (· + 1) h3, h4, h5, fun pre => ⟨k, h6 pre⟩⟩
  | .pl q :: ys, _, _, _, e, .cons (b := u) (l₂ := us) k l => by
    simp only [mkArgs, Option.bind_eq_some_iff, Option.map_eq_some_iff] at e
    obtain ⟨c, ec, ⟨as, ps⟩, e1, z⟩ := e
    cases z
    obtain ⟨ad, h1, h2, h3, h4, h5, h6⟩ := args_in r (ys := ys) (us := us) e1 l
    obtain ⟨a, ea, m, ho⟩ := r.atP ec
    have hu : u = .ref a := by
      cases q with
      | sl j =>
        have e1 : σ[j]? = some (some u) := k
        have e2 : σ[j]? = some (some (.ref a)) := ea
        rw [e1] at e2; cases e2; rfl
      | ih n =>
        obtain ⟨a', rfl, e1⟩ := k
        have e2 : W.A[n]? = some a := ea
        rw [e1] at e2; cases e2; rfl
    refine ⟨a :: ad, .cons ea h1, ⟨m, h2⟩, congrArg (· + 1) h3, fun q' h' => ?_, fun a' h' => ?_, fun pre => ⟨⟨a, hu, ?_⟩, ?_⟩⟩
    · rcases List.mem_cons.mp h' with z | z
      · rw [z, ec]; simp
      · exact h4 q' z
    · rcases List.mem_cons.mp h' with z | z
      · rw [z]; exact ho
      · exact h5 a' z
    · show (pre ++ a :: ad)[pre.length]? = some a
      simp
    · have := h6 (pre ++ [a])
      simpa using this
theorem RepLoc.pad : ∀ {ls : List (Option SL)} {vs : Sg} (n : Nat), RepLoc G W H ls vs → RepLoc G W H (ls ++ List.replicate n none) (vs ++ List.replicate n none)
  | [], [], 0, _ => trivial
  | [], [], n + 1, _ => RepLoc.pad (ls := []) (vs := []) n trivial
  | none :: ls, v :: vs, n, r => RepLoc.pad (ls := ls) (vs := vs) n r
  | some l :: ls, some v :: vs, n, ⟨q, r⟩ => ⟨q, RepLoc.pad n r⟩
  | [], _ :: _, _, h => h.elim
  | some _ :: _, [], _, h => h.elim
  | none :: _, [], _, h => h.elim
  | some _ :: _, none :: _, _, h => h.elim
theorem R.freeze (r : R G W st σ H) {a : Addr} {o : HO} (h : H a = some o) (ho : a ∉ own W st σ) (hf : W.F a = none) : R G ⟨upd W.F a o, W.A⟩ st σ H := by
  refine ⟨fun b u e => ?_, ?_, ?_, r.nd, fun b hb => ?_⟩
  · have e : upd W.F a o b = some u := e
    by_cases q : b = a
    · subst q; rw [upd_same] at e; cases e; exact h
    · rw [upd_ne q] at e; exact r.le b u e
  · exact RepMs.mono (same_upd hf) (fun _ _ _ e => e) r.inh
  · exact RepLoc.mono (W := W) (same_upd hf) (fun _ _ _ e => e) r.loc
  · show upd W.F a o b = none
    have q : b ≠ a := fun z => ho (by rw [← z]; exact hb)
    rw [upd_ne q]; exact r.fr b hb
theorem RepM.frozen {F : Hp} {c : MC} {a : Addr} (hf : F a = none) (m : RepM G F H c a) : ∃ o, H a = some o ∧ Rep G (upd F a o) c.pv (.ref a) := by
  cases c with
  | lst xs => obtain ⟨vs, e, l⟩ := m; exact ⟨_, e, .lst upd_same (l.mono (same_upd hf))⟩
  | dct kvs => obtain ⟨hs, e, l⟩ := m; exact ⟨_, e, .dct (.inl upd_same) (l.mono (same_upd hf))⟩
  | obj c fs => obtain ⟨dx, hs, e, l⟩ := m; exact ⟨_, e, .obj upd_same (l.mono (same_upd hf))⟩

theorem Paired.app {α β : Type} {F : α → β → Prop} : ∀ {l : List α} {m : List β}, Paired F l m → ∀ b ∈ m, ∃ a ∈ l, F a b
  | _, _, .nil, _, h => nomatch h
  | _, _, .cons (a := a) r t, b, h => by
    rcases List.mem_cons.mp h with z | z
    · subst z; exact ⟨a, List.mem_cons_self .., r⟩
    · obtain ⟨c, h1, h2⟩ := Paired.app t b z
      exact ⟨c, List.mem_cons_of_mem _ h1, h2⟩
theorem nodup_at (r : R G W st σ H) : ∀ {ps : List PL} {ad : List Addr}, Paired (AtP W σ) ps ad → (∀ q ∈ ps, getP st q ≠ none) → ps.Nodup → ad.Nodup
  | _, _, .nil, _, _ => List.nodup_nil
  | _, _, .cons (a := q) (b := a) e l, g, nd => by
    obtain ⟨h1, h2⟩ := List.nodup_cons.mp nd
    refine List.nodup_cons.mpr ⟨fun h => ?_, nodup_at r l (fun x hx => g x (List.mem_cons_of_mem _ hx)) h2⟩
    obtain ⟨q', hq, e'⟩ := Paired.app l a h
    obtain ⟨c, hc⟩ := Option.ne_none_iff_exists'.mp (g q (List.mem_cons_self ..))
    obtain ⟨c', hc'⟩ := Option.ne_none_iff_exists'.mp (g q' (List.mem_cons_of_mem _ hq))
    exact h1 (r.atP_inj hc hc' e e' ▸ hq)
theorem run_in {Wx : WX} {N : List PySem.Str} {F : Fm} {ys : List SV} {us : List V} {Q : VK} (r : R G W st σ H) (hs : RepSs G W σ ys us) (o : OutE G Wx W st σ H (cRun F st ys) Q) :
    spC G N F us H Q (fun cls d H' => Wx cls d σ H') := by
  unfold cRun at o
  split at o
  · rename_i as ps e
    split at o
    · rename_i nd
      obtain ⟨ad, h1, h2, h3, h4, h5, h6⟩ := args_in r e hs
      have ndA := nodup_at r h1 h4 nd
      refine ⟨⟨W.F, ad⟩, as, h3, ⟨r.le, h2, ?_, ?_, ?_⟩, ?_⟩
      · have q := RepLoc.pad (N.length - as.length) (h6 [])
        unfold enter L2.start
        rw [h3] at q ⊢
        exact q
      · rw [own_enter]; exact ndA
      · intro a ha
        rw [own_enter] at ha
        exact r.fr a (h5 a ha)
      · have core : ∀ {W' : Wd} {H' : Hp} {out : List MC}, R G W' ⟨[], out⟩ [] H' → Step ad ⟨W.F, ad⟩ H W'.A W' H' →
            R G ⟨W'.F, W.A⟩ (putBack st ps out) σ H' ∧ own ⟨W'.F, W.A⟩ (putBack st ps out) σ = own W st σ ∧ Step (own W st σ) W H (own W st σ) ⟨W'.F, W.A⟩ H' := fun {W' H' out} r' s' => by
          have ea : W'.A = ad := s'.a
          have hn : ∀ a ∈ ad, W'.F a = none := fun a ha => r'.fr a (by unfold own; simp [owned, ea, ha])
          have nf : ∀ b, W'.F b = W.F b ∨ H b = none := fun b => by
            rcases s'.nf b with z | z | z
            · exact .inl z
            · exact .inr z
            · exact .inl ((hn b z).trans (r.fr b (h5 b z)).symm)
          have r0 : R G ⟨W'.F, W.A⟩ st σ (fun b => if b ∈ ad then H b else H' b) := by
            refine r.grow s'.f (fun b u z _ => ?_) (fun b u z => ?_) nf
            · show (if b ∈ ad then H b else H' b) = some u
              split
              · exact z
              · rename_i hb; exact s'.keep b u z hb
            · show (if b ∈ ad then H b else H' b) = some u
              split
              · rename_i hb; rw [hn b hb] at z; cases z
              · exact r'.le b u z
          have pa : Paired (AtP ⟨W'.F, W.A⟩ σ) ps ad := Paired.mono (fun q a z => by cases q <;> exact z) h1
          obtain ⟨p1, p2⟩ := R.puts r'.le (cs := out) r0 pa h4 nd (by have := r'.inh; rw [ea] at this; exact this) fun b hb => by
            show (if b ∈ ad then H b else H' b) = H' b
            rw [if_neg hb]
          refine ⟨p1, p2, ⟨s'.f, rfl, fun b => (nf b).imp_right .inl, fun b h => .inl h, fun b u z hb => s'.keep b u z fun h => hb (h5 b h)⟩⟩
        unfold OutFA
        cases ef : F as with
        | ok v out =>
          rw [ef] at o
          intro W' H' u r' s' k
          obtain ⟨c1, c2, c3⟩ := core r' s'
          cases v with
          | t p => exact o ⟨W'.F, W.A⟩ H' u c1 (by rw [c2]; exact c3) k
          | n c =>
            obtain ⟨a, rfl, m, na, fa, bo⟩ := k
            have ea : W'.A = ad := s'.a
            have ha : H a = none := by
              rcases bo with z | z
              · exact z
              · exact absurd (show a ∈ W'.A by rw [ea]; exact z) na
            obtain ⟨ob, e1, e2⟩ := m.frozen fa
            have nown : a ∉ own ⟨W'.F, W.A⟩ (putBack st ps out) σ := by rw [c2]; exact r.notown ha
            refine o ⟨upd W'.F a ob, W.A⟩ H' (.ref a) (c1.freeze e1 nown fa) ?_ e2
            show Step _ _ _ (own ⟨W'.F, W.A⟩ (putBack st ps out) σ) _ _
            rw [c2]
            refine ⟨c3.f.trans (same_upd fa), rfl, fun b => ?_, c3.no, c3.keep⟩
            by_cases hb : b = a
            · subst hb; exact .inr (.inl ha)
            · rcases c3.nf b with z | z
              · exact .inl ((upd_ne hb).trans z)
              · exact .inr z
        | exc c fs out =>
          rw [ef] at o
          intro W' H' d r' s' k
          obtain ⟨c1, c2, c3⟩ := core r' s'
          exact o ⟨W'.F, W.A⟩ H' d c1 (by rw [c2]; exact c3) k
        | stuck => rw [ef] at o; exact o.elim
    · exact o.elim
  · exact o.elim
end

theorem pick_rep {G : Gd} {W : Wd} {σ : Sg} {xs : List SV} {vs : List V} (h : RepSs G W σ xs vs) : ∀ {pl : Plan}, planOk pl = true → RepSs G W σ (pickS pl xs) (pickV pl vs)
  | [], _ => .nil
  | .inl i :: pl, e => by
    refine .cons ?_ (pick_rep h (by simpa [planOk] using e))
    show RepS G W σ (xs.getD i (.t .non)) (vs.getD i .non)
    have go : ∀ {xs : List SV} {vs : List V} (i : Nat), RepSs G W σ xs vs → RepS G W σ (xs.getD i (.t .non)) (vs.getD i .non) := by
      intro xs
      induction xs with
      | nil => intro vs i h; cases h; simp; exact Rep.non
      | cons x xs ih =>
        intro vs i h
        cases h with
        | cons r l =>
          cases i with
          | zero => simpa using r
          | succ i => simpa using ih i l
    exact go i h
  | .inr p :: pl, e => by
    simp only [planOk, List.all_cons, Bool.and_eq_true] at e
    refine .cons ?_ (pick_rep h e.2)
    cases p <;> first | exact Rep.non | exact Rep.bl _ | exact Rep.int _ | exact Rep.str _ | exact absurd e.1 (by simp [scOk])

section
variable {G : Gd} {X : Cx} {Wx : WX} {k n : Nat} {f : Addr} {ks N : List PySem.Str} {pl : Plan} {F : Fm} {x : PySem.Str} {p pos : Pos} {e : Expr} {es : List Expr} {fs : Cm (List SV)}
abbrev FnC (G : Gd) (X : Cx) (k : Nat) (f : Addr) (n : Nat) (ks : List PySem.Str) (N : List PySem.Str) (pl : Plan) (F : Fm) : Prop :=
  FnG X.prog X.w X.K X.mg X.base k f n ks fun vs H Q E => spC G N F (pickV pl vs) H Q E
theorem run_call {pn : List (Addr × Obj)} {σ : Sg} {H : Hp} {s : Shared} {Q : VK} {us ws : List Value} {vs : List V} {sp : Sp} (hf : FnG X.prog X.w X.K X.mg X.base k f n ks sp) (room : Room k X.A) (gd : X.A.guards = some []) (tk : Takes X Wx)
    (I : Inv X pn σ H s) (lu : us.length = n) (lw : ws.length = ks.length) (r : Vals vs (us ++ ws)) (h : sp vs H Q fun cls d H' => Wx cls d σ H') : wpAny (model X.prog X.w) X.A (call (.ref f) us (ks.zip ws)) (EP X pn σ Q) X.xe s := by
  refine wpAny_call (codeAny_mono (hf X.A X.stack s H us ws vs Q _ room gd I.env0 lu lw r h) fun z s' q => ?_)
  cases z with
  | error er => exact tk er s' (XE.of_call I (fun cls d H' w => w) q)
  | ok fl =>
    cases fl with
    | ret u => exact I.after q
    | next => exact False.elim q
    | brk => exact False.elim q
    | cont => exact False.elim q
end
end Cl
set_option Elab.async false
set_option linter.all false
set_option maxRecDepth 100000
set_option maxHeartbeats 4000000
namespace Cl
open PySem PySem.Spec PyProof.Rows L2 StX ClX
def FnP (P : Program) (w : World) (K : PySem.W.Frag) (mg : PySem.Str → Option Value) (base : Heap) (k : Nat) (f : Addr) (sp : Sp) : Prop :=
  ∀ (A : Around) (outer : List Env) (s : Shared) (H : Hp) (us : List Value) (vs : List V) (Q : VK) (E : XK), Room k A → A.guards = some [] → Env0 P w K mg base A outer s H → Vals vs us → sp vs H Q E →
    codeAny (model P w) A (.call (.ref f) ⟨us, []⟩) (CR (L2.CX P w) outer P w H s Q E) s
theorem FnP.of {P : Program} {w : World} {K : PySem.W.Frag} {mg : PySem.Str → Option Value} {base : Heap} {k n : Nat} {f : Addr} {sp : Sp} (h : FnG P w K mg base k f n [] sp) : FnP P w K mg base k f fun vs H Q E => vs.length = n ∧ sp vs H Q E :=
  fun A outer s H us vs Q E room gd e0 r q => h A outer s H us [] vs Q E room gd e0 (by rw [← r.length]; exact q.1) rfl (by simpa using r) q.2
theorem FnP.mono {P : Program} {w : World} {K : PySem.W.Frag} {mg : PySem.Str → Option Value} {base : Heap} {j k : Nat} {f : Addr} {sp : Sp} (h : FnP P w K mg base j f sp) (hj : j ≤ k) : FnP P w K mg base k f sp :=
  fun A outer s H us vs Q E room => h A outer s H us vs Q E (room.mono hj)

section
variable {G : Gd} {P : Program} {w : World} {K : PySem.W.Frag} {mg : PySem.Str → Option Value} {base : Heap} {k : Nat} {N ps : List PySem.Str} {pv x qual : PySem.Str} {params : Arguments} {body : List Stmt} {scope : Scope} {dvs : List V} {kws : List (PySem.Str × V)} {f : Addr} {fd : FuncData} {g : Sm}
def spStar (G : Gd) (N : List PySem.Str) (F : Fm) (m : Nat) : Sp := fun vs H Q E => m ≤ vs.length ∧ vs.length ≤ sizeLine ∧ ∀ p, H p = none → spC G N F (vs.take m ++ [V.ref p]) (upd H p (.tup (vs.drop m))) Q E
theorem fn_bodyS (F : FunD K x qual params body scope [] kws f fd) (S : FnScope N (ps ++ [pv]) scope)
    (hbi : ∀ (kV doc pm : Value) (an : Option Addr) (cdv ct : Value) (us rest : List Value), us.length = ps.length → bindArgs (PySem.W.fnOf x qual params body scope .none kV doc pm an cdv ct) ⟨us ++ rest, []⟩ = (newTuple rest >>= fun t => pure (ps.zip us ++ [(pv, t)])))
    (hb : BodyC G P w K mg base k N qual scope f body g) : FnP P w K mg base (k + 1) f (spStar G N (runF N.length g) ps.length) := by
  intro A outer s H us vs Q E room gd e0 r q
  obtain ⟨oc, od, dV, kV, doc, pm, an, cdv, ct, osl, rfl, lk, hcd, hD, _⟩ := F.ex
  obtain rfl : dV = .none := by
    rcases hD with ⟨_, z⟩ | ⟨z, _⟩
    · exact z
    · exact absurd rfl z
  obtain ⟨hm, hz, hq⟩ := q
  have tk : ∀ s2 H2, Takes (cxB P w K mg base N qual scope f cdv A outer s2 H2 E) (wxB E) := fun s2 H2 => takes_of rfl rfl rfl rfl
  have lv : vs.length = us.length := r.length
  have ru : Vals (vs.take ps.length ++ vs.drop ps.length) us := by rw [List.take_append_drop]; exact r
  -- the body at its entry, with the guards that this call knows
  have kin : K.In s.heap := e0.mod.kin.keeps fun b o z => (e0.bs b o z).1
  obtain ⟨u1, u2, rfl, r1, r2⟩ := vals_split ru
  have hn : H s.heap.objs.size = Option.none := e0.hok.fresh (Nat.le_refl _)
  have hl1 : u1.length = ps.length := by rw [← r1.length, List.length_take]; omega
  have hl2 : u2.length ≤ sizeLine := by rw [← r2.length, List.length_drop]; omega
  refine run_bnd lk hcd S room e0 (G := fun xs H2 => ∃ p, H p = Option.none ∧ xs = vs.take ps.length ++ [V.ref p] ∧ H2 = upd H p (.tup (vs.drop ps.length))) (fun A' Ex Q' h => ?_) fun s2 H2 xs ⟨p, hp, ex, eH⟩ hr' => ?_
  · rw [hbi kV doc pm an cdv ct u1 u2 hl1]
    refine wpAny_bind (wpAny_newTuple (wpAny_pure ?_) hl2)
    have new : ObjOk P w (upd H s.heap.objs.size (.tup (vs.drop ps.length))) (s.heap.push ({ cls := .type "tuple", data := .seq u2.toArray } : Obj)) s.heap.objs.size (.tup (vs.drop ps.length)) :=
      ⟨by rw [r2.length]; exact hl2, u2, r2, ⟨_, Heap.get?_push_size _ rfl, rfl, _, rfl⟩⟩
    have un := un_laid (fs := frs outer) (s := s) (o := ({ cls := .type "tuple", data := .seq u2.toArray } : Obj)) (u := .tup (vs.drop ps.length)) hn
    have z := h _ _ (vs.take ps.length ++ [V.ref s.heap.objs.size]) (u1 ++ [Value.ref s.heap.objs.size]) (env0_laid e0 new) un rfl (fun er s' => cxUp outer s H _ _ E er s' un (fun b o q => Heap.get?_push_of_some _ q) rfl)
      (r1.append (.cons rfl .nil)) (by rw [List.length_append, List.length_append, r1.length, hl1] <;> rfl) ⟨_, hn, rfl, rfl⟩
    rw [List.zip_append hl1.symm] at z
    exact z
  · subst ex eH
    exact ⟨_, (hb cdv A outer s2 _ E hr' gd (tk _ _)).pss, body_in (hq p hp)⟩
end

def RunOk (G : Gd) (X : Cx) (Wx : WX) (a : Addr) (Fc : List SV → Cm SV) : Prop :=
  ∀ (pn : List (Addr × Obj)) (s : Shared) (σ : Sg) (H : Hp) (Q : VK) (us : List Value) (vs : List V) (xs : List SV) (W : Wd) (st : ST), Inv X pn σ H s → R G W st σ H → RepSs G W σ xs vs → Vals vs us → OutE G Wx W st σ H (Fc xs st) Q →
    wpAny (model X.prog X.w) X.A (call (.ref a) us) (EP X pn σ Q) X.xe s
def fcDef (n : Nat) (pl : Plan) (F : Fm) : List SV → Cm SV := fun xs st => if xs.length = n then cRun F st (pickS pl xs) else .stuck
def fcStar (m : Nat) (F : Fm) : List SV → Cm SV := fun xs st => match trees (xs.drop m) with
  | some ps => if m ≤ xs.length ∧ szOk xs.length = true then cRun F st (xs.take m ++ [.t (.tup ps)]) else .stuck
  | none => .stuck
section
variable {G : Gd} {X : Cx} {Wx : WX} {k n : Nat} {f : Addr} {N : List PySem.Str} {pl : Plan} {F : Fm}
theorem run_fnP {pn : List (Addr × Obj)} {σ : Sg} {H : Hp} {s : Shared} {Q : VK} {us : List Value} {vs : List V} {sp : Sp} (hf : FnP X.prog X.w X.K X.mg X.base k f sp) (room : Room k X.A) (gd : X.A.guards = some []) (tk : Takes X Wx)
    (I : Inv X pn σ H s) (r : Vals vs us) (h : sp vs H Q fun cls d H' => Wx cls d σ H') : wpAny (model X.prog X.w) X.A (call (.ref f) us) (EP X pn σ Q) X.xe s := by
  refine wpAny_call (codeAny_mono (hf X.A X.stack s H us vs Q _ room gd I.env0 r h) fun z s' q => ?_)
  cases z with
  | error er => exact tk er s' (XE.of_call I (fun cls d H' w => w) q)
  | ok fl =>
    cases fl with
    | ret u => exact I.after q
    | next => exact False.elim q
    | brk => exact False.elim q
    | cont => exact False.elim q
theorem RunOk.def_ (hf : FnG X.prog X.w X.K X.mg X.base k f n [] fun vs H Q E => spC G N F (pickV pl vs) H Q E) (hp : planOk pl = true) (room : Room k X.A) (gd : X.A.guards = some []) (tk : Takes X Wx) : RunOk G X Wx f (fcDef n pl F) := by
  intro pn s σ H Q us vs xs W st I r hs rv o
  unfold fcDef at o
  split at o
  · rename_i hl
    have l : xs.length = vs.length := Paired.length hs
    exact run_fnP (FnP.of hf) room gd tk I rv ⟨by rw [← l]; exact hl, run_in r (pick_rep hs hp) o⟩
  · exact o.elim
theorem RepSs.take {W : Wd} {σ : Sg} : ∀ {xs : List SV} {vs : List V} (m : Nat), RepSs G W σ xs vs → RepSs G W σ (xs.take m) (vs.take m)
  | _, _, 0, _ => .nil
  | _, _, _ + 1, .nil => .nil
  | _, _, m + 1, .cons r l => .cons r (RepSs.take m l)
theorem RepSs.drop {W : Wd} {σ : Sg} : ∀ {xs : List SV} {vs : List V} (m : Nat), RepSs G W σ xs vs → RepSs G W σ (xs.drop m) (vs.drop m)
  | _, _, 0, h => h
  | _, _, _ + 1, .nil => .nil
  | _, _, m + 1, .cons r l => RepSs.drop m l
theorem RepSs.app {W : Wd} {σ : Sg} : ∀ {xs ys : List SV} {vs us : List V}, RepSs G W σ xs vs → RepSs G W σ ys us → RepSs G W σ (xs ++ ys) (vs ++ us)
  | _, _, _, _, .nil, h => h
  | _, _, _, _, .cons r l, h => .cons r (RepSs.app l h)
theorem RepSs.mono {W W' : Wd} {σ : Sg} (f : Same W.F W'.F) (a : W'.A = W.A) : ∀ {xs : List SV} {vs : List V}, RepSs G W σ xs vs → RepSs G W' σ xs vs
  | _, _, .nil => .nil
  | _, _, .cons r l => .cons (r.mono f a) (RepSs.mono f a l)
theorem star_in {W : Wd} {st : ST} {σ : Sg} {H : Hp} {Q : VK} {m : Nat} {xs : List SV} {vs : List V} (r : R G W st σ H) (hs : RepSs G W σ xs vs) (o : OutE G Wx W st σ H (fcStar m F xs st) Q) : spStar G N F m vs H Q fun cls d H' => Wx cls d σ H' := by
  unfold fcStar at o
  split at o
  · rename_i ps e
    split at o
    · rename_i hl
      have l : xs.length = vs.length := Paired.length hs
      refine ⟨by rw [← l]; exact hl.1, by rw [← l]; exact szOk_le hl.2, fun p hp => ?_⟩
      have q := trees_rep (hs.drop m) e
      have st1 := r.step_new (o := .tup (vs.drop m)) hp
      refine run_in (r.new hp) (RepSs.app ((hs.take m).mono st1.f rfl) (.cons (show RepS G _ σ (.t (.tup ps)) (.ref p) from Rep.tup upd_same (q.mono st1.f)) .nil)) (OutA.from o st1)
    · exact o.elim
  · exact o.elim
theorem RunOk.star {m : Nat} (hf : FnP X.prog X.w X.K X.mg X.base k f (spStar G N F m)) (room : Room k X.A) (gd : X.A.guards = some []) (tk : Takes X Wx) : RunOk G X Wx f (fcStar m F) := by
  intro pn s σ H Q us vs xs W st I r hs rv o
  exact run_fnP hf room gd tk I rv (star_in r hs o)
def Prom (G : Gd) (Wx : WX) (sp : Sp) (Fc : List SV → Cm SV) : Prop :=
  ∀ (W : Wd) (st : ST) (σ : Sg) (H : Hp) (Q : VK) (xs : List SV) (vs : List V), R G W st σ H → RepSs G W σ xs vs → OutE G Wx W st σ H (Fc xs st) Q → sp vs H Q fun cls d H' => Wx cls d σ H'
theorem Prom.def_ (hp : planOk pl = true) : Prom G Wx (fun vs H Q E => vs.length = n ∧ spC G N F (pickV pl vs) H Q E) (fcDef n pl F) := by
  intro W st σ H Q xs vs r hs o
  unfold fcDef at o
  split at o
  · rename_i hl
    have l : xs.length = vs.length := Paired.length hs
    exact ⟨by rw [← l]; exact hl, run_in r (pick_rep hs hp) o⟩
  · exact o.elim
theorem Prom.star {m : Nat} : Prom G Wx (spStar G N F m) (fcStar m F) := fun W st σ H Q xs vs r hs o => star_in r hs o
theorem RunOk.of {sp : Sp} {Fc : List SV → Cm SV} (hf : FnP X.prog X.w X.K X.mg X.base k f sp) (p : Prom G Wx sp Fc) (room : Room k X.A) (gd : X.A.guards = some []) (tk : Takes X Wx) : RunOk G X Wx f Fc :=
  fun pn s σ H Q us vs xs W st I r hs rv o => run_fnP hf room gd tk I rv (p W st σ H Q xs vs r hs o)

def push (st : ST) (c : MC) : ST := { st with loc := st.loc ++ [some (.m c)] }
def pop (st : ST) : ST := { st with loc := st.loc.dropLast }
def fcMake (c : Nat) (Fi : List SV → Cm SV) : List SV → Cm SV := fun xs st =>
  match Fi (.pl (.sl st.loc.length) :: xs) (push st (.obj c [])) with
  | .ok (.t .non) st2 => match st2.loc.getLast? with
    | some (some (.m m)) => .ok (.t m.pv) (pop st2)
    | _ => .stuck
  | .exc c fs st2 => .exc c fs (pop st2)
  | _ => .stuck
theorem owned_snoc : ∀ {ls : List (Option SL)} {vs : Sg} {c : MC} {a : Addr}, ls.length = vs.length → owned (ls ++ [some (.m c)]) (vs ++ [some (.ref a)]) = owned ls vs ++ [a]
  | [], [], _, _, _ => rfl
  | l :: ls, v :: vs, c, a, e => by
    have ih := owned_snoc (ls := ls) (vs := vs) (c := c) (a := a) (by simpa using e)
    cases l with
    | none => cases v <;> exact ih
    | some y =>
      cases y with
      | m d =>
        cases v with
        | none => exact ih
        | some w => cases w <;> first | exact congrArg (List.cons _) ih | exact ih
      | t p => cases v <;> exact ih
      | i n => cases v <;> exact ih
  | [], _ :: _, _, _, e => by simp at e
  | _ :: _, [], _, _, e => by simp at e
theorem RepLoc.snoc {W : Wd} {H : Hp} : ∀ {ls : List (Option SL)} {vs : Sg} {l : SL} {v : V}, RepLoc G W H ls vs → RepSl G W H l v → RepLoc G W H (ls ++ [some l]) (vs ++ [some v])
  | [], [], _, _, _, h => ⟨h, trivial⟩
  | none :: ls, _ :: vs, _, _, r, h => RepLoc.snoc (ls := ls) (vs := vs) r h
  | some _ :: ls, some _ :: vs, _, _, ⟨q, r⟩, h => ⟨q, RepLoc.snoc r h⟩
  | [], _ :: _, _, _, h, _ => h.elim
  | some _ :: _, [], _, _, h, _ => h.elim
  | none :: _, [], _, _, h, _ => h.elim
  | some _ :: _, none :: _, _, _, h, _ => h.elim
theorem RepLoc.unsnoc {W : Wd} {H : Hp} : ∀ {ls : List (Option SL)} {vs : Sg} {v : V}, RepLoc G W H ls (vs ++ [some v]) → ∃ ls' l, ls = ls' ++ [l] ∧ ls'.length = vs.length ∧ RepLoc G W H ls' vs ∧ ∀ y, l = some y → RepSl G W H y v
  | [], vs, _, h => by cases vs <;> exact h.elim
  | [none], [], _, _ => ⟨[], none, rfl, rfl, trivial, fun y e => nomatch e⟩
  | [some l], [], _, ⟨q, _⟩ => ⟨[], some l, rfl, rfl, trivial, fun y e => by cases e; exact q⟩
  | none :: l2 :: ls, [], _, h => by cases l2 <;> exact (show False from h).elim
  | some l :: l2 :: ls, [], _, ⟨_, h⟩ => by cases l2 <;> exact (show False from h).elim
  | none :: ls, v0 :: vs, v, h => by
    obtain ⟨ls', l, e, hl, r, k⟩ := RepLoc.unsnoc (ls := ls) (vs := vs) h
    exact ⟨none :: ls', l, by rw [e]; rfl, congrArg (· + 1) hl, r, k⟩
  | some l0 :: ls, some v0 :: vs, v, ⟨q, h⟩ => by
    obtain ⟨ls', l, e, hl, r, k⟩ := RepLoc.unsnoc (ls := ls) (vs := vs) h
    exact ⟨some l0 :: ls', l, by rw [e]; rfl, congrArg (· + 1) hl, ⟨q, r⟩, k⟩
  | some _ :: _, none :: _, _, h => h.elim
theorem R.push {W : Wd} {st : ST} {σ : Sg} {H H2 : Hp} {c : MC} {a : Addr} (r : R G W st σ H) (hn : H a = none) (hs : Same H H2) (m : RepM G W.F H2 c a) : R G W (Cl.push st c) (σ ++ [some (.ref a)]) H2 := by
  have fa : W.F a = none := by
    cases e : W.F a with
    | none => rfl
    | some u => have := r.le a u e; rw [hn] at this; cases this
  have r2 : R G W st σ H2 := by
    have q := r.grow (F' := W.F) (H' := H2) (Same.refl _) (fun b u e _ => hs b u e) (fun b u e => hs b u (r.le b u e)) fun b => .inl rfl
    exact q
  have oe : own W (Cl.push st c) (σ ++ [some (.ref a)]) = owned st.loc σ ++ ([a] ++ W.A) := by
    unfold own Cl.push
    rw [owned_snoc r.loc.length, List.append_assoc]
  have mem : ∀ b, b ∈ own W (Cl.push st c) (σ ++ [some (.ref a)]) ↔ b = a ∨ b ∈ own W st σ := fun b => by
    rw [oe]; unfold own; simp only [List.mem_append, List.mem_singleton]
    constructor
    · rintro (h | h | h)
      · exact .inr (.inl h)
      · exact .inl h
      · exact .inr (.inr h)
    · rintro (h | h | h)
      · exact .inr (.inl h)
      · exact .inl h
      · exact .inr (.inr h)
  have na : a ∉ own W st σ := r.notown hn
  refine ⟨r2.le, r2.inh, RepLoc.snoc r2.loc ⟨a, rfl, m⟩, ?_, fun b hb => ?_⟩
  · rw [oe]
    obtain ⟨n1, n2, n3⟩ := List.nodup_append.mp r.nd
    refine List.nodup_append.mpr ⟨n1, List.nodup_cons.mpr ⟨fun h => na (List.mem_append_right _ h), n2⟩, fun x hx y hy => ?_⟩
    rcases List.mem_cons.mp hy with z | z
    · intro q; exact na (List.mem_append_left _ (by rw [← z, ← q]; exact hx))
    · exact n3 x hx y z
  · rcases (mem b).mp hb with z | z
    · rw [z]; exact fa
    · exact r.fr b z
theorem R.pop {W : Wd} {st : ST} {σ : Sg} {H : Hp} {a : Addr} (r : R G W st (σ ++ [some (.ref a)]) H) : R G W (Cl.pop st) σ H ∧ (∀ b ∈ own W (Cl.pop st) σ, b ∈ own W st (σ ++ [some (.ref a)])) ∧
    ∀ c, st.loc.getLast? = some (some (.m c)) → RepM G W.F H c a ∧ a ∉ own W (Cl.pop st) σ ∧ W.F a = none := by
  obtain ⟨ls', l, e, hl, rl, k⟩ := RepLoc.unsnoc r.loc
  have hp : (Cl.pop st).loc = ls' := by unfold Cl.pop; simp [e]
  have ho : ∀ b ∈ owned ls' σ, b ∈ owned st.loc (σ ++ [some (.ref a)]) := fun b hb => by
    rw [e]
    have go : ∀ {ls : List (Option SL)} {vs : Sg} (x : Option SL) (y : Option V), ls.length = vs.length → ∀ b ∈ owned ls vs, b ∈ owned (ls ++ [x]) (vs ++ [y]) := by
      intro ls
      induction ls with
      | nil => intro vs x y e b h; cases h
      | cons l0 ls ih =>
        intro vs x y e b h
        cases vs with
        | nil => simp at e
        | cons v0 vs =>
          have ih' := ih (vs := vs) x y (by simpa using e) b
          cases l0 with
          | none => cases v0 <;> exact ih' h
          | some z =>
            cases z with
            | m d =>
              cases v0 with
              | none => exact ih' h
              | some w =>
                cases w with
                | ref a0 =>
                  rcases List.mem_cons.mp h with q | q
                  · subst q; exact List.mem_cons_self ..
                  · exact List.mem_cons_of_mem _ (ih' q)
                | _ => exact ih' h
            | t p => cases v0 <;> exact ih' h
            | i n => cases v0 <;> exact ih' h
    exact go _ _ hl b hb
  have sub : ∀ b ∈ own W (Cl.pop st) σ, b ∈ own W st (σ ++ [some (.ref a)]) := fun b hb => by
    rcases List.mem_append.mp hb with z | z
    · rw [hp] at z; exact List.mem_append_left _ (ho b z)
    · exact List.mem_append_right _ z
  have nd : (own W (Cl.pop st) σ).Nodup := by
    have q : (owned ls' σ).Sublist (owned st.loc (σ ++ [some (.ref a)])) := by
      rw [e]
      have go : ∀ {ls : List (Option SL)} {vs : Sg} (x : Option SL) (y : Option V), ls.length = vs.length → (owned ls vs).Sublist (owned (ls ++ [x]) (vs ++ [y])) := by
        intro ls
        induction ls with
        | nil => intro vs x y e; cases vs <;> exact List.nil_sublist _
        | cons l0 ls ih =>
          intro vs x y e
          cases vs with
          | nil => simp at e
          | cons v0 vs =>
            have ih' := ih (vs := vs) x y (by simpa using e)
            cases l0 with
            | none => cases v0 <;> exact ih'
            | some z =>
              cases z with
              | m d =>
                cases v0 with
                | none => exact ih'
                | some w => cases w <;> first | exact ih'.cons_cons _ | exact ih'
              | t p => cases v0 <;> exact ih'
              | i n => cases v0 <;> exact ih'
      exact go _ _ hl
    show (owned (Cl.pop st).loc σ ++ W.A).Nodup
    rw [hp]
    exact r.nd.sublist (q.append (List.Sublist.refl _))
  refine ⟨⟨r.le, r.inh, by rw [hp]; exact rl, nd, fun b hb => r.fr b (sub b hb)⟩, sub, fun c hc => ?_⟩
  have el : l = some (.m c) := by rw [e] at hc; simpa using hc
  subst el
  obtain ⟨a', ea, m⟩ := k _ rfl
  cases ea
  have oe : own W st (σ ++ [some (.ref a)]) = owned ls' σ ++ ([a] ++ W.A) := by unfold own; rw [e, owned_snoc hl, List.append_assoc]
  have ha : a ∈ own W st (σ ++ [some (.ref a)]) := by rw [oe]; simp
  refine ⟨m, fun h => ?_, r.fr a ha⟩
  have nd2 := r.nd
  rw [oe] at nd2
  obtain ⟨n1, n2, n3⟩ := List.nodup_append.mp nd2
  rcases List.mem_append.mp h with z | z
  · rw [hp] at z; exact n3 a z a (by simp) rfl
  · exact (List.nodup_cons.mp n2).1 z
end
end Cl
set_option Elab.async false
set_option linter.all false
set_option maxRecDepth 100000
set_option maxHeartbeats 4000000
namespace Cl
open PySem PySem.Spec PyProof.Rows L2 StX ClX
section
variable {G : Gd} {X : Cx} {Wx : WX} {k n c : Nat} {f fi : Addr} {N : List PySem.Str} {pl : Plan} {F : Fm} {sp : Sp} {Fc Fi : List SV → Cm SV}
theorem make_guards {A : Around} {C : Addr} {us : List Value} {kw : List (PySem.Str × Value)} (h : A.guards = some []) : (A.under (.builtin "type.__call__" ⟨.ref C :: us, kw⟩)).guards = some [] := by
  show pushGuards (Code.guards (.builtin "type.__call__" ⟨.ref C :: us, kw⟩)) A.guards = _
  rw [h]
  first | rfl | decide | simp [Code.guards, Code.isGuard, guardIds, pushGuards]
def wxS (Wx : WX) (σ : Sg) : WX := fun cls d _ H => Wx cls d σ H
theorem make_in {W : Wd} {st : ST} {σ : Sg} {H H2 : Hp} {Q : VK} {xs : List SV} {a : Addr} (r : R G W st σ H) (hn : H a = none) (hs : Same H H2) (hb : ∀ b, H2 b = none → H b = none) (m : H2 a = some (.ins (G.cls c) dx []))
    (o : OutE G Wx W st σ H (fcMake c Fi xs st) Q) :
    R G W (push st (.obj c [])) (σ ++ [some (.ref a)]) H2 ∧ OutE G (wxS Wx σ) W (push st (.obj c [])) (σ ++ [some (.ref a)]) H2 (Fi (.pl (.sl st.loc.length) :: xs) (push st (.obj c []))) fun v H3 => v = .non ∧ Q (.ref a) H3 := by
  have r2 : R G W (push st (.obj c [])) (σ ++ [some (.ref a)]) H2 := r.push hn hs ⟨dx, [], m, .nil⟩
  have oe : ∀ b, b ∈ own W (push st (.obj c [])) (σ ++ [some (.ref a)]) → b ∈ own W st σ ∨ b = a := fun b h => by
    unfold own push at h
    rw [owned_snoc r.loc.length] at h
    simp only [List.mem_append, List.mem_singleton] at h
    unfold own
    rw [List.mem_append]
    rcases h with (h | h) | h
    · exact .inl (.inl h)
    · exact .inr h
    · exact .inl (.inr h)
  -- a later state seen from ahead of the new thing
  have back : ∀ {W' : Wd} {st2 : ST} {H' : Hp}, R G W' st2 (σ ++ [some (.ref a)]) H' → Step (own W (push st (.obj c [])) (σ ++ [some (.ref a)])) W H2 (own W' st2 (σ ++ [some (.ref a)])) W' H' →
      Step (own W st σ) W H (own W' (pop st2) σ) W' H' := fun {W' st2 H'} r' s' => by
    obtain ⟨_, sub, _⟩ := r'.pop
    refine ⟨s'.f, s'.a, fun b => ?_, fun b h => ?_, fun b u e h => ?_⟩
    · rcases s'.nf b with z | z | z
      · exact .inl z
      · exact .inr (.inl (hb b z))
      · rcases oe b z with y | y
        · exact .inr (.inr y)
        · exact .inr (.inl (by rw [y]; exact hn))
    · rcases s'.no b (sub b h) with z | z
      · rcases oe b z with y | y
        · exact .inl y
        · exact .inr (by rw [y]; exact hn)
      · exact .inr (hb b z)
    · refine s'.keep b u (hs b u e) fun z => ?_
      rcases oe b z with y | y
      · exact h y
      · rw [y, hn] at e; cases e
  refine ⟨r2, ?_⟩
  unfold fcMake at o
  cases ef : Fi (.pl (.sl st.loc.length) :: xs) (push st (.obj c [])) with
  | ok v st2 =>
    rw [ef] at o
    intro W' H' u r' s' q
    cases v with
    | t p =>
      cases p with
      | non =>
        cases q
        refine ⟨rfl, ?_⟩
        dsimp only at o
        split at o
        · rename_i mm hl
          obtain ⟨r3, sub, k⟩ := r'.pop
          obtain ⟨m3, na, fa⟩ := k mm hl
          obtain ⟨ob, e1, e2⟩ := m3.frozen fa
          refine o ⟨upd W'.F a ob, W'.A⟩ H' (.ref a) (r3.freeze e1 na fa) ?_ e2
          have b3 := back r' s'
          refine ⟨b3.f.trans (same_upd fa), b3.a, fun b => ?_, b3.no, b3.keep⟩
          by_cases q : b = a
          · subst q; exact .inr (.inl hn)
          · rcases b3.nf b with z | z
            · exact .inl ((upd_ne q).trans z)
            · exact .inr z
        · exact o.elim
      | _ => exact o.elim
    | pl q => exact o.elim
  | exc c2 fs st2 =>
    rw [ef] at o
    intro W' H' d r' s' q
    exact o W' H' d r'.pop.1 (back r' s') q
  | stuck => rw [ef] at o; exact o.elim

theorem RunOk.make (M : Mk X.K (G.cls c) fi) (hf : FnP X.prog X.w X.K X.mg X.base k fi sp) (hp : ∀ Wx, Prom G Wx sp Fi) (room : Room (k + 1) X.A) (gd : X.A.guards = some []) (tk : Takes X Wx) : RunOk G X Wx (G.cls c) (fcMake c Fi) := by
  intro pn s σ H Q us vs xs W st I r hs rv o
  have I2 := Inv.made (C := G.cls c) I
  have n1 : H (s.heap.objs.size + 1) = none := I.hok.fresh (Nat.le_succ _)
  have n0 : H s.heap.objs.size = none := I.hok.fresh (Nat.le_refl _)
  have ne : s.heap.objs.size ≠ s.heap.objs.size + 1 := Nat.ne_of_lt (Nat.lt_succ_self _)
  have sm : Same H (upd (upd H s.heap.objs.size (.own (s.heap.objs.size + 1))) (s.heap.objs.size + 1) (.ins (G.cls c) s.heap.objs.size [])) := fun b u e => by
    rw [upd_ne (ne_of_none e n1), upd_ne (ne_of_none e n0)]; exact e
  have bk : ∀ b, (upd (upd H s.heap.objs.size (.own (s.heap.objs.size + 1))) (s.heap.objs.size + 1) (.ins (G.cls c) s.heap.objs.size [])) b = none → H b = none := fun b e => by
    cases q : H b with
    | none => rfl
    | some u => have := sm b u q; rw [e] at this; cases this
  obtain ⟨r2, o2⟩ := make_in (Wx := Wx) r n1 sm bk upd_same o
  have hs2 : RepSs G W (σ ++ [some (.ref (s.heap.objs.size + 1))]) (.pl (.sl st.loc.length) :: xs) (.ref (s.heap.objs.size + 1) :: vs) := by
    refine .cons ?_ (Paired.mono (fun x v z => ?_) hs)
    · show (σ ++ [some (V.ref (s.heap.objs.size + 1))])[st.loc.length]? = _
      rw [r.loc.length]
      simp
    · cases x with
      | t p => exact z
      | pl q =>
        cases q with
        | sl j =>
          have z : σ[j]? = some (some v) := z
          show (σ ++ [some (V.ref (s.heap.objs.size + 1))])[j]? = some (some v)
          rw [List.getElem?_append_left (List.getElem?_eq_some_iff.mp z).1]
          exact z
        | ih n => exact z
  have hq := hp (wxS Wx σ) W _ _ _ _ _ _ r2 hs2 o2
  have rv2 : Vals (V.ref (s.heap.objs.size + 1) :: vs) (Value.ref (s.heap.objs.size + 1) :: us) := .cons rfl rv
  refine wpAny_call (make_map (f := fi) I.kIn M.makes M.init (beq_iff_eq.mp M.fn) (codeAny_mono (hf _ X.stack _ _ (Value.ref (s.heap.objs.size + 1) :: us) _ _ _ (room.make (G.cls c) us []) (make_guards gd) (I2.env0.make (G.cls c) us []) rv2 hq) fun z s' q => ?_))
  cases z with
  | error er => exact tk er s' (XE.of_call I2 (fun cls d H' w => w) q)
  | ok fl =>
    cases fl with
    | ret u =>
      obtain ⟨v, H', I3, rv3, ev, q3⟩ := I2.after q
      subst ev
      exact ⟨rv3, ⟨V.ref (s.heap.objs.size + 1), H', I3, rfl, q3⟩⟩
    | next => exact False.elim q
    | brk => exact False.elim q
    | cont => exact False.elim q
end
end Cl
set_option Elab.async false
set_option linter.all false
set_option maxRecDepth 100000
set_option maxHeartbeats 4000000
namespace Cl
open PySem PySem.Spec PyProof.Rows L2 StX ClX
def cCallF (Fc : List SV → Cm SV) (fs : Cm (List SV)) : Cm SV := fun st => (fs st).bind fun xs st1 => Fc xs st1
section
variable {G : Gd} {X : Cx} {Wx : WX} {k n c i : Nat} {f g q : Addr} {Fc : List SV → Cm SV} {x m : PySem.Str} {p pos apos sp_ : Pos} {e o : Expr} {es : List Expr} {fe fo : Cm SV} {fs : Cm (List SV)} {pl : Sem Bool}
theorem callF_step {σ : Sg} {H : Hp} {Q : VK} (h : tE G Wx (cCallF Fc fs) σ H Q) : tL G Wx fs σ H fun vs H1 => ∃ W st xs, R G W st σ H1 ∧ RepSs G W σ xs vs ∧ OutE G Wx W st σ H1 (Fc xs st) Q :=
  tA_mono (tA_seq (rel := RepSs G) (rel' := RepS G) h) fun vs H1 ⟨W, st, xs, a, b, c⟩ => ⟨W, st, xs, a, b, c⟩
theorem ce_call (hk : PySem.W.keepIn X.K (.ref f) = true) (hr : RunOk G X Wx f Fc) (hg : Gl X x) (hm : X.mg x = some (.ref f)) (ha : CA G X Wx (e :: es) fs) (hd : (x == ("__debug__" : PySem.Str)) = false := by decide)
    (he : starEach (e :: es) X.env = (false, eval e X.env) :: starEach es X.env := by rfl) (hpl : (backTo pos (starEach es X.env)).any (·.1) = false := by rfl) : CE G X Wx (.Call (.Name x p) (e :: es) [] pos) (cCallF Fc fs) := by
  refine ⟨⟨fun pn s σ H Q I h => ?_⟩⟩
  refine wpAny_Call_Name_kw (ld_glob I hg hm ?_ hd)
  refine PySem.W.callWith_K (h₀ := X.base) I.ok.mod.kin hk (thn (ha.pa.run pos pn s σ H _ I (callF_step h)) fun us s1 ⟨vs, H1, I1, r, W, st, xs, r1, q1, o⟩ => ⟨I1.kIn, ?_⟩) he hpl
  exact hr pn s1 σ H1 Q us vs xs W st I1 r1 q1 r o
theorem ce_call0 (hk : PySem.W.keepIn X.K (.ref f) = true) (hr : RunOk G X Wx f Fc) (hg : Gl X x) (hm : X.mg x = some (.ref f)) (hd : (x == ("__debug__" : PySem.Str)) = false := by decide) : CE G X Wx (.Call (.Name x p) [] [] pos) (cCallF Fc cNil) := by
  refine ⟨⟨fun pn s σ H Q I ⟨W, st, r, o⟩ => ?_⟩⟩
  refine wpAny_Call_Name_kw (ld_glob I hg hm ?_ hd)
  exact PySem.W.callWith_K0 I.kIn hk (hr pn s σ H Q [] [] [] W st I r .nil .nil o)
def starO (fr : Cm (List SV)) (x : SV) (st1 : ST) : Out (List SV) :=
  match view st1 x with
  | some (.lst ps) => (fr st1).bind fun ys st2 => .ok (ps.map .t ++ ys) st2
  | some (.tup ps) => (fr st1).bind fun ys st2 => .ok (ps.map .t ++ ys) st2
  | _ => .stuck
def cStar (fe : Cm SV) (fr : Cm (List SV)) : Cm (List SV) := fun st => (fe st).bind fun x st1 => starO fr x st1
theorem RepL.svs {W : Wd} {σ : Sg} : ∀ {ps : List PV} {vs : List V}, RepL G W.F ps vs → RepSs G W σ (ps.map .t) vs
  | _, _, .nil => .nil
  | _, _, .cons r l => .cons r (RepL.svs l)
theorem star_seq {W : Wd} {st : ST} {σ : Sg} {H : Hp} {v : V} {y : SV} {Q : List V → Hp → Prop} (r : R G W st σ H) (h : RepS G W σ y v) (ho : OutL G Wx W st σ H (starO fs y st) Q) :
    ∃ a xs, v = .ref a ∧ (SqT X.K H a xs ∨ SqL X.K H a xs) ∧ tL G Wx fs σ H fun zs H2 => Q (xs ++ zs) H2 := by
  have fin : ∀ {ps : List PV} {vs : List V}, RepL G W.F ps vs → OutL G Wx W st σ H ((fs st).bind fun ys st2 => .ok (ps.map .t ++ ys) st2) Q → tL G Wx fs σ H fun zs H2 => Q (vs ++ zs) H2 := fun {ps vs} l o => by
    refine tA_mono (tA_then (rel := RepSs G) (rel' := RepSs G) r o) fun zs H2 ⟨W2, st2, ys, r2, f2, a2, q2, o2⟩ => ?_
    exact o2 W2 H2 (vs ++ zs) r2 Step.refl (RepSs.app (RepL.svs (l.mono f2)) q2)
  unfold starO at ho
  split at ho
  · rename_i ps e
    obtain ⟨a, vs, rfl, d, l⟩ := r.view h e
    exact ⟨a, vs, rfl, .inr (.inl (.inl d)), fin l ho⟩
  · rename_i ps e
    obtain ⟨a, vs, rfl, d, l⟩ := r.view h e
    exact ⟨a, vs, rfl, .inl (.inl (.inl (r.le _ _ d))), fin l ho⟩
  · exact ho.elim
theorem star_step {σ : Sg} {H : Hp} {Q : List V → Hp → Prop} (h : tL G Wx (cStar fe fs) σ H Q) : tE G Wx fe σ H fun v H1 => ∃ a xs, v = .ref a ∧ (SqT X.K H1 a xs ∨ SqL X.K H1 a xs) ∧ tL G Wx fs σ H1 fun zs H2 => Q (xs ++ zs) H2 :=
  tA_mono (tA_seq (rel := RepS G) (rel' := RepSs G) h) fun v H1 ⟨W1, st1, y, r1, q1, o⟩ => star_seq r1 q1 o
theorem ca_star (he : CE G X Wx e fe) (hr : CA G X Wx es fs) (hs : starEach (.Starred e p :: es) X.env = (true, eval e X.env) :: starEach es X.env := by rfl) : CA G X Wx (.Starred e p :: es) (cStar fe fs) :=
  ⟨pa_imp (pa_star he.pe hr.pa hs) fun σ H Q h => star_step h⟩
theorem ce_callS (hk : PySem.W.keepIn X.K (.ref f) = true) (hr : RunOk G X Wx f Fc) (hg : Gl X x) (hm : X.mg x = some (.ref f)) (he : CE G X Wx e fe) (hd : (x == ("__debug__" : PySem.Str)) = false := by decide)
    (hst : starEach [.Starred e sp_] X.env = [(true, eval e X.env)] := by rfl) : CE G X Wx (.Call (.Name x p) [.Starred e sp_] [] pos) (cCallF Fc (cStar fe cNil)) := by
  refine ⟨⟨fun pn s σ H Q I h => ?_⟩⟩
  refine wpAny_Call_Name_kw (ld_glob I hg hm ?_ hd)
  have h1 := callF_step h
  refine PySem.W.callWith_S (h₀ := X.base) I.ok.mod.kin hk (thn (he.pe.run pn s σ H _ I (star_step (X := X) h1)) fun u s1 ⟨v, H1, I1, ru, a, vs, ev, hq, o⟩ => ?_) hst
  subst ev
  obtain rfl : u = Value.ref a := ru
  refine star_any I1 hq fun us s2 I2 rv => ⟨I2.kIn, ?_⟩
  obtain ⟨W, st, r, o⟩ := o
  obtain ⟨W3, st3, xs, r3, q3, o3⟩ := o W H1 [] r Step.refl .nil
  rw [List.append_nil] at q3
  exact hr pn s2 σ H1 Q us vs xs W3 st3 I2 r3 q3 rv o3
theorem ce_callS2 (hk : PySem.W.keepIn X.K (.ref f) = true) (hr : RunOk G X Wx f Fc) (hg : Gl X x) (hm : X.mg x = some (.ref f)) (ha : CA G X Wx (e :: es) fs) (hd : (x == ("__debug__" : PySem.Str)) = false := by decide)
    (he : starEach (e :: es) X.env = (false, eval e X.env) :: starEach es X.env := by rfl) (hst : (backTo pos (starEach es X.env)).any (·.1) = true := by rfl) : CE G X Wx (.Call (.Name x p) (e :: es) [] pos) (cCallF Fc fs) := by
  refine ⟨⟨fun pn s σ H Q I h => ?_⟩⟩
  refine wpAny_Call_Name_kw (ld_glob I hg hm ?_ hd)
  refine PySem.W.callWith_S2 (h₀ := X.base) I.ok.mod.kin hk (thn (ha.pa.run pos pn s σ H _ I (callF_step h)) fun us s1 ⟨vs, H1, I1, r, W, st, xs, r1, q1, o⟩ => ⟨I1.kIn, ?_⟩) he hst
  exact hr pn s1 σ H1 Q us vs xs W st I1 r1 q1 r o

def cLoc (i n : Nat) (k : Cm SV) : Cm SV := fun st => match st.loc[i]? with
  | some (some (.t (.fn m))) => if m = n then k st else .stuck
  | _ => .stuck
theorem loc_step {σ : Sg} {H : Hp} {Q : VK} {kc : Cm SV} (h : tE G Wx (cLoc i n kc) σ H Q) : σ[i]? = some (some (.ref (G.fn n))) ∧ tE G Wx kc σ H Q := by
  obtain ⟨W, st, r, o⟩ := h
  unfold cLoc at o
  split at o
  · rename_i m e
    split at o
    · rename_i hm
      subst hm
      obtain ⟨v, e1, s⟩ := r.loc.get e
      cases s
      exact ⟨e1, W, st, r, o⟩
    · exact o.elim
  · exact o.elim
theorem ce_callL (hk : PySem.W.keepIn X.K (.ref (G.fn n)) = true) (hr : RunOk G X Wx (G.fn n) Fc) (hN : X.N[i]? = some x) (hv : Vis X.env.scope x) (ha : CA G X Wx (e :: es) fs) (hd : (x == ("__debug__" : PySem.Str)) = false := by decide) (hcd : (x == ("__classdict__" : PySem.Str)) = false := by decide)
    (he : starEach (e :: es) X.env = (false, eval e X.env) :: starEach es X.env := by rfl) (hpl : (backTo pos (starEach es X.env)).any (·.1) = false := by rfl) : CE G X Wx (.Call (.Name x p) (e :: es) [] pos) (cLoc i n (cCallF Fc fs)) := by
  refine ⟨⟨fun pn s σ H Q I h => ?_⟩⟩
  obtain ⟨hs, h⟩ := loc_step h
  refine wpAny_Call_Name_kw (thn ((pe_var (pos := p) hN hv hd hcd).run pn s σ H (fun v H1 => v = .ref (G.fn n) ∧ H1 = H) I ⟨_, hs, rfl, rfl⟩) fun u s1 ⟨v, H1, I1, r1, q1⟩ => ?_)
  obtain ⟨rfl, rfl⟩ := q1
  cases r1
  refine PySem.W.callWith_K (h₀ := X.base) I.ok.mod.kin hk (thn (ha.pa.run pos pn s1 σ _ _ I1 (callF_step h)) fun us s2 ⟨vs, H2, I2, r, W, st, xs, r2, q2, o⟩ => ⟨I2.kIn, ?_⟩) he hpl
  exact hr pn s2 σ H2 Q us vs xs W st I2 r2 q2 r o
theorem ce_callLS (hk : PySem.W.keepIn X.K (.ref (G.fn n)) = true) (hr : RunOk G X Wx (G.fn n) Fc) (hN : X.N[i]? = some x) (hv : Vis X.env.scope x) (he : CE G X Wx e fe) (hd : (x == ("__debug__" : PySem.Str)) = false := by decide) (hcd : (x == ("__classdict__" : PySem.Str)) = false := by decide)
    (hst : starEach [.Starred e sp_] X.env = [(true, eval e X.env)] := by rfl) : CE G X Wx (.Call (.Name x p) [.Starred e sp_] [] pos) (cLoc i n (cCallF Fc (cStar fe cNil))) := by
  refine ⟨⟨fun pn s σ H Q I h => ?_⟩⟩
  obtain ⟨hs, h⟩ := loc_step h
  refine wpAny_Call_Name_kw (thn ((pe_var (pos := p) hN hv hd hcd).run pn s σ H (fun v H1 => v = .ref (G.fn n) ∧ H1 = H) I ⟨_, hs, rfl, rfl⟩) fun u s1 ⟨v, H1, I1, r1, q1⟩ => ?_)
  obtain ⟨rfl, rfl⟩ := q1
  cases r1
  have h1 := callF_step h
  refine PySem.W.callWith_S (h₀ := X.base) I.ok.mod.kin hk (thn (he.pe.run pn s1 σ _ _ I1 (star_step (X := X) h1)) fun u s2 ⟨v, H2, I2, ru, a, vs, ev, hq, o⟩ => ?_) hst
  subst ev
  obtain rfl : u = Value.ref a := ru
  refine star_any I2 hq fun us s3 I3 rv => ⟨I3.kIn, ?_⟩
  obtain ⟨W, st, r, o⟩ := o
  obtain ⟨W3, st3, xs, r3, q3, o3⟩ := o W _ [] r Step.refl .nil
  rw [List.append_nil] at q3
  exact hr pn s3 σ _ Q us vs xs W3 st3 I3 r3 q3 rv o3

def cMeth (c : Nat) (m : PySem.Str) (Fc : List SV → Cm SV) (fo : Cm SV) (fs : Cm (List SV)) : Cm SV := fun st => (fo st).bind fun x st1 => match view st1 x with
  | some (.obj c' hs) => if c' = c ∧ (hs.lookup m).isNone = true then (fs st1).bind fun xs st2 => Fc (x :: xs) st2 else .stuck
  | _ => .stuck
theorem meth_step {σ : Sg} {H : Hp} {Q : VK} (h : tE G Wx (cMeth c m Fc fo fs) σ H Q) : tE G Wx fo σ H fun v H1 => ∃ a dx hs, v = .ref a ∧ H1 a = some (.ins (G.cls c) dx hs) ∧ hs.lookup m = none ∧
    tL G Wx fs σ H1 fun vs H2 => ∃ W st xs, R G W st σ H2 ∧ RepSs G W σ xs (v :: vs) ∧ OutE G Wx W st σ H2 (Fc xs st) Q := by
  refine tA_mono (tA_seq (rel := RepS G) (rel' := RepS G) h) fun v H1 ⟨W1, st1, y, r1, q1, o⟩ => ?_
  split at o
  · rename_i c' hs e
    split at o
    · rename_i hc
      obtain ⟨rfl, hm⟩ := hc
      obtain ⟨a, dx, fs', rfl, d, l⟩ := r1.view q1 e
      refine ⟨a, dx, fs', rfl, d, l.lookup.2 (by simpa using hm), ?_⟩
      refine tA_mono (tA_then (rel := RepSs G) (rel' := RepS G) r1 o) fun vs H2 ⟨W2, st2, xs, r2, f2, a2, q2, o2⟩ => ?_
      exact ⟨W2, st2, y :: xs, r2, .cons (q1.mono f2 a2) q2, o2⟩
    · exact o.elim
  · exact o.elim
theorem ce_meth (he : CE G X Wx o fo) (hc : Cls X.K (G.cls c)) (hm : Meth X.K (G.cls c) m f) (hr : RunOk G X Wx f Fc) (ha : CA G X Wx (e :: es) fs)
    (hst : starEach (e :: es) X.env = (false, eval e X.env) :: starEach es X.env := by rfl) (hpl : (backTo pos (starEach es X.env)).any (·.1) = false := by rfl)
    (ht : eval (.Call (.Attribute o m apos) (e :: es) [] pos) X.env = (do
      let ov ← eval o X.env
      standAt apos.atName
      let (f, first) ← holding [ov] (getMethod ov m pl)
      callWith pos f first (backTo pos (starEach (e :: es) X.env)) (backToKw pos (keywordEach [] X.env))) := by rfl) : CE G X Wx (.Call (.Attribute o m apos) (e :: es) [] pos) (cMeth c m Fc fo fs) := by
  refine ⟨⟨fun pn s σ H Q I h => ?_⟩⟩
  refine PySem.W.methodCall_KW (pl := pl) (thn (he.pe.run pn s σ H _ I (meth_step h)) fun u s1 ⟨v, H1, I1, rv, a, dx, hs, ev, ea, l, q⟩ => ?_) ht
  subst ev
  obtain rfl : u = Value.ref a := rv
  refine getmeth_ok I1 ea hc hm l ?_
  refine PySem.W.callWith_K (first := [.ref a]) (h₀ := X.base) I.ok.mod.kin hm.kp (thn (ha.pa.run pos pn s1 σ H1 _ I1 q) fun us s2 ⟨vs, H2, I2, r, W, st, xs, r2, q2, o2⟩ => ⟨I2.kIn, ?_⟩) hst hpl
  exact hr pn s2 σ H2 Q (.ref a :: us) (.ref a :: vs) xs W st I2 r2 q2 (.cons rfl r) o2
theorem ce_meth0 (he : CE G X Wx o fo) (hc : Cls X.K (G.cls c)) (hm : Meth X.K (G.cls c) m f) (hr : RunOk G X Wx f Fc)
    (ht : eval (.Call (.Attribute o m apos) [] [] pos) X.env = (do
      let ov ← eval o X.env
      standAt apos.atName
      let (f, first) ← holding [ov] (getMethod ov m pl)
      callWith pos f first (backTo pos (starEach [] X.env)) (backToKw pos (keywordEach [] X.env))) := by rfl) : CE G X Wx (.Call (.Attribute o m apos) [] [] pos) (cMeth c m Fc fo cNil) := by
  refine ⟨⟨fun pn s σ H Q I h => ?_⟩⟩
  refine PySem.W.methodCall_KW (pl := pl) (thn (he.pe.run pn s σ H _ I (meth_step h)) fun u s1 ⟨v, H1, I1, rv, a, dx, hs, ev, ea, l, q⟩ => ?_) ht
  subst ev
  obtain rfl : u = Value.ref a := rv
  refine getmeth_ok I1 ea hc hm l ?_
  obtain ⟨W, st, r, o⟩ := q
  obtain ⟨W3, st3, xs, r3, q3, o3⟩ := o W H1 [] r Step.refl .nil
  exact PySem.W.callWith_K0 (first := [.ref a]) I1.kIn hm.kp (hr pn s1 σ H1 Q [.ref a] [.ref a] xs W3 st3 I1 r3 q3 (.cons rfl .nil) o3)

def noX {α : Type} : Out α → Out α
  | .exc _ _ _ => .stuck
  | o => o
abbrev wx0 : WX := fun _ _ _ _ => False
theorem noX_out {W : Wd} {st : ST} {σ : Sg} {H : Hp} {Q : VK} {z : Out SV} (h : OutE G Wx W st σ H (noX z) Q) : OutE G wx0 W st σ H z Q := by
  cases z with
  | ok v st' => exact h
  | exc c fs st' => exact h.elim
  | stuck => exact h.elim
theorem no_cx {pn : List (Addr × Obj)} {σ : Sg} {H : Hp} {s s' : Shared} {er : Value} (I : Inv X pn σ H s) (h : L2.CX X.prog X.w X.stack H s (fun _ _ _ => False) er s') : False := by
  obtain ⟨a, B, sI, pins, σ', H', cls, d, e, J, nb, up, sky, na, os, ag, w⟩ := XE.of_call (X := X) (W := fun _ _ _ _ => False) I (fun _ _ _ w => w) h
  exact w
def cProp (c : Nat) (Fc : List SV → Cm SV) (fo : Cm SV) : Cm SV := fun st => (fo st).bind fun x st1 => match view st1 x with
  | some (.obj c' _) => if c' = c then noX (Fc [x] st1) else .stuck
  | _ => .stuck
theorem ce_prop {sp : Sp} (he : CE G X Wx o fo) (hc : Cls X.K (G.cls c)) (hp : PropOf X.K (G.cls c) m q f) (hf : FnP X.prog X.w X.K X.mg X.base k f sp) (hpr : ∀ Wx, Prom G Wx sp Fc) (room : Room (k + 1) X.A) (gd : X.A.guards = some [])
    (hb : attributeBase o m X.env (eval o X.env) = eval o X.env := by rfl) : CE G X Wx (.Attribute o m pos) (cProp c Fc fo) := by
  refine ⟨⟨fun pn s σ H Q I h => ?_⟩⟩
  have h1 : tE G Wx fo σ H fun v H1 => ∃ a dx hs W st xs, v = .ref a ∧ H1 a = some (.ins (G.cls c) dx hs) ∧ R G W st σ H1 ∧ RepSs G W σ xs [v] ∧ OutE G wx0 W st σ H1 (Fc xs st) Q := by
    refine tA_mono (tA_seq (rel := RepS G) (rel' := RepS G) h) fun v H1 ⟨W1, st1, y, r1, q1, o⟩ => ?_
    split at o
    · rename_i c' hs e
      split at o
      · rename_i hcc
        subst hcc
        obtain ⟨a, dx, fs', rfl, d, l⟩ := r1.view q1 e
        exact ⟨a, dx, fs', W1, st1, [y], rfl, d, r1, .cons q1 .nil, noX_out o⟩
      · exact o.elim
    · exact o.elim
  refine attr_of hb (thn (he.pe.run pn s σ H _ I h1) fun u s1 ⟨v, H1, I1, rv, a, dx, hs, W, st, xs, ev, ea, r, q1, o1⟩ => ?_)
  subst ev
  obtain rfl : u = Value.ref a := rv
  obtain ⟨mA, O, _, _, _, _⟩ := ins_get I1.hok ea
  obtain ⟨od, J, _⟩ := O.look
  obtain ⟨rest, hrec⟩ := hp.rec_
  have I2 := I1.tok (s1.toks + 1)
  have cs : (PySem.W.clsIn X.K (G.cls c)).isSome = true := by
    obtain ⟨cd, z, _⟩ := PySem.W.any_some hc.hd
    rw [z]
    rfl
  refine PySem.W.get_bind I1.kIn J (PySem.W.plainGet_of (hc.get m)).1 (PySem.W.findObj_data cs hp.at_ hp.get hp.tak) (PySem.W.plainGet_of (hc.get m)).2 (wpAny_call (PySem.W.prop_get (s := { s1 with toks := s1.toks + 1 }) I1.kIn hrec ?_))
  refine codeAny_mono (hf X.A.in1 X.stack { s1 with toks := s1.toks + 1 } H1 [.ref a] [.ref a] Q _ room.in1 gd I2.env0.in1 (.cons rfl .nil) (hpr wx0 W st σ H1 Q xs [.ref a] r q1 o1)) fun z s' hq => ?_
  cases z with
  | error er => exact (no_cx I2 hq).elim
  | ok fl =>
    cases fl with
    | ret u =>
      obtain ⟨v, H', I3, rv3, q3⟩ := I2.after hq
      show wpAny _ _ (handedOut u) _ _ _
      rw [PySem.W.handedOut_of (handed_of rv3)]
      exact wpAny_pure ⟨v, H', I3, rv3, q3⟩
    | next => exact False.elim hq
    | brk => exact False.elim hq
    | cont => exact False.elim hq

theorem ce_cval {mc u : Value} {z : PV} {v : V} (he : CE G X Wx o (cC (.fn n))) (r : CRead X.K (G.fn n) mc) (kv : CVal X.K (G.fn n) mc m v u) (hz : ∀ F, Rep G F z v) (hb : attributeBase o m X.env (eval o X.env) = eval o X.env := by rfl) : CE G X Wx (.Attribute o m pos) (cC z) := by
  refine ⟨pe_imp (pe_cval he.pe hb) fun σ H Q ⟨W, st, r0, o⟩ => ?_⟩
  refine ⟨W, st, r0, fun W' H' u' r' s' k' => ?_⟩
  cases k'
  exact ⟨G.fn n, mc, v, u, rfl, r, kv, o W' H' v r' s' (hz _)⟩
theorem ce_cmeth {mc : Value} {sp : Sp} (he : CE G X Wx o (cC (.fn n))) (r : CRead X.K (G.fn n) mc) (kc : CMet X.K (G.fn n) mc m q f) (hf : FnP X.prog X.w X.K X.mg X.base k f sp) (hpr : Prom G Wx sp Fc) (room : Room k X.A) (gd : X.A.guards = some []) (tk : Takes X Wx) (ha : CA G X Wx (e :: es) fs)
    (hst : starEach (e :: es) X.env = (false, eval e X.env) :: starEach es X.env := by rfl) (hpl : (backTo pos (starEach es X.env)).any (·.1) = false := by rfl)
    (ht : eval (.Call (.Attribute o m apos) (e :: es) [] pos) X.env = (do
      let ov ← eval o X.env
      standAt apos.atName
      let (f, first) ← holding [ov] (getMethod ov m pl)
      callWith pos f first (backTo pos (starEach (e :: es) X.env)) (backToKw pos (keywordEach [] X.env))) := by rfl) : CE G X Wx (.Call (.Attribute o m apos) (e :: es) [] pos) (cCallF (fun xs => Fc (.t (.fn n) :: xs)) fs) := by
  refine ⟨⟨fun pn s σ H Q I h => ?_⟩⟩
  have h1 : tE G Wx (cC (.fn n)) σ H fun v H1 => v = .ref (G.fn n) ∧ tL G Wx fs σ H1 fun vs H2 => ∃ W st xs, R G W st σ H2 ∧ RepSs G W σ xs vs ∧ OutE G Wx W st σ H2 (Fc (.t (.fn n) :: xs) st) Q := by
    obtain ⟨W, st, r0, o0⟩ := h
    refine ⟨W, st, r0, fun W' H' u' r' s' k' => ?_⟩
    cases k'
    exact ⟨rfl, callF_step (Fc := fun xs => Fc (.t (.fn n) :: xs)) ⟨W', st, r', OutA.from o0 s'⟩⟩
  refine PySem.W.methodCall_KW (pl := pl) (thn (he.pe.run pn s σ H _ I h1) fun u s1 ⟨v, H1, I1, rv, ev, q1⟩ => ?_) ht
  subst ev
  obtain rfl : u = Value.ref (G.fn n) := rv
  refine getmethcm_ok I1 r kc fun s2 I2 => ?_
  refine callwith_cm I2 (base_none I1 (Nat.le_refl _)) kc.fi (thn (ha.pa.run pos _ s2 σ H1 _ I2 q1) fun us s3 ⟨vs, H2, I3, rv, W, st, xs, r3, q3, o3⟩ => ⟨⟨pin_at I3, I3.kIn⟩, ?_⟩) hst hpl
  have z : wpAny (model X.prog X.w) X.A (call (.ref s1.heap.objs.size) us) (EP X ((s1.heap.objs.size, PySem.W.methodObj (.ref f) (.ref (G.fn n))) :: pn) σ Q) X.xe s3 := by
    refine wpAny_call (PySem.W.method_call (pin_at I3) (codeAny_mono (hf X.A X.stack s3 H2 (.ref (G.fn n) :: us) (.ref (G.fn n) :: vs) Q _ room gd I3.env0 (.cons rfl rv) (hpr W st σ H2 Q (.t (.fn n) :: xs) (.ref (G.fn n) :: vs) r3 (.cons (Rep.fn n) q3) o3)) fun z s' hq => ?_))
    cases z with
    | error er => exact tk er s' (XE.of_call I3 (fun cls d H' w => w) hq)
    | ok fl =>
      cases fl with
      | ret u => exact I3.after hq
      | next => exact False.elim hq
      | brk => exact False.elim hq
      | cont => exact False.elim hq
  exact thn z fun _ _ y => unpinE y
end
end Cl
set_option Elab.async false
set_option linter.all false
set_option maxRecDepth 100000
set_option maxHeartbeats 4000000
namespace Cl
open PySem PySem.Spec PyProof.Rows L2 StX ClX
structure Walk (G : Gd) (J : It) (W0 : Wd) (items : List PV) : Prop where
  go : ∀ (W : Wd) (st : ST) (σ : Sg) (H : Hp) (i : Nat) (p : PV), R G W st σ H → Same W0.F W.F → items[i]? = some p → J.go i H ∧
    ∀ x H', J.yld i H x H' → ∃ F', R G ⟨F', W.A⟩ st σ H' ∧ Step (own W st σ) W H (own W st σ) ⟨F', W.A⟩ H' ∧ Rep G F' p x
  stop : ∀ (W : Wd) (st : ST) (σ : Sg) (H : Hp), R G W st σ H → Same W0.F W.F → J.stop items.length H
theorem Walk.later {G : Gd} {J : It} {W0 W1 : Wd} {items : List PV} (w : Walk G J W0 items) (f : Same W0.F W1.F) : Walk G J W1 items :=
  ⟨fun W st σ H i p r s => w.go W st σ H i p r (f.trans s), fun W st σ H r s => w.stop W st σ H r (f.trans s)⟩
def OutI (G : Gd) (Wx : WX) (W : Wd) (st : ST) (σ : Sg) (H : Hp) (o : Out (List PV)) (Rr : It → Hp → Prop) : Prop :=
  match o with
  | .ok items st' => ∀ W' H' J, R G W' st' σ H' → Step (own W st σ) W H (own W' st' σ) W' H' → Walk G J W' items → Rr J H'
  | .exc c fs st' => ∀ W' H' d, R G W' st' σ H' → Step (own W st σ) W H (own W' st' σ) W' H' → RepX G W' H' fs d → Wx (.ref (G.cls c)) (some d) σ H'
  | .stuck => False
theorem OutI.from {G : Gd} {Wx : WX} {W W1 : Wd} {st st1 : ST} {σ : Sg} {H H1 : Hp} {o : Out (List PV)} {Q : It → Hp → Prop}
    (h : OutI G Wx W st σ H o Q) (s : Step (own W st σ) W H (own W1 st1 σ) W1 H1) : OutI G Wx W1 st1 σ H1 o Q := by
  cases o with
  | ok v st' => exact fun W' H' u r s' q => h W' H' u r (s.trans s') q
  | exc c fs st' => exact fun W' H' d r s' q => h W' H' d r (s.trans s') q
  | stuck => exact h
def tI (G : Gd) (Wx : WX) (f : Cm (List PV)) : TI := fun σ H Rr => ∃ W st, R G W st σ H ∧ OutI G Wx W st σ H (f st) Rr
structure CI (G : Gd) (X : Cx) (Wx : WX) (tg iter : Expr) (f : Cm (List PV)) : Prop where
  pi : PI X tg iter (tI G Wx f)
theorem pi_imp {X : Cx} {tg iter : Expr} {t t' : TI} (h : PI X tg iter t) (i : ∀ σ H Rr, t' σ H Rr → t σ H Rr) : PI X tg iter t' := ⟨fun pn s g H Rr I q => h.run pn s g H Rr I (i g H Rr q)⟩

section
variable {G : Gd} {X : Cx} {Wx : WX} {tg e : Expr} {es : List Expr} {fe : Cm SV} {fs : Cm (List SV)} {p pos : Pos}
def cItL (fe : Cm SV) : Cm (List PV) := fun st => (fe st).bind fun x st1 => match x with
  | .t (.lst ps) => .ok ps st1
  | _ => .stuck
def cItT (fe : Cm SV) : Cm (List PV) := fun st => (fe st).bind fun x st1 => match x with
  | .t (.tup ps) => .ok ps st1
  | _ => .stuck
theorem walk_lst {W0 : Wd} {K : PySem.W.Frag} {a : Addr} {ps : List PV} {vs : List V} (h : W0.F a = some (.lst vs)) (l : RepL G W0.F ps vs) : Walk G (Itl K a) W0 ps := by
  refine ⟨fun W st σ H i p r s e => ?_, fun W st σ H r s => ⟨vs, .inl (.inl (r.le _ _ (s _ _ h))), by rw [l.length]; exact Nat.le_refl _⟩⟩
  obtain ⟨u, e1, k⟩ := l.get e
  have hq : SqL K H a vs := .inl (.inl (r.le _ _ (s _ _ h)))
  refine ⟨⟨vs, u, hq, e1⟩, fun x H' ⟨eh, hx⟩ => ?_⟩
  subst eh
  have e2 := hx vs hq
  rw [e1] at e2
  cases e2
  exact ⟨W.F, r, Step.refl, k.mono s⟩
theorem walk_tup {W0 : Wd} {K : PySem.W.Frag} {a : Addr} {ps : List PV} {vs : List V} (h : W0.F a = some (.tup vs)) (l : RepL G W0.F ps vs) : Walk G (Itt K a) W0 ps := by
  refine ⟨fun W st σ H i p r s e => ?_, fun W st σ H r s => ⟨vs, .inl (.inl (r.le _ _ (s _ _ h))), by rw [l.length]; exact Nat.le_refl _⟩⟩
  obtain ⟨u, e1, k⟩ := l.get e
  have hq : SqT K H a vs := .inl (.inl (r.le _ _ (s _ _ h)))
  refine ⟨⟨vs, u, hq, e1⟩, fun x H' ⟨eh, hx⟩ => ?_⟩
  subst eh
  have e2 := hx vs hq
  rw [e1] at e2
  cases e2
  exact ⟨W.F, r, Step.refl, k.mono s⟩
theorem tI_step {α β : Type} {rel : Wd → Sg → α → β → Prop} {f : Cm α} {k : α → ST → Out (List PV)} {σ : Sg} {H : Hp} {Rr : It → Hp → Prop} (h : tI G Wx (fun st => (f st).bind k) σ H Rr) :
    tA G Wx rel f σ H fun u H1 => ∃ W1 st1 v, R G W1 st1 σ H1 ∧ rel W1 σ v u ∧ OutI G Wx W1 st1 σ H1 (k v st1) Rr := by
  obtain ⟨W, st, r, o⟩ := h
  refine ⟨W, st, r, ?_⟩
  simp only [OutI] at o
  cases ef : f st with
  | ok v st' =>
    rw [ef] at o
    exact fun W' H' u r' s' q => ⟨W', st', v, r', q, OutI.from o s'⟩
  | exc c fs st' => rw [ef] at o; exact o
  | stuck => rw [ef] at o; exact o
theorem ci_lst (h : CE G X Wx e fe) : CI G X Wx tg e (cItL fe) := by
  refine ⟨pi_imp (pi_list h.pe) fun σ H Rr q => ?_⟩
  refine tA_mono (tI_step (rel := RepS G) q) fun u H1 ⟨W1, st1, v, r1, q1, o⟩ => ?_
  split at o
  · cases q1 with
    | lst h l => exact ⟨_, rfl, ⟨_, .inl (.inl (r1.le _ _ h))⟩, o W1 H1 _ r1 Step.refl (walk_lst h l)⟩
  · exact o.elim
theorem ci_tup (h : CE G X Wx e fe) : CI G X Wx tg e (cItT fe) := by
  refine ⟨pi_imp (pi_tup h.pe) fun σ H Rr q => ?_⟩
  refine tA_mono (tI_step (rel := RepS G) q) fun u H1 ⟨W1, st1, v, r1, q1, o⟩ => ?_
  split at o
  · cases q1 with
    | tup h l => exact ⟨_, rfl, ⟨_, .inl (.inl (r1.le _ _ h))⟩, o W1 H1 _ r1 Step.refl (walk_tup h l)⟩
  · exact o.elim
end
end Cl
set_option Elab.async false
set_option linter.all false
set_option maxRecDepth 100000
set_option maxHeartbeats 4000000
namespace Cl
open PySem PySem.Spec PyProof.Rows L2 StX ClX

def smallI (i : Int) : Bool := decide (i.natAbs < 4611686018427387904)
def rngL (lo c : Int) (n : Nat) : List PV := (List.range n).map fun i => .int (lo + (i : Nat) * c)
theorem rngL_get {lo c : Int} {n i : Nat} {p : PV} (e : (rngL lo c n)[i]? = some p) : i < n ∧ p = .int (lo + (i : Nat) * c) := by
  unfold rngL at e
  rw [List.getElem?_map] at e
  by_cases h : i < n
  · rw [List.getElem?_range h] at e
    exact ⟨h, (Option.some.inj e).symm⟩
  · rw [List.getElem?_eq_none (by simpa using Nat.le_of_not_lt h)] at e
    cases e
theorem rngL_length {lo c : Int} {n : Nat} : (rngL lo c n).length = n := by simp [rngL]
section
variable {G : Gd} {X : Cx} {Wx : WX} {tg e a b c : Expr} {es : List Expr} {fe : Cm SV} {fs : Cm (List SV)} {p pos : Pos}
theorem walk_rng {W0 : Wd} {lo : Int} {n : Nat} : Walk G (Itr lo n) W0 (rngL lo 1 n) := by
  refine ⟨fun W st σ H i p r s e => ?_, fun W st σ H r s => by rw [rngL_length]; exact Nat.le_refl _⟩
  obtain ⟨h, rfl⟩ := rngL_get e
  refine ⟨h, fun x H' ⟨eh, hx⟩ => ?_⟩
  subst eh; subst hx
  refine ⟨W.F, r, Step.refl, ?_⟩
  rw [Int.mul_one]
  exact .int _
theorem walk_rngC {W0 : Wd} {lo c : Int} {n : Nat} : Walk G (Itc lo c n) W0 (rngL lo c n) := by
  refine ⟨fun W st σ H i p r s e => ?_, fun W st σ H r s => by rw [rngL_length]; exact Nat.le_refl _⟩
  obtain ⟨h, rfl⟩ := rngL_get e
  refine ⟨h, fun x H' ⟨eh, hx⟩ => ?_⟩
  subst eh; subst hx
  exact ⟨W.F, r, Step.refl, .int _⟩
def cRng1 (fs : Cm (List SV)) : Cm (List PV) := fun st => (fs st).bind fun xs st1 => match xs with
  | [.t (.int j)] => if smallI j = true then .ok (rngL 0 1 j.toNat) st1 else .stuck
  | _ => .stuck
def cRng2 (fs : Cm (List SV)) : Cm (List PV) := fun st => (fs st).bind fun xs st1 => match xs with
  | [.t (.int i), .t (.int j)] => if smallI i = true ∧ smallI j = true then .ok (rngL i 1 (j - i).toNat) st1 else .stuck
  | _ => .stuck
def cRng3 (fs : Cm (List SV)) : Cm (List PV) := fun st => (fs st).bind fun xs st1 => match xs with
  | [.t (.int i), .t (.int j), .t (.int (-1))] => if smallI i = true ∧ smallI j = true then .ok (rngL i (-1) (i - j).toNat) st1 else .stuck
  | _ => .stuck
theorem smallI_p {i : Int} (h : smallI i = true) : -(2 ^ 62) ≤ i ∧ i < 2 ^ 62 := by
  have := of_decide_eq_true h
  omega
theorem ci_rng1 (hg : Gl X "range") (hm : X.mg "range" = none) (ha : CA G X Wx [a] fs) (hs : starEach [a] X.env = [(false, eval a X.env)] := by rfl) : CI G X Wx tg (.Call (.Name "range" p) [a] [] pos) (cRng1 fs) := by
  refine ⟨pi_imp (pi_range1 hg hm ha.pa hs) fun σ H Rr q => ?_⟩
  refine tA_mono (tI_step (rel := RepSs G) q) fun u H1 ⟨W1, st1, v, r1, q1, o⟩ => ?_
  split at o
  · rename_i j
    split at o
    · rename_i h
      cases q1 with | cons k l => cases l; cases k; exact ⟨j, rfl, (smallI_p h).1, (smallI_p h).2, o W1 H1 _ r1 Step.refl walk_rng⟩
    · exact o.elim
  · exact o.elim
theorem ci_rng2 (hg : Gl X "range") (hm : X.mg "range" = none) (ha : CA G X Wx [a, b] fs) (hs : starEach [a, b] X.env = [(false, eval a X.env), (false, eval b X.env)] := by rfl) (hs2 : starEach [b] X.env = [(false, eval b X.env)] := by rfl) :
    CI G X Wx tg (.Call (.Name "range" p) [a, b] [] pos) (cRng2 fs) := by
  refine ⟨pi_imp (pi_range2 hg hm ha.pa hs hs2) fun σ H Rr q => ?_⟩
  refine tA_mono (tI_step (rel := RepSs G) q) fun u H1 ⟨W1, st1, v, r1, q1, o⟩ => ?_
  split at o
  · rename_i i j
    split at o
    · rename_i h
      cases q1 with | cons k l => cases l with | cons k2 l => cases l; cases k; cases k2; exact ⟨i, j, rfl, ⟨(smallI_p h.1).1, (smallI_p h.1).2, (smallI_p h.2).1, (smallI_p h.2).2⟩, o W1 H1 _ r1 Step.refl walk_rng⟩
    · exact o.elim
  · exact o.elim
theorem ci_rng3 (hg : Gl X "range") (hm : X.mg "range" = none) (ha : CA G X Wx [a, b, c] fs)
    (hs : starEach [a, b, c] X.env = (false, eval a X.env) :: starEach [b, c] X.env := by rfl) (hpl : (backTo pos (starEach [b, c] X.env)).any (·.1) = false := by rfl) :
    CI G X Wx tg (.Call (.Name "range" p) [a, b, c] [] pos) (cRng3 fs) := by
  refine ⟨pi_imp (pi_range3 hg hm ha.pa hs hpl) fun σ H Rr q => ?_⟩
  refine tA_mono (tI_step (rel := RepSs G) q) fun u H1 ⟨W1, st1, v, r1, q1, o⟩ => ?_
  split at o
  · rename_i i j
    split at o
    · rename_i h
      cases q1 with | cons k l => cases l with | cons k2 l => cases l with | cons k3 l => cases l; cases k; cases k2; cases k3; exact ⟨i, j, -1, _, rfl, RgC.neg (smallI_p h.1).1 (smallI_p h.1).2 (smallI_p h.2).1 (smallI_p h.2).2, o W1 H1 _ r1 Step.refl walk_rngC⟩
    · exact o.elim
  · exact o.elim

def enumL : Nat → List PV → List PV
  | _, [] => []
  | i, p :: ps => .tup [.int (i : Nat), p] :: enumL (i + 1) ps
theorem enumL_length : ∀ {ps : List PV} {k : Nat}, (enumL k ps).length = ps.length
  | [], _ => rfl
  | _ :: ps, k => congrArg (· + 1) (enumL_length (ps := ps))
theorem enumL_get : ∀ {ps : List PV} {k i : Nat} {p : PV}, (enumL k ps)[i]? = some p → ∃ q, ps[i]? = some q ∧ p = .tup [.int ((k + i : Nat) : Int), q]
  | [], _, i, _, e => by simp [enumL] at e
  | q :: ps, k, 0, _, e => by simp [enumL] at e; subst e; exact ⟨q, rfl, rfl⟩
  | q :: ps, k, i + 1, _, e => by
    obtain ⟨r, e1, e2⟩ := enumL_get (ps := ps) (k := k + 1) (i := i) (by simpa [enumL] using e)
    refine ⟨r, by simpa using e1, ?_⟩
    rw [e2]
    have : k + 1 + i = k + (i + 1) := by omega
    rw [this]
theorem walk_enum {W0 : Wd} {K : PySem.W.Frag} {a : Addr} {ps : List PV} {vs : List V} (h : W0.F a = some (.lst vs)) (l : RepL G W0.F ps vs) : Walk G (Ite K a) W0 (enumL 0 ps) := by
  refine ⟨fun W st σ H i p r s e => ?_, fun W st σ H r s => ⟨vs, .inl (.inl (r.le _ _ (s _ _ h))), by rw [enumL_length, l.length]; exact Nat.le_refl _⟩⟩
  obtain ⟨q, e0, rfl⟩ := enumL_get e
  obtain ⟨u, e1, k⟩ := l.get e0
  have hq : SqL K H a vs := .inl (.inl (r.le _ _ (s _ _ h)))
  refine ⟨⟨vs, u, hq, e1⟩, fun x H' ⟨T, y, ex, hT, eH, hx⟩ => ?_⟩
  subst eH; subst ex
  have e2 := hx vs hq
  rw [e1] at e2
  cases e2
  refine ⟨_, r.new hT, r.step_new hT, .tup upd_same ?_⟩
  have f := (r.step_new (o := .tup [.int (i : Nat), u]) hT).f
  rw [Nat.zero_add]
  exact .cons (.int _) (.cons ((k.mono s).mono f) .nil)
def cEnum (fs : Cm (List SV)) : Cm (List PV) := fun st => (fs st).bind fun xs st1 => match xs with
  | [.t (.lst ps)] => .ok (enumL 0 ps) st1
  | _ => .stuck
theorem ci_enum {elts : List Expr} {kk : Nat} {tpos : Pos} (hg : Gl X "enumerate") (hm : X.mg "enumerate" = none) (ha : CA G X Wx [e] fs) (hs : starEach [e] X.env = [(false, eval e X.env)] := by rfl) :
    CI G X Wx (.Tuple elts kk tpos) (.Call (.Name "enumerate" p) [e] [] pos) (cEnum fs) := by
  refine ⟨pi_imp (pi_enum hg hm ha.pa hs) fun σ H Rr q => ?_⟩
  refine tA_mono (tI_step (rel := RepSs G) q) fun u H1 ⟨W1, st1, v, r1, q1, o⟩ => ?_
  split at o
  · cases q1 with | cons k l => cases l; cases k with | lst h l => exact ⟨_, _, rfl, .inl (.inl (r1.le _ _ h)), o W1 H1 _ r1 Step.refl (walk_enum h l)⟩
  · exact o.elim
def zipL : List PV → List PV → List PV
  | p :: ps, q :: qs => .tup [p, q] :: zipL ps qs
  | _, _ => []
theorem zipL_get : ∀ {ps qs : List PV} {i : Nat} {z : PV}, (zipL ps qs)[i]? = some z → ∃ p q, ps[i]? = some p ∧ qs[i]? = some q ∧ z = .tup [p, q]
  | [], _, i, _, e => by simp [zipL] at e
  | _ :: _, [], i, _, e => by simp [zipL] at e
  | p :: ps, q :: qs, 0, _, e => by simp [zipL] at e; subst e; exact ⟨p, q, rfl, rfl, rfl⟩
  | p :: ps, q :: qs, i + 1, _, e => by
    obtain ⟨a, b, e1, e2, e3⟩ := zipL_get (ps := ps) (qs := qs) (i := i) (by simpa [zipL] using e)
    exact ⟨a, b, by simpa using e1, by simpa using e2, e3⟩
theorem zipL_length : ∀ {ps qs : List PV}, ps.length ≤ (zipL ps qs).length ∨ qs.length ≤ (zipL ps qs).length
  | [], _ => .inl (by simp)
  | _ :: _, [] => .inr (by simp)
  | p :: ps, q :: qs => by
    rcases zipL_length (ps := ps) (qs := qs) with h | h
    · exact .inl (by simp [zipL]; omega)
    · exact .inr (by simp [zipL]; omega)
theorem walk_zip {W0 : Wd} {K : PySem.W.Frag} {a b : Addr} {ps qs : List PV} {vs us : List V} (h : W0.F a = some (.lst vs)) (l : RepL G W0.F ps vs) (h' : W0.F b = some (.lst us)) (l' : RepL G W0.F qs us) : Walk G (Itz K a b) W0 (zipL ps qs) := by
  refine ⟨fun W st σ H i z r s e => ?_, fun W st σ H r s => ⟨vs, us, .inl (.inl (r.le _ _ (s _ _ h))), .inl (.inl (r.le _ _ (s _ _ h'))), ?_⟩⟩
  · obtain ⟨p, q, e0, e', rfl⟩ := zipL_get e
    obtain ⟨u, e1, k⟩ := l.get e0
    obtain ⟨u', e1', k'⟩ := l'.get e'
    have hq : SqL K H a vs := .inl (.inl (r.le _ _ (s _ _ h)))
    have hq' : SqL K H b us := .inl (.inl (r.le _ _ (s _ _ h')))
    refine ⟨⟨vs, us, u, u', hq, hq', e1, e1'⟩, fun x H' ⟨T, y, y', ex, hT, eH, hx, hy⟩ => ?_⟩
    subst eH; subst ex
    have e2 := hx vs hq
    rw [e1] at e2
    cases e2
    have e2' := hy us hq'
    rw [e1'] at e2'
    cases e2'
    refine ⟨_, r.new hT, r.step_new hT, .tup upd_same ?_⟩
    have f := (r.step_new (o := .tup [u, u']) hT).f
    exact .cons ((k.mono s).mono f) (.cons ((k'.mono s).mono f) .nil)
  · rw [← l.length, ← l'.length]
    exact zipL_length
def cZip (fs : Cm (List SV)) : Cm (List PV) := fun st => (fs st).bind fun xs st1 => match xs with
  | [.t (.lst ps), .t (.lst qs)] => .ok (zipL ps qs) st1
  | _ => .stuck
theorem ci_zip {elts : List Expr} {kk : Nat} {tpos : Pos} (hg : Gl X "zip") (hm : X.mg "zip" = none) (ha : CA G X Wx [a, b] fs)
    (hs : starEach [a, b] X.env = (false, eval a X.env) :: starEach [b] X.env := by rfl) (hpl : (backTo pos (starEach [b] X.env)).any (·.1) = false := by rfl) :
    CI G X Wx (.Tuple elts kk tpos) (.Call (.Name "zip" p) [a, b] [] pos) (cZip fs) := by
  refine ⟨pi_imp (pi_zip hg hm ha.pa hs hpl) fun σ H Rr q => ?_⟩
  refine tA_mono (tI_step (rel := RepSs G) q) fun u H1 ⟨W1, st1, v, r1, q1, o⟩ => ?_
  split at o
  · cases q1 with | cons k l => cases l with | cons k2 l => cases l; cases k with | lst h l => cases k2 with | lst h' l' => exact ⟨_, _, _, _, rfl, .inl (.inl (r1.le _ _ h)), .inl (.inl (r1.le _ _ h')), o W1 H1 _ r1 Step.refl (walk_zip h l h' l')⟩
  · exact o.elim
end

abbrev TgF := PV → Option (List (Nat × PV))
def ST.sets (st : ST) : List (Nat × PV) → ST
  | [] => st
  | (i, p) :: l => (st.set i (some (.t p))).sets l
def tgN (i : Nat) : TgF := fun p => some [(i, p)]
def tgs : List TgF → List PV → Option (List (Nat × PV))
  | [], [] => some []
  | f :: fs, p :: ps => (f p).bind fun l => (tgs fs ps).map fun m => l ++ m
  | _, _ => none
def tgT (fs : List TgF) : TgF
  | .tup ps => tgs fs ps
  | _ => none
def tgL (fs : List TgF) : TgF
  | .lst ps => tgs fs ps
  | _ => none
def OnlyAt (vs : List Nat) (f : TgF) : Prop := ∀ p l, f p = some l → ∀ x ∈ l, x.1 ∈ vs
def WipeEq (σ σ' : Sg) (l : List (Nat × PV)) : Prop := ∀ vs : List Nat, (∀ x ∈ l, x.1 ∈ vs) → wipe σ' vs = wipe σ vs
def tG (G : Gd) (f : TgF) : TG := fun v σ H Q => ∃ W st p l, R G W st σ H ∧ Rep G W.F p v ∧ f p = some l ∧ ∀ σ', R G W (st.sets l) σ' H → (∀ a ∈ own W (st.sets l) σ', a ∈ own W st σ) → WipeEq σ σ' l → Q σ' H
def tGs (G : Gd) (fs : List TgF) : TGs := fun vs σ H Q => ∃ W st ps l, R G W st σ H ∧ RepL G W.F ps vs ∧ tgs fs ps = some l ∧ ∀ σ', R G W (st.sets l) σ' H → (∀ a ∈ own W (st.sets l) σ', a ∈ own W st σ) → WipeEq σ σ' l → Q σ' H
structure CG (G : Gd) (X : Cx) (e : Expr) (f : TgF) : Prop where
  pg : PG X e (tG G f)
structure CGs (G : Gd) (X : Cx) (es : List Expr) (fs : List TgF) : Prop where
  pgs : PGs X es (tGs G fs)
theorem pg_imp {X : Cx} {e : Expr} {t t' : TG} (h : PG X e t) (i : ∀ v σ H Q, t' v σ H Q → t v σ H Q) : PG X e t' := ⟨fun pn s σ H v u Q I r q => h.run pn s σ H v u Q I r (i v σ H Q q)⟩
theorem pgs_imp {X : Cx} {e : List Expr} {t t' : TGs} (h : PGs X e t) (i : ∀ v σ H Q, t' v σ H Q → t v σ H Q) : PGs X e t' := ⟨fun pn s σ H v u Q I r q => h.run pn s σ H v u Q I r (i v σ H Q q)⟩
theorem wipe_set {σ : Sg} {i : Nat} {v : Option V} : ∀ {vs : List Nat}, i ∈ vs → wipe (σ.set i v) vs = wipe σ vs
  | [], h => nomatch h
  | k :: vs, h => by
    show (wipe (σ.set i v) vs).set k none = (wipe σ vs).set k none
    by_cases hv : i ∈ vs
    · rw [wipe_set hv]
    · have e : k = i := by
        rcases List.mem_cons.mp h with z | z
        · exact z.symm
        · exact absurd z hv
      subst e
      have go : ∀ {vs : List Nat}, k ∉ vs → wipe (σ.set k v) vs = (wipe σ vs).set k v := by
        intro vs
        induction vs with
        | nil => intro _; rfl
        | cons j vs ih =>
          intro h
          show (wipe (σ.set k v) vs).set j none = ((wipe σ vs).set j none).set k v
          rw [ih (fun z => h (List.mem_cons_of_mem _ z)), List.set_comm _ _ (fun z => h (by rw [z]; exact List.mem_cons_self ..))]
      rw [go hv, List.set_set]
theorem sets_app {st : ST} : ∀ {l m : List (Nat × PV)}, st.sets (l ++ m) = (st.sets l).sets m := by
  intro l
  induction l generalizing st with
  | nil => intro m; rfl
  | cons x l ih => intro m; exact ih
section
variable {G : Gd} {X : Cx} {Wx : WX} {e : Expr} {es : List Expr} {pos : Pos} {f : TgF} {fs : List TgF}
theorem cg_name {i : Nat} {x : PySem.Str} (hN : X.N.Nodup) (hi : X.N[i]? = some x) (hx : Loc X.env.scope x) (hf : X.fn x = true ∨ X.env.scope.names.lookup x = some .local := by first | exact .inl rfl | exact .inr rfl | assumption) : CG G X (.Name x pos) (tgN i) := by
  refine ⟨pg_imp (pg_name hN hi hx hf) fun v σ H Q ⟨W, st, p, l, r, k, el, o⟩ => ?_⟩
  cases el
  refine o _ (r.setT i k) (fun a h => ((owned_set_sub i (by simp)).append (List.Sublist.refl _)).subset h) fun vs hv => ?_
  exact wipe_set (hv _ (List.mem_singleton.mpr rfl))
theorem cgs_nil : CGs G X [] [] := by
  refine ⟨pgs_imp pgs_nil fun v σ H Q ⟨W, st, ps, l, r, k, el, o⟩ => ?_⟩
  cases k with
  | nil => cases el; exact ⟨rfl, o σ r (fun a h => h) fun vs _ => rfl⟩
  | cons _ _ => cases el
theorem cgs_cons (h : CG G X e f) (hr : CGs G X es fs) (hs : (assignEach (e :: es) X.env).map (·.2) = assign e X.env :: (assignEach es X.env).map (·.2) := by rfl) : CGs G X (e :: es) (f :: fs) := by
  refine ⟨pgs_imp (pgs_cons h.pg hr.pgs hs) fun v σ H Q ⟨W, st, ps, l, r, k, el, o⟩ => ?_⟩
  cases k with
  | nil => cases el
  | cons k1 k2 =>
    obtain ⟨l1, e1, el⟩ := Option.bind_eq_some_iff.mp el
    obtain ⟨l2, e2, rfl⟩ := Option.map_eq_some_iff.mp el
    refine ⟨_, _, rfl, W, st, _, l1, r, k1, e1, fun σ' r' s' w' => ⟨W, _, _, l2, r', k2, e2, fun σ2 r2 s2 w2 => ?_⟩⟩
    refine o σ2 (by rw [sets_app]; exact r2) (fun a h => s' a (s2 a (by rw [sets_app] at h; exact h))) fun vs hv => ?_
    rw [w2 vs fun x hx => hv x (List.mem_append_right _ hx), w' vs fun x hx => hv x (List.mem_append_left _ hx)]
theorem cg_tup {k n : Nat} (hc : X.calm = true) (h : CGs G X es fs) (hl : fs.length = n := by rfl)
    (hn : (assignEach es X.env).length = n := by rfl) (hst : (assignEach es X.env).findIdx? (·.1) = none := by rfl) : CG G X (.Tuple es k pos) (tgT fs) := by
  refine ⟨pg_imp (pg_tup hc h.pgs hn hst) fun v σ H Q ⟨W, st, p, l, r, k, el, o⟩ => ?_⟩
  unfold tgT at el
  split at el
  · rename_i ps
    cases k with
    | tup h1 l1 =>
      have hlen : ps.length = fs.length := by
        have go : ∀ {fs : List TgF} {ps : List PV} {l : List (Nat × PV)}, tgs fs ps = some l → ps.length = fs.length := by
          intro fs
          induction fs with
          | nil => intro ps l e; cases ps with
            | nil => rfl
            | cons _ _ => cases e
          | cons f fs ih =>
            intro ps l e
            cases ps with
            | nil => cases e
            | cons p ps =>
              obtain ⟨l1, e1, e⟩ := Option.bind_eq_some_iff.mp e
              obtain ⟨l2, e2, rfl⟩ := Option.map_eq_some_iff.mp e
              exact congrArg (· + 1) (ih e2)
        exact go el
      exact ⟨_, _, rfl, .inl (.inl (r.le _ _ h1)), by rw [← l1.length, hlen, hl], W, st, ps, l, r, l1, el, o⟩
  · cases el
theorem cg_lst {k n : Nat} (hc : X.calm = true) (h : CGs G X es fs) (hl : fs.length = n := by rfl)
    (hn : (assignEach es X.env).length = n := by rfl) (hst : (assignEach es X.env).findIdx? (·.1) = none := by rfl) : CG G X (.Tuple es k pos) (tgL fs) := by
  refine ⟨pg_imp (pg_unl hc h.pgs hn hst) fun v σ H Q ⟨W, st, p, l, r, k, el, o⟩ => ?_⟩
  unfold tgL at el
  split at el
  · rename_i ps
    cases k with
    | lst h1 l1 =>
      have hlen : ps.length = fs.length := by
        have go : ∀ {fs : List TgF} {ps : List PV} {l : List (Nat × PV)}, tgs fs ps = some l → ps.length = fs.length := by
          intro fs
          induction fs with
          | nil => intro ps l e; cases ps with
            | nil => rfl
            | cons _ _ => cases e
          | cons f fs ih =>
            intro ps l e
            cases ps with
            | nil => cases e
            | cons p ps =>
              obtain ⟨l1, e1, e⟩ := Option.bind_eq_some_iff.mp e
              obtain ⟨l2, e2, rfl⟩ := Option.map_eq_some_iff.mp e
              exact congrArg (· + 1) (ih e2)
        exact go el
      exact ⟨_, _, rfl, .inl (.inl (r.le _ _ h1)), by rw [← l1.length, hlen, hl], W, st, ps, l, r, l1, el, o⟩
  · cases el
def sAsg (tg : TgF) (fe : Cm SV) : Sm := fun st => bindS (fe st) fun x st1 => match x with
  | .t p => match tg p with
    | some l => .nx (st1.sets l)
    | none => .stuck
  | _ => .stuck
theorem cs_asg {fe : Cm SV} {tg : Expr} (he : CE G X Wx e fe) (hg : CG G X tg f) (hs : swapsWithSole [tg] e pos.line X.env = pure false := by rfl) (hw : swappedStores [tg] e X.env = pure none := by rfl) (h1 : (assignEach [tg] X.env).map (·.2) = [assign tg X.env] := by rfl) : CS G X Wx (.Assign [tg] e pos) (sAsg f fe) := by
  refine ⟨ps_imp (ps_asg he.pe hg.pg hs hw h1) fun D σ H ⟨W, st, r, o⟩ => ?_⟩
  refine tA_mono (eS (rel := RepS G) r o) fun u H1 ⟨W1, st1, v, r1, _, _, q1, o1⟩ => ?_
  split at o1
  · rename_i p
    split at o1
    · rename_i l el
      exact ⟨W1, st1, p, l, r1, q1, el, fun σ' r' s' w' => o1 W1 σ' H1 r' (Step.sub s')⟩
    · exact o1.elim
  · exact o1.elim
end

def forL (g : PV → Sm) : List PV → Sm
  | [], st => .nx st
  | p :: ps, st => match g p st with
    | .nx st' => forL g ps st'
    | .ct st' => forL g ps st'
    | .bk st' => .nx st'
    | o => o
def forB (tg : TgF) (body : Sm) : PV → Sm := fun p st => match tg p with
  | some l => body (st.sets l)
  | none => .stuck
def sFor (fi : Cm (List PV)) (tg : TgF) (body : Sm) : Sm := fun st => bindS (fi st) fun items st1 => forL (forB tg body) items st1
section
variable {G : Gd} {X : Cx} {Wx : WX} {tg it : Expr} {body : List Stmt} {pos : Pos} {f : TgF} {fi : Cm (List PV)} {g : Sm}
theorem cs_for (hp : PassesOwn (model X.prog X.w) X.A X.env X.xe) (hc : X.calm = true) (hi : CI G X Wx tg it fi) (hg : CG G X tg f) (hb : CSs G X Wx body g)
    (hs : ∀ x, foldedSetIterable it X.env x = pure x := by intro _; rfl) : CS G X Wx (.For tg it body [] pos) (sFor fi f g) := by
  refine ⟨ps_imp (ps_for hp hc hi.pi hg.pg hb.pss hs) fun D σ H ⟨W, st, r, o⟩ => ?_⟩
  refine ⟨W, st, r, ?_⟩
  unfold sFor at o
  cases efi : fi st with
  | exc c fs st' => rw [efi] at o; exact fun W' H' d r' s' k => o W' σ H' d r' s' k
  | stuck => rw [efi] at o; exact o
  | ok items st1 =>
    rw [efi] at o
    intro W1 H1 J r1 s1 wk
    have o : OutSA G Wx W1 st1 σ H1 (forL (forB f g) items st1) D := OutSA.from o s1
    refine ⟨fun i m σ2 H2 => ∃ W2 st2, R G W2 st2 σ2 H2 ∧ Same W1.F W2.F ∧ m = items.length - i ∧ i ≤ items.length ∧ OutSA G Wx W2 st2 σ2 H2 (forL (forB f g) (items.drop i) st2) D, ⟨_, W1, st1, r1, Same.refl _, rfl, Nat.zero_le _, by simpa using o⟩, ?_⟩
    rintro i m σ2 H2 ⟨W2, st2, r2, f2, hm, hi, o2⟩
    by_cases he : i = items.length
    · refine .inl ⟨by rw [he]; exact wk.stop W2 st2 σ2 H2 r2 f2, ?_⟩
      rw [List.drop_eq_nil_of_le (Nat.le_of_eq he.symm)] at o2
      exact o2 W2 σ2 H2 r2 Step.refl
    · have hlt : i < items.length := Nat.lt_of_le_of_ne hi he
      rw [List.drop_eq_getElem_cons hlt] at o2
      have hget : items[i]? = some items[i] := List.getElem?_eq_getElem hlt
      obtain ⟨hgo, hy⟩ := wk.go W2 st2 σ2 H2 i _ r2 f2 hget
      refine .inr ⟨hgo, fun σ' H' => ∃ m', m' < m ∧ ∃ W' st', R G W' st' σ' H' ∧ Same W1.F W'.F ∧ m' = items.length - (i + 1) ∧ i + 1 ≤ items.length ∧ OutSA G Wx W' st' σ' H' (forL (forB f g) (items.drop (i + 1)) st') D, fun σ' H' h => h, fun x H' yx => ?_⟩
      obtain ⟨F', r3, s3, k3⟩ := hy x H' yx
      unfold forL forB at o2
      cases el : f items[i] with
      | none => rw [el] at o2; exact o2.elim
      | some l =>
        refine ⟨⟨F', W2.A⟩, st2, _, l, r3, k3, el, fun σ4 r4 s4 w4 => ⟨_, _, r4, ?_⟩⟩
        rw [el] at o2
        simp only at o2
        have sub : Step (own W2 st2 σ2) W2 H2 (own ⟨F', W2.A⟩ (st2.sets l) σ4) ⟨F', W2.A⟩ H' := s3.trans (Step.sub s4)
        have again : ∀ {st' : ST}, OutSA G Wx W2 st2 σ2 H2 (forL (forB f g) (items.drop (i + 1)) st') D → ∀ (W' : Wd) (σ' : Sg) (H6 : Hp), R G W' st' σ' H6 → Step (own ⟨F', W2.A⟩ (st2.sets l) σ4) ⟨F', W2.A⟩ H' (own W' st' σ') W' H6 →
            ∃ m', m' < m ∧ ∃ W' st', R G W' st' σ' H6 ∧ Same W1.F W'.F ∧ m' = items.length - (i + 1) ∧ i + 1 ≤ items.length ∧ OutSA G Wx W' st' σ' H6 (forL (forB f g) (items.drop (i + 1)) st') D :=
          fun {st'} o' W' σ' H6 r6 s6 => ⟨_, by rw [hm]; omega, W', st', r6, (f2.trans (sub.trans s6).f), rfl, hlt, OutSA.from o' (sub.trans s6)⟩
        cases eg : g (st2.sets l) with
        | nx st' => rw [eg] at o2; exact fun W' σ' H6 r6 s6 => again o2 W' σ' H6 r6 s6
        | ct st' => rw [eg] at o2; exact fun W' σ' H6 r6 s6 => again o2 W' σ' H6 r6 s6
        | bk st' => rw [eg] at o2; exact fun W' σ' H6 r6 s6 => o2 W' σ' H6 r6 (sub.trans s6)
        | rt v st' =>
          rw [eg] at o2
          exact OutSA.from (o := .rt v st') o2 sub
        | exc c fs st' =>
          rw [eg] at o2
          exact OutSA.from (o := .exc c fs st') (D := D) o2 sub
        | stuck => rw [eg] at o2; exact o2
end
end Cl
set_option Elab.async false
set_option linter.all false
set_option maxRecDepth 100000
set_option maxHeartbeats 4000000
namespace Cl
open PySem PySem.Spec PyProof.Rows L2 StX ClX

theorem owned_set_m {a : Addr} {c : MC} : ∀ {ls : List (Option SL)} {vs : Sg} (i : Nat),
    (owned (ls.set i (some (.m c))) (vs.set i (some (.ref a)))).Sublist (owned ls vs) ∨
    ∃ l1 l2, owned (ls.set i (some (.m c))) (vs.set i (some (.ref a))) = l1 ++ a :: l2 ∧ (l1 ++ l2).Sublist (owned ls vs)
  | [], _, _ => .inl (by simp [owned])
  | l :: ls, [], i => .inl (by cases i <;> simp [owned, List.set])
  | l :: ls, v :: vs, 0 => by
    refine .inr ⟨[], owned ls vs, rfl, ?_⟩
    cases l with
    | none => cases v <;> exact List.Sublist.refl _
    | some y =>
      cases y with
      | m c =>
        cases v with
        | none => exact List.Sublist.refl _
        | some w => cases w <;> first | exact List.sublist_cons_self _ _ | exact List.Sublist.refl _
      | t p => cases v <;> exact List.Sublist.refl _
      | i n => cases v <;> exact List.Sublist.refl _
  | l :: ls, v :: vs, i + 1 => by
    have ih := owned_set_m (a := a) (c := c) (ls := ls) (vs := vs) i
    have skip : ∀ {x y : List Addr}, owned ((l :: ls).set (i + 1) (some (.m c))) ((v :: vs).set (i + 1) (some (.ref a))) = owned (ls.set i (some (.m c))) (vs.set i (some (.ref a))) → owned (l :: ls) (v :: vs) = owned ls vs →
        (owned ((l :: ls).set (i + 1) (some (.m c))) ((v :: vs).set (i + 1) (some (.ref a)))).Sublist (owned (l :: ls) (v :: vs)) ∨
        ∃ l1 l2, owned ((l :: ls).set (i + 1) (some (.m c))) ((v :: vs).set (i + 1) (some (.ref a))) = l1 ++ a :: l2 ∧ (l1 ++ l2).Sublist (owned (l :: ls) (v :: vs)) := by
      intro x y e1 e2
      rw [e1, e2]
      exact ih
    have skip1 : ∀ {b : Addr}, owned ((l :: ls).set (i + 1) (some (.m c))) ((v :: vs).set (i + 1) (some (.ref a))) = b :: owned (ls.set i (some (.m c))) (vs.set i (some (.ref a))) → owned (l :: ls) (v :: vs) = b :: owned ls vs →
        (owned ((l :: ls).set (i + 1) (some (.m c))) ((v :: vs).set (i + 1) (some (.ref a)))).Sublist (owned (l :: ls) (v :: vs)) ∨
        ∃ l1 l2, owned ((l :: ls).set (i + 1) (some (.m c))) ((v :: vs).set (i + 1) (some (.ref a))) = l1 ++ a :: l2 ∧ (l1 ++ l2).Sublist (owned (l :: ls) (v :: vs)) := by
      intro b e1 e2
      rw [e1, e2]
      rcases ih with h | ⟨l1, l2, h1, h2⟩
      · exact .inl (h.cons_cons _)
      · exact .inr ⟨b :: l1, l2, by rw [h1]; rfl, h2.cons_cons _⟩
    cases l with
    | none => cases v <;> exact skip (x := []) (y := []) rfl rfl
    | some y =>
      cases y with
      | m c' =>
        cases v with
        | none => exact skip (x := []) (y := []) rfl rfl
        | some w => cases w <;> first | exact skip1 rfl rfl | exact skip (x := []) (y := []) rfl rfl
      | t p => cases v <;> exact skip (x := []) (y := []) rfl rfl
      | i n => cases v <;> exact skip (x := []) (y := []) rfl rfl

section
variable {G : Gd} {W : Wd} {st : ST} {σ : Sg} {H : Hp}
theorem R.setM (r : R G W st σ H) (i : Nat) {c : MC} {a : Addr} (m : RepM G W.F H c a) (na : a ∉ own W st σ) (fa : W.F a = none) : R G W (st.set i (some (.m c))) (σ.set i (some (.ref a))) H := by
  have nd := r.nd
  unfold own at nd na
  obtain ⟨n1, n2, n3⟩ := List.nodup_append.mp nd
  have na1 : a ∉ owned st.loc σ := fun h => na (List.mem_append_left _ h)
  have na2 : a ∉ W.A := fun h => na (List.mem_append_right _ h)
  have key := owned_set_m (a := a) (c := c) (ls := st.loc) (vs := σ) i
  have mem : ∀ b ∈ owned (st.loc.set i (some (.m c))) (σ.set i (some (.ref a))), b ∈ owned st.loc σ ∨ b = a := fun b hb => by
    rcases key with h | ⟨l1, l2, h1, h2⟩
    · exact .inl (h.subset hb)
    · rw [h1] at hb
      rcases List.mem_append.mp hb with z | z
      · exact .inl (h2.subset (List.mem_append_left _ z))
      · rcases List.mem_cons.mp z with z | z
        · exact .inr z
        · exact .inl (h2.subset (List.mem_append_right _ z))
  have nd1 : (owned (st.loc.set i (some (.m c))) (σ.set i (some (.ref a)))).Nodup := by
    rcases key with h | ⟨l1, l2, h1, h2⟩
    · exact n1.sublist h
    · rw [h1]
      have q := n1.sublist h2
      have nm : a ∉ l1 ++ l2 := fun z => na1 (h2.subset z)
      rw [List.nodup_append] at q ⊢
      refine ⟨q.1, List.nodup_cons.mpr ⟨fun z => nm (List.mem_append_right _ z), q.2.1⟩, fun x hx y hy => ?_⟩
      rcases List.mem_cons.mp hy with z | z
      · rw [z]; exact fun e => nm (by rw [← e]; exact List.mem_append_left _ hx)
      · exact q.2.2 x hx y z
  refine ⟨r.le, r.inh, RepLoc.set i r.loc fun y e => ⟨_, rfl, by cases e; exact ⟨a, rfl, m⟩⟩, ?_, fun b hb => ?_⟩
  · refine List.nodup_append.mpr ⟨nd1, n2, fun x hx y hy e => ?_⟩
    subst e
    rcases mem x hx with z | z
    · exact n3 x z x hy rfl
    · exact na2 (z ▸ hy)
  · rcases List.mem_append.mp hb with z | z
    · rcases mem b z with q | q
      · exact r.fr b (List.mem_append_left _ q)
      · rw [q]; exact fa
    · exact r.fr b (List.mem_append_right _ z)
theorem R.setM_own (r : R G W st σ H) (i : Nat) {c : MC} {a : Addr} : ∀ b ∈ own W (st.set i (some (.m c))) (σ.set i (some (.ref a))), b ∈ own W st σ ∨ b = a := fun b hb => by
  rcases List.mem_append.mp hb with hb | hb
  · rcases owned_set_m (a := a) (c := c) (ls := st.loc) (vs := σ) i with h | ⟨l1, l2, h1, h2⟩
    · exact .inl (List.mem_append_left _ (h.subset hb))
    · have hb : b ∈ owned (st.loc.set i (some (.m c))) (σ.set i (some (.ref a))) := hb
      rw [h1] at hb
      rcases List.mem_append.mp hb with z | z
      · exact .inl (List.mem_append_left _ (h2.subset (List.mem_append_left _ z)))
      · rcases List.mem_cons.mp z with z | z
        · exact .inr z
        · exact .inl (List.mem_append_left _ (h2.subset (List.mem_append_right _ z)))
  · exact .inl (List.mem_append_right _ hb)
end

theorem getElem?_set_some {α : Type} {l : List α} {i : Nat} {x y : α} (h : l[i]? = some x) : (l.set i y)[i]? = some y := by
  have hl : i < l.length := by
    rcases Nat.lt_or_ge i l.length with q | q
    · exact q
    · rw [List.getElem?_eq_none q] at h; cases h
  rw [List.getElem?_set_self hl]
theorem set_same {α : Type} : ∀ {l : List α} {i : Nat} {x : α}, l[i]? = some x → l.set i x = l
  | [], _, _, _ => rfl
  | y :: l, 0, x, h => by simp at h; subst h; rfl
  | y :: l, i + 1, x, h => by
    show y :: l.set i x = y :: l
    rw [set_same (by simpa using h)]
theorem owned_frz {c : MC} {l0 : Option SL} {a : Addr} (h0 : ∀ c, l0 ≠ some (.m c)) : ∀ {ls : List (Option SL)} {vs : Sg} {i : Nat}, ls[i]? = some (some (.m c)) → vs[i]? = some (some (.ref a)) → (owned ls vs).Nodup →
    (owned (ls.set i l0) vs).Sublist (owned ls vs) ∧ a ∉ owned (ls.set i l0) vs
  | [], _, i, h, _, _ => by simp at h
  | l :: ls, [], i, _, h, _ => by simp at h
  | l :: ls, v :: vs, 0, h1, h2, nd => by
    simp at h1 h2
    subst h1; subst h2
    have nd : (a :: owned ls vs).Nodup := nd
    have e : owned (l0 :: ls) (some (.ref a) :: vs) = owned ls vs := by
      cases l0 with
      | none => rfl
      | some y =>
        cases y with
        | m c => exact absurd rfl (h0 c)
        | t p => rfl
        | i n => rfl
    show (owned (l0 :: ls) (some (.ref a) :: vs)).Sublist (a :: owned ls vs) ∧ a ∉ owned (l0 :: ls) (some (.ref a) :: vs)
    rw [e]
    exact ⟨List.sublist_cons_self _ _, (List.nodup_cons.mp nd).1⟩
  | l :: ls, v :: vs, i + 1, h1, h2, nd => by
    have h1 : ls[i]? = some (some (.m c)) := by simpa using h1
    have h2 : vs[i]? = some (some (.ref a)) := by simpa using h2
    have skip : owned (l :: ls) (v :: vs) = owned ls vs → owned ((l :: ls).set (i + 1) l0) (v :: vs) = owned (ls.set i l0) vs →
        (owned ((l :: ls).set (i + 1) l0) (v :: vs)).Sublist (owned (l :: ls) (v :: vs)) ∧ a ∉ owned ((l :: ls).set (i + 1) l0) (v :: vs) := by
      intro e1 e2
      rw [e1, e2]
      rw [e1] at nd
      exact owned_frz h0 h1 h2 nd
    have skip1 : ∀ {b : Addr}, owned (l :: ls) (v :: vs) = b :: owned ls vs → owned ((l :: ls).set (i + 1) l0) (v :: vs) = b :: owned (ls.set i l0) vs →
        (owned ((l :: ls).set (i + 1) l0) (v :: vs)).Sublist (owned (l :: ls) (v :: vs)) ∧ a ∉ owned ((l :: ls).set (i + 1) l0) (v :: vs) := by
      intro b e1 e2
      rw [e1, e2]
      rw [e1] at nd
      obtain ⟨n1, n2⟩ := List.nodup_cons.mp nd
      obtain ⟨q1, q2⟩ := owned_frz h0 h1 h2 n2
      refine ⟨q1.cons_cons _, fun z => ?_⟩
      rcases List.mem_cons.mp z with z | z
      · exact n1 (by rw [← z]; exact owned_get h1 h2)
      · exact q2 z
    cases l with
    | none => cases v <;> exact skip rfl rfl
    | some y =>
      cases y with
      | m c' =>
        cases v with
        | none => exact skip rfl rfl
        | some w => cases w <;> first | exact skip1 rfl rfl | exact skip rfl rfl
      | t p => cases v <;> exact skip rfl rfl
      | i n => cases v <;> exact skip rfl rfl
section
variable {G : Gd} {W : Wd} {st : ST} {σ : Sg} {H : Hp}
theorem R.frz (r : R G W st σ H) {i : Nat} {c : MC} (h : st.loc[i]? = some (some (.m c))) : ∃ a o, σ[i]? = some (some (.ref a)) ∧ Rep G (upd W.F a o) c.pv (.ref a) ∧ R G ⟨upd W.F a o, W.A⟩ (st.set i (some (.t c.pv))) σ H ∧
    Step (own W st σ) W H (own ⟨upd W.F a o, W.A⟩ (st.set i (some (.t c.pv))) σ) ⟨upd W.F a o, W.A⟩ H := by
  obtain ⟨v, e1, a, rfl, m⟩ := r.loc.get h
  have ha : a ∈ own W st σ := List.mem_append_left _ (owned_get h e1)
  obtain ⟨n1, n2, n3⟩ := List.nodup_append.mp r.nd
  obtain ⟨q1, q2⟩ := owned_frz (l0 := some (.t c.pv)) (by simp) h e1 n1
  obtain ⟨o, ho, k⟩ := m.frozen (r.fr a ha)
  have fs := same_upd (o := o) (r.fr a ha)
  have sub : (own ⟨upd W.F a o, W.A⟩ (st.set i (some (.t c.pv))) σ).Sublist (own W st σ) := q1.append (List.Sublist.refl _)
  have na : a ∉ own ⟨upd W.F a o, W.A⟩ (st.set i (some (.t c.pv))) σ := fun z => by
    rcases List.mem_append.mp z with z | z
    · exact q2 z
    · exact n3 a (owned_get h e1) a z rfl
  refine ⟨a, o, e1, k, ⟨fun b u e => ?_, RepMs.mono fs (fun _ _ _ e => e) r.inh, ?_, r.nd.sublist sub, fun b hb => ?_⟩, ⟨fs, rfl, fun b => ?_, fun b hb => .inl (sub.subset hb), fun b u e _ => e⟩⟩
  · have e : upd W.F a o b = some u := e
    by_cases q : b = a
    · subst q; rw [upd_same] at e; cases e; exact ho
    · rw [upd_ne q] at e; exact r.le b u e
  · have q := RepLoc.set (l := some (.t c.pv)) (v := some (.ref a)) i (RepLoc.mono (W := W) (F' := upd W.F a o) (H' := H) fs (fun _ _ _ e => e) r.loc) fun y e => ⟨_, rfl, by cases e; exact k⟩
    rw [set_same e1] at q
    exact q
  · have q : b ≠ a := fun z => na (by rw [← z]; exact hb)
    show upd W.F a o b = none
    rw [upd_ne q]
    exact r.fr b (sub.subset hb)
  · by_cases q : b = a
    · subst q; exact .inr (.inr ha)
    · exact .inl (upd_ne q)
end
def cMv (i : Nat) : Cm SV := fun st => match st.loc[i]? with
  | some (some (.t p)) => .ok (.t p) st
  | some (some (.m c)) => .ok (.t c.pv) (st.set i (some (.t c.pv)))
  | _ => .stuck
section
variable {G : Gd} {X : Cx} {Wx : WX} {e a b : Expr} {es : List Expr} {p pos : Pos} {x : PySem.Str} {fa fb : Cm SV} {fs : Cm (List SV)}
theorem ce_mv {i : Nat} (hi : X.N[i]? = some x) (hv : Vis X.env.scope x) (hd : (x == ("__debug__" : PySem.Str)) = false := by decide) (hcd : (x == ("__classdict__" : PySem.Str)) = false := by decide) :
    CE G X Wx (.Name x p) (cMv i) := by
  refine ⟨pe_imp (pe_var hi hv hd hcd) fun σ H Q ⟨W, st, r, o⟩ => ?_⟩
  unfold cMv at o
  split at o
  · rename_i q hq
    obtain ⟨v, e1, k⟩ := r.loc.get hq
    exact ⟨v, e1, o W H v r Step.refl k⟩
  · rename_i c hq
    obtain ⟨a, ob, e1, k, r', s'⟩ := r.frz hq
    exact ⟨_, e1, o _ H _ r' s' k⟩
  · exact o.elim
end

def OutM (G : Gd) (Wx : WX) (W : Wd) (st : ST) (σ : Sg) (H : Hp) (o : Out MC) (Q : VK) : Prop :=
  match o with
  | .ok c st' => ∀ W' H' a, R G W' st' σ H' → Step (own W st σ) W H (own W' st' σ) W' H' → RepM G W'.F H' c a → a ∉ own W' st' σ → W'.F a = none → (H a = none ∨ a ∈ own W st σ) → Q (.ref a) H'
  | .exc c fs st' => ∀ W' H' d, R G W' st' σ H' → Step (own W st σ) W H (own W' st' σ) W' H' → RepX G W' H' fs d → Wx (.ref (G.cls c)) (some d) σ H'
  | .stuck => False
def tM (G : Gd) (Wx : WX) (f : Cm MC) : TE := fun σ H Q => ∃ W st, R G W st σ H ∧ OutM G Wx W st σ H (f st) Q
structure CM (G : Gd) (X : Cx) (Wx : WX) (e : Expr) (f : Cm MC) : Prop where
  pe : PE X e (tM G Wx f)
section
variable {G : Gd} {X : Cx} {Wx : WX} {σ : Sg} {H : Hp} {Q : VK}
theorem OutM.from {W W1 : Wd} {st st1 : ST} {H H1 : Hp} {o : Out MC} (h : OutM G Wx W st σ H o Q) (s : Step (own W st σ) W H (own W1 st1 σ) W1 H1) : OutM G Wx W1 st1 σ H1 o Q := by
  cases o with
  | ok v st' => exact fun W' H' a r s' m na fa b => h W' H' a r (s.trans s') m na fa (s.born b)
  | exc c fs st' => exact fun W' H' d r s' q => h W' H' d r (s.trans s') q
  | stuck => exact h
theorem tM_step {α β : Type} {rel : Wd → Sg → α → β → Prop} {f : Cm α} {k : α → ST → Out MC} {W : Wd} {st : ST} (r : R G W st σ H) (o : OutM G Wx W st σ H ((f st).bind k) Q) :
    tA G Wx rel f σ H fun u H1 => ∃ W1 st1 v, R G W1 st1 σ H1 ∧ Same W.F W1.F ∧ W1.A = W.A ∧ rel W1 σ v u ∧ OutM G Wx W1 st1 σ H1 (k v st1) Q := by
  refine ⟨W, st, r, ?_⟩
  cases ef : f st with
  | ok v st' => rw [ef] at o; exact fun W' H' u r' s' q => ⟨W', st', v, r', s'.f, s'.a, q, OutM.from o s'⟩
  | exc c fs st' => rw [ef] at o; exact o
  | stuck => rw [ef] at o; exact o
def cFrz (f : Cm MC) : Cm SV := fun st => (f st).bind fun c st1 => .ok (.t c.pv) st1
theorem tM_of_frz {f : Cm MC} (h : tE G Wx (cFrz f) σ H Q) : tM G Wx f σ H Q := by
  obtain ⟨W, st, r, o⟩ := h
  refine ⟨W, st, r, ?_⟩
  unfold cFrz at o
  cases ef : f st with
  | ok c st' =>
    rw [ef] at o
    intro W' H' a r' s' m na fa b
    obtain ⟨ob, e1, k⟩ := m.frozen fa
    refine o _ H' (.ref a) (r'.freeze e1 na fa) ⟨s'.f.trans (same_upd fa), s'.a, fun x => ?_, s'.no, s'.keep⟩ k
    by_cases hx : x = a
    · subst hx
      rcases b with z | z
      · exact .inr (.inl z)
      · exact .inr (.inr z)
    · rcases s'.nf x with z | z
      · exact .inl ((upd_ne hx).trans z)
      · exact .inr z
  | exc c fs st' => rw [ef] at o; exact o
  | stuck => rw [ef] at o; exact o
theorem CM.ce {e : Expr} {f : Cm MC} (h : CM G X Wx e f) : CE G X Wx e (cFrz f) := ⟨pe_imp h.pe fun σ H Q q => tM_of_frz q⟩
def GvM (G : Gd) (W : Wd) (st : ST) (σ : Sg) (H : Hp) (c : MC) (Q : VK) : Prop :=
  ∀ W' H' a, R G W' st σ H' → Step (own W st σ) W H (own W' st σ) W' H' → RepM G W'.F H' c a → a ∉ own W' st σ → W'.F a = none → (H a = none ∨ a ∈ own W st σ) → Q (.ref a) H'
theorem R.frno {W : Wd} {st : ST} (r : R G W st σ H) {a : Addr} (h : H a = none) : W.F a = none := by
  cases e : W.F a with
  | none => rfl
  | some u => have := r.le a u e; rw [h] at this; cases this
theorem R.laid {W : Wd} {st : ST} (r : R G W st σ H) {p : Addr} {o : HO} (hp : H p = none) : R G W st σ (upd H p o) :=
  r.grow (F' := W.F) (Same.refl _) (fun b u e _ => same_upd hp b u e) (fun b u e => same_upd hp b u (r.le b u e)) fun b => .inl rfl
theorem R.laid_step {W : Wd} {st : ST} (r : R G W st σ H) {p : Addr} {o : HO} (hp : H p = none) : Step (own W st σ) W H (own W st σ) W (upd H p o) :=
  ⟨Same.refl _, rfl, fun _ => .inl rfl, fun _ h => .inl h, fun b u e _ => same_upd hp b u e⟩
theorem GvM.lst {W : Wd} {st : ST} {xs : List PV} {vs : List V} (g : GvM G W st σ H (.lst xs) Q) (r : R G W st σ H) (l : RepL G W.F xs vs) : ∀ p, H p = none → Q (.ref p) (upd H p (.lst vs)) := fun p hp =>
  g W _ p (r.laid hp) (r.laid_step hp) ⟨vs, upd_same, l⟩ (r.notown hp) (r.frno hp) (.inl hp)
theorem GvM.dct {W : Wd} {st : ST} {xs : List (PV × PV)} {vs : List (Key × V)} (g : GvM G W st σ H (.dct xs) Q) (r : R G W st σ H) (l : RepK G W.F xs vs) : ∀ p, H p = none → Q (.ref p) (upd H p (.dK vs)) := fun p hp =>
  g W _ p (r.laid hp) (r.laid_step hp) ⟨vs, upd_same, l⟩ (r.notown hp) (r.frno hp) (.inl hp)
def ofM (st : ST) (o : Option MC) : Out MC :=
  match o with
  | some p => .ok p st
  | none => .stuck
theorem ofM_some {W : Wd} {st : ST} {o : Option MC} (h : OutM G Wx W st σ H (ofM st o) Q) : ∃ z, o = some z ∧ GvM G W st σ H z Q := by
  cases o with
  | none => exact h.elim
  | some z => exact ⟨z, rfl, h⟩
variable {e a b : Expr} {es : List Expr} {p pos : Pos} {fa fb : Cm SV} {fs : Cm (List SV)}
def mDisp (fs : Cm (List SV)) : Cm MC := fun st => (fs st).bind fun xs st1 => ofM st1 ((trees xs).bind fun ps => if szOk ps.length then some (.lst ps) else none)
theorem szOk_p {n : Nat} (h : szOk n = true) : n ≤ sizeLine := of_decide_eq_true h
theorem cm_lst (h : CA G X Wx es fs) : CM G X Wx (.List es pos) (mDisp fs) := by
  refine ⟨pe_imp (pe_lst h.pa) fun σ H Q ⟨W, st, r, o⟩ => ?_⟩
  refine tA_mono (tM_step (rel := RepSs G) r o) fun us H1 ⟨W1, st1, v, r1, _, _, q1, o1⟩ => ?_
  obtain ⟨z, e, g⟩ := ofM_some o1
  obtain ⟨ps, e1, e2⟩ := Option.bind_eq_some_iff.mp e
  have l := trees_rep q1 e1
  split at e2
  · rename_i hz
    cases e2
    exact ⟨by rw [← l.length]; exact szOk_p hz, fun p hp => g.lst r1 l p hp⟩
  · cases e2
def sSetM (i : Nat) (f : Cm MC) : Sm := fun st => bindS (f st) fun c st1 => .nx (st1.set i (some (.m c)))
theorem setM_in {i : Nat} {f : Cm MC} {D : Ends} (h : tS G Wx (sSetM i f) D σ H) : tM G Wx f σ H fun x H1 => D.nx (σ.set i (some x)) H1 := by
  obtain ⟨W, st, r, o⟩ := h
  refine ⟨W, st, r, ?_⟩
  unfold sSetM at o
  cases ef : f st with
  | ok c st' =>
    rw [ef] at o
    intro W' H' a r' s' m na fa b
    refine o W' _ H' (r'.setM i m na fa) ⟨s'.f, s'.a, s'.nf, fun x hx => ?_, s'.keep⟩
    rcases r'.setM_own i x hx with z | z
    · exact s'.no x z
    · subst z; exact b.symm
  | exc c fs st' => rw [ef] at o; exact fun W' H' d r' s' k => o W' σ H' d r' s' k
  | stuck => rw [ef] at o; exact o
end
end Cl
set_option Elab.async false
set_option linter.all false
set_option maxRecDepth 100000
set_option maxHeartbeats 4000000
namespace Cl
open PySem PySem.Spec PyProof.Rows L2 StX ClX

inductive FV where
  | t (p : PV) | n (c : MC)
def newA : List FV → List V → List Addr
  | .n _ :: fs, .ref a :: vs => a :: newA fs vs
  | _ :: fs, _ :: vs => newA fs vs
  | _, _ => []
def RepFs (G : Gd) (W : Wd) (o : List Addr) (H : Hp) : List FV → List V → Prop
  | [], [] => True
  | .t p :: fs, v :: vs => Rep G W.F p v ∧ RepFs G W o H fs vs
  | .n c :: fs, v :: vs => (∃ a, v = .ref a ∧ RepM G W.F H c a ∧ a ∉ o ∧ W.F a = none ∧ a ∉ newA fs vs) ∧ RepFs G W o H fs vs
  | _, _ => False
def OutN (G : Gd) (Wx : WX) (W : Wd) (st : ST) (σ : Sg) (H : Hp) (o : Out (List FV)) (Q : List V → Hp → Prop) : Prop :=
  match o with
  | .ok fs st' => ∀ W' H' vs, R G W' st' σ H' → Step (own W st σ) W H (own W' st' σ) W' H' → RepFs G W' (own W' st' σ) H' fs vs → (∀ a ∈ newA fs vs, H a = none ∨ a ∈ own W st σ) → Q vs H'
  | .exc c fs st' => ∀ W' H' d, R G W' st' σ H' → Step (own W st σ) W H (own W' st' σ) W' H' → RepX G W' H' fs d → Wx (.ref (G.cls c)) (some d) σ H'
  | .stuck => False
def tN (G : Gd) (Wx : WX) (f : Cm (List FV)) : TA := fun σ H Q => ∃ W st, R G W st σ H ∧ OutN G Wx W st σ H (f st) Q
structure CN (G : Gd) (X : Cx) (Wx : WX) (es : List Expr) (f : Cm (List FV)) : Prop where
  pa : PA X es (tN G Wx f)
def nNil : Cm (List FV) := fun st => .ok [] st
def nT (fa : Cm SV) (fr : Cm (List FV)) : Cm (List FV) := fun st => (fa st).bind fun x st1 => match x with
  | .t p => (fr st1).bind fun xs st2 => .ok (.t p :: xs) st2
  | _ => .stuck
def nM (fa : Cm MC) (fr : Cm (List FV)) : Cm (List FV) := fun st => (fa st).bind fun c st1 => (fr st1).bind fun xs st2 => .ok (.n c :: xs) st2
section
variable {G : Gd} {X : Cx} {Wx : WX} {e : Expr} {es : List Expr} {fa : Cm SV} {fm : Cm MC} {fr : Cm (List FV)} {pos : Pos}
theorem OutN.from {σ : Sg} {W W1 : Wd} {st st1 : ST} {H H1 : Hp} {o : Out (List FV)} {Q : List V → Hp → Prop} (h : OutN G Wx W st σ H o Q) (s : Step (own W st σ) W H (own W1 st1 σ) W1 H1) : OutN G Wx W1 st1 σ H1 o Q := by
  cases o with
  | ok v st' => exact fun W' H' vs r s' m b => h W' H' vs r (s.trans s') m fun a ha => s.born (b a ha)
  | exc c fs st' => exact fun W' H' d r s' q => h W' H' d r (s.trans s') q
  | stuck => exact h
theorem cn_nil : CN G X Wx [] nNil := ⟨pa_imp pa_nil fun σ H Q ⟨W, st, r, o⟩ => o W H [] r Step.refl trivial (by simp [newA])⟩
theorem cn_t (ha : CE G X Wx e fa) (hr : CN G X Wx es fr) (hs : starEach (e :: es) X.env = (false, eval e X.env) :: starEach es X.env := by rfl) : CN G X Wx (e :: es) (nT fa fr) := by
  refine ⟨pa_imp (pa_cons ha.pe hr.pa hs) fun σ H Q ⟨W, st, r, o⟩ => ?_⟩
  refine ⟨W, st, r, ?_⟩
  unfold nT at o
  cases ef : fa st with
  | exc c fs st' => rw [ef] at o; exact o
  | stuck => rw [ef] at o; exact o
  | ok x st1 =>
    rw [ef] at o
    intro W1 H1 u r1 s1 q1
    cases x with
    | pl q => exact (show False from o).elim
    | t p =>
      refine ⟨W1, st1, r1, ?_⟩
      have o := OutN.from o s1
      cases eg : fr st1 with
      | exc c fs st' =>
        have o : OutN G Wx W1 st1 σ H1 ((fr st1).bind fun xs st2 => .ok (.t p :: xs) st2) Q := o
        rw [eg] at o; exact o
      | stuck =>
        have o : OutN G Wx W1 st1 σ H1 ((fr st1).bind fun xs st2 => .ok (.t p :: xs) st2) Q := o
        rw [eg] at o; exact o
      | ok fs st2 =>
        have o : OutN G Wx W1 st1 σ H1 ((fr st1).bind fun xs st2 => .ok (.t p :: xs) st2) Q := o
        rw [eg] at o
        exact fun W2 H2 vs r2 s2 k b => o W2 H2 (u :: vs) r2 s2 ⟨Rep.mono s2.f q1, k⟩ b
theorem RepM.stay {o o' : List Addr} {W W' : Wd} {H H' : Hp} {c : MC} {a : Addr} (m : RepM G W.F H c a) (na : a ∉ o) (fa : W.F a = none) (s : Step o W H o' W' H') : RepM G W'.F H' c a ∧ a ∉ o' ∧ W'.F a = none := by
  obtain ⟨u, hu⟩ := m.there
  refine ⟨m.mono s.f fun u e => s.keep a u e na, fun h => ?_, ?_⟩
  · rcases s.no a h with z | z
    · exact na z
    · rw [hu] at z; cases z
  · rcases s.nf a with z | z | z
    · exact z.trans fa
    · rw [hu] at z; cases z
    · exact absurd z na
theorem cn_m (ha : CM G X Wx e fm) (hr : CN G X Wx es fr) (hs : starEach (e :: es) X.env = (false, eval e X.env) :: starEach es X.env := by rfl) : CN G X Wx (e :: es) (nM fm fr) := by
  refine ⟨pa_imp (pa_cons ha.pe hr.pa hs) fun σ H Q ⟨W, st, r, o⟩ => ?_⟩
  refine ⟨W, st, r, ?_⟩
  unfold nM at o
  cases ef : fm st with
  | exc c fs st' => rw [ef] at o; exact o
  | stuck => rw [ef] at o; exact o
  | ok c st1 =>
    rw [ef] at o
    intro W1 H1 a r1 s1 m na fa b0
    refine ⟨W1, st1, r1, ?_⟩
    have o : OutN G Wx W1 st1 σ H1 ((fr st1).bind fun xs st2 => .ok (.n c :: xs) st2) Q ∧ OutN G Wx W st σ H ((fr st1).bind fun xs st2 => .ok (.n c :: xs) st2) Q := ⟨OutN.from o s1, o⟩
    cases eg : fr st1 with
    | exc c fs st' => rw [eg] at o; exact o.1
    | stuck => rw [eg] at o; exact o.1
    | ok fs st2 =>
      rw [eg] at o
      intro W2 H2 vs r2 s2 k b
      obtain ⟨m2, na2, fa2⟩ := m.stay na fa s2
      refine o.2 W2 H2 (.ref a :: vs) r2 (s1.trans s2) ⟨⟨a, rfl, m2, na2, fa2, fun z => ?_⟩, k⟩ fun x hx => ?_
      · obtain ⟨u, hu⟩ := m.there
        rcases b a z with q | q
        · rw [hu] at q; cases q
        · exact na q
      · rcases List.mem_cons.mp hx with z | z
        · rw [z]; exact b0
        · exact s1.born (b x z)
def ST.setF (st : ST) (i : Nat) : FV → ST
  | .t p => st.set i (some (.t p))
  | .n c => st.set i (some (.m c))
def setFs (st : ST) : List Nat → List FV → ST
  | i :: is, f :: fs => setFs (st.setF i f) is fs
  | _, _ => st
def setVs (σ : Sg) : List Nat → List V → Sg
  | i :: is, v :: vs => setVs (σ.set i (some v)) is vs
  | _, _ => σ
theorem RepFs.less {W : Wd} {o o' : List Addr} {H : Hp} : ∀ {fs : List FV} {vs : List V}, RepFs G W o H fs vs → (∀ b ∈ o', b ∈ o ∨ b ∉ newA fs vs) → RepFs G W o' H fs vs
  | [], [], _, _ => trivial
  | .t p :: fs, v :: vs, ⟨k, l⟩, h => ⟨k, l.less fun b hb => h b hb⟩
  | .n c :: fs, _ :: vs, ⟨⟨a, e, m, na, fa, nn⟩, l⟩, h => by
    subst e
    refine ⟨⟨a, rfl, m, fun z => ?_, fa, nn⟩, l.less fun b hb => (h b hb).imp_right fun q z => q (List.mem_cons_of_mem _ z)⟩
    rcases h a z with q | q
    · exact na q
    · exact q (List.mem_cons_self ..)
  | [], _ :: _, h, _ => h.elim
  | .t _ :: _, [], h, _ => h.elim
  | .n _ :: _, [], h, _ => h.elim
theorem R.setFs {W : Wd} {H : Hp} : ∀ {is : List Nat} {fs : List FV} {vs : List V} {st : ST} {σ : Sg}, R G W st σ H → RepFs G W (own W st σ) H fs vs →
    R G W (Cl.setFs st is fs) (setVs σ is vs) H ∧ ∀ b ∈ own W (Cl.setFs st is fs) (setVs σ is vs), b ∈ own W st σ ∨ b ∈ newA fs vs
  | [], fs, vs, st, σ, r, k => by
    have e1 : Cl.setFs st [] fs = st := by cases fs <;> rfl
    have e2 : setVs σ [] vs = σ := by cases vs <;> rfl
    rw [e1, e2]
    exact ⟨r, fun b h => .inl h⟩
  | i :: is, [], [], st, σ, r, k => ⟨r, fun b h => .inl h⟩
  | i :: is, .t p :: fs, v :: vs, st, σ, r, ⟨q, k⟩ => by
    have sub : ∀ b ∈ own W (st.set i (some (.t p))) (σ.set i (some v)), b ∈ own W st σ := fun b h => ((owned_set_sub i (by simp)).append (List.Sublist.refl _)).subset h
    obtain ⟨h1, h2⟩ := R.setFs (is := is) (r.setT i q) (k.less fun b h => .inl (sub b h))
    exact ⟨h1, fun b h => (h2 b h).imp (sub b) fun z => by cases v <;> exact z⟩
  | i :: is, .n c :: fs, v :: vs, st, σ, r, ⟨⟨a, e, m, na, fa, nn⟩, k⟩ => by
    subst e
    obtain ⟨h1, h2⟩ := R.setFs (is := is) (r.setM i m na fa) (k.less fun b h => (r.setM_own i b h).imp_right fun z => by rw [z]; exact nn)
    refine ⟨h1, fun b h => ?_⟩
    rcases h2 b h with z | z
    · rcases r.setM_own i b z with q | q
      · exact .inl q
      · rw [q]; exact .inr (List.mem_cons_self ..)
    · exact .inr (List.mem_cons_of_mem _ z)
  | i :: is, .t p :: fs, [], st, σ, r, k => (show False from k).elim
  | i :: is, .n c :: fs, [], st, σ, r, k => (show False from k).elim
  | i :: is, [], v :: vs, st, σ, r, k => (show False from k).elim
def sPar (is : List Nat) (f : Cm (List FV)) : Sm := fun st => bindS (f st) fun fs st1 => if fs.length = is.length then .nx (setFs st1 is fs) else .stuck
theorem RepFs.length {W : Wd} {o : List Addr} {H : Hp} : ∀ {fs : List FV} {vs : List V}, RepFs G W o H fs vs → fs.length = vs.length
  | [], [], _ => rfl
  | .t p :: fs, v :: vs, ⟨_, l⟩ => congrArg (· + 1) l.length
  | .n c :: fs, _ :: vs, ⟨_, l⟩ => congrArg (· + 1) l.length
  | [], _ :: _, h => h.elim
  | .t _ :: _, [], h => h.elim
  | .n _ :: _, [], h => h.elim
theorem par_in {is : List Nat} {f : Cm (List FV)} {D : Ends} {σ : Sg} {H : Hp} (h : tS G Wx (sPar is f) D σ H) : tN G Wx f σ H fun vs H1 => vs.length = is.length ∧ D.nx (setVs σ is vs) H1 := by
  obtain ⟨W, st, r, o⟩ := h
  refine ⟨W, st, r, ?_⟩
  unfold sPar at o
  cases ef : f st with
  | exc c fs st' => rw [ef] at o; exact fun W' H' d r' s' k => o W' σ H' d r' s' k
  | stuck => rw [ef] at o; exact o
  | ok fs st' =>
    rw [ef] at o
    have o : OutSA G Wx W st σ H (if fs.length = is.length then .nx (Cl.setFs st' is fs) else .stuck) D := o
    intro W' H' vs r' s' k b
    split at o
    · rename_i hl
      obtain ⟨h1, h2⟩ := r'.setFs (is := is) k
      refine ⟨k.length.symm.trans hl, o W' _ H' h1 ⟨s'.f, s'.a, s'.nf, fun x hx => ?_, s'.keep⟩⟩
      rcases h2 x hx with z | z
      · exact s'.no x z
      · exact (b x z).symm
    · exact o.elim
theorem cs_par {i j : Nat} {x y : PySem.Str} {a b : Expr} {f : Cm (List FV)} {px py pt : Pos} {kt k2 pt2} (hc : X.calm = true) (hN : X.N.Nodup) (hi : X.N[i]? = some x) (hj : X.N[j]? = some y) (hij : i ≠ j)
    (hx : X.env.scope.names.lookup x = some .local) (hy : X.env.scope.names.lookup y = some .local) (ha : CN G X Wx [a, b] f)
    (hw : swappedStores [.Tuple [.Name x px, .Name y py] kt pt] (.Tuple [a, b] k2 pt2) X.env = pure (some [x, y]))
    (hs : swapsWithSole [.Tuple [.Name x px, .Name y py] kt pt] (.Tuple [a, b] k2 pt2) pos.line X.env = pure false := by rfl) :
    CS G X Wx (.Assign [.Tuple [.Name x px, .Name y py] kt pt] (.Tuple [a, b] k2 pt2) pos) (sPar [i, j] f) := by
  refine ⟨ps_imp (ps_par hc hN hi hj hij hx hy ha.pa hw hs) fun D σ H h => ?_⟩
  obtain ⟨W, st, r, o⟩ := par_in h
  refine ⟨W, st, r, ?_⟩
  cases ef : f st with
  | exc c fs st' => rw [ef] at o; exact o
  | stuck => rw [ef] at o; exact o
  | ok fs st' =>
    rw [ef] at o
    intro W' H' vs r' s' k b
    obtain ⟨h1, h2⟩ := o W' H' vs r' s' k b
    match vs, h1, h2 with
    | [v, w], _, h2 => exact ⟨v, w, rfl, h2⟩
theorem cs_par3 {i j l : Nat} {x y z : PySem.Str} {a b c : Expr} {f : Cm (List FV)} {px py pz pt : Pos} {kt k2 pt2} (hc : X.calm = true) (hN : X.N.Nodup) (hi : X.N[i]? = some x) (hj : X.N[j]? = some y) (hl : X.N[l]? = some z) (hij : i ≠ j) (hil : i ≠ l) (hjl : j ≠ l)
    (hx : X.env.scope.names.lookup x = some .local) (hy : X.env.scope.names.lookup y = some .local) (hz : X.env.scope.names.lookup z = some .local) (ha : CN G X Wx [a, b, c] f)
    (hw : swappedStores [.Tuple [.Name x px, .Name y py, .Name z pz] kt pt] (.Tuple [a, b, c] k2 pt2) X.env = pure (some [x, y, z]))
    (hs : swapsWithSole [.Tuple [.Name x px, .Name y py, .Name z pz] kt pt] (.Tuple [a, b, c] k2 pt2) pos.line X.env = pure false := by rfl) :
    CS G X Wx (.Assign [.Tuple [.Name x px, .Name y py, .Name z pz] kt pt] (.Tuple [a, b, c] k2 pt2) pos) (sPar [i, j, l] f) := by
  refine ⟨ps_imp (ps_par3 hc hN hi hj hl hij hil hjl hx hy hz ha.pa hw hs) fun D σ H h => ?_⟩
  obtain ⟨W, st, r, o⟩ := par_in h
  refine ⟨W, st, r, ?_⟩
  cases ef : f st with
  | exc c fs st' => rw [ef] at o; exact o
  | stuck => rw [ef] at o; exact o
  | ok fs st' =>
    rw [ef] at o
    intro W' H' vs r' s' k b
    obtain ⟨h1, h2⟩ := o W' H' vs r' s' k b
    match vs, h1, h2 with
    | [u, v, w], _, h2 => exact ⟨u, v, w, rfl, h2⟩
theorem cs_setM {i : Nat} {x : PySem.Str} {pos' : Pos} (hN : X.N.Nodup) (hi : X.N[i]? = some x) (hx : Loc X.env.scope x) (he : CM G X Wx e fm) (hs : swapsWith e (some (.Name x pos')) pos.line X.env = pure false := by rfl)
    (hf : X.fn x = true ∨ X.env.scope.names.lookup x = some .local := by first | exact .inl rfl | exact .inr rfl | assumption) : CS G X Wx (.Assign [.Name x pos'] e pos) (sSetM i fm) :=
  ⟨ps_imp (ps_set hN hi hx he.pe hs hf) fun D σ H h => setM_in h⟩

def whileF (c : Cm Bool) (g : Sm) : Nat → Sm
  | 0, _ => .stuck
  | n + 1, st => bindS (c st) fun b st1 => if b = true then (match g st1 with
    | .nx st' => whileF c g n st'
    | .ct st' => whileF c g n st'
    | .bk st' => .nx st'
    | o => o) else .nx st1
theorem cs_while (n : Nat) {c : Expr} {body : List Stmt} {fc : Cm Bool} {g : Sm} (hp : PassesOwn (model X.prog X.w) X.A X.env X.xe) (hc : CT G X Wx c fc) (hb : CSs G X Wx body g) : CS G X Wx (.While c body [] pos) (whileF fc g n) := by
  refine ⟨ps_imp (ps_while hp hc.pt hb.pss) fun D σ H ⟨W, st, r, o⟩ => ?_⟩
  refine ⟨fun m σ2 H2 => ∃ W2 st2, R G W2 st2 σ2 H2 ∧ OutSA G Wx W2 st2 σ2 H2 (whileF fc g m st2) D, ⟨n, W, st, r, o⟩, ?_⟩
  rintro m σ2 H2 ⟨W2, st2, r2, o2⟩
  cases m with
  | zero => exact o2.elim
  | succ m =>
    unfold whileF at o2
    refine tA_mono (eS (rel := RepB) r2 o2) fun b H3 ⟨W3, st3, v, r3, _, _, q3, o3⟩ => ?_
    cases q3
    cases b with
    | false => exact o3 W3 σ2 H3 r3 Step.refl
    | true =>
      refine ⟨fun σ' H' => ∃ m', m' < m + 1 ∧ ∃ W' st', R G W' st' σ' H' ∧ OutSA G Wx W' st' σ' H' (whileF fc g m' st') D, fun σ' H' h => h, W3, st3, r3, ?_⟩
      have o3 : OutSA G Wx W3 st3 σ2 H3 (match g st3 with
        | .nx st' => whileF fc g m st'
        | .ct st' => whileF fc g m st'
        | .bk st' => .nx st'
        | o => o) D := o3
      cases eg : g st3 with
      | nx st' => rw [eg] at o3; exact fun W' σ' H6 r6 s6 => ⟨m, Nat.lt_succ_self _, W', st', r6, OutSA.from o3 s6⟩
      | ct st' => rw [eg] at o3; exact fun W' σ' H6 r6 s6 => ⟨m, Nat.lt_succ_self _, W', st', r6, OutSA.from o3 s6⟩
      | bk st' => rw [eg] at o3; exact o3
      | rt v st' => rw [eg] at o3; exact o3
      | exc c fs st' => rw [eg] at o3; exact o3
      | stuck => rw [eg] at o3; exact o3
end
end Cl
set_option Elab.async false
set_option linter.all false
set_option maxRecDepth 100000
set_option maxHeartbeats 4000000
namespace Cl
open PySem PySem.Spec PyProof.Rows L2 StX ClX

def ST.clear (st : ST) : List Nat → ST
  | [] => st
  | v :: vs => (st.clear vs).set v none
def ST.restore (st st0 : ST) : List Nat → ST
  | [] => st
  | v :: vs => (st.restore st0 vs).set v (st0.loc.getD v none)
def plainAt (st : ST) (vs : List Nat) : Bool := vs.all fun v => match st.loc[v]? with
  | some (some (.m _)) => false
  | some (some (.i _)) => false
  | _ => true
def lcL (tg : TgF) (fc : Cm Bool) (fe : Cm SV) (vs : List Nat) : List PV → Cm (List PV)
  | [], st => .ok [] st
  | p :: ps, st => match tg p with
    | none => .stuck
    | some l => (fc (st.sets l)).bind fun b st1 => if b = true then (fe st1).bind fun y st2 => (match y with
        | .t q => (lcL tg fc fe vs ps (st2.clear vs)).bind fun qs st3 => .ok (q :: qs) st3
        | _ => .stuck) else lcL tg fc fe vs ps (st1.clear vs)
def mLc (fi : Cm (List PV)) (tg : TgF) (fc : Cm Bool) (fe : Cm SV) (vs : List Nat) : Cm MC := fun st => (fi st).bind fun items st1 =>
  if plainAt st1 vs = true then (match lcL tg fc fe vs items (st1.clear vs) with
    | .ok qs st2 => if szOk qs.length = true then .ok (.lst qs) (st2.restore st1 vs) else .stuck
    | _ => .stuck) else .stuck

def con : Option SL → Option V → List Addr
  | some (.m _), some (.ref a) => [a]
  | _, _ => []
theorem owned_cons {l : Option SL} {v : Option V} {ls : List (Option SL)} {vs : Sg} : owned (l :: ls) (v :: vs) = con l v ++ owned ls vs := by
  cases l with
  | none => cases v <;> rfl
  | some y =>
    cases y with
    | m c =>
      cases v with
      | none => rfl
      | some w => cases w <;> rfl
    | t p => cases v <;> rfl
    | i n => cases v <;> rfl
theorem owned_ext : ∀ {ls ls' : List (Option SL)} {vs vs' : Sg}, ls.length = vs.length → ls'.length = vs'.length → ls.length = ls'.length →
    (∀ i : Nat, con ((ls[i]?).getD none) ((vs[i]?).getD none) = con ((ls'[i]?).getD none) ((vs'[i]?).getD none)) → owned ls vs = owned ls' vs'
  | [], [], [], [], _, _, _, _ => rfl
  | l :: ls, l' :: ls', v :: vs, v' :: vs', e1, e2, e3, h => by
    rw [owned_cons, owned_cons]
    have h0 := h 0
    simp only [List.getElem?_cons_zero, Option.getD_some] at h0
    rw [h0, owned_ext (ls := ls) (ls' := ls') (vs := vs) (vs' := vs') (by simpa using e1) (by simpa using e2) (by simpa using e3) fun i => by simpa using h (i + 1)]
  | [], _, _ :: _, _, e, _, _, _ => by simp at e
  | _ :: _, _, [], _, e, _, _, _ => by simp at e
  | _, [], _, _ :: _, _, e, _, _ => by simp at e
  | _, _ :: _, _, [], _, e, _, _ => by simp at e
  | [], _ :: _, [], _ :: _, _, _, e, _ => by simp at e
  | _ :: _, [], _ :: _, [], _, _, e, _ => by simp at e
theorem clear_loc {st : ST} : ∀ {vs : List Nat}, (st.clear vs).loc = vs.foldr (fun v l => l.set v none) st.loc ∧ (st.clear vs).inh = st.inh
  | [] => ⟨rfl, rfl⟩
  | v :: vs => by
    obtain ⟨h1, h2⟩ := clear_loc (st := st) (vs := vs)
    exact ⟨by show (st.clear vs).loc.set v none = _; rw [h1]; rfl, h2⟩
theorem clear_length {st : ST} {vs : List Nat} : (st.clear vs).loc.length = st.loc.length := by
  induction vs with
  | nil => rfl
  | cons v vs ih => show ((st.clear vs).loc.set v none).length = _; rw [List.length_set, ih]
theorem clear_get {st : ST} {i : Nat} : ∀ {vs : List Nat}, (st.clear vs).loc[i]? = if i ∈ vs ∧ i < st.loc.length then some none else st.loc[i]?
  | [] => by simp [ST.clear]
  | v :: vs => by
    show ((st.clear vs).loc.set v none)[i]? = _
    rw [List.getElem?_set, clear_get (vs := vs), clear_length]
    by_cases h : v = i
    · subst h
      by_cases hl : v < st.loc.length
      · simp [hl]
      · simp [hl]
    · have h' : i ≠ v := fun z => h z.symm
      simp [h, h']
theorem wipe_get {σ : Sg} {i : Nat} : ∀ {vs : List Nat}, (wipe σ vs)[i]? = if i ∈ vs ∧ i < σ.length then some none else σ[i]?
  | [] => by simp [wipe]
  | v :: vs => by
    show ((wipe σ vs).set v none)[i]? = _
    rw [List.getElem?_set, wipe_get (vs := vs), wipe_length]
    by_cases h : v = i
    · subst h
      by_cases hl : v < σ.length
      · simp [hl]
      · simp [hl]
    · have h' : i ≠ v := fun z => h z.symm
      simp [h, h']
theorem wipe_wipe {σ : Sg} {vs : List Nat} : wipe (wipe σ vs) vs = wipe σ vs := by
  apply List.ext_getElem?
  intro i
  rw [wipe_get, wipe_get, wipe_length]
  by_cases h : i ∈ vs ∧ i < σ.length
  · simp [h]
  · simp [h]
theorem restore_length {st st0 : ST} {vs : List Nat} : (st.restore st0 vs).loc.length = st.loc.length := by
  induction vs with
  | nil => rfl
  | cons v vs ih => show ((st.restore st0 vs).loc.set v _).length = _; rw [List.length_set, ih]
theorem restore_inh {st st0 : ST} {vs : List Nat} : (st.restore st0 vs).inh = st.inh := by
  induction vs with
  | nil => rfl
  | cons v vs ih => exact ih
theorem clear_inh {st : ST} {vs : List Nat} : (st.clear vs).inh = st.inh := by
  induction vs with
  | nil => rfl
  | cons v vs ih => exact ih
theorem restore_get {st st0 : ST} {i : Nat} : ∀ {vs : List Nat}, (st.restore st0 vs).loc[i]? = if i ∈ vs ∧ i < st.loc.length then some (st0.loc.getD i none) else st.loc[i]?
  | [] => by simp [ST.restore]
  | v :: vs => by
    show ((st.restore st0 vs).loc.set v _)[i]? = _
    rw [List.getElem?_set, restore_get (vs := vs), restore_length]
    by_cases h : v = i
    · subst h
      by_cases hl : v < st.loc.length
      · simp [hl]
      · simp [hl]
    · have h' : i ≠ v := fun z => h z.symm
      simp [h, h']
theorem plainAt_get {st : ST} {vs : List Nat} (h : plainAt st vs = true) {i : Nat} (hi : i ∈ vs) {l : SL} (e : st.loc[i]? = some (some l)) : ∃ p, l = .t p := by
  have q := (List.all_eq_true.mp h) i hi
  rw [e] at q
  cases l with
  | t p => exact ⟨p, rfl⟩
  | m c => cases q
  | i n => cases q
section
variable {G : Gd} {W : Wd} {st : ST} {σ : Sg} {H : Hp} {vs : List Nat}
theorem R.len (r : R G W st σ H) : st.loc.length = σ.length := r.loc.length
theorem own_clear_sub (r : R G W st σ H) : ∀ a ∈ own W (st.clear vs) (wipe σ vs), a ∈ own W st σ := by
  induction vs with
  | nil => exact fun a h => h
  | cons v vs ih =>
    intro a h
    rcases List.mem_append.mp h with h | h
    · have : (owned (((st.clear vs).loc).set v none) ((wipe σ vs).set v none)).Sublist (owned (st.clear vs).loc (wipe σ vs)) := owned_set_sub v (by simp)
      exact ih a (List.mem_append_left _ (this.subset h))
    · exact List.mem_append_right _ h
theorem R.clear (r : R G W st σ H) : R G W (st.clear vs) (wipe σ vs) H := by
  induction vs with
  | nil => exact r
  | cons v vs ih =>
    have sub : (own W ((st.clear vs).set v none) ((wipe σ vs).set v none)).Sublist (own W (st.clear vs) (wipe σ vs)) := (owned_set_sub v (by simp)).append (List.Sublist.refl _)
    exact ⟨ih.le, ih.inh, RepLoc.set v ih.loc fun y e => (nomatch e), ih.nd.sublist sub, fun a h => ih.fr a (sub.subset h)⟩
theorem own_clear (r : R G W st σ H) (h : plainAt st vs = true) : own W (st.clear vs) (wipe σ vs) = own W st σ := by
  unfold own
  rw [owned_ext (by rw [clear_length, wipe_length]; exact r.len) r.len clear_length fun i => ?_]
  rw [clear_get, wipe_get]
  by_cases hi : i ∈ vs ∧ i < st.loc.length
  · rw [if_pos hi, if_pos ⟨hi.1, by rw [← r.len]; exact hi.2⟩]
    have hl : i < σ.length := by rw [← r.len]; exact hi.2
    show ([] : List Addr) = _
    cases e : st.loc[i]? with
    | none => rfl
    | some l =>
      cases l with
      | none => rfl
      | some l =>
        obtain ⟨p, rfl⟩ := plainAt_get h hi.1 e
        rfl
  · rw [if_neg hi, if_neg fun z => hi ⟨z.1, by rw [r.len]; exact z.2⟩]
theorem R.restore {W0 : Wd} {st0 : ST} {H0 : Hp} (r0 : R G W0 st0 σ H0) (h : plainAt st0 vs = true) (r : R G W st (wipe σ vs) H) (f : Same W0.F W.F) : R G W (st.restore st0 vs) σ H ∧ own W (st.restore st0 vs) σ = own W st (wipe σ vs) := by
  have l1 : st.loc.length = σ.length := by rw [r.len, wipe_length]
  have oe : owned (st.restore st0 vs).loc σ = owned st.loc (wipe σ vs) := by
    refine owned_ext (by rw [restore_length, l1]) r.len restore_length fun i => ?_
    rw [restore_get, wipe_get]
    by_cases hi : i ∈ vs ∧ i < st.loc.length
    · rw [if_pos hi, if_pos ⟨hi.1, by rw [← l1]; exact hi.2⟩]
      have e2 : con ((st.loc[i]?).getD none) (Option.getD (some none) none : Option V) = [] := by
        cases (st.loc[i]?).getD none with
        | none => rfl
        | some l => cases l <;> rfl
      rw [e2]
      show con (st0.loc.getD i none) _ = []
      rw [List.getD_eq_getElem?_getD]
      cases e : st0.loc[i]? with
      | none => rfl
      | some l =>
        cases l with
        | none => rfl
        | some l =>
          obtain ⟨p, rfl⟩ := plainAt_get h hi.1 e
          rfl
    · rw [if_neg hi, if_neg fun z => hi ⟨z.1, by rw [l1]; exact z.2⟩]
  have oo : own W (st.restore st0 vs) σ = own W st (wipe σ vs) := by unfold own; rw [oe]
  refine ⟨⟨r.le, by rw [restore_inh]; exact r.inh, ?_, by rw [oo]; exact r.nd, by rw [oo]; exact r.fr⟩, oo⟩
  refine RepLoc.of_get (by rw [restore_length, l1]) fun i l e => ?_
  rw [restore_get] at e
  by_cases hi : i ∈ vs ∧ i < st.loc.length
  · rw [if_pos hi, List.getD_eq_getElem?_getD] at e
    have e : (st0.loc[i]?).getD none = some l := Option.some.inj e
    cases e0 : st0.loc[i]? with
    | none => rw [e0] at e; cases e
    | some l0 =>
      rw [e0] at e
      have e : l0 = some l := e
      subst e
      obtain ⟨p, rfl⟩ := plainAt_get h hi.1 e0
      obtain ⟨v, e1, k⟩ := r0.loc.get e0
      exact ⟨v, e1, Rep.mono f k⟩
  · rw [if_neg hi] at e
    obtain ⟨v, e1, k⟩ := r.loc.get e
    exact ⟨v, (wipe_some e1).1, k⟩
theorem R.updD (r : R G W st σ H) {D : Addr} {o : HO} (hD : D ∉ own W st σ) (hF : W.F D = none) : R G W st σ (upd H D o) :=
  r.grow (F' := W.F) (Same.refl _) (fun b u e q => by
    have ne : b ≠ D := fun z => by
      subst z
      rcases q with q | q
      · exact hD q
      · rw [hF] at q; cases q
    rw [upd_ne ne]; exact e) (fun b u e => by
    have ne : b ≠ D := fun z => by rw [z, hF] at e; cases e
    rw [upd_ne ne]; exact r.le b u e) fun b => .inl rfl
end

structure CTs (G : Gd) (X : Cx) (ifs : List Expr) (f : Cm Bool) : Prop where
  pt : PTs X ifs (tT G wx0 f)
def cYes : Cm Bool := fun st => .ok true st
theorem pts_imp {X : Cx} {ifs : List Expr} {t t' : TT} (h : PTs X ifs t) (i : ∀ σ H Q, t' σ H Q → t σ H Q) : PTs X ifs t' := ⟨fun pn s σ H Q I q => h.run pn s σ H Q I (i σ H Q q)⟩
theorem cts_nil {G : Gd} {X : Cx} : CTs G X [] cYes := ⟨pts_imp pts_nil fun σ H Q ⟨W, st, r, o⟩ => o W H true r Step.refl rfl⟩
theorem cts_one {G : Gd} {X : Cx} {c : Expr} {f : Cm Bool} (h : CT G X wx0 c f) : CTs G X [c] f := ⟨pts_one h.pt⟩

section
variable {G : Gd} {X : Cx} {Wx : WX} {tg it elt : Expr} {ifs : List Expr} {fi : Cm (List PV)} {f : TgF} {fc : Cm Bool} {fe : Cm SV} {vs : List Nat} {σ : Sg} {H : Hp} {Q : VK}
theorem onlyAt_n {i : Nat} (h : i ∈ vs) : OnlyAt vs (tgN i) := fun p l e x hx => by cases e; cases List.mem_singleton.mp hx; exact h
def OnlyAts (vs : List Nat) (fs : List TgF) : Prop := ∀ ps l, tgs fs ps = some l → ∀ x ∈ l, x.1 ∈ vs
theorem onlyAts_nil : OnlyAts vs [] := fun ps l e x hx => by
  cases ps with
  | nil => cases e; cases hx
  | cons _ _ => cases e
theorem onlyAts_cons {fs : List TgF} (h : OnlyAt vs f) (hs : OnlyAts vs fs) : OnlyAts vs (f :: fs) := fun ps l e x hx => by
  cases ps with
  | nil => cases e
  | cons p ps =>
    obtain ⟨l1, e1, e⟩ := Option.bind_eq_some_iff.mp e
    obtain ⟨l2, e2, rfl⟩ := Option.map_eq_some_iff.mp e
    rcases List.mem_append.mp hx with z | z
    · exact h _ _ e1 x z
    · exact hs _ _ e2 x z
theorem onlyAt_t {fs : List TgF} (hs : OnlyAts vs fs) : OnlyAt vs (tgT fs) := fun p l e x hx => by
  unfold tgT at e
  split at e
  · exact hs _ _ e x hx
  · cases e
theorem onlyAt_l {fs : List TgF} (hs : OnlyAts vs fs) : OnlyAt vs (tgL fs) := fun p l e x hx => by
  unfold tgL at e
  split at e
  · exact hs _ _ e x hx
  · cases e
theorem bind_ok {α β : Type} {o : Out α} {k : α → ST → Out β} {y : β} {st : ST} (h : o.bind k = .ok y st) : ∃ x st1, o = .ok x st1 ∧ k x st1 = .ok y st := by
  cases o with
  | ok x st1 => exact ⟨x, st1, rfl, h⟩
  | exc c fs st1 => cases h
  | stuck => cases h
theorem lc_in (ho : OnlyAt vs f) (h : tM G Wx (mLc fi f fc fe vs) σ H Q) : tLc (tI G Wx fi) (tG G f) (tT G wx0 fc) (tE G wx0 fe) vs σ H Q := by
  obtain ⟨W, st, r, o⟩ := h
  unfold mLc at o
  refine ⟨W, st, r, ?_⟩
  cases efi : fi st with
  | exc c fs st' => rw [efi] at o; exact o
  | stuck => rw [efi] at o; exact o
  | ok items st1 =>
    rw [efi] at o
    have o : OutM G Wx W st σ H (if plainAt st1 vs = true then (match lcL f fc fe vs items (st1.clear vs) with
      | .ok qs st2 => if szOk qs.length = true then .ok (.lst qs) (st2.restore st1 vs) else .stuck
      | _ => .stuck) else .stuck) Q := o
    intro W1 H1 J r1 s1 wk D hD
    by_cases hpl : plainAt st1 vs = true
    case neg => rw [if_neg hpl] at o; exact o.elim
    rw [if_pos hpl] at o
    cases el : lcL f fc fe vs items (st1.clear vs) with
    | exc c fs st' => rw [el] at o; exact o.elim
    | stuck => rw [el] at o; exact o.elim
    | ok res stF =>
      rw [el] at o
      have o : OutM G Wx W st σ H (if szOk res.length = true then .ok (.lst res) (stF.restore st1 vs) else .stuck) Q := o
      by_cases hsz : szOk res.length = true
      case neg => rw [if_neg hsz] at o; exact o.elim
      rw [if_pos hsz] at o
      have r1c : R G W1 (st1.clear vs) (wipe σ vs) H1 := r1.clear
      have oc : own W1 (st1.clear vs) (wipe σ vs) = own W1 st1 σ := own_clear r1 hpl
      have hDo : D ∉ own W1 st1 σ := r1.notown hD
      refine ⟨fun i m H2 => ∃ W2 st2 acc vals qs, R G W2 st2 (wipe σ vs) H2 ∧ Step (own W1 (st1.clear vs) (wipe σ vs)) W1 H1 (own W2 st2 (wipe σ vs)) W2 H2 ∧ H2 D = some (.lst vals) ∧ RepL G W2.F acc vals ∧ D ∉ own W2 st2 (wipe σ vs) ∧ W2.F D = none ∧
        m = items.length - i ∧ i ≤ items.length ∧ lcL f fc fe vs (items.drop i) st2 = .ok qs stF ∧ acc ++ qs = res, ⟨_, W1, st1.clear vs, [], [], res, r1c.laid hD, r1c.laid_step hD, upd_same, .nil, by rw [oc]; exact hDo, r1.frno hD, rfl, Nat.zero_le _, by simpa using el, rfl⟩, ?_⟩
      rintro i m H2 ⟨W2, st2, acc, vals, qs, r2, s2, hDH, racc, hDn, hDf, hm, hi, e2, eres⟩
      by_cases he : i = items.length
      · refine .inl ⟨by rw [he]; exact wk.stop W2 st2 _ H2 r2 s2.f, ?_⟩
        rw [List.drop_eq_nil_of_le (Nat.le_of_eq he.symm)] at e2
        cases e2
        rw [List.append_nil] at eres
        subst eres
        obtain ⟨r3, oo⟩ := R.restore r1 hpl r2 s2.f
        refine o W2 H2 D r3 ?_ ⟨vals, hDH, racc⟩ (by rw [oo]; exact hDn) hDf (s1.born (.inl hD))
        rw [oo]
        rw [oc] at s2
        exact s1.trans s2
      · have hlt : i < items.length := Nat.lt_of_le_of_ne hi he
        rw [List.drop_eq_getElem_cons hlt] at e2
        have hget : items[i]? = some items[i] := List.getElem?_eq_getElem hlt
        obtain ⟨hgo, hy⟩ := wk.go W2 st2 _ H2 i _ r2 s2.f hget
        refine .inr ⟨hgo, fun H' => ∃ m', m' < m ∧ ∃ W2 st2 acc vals qs, R G W2 st2 (wipe σ vs) H' ∧ Step (own W1 (st1.clear vs) (wipe σ vs)) W1 H1 (own W2 st2 (wipe σ vs)) W2 H' ∧ H' D = some (.lst vals) ∧ RepL G W2.F acc vals ∧ D ∉ own W2 st2 (wipe σ vs) ∧ W2.F D = none ∧
          m' = items.length - (i + 1) ∧ i + 1 ≤ items.length ∧ lcL f fc fe vs (items.drop (i + 1)) st2 = .ok qs stF ∧ acc ++ qs = res, fun H' h => h, fun x H3 yx => ?_⟩
        obtain ⟨F3, r3, s3, k3⟩ := hy x H3 yx
        unfold lcL at e2
        cases et : f items[i] with
        | none => rw [et] at e2; cases e2
        | some l =>
          rw [et] at e2
          refine ⟨⟨F3, W2.A⟩, st2, _, l, r3, k3, et, fun σ4 r4 s4 w4 => ?_⟩
          have we : wipe σ4 vs = wipe σ vs := (w4 vs (ho _ _ et)).trans wipe_wipe
          refine ⟨we, ⟨F3, W2.A⟩, st2.sets l, r4, ?_⟩
          have s34 : Step (own W2 st2 (wipe σ vs)) W2 H2 (own ⟨F3, W2.A⟩ (st2.sets l) σ4) ⟨F3, W2.A⟩ H3 := s3.trans (Step.sub s4)
          -- what stands at D lies untouched
          have stay : ∀ {W' : Wd} {st' : ST} {σ' : Sg} {H' : Hp}, Step (own W2 st2 (wipe σ vs)) W2 H2 (own W' st' σ') W' H' → H' D = some (.lst vals) ∧ RepL G W'.F acc vals ∧ D ∉ own W' st' σ' ∧ W'.F D = none := by
            intro W' st' σ' H' s'
            refine ⟨s'.keep D _ hDH hDn, racc.mono s'.f, fun z => ?_, ?_⟩
            · rcases s'.no D z with q | q
              · exact hDn q
              · rw [hDH] at q; cases q
            · rcases s'.nf D with q | q | q
              · exact q.trans hDf
              · rw [hDH] at q; cases q
              · exact absurd q hDn
          obtain ⟨b, st5, e5, e2⟩ := bind_ok e2
          rw [e5]
          intro W5 H5 u r5 s5 q5
          cases q5
          have s35 := s34.trans s5
          have clr : ∀ {W' : Wd} {st' : ST} {H' : Hp}, R G W' st' σ4 H' → R G W' (st'.clear vs) (wipe σ vs) H' ∧ (∀ a ∈ own W' (st'.clear vs) (wipe σ vs), a ∈ own W' st' σ4) := fun r' => by
            have q1 := r'.clear (vs := vs)
            have q2 := own_clear_sub r' (vs := vs)
            rw [we] at q1 q2
            exact ⟨q1, q2⟩
          cases b with
          | false =>
            obtain ⟨c1, c2⟩ := clr r5
            have sc := s35.trans (Step.sub c2)
            obtain ⟨d1, d2, d3, d4⟩ := stay sc
            exact ⟨_, by rw [hm]; omega, W5, st5.clear vs, acc, vals, qs, c1, s2.trans sc, d1, d2, d3, d4, rfl, hlt, e2, eres⟩
          | true =>
            refine ⟨W5, st5, r5, ?_⟩
            have e2 : ((fe st5).bind fun y st2 => (match y with
              | .t q => (lcL f fc fe vs (items.drop (i + 1)) (st2.clear vs)).bind fun qs st3 => .ok (q :: qs) st3
              | _ => .stuck)) = .ok qs stF := e2
            obtain ⟨y, st6, e6, e2⟩ := bind_ok e2
            rw [e6]
            intro W6 H6 v r6 s6 k6
            cases y with
            | pl q => cases e2
            | t q =>
              obtain ⟨qs', stF', e7, e8⟩ := bind_ok e2
              cases e8
              obtain ⟨c1, c2⟩ := clr r6
              have sc := (s35.trans s6).trans (Step.sub c2)
              obtain ⟨d1, d2, d3, d4⟩ := stay sc
              refine ⟨vals, d1, ?_, _, by rw [hm]; omega, W6, st6.clear vs, acc ++ [q], vals ++ [v], qs', c1.updD d3 d4, ?_, upd_same, d2.append (.cons k6 .nil), d3, d4, rfl, hlt, e7, by rw [← eres]; simp⟩
              · rw [← racc.length]
                have := szOk_p hsz
                rw [← eres] at this
                simp at this
                omega
              · have S := s2.trans sc
                refine ⟨S.f, S.a, S.nf, S.no, fun b u e hb => ?_⟩
                have ne : b ≠ D := fun z => by rw [z, hD] at e; cases e
                rw [upd_ne ne]
                exact S.keep b u e hb
theorem cm_lc {own : List (PySem.Str × Nat)} {scope : Scope} {pos : Pos} (hc : X.calm = true) (hN : X.N.Nodup) (hi : CI G X Wx tg it fi) (ok : BlkOk X.N X.env.scope scope own)
    (hg : ∀ (s : Shared) (H : Hp) (C : Addr) (cl : List (PySem.Str × Addr)) (fp : List Addr), CG G (X.blk s H scope (compEnvC scope cl C X.env) fp) tg f)
    (ht : ∀ (s : Shared) (H : Hp) (C : Addr) (cl : List (PySem.Str × Addr)) (fp : List Addr), CTs G (X.blk s H scope (compEnvC scope cl C X.env) fp) ifs fc)
    (he : ∀ (s : Shared) (H : Hp) (C : Addr) (cl : List (PySem.Str × Addr)) (fp : List Addr), CE G (X.blk s H scope (compEnvC scope cl C X.env) fp) wx0 elt fe)
    (ho : OnlyAt (own.map (·.2)) f) (hs : ∀ x, foldedSetIterable it X.env x = pure x := by intro _; rfl) : CM G X Wx (.ListComp elt [⟨tg, it, ifs, 0⟩] scope pos) (mLc fi f fc fe (own.map (·.2))) :=
  ⟨pe_imp (pe_lc hc hN hi.pi ok (fun s H C cl fp => (hg s H C cl fp).pg) (fun s H C cl fp => (ht s H C cl fp).pt) (fun s H C cl fp => (he s H C cl fp).pe) hs) fun σ H Q q => lc_in ho q⟩
theorem cs_setLc {own : List (PySem.Str × Nat)} {scope : Scope} {pos spos py : Pos} {i : Nat} {y : PySem.Str} (hc : X.calm = true) (hN : X.N.Nodup) (hy : X.N[i]? = some y) (hyl : X.env.scope.names.lookup y = some .local)
    (hsw : swapsWith (.ListComp elt [⟨tg, it, ifs, 0⟩] scope pos) (some (.Name y py)) spos.line X.env = pure true) (hi : CI G X Wx tg it fi) (ok : BlkOk X.N X.env.scope scope own)
    (hg : ∀ (s : Shared) (H : Hp) (C : Addr) (cl : List (PySem.Str × Addr)) (fp : List Addr), CG G (X.blk s H scope (compEnvC scope cl C X.env) fp) tg f)
    (ht : ∀ (s : Shared) (H : Hp) (C : Addr) (cl : List (PySem.Str × Addr)) (fp : List Addr), CTs G (X.blk s H scope (compEnvC scope cl C X.env) fp) ifs fc)
    (he : ∀ (s : Shared) (H : Hp) (C : Addr) (cl : List (PySem.Str × Addr)) (fp : List Addr), CE G (X.blk s H scope (compEnvC scope cl C X.env) fp) wx0 elt fe)
    (ho : OnlyAt (own.map (·.2)) f) (hs : ∀ x, foldedSetIterable it X.env x = pure x := by intro _; rfl) : CS G X Wx (.Assign [.Name y py] (.ListComp elt [⟨tg, it, ifs, 0⟩] scope pos) spos) (sSetM i (mLc fi f fc fe (own.map (·.2)))) :=
  ⟨ps_imp (ps_setLc hc hN hy hyl hsw hi.pi ok (fun s H C cl fp => (hg s H C cl fp).pg) (fun s H C cl fp => (ht s H C cl fp).pt) (fun s H C cl fp => (he s H C cl fp).pe) hs) fun D σ H q => lc_in ho (setM_in q)⟩
theorem cs_setLcT {own : List (PySem.Str × Nat)} {scope : Scope} {pos spos py : Pos} {i : Nat} {y : PySem.Str} (hc : X.calm = true) (hN : X.N.Nodup) (hy : X.N[i]? = some y) (hyl : X.env.scope.names.lookup y = some .local)
    (hsw : swapsWith (.ListComp elt [⟨tg, it, ifs, 0⟩] scope pos) (some (.Name y py)) spos.line X.env = pure true) (hi : CI G X Wx tg it fi) (ok : BlkOk X.N X.env.scope scope own)
    (hg : ∀ (s : Shared) (H : Hp) (C : Addr) (cl : List (PySem.Str × Addr)) (fp : List Addr), CG G (X.blk s H scope (compEnvC scope cl C X.env) fp) tg f)
    (ht : ∀ (s : Shared) (H : Hp) (C : Addr) (cl : List (PySem.Str × Addr)) (fp : List Addr), CTs G (X.blk s H scope (compEnvC scope cl C X.env) fp) ifs fc)
    (he : ∀ (s : Shared) (H : Hp) (C : Addr) (cl : List (PySem.Str × Addr)) (fp : List Addr), CE G (X.blk s H scope (compEnvC scope cl C X.env) fp) wx0 elt fe)
    (ho : OnlyAt (own.map (·.2)) f) (hs : ∀ x, foldedSetIterable it X.env x = pure x := by intro _; rfl) : CS G X Wx (.Assign [.Name y py] (.ListComp elt [⟨tg, it, ifs, 0⟩] scope pos) spos) (sSet i (cFrz (mLc fi f fc fe (own.map (·.2))))) := by
  refine ⟨ps_imp (ps_setLc hc hN hy hyl hsw hi.pi ok (fun s H C cl fp => (hg s H C cl fp).pg) (fun s H C cl fp => (ht s H C cl fp).pt) (fun s H C cl fp => (he s H C cl fp).pe) hs) fun D σ H ⟨W, st, r, o⟩ => ?_⟩
  refine lc_in ho (tM_of_frz (tA_mono (eS (rel := RepS G) r o) fun u H1 ⟨W1, st1, v, r1, _, _, q1, o1⟩ => ?_))
  split at o1
  · exact o1 W1 _ H1 (r1.setT i q1) (R.setT_step i)
  · exact o1.elim
end
end Cl
set_option Elab.async false
set_option linter.all false
set_option maxRecDepth 100000
set_option maxHeartbeats 4000000
namespace Cl
open PySem PySem.Spec PyProof.Rows L2

section
variable {G : Gd} {X : Cx} {Wx : WX} {a b c e : Expr} {es : List Expr} {pos p : Pos} {fa fb fc : Cm SV} {fs : Cm (List SV)} {x : PySem.Str} {id T : String} {g : List PV → Option PV} {gm : List PV → Option MC}
structure CallF (G : Gd) (X : Cx) (f : Value) (g : List PV → Option PV) : Prop where
  ex : ∃ r, CallR X f r ∧ SndL G r g
theorem ce_bi (h : CallF G X (.builtin id) g) (hg : Gl X x) (hm : X.mg x = none) (hv : bootBuiltins x = some (.builtin id)) (ha : CA G X Wx (e :: es) fs) (hn : x ≠ "__name__" := by decide) (hdb : (x == ("__debug__" : PySem.Str)) = false := by decide)
    (he : starEach (e :: es) X.env = (false, eval e X.env) :: starEach es X.env := by rfl) (hpl : (backTo pos (starEach es X.env)).any (·.1) = false := by rfl) : CE G X Wx (.Call (.Name x p) (e :: es) [] pos) (cList g fs) := by
  obtain ⟨r, hc, hs⟩ := h.ex
  exact ⟨pe_imp (pe_callB hc hg hm hv ha.pa hn hdb he hpl) fun σ H Q q => list_step hs q⟩
theorem ce_bt (h : CallF G X (.type T) g) (hg : Gl X x) (hm : X.mg x = none) (hv : bootBuiltins x = some (.type T)) (ha : CA G X Wx (e :: es) fs) (hn : x ≠ "__name__" := by decide) (hdb : (x == ("__debug__" : PySem.Str)) = false := by decide)
    (he : starEach (e :: es) X.env = (false, eval e X.env) :: starEach es X.env := by rfl) (hpl : (backTo pos (starEach es X.env)).any (·.1) = false := by rfl) : CE G X Wx (.Call (.Name x p) (e :: es) [] pos) (cList g fs) := by
  obtain ⟨r, hc, hs⟩ := h.ex
  exact ⟨pe_imp (pe_callTy hc hg hm hv ha.pa hn hdb he hpl) fun σ H Q q => list_step hs q⟩
def SndLM (G : Gd) (r : List V → Hp → VK → Prop) (f : List PV → Option MC) : Prop :=
  ∀ (W : Wd) (st : ST) (σ : Sg) (H : Hp) (ps : List PV) (z : MC) (us : List V) (Q : VK), R G W st σ H → VReps G W.F H ps us → f ps = some z → GvM G W st σ H z Q → r us H Q
structure CallM (G : Gd) (X : Cx) (f : Value) (g : List PV → Option MC) : Prop where
  ex : ∃ r, CallR X f r ∧ SndLM G r g
def mList (f : List PV → Option MC) (fa : Cm (List SV)) : Cm MC := fun st => (fa st).bind fun xs st1 => ofM st1 ((views st1 xs).bind f)
theorem listM_step {r : List V → Hp → VK → Prop} {σ : Sg} {H : Hp} {Q : VK} (s : SndLM G r gm) (h : tM G Wx (mList gm fs) σ H Q) : tL G Wx fs σ H fun us H1 => r us H1 Q := by
  obtain ⟨W, st, r0, o⟩ := h
  refine tA_mono (tM_step (rel := RepSs G) r0 o) fun us H1 ⟨W1, st1, v, r1, _, _, q1, o1⟩ => ?_
  obtain ⟨z, e, g⟩ := ofM_some o1
  obtain ⟨ps, e1, e2⟩ := Option.bind_eq_some_iff.mp e
  exact s W1 st1 σ H1 ps z us Q r1 (views_reps r1 q1 e1) e2 g
theorem cm_bi (h : CallM G X (.builtin id) gm) (hg : Gl X x) (hm : X.mg x = none) (hv : bootBuiltins x = some (.builtin id)) (ha : CA G X Wx (e :: es) fs) (hn : x ≠ "__name__" := by decide) (hdb : (x == ("__debug__" : PySem.Str)) = false := by decide)
    (he : starEach (e :: es) X.env = (false, eval e X.env) :: starEach es X.env := by rfl) (hpl : (backTo pos (starEach es X.env)).any (·.1) = false := by rfl) : CM G X Wx (.Call (.Name x p) (e :: es) [] pos) (mList gm fs) := by
  obtain ⟨r, hc, hs⟩ := h.ex
  exact ⟨pe_imp (pe_callB hc hg hm hv ha.pa hn hdb he hpl) fun σ H Q q => listM_step hs q⟩
theorem cm_bt (h : CallM G X (.type T) gm) (hg : Gl X x) (hm : X.mg x = none) (hv : bootBuiltins x = some (.type T)) (ha : CA G X Wx (e :: es) fs) (hn : x ≠ "__name__" := by decide) (hdb : (x == ("__debug__" : PySem.Str)) = false := by decide)
    (he : starEach (e :: es) X.env = (false, eval e X.env) :: starEach es X.env := by rfl) (hpl : (backTo pos (starEach es X.env)).any (·.1) = false := by rfl) : CM G X Wx (.Call (.Name x p) (e :: es) [] pos) (mList gm fs) := by
  obtain ⟨r, hc, hs⟩ := h.ex
  exact ⟨pe_imp (pe_callTy hc hg hm hv ha.pa hn hdb he hpl) fun σ H Q q => listM_step hs q⟩

theorem VReps.one {F H : Hp} {p : PV} {us : List V} (h : VReps G F H [p] us) : ∃ v, us = [v] ∧ VRep G F H p v := by
  cases h with | cons k l => cases l; exact ⟨_, rfl, k⟩
theorem VReps.two {F H : Hp} {p q : PV} {us : List V} (h : VReps G F H [p, q] us) : ∃ v u, us = [v, u] ∧ VRep G F H p v ∧ VRep G F H q u := by
  cases h with | cons k l => cases l with | cons k2 l => cases l; exact ⟨_, _, rfl, k, k2⟩
def bLen : List PV → Option PV
  | [.lst xs] => some (.int xs.length)
  | [.tup xs] => some (.int xs.length)
  | [.scr xs] => some (.int xs.length)
  | [.str x] => if szOk x.length then some (.int x.length) else none
  | _ => none
theorem cf_len : CallF G X (.builtin "len") bLen := ⟨_, call_len, by
  intro W st σ H ps z us Q r a h g
  unfold bLen at h
  split at h
  · cases h
    obtain ⟨v, rfl, a1, vs, rfl, d, l⟩ := a.one
    exact ⟨_, _, rfl, .inl ⟨vs, .inl (.inl d), l.length⟩, g.here r (.int _)⟩
  · cases h
    obtain ⟨v, rfl, a1, vs, rfl, d, l⟩ := a.one
    exact ⟨_, _, rfl, .inr ⟨vs, .inl (.inl (r.le _ _ d)), l.length⟩, g.here r (.int _)⟩
  · cases h
    obtain ⟨v, rfl, a1, o, rfl, d⟩ := a.one
    exact ⟨_, _, rfl, .inl ⟨_, .inl (.inr ⟨o, r.le _ _ d⟩), by rw [List.length_map]⟩, g.here r (.int _)⟩
  · split at h
    · rename_i hz
      cases h
      obtain ⟨v, rfl, e1⟩ := a.one
      cases e1
      exact ⟨_, _, rfl, ⟨szOk_le hz, rfl⟩, g.here r (.int _)⟩
    · cases h
  · cases h⟩
def bAbs : List PV → Option PV
  | [.int i] => some (.int (if i < 0 then -i else i))
  | _ => none
theorem cf_abs : CallF G X (.builtin "abs") bAbs := ⟨_, call_abs, by
  intro W st σ H ps z us Q r a h g
  unfold bAbs at h
  split at h
  · cases h
    obtain ⟨v, rfl, e1⟩ := a.one
    cases e1
    exact ⟨_, rfl, g.here r (.int _)⟩
  · cases h⟩
def bInt : List PV → Option PV
  | [.int i] => some (.int i)
  | [.bl k] => some (.int (if k then 1 else 0))
  | _ => none
theorem cf_int : CallF G X (.type "int") bInt := ⟨_, call_int1, by
  intro W st σ H ps z us Q r a h g
  unfold bInt at h
  split at h
  · cases h
    obtain ⟨v, rfl, e1⟩ := a.one
    cases e1
    exact .inl ⟨_, rfl, g.here r (.int _)⟩
  · cases h
    obtain ⟨v, rfl, e1⟩ := a.one
    cases e1
    exact .inr ⟨_, rfl, g.here r (.int _)⟩
  · cases h⟩
def intsP : List PV → Option (List Int)
  | [] => some []
  | .int i :: r => (intsP r).map fun l => i :: l
  | _ => none
def bools : List PV → Option (List Bool)
  | [] => some []
  | .bl i :: r => (bools r).map fun l => i :: l
  | _ => none
theorem ints_eq : ∀ {ps : List PV} {ns : List Int}, intsP ps = some ns → ps = ns.map .int
  | [], _, e => by cases e; rfl
  | .int i :: r, _, e => by
    obtain ⟨l, e1, rfl⟩ := Option.map_eq_some_iff.mp e
    rw [ints_eq e1]; rfl
  | .non :: _, _, e => nomatch e
  | .bl _ :: _, _, e => nomatch e
  | .str _ :: _, _, e => nomatch e
  | .ty _ :: _, _, e => nomatch e
  | .fn _ :: _, _, e => nomatch e
  | .lst _ :: _, _, e => nomatch e
  | .tup _ :: _, _, e => nomatch e
  | .dct _ :: _, _, e => nomatch e
  | .obj _ _ :: _, _, e => nomatch e
  | .scr _ :: _, _, e => nomatch e
theorem ints_of (ns : List Int) : intsP (ns.map .int) = some ns := by
  induction ns with
  | nil => rfl
  | cons n ns ih => simp [intsP, ih]
theorem bools_eq : ∀ {ps : List PV} {ns : List Bool}, bools ps = some ns → ps = ns.map .bl
  | [], _, e => by cases e; rfl
  | .bl i :: r, _, e => by
    obtain ⟨l, e1, rfl⟩ := Option.map_eq_some_iff.mp e
    rw [bools_eq e1]; rfl
  | .non :: _, _, e => nomatch e
  | .int _ :: _, _, e => nomatch e
  | .str _ :: _, _, e => nomatch e
  | .ty _ :: _, _, e => nomatch e
  | .fn _ :: _, _, e => nomatch e
  | .lst _ :: _, _, e => nomatch e
  | .tup _ :: _, _, e => nomatch e
  | .dct _ :: _, _, e => nomatch e
  | .obj _ _ :: _, _, e => nomatch e
  | .scr _ :: _, _, e => nomatch e
theorem bools_of (ns : List Bool) : bools (ns.map .bl) = some ns := by
  induction ns with
  | nil => rfl
  | cons n ns ih => simp [bools, ih]
theorem RepL.intsV {F : Hp} : ∀ {ns : List Int} {vs : List V}, RepL G F (ns.map .int) vs → vs = ns.map .int
  | [], _, .nil => rfl
  | n :: ns, _, .cons k l => by cases k; rw [RepL.intsV l]; rfl
theorem RepL.boolsV {F : Hp} : ∀ {ns : List Bool} {vs : List V}, RepL G F (ns.map .bl) vs → vs = ns.map .bl
  | [], _, .nil => rfl
  | n :: ns, _, .cons k l => by cases k; rw [RepL.boolsV l]; rfl
def intsL : PV → Option (List Int)
  | .lst ps => intsP ps
  | .scr ns => some ns
  | _ => none
theorem intsL_at {F H : Hp} {K : PySem.W.Frag} {W : Wd} {st : ST} {σ : Sg} {p : PV} {ns : List Int} {v : V} (r : R G W st σ H) (h : VRep G W.F H p v) (e : intsL p = some ns) : ∃ a, v = .ref a ∧ SqL K H a (ns.map V.int) := by
  unfold intsL at e
  split at e
  · obtain ⟨a, vs, rfl, d, l⟩ := h
    rw [ints_eq e] at l
    rw [l.intsV] at d
    exact ⟨a, rfl, .inl (.inl d)⟩
  · cases e
    obtain ⟨a, o, rfl, d⟩ := h
    exact ⟨a, rfl, .inl (.inr ⟨o, r.le _ _ d⟩)⟩
  · cases e
def maxI : List Int → Int
  | [] => 0
  | [n] => n
  | n :: ns => if maxI ns < n then n else maxI ns
def minI : List Int → Int
  | [] => 0
  | [n] => n
  | n :: ns => if n < minI ns then n else minI ns
theorem maxI_mem : ∀ {ns : List Int}, ns ≠ [] → maxI ns ∈ ns
  | [], h => absurd rfl h
  | [n], _ => by simp [maxI]
  | n :: m :: ns, _ => by
    have ih := maxI_mem (ns := m :: ns) (by simp)
    unfold maxI
    split
    · simp
    · exact List.mem_cons_of_mem _ ih
theorem maxI_le : ∀ {ns : List Int}, ∀ y ∈ ns, y ≤ maxI ns
  | [], _, h => nomatch h
  | [n], y, h => by simp [maxI] at h ⊢; omega
  | n :: m :: ns, y, h => by
    have ih := maxI_le (ns := m :: ns)
    unfold maxI
    rcases List.mem_cons.mp h with z | z
    · subst z; split <;> omega
    · have := ih y z; split <;> omega
theorem minI_mem : ∀ {ns : List Int}, ns ≠ [] → minI ns ∈ ns
  | [], h => absurd rfl h
  | [n], _ => by simp [minI]
  | n :: m :: ns, _ => by
    have ih := minI_mem (ns := m :: ns) (by simp)
    unfold minI
    split
    · simp
    · exact List.mem_cons_of_mem _ ih
theorem minI_le : ∀ {ns : List Int}, ∀ y ∈ ns, minI ns ≤ y
  | [], _, h => nomatch h
  | [n], y, h => by simp [minI] at h ⊢; omega
  | n :: m :: ns, y, h => by
    have ih := minI_le (ns := m :: ns)
    unfold minI
    rcases List.mem_cons.mp h with z | z
    · subst z; split <;> omega
    · have := ih y z; split <;> omega
def bMax : List PV → Option PV
  | [.int i, .int j] => some (.int (if j > i then j else i))
  | [p] => (intsL p).bind fun ns => if ns = [] then none else some (.int (maxI ns))
  | _ => none
def bMin : List PV → Option PV
  | [.int i, .int j] => some (.int (if j < i then j else i))
  | [p] => (intsL p).bind fun ns => if ns = [] then none else some (.int (minI ns))
  | _ => none
theorem cf_max (hc : X.calm = true) : CallF G X (.builtin "max") bMax := ⟨_, callR_or (call_max2 hc) (cr_max hc), by
  intro W st σ H ps z us Q r a h g
  unfold bMax at h
  split at h
  · cases h
    obtain ⟨v, u, rfl, e1, e2⟩ := a.two
    cases e1; cases e2
    exact .inl ⟨_, _, rfl, g.here r (.int _)⟩
  · obtain ⟨ns, e1, h⟩ := Option.bind_eq_some_iff.mp h
    split at h
    · cases h
    · rename_i hne
      cases h
      obtain ⟨v, rfl, k⟩ := a.one
      obtain ⟨ad, rfl, hs⟩ := intsL_at (F := H) (K := X.K) r k e1
      refine .inr ⟨ad, ns, rfl, hs, List.length_pos_iff.mpr hne, fun m hm hle => ?_⟩
      have : m = maxI ns := Int.le_antisymm (maxI_le m hm) (hle _ (maxI_mem hne))
      subst this
      exact g.here r (.int _)
  · cases h⟩
theorem cf_min (hc : X.calm = true) : CallF G X (.builtin "min") bMin := ⟨_, callR_or (call_min2 hc) (cr_min hc), by
  intro W st σ H ps z us Q r a h g
  unfold bMin at h
  split at h
  · cases h
    obtain ⟨v, u, rfl, e1, e2⟩ := a.two
    cases e1; cases e2
    exact .inl ⟨_, _, rfl, g.here r (.int _)⟩
  · obtain ⟨ns, e1, h⟩ := Option.bind_eq_some_iff.mp h
    split at h
    · cases h
    · rename_i hne
      cases h
      obtain ⟨v, rfl, k⟩ := a.one
      obtain ⟨ad, rfl, hs⟩ := intsL_at (F := H) (K := X.K) r k e1
      refine .inr ⟨ad, ns, rfl, hs, List.length_pos_iff.mpr hne, fun m hm hle => ?_⟩
      have : m = minI ns := Int.le_antisymm (hle _ (minI_mem hne)) (minI_le m hm)
      subst this
      exact g.here r (.int _)
  · cases h⟩
def bSum : List PV → Option PV
  | [p] => (intsL p).map fun ns => .int ns.sum
  | _ => none
theorem cf_sum (hc : X.calm = true) : CallF G X (.builtin "sum") bSum := ⟨_, cr_sum hc, by
  intro W st σ H ps z us Q r a h g
  unfold bSum at h
  split at h
  · obtain ⟨ns, e1, rfl⟩ := Option.map_eq_some_iff.mp h
    obtain ⟨v, rfl, k⟩ := a.one
    obtain ⟨ad, rfl, hs⟩ := intsL_at (F := H) (K := X.K) r k e1
    exact ⟨ad, ns, rfl, hs, g.here r (.int _)⟩
  · cases h⟩
def bAll : List PV → Option PV
  | [.lst ps] => (bools ps).map fun ns => .bl (ns.all _root_.id)
  | _ => none
def bAny : List PV → Option PV
  | [.lst ps] => (bools ps).map fun ns => .bl (ns.any _root_.id)
  | _ => none
theorem cf_all (hc : X.calm = true) : CallF G X (.builtin "all") bAll := ⟨_, cr_all hc, by
  intro W st σ H ps z us Q r a h g
  unfold bAll at h
  split at h
  · obtain ⟨ns, e1, rfl⟩ := Option.map_eq_some_iff.mp h
    obtain ⟨v, rfl, ad, vs, rfl, d, l⟩ := a.one
    rw [bools_eq e1] at l
    rw [l.boolsV] at d
    exact ⟨ad, ns, rfl, .inl (.inl d), g.here r (.bl _)⟩
  · cases h⟩
theorem cf_any (hc : X.calm = true) : CallF G X (.builtin "any") bAny := ⟨_, cr_any hc, by
  intro W st σ H ps z us Q r a h g
  unfold bAny at h
  split at h
  · obtain ⟨ns, e1, rfl⟩ := Option.map_eq_some_iff.mp h
    obtain ⟨v, rfl, ad, vs, rfl, d, l⟩ := a.one
    rw [bools_eq e1] at l
    rw [l.boolsV] at d
    exact ⟨ad, ns, rfl, .inl (.inl d), g.here r (.bl _)⟩
  · cases h⟩
def bList : List PV → Option MC
  | [.lst ps] => some (.lst ps)
  | [.tup ps] => some (.lst ps)
  | [.scr ns] => some (.lst (ns.map .int))
  | _ => none
theorem cf_list : CallM G X (.type "list") bList := ⟨_, call_list_of, by
  intro W st σ H ps z us Q r a h g
  unfold bList at h
  split at h
  · cases h
    obtain ⟨v, rfl, ad, vs, rfl, d, l⟩ := a.one
    exact ⟨ad, vs, rfl, .inl (.inl (.inl d)), g.lst r l⟩
  · cases h
    obtain ⟨v, rfl, ad, vs, rfl, d, l⟩ := a.one
    exact ⟨ad, vs, rfl, .inr (.inl (.inl (r.le _ _ d))), g.lst r l⟩
  · cases h
    obtain ⟨v, rfl, ad, o, rfl, d⟩ := a.one
    exact ⟨ad, _, rfl, .inl (.inl (.inr ⟨o, r.le _ _ d⟩)), g.lst r (RepL.ints _)⟩
  · cases h⟩
def bTuple : List PV → Option PV
  | [.lst ps] => some (.tup ps)
  | [.tup ps] => some (.tup ps)
  | _ => none
theorem cf_tuple : CallF G X (.type "tuple") bTuple := ⟨_, call_tuple_of, by
  intro W st σ H ps z us Q r a h g
  unfold bTuple at h
  split at h
  · cases h
    obtain ⟨v, rfl, ad, vs, rfl, d, l⟩ := a.one
    exact ⟨ad, vs, rfl, .inl ⟨.inl (.inl d), g.tup r l⟩⟩
  · cases h
    obtain ⟨v, rfl, ad, vs, rfl, d, l⟩ := a.one
    exact ⟨ad, vs, rfl, .inr ⟨.inl (.inl (r.le _ _ d)), g.here r (.tup d l)⟩⟩
  · cases h⟩
end
end Cl
set_option Elab.async false
set_option linter.all false
set_option maxRecDepth 100000
set_option maxHeartbeats 4000000
namespace Cl
open PySem PySem.Spec PyProof.Rows L2

inductive TK where
  | ty (n : String) | cl (c : Nat)
  deriving DecidableEq
inductive CK where
  | ty (n : String) | fn (n : Nat)
  deriving DecidableEq
def TK.val (G : Gd) : TK → Value
  | .ty n => .type n
  | .cl c => .ref (G.cls c)
def CK.val (G : Gd) : CK → Value
  | .ty n => .type n
  | .fn n => .ref (G.fn n)
def tkOf : PV → Option TK
  | .non => some (.ty "NoneType")
  | .bl _ => some (.ty "bool")
  | .int _ => some (.ty "int")
  | .str _ => some (.ty "str")
  | .lst _ => some (.ty "list")
  | .scr _ => some (.ty "list")
  | .tup _ => some (.ty "tuple")
  | .dct _ => some (.ty "dict")
  | .obj c _ => some (.cl c)
  | _ => none
def ckOf : PV → Option CK
  | .ty n => some (.ty n)
  | .fn n => some (.fn n)
  | _ => none
def cksOf : List PV → Option (List CK)
  | [] => some []
  | p :: ps => (ckOf p).bind fun k => (cksOf ps).map fun l => k :: l
def InsOk (K : PySem.W.Frag) (C : Addr) : Prop := Cls K C ∧ PySem.W.findIn K (.ref C) "__class__" = some (some (.builtin "object.__class__")) ∧
  PySem.W.specialIn K (.builtin "object.__class__") "__get__" = some (some (.builtin "getset_descriptor.__get__")) ∧ PySem.W.takesIn K (.builtin "object.__class__") = some true ∧ PySem.W.mroIn K C (.type "object") = some true
structure IsTb (G : Gd) (K : PySem.W.Frag) (tb : TK → CK → Option Bool) : Prop where
  one : ∀ t c b, tb t c = some b → PySem.W.kitOne K (t.val G) (c.val G) = some b
  ins : ∀ n c b, tb (.cl n) c = some b → InsOk K (G.cls n)
def isAny (tb : TK → CK → Option Bool) (t : TK) : List CK → Option Bool
  | [] => some false
  | c :: cs => match tb t c with
    | some true => some true
    | some false => isAny tb t cs
    | none => none
def bIsi (tb : TK → CK → Option Bool) : List PV → Option PV
  | [p, .tup cs] => (tkOf p).bind fun t => (cksOf cs).bind fun l => if l = [] then none else (isAny tb t l).map .bl
  | [p, c] => (tkOf p).bind fun t => (ckOf c).bind fun k => (tb t k).map .bl
  | _ => none
section
variable {G : Gd} {X : Cx} {Wx : WX} {a b c e : Expr} {es : List Expr} {pos p : Pos} {fa fb fc : Cm SV} {fs : Cm (List SV)} {x : PySem.Str} {id T : String} {tb : TK → CK → Option Bool}
theorem ty_at {W : Wd} {st : ST} {σ : Sg} {H : Hp} {p : PV} {v : V} {t : TK} {K : PySem.W.Frag} (r : R G W st σ H) (h : VRep G W.F H p v) (e : tkOf p = some t) (hi : ∀ n, t = .cl n → InsOk K (G.cls n)) : TyX K H v (t.val G) := by
  cases p with
  | non => cases e; cases h; exact .base .non
  | bl b => cases e; cases h; exact .base (.bl b)
  | int i => cases e; cases h; exact .base (.int i)
  | str x => cases e; cases h; exact .base (.str x)
  | ty n => cases e
  | fn n => cases e
  | lst xs => cases e; obtain ⟨a, vs, rfl, d, l⟩ := h; exact .base (.lst d)
  | tup xs => cases e; obtain ⟨a, vs, rfl, d, l⟩ := h; exact .base (.tup (r.le _ _ d))
  | scr ns => cases e; obtain ⟨a, o, rfl, d⟩ := h; exact .base (.frz (r.le _ _ d))
  | dct kvs =>
    cases e
    obtain ⟨a, hs, rfl, d, l⟩ := h
    rcases d with d | ⟨o, d⟩
    · exact .base (.dK d)
    · exact .fDict d
  | obj c fs =>
    cases e
    obtain ⟨a, dx, hs, rfl, d, l⟩ := h
    obtain ⟨i1, i2, i3, i4, i5⟩ := hi c rfl
    exact .base (.ins d i1 i2 i3 i4 i5)
theorem ck_at {F : Hp} {c : PV} {v : V} {k : CK} (h : Rep G F c v) (e : ckOf c = some k) : ClsV v (k.val G) := by
  cases c with
  | ty n => cases e; cases h; exact .ty n
  | fn n => cases e; cases h; exact .own _
  | _ => cases e
theorem ckV_at {F H : Hp} {c : PV} {v : V} {k : CK} (h : VRep G F H c v) (e : ckOf c = some k) : ClsV v (k.val G) := by
  cases c with
  | ty n => cases e; cases h; exact .ty n
  | fn n => cases e; cases h; exact .own _
  | _ => cases e
theorem cks_at {F : Hp} : ∀ {cs : List PV} {vs : List V} {l : List CK}, RepL G F cs vs → cksOf cs = some l → Paired ClsV vs (l.map (CK.val G))
  | _, _, _, .nil, e => by cases e; exact .nil
  | _, _, _, .cons h k, e => by
    obtain ⟨k1, e1, e⟩ := Option.bind_eq_some_iff.mp e
    obtain ⟨l1, e2, rfl⟩ := Option.map_eq_some_iff.mp e
    exact .cons (ck_at h e1) (cks_at k e2)
theorem isAny_kit {K : PySem.W.Frag} {t : TK} (I : IsTb G K tb) : ∀ {l : List CK} {b : Bool}, isAny tb t l = some b → PySem.W.kitAny K (t.val G) (l.map (CK.val G)) = some b
  | [], b, e => by cases e; rfl
  | c :: cs, b, e => by
    unfold isAny at e
    show (match PySem.W.kitOne K (t.val G) (c.val G) with
      | some true => some true
      | some false => PySem.W.kitAny K (t.val G) (cs.map (CK.val G))
      | none => none) = some b
    cases et : tb t c with
    | none => rw [et] at e; cases e
    | some b1 =>
      rw [I.one _ _ _ et]
      rw [et] at e
      cases b1 with
      | true => exact e
      | false => exact isAny_kit I e
theorem cf_isi (I : IsTb G X.K tb) : CallF G X (.builtin "isinstance") (bIsi tb) := ⟨_, callR_or call_isi call_isiT, by
  intro W st σ H ps z us Q r a h g
  unfold bIsi at h
  split at h
  · obtain ⟨t, e1, h⟩ := Option.bind_eq_some_iff.mp h
    obtain ⟨l, e2, h⟩ := Option.bind_eq_some_iff.mp h
    split at h
    · cases h
    · rename_i hne
      obtain ⟨b, e3, rfl⟩ := Option.map_eq_some_iff.mp h
      obtain ⟨v, u, rfl, k1, ad, vs, rfl, d, k2⟩ := a.two
      have hi : ∀ n, t = .cl n → InsOk X.K (G.cls n) := fun n en => by
        cases l with
        | nil => exact absurd rfl hne
        | cons c cs =>
          unfold isAny at e3
          cases et : tb t c with
          | none => rw [et] at e3; cases e3
          | some b1 => rw [en] at et; exact I.ins _ _ _ et
      exact .inr ⟨v, ad, vs, _, _, b, rfl, r.le _ _ d, cks_at k2 e2, ty_at r k1 e1 hi, isAny_kit I e3, g.here r (.bl _)⟩
  · obtain ⟨t, e1, h⟩ := Option.bind_eq_some_iff.mp h
    obtain ⟨k, e2, h⟩ := Option.bind_eq_some_iff.mp h
    obtain ⟨b, e3, rfl⟩ := Option.map_eq_some_iff.mp h
    obtain ⟨v, u, rfl, k1, k2⟩ := a.two
    exact .inl ⟨v, u, _, _, b, rfl, ckV_at k2 e2, ty_at r k1 e1 (fun n en => by rw [en] at e3; exact I.ins _ _ _ e3), I.one _ _ _ e3, g.here r (.bl _)⟩
  · cases h⟩

def reprOk (d : PyData) : Bool := d.showable && decide (d.depth ≤ 60) && decide (d.shown.length ≤ 16777216)
def bRepr : List PV → Option PV
  | [p] => (toD p).bind fun d => if reprOk d = true then some (.str d.shown) else none
  | _ => none
mutual
theorem toD_nd : ∀ {p : PV} {d : PyData}, toD p = some d → d.hasDict = false
  | .non, _, h => by simp [toD] at h; subst h; rfl
  | .bl b, _, h => by simp [toD] at h; subst h; rfl
  | .int b, _, h => by simp [toD] at h; subst h; rfl
  | .str b, _, h => by simp [toD] at h; subst h; rfl
  | .lst xs, _, h => by
    simp only [toD, Option.map_eq_some_iff] at h
    obtain ⟨ds, e, rfl⟩ := h
    exact toDs_nd e
  | .tup xs, _, h => by
    simp only [toD, Option.map_eq_some_iff] at h
    obtain ⟨ds, e, rfl⟩ := h
    exact toDs_nd e
  | .dct _, _, h => by simp [toD] at h
  | .obj _ _, _, h => by simp [toD] at h
  | .ty _, _, h => by simp [toD] at h
  | .fn _, _, h => by simp [toD] at h
  | .scr _, _, h => by simp [toD] at h
theorem toDs_nd : ∀ {ps : List PV} {ds : List PyData}, toDs ps = some ds → PyData.hasDictAll ds = false
  | [], _, h => by cases h; rfl
  | p :: ps, _, h => by
    obtain ⟨d, e1, e⟩ := Option.bind_eq_some_iff.mp h
    obtain ⟨l, e2, rfl⟩ := Option.map_eq_some_iff.mp e
    show (d.hasDict || PyData.hasDictAll l) = false
    rw [toD_nd e1, toDs_nd e2]; rfl
end
def rRepr (K : PySem.W.Frag) : List V → Hp → VK → Prop := fun vs H Q => ∃ v d, vs = [v] ∧ Dp K H v d ∧ d.showable = true ∧ d.hasDict = false ∧ d.depth ≤ 60 ∧ d.shown.length ≤ sizeLine ∧ Q (.str d.shown) H
theorem call_repr (gd : X.A.guards = some []) (hu : X.A.units + 65 < cLine) : CallR X (.builtin "repr") (rRepr X.K) := by
  intro pins s σ H xs us Q I r h
  obtain ⟨v, d, rfl, hd, h1, h2, h3, h4, q⟩ := h
  obtain ⟨u, rfl, rx⟩ := vals1 r
  obtain ⟨as, rd⟩ := Dp.reads I d v u hd rx
  have fin : ∀ t k, (∃ z H', Inv X pins σ H' { s with toks := k } ∧ RelV z (.str d.shown t) ∧ Q z H') := fun t k => ⟨.str _, H, I.tok _, ⟨_, rfl⟩, q⟩
  cases rd with
  | none => exact PySem.P.repr_of_none (fin _ _)
  | bool b => exact PySem.P.repr_of_bool (fin _ _)
  | int i t => exact PySem.P.repr_of_int (of_decide_eq_true h1) (fin _ _)
  | str x t => exact PySem.P.repr_of_str (fin _ _) h4
  | list a1 a2 a3 a4 => exact repr_of_reads' (.list a1 a2 a3 a4) h1 (PyData.noDict_hsm h2) gd (by omega) (fun _ _ e => e) (fun h' u tk hk => ⟨.str _, H, I.kept (t' := tk) hk, ⟨_, rfl⟩, q⟩) h4
  | tuple a1 a2 a3 a4 => exact repr_of_reads' (.tuple a1 a2 a3 a4) h1 (PyData.noDict_hsm h2) gd (by omega) (fun _ _ e => e) (fun h' u tk hk => ⟨.str _, H, I.kept (t' := tk) hk, ⟨_, rfl⟩, q⟩) h4
  | dict _ _ _ _ _ => cases h2
theorem cf_repr (gd : X.A.guards = some []) (hu : X.A.units + 65 < cLine) : CallF G X (.builtin "repr") bRepr := ⟨_, call_repr gd hu, by
  intro W st σ H ps z us Q r a h g
  unfold bRepr at h
  split at h
  · obtain ⟨d, e1, h⟩ := Option.bind_eq_some_iff.mp h
    split at h
    · rename_i hk
      cases h
      obtain ⟨v, rfl, k⟩ := a.one
      unfold reprOk at hk
      simp only [Bool.and_eq_true, decide_eq_true_eq] at hk
      obtain ⟨⟨h1, h2⟩, h3⟩ := hk
      exact ⟨v, d, rfl, k.dp r.le e1, h1, toD_nd e1, h2, by rw [sizeLine_eq]; exact h3, g.here r (.str _)⟩
    · cases h
  · cases h⟩

def mRg1 (fa : Cm SV) : Cm MC := fun st => (fa st).bind fun x st1 => match x with
  | .t (.int n) => if decide (n.toNat ≤ 16777216) && smallI n then .ok (.lst (rngL 0 1 n.toNat)) st1 else .stuck
  | _ => .stuck
def mRg2 (fa fb : Cm SV) : Cm MC := fun st => (fa st).bind fun x st1 => (fb st1).bind fun y st2 => match x, y with
  | .t (.int i), .t (.int j) => if (smallI i && smallI j) && decide ((j - i).toNat ≤ 16777216) then .ok (.lst (rngL i 1 (j - i).toNat)) st2 else .stuck
  | _, _ => .stuck
theorem rngL_rep {F : Hp} {lo hi : Int} : RepL G F (rngL lo 1 (hi - lo).toNat) (rgV lo hi) := by
  unfold rngL rgV
  have go : ∀ l : List Nat, RepL G F (l.map fun (i : Nat) => PV.int (lo + (i : Nat) * 1)) (l.map fun (i : Nat) => V.int (lo + (i : Nat))) := by
    intro l
    induction l with
    | nil => exact .nil
    | cons i l ih => rw [List.map_cons, List.map_cons, Int.mul_one]; exact .cons (.int _) ih
  exact go _
theorem cm_rg1 {q q' : Pos} (hc : X.calm = true) (hg : Gl X "list") (hm : X.mg "list" = none) (hg' : Gl X "range") (hm' : X.mg "range" = none) (ha : CE G X Wx a fa)
    (na : starEach [a] X.env = (false, eval a X.env) :: starEach [] X.env := by rfl) (nb : starEach [Expr.Call (.Name "range" q) [a] [] p] X.env = (false, eval (.Call (.Name "range" q) [a] [] p) X.env) :: starEach [] X.env := by rfl) :
    CM G X Wx (.Call (.Name "list" q') [.Call (.Name "range" q) [a] [] p] [] pos) (mRg1 fa) := by
  refine ⟨pe_imp (pe_listRg hc hg hm (prg_1 hg' hm' ha.pe na) nb) fun σ H Q ⟨W, st, r, o⟩ => ?_⟩
  refine tA_mono (tM_step (rel := RepS G) r o) fun u H1 ⟨W1, st1, v, r1, _, _, q1, o1⟩ => ?_
  split at o1
  · rename_i n
    split at o1
    · rename_i hk
      simp only [Bool.and_eq_true, decide_eq_true_eq] at hk
      cases q1
      refine ⟨n, rfl, ⟨by omega, by omega, (smallI_p hk.2).1, (smallI_p hk.2).2, by omega⟩, GvM.lst (xs := rngL 0 1 n.toNat) o1 r1 ?_⟩
      have := rngL_rep (G := G) (F := W1.F) (lo := 0) (hi := n)
      rwa [Int.sub_zero] at this
    · exact o1.elim
  · exact o1.elim
theorem cm_rg2 {q q' : Pos} (hc : X.calm = true) (hg : Gl X "list") (hm : X.mg "list" = none) (hg' : Gl X "range") (hm' : X.mg "range" = none) (ha : CE G X Wx a fa) (hb : CE G X Wx b fb)
    (na : starEach [a, b] X.env = (false, eval a X.env) :: starEach [b] X.env := by rfl) (nb : starEach [b] X.env = (false, eval b X.env) :: starEach [] X.env := by rfl) (hp : (backTo p (starEach [b] X.env)).any (·.1) = false := by rfl)
    (nc : starEach [Expr.Call (.Name "range" q) [a, b] [] p] X.env = (false, eval (.Call (.Name "range" q) [a, b] [] p) X.env) :: starEach [] X.env := by rfl) :
    CM G X Wx (.Call (.Name "list" q') [.Call (.Name "range" q) [a, b] [] p] [] pos) (mRg2 fa fb) := by
  refine ⟨pe_imp (pe_listRg hc hg hm (prg_2 hg' hm' ha.pe hb.pe na nb hp) nc) fun σ H Q ⟨W, st, r, o⟩ => ?_⟩
  refine tA_mono (tM_step (rel := RepS G) r o) fun u H1 ⟨W1, st1, v, r1, _, _, q1, o1⟩ => ?_
  refine tA_mono (tM_step (rel := RepS G) r1 o1) fun u2 H2 ⟨W2, st2, v2, r2, f2, a2, q2, o2⟩ => ?_
  split at o2
  · rename_i i j _
    split at o2
    · rename_i hk
      simp only [Bool.and_eq_true, decide_eq_true_eq] at hk
      cases q1
      cases q2
      exact ⟨i, j, rfl, rfl, ⟨(smallI_p hk.1.1).1, (smallI_p hk.1.1).2, (smallI_p hk.1.2).1, (smallI_p hk.1.2).2, by omega⟩, GvM.lst (xs := rngL i 1 (j - i).toNat) o2 r2 rngL_rep⟩
    · exact o2.elim
  · exact o2.elim

def insI (n : Int) : List Int → List Int
  | [] => [n]
  | m :: r => if n ≤ m then n :: m :: r else m :: insI n r
def sortI : List Int → List Int
  | [] => []
  | n :: r => insI n (sortI r)
theorem insI_perm (n : Int) : ∀ l : List Int, (insI n l).Perm (n :: l)
  | [] => .refl _
  | m :: r => by
    unfold insI
    split
    · exact .refl _
    · exact ((insI_perm n r).cons m).trans (.swap n m r)
theorem sortI_perm : ∀ l : List Int, (sortI l).Perm l
  | [] => .refl _
  | n :: r => (insI_perm n _).trans ((sortI_perm r).cons n)
theorem insI_sorted (n : Int) : ∀ {l : List Int}, l.Pairwise (· ≤ ·) → (insI n l).Pairwise (· ≤ ·)
  | [], _ => by simp [insI]
  | m :: r, h => by
    obtain ⟨h1, h2⟩ := List.pairwise_cons.mp h
    unfold insI
    split
    · rename_i hm
      refine List.pairwise_cons.mpr ⟨fun x hx => ?_, h⟩
      rcases List.mem_cons.mp hx with z | z
      · omega
      · have := h1 x z; omega
    · refine List.pairwise_cons.mpr ⟨fun x hx => ?_, insI_sorted n h2⟩
      rcases List.mem_cons.mp ((insI_perm n r).mem_iff.mp hx) with z | z
      · omega
      · exact h1 x z
theorem sortI_sorted : ∀ l : List Int, (sortI l).Pairwise (· ≤ ·)
  | [] => List.Pairwise.nil
  | n :: r => insI_sorted n (sortI_sorted r)
theorem sorted_unique : ∀ {l m : List Int}, l.Perm m → l.Pairwise (· ≤ ·) → m.Pairwise (· ≤ ·) → l = m
  | [], m, p, _, _ => (List.nil_perm.mp p).symm ▸ rfl
  | x :: l, [], p, _, _ => absurd p.symm (by simp)
  | x :: l, y :: m, p, h1, h2 => by
    have hxy : x = y := by
      obtain ⟨a1, _⟩ := List.pairwise_cons.mp h1
      obtain ⟨b1, _⟩ := List.pairwise_cons.mp h2
      have hx : x ∈ y :: m := p.mem_iff.mp (List.mem_cons_self ..)
      have hy : y ∈ x :: l := p.mem_iff.mpr (List.mem_cons_self ..)
      have e1 : y ≤ x := by
        rcases List.mem_cons.mp hx with z | z
        · omega
        · exact b1 x z
      have e2 : x ≤ y := by
        rcases List.mem_cons.mp hy with z | z
        · omega
        · exact a1 y z
      omega
    subst hxy
    rw [sorted_unique (List.Perm.cons_inv p) (List.pairwise_cons.mp h1).2 (List.pairwise_cons.mp h2).2]
def tupInts : PV → Option (List Int)
  | .tup ps => intsP ps
  | _ => none
def bSorted : List PV → Option MC
  | [p] => match intsL p with
    | some ns => some (.lst ((sortI ns).map .int))
    | none => (tupInts p).map fun ns => .lst ((sortI ns).map .int)
  | _ => none
def rSortedIT (K : PySem.W.Frag) : List V → Hp → VK → Prop := fun vs H Q => ∃ (a : Addr) (ns : List Int), vs = [V.ref a] ∧ SqT K H a (ns.map V.int) ∧
  ∀ (ns' : List Int) (p : Addr), ns'.Perm ns → ns'.Pairwise (· ≤ ·) → H p = none → Q (.ref p) (upd H p (.lst (ns'.map V.int)))
end
end Cl
set_option Elab.async false
set_option linter.all false
set_option maxRecDepth 100000
set_option maxHeartbeats 4000000
namespace Cl
open PySem PySem.Spec PyProof.Rows L2

section
variable {prog : Program} {w : World} {A : Around} {E : Value → Shared → Prop} {s : Shared}
theorem sorted_tup {l : Addr} {items : Array Value} {ltv : Value → Value → Bool} {Q : Value → Shared → Prop} (O : SrtO.Swo ltv) (hl : s.heap.IsTuple l items) (hz : items.size ≤ sizeLine)
    (hS : 2 ≤ items.toList.length → ∀ (h₁ : Heap) (a : Addr), SrtO.SortableO prog w A.in1.in1 { s with heap := h₁ } a items.toList ltv)
    (h : ∀ (out : List Value) (h1 h' : Heap), SrtO.Srtd ltv out → SrtO.Stb ltv out items.toList → (∀ b o, s.heap.get? b = some o → h1.get? b = some o) → (∀ b o, h1.get? b = some o → h'.get? b = some o) → (∃ e, h'.get? h1.objs.size = some (seqObj "list" out.toArray e)) → Q (.ref h1.objs.size) { s with heap := h' }) :
    wpAny (model prog w) A (call (.builtin "sorted") [.ref l]) Q E s := by
  obtain ⟨o, ho, hc, n, hd⟩ := hl
  refine Calls.call_function_entry kind_sorted plain_sorted entry_sorted (args_sorted1 _) ?_
  unfold Builtin.«sorted»
  refine wpAny_bind (m := checkCount "sorted" 1 1 _) (wpAny_pure ?_)
  refine wpAny_bind (wpAny_collect_seq (T := "tuple") l (.inr rfl) ho hc hd (fun h1 k1 => ?_) hz)
  refine wpAny_bind (wpAny_newList ?_ (show items.toList.length ≤ sizeLine by rw [Array.length_toList]; exact hz))
  have hoL : (h1.push (seqObj "list" items.toList.toArray 0)).get? h1.objs.size = some (seqObj "list" items.toList.toArray 0) := Heap.get?_push_size _ rfl
  refine wpAny_bind (wpAny_holding (wpAny_call_entry slot_list_sort ⟨_, hoL, rfl⟩ entry_list_sort (SrtO.list_sort_ord O hoL (show items.toList.length ≤ sizeLine by rw [Array.length_toList]; exact hz) (fun h2 => hS h2 (h1.push (seqObj "list" items.toList.toArray 0)) h1.objs.size) fun out hs hb => ⟨_, rfl, ?_⟩) (args_list_sort _)))
  refine wpAny_pure ⟨_, rfl, h out h1 _ hs hb k1 (fun b o q => ?_) ?_⟩
  · have hlt : b < h1.objs.size := Heap.lt_size q
    have hlt2 : b < (h1.push (seqObj "list" items.toList.toArray 0)).objs.size := Heap.lt_size (Heap.get?_push_of_some _ q)
    rw [PyProof.Rows.sortedHeap_old (Nat.ne_of_lt hlt) hlt2]
    exact Heap.get?_push_of_some _ q
  · exact PyProof.Rows.sortedHeap_at hoL
end
section
variable {G : Gd} {X : Cx} {Wx : WX} {a b c e : Expr} {es : List Expr} {pos p : Pos} {fa fb fc : Cm SV} {fs : Cm (List SV)}
theorem cr_sortedIT : CallR X (.builtin "sorted") (rSortedIT X.K) := by
  intro pins s σ H vs us Q I r h
  obtain ⟨a, ns, rfl, hs, q⟩ := h
  obtain ⟨its, rv, hl, hz⟩ := I.tuple hs
  rw [Vals.ref1 r]
  have hi := rv.ints
  have hz2 : its.length ≤ sizeLine := by rw [← rv.length]; exact hz
  refine sorted_tup SrtO.swo_int (items := its.toArray) hl (by simpa using hz2) (fun h2 h₁ a' => SrtO.ints_sortable hi (by simpa using h2)) fun out h1 h' hsd hb k1 k2 ha => ?_
  obtain ⟨m1, m2, m3⟩ := SrtO.ints_out hi hsd (by simpa using hb)
  obtain ⟨ep, he'⟩ := ha
  have hlen : ((out.map SrtO.iv).map V.int).length ≤ sizeLine := by
    rw [List.length_map, m2.length_eq]
    rw [List.length_map] at hz
    exact hz
  have I1 : Inv X pins σ H { s with heap := h1 } := I.kept (t' := s.toks) k1
  exact ⟨.ref _, upd H h1.objs.size (.lst ((out.map SrtO.iv).map V.int)), I1.laid (t' := s.toks) k2 (Nat.le_refl _) ⟨hlen, out, ep, vals_of_ints m1, he'⟩, rfl, q _ _ m2 m3 (I1.hok.fresh (Nat.le_refl _))⟩
theorem cf_sorted : CallM G X (.builtin "sorted") bSorted := ⟨_, callR_or cr_sortedI cr_sortedIT, by
  intro W st σ H ps z us Q r a h g
  unfold bSorted at h
  split at h
  · split at h
    · rename_i ns e1
      cases h
      obtain ⟨v, rfl, k⟩ := a.one
      obtain ⟨ad, rfl, hs⟩ := intsL_at (F := H) (K := X.K) r k e1
      refine .inl ⟨ad, ns, rfl, hs, fun ns' p hp hs' hn => ?_⟩
      have : ns' = sortI ns := sorted_unique (hp.trans (sortI_perm ns).symm) hs' (sortI_sorted ns)
      subst this
      exact g.lst r (RepL.ints _) p hn
    · rename_i p _
      obtain ⟨ns, e1, rfl⟩ := Option.map_eq_some_iff.mp h
      obtain ⟨v, rfl, k⟩ := a.one
      unfold tupInts at e1
      split at e1
      · obtain ⟨ad, vs, rfl, d, l⟩ := k
        rw [ints_eq e1] at l
        rw [l.intsV] at d
        refine .inr ⟨ad, ns, rfl, .inl (.inl (r.le _ _ d)), fun ns' p hp hs' hn => ?_⟩
        have : ns' = sortI ns := sorted_unique (hp.trans (sortI_perm ns).symm) hs' (sortI_sorted ns)
        subst this
        exact g.lst r (RepL.ints _) p hn
      · cases e1
  · cases h⟩

def dset : List Int → List Int
  | [] => []
  | n :: r => if n ∈ r then dset r else n :: dset r
theorem mem_dset {n : Int} : ∀ {l : List Int}, n ∈ dset l ↔ n ∈ l
  | [] => Iff.rfl
  | m :: r => by
    unfold dset
    have ih := mem_dset (n := n) (l := r)
    split
    · rename_i hm
      rw [ih, List.mem_cons]
      exact ⟨.inr, fun z => z.elim (fun e => e ▸ hm) _root_.id⟩
    · rw [List.mem_cons, List.mem_cons, ih]
theorem dset_nodup : ∀ l : List Int, (dset l).Nodup
  | [] => List.nodup_nil
  | n :: r => by
    unfold dset
    split
    · exact dset_nodup r
    · rename_i h
      exact List.nodup_cons.mpr ⟨fun z => h (mem_dset.mp z), dset_nodup r⟩
theorem length_of_mem : ∀ {l m : List Int}, l.Nodup → m.Nodup → (∀ x, x ∈ l ↔ x ∈ m) → l.length = m.length
  | [], m, _, _, h => by
    cases m with
    | nil => rfl
    | cons y m => exact absurd ((h y).mpr (List.mem_cons_self ..)) (by simp)
  | x :: l, m, h1, h2, h => by
    have hx : x ∈ m := (h x).mp (List.mem_cons_self ..)
    obtain ⟨n1, n2⟩ := List.nodup_cons.mp h1
    have ih := length_of_mem (l := l) (m := m.erase x) n2 (h2.erase x) fun y => by
      by_cases e : y = x
      · subst e
        exact ⟨fun z => absurd z n1, fun z => absurd z (List.Nodup.not_mem_erase h2)⟩
      · rw [List.mem_erase_of_ne e, ← h y, List.mem_cons]
        exact ⟨.inr, fun z => z.resolve_left e⟩
    rw [List.length_cons, ih, List.length_erase_of_mem hx]
    have := List.length_pos_of_mem hx
    omega
theorem dset_self : ∀ {l : List Int}, (dset l).length = l.length ↔ l.Nodup
  | [] => by simp [dset]
  | n :: r => by
    have le : ∀ l : List Int, (dset l).length ≤ l.length := by
      intro l
      induction l with
      | nil => exact Nat.le_refl _
      | cons m l ih => unfold dset; split <;> simp <;> omega
    unfold dset
    split
    · rename_i h
      have := le r
      simp only [List.length_cons, List.nodup_cons]
      exact ⟨fun z => by omega, fun z => absurd h z.1⟩
    · rename_i h
      simp only [List.length_cons, List.nodup_cons]
      rw [Nat.add_right_cancel_iff, dset_self]
      exact ⟨fun z => ⟨h, z⟩, fun z => z.2⟩
theorem firstMet_set (ns : List Int) : ∀ i, i ≤ ns.length → (PyProof.Rows.firstMet (fun i => ns.getD i 0) i).Nodup
  | 0, _ => List.nodup_nil
  | i + 1, h => by
    rw [PyProof.Rows.firstMet_succ]
    have ih := firstMet_set ns i (Nat.le_of_succ_le h)
    show (if (PyProof.Rows.firstMet (fun i => ns.getD i 0) i).any (· == ns.getD i 0) then PyProof.Rows.firstMet (fun i => ns.getD i 0) i else PyProof.Rows.firstMet (fun i => ns.getD i 0) i ++ [ns.getD i 0]).Nodup
    split
    · exact ih
    · rename_i hn
      rw [List.nodup_append]
      refine ⟨ih, by simp, fun x hx y hy e => hn ?_⟩
      subst e
      rw [List.any_eq_true]
      exact ⟨x, hx, by rw [List.mem_singleton.mp hy]; exact beq_self_eq_true _⟩
theorem firstMet_dset (ns : List Int) : (PyProof.Rows.firstMet (fun i => ns.getD i 0) ns.length).length = (dset ns).length := by
  refine length_of_mem (firstMet_set ns _ (Nat.le_refl _)) (dset_nodup ns) fun x => ?_
  have h := PyProof.Rows.firstMet_any (fun i => ns.getD i 0) ns.length x
  have e : (List.range ns.length).map (fun i => ns.getD i 0) = ns := by
    apply List.ext_getElem
    · simp
    · intro i h1 h2
      simp [List.getD_eq_getElem?_getD, List.getElem?_eq_getElem h2]
  rw [e] at h
  rw [mem_dset]
  constructor
  · intro hx
    have : (PyProof.Rows.firstMet (fun i => ns.getD i 0) ns.length).any (· == x) = true := List.any_eq_true.mpr ⟨x, hx, beq_self_eq_true _⟩
    rw [h] at this
    obtain ⟨y, hy, ey⟩ := List.any_eq_true.mp this
    rw [← eq_of_beq ey]; exact hy
  · intro hx
    have : ns.any (· == x) = true := List.any_eq_true.mpr ⟨x, hx, beq_self_eq_true _⟩
    rw [← h] at this
    obtain ⟨y, hy, ey⟩ := List.any_eq_true.mp this
    rw [← eq_of_beq ey]; exact hy
def tLenSetG (K : PySem.W.Frag) (ta : TE) : TE := fun σ H Q => ta σ H fun x H1 => ∃ (l : Addr) (ns : List Int), x = .ref l ∧ (SqL K H1 l (ns.map V.int) ∨ SqT K H1 l (ns.map V.int)) ∧ ns.length ≤ 4000 ∧ Q (.int ((dset ns).length : Nat)) H1
theorem pe_lenSetG {ta : TE} {p p2 q pos : Pos} (hg : Gl X "len") (hm : X.mg "len" = none) (hg2 : Gl X "set") (hm2 : X.mg "set" = none) (ha : PE X a ta) (hc : X.calm = true)
    (na : starEach [a] X.env = (false, eval a X.env) :: starEach [] X.env := by rfl) : PE X (.Call (.Name "len" p) [.Call (.Name "set" p2) [a] [] q] [] pos) (tLenSetG X.K ta) := by
  refine ⟨fun pins s σ H Q I h => ?_⟩
  refine Call_ (ld_blt I hg hm PySem.boot_len ?_)
  refine PyProof.Rows.callWith_builtin1 (PyProof.Rows.args_cons ?_ rfl) rfl rfl
  refine Call_ (ld_blt I hg2 hm2 PyProof.Rows.boot_set ?_)
  refine PyProof.Rows.callWith_type1 (PyProof.Rows.args_cons (thn (ha.run pins s σ H _ I h) fun v s1 ⟨x, H1, I1, r1, q1⟩ => PyProof.Rows.args_nil ?_) na) na rfl
  obtain ⟨l, ns, rfl, hq, hl, q1⟩ := q1
  cases r1
  rcases hq with hq | hq
  · obtain ⟨its, r, pl, hz⟩ := I1.list hq
    have hlen : its.toArray.size = ns.length := by rw [List.size_toArray, ← r.length, List.length_map]
    refine PySem.call_set_list (I1.ok.hd hc) pl.isList (by simpa using RZ.intsAre_vals r) (by rw [hlen]; unfold scanBound; omega) fun h' tk hS hk => ?_
    refine PyProof.Rows.args_nil ?_
    rw [hlen] at hS
    have hcard : (PyProof.Rows.firstMet (fun i => ns.getD i 0) ns.length).length ≤ 4000 := Nat.le_trans (PyProof.Rows.firstMet_length_le _ _) hl
    obtain ⟨o, es, ep, t, ho, hex, hd, _, _, _, hf, hn⟩ := hS
    have I2 : Inv X pins σ H1 { s1 with heap := h', toks := tk } := I1.kept fun b o e => hk b o (Heap.lt_size e) e
    exact call_len_set ho hex hd hf (by rw [hn] <;> omega) ⟨.int (dset ns).length, H1, I2.tok _, ⟨_, by rw [hn, firstMet_dset]⟩, q1⟩
  · obtain ⟨its, r, pl, hz⟩ := I1.tuple hq
    have hlen : its.length = ns.length := by rw [← r.length, List.length_map]
    refine L2.call_set_tupI ns (I1.ok.hd hc) pl (by simpa using RZ.intsAre_vals r) (by unfold scanBound; omega) fun h' tk c hS hc hk => ?_
    refine PyProof.Rows.args_nil ?_
    obtain ⟨o, es, ep, t, ho, hex, hd, g1, g2, g3, g4, hf, hn, _, _⟩ := hS
    have hcard : es.size = (dset ns).length := by
      rw [← Array.length_toList, ← List.length_map (f := L2.keyOf)]
      refine length_of_mem g2 (dset_nodup ns) fun x => ?_
      rw [← g3 x, decide_eq_true_eq, mem_dset]
    have I2 : Inv X pins σ H1 { s1 with heap := h', toks := tk } := I1.kept hk
    exact call_len_set ho hex hd hf (by omega) ⟨.int (dset ns).length, H1, I2.tok _, ⟨_, by rw [← hcard]⟩, q1⟩
def bLenSet (p : PV) : Option PV :=
  match intsL p with
  | some ns => if ns.length ≤ 4000 then some (.int (dset ns).length) else none
  | none => (tupInts p).bind fun ns => if ns.length ≤ 4000 then some (.int (dset ns).length) else none
theorem ce_lenSet {q p2 : Pos} (hg : Gl X "len") (hm : X.mg "len" = none) (hg2 : Gl X "set") (hm2 : X.mg "set" = none) (ha : CE G X Wx a fa) (hc : X.calm = true)
    (na : starEach [a] X.env = (false, eval a X.env) :: starEach [] X.env := by rfl) : CE G X Wx (.Call (.Name "len" p) [.Call (.Name "set" p2) [a] [] q] [] pos) (cUn bLenSet fa) := by
  refine ⟨pe_imp (pe_lenSetG hg hm hg2 hm2 ha.pe hc na) fun σ H Q q => ?_⟩
  refine un_step (r := fun x H1 Q => ∃ (l : Addr) (ns : List Int), x = .ref l ∧ (SqL X.K H1 l (ns.map V.int) ∨ SqT X.K H1 l (ns.map V.int)) ∧ ns.length ≤ 4000 ∧ Q (.int ((dset ns).length : Nat)) H1) (fun W st σ H p z u Q r vr e g => ?_) q
  unfold bLenSet at e
  split at e
  · rename_i ns e1
    split at e
    · rename_i hn
      cases e
      obtain ⟨ad, rfl, hs⟩ := intsL_at (F := H) (K := X.K) r vr e1
      exact ⟨ad, ns, rfl, .inl hs, hn, g.here r (.int _)⟩
    · cases e
  · obtain ⟨ns, e1, e⟩ := Option.bind_eq_some_iff.mp e
    split at e
    · rename_i hn
      cases e
      unfold tupInts at e1
      split at e1
      · obtain ⟨ad, vs, rfl, d, l⟩ := vr
        rw [ints_eq e1] at l
        rw [l.intsV] at d
        exact ⟨ad, ns, rfl, .inr (.inl (.inl (r.le _ _ d))), hn, g.here r (.int _)⟩
      · cases e1
    · cases e
end
end Cl
set_option Elab.async false
set_option linter.all false
set_option maxRecDepth 100000
set_option maxHeartbeats 4000000
namespace Cl
open PySem PySem.Spec PyProof.Rows L2 StX ClX

section
variable {G : Gd} {W : Wd} {st : ST} {σ : Sg} {H : Hp}
theorem RepS.at {q : PL} {v : V} {c : MC} (r : R G W st σ H) (k : RepS G W σ (.pl q) v) (h : getP st q = some c) : ∃ a, v = .ref a ∧ AtP W σ q a ∧ RepM G W.F H c a ∧ a ∈ own W st σ := by
  obtain ⟨a, e, m, ho⟩ := r.atP h
  refine ⟨a, ?_, e, m, ho⟩
  cases q with
  | sl j =>
    have e1 : σ[j]? = some (some v) := k
    have e2 : σ[j]? = some (some (.ref a)) := e
    rw [e1] at e2; cases e2; rfl
  | ih n =>
    obtain ⟨a', rfl, e1⟩ := k
    have e2 : W.A[n]? = some a := e
    rw [e1] at e2; cases e2; rfl
theorem R.upP (r : R G W st σ H) {q : PL} {c d : MC} {a : Addr} {o : HO} (h : getP st q = some c) (e : AtP W σ q a) (ho : a ∈ own W st σ) (m : RepM G W.F (upd H a o) d a) :
    R G W (Cl.setP st q d) σ (upd H a o) ∧ Step (own W st σ) W H (own W (Cl.setP st q d) σ) W (upd H a o) := by
  have fa : W.F a = none := r.fr a ho
  refine ⟨r.setP (H' := upd H a o) h e (Same.refl _) (fun b u z => ?_) m (fun b _ hb u z => by rw [upd_ne hb]; exact z) r.fr, ⟨Same.refl _, rfl, fun _ => .inl rfl, fun b hb => ?_, fun b u z hb => ?_⟩⟩
  · have ne : b ≠ a := fun y => by rw [y, fa] at z; cases z
    rw [upd_ne ne]; exact r.le b u z
  · rw [own_setP h] at hb; exact .inl hb
  · have ne : b ≠ a := fun y => hb (by rw [y]; exact ho)
    rw [upd_ne ne]; exact z
end
abbrev PlOp := List PV → List PV → Option (PV × List PV)
def cPl (op : PlOp) (fo : Cm SV) (fs : Cm (List SV)) : Cm SV := fun st => (fo st).bind fun x st1 => match x with
  | .pl q => match getP st1 q with
    | some (.lst _) => (fs st1).bind fun xs st2 => match trees xs, getP st2 q with
      | some ps, some (.lst ys) => match op ys ps with
        | some (z, zs) => .ok (.t z) (setP st2 q (.lst zs))
        | none => .stuck
      | _, _ => .stuck
    | _ => .stuck
  | _ => .stuck
def SndP (G : Gd) (r : V → List V → Hp → VK → Prop) (op : PlOp) : Prop :=
  ∀ (W : Wd) (H : Hp) (a : Addr) (ys ps : List PV) (vs us : List V) (z : PV) (zs : List PV) (Q : VK), H a = some (.lst vs) → RepL G W.F ys vs → RepL G W.F ps us → op ys ps = some (z, zs) →
    (∀ u ws, Rep G W.F z u → RepL G W.F zs ws → Q u (upd H a (.lst ws))) → r (.ref a) us H Q
section
variable {G : Gd} {X : Cx} {Wx : WX} {o e : Expr} {es : List Expr} {fo : Cm SV} {fs : Cm (List SV)} {op : PlOp} {r : V → List V → Hp → VK → Prop} {apos cpos : Pos} {name : PySem.Str} {id : String}
theorem pl_step {σ : Sg} {H : Hp} {Q : VK} {K : PySem.W.Frag} (s : SndP G r op) (h : tE G Wx (cPl op fo fs) σ H Q) : tBM K "list" r (tE G Wx fo) (tL G Wx fs) σ H Q := by
  obtain ⟨W, st, r0, o⟩ := h
  refine tA_mono (tA_then (rel := RepS G) (rel' := RepS G) r0 o) fun u H1 ⟨W1, st1, x, r1, _, _, q1, o1⟩ => ?_
  split at o1 <;> first | exact o1.elim | skip
  rename_i q
  split at o1 <;> first | exact o1.elim | skip
  rename_i xs0 hq0
  obtain ⟨a0, rfl, e0, m0, _⟩ := RepS.at r1 q1 hq0
  obtain ⟨vs0, d0, l0⟩ := m0
  refine ⟨.inl ⟨rfl, _, .inl (.inl d0)⟩, ?_⟩
  refine tA_mono (tA_then (rel := RepSs G) (rel' := RepS G) r1 o1) fun us H2 ⟨W2, st2, ys, r2, f2, a2, q2, o2⟩ => ?_
  split at o2 <;> first | exact o2.elim | skip
  rename_i ps ys0 ht hq
  split at o2 <;> first | exact o2.elim | skip
  rename_i z zs hop
  obtain ⟨a, ea, e2, m2, ho⟩ := RepS.at r2 (q1.mono f2 a2) hq
  cases ea
  obtain ⟨vs, d2, l2⟩ := m2
  refine s W2 H2 a0 ys0 ps vs us z zs Q d2 l2 (trees_rep q2 ht) hop fun u ws ru rw' => ?_
  obtain ⟨r3, s3⟩ := r2.upP (d := .lst zs) (o := .lst ws) hq e2 ho ⟨ws, upd_same, rw'⟩
  exact o2 W2 _ u r3 s3 ru
theorem ce_pl (s : SndP G r op) (pa : PlainAttrs "list") (slot : Slot "list" name id) (hty : typeOf (.builtin id) = pure (.type "method_descriptor")) (hm : MtR X id r) (ho : CE G X Wx o fo) (ha : CA G X Wx (e :: es) fs)
    (hbase : attributeBase o name X.env (eval o X.env) = eval o X.env := by rfl)
    (hfew : ((backTo cpos (starEach (e :: es) X.env)).all (fun x => !x.1) && (backToKw cpos (keywordEach [] X.env)).all (fun x => x.1.isSome)
      && decide ((e :: es).length + ([] : List Keyword).length + (if ([] : List Keyword).isEmpty then 0 else 1) < 30)) = true := by rfl)
    (hline : (apos.endLine == cpos.line) = true := by rfl) (hs : starEach (e :: es) X.env = (false, eval e X.env) :: starEach es X.env := by rfl) (hplain : (backTo cpos (starEach es X.env)).any (·.1) = false := by rfl) :
    CE G X Wx (.Call (.Attribute o name apos) (e :: es) [] cpos) (cPl op fo fs) :=
  ⟨pe_imp (pe_bm pa slot hty hm ho.pe ha.pa hbase hfew hline hs hplain) fun σ H Q q => pl_step s q⟩
theorem ce_pl0 (s : SndP G r op) (pa : PlainAttrs "list") (slot : Slot "list" name id) (hty : typeOf (.builtin id) = pure (.type "method_descriptor")) (hm : MtR X id r) (ho : CE G X Wx o fo)
    (hbase : attributeBase o name X.env (eval o X.env) = eval o X.env := by rfl) (hline : (apos.endLine == cpos.line) = true := by rfl) :
    CE G X Wx (.Call (.Attribute o name apos) [] [] cpos) (cPl op fo cNil) := by
  refine ⟨pe_imp (pe_bm0 pa slot hty hm ho.pe hbase hline) fun σ H Q q => ?_⟩
  refine tA_mono (pl_step (K := X.K) s q) fun u H1 ⟨h1, W, st, r0, o⟩ => ⟨h1, o W H1 [] r0 Step.refl .nil⟩
def opAppend : PlOp := fun ys ps => match ps with
  | [p] => if decide (ys.length < 16777216) then some (.non, ys ++ [p]) else none
  | _ => none
theorem sn_append : SndP G rAppend opAppend := by
  intro W H a ys ps vs us z zs Q d l lp h q
  unfold opAppend at h
  split at h
  · split at h
    · rename_i hz
      cases h
      cases lp with | cons k l2 => cases l2; exact ⟨a, vs, _, rfl, rfl, d, by rw [← l.length, sizeLine_eq]; exact of_decide_eq_true hz, q _ _ .non (l.append (.cons k .nil))⟩
    · cases h
  · cases h
theorem eraseIdx_rep {F : Hp} : ∀ {ps : List PV} {vs : List V} (i : Nat), RepL G F ps vs → RepL G F (ps.eraseIdx i) (vs.eraseIdx i)
  | _, _, _, .nil => by simp; exact .nil
  | _, _, 0, .cons r l => l
  | _, _, i + 1, .cons r l => .cons r (eraseIdx_rep i l)
def opPop : PlOp := fun ys ps => match ps with
  | [.int i] => (ixN ys.length i).bind fun k => (ys[k]?).bind fun y => if decide (ys.length < 2 ^ 62) then some (y, ys.eraseIdx k) else none
  | _ => none
theorem sn_pop : SndP G rPopAt opPop := by
  intro W H a ys ps vs us z zs Q d l lp h q
  unfold opPop at h
  split at h
  · rename_i i
    obtain ⟨k, e1, h⟩ := Option.bind_eq_some_iff.mp h
    obtain ⟨y, e2, h⟩ := Option.bind_eq_some_iff.mp h
    split at h
    · rename_i hz
      cases h
      have hz := of_decide_eq_true hz
      cases lp with | cons k l2 => cases l2; cases k; exact (by
        obtain ⟨v, e3, kv⟩ := l.get e2
        obtain ⟨s1, s2, s3, s4⟩ := ixN_seq e1
        refine ⟨a, vs, i, k, v, rfl, rfl, d, by omega, by omega, by rw [← l.length]; exact s1, e3, q _ _ kv (eraseIdx_rep k l)⟩)
    · cases h
  · cases h
def opPop0 : PlOp := fun ys ps => match ps with
  | [] => (ys[ys.length - 1]?).map fun y => (y, ys.dropLast)
  | _ => none
theorem sn_pop0 : SndP G rPop opPop0 := by
  intro W H a ys ps vs us z zs Q d l lp h q
  unfold opPop0 at h
  split at h
  · obtain ⟨y, e2, h⟩ := Option.map_eq_some_iff.mp h
    cases h
    cases lp
    obtain ⟨v, e3, kv⟩ := l.get e2
    refine ⟨a, vs, v, rfl, rfl, d, by rw [← l.length]; exact e3, q _ _ kv ?_⟩
    rw [List.dropLast_eq_take, List.dropLast_eq_take, ← l.length]
    exact l.take _
  · cases h
def opClear : PlOp := fun ys ps => match ps with
  | [] => some (.non, [])
  | _ => none
theorem sn_clear : SndP G rClear opClear := by
  intro W H a ys ps vs us z zs Q d l lp h q
  unfold opClear at h
  split at h
  · cases h
    cases lp
    exact ⟨a, vs, rfl, rfl, d, q _ _ .non .nil⟩
  · cases h
def posI (k : Int) : List Int → Option Nat
  | [] => none
  | n :: r => if n = k then some 0 else (posI k r).map (· + 1)
theorem posI_some {k : Int} : ∀ {ns : List Int} {j : Nat}, posI k ns = some j → ns[j]? = some k ∧ ∀ m : Nat, m < j → ns[m]? ≠ some k
  | [], j, h => nomatch h
  | n :: r, j, h => by
    unfold posI at h
    split at h
    · rename_i e
      cases h
      exact ⟨by rw [e]; rfl, fun m hm => absurd hm (Nat.not_lt_zero _)⟩
    · rename_i e
      obtain ⟨i, e1, rfl⟩ := Option.map_eq_some_iff.mp h
      obtain ⟨h1, h2⟩ := posI_some e1
      refine ⟨by simpa using h1, fun m hm => ?_⟩
      cases m with
      | zero => simpa using e
      | succ m => simpa using h2 m (by omega)
def opRemove : PlOp := fun ys ps => match ps with
  | [.int k] => (intsP ys).bind fun ns => (posI k ns).map fun j => (.non, (ns.eraseIdx j).map .int)
  | _ => none
theorem sn_remove : SndP G rRemI opRemove := by
  intro W H a ys ps vs us z zs Q d l lp h q
  unfold opRemove at h
  split at h
  · rename_i k
    obtain ⟨ns, e1, h⟩ := Option.bind_eq_some_iff.mp h
    obtain ⟨j, e2, h⟩ := Option.map_eq_some_iff.mp h
    cases h
    rw [ints_eq e1] at l
    rw [l.intsV] at d
    obtain ⟨h1, h2⟩ := posI_some e2
    cases lp with | cons k l2 => cases l2; cases k; exact ⟨a, ns, _, j, rfl, rfl, d, h1, h2, q _ _ .non (RepL.ints _)⟩
  · cases h

def sItem (fv fo fi : Cm SV) : Sm := fun st => bindS (fv st) fun x st1 => bindS (fo st1) fun o st2 => bindS (fi st2) fun i st3 => match x, o, i with
  | .t p, .pl q, .t (.int k) => match getP st3 q with
    | some (.lst ys) => match ixN ys.length k with
      | some j => .nx (setP st3 q (.lst (ys.set j p)))
      | none => .stuck
    | _ => .stuck
  | _, _, _ => .stuck
theorem cs_item {v i : Expr} {fv fi : Cm SV} {pos tpos : Pos} (hv : CE G X Wx v fv) (ho : CE G X Wx o fo) (hi : CE G X Wx i fi)
    (ha : ∀ v, assign (.Subscript o i tpos) X.env v = (do
      let ov ← holding [v] (eval o X.env)
      let iv ← holding [v, ov] (eval i X.env)
      standAt tpos
      holding [v, ov, iv] (setItem ov iv v)
      release [v, ov, iv] []) := by intro _; rfl)
    (hs : swapsWithSole [.Subscript o i tpos] v pos.line X.env = pure false := by rfl) (hw : swappedStores [.Subscript o i tpos] v X.env = pure none := by rfl) (h1 : (assignEach [.Subscript o i tpos] X.env).map (·.2) = [assign (.Subscript o i tpos) X.env] := by rfl) :
    CS G X Wx (.Assign [.Subscript o i tpos] v pos) (sItem fv fo fi) := by
  refine ⟨ps_imp (ps_asg hv.pe (pg_sub ho.pe hi.pe set_list ha) hs hw h1) fun D σ H ⟨W, st, r, o⟩ => ?_⟩
  refine tA_mono (eS (rel := RepS G) r o) fun u1 H1 ⟨W1, st1, x, r1, _, _, q1, o1⟩ => ?_
  refine tA_mono (eS (rel := RepS G) r1 o1) fun u2 H2 ⟨W2, st2, y, r2, f2, a2, q2, o2⟩ => ?_
  refine tA_mono (eS (rel := RepS G) r2 o2) fun u3 H3 ⟨W3, st3, z, r3, f3, a3, q3, o3⟩ => ?_
  split at o3 <;> first | exact o3.elim | skip
  rename_i p q k _ _
  split at o3 <;> first | exact o3.elim | skip
  rename_i ys hq
  split at o3 <;> first | exact o3.elim | skip
  rename_i j hj
  cases q3
  obtain ⟨a, rfl, e2, m2, ho⟩ := RepS.at r3 (q2.mono f3 a3) hq
  obtain ⟨vs, d2, l2⟩ := m2
  refine ⟨a, vs, k, j, rfl, rfl, d2, by rw [← l2.length]; exact hj, ?_⟩
  have kp : Rep G W3.F p u1 := Rep.mono (f2.trans f3) q1
  obtain ⟨r4, s4⟩ := r3.upP (d := .lst (ys.set j p)) (o := .lst (vs.set j u1)) hq e2 ho ⟨_, upd_same, l2.set j kp⟩
  exact o3 W3 σ _ r4 s4

def putP (f : PySem.Str) (p : PV) : List (PySem.Str × PV) → List (PySem.Str × PV)
  | [] => [(f, p)]
  | (g, q) :: r => if g = f then (f, p) :: r else (g, q) :: putP f p r
theorem putP_rep {F : Hp} {f : PySem.Str} {p : PV} {v : V} (k : Rep G F p v) : ∀ {fs : List (PySem.Str × PV)} {hs : List (PySem.Str × V)}, RepF G F fs hs → RepF G F (putP f p fs) (putF f v hs)
  | _, _, .nil => .cons k .nil
  | _, _, .cons (f := g) r l => by
    unfold putP putF
    by_cases e : g = f
    · subst e; simp; exact .cons k l
    · simp [e]; exact .cons r (putP_rep k l)
theorem RepF.length {F : Hp} : ∀ {fs : List (PySem.Str × PV)} {hs : List (PySem.Str × V)}, RepF G F fs hs → fs.length = hs.length
  | _, _, .nil => rfl
  | _, _, .cons _ l => congrArg (· + 1) l.length
def sAttr (cs : List Nat) (f : PySem.Str) (fo fv : Cm SV) : Sm := fun st => bindS (fv st) fun x st1 => bindS (fo st1) fun o st2 => match x, o with
  | .t p, .pl q => match getP st2 q with
    | some (.obj c fs) => if c ∈ cs ∧ decide (fs.length < 1000) then .nx (setP st2 q (.obj c (putP f p fs))) else .stuck
    | _ => .stuck
  | _, _ => .stuck
theorem cs_attr {v : Expr} {fv : Cm SV} {pos pos' : Pos} {cs : List Nat} {f : PySem.Str} (hc : ∀ c ∈ cs, Cls X.K (G.cls c) ∧ NoAttr X.K (G.cls c) f) (ho : CE G X Wx o fo) (hv : CE G X Wx v fv)
    (hs : swapsWith v (some (.Attribute o f pos')) pos.line X.env = pure false := by rfl) : CS G X Wx (.Assign [.Attribute o f pos'] v pos) (sAttr cs f fo fv) := by
  refine ⟨ps_imp (ps_fld ho.pe hv.pe hs) fun D σ H ⟨W, st, r, o⟩ => ?_⟩
  refine tA_mono (eS (rel := RepS G) r o) fun u1 H1 ⟨W1, st1, x, r1, _, _, q1, o1⟩ => ?_
  refine tA_mono (eS (rel := RepS G) r1 o1) fun u2 H2 ⟨W2, st2, y, r2, f2, a2, q2, o2⟩ => ?_
  split at o2 <;> first | exact o2.elim | skip
  rename_i p q _
  split at o2 <;> first | exact o2.elim | skip
  rename_i c fs hq
  split at o2 <;> first | exact o2.elim | skip
  rename_i hk
  obtain ⟨a, rfl, e2, m2, ho⟩ := RepS.at r2 q2 hq
  obtain ⟨dx, hs, d2, l2⟩ := m2
  obtain ⟨h1, h2⟩ := hc c hk.1
  refine ⟨a, G.cls c, dx, hs, rfl, d2, h1, h2, by rw [← l2.length]; exact of_decide_eq_true hk.2, ?_⟩
  obtain ⟨r4, s4⟩ := r2.upP (d := .obj c (putP f p fs)) (o := .ins (G.cls c) dx (putF f u1 hs)) hq e2 ho ⟨dx, _, upd_same, putP_rep (Rep.mono f2 q1) l2⟩
  exact o2 W2 σ _ r4 s4

def sRetM (f : Cm MC) : Sm := fun st => bindS (f st) fun c st1 => .rt (.n c) st1
theorem cs_retM {fm : Cm MC} {pos : Pos} (h : CM G X Wx e fm) : CS G X Wx (.Return (some e) pos) (sRetM fm) := by
  refine ⟨ps_imp (ps_ret h.pe) fun D σ H ⟨W, st, r, o⟩ => ⟨W, st, r, ?_⟩⟩
  unfold sRetM at o
  cases ef : fm st with
  | ok c st' => rw [ef] at o; exact fun W' H' a r' s' m na fa b => o W' σ H' (.ref a) r' s' ⟨a, rfl, m, na, fa, b⟩
  | exc c fs st' => rw [ef] at o; exact fun W' H' d r' s' k => o W' σ H' d r' s' k
  | stuck => rw [ef] at o; exact o
def mMv (i : Nat) : Cm MC := fun st => match st.loc[i]? with
  | some (some (.m c)) => .ok c (st.set i none)
  | _ => .stuck
theorem cm_mv {i : Nat} {x : PySem.Str} {p : Pos} (hi : X.N[i]? = some x) (hv : Vis X.env.scope x) (hd : (x == ("__debug__" : PySem.Str)) = false := by decide) (hcd : (x == ("__classdict__" : PySem.Str)) = false := by decide) :
    CM G X Wx (.Name x p) (mMv i) := by
  refine ⟨pe_imp (pe_var hi hv hd hcd) fun σ H Q ⟨W, st, r, o⟩ => ?_⟩
  unfold mMv at o
  split at o
  · rename_i c hq
    obtain ⟨v, e1, a, rfl, m⟩ := r.loc.get hq
    have ha : a ∈ own W st σ := List.mem_append_left _ (owned_get hq e1)
    obtain ⟨n1, n2, n3⟩ := List.nodup_append.mp r.nd
    obtain ⟨q1, q2⟩ := owned_frz (l0 := none) (by simp) hq e1 n1
    have sub : (own W (st.set i none) σ).Sublist (own W st σ) := q1.append (List.Sublist.refl _)
    have na : a ∉ own W (st.set i none) σ := fun z => by
      rcases List.mem_append.mp z with z | z
      · exact q2 z
      · exact n3 a (owned_get hq e1) a z rfl
    have rl := RepLoc.set (l := none) (v := some (.ref a)) i r.loc (fun y e => nomatch e)
    rw [set_same e1] at rl
    exact ⟨_, e1, o W H a ⟨r.le, r.inh, rl, r.nd.sublist sub, fun b h => r.fr b (sub.subset h)⟩ (Step.sub fun b h => sub.subset h) m na (r.fr a ha) (.inr ha)⟩
  · exact o.elim
end
end Cl
set_option Elab.async false
set_option linter.all false
set_option maxRecDepth 100000
set_option maxHeartbeats 4000000
namespace Cl
open PySem PySem.Spec PyProof.Rows L2 StX ClX

def cResM (st : ST) (ps : List PL) : OutF → Out MC
  | .ok (.n c) out => .ok c (putBack st ps out)
  | .exc c fs out => .exc c fs (putBack st ps out)
  | _ => .stuck
def cRunM (F : Fm) (st : ST) (ys : List SV) : Out MC :=
  match mkArgs st ys with
  | some (as, ps) => if ps.Nodup then cResM st ps (F as) else .stuck
  | none => .stuck
section
variable {G : Gd} {W : Wd} {st : ST} {σ : Sg} {H H' F' : Hp}
theorem run_inM {Wx : WX} {N : List PySem.Str} {F : Fm} {ys : List SV} {us : List V} {Q : VK} (r : R G W st σ H) (hs : RepSs G W σ ys us) (o : OutM G Wx W st σ H (cRunM F st ys) Q) :
    spC G N F us H Q (fun cls d H' => Wx cls d σ H') := by
  unfold cRunM at o
  split at o
  · rename_i as ps e
    split at o
    · rename_i nd
      obtain ⟨ad, h1, h2, h3, h4, h5, h6⟩ := args_in r e hs
      have ndA := nodup_at r h1 h4 nd
      refine ⟨⟨W.F, ad⟩, as, h3, ⟨r.le, h2, ?_, ?_, ?_⟩, ?_⟩
      · have q := RepLoc.pad (N.length - as.length) (h6 [])
        unfold enter L2.start
        rw [h3] at q ⊢
        exact q
      · rw [own_enter]; exact ndA
      · intro a ha
        rw [own_enter] at ha
        exact r.fr a (h5 a ha)
      · have core : ∀ {W' : Wd} {H' : Hp} {out : List MC}, R G W' ⟨[], out⟩ [] H' → Step ad ⟨W.F, ad⟩ H W'.A W' H' →
            R G ⟨W'.F, W.A⟩ (putBack st ps out) σ H' ∧ own ⟨W'.F, W.A⟩ (putBack st ps out) σ = own W st σ ∧ Step (own W st σ) W H (own W st σ) ⟨W'.F, W.A⟩ H' := fun {W' H' out} r' s' => by
          have ea : W'.A = ad := s'.a
          have hn : ∀ a ∈ ad, W'.F a = none := fun a ha => r'.fr a (by unfold own; simp [owned, ea, ha])
          have nf : ∀ b, W'.F b = W.F b ∨ H b = none := fun b => by
            rcases s'.nf b with z | z | z
            · exact .inl z
            · exact .inr z
            · exact .inl ((hn b z).trans (r.fr b (h5 b z)).symm)
          have r0 : R G ⟨W'.F, W.A⟩ st σ (fun b => if b ∈ ad then H b else H' b) := by
            refine r.grow s'.f (fun b u z _ => ?_) (fun b u z => ?_) nf
            · show (if b ∈ ad then H b else H' b) = some u
              split
              · exact z
              · rename_i hb; exact s'.keep b u z hb
            · show (if b ∈ ad then H b else H' b) = some u
              split
              · rename_i hb; rw [hn b hb] at z; cases z
              · exact r'.le b u z
          have pa : Paired (AtP ⟨W'.F, W.A⟩ σ) ps ad := Paired.mono (fun q a z => by cases q <;> exact z) h1
          obtain ⟨p1, p2⟩ := R.puts r'.le (cs := out) r0 pa h4 nd (by have := r'.inh; rw [ea] at this; exact this) fun b hb => by
            show (if b ∈ ad then H b else H' b) = H' b
            rw [if_neg hb]
          refine ⟨p1, p2, ⟨s'.f, rfl, fun b => (nf b).imp_right .inl, fun b h => .inl h, fun b u z hb => s'.keep b u z fun h => hb (h5 b h)⟩⟩
        unfold OutFA
        cases ef : F as with
        | ok v out =>
          rw [ef] at o
          intro W' H' u r' s' k
          obtain ⟨c1, c2, c3⟩ := core r' s'
          cases v with
          | t p => exact (show False from o).elim
          | n c =>
            obtain ⟨a, rfl, m, na, fa, bo⟩ := k
            have ea : W'.A = ad := s'.a
            have ha : H a = none := by
              rcases bo with z | z
              · exact z
              · exact absurd (show a ∈ W'.A by rw [ea]; exact z) na
            have nown : a ∉ own ⟨W'.F, W.A⟩ (putBack st ps out) σ := by rw [c2]; exact r.notown ha
            exact o ⟨W'.F, W.A⟩ H' a c1 (by rw [c2]; exact c3) m nown fa (.inl ha)
        | exc c fs out =>
          rw [ef] at o
          intro W' H' d r' s' k
          obtain ⟨c1, c2, c3⟩ := core r' s'
          exact o ⟨W'.F, W.A⟩ H' d c1 (by rw [c2]; exact c3) k
        | stuck => rw [ef] at o; exact o.elim
    · exact o.elim
  · exact o.elim
end
def RunOkM (G : Gd) (X : Cx) (Wx : WX) (a : Addr) (Fc : List SV → Cm MC) : Prop :=
  ∀ (pn : List (Addr × Obj)) (s : Shared) (σ : Sg) (H : Hp) (Q : VK) (us : List Value) (vs : List V) (xs : List SV) (W : Wd) (st : ST), Inv X pn σ H s → R G W st σ H → RepSs G W σ xs vs → Vals vs us → OutM G Wx W st σ H (Fc xs st) Q →
    wpAny (model X.prog X.w) X.A (call (.ref a) us) (EP X pn σ Q) X.xe s
def fcDefM (n : Nat) (pl : Plan) (F : Fm) : List SV → Cm MC := fun xs st => if xs.length = n then cRunM F st (pickS pl xs) else .stuck
def PromM (G : Gd) (Wx : WX) (sp : Sp) (Fc : List SV → Cm MC) : Prop :=
  ∀ (W : Wd) (st : ST) (σ : Sg) (H : Hp) (Q : VK) (xs : List SV) (vs : List V), R G W st σ H → RepSs G W σ xs vs → OutM G Wx W st σ H (Fc xs st) Q → sp vs H Q fun cls d H' => Wx cls d σ H'
section
variable {G : Gd} {X : Cx} {Wx : WX} {k n c i : Nat} {f g q : Addr} {Fc : List SV → Cm MC} {F : Fm} {N : List PySem.Str} {pl : Plan} {x m : PySem.Str} {p pos apos sp_ : Pos} {e o : Expr} {es : List Expr} {fe fo : Cm SV} {fs : Cm (List SV)}
theorem PromM.def_ (hp : planOk pl = true) : PromM G Wx (fun vs H Q E => vs.length = n ∧ spC G N F (pickV pl vs) H Q E) (fcDefM n pl F) := by
  intro W st σ H Q xs vs r hs o
  unfold fcDefM at o
  split at o
  · rename_i hl
    have l : xs.length = vs.length := Paired.length hs
    exact ⟨by rw [← l]; exact hl, run_inM r (pick_rep hs hp) o⟩
  · exact o.elim
theorem RunOkM.of {sp : Sp} (hf : FnP X.prog X.w X.K X.mg X.base k f sp) (p : PromM G Wx sp Fc) (room : Room k X.A) (gd : X.A.guards = some []) (tk : Takes X Wx) : RunOkM G X Wx f Fc :=
  fun pn s σ H Q us vs xs W st I r hs rv o => run_fnP hf room gd tk I rv (p W st σ H Q xs vs r hs o)
def mCallF (Fc : List SV → Cm MC) (fs : Cm (List SV)) : Cm MC := fun st => (fs st).bind fun xs st1 => Fc xs st1
theorem callM_step {σ : Sg} {H : Hp} {Q : VK} (h : tM G Wx (mCallF Fc fs) σ H Q) : tL G Wx fs σ H fun vs H1 => ∃ W st xs, R G W st σ H1 ∧ RepSs G W σ xs vs ∧ OutM G Wx W st σ H1 (Fc xs st) Q :=
  let ⟨W, st, r, o⟩ := h
  tA_mono (tM_step (rel := RepSs G) r o) fun vs H1 ⟨W, st, xs, a, _, _, b, c⟩ => ⟨W, st, xs, a, b, c⟩
theorem cm_call (hk : PySem.W.keepIn X.K (.ref f) = true) (hr : RunOkM G X Wx f Fc) (hg : Gl X x) (hm : X.mg x = some (.ref f)) (ha : CA G X Wx (e :: es) fs) (hd : (x == ("__debug__" : PySem.Str)) = false := by decide)
    (he : starEach (e :: es) X.env = (false, eval e X.env) :: starEach es X.env := by rfl) (hpl : (backTo pos (starEach es X.env)).any (·.1) = false := by rfl) : CM G X Wx (.Call (.Name x p) (e :: es) [] pos) (mCallF Fc fs) := by
  refine ⟨⟨fun pn s σ H Q I h => ?_⟩⟩
  refine wpAny_Call_Name_kw (ld_glob I hg hm ?_ hd)
  refine PySem.W.callWith_K (h₀ := X.base) I.ok.mod.kin hk (thn (ha.pa.run pos pn s σ H _ I (callM_step h)) fun us s1 ⟨vs, H1, I1, r, W, st, xs, r1, q1, o⟩ => ⟨I1.kIn, ?_⟩) he hpl
  exact hr pn s1 σ H1 Q us vs xs W st I1 r1 q1 r o
theorem cm_call0 (hk : PySem.W.keepIn X.K (.ref f) = true) (hr : RunOkM G X Wx f Fc) (hg : Gl X x) (hm : X.mg x = some (.ref f)) (hd : (x == ("__debug__" : PySem.Str)) = false := by decide) : CM G X Wx (.Call (.Name x p) [] [] pos) (mCallF Fc cNil) := by
  refine ⟨⟨fun pn s σ H Q I ⟨W, st, r, o⟩ => ?_⟩⟩
  refine wpAny_Call_Name_kw (ld_glob I hg hm ?_ hd)
  exact PySem.W.callWith_K0 I.kIn hk (hr pn s σ H Q [] [] [] W st I r .nil .nil o)
end
end Cl
set_option Elab.async false
set_option linter.all false
set_option maxRecDepth 100000
set_option maxHeartbeats 4000000
namespace Cl
open PySem PySem.Spec PyProof.Rows L2

theorem meets_enumT (t : Addr) (items : Array Value) :
    Meets (Builtin.«enumerate.__new__» ⟨[.type "enumerate", .ref t], []⟩) (fun _ R s => s.heap.IsTuple t items ∧
      R (.ok (.ret (.ref (s.heap.push { cls := .type "tuple_iterator", data := .fields #[.ref t, .int 0 0] }).objs.size)))
        { s with heap := (s.heap.push { cls := .type "tuple_iterator", data := .fields #[.ref t, .int 0 0] }).push { cls := .type "enumerate", data := .fields #[.none, .bool false, .ref s.heap.objs.size, rawInt 0, .none, .none] } }) :=
  .of_wp fun prog w A R s h => by
    obtain ⟨hp, g, d, tk, os⟩ := s; obtain ⟨h1, h⟩ := h
    have hsub := sub_enumerate
    have q1 : ∀ {A' : Around} {E : Value → Shared → Prop} {Q : Value → Shared → Prop}, Q (.ref hp.objs.size) ⟨hp.push { cls := .type "tuple_iterator", data := .fields #[.ref t, .int 0 0] }, g, d, tk, os⟩ → wpAny (model prog w) A' (pyIter (.ref t)) Q E ⟨hp, g, d, tk, os⟩ :=
      fun q => (begins_tuple t items).iter prog w _ _ ⟨hp, g, d, tk, os⟩ _ h1 q
    wp_walk using q1
    refine wpAny_stack_any fun st => wpAny_pure ?_
    split
    · rename_i c _ _ _ _ _
      cases (c == Value.type "enumerate")
      · wp_walk using q1
        exact ⟨_, rfl, h⟩
      · wp_walk using q1
        exact ⟨_, rfl, h⟩
    · wp_walk using q1
      exact ⟨_, rfl, h⟩
section
variable {prog : Program} {w : World} {A : Around} {E : Value → Shared → Prop} {s : Shared}
theorem call_enumT {t : Addr} {items : Array Value} {Q : Value → Shared → Prop} (h1 : s.heap.IsTuple t items)
    (h : ∀ h', IsEnum h' (s.heap.objs.size + 1) s.heap.objs.size 0 .none → h'.IsTupleIter s.heap.objs.size t 0 → (∀ b o, s.heap.get? b = some o → h'.get? b = some o) → Q (.ref (s.heap.objs.size + 1)) { s with heap := h' }) :
    wpAny (model prog w) A (call (.type "enumerate") [.ref t]) Q E s := by
  refine callType_new F.called_enumerate (by decide) (F.typeCall_enumerate_1 _) (F.newCall_enumerate_1 _) (fun obj => F.args_object_init_2 obj _) F.entry_enumerate_new
    (meets_enumT t items) ⟨h1, ?_⟩
  have hz : (s.heap.push { cls := .type "tuple_iterator", data := .fields #[.ref t, .int 0 0] }).objs.size = s.heap.objs.size + 1 := Heap.size_push ..
  show _ ∧ _
  rw [hz]
  have he : IsEnum ((s.heap.push { cls := .type "tuple_iterator", data := .fields #[.ref t, .int 0 0] }).push { cls := .type "enumerate", data := .fields #[.none, .bool false, .ref s.heap.objs.size, rawInt 0, .none, .none] }) (s.heap.objs.size + 1) s.heap.objs.size 0 .none := by
    have := Heap.get?_push_size (s.heap.push { cls := .type "tuple_iterator", data := .fields #[.ref t, .int 0 0] }) (o := { cls := .type "enumerate", data := .fields #[.none, .bool false, .ref s.heap.objs.size, rawInt 0, .none, .none] }) rfl
    rw [hz] at this; exact this
  exact ⟨⟨_, he, rfl⟩, h _ he ⟨_, Heap.get?_push_of_some _ (Heap.get?_push_size _ rfl), rfl, rfl⟩ fun b o x => Heap.get?_push_of_some _ (Heap.get?_push_of_some _ x)⟩
end
def IteT (K : PySem.W.Frag) (a : Addr) : It :=
  ⟨fun i H => ∃ (xs : List V) (x : V), SqT K H a xs ∧ xs[i]? = some x, fun i H v H' => ∃ T x, v = .ref T ∧ H T = none ∧ H' = upd H T (.tup [.int (i : Nat), x]) ∧ ∀ xs, SqT K H a xs → xs[i]? = some x, fun i H => ∃ xs : List V, SqT K H a xs ∧ xs.length ≤ i⟩
theorem turn_enumT {P : Program} {w : World} {K : PySem.W.Frag} {elts : List Expr} {kk : Nat} {tpos : Pos} (a e it : Addr) :
    Turn P w K (.Tuple elts kk tpos) (IteT K a) [e, it] e (fun i h => (∃ old, IsEnum h e it ((i : Nat) : Int) old) ∧ h.IsTupleIter it a i ∧ e ≠ it ∧ a ≠ it) where
  mem := by simp
  obj := fun i h st b hb => by
    obtain ⟨⟨old, he⟩, ⟨o, ho, hc, hd⟩, _⟩ := st
    have e' : b = e ∨ b = it := by simpa using hb
    rcases e' with z | z
    · rw [z]; exact ⟨_, he, fun v q => nomatch q⟩
    · rw [z]; exact ⟨o, ho, fun v q => by rw [hd] at q; cases q⟩
  keep := fun i h h' st k => let ⟨⟨old, he⟩, hi, hne⟩ := st; ⟨⟨old, k e (by simp) _ he⟩, hi.at fun o q => k it (by simp) o q, hne⟩
  item := by
    intro X hP hw hK hc i pins s σ H E I hf st hg
    subst hP hw hK
    obtain ⟨⟨old, he⟩, hit, hne, hni⟩ := st
    obtain ⟨xs, x, hq, hx⟩ := hg
    obtain ⟨its, rv, p, hz⟩ := I.tuple hq
    obtain ⟨u, hu, ru⟩ := rv.get hx
    have hel : e < s.heap.objs.size := Heap.lt_size he
    have hil : it < s.heap.objs.size := by obtain ⟨_, q, _⟩ := hit; exact Heap.lt_size q
    have hlt : i < its.toArray.size := by
      have := List.getElem?_eq_some_iff.mp hu
      simpa using this.1
    have hae : e ∉ [it, a] := by
      intro z
      have e' : e = it ∨ e = a := by simpa using z
      rcases e' with z | z
      · exact hne z
      · subst z
        obtain ⟨o, ho, hc, n, hd⟩ := p
        rw [he] at ho; cases ho
        injection hc with q
        exact absurd q (by decide)
    refine wpAny_pyNext_enum_itemD (Draws.tuple (show X.A.in1.handled = none from I.ok.hd hc) it a hni its.toArray) he ⟨hit, p⟩ hlt hne hae fun y h' tk hP ho hit' hT hsz hk => ?_
    have ey : y = u := by
      have q : its.toArray[i]? = some u := by simpa using hu
      rw [q] at hP; cases hP; rfl
    subst ey
    refine ⟨_, rfl, wpAny_letOwnedTupleGo_enum (s := { s with heap := h', toks := tk + 1 }) ho fun h'' he' sb => ?_⟩
    have hT2 : h''.get? s.heap.objs.size = some { cls := .type "tuple", data := .seq #[.int i tk, y] } := (sb.2 _ (Nat.ne_of_gt hel)).trans hT
    have new : ObjOk X.prog X.w (upd H s.heap.objs.size (.tup [.int (i : Nat), x])) h'' s.heap.objs.size (.tup [.int (i : Nat), x]) :=
      ⟨by show 2 ≤ sizeLine; decide, [.int i tk, y], .cons ⟨_, rfl⟩ (.cons ru .nil), ⟨_, hT2, rfl, _, rfl⟩⟩
    have I1 : Inv X pins σ (upd H s.heap.objs.size (.tup [.int (i : Nat), x])) { s with heap := h'', toks := tk + 1 } :=
      I.turnedNew (ch := [e, it]) (fun b ob hb q => (sb.2 b (fun z => hb (by simp [z]))).trans (hk b ob (fun z => hb (by simp [z])) (fun z => hb (by simp [z])) q)) hf (Nat.le_refl _) new
    refine ⟨.ref s.heap.objs.size, _, I1, rfl, ⟨_, x, rfl, I.hok.fresh (Nat.le_refl _), rfl, fun ys hy => by rw [I.tuple_inj hy hq]; exact hx⟩, ⟨⟨y, ?_⟩, hit'.1.at fun o q => (sb.2 it (Ne.symm hne)).trans q, hne, hni⟩, fun b hb => ?_⟩
    · have e1 : ((i + 1 : Nat) : Int) = (i : Int) + 1 := by omega
      rw [e1]; exact he'
    · have hb' : b < s.heap.objs.size := by
        have e' : b = e ∨ b = it := by simpa using hb
        rcases e' with z | z
        · rw [z]; exact hel
        · rw [z]; exact hil
      rw [upd_ne (Nat.ne_of_lt hb')]
      exact (hf b hb).1
  done := by
    intro X hP hw hK hc i pins s σ H E I hf st hg
    subst hP hw hK
    obtain ⟨⟨old, he⟩, hit, hne, hni⟩ := st
    obtain ⟨xs, hq, hx⟩ := hg
    obtain ⟨its, rv, p, hz⟩ := I.tuple hq
    obtain ⟨f0, f1, f2, f3, f4, f5⟩ := hf it (by simp)
    have hl := rv.length
    have hT : s.TypeIs (.ref e) "enumerate" := ⟨_, he, rfl⟩
    unfold pyNext
    refine wpAny_bind (wpAny_attempt (wpAny_callSpecial?_slot (name := Str.ofString "__next__") hT F.slot_enumerate_next
      (wpAny_call_entry F.slot_enumerate_next hT F.entry_enumerate_next ?_ (F.args_enumerate_next_1 _))))
    show wpAny _ _ (field (.ref e) 2 >>= _) _ _ _
    refine wpAny_bind (wpAny_field he rfl (x := .ref it) rfl ?_)
    refine wpAny_bind (wpAny_nextOf_tuple_end (show X.A.in1.handled = none from I.ok.hd hc) hit p (by simp; omega) fun h' x he' hx' => ?_)
    obtain ⟨o, ho, hc'⟩ := hx'
    refine wpAny_bind (wpAny_isInstance (T := "StopIteration") (b := true) ⟨o, ho, hc'⟩ isSubtype_stop ?_)
    exact wpAny_pure ⟨rfl, I.turned (t' := s.toks) (fun b o hb q => he' b o hb q) f0 f1 f3 f4 f5⟩
  self := fun A i s Q E st h => let ⟨⟨_, he⟩, _⟩ := st; wpAny_pyIter_enum he h
def iEnumT (K : PySem.W.Frag) (ta : TA) : TI := fun σ H R => ta σ H fun vs H1 => ∃ a xs, vs = [.ref a] ∧ SqT K H1 a xs ∧ R (IteT K a) H1
theorem pi_enumT {X : Cx} {e : Expr} {ta : TA} {p pos tpos : Pos} {elts : List Expr} {kk : Nat} (hg : Gl X "enumerate") (hm : X.mg "enumerate" = none) (ha : PA X [e] ta) (hs : starEach [e] X.env = [(false, eval e X.env)] := by rfl) :
    PI X (.Tuple elts kk tpos) (.Call (.Name "enumerate" p) [e] [] pos) (iEnumT X.K ta) := by
  refine ⟨fun pins s σ H R I h => ?_⟩
  refine Call_ (ld_blt I hg hm boot_enumerate (PyProof.Rows.callWith_type1 (thn (ha.run pos pins s σ H _ I h) fun us s1 ⟨vs, H1, I1, r1, q1⟩ => ?_) hs rfl))
  obtain ⟨a, xs, ex, hq, q⟩ := q1
  subst ex
  cases r1 with
  | cons r rr =>
    cases rr
    cases r
    obtain ⟨its, rv, p', hz⟩ := I1.tuple hq
    have hal : a < s1.heap.objs.size := by obtain ⟨o, e, _⟩ := p'; exact Heap.lt_size e
    refine call_enumT p' fun h' he hit hk => wpAny_pyIter_enum he ?_
    have I2 : Inv X pins σ H1 { s1 with heap := h' } := I1.kept (t' := s1.toks) hk
    refine ⟨s1.heap.objs.size + 1, [s1.heap.objs.size + 1, s1.heap.objs.size], _, _, H1, rfl, I2, turn_enumT a (s1.heap.objs.size + 1) s1.heap.objs.size, ⟨⟨.none, he⟩, hit, Nat.succ_ne_self _, Nat.ne_of_lt hal⟩, fun b hb => ?_, q⟩
    have e' : b = s1.heap.objs.size + 1 ∨ b = s1.heap.objs.size := by simpa using hb
    have hle : s1.heap.objs.size ≤ b := by
      rcases e' with z | z
      · rw [z]; exact Nat.le_add_right _ _
      · rw [z]; exact Nat.le_refl _
    exact I1.fpOk hle (I1.hok.fresh hle)
section
variable {G : Gd} {X : Cx} {Wx : WX} {e : Expr} {p pos : Pos} {fs : Cm (List SV)}
theorem walk_enumT {W0 : Wd} {K : PySem.W.Frag} {a : Addr} {ps : List PV} {vs : List V} (h : W0.F a = some (.tup vs)) (l : RepL G W0.F ps vs) : Walk G (IteT K a) W0 (enumL 0 ps) := by
  refine ⟨fun W st σ H i p r s e => ?_, fun W st σ H r s => ⟨vs, .inl (.inl (r.le _ _ (s _ _ h))), by rw [enumL_length, l.length]; exact Nat.le_refl _⟩⟩
  obtain ⟨q, e0, rfl⟩ := enumL_get e
  obtain ⟨u, e1, k⟩ := l.get e0
  have hq : SqT K H a vs := .inl (.inl (r.le _ _ (s _ _ h)))
  refine ⟨⟨vs, u, hq, e1⟩, fun x H' ⟨T, y, ex, hT, eH, hx⟩ => ?_⟩
  subst eH; subst ex
  have e2 := hx vs hq
  rw [e1] at e2
  cases e2
  refine ⟨_, r.new hT, r.step_new hT, .tup upd_same ?_⟩
  have f := (r.step_new (o := .tup [.int (i : Nat), u]) hT).f
  rw [Nat.zero_add]
  exact .cons (.int _) (.cons ((k.mono s).mono f) .nil)
def cEnumT (fs : Cm (List SV)) : Cm (List PV) := fun st => (fs st).bind fun xs st1 => match xs with
  | [.t (.tup ps)] => .ok (enumL 0 ps) st1
  | _ => .stuck
theorem ci_enumT {elts : List Expr} {kk : Nat} {tpos : Pos} (hg : Gl X "enumerate") (hm : X.mg "enumerate" = none) (ha : CA G X Wx [e] fs) (hs : starEach [e] X.env = [(false, eval e X.env)] := by rfl) :
    CI G X Wx (.Tuple elts kk tpos) (.Call (.Name "enumerate" p) [e] [] pos) (cEnumT fs) := by
  refine ⟨pi_imp (pi_enumT hg hm ha.pa hs) fun σ H Rr q => ?_⟩
  refine tA_mono (tI_step (rel := RepSs G) q) fun u H1 ⟨W1, st1, v, r1, q1, o⟩ => ?_
  split at o
  · cases q1 with | cons k l => cases l; cases k with | tup h l => exact ⟨_, _, rfl, .inl (.inl (r1.le _ _ h)), o W1 H1 _ r1 Step.refl (walk_enumT h l)⟩
  · exact o.elim
end
end Cl
set_option Elab.async false
set_option linter.all false
set_option maxRecDepth 100000
set_option maxHeartbeats 4000000
namespace Cl
open PySem PySem.Spec PyProof.Rows L2 StX ClX

section
variable {G : Gd} {X : Cx} {Wx : WX} {tg e : Expr} {es : List Expr} {fe : Cm SV} {fs : Cm (List SV)} {p pos : Pos}
def cIt (fe : Cm SV) : Cm (List PV) := fun st => (fe st).bind fun x st1 => match x with
  | .t (.lst ps) => .ok ps st1
  | .t (.tup ps) => .ok ps st1
  | _ => .stuck
theorem ci_seq (h : CE G X Wx e fe) : CI G X Wx tg e (cIt fe) := by
  have h1 := (ci_lst (tg := tg) h).pi
  have h2 := (ci_tup (tg := tg) h).pi
  refine ⟨⟨fun pn s σ H Rr I ⟨W, st, r, o⟩ => ?_⟩⟩
  unfold cIt at o
  cases ef : fe st with
  | stuck => rw [ef] at o; exact o.elim
  | exc c fs st1 =>
    refine h1.run pn s σ H Rr I ⟨W, st, r, ?_⟩
    unfold cItL
    rw [ef] at o ⊢
    exact o
  | ok x st1 =>
    rw [ef] at o
    dsimp only [Out.bind] at o
    split at o
    · refine h1.run pn s σ H Rr I ⟨W, st, r, ?_⟩
      unfold cItL
      rw [ef]
      exact o
    · refine h2.run pn s σ H Rr I ⟨W, st, r, ?_⟩
      unfold cItT
      rw [ef]
      exact o
    · exact o.elim
def cEn (fs : Cm (List SV)) : Cm (List PV) := fun st => (fs st).bind fun xs st1 => match xs with
  | [.t (.lst ps)] => .ok (enumL 0 ps) st1
  | [.t (.tup ps)] => .ok (enumL 0 ps) st1
  | _ => .stuck
theorem ci_en {elts : List Expr} {kk : Nat} {tpos : Pos} (hg : Gl X "enumerate") (hm : X.mg "enumerate" = none) (ha : CA G X Wx [e] fs) (hs : starEach [e] X.env = [(false, eval e X.env)] := by rfl) :
    CI G X Wx (.Tuple elts kk tpos) (.Call (.Name "enumerate" p) [e] [] pos) (cEn fs) := by
  have h1 := (ci_enum (elts := elts) (kk := kk) (tpos := tpos) (p := p) (pos := pos) hg hm ha hs).pi
  have h2 := (ci_enumT (elts := elts) (kk := kk) (tpos := tpos) (p := p) (pos := pos) hg hm ha hs).pi
  refine ⟨⟨fun pn s σ H Rr I ⟨W, st, r, o⟩ => ?_⟩⟩
  unfold cEn at o
  cases ef : fs st with
  | stuck => rw [ef] at o; exact o.elim
  | exc c fs st1 =>
    refine h1.run pn s σ H Rr I ⟨W, st, r, ?_⟩
    unfold cEnum
    rw [ef] at o ⊢
    exact o
  | ok x st1 =>
    rw [ef] at o
    dsimp only [Out.bind] at o
    split at o
    · refine h1.run pn s σ H Rr I ⟨W, st, r, ?_⟩
      unfold cEnum
      rw [ef]
      exact o
    · refine h2.run pn s σ H Rr I ⟨W, st, r, ?_⟩
      unfold cEnumT
      rw [ef]
      exact o
    · exact o.elim
end

theorem rev_pick (items : Array Value) : ((List.range items.size).filterMap fun (k : Nat) => items[(((items.size : Int) - 1) + (k : Int) * (-1)).toNat]?).toArray = items.toList.reverse.toArray := by
  have e : (fun (k : Nat) => items[(((items.size : Int) - 1) + (k : Int) * (-1)).toNat]?) = (items[·]?) ∘ fun k => items.size - 1 - k := by
    funext k
    have e1 : (((items.size : Int) - 1) + (k : Int) * (-1)).toNat = items.size - 1 - k := by omega
    simp only [Function.comp, e1]
  rw [e, ← List.filterMap_map, PySem.W.krv_range, List.filterMap_reverse, PySem.W.krv_all]
section
variable {prog : Program} {w : World} {A : Around} {E : Value → Shared → Prop} {s : Shared}
theorem sliceApplied_rev {sl : Addr} {vk : Value} {n : Nat} {Q : Int × Int × Nat → Shared → Prop} (hs : s.heap.IsSliceOf sl .none .none vk) (pk : IsPart vk (some (-1))) (h : Q ((n : Int) - 1, -1, n) s) :
    wpAny (model prog w) A (Builtin.Slice.sliceApplied (.ref sl) (pure (n : Int))) Q E s := by
  obtain ⟨os, hos, hcs, hds⟩ := id hs
  unfold Builtin.Slice.sliceApplied Builtin.Slice.sliceFields
  refine wpAny_bind (wpAny_bind (wpAny_field hos hds (x := .none) rfl (wpAny_bind (wpAny_field hos hds (x := .none) rfl (wpAny_bind (wpAny_field hos hds (x := vk) rfl (wpAny_pure ?_)))))))
  refine wpAny_bind (HT.slicePart_ pk ?_)
  show wpAny _ _ (if ((-1 : Int) == 0) = true then _ else _) _ _ s
  rw [if_neg (by decide)]
  refine wpAny_bind (HT.slicePart_ .none (wpAny_bind (HT.slicePart_ .none (wpAny_bind (wpAny_pure ?_)))))
  have e1 : Builtin.Slice.sliceAdjust none none (-1) (n : Int) = ((n : Int) - 1, -1) := rfl
  have e2 : Builtin.Slice.slicePlaces ((n : Int) - 1) (-1) (-1) = n := by
    unfold Builtin.Slice.slicePlaces
    rw [if_neg (by decide)]
    split
    · rw [show (-(-1) : Int) = 1 by decide, Int.ediv_one]; omega
    · omega
  show wpAny _ _ (match Builtin.Slice.sliceAdjust none none (-1) (n : Int) with | (lo, hi) => pure (lo, (-1 : Int), Builtin.Slice.slicePlaces lo hi (-1))) _ _ s
  rw [e1]
  show wpAny _ _ (pure ((n : Int) - 1, (-1 : Int), Builtin.Slice.slicePlaces ((n : Int) - 1) (-1) (-1))) _ _ s
  rw [e2]
  exact wpAny_pure h
theorem getItem_tuple_rev {t sl : Addr} {items : Array Value} {vk : Value} {Q : Value → Shared → Prop} (ht : IsTup s.heap t items) (hs : s.heap.IsSliceOf sl .none .none vk) (pk : IsPart vk (some (-1)))
    (h : Q (.ref s.heap.objs.size) { s with heap := s.heap.push { cls := .type "tuple", data := .seq items.toList.reverse.toArray } })
    (hsz : items.size ≤ sizeLine) : wpAny (model prog w) A (getItem (.ref t) (.ref sl)) Q E s := by
  have htake : sizeOk (.seq items.toList.reverse.toArray) := by
    show items.toList.reverse.toArray.size ≤ sizeLine
    rw [List.size_toArray, List.length_reverse, Array.length_toList]
    exact hsz
  obtain ⟨os, hos, hcs, hds⟩ := id hs
  have hTs : s.TypeIs (.ref sl) "slice" := ⟨os, hos, hcs⟩
  unfold getItem
  try with_reducible refine wpAny_holding ?_
  first | refine wpAny_bind (wpAny_pure ?_) | skip
  refine wpAny_bind (wpAny_sequenceKey ht.typeIs (by decide) ?_)
  refine wpAny_bind (wpAny_callSpecial?_slot (name := Str.ofString "__getitem__") ht.typeIs PyProof.Rows.slot_tuple_getitem
    (wpAny_call_entry PyProof.Rows.slot_tuple_getitem ht.typeIs entry_tuple_getitem ?_ (args_tuple_getitem _ _)))
  show wpAny _ _ (Builtin.Tuple.tupleItemsOf (.ref t) >>= _) _ _ s
  refine wpAny_bind (tupleItemsOf_ ht ?_)
  refine wpAny_bind (wpAny_typeOf hTs ?_)
  rw [if_pos (by decide)]
  refine wpAny_bind (sliceApplied_rev hs pk ?_)
  have hno : ¬ ((((items.size : Int) - 1) == 0 && (-1 : Int) == 1 && items.size == items.size) = true) := by
    intro q
    rw [Bool.and_eq_true, Bool.and_eq_true] at q
    exact absurd q.1.2 (by decide)
  show wpAny _ _ (if (((items.size : Int) - 1) == 0 && (-1 : Int) == 1 && items.size == items.size) = true then _ else _) _ _ s
  rw [if_neg hno, rev_pick]
  first
    | exact wpAny_bind (m := Builtin.Tuple.tupleExact _) (wpAny_newObj_type (wpAny_pure ⟨_, rfl, wpAny_pure h⟩) htake)
    | exact wpAny_bind (m := Builtin.Tuple.tupleExact _) (wpAny_newObj_type (wpAny_bind (wpAny_pure (wpAny_pure ⟨_, rfl, wpAny_pure h⟩))) htake)
    | exact wpAny_bind (wpAny_bind (m := Builtin.Tuple.tupleExact _) (wpAny_newObj_type (wpAny_pure (wpAny_pure ⟨_, rfl, wpAny_pure h⟩)) htake))
    | exact wpAny_bind (wpAny_bind (m := Builtin.Tuple.tupleExact _) (wpAny_newObj_type (wpAny_pure ⟨_, rfl, wpAny_pure h⟩) htake))
end
section
variable {X : Cx}
def tRevT (K : PySem.W.Frag) (te : TE) : TE := fun σ H Q => te σ H fun x H1 => ∃ a xs, x = .ref a ∧ SqT K H1 a xs ∧ ∀ p, H1 p = none → Q (.ref p) (upd H1 p (.tup xs.reverse))
theorem pe_revT {e : Expr} {te : TE} {k : Nat} {p1 p2 p3 pos : Pos} (he : PE X e te) : PE X (.Subscript e (.Slice none none (some (.UnaryOp .USub (.Constant (.int 1) k p1) p2)) p3) pos) (tRevT X.K te) := by
  refine ⟨fun pins s σ H Q I h => ?_⟩
  refine Subscript_ (thn (he.run pins s σ H _ I h) fun v s1 ⟨x, H1, I1, r1, q1⟩ => ?_)
  obtain ⟨a, xs, ex, hx, q⟩ := q1
  subst ex
  cases r1
  have hst : PO X (some (.UnaryOp .USub (.Constant (.int 1) k p1) p2)) (tPart (tUn (rU fun i => .int (-i)) (tC (.int 1)))) := po_some (pe_un un_neg pe_int)
  refine wpAny_Slice (thn (po_none.run pins s1 σ H1 (fun o H2 => o = none ∧ H2 = H1) I1 ⟨rfl, rfl⟩) fun vl s2 ⟨l, H2, I2, pl, el, e2⟩ => ?_)
  subst el e2
  refine thn (po_none.run pins s2 σ H2 (fun o H3 => o = none ∧ H3 = H2) I2 ⟨rfl, rfl⟩) fun vu s3 ⟨u, H3, I3, pu, eu, e3⟩ => ?_
  subst eu e3
  refine thn (hst.run pins s3 σ H3 (fun o H4 => o = some (-1) ∧ H4 = H3) I3 ⟨1, rfl, -1, rfl, rfl, rfl⟩) fun vs s4 ⟨o, H4, I4, ps, eo, e4⟩ => ?_
  subst eo e4
  cases pl
  cases pu
  have I5 : Inv X pins σ H4 { s4 with heap := s4.heap.push { cls := .type "slice", data := .fields #[.none, .none, vs] } } := I4.kept (t' := s4.toks) fun b ob q => Heap.get?_push_of_some _ q
  obtain ⟨its, r, ht, hz⟩ := I5.tuple hx
  have hlen := r.length
  show wpAny (model X.prog X.w) X.A (subscriptTail e (.Slice none none (some (.UnaryOp .USub (.Constant (.int 1) k p1) p2)) p3) (.ref a) (.ref s4.heap.objs.size)) (EP X pins σ Q) X.xe { s4 with heap := s4.heap.push { cls := .type "slice", data := .fields #[.none, .none, vs] } }
  refine tail_any (ops := [.ref a, .ref s4.heap.objs.size]) ht.typeIs (PyProof.Rows.slot_tuple_getitem.lookup) ?_ (by with_unfolding_all rfl)
  refine getItem_tuple_rev ht (Heap.IsSliceOf.new _ .none .none vs) ps ?_ (by rw [List.size_toArray]; omega)
  refine ⟨.ref _, _, I5.laid (t' := s4.toks) (o := .tup xs.reverse) (fun b ob q => Heap.get?_push_of_some _ q) (Nat.le_refl _) ?_, rfl, q _ (I5.hok.fresh (Nat.le_refl _))⟩
  exact ⟨by rw [List.length_reverse]; exact hz, _, r.reverse, IsTup.new _ _⟩
end
section
variable {G : Gd} {X : Cx} {Wx : WX} {e : Expr} {fe : Cm SV}
def cRev (fe : Cm SV) : Cm SV := fun st => (fe st).bind fun x st1 => match view st1 x with
  | some (.lst ps) => .ok (.t (.lst ps.reverse)) st1
  | some (.tup ps) => .ok (.t (.tup ps.reverse)) st1
  | _ => .stuck
theorem pe_or_ {X : Cx} {e : Expr} {t t' : TE} (h : PE X e t) (h' : PE X e t') : PE X e (fun σ H Q => t σ H Q ∨ t' σ H Q) :=
  ⟨fun pn s σ H Q I q => q.elim (h.run pn s σ H Q I) (h'.run pn s σ H Q I)⟩
theorem ce_rev {k : Nat} {p1 p2 p3 pos : Pos} (he : CE G X Wx e fe) : CE G X Wx (.Subscript e (.Slice none none (some (.UnaryOp .USub (.Constant (.int 1) k p1) p2)) p3) pos) (cRev fe) := by
  refine ⟨pe_imp (pe_or_ (pe_revL he.pe) (pe_revT he.pe)) fun σ H Q ⟨W, st, r, o⟩ => ?_⟩
  unfold cRev at o
  cases ef : fe st with
  | stuck => rw [ef] at o; exact o.elim
  | exc c fs st1 =>
    rw [ef] at o
    exact .inl ⟨W, st, r, by rw [ef]; exact o⟩
  | ok x st1 =>
    rw [ef] at o
    dsimp only [Out.bind] at o
    split at o
    · rename_i ps hv
      refine .inl ⟨W, st, r, ?_⟩
      rw [ef]
      intro W1 H1 u r1 s1 q1
      obtain ⟨a, vs, rfl, d, l⟩ := r1.view q1 hv
      exact ⟨a, vs, rfl, .inl (.inl d), fun p hp => Gv.lst (W := W1) (xs := ps.reverse) (OutA.from (rel := RepS G) (Wx := Wx) (α := SV) (o := .ok (.t (.lst ps.reverse)) st1) o s1) r1 l.reverse p hp⟩
    · rename_i ps hv
      refine .inr ⟨W, st, r, ?_⟩
      rw [ef]
      intro W1 H1 u r1 s1 q1
      obtain ⟨a, vs, rfl, d, l⟩ := r1.view q1 hv
      exact ⟨a, vs, rfl, .inl (.inl (r1.le _ _ d)), fun p hp => Gv.tup (W := W1) (xs := ps.reverse) (OutA.from (rel := RepS G) (Wx := Wx) (α := SV) (o := .ok (.t (.tup ps.reverse)) st1) o s1) r1 l.reverse p hp⟩
    · exact o.elim
end
end Cl
set_option Elab.async false
set_option linter.all false
set_option maxRecDepth 100000
set_option maxHeartbeats 4000000
namespace Cl
open PySem PySem.Spec PyProof.Rows L2 StX ClX
structure SMet (K : PySem.W.Frag) (C : Addr) (mc : Value) (m : PySem.Str) (p g : Addr) : Prop where
  at_ : PySem.W.findCls K (.ref C) mc m = some (.get (.builtin "staticmethod.__get__") (.ref p) .none (.ref C))
  rc : ∃ rest, PySem.W.recIn K p "staticmethod" = some (.ref g :: rest)
  kp : PySem.W.keepIn K (.ref g) = true
section
variable {G : Gd} {X : Cx} {Wx : WX} {k n : Nat} {f q : Addr} {m : PySem.Str} {p pos apos : Pos} {e o : Expr} {es : List Expr} {fe fo : Cm SV} {fs : Cm (List SV)} {pl : Sem Bool} {mc : Value} {Fc : List SV → Cm SV}
theorem ce_smeth (he : CE G X Wx o (cC (.fn n))) (r : CRead X.K (G.fn n) mc) (kc : SMet X.K (G.fn n) mc m q f) (hr : RunOk G X Wx f Fc) (ha : CA G X Wx (e :: es) fs)
    (hst : starEach (e :: es) X.env = (false, eval e X.env) :: starEach es X.env := by rfl) (hpl : (backTo pos (starEach es X.env)).any (·.1) = false := by rfl)
    (ht : eval (.Call (.Attribute o m apos) (e :: es) [] pos) X.env = (do
      let ov ← eval o X.env
      standAt apos.atName
      let (f, first) ← holding [ov] (getMethod ov m pl)
      callWith pos f first (backTo pos (starEach (e :: es) X.env)) (backToKw pos (keywordEach [] X.env))) := by rfl) : CE G X Wx (.Call (.Attribute o m apos) (e :: es) [] pos) (cCallF Fc fs) := by
  refine ⟨⟨fun pn s σ H Q I h => ?_⟩⟩
  have h1 : tE G Wx (cC (.fn n)) σ H fun v H1 => v = .ref (G.fn n) ∧ tL G Wx fs σ H1 fun vs H2 => ∃ W st xs, R G W st σ H2 ∧ RepSs G W σ xs vs ∧ OutE G Wx W st σ H2 (Fc xs st) Q := by
    obtain ⟨W, st, r0, o0⟩ := h
    refine ⟨W, st, r0, fun W' H' u' r' s' k' => ?_⟩
    cases k'
    exact ⟨rfl, callF_step ⟨W', st, r', OutA.from o0 s'⟩⟩
  refine PySem.W.methodCall_KW (pl := pl) (thn (he.pe.run pn s σ H _ I h1) fun u s1 ⟨v, H1, I1, rv, ev, q1⟩ => ?_) ht
  subst ev
  obtain rfl : u = Value.ref (G.fn n) := rv
  obtain ⟨rest, hp⟩ := kc.rc
  refine PySem.W.method_cls I1.kIn r.ga (PySem.W.cls_bind I1.kIn r.rd kc.at_ (wpAny_call (PySem.W.sm_get (s := { s1 with toks := s1.toks + 1 }) I1.kIn hp (PySem.W.handed_on rfl ?_))))
  have I2 : Inv X pn σ H1 { s1 with toks := s1.toks + 1 } := I1.tok _
  refine PySem.W.callWith_K (h₀ := X.base) I2.ok.mod.kin kc.kp (thn (ha.pa.run pos pn _ σ H1 _ I2 q1) fun us s2 ⟨vs, H2, I3, r3, W, st, xs, r4, q4, o4⟩ => ⟨I3.kIn, ?_⟩) hst hpl
  exact hr pn s2 σ H2 Q us vs xs W st I3 r4 q4 r3 o4
def cClV (n : Nat) (z : PV) (fo : Cm SV) : Cm SV := fun st => (fo st).bind fun x st1 => match x with
  | .t (.fn k) => if k = n then .ok (.t z) st1 else .stuck
  | _ => .stuck
theorem ce_clv {u : Value} {z : PV} {v : V} (he : CE G X Wx o fo) (r : CRead X.K (G.fn n) mc) (kv : CVal X.K (G.fn n) mc m v u) (hz : ∀ F, Rep G F z v) (hb : attributeBase o m X.env (eval o X.env) = eval o X.env := by rfl) : CE G X Wx (.Attribute o m pos) (cClV n z fo) := by
  refine ⟨pe_imp (pe_cval he.pe hb) fun σ H Q q => ?_⟩
  refine tA_mono (tA_seq (rel := RepS G) (rel' := RepS G) q) fun u1 H1 ⟨W1, st1, x, r1, q1, o1⟩ => ?_
  split at o1
  · split at o1
    · rename_i hk
      subst hk
      cases q1
      exact ⟨_, mc, v, u, rfl, r, kv, o1 W1 H1 v r1 Step.refl (hz _)⟩
    · exact o1.elim
  · exact o1.elim

def putPK (kvs : List (PV × PV)) (k v : PV) : List (PV × PV) :=
  if (kvs.any fun kv => decide (keyOf kv.1 = keyOf k)) = true then kvs.map (fun kv => if keyOf kv.1 = keyOf k then (kv.1, v) else kv) else kvs ++ [(k, v)]
theorem RepK.any {F : Hp} {k : PV} {key : Key} (hk : keyOf k = some key) : ∀ {kvs : List (PV × PV)} {hs : List (Key × V)}, RepK G F kvs hs → (kvs.any fun kv => decide (keyOf kv.1 = keyOf k)) = (hs.any fun kv => decide (kv.1 = key))
  | _, _, .nil => rfl
  | _, _, .cons (k := j) (key := kj) ej rj l => by
    rw [List.any_cons, List.any_cons, RepK.any hk l]
    have : decide (keyOf j = keyOf k) = decide (kj = key) := by
      rw [ej, hk]
      by_cases e : kj = key
      · subst e; simp
      · simp [e]
    show (decide (keyOf j = keyOf k) || _) = (decide (kj = key) || _)
    rw [this]
theorem RepK.mapPut {F : Hp} {k p : PV} {key : Key} {v : V} (hk : keyOf k = some key) (r : Rep G F p v) : ∀ {kvs : List (PV × PV)} {hs : List (Key × V)}, RepK G F kvs hs → RepK G F (kvs.map fun kv => if keyOf kv.1 = keyOf k then (kv.1, p) else kv) (hs.map fun kv => if kv.1 = key then (kv.1, v) else kv)
  | _, _, .nil => .nil
  | _, _, .cons (k := j) (key := kj) ej rj l => by
    rw [List.map_cons, List.map_cons]
    by_cases e : kj = key
    · subst e
      rw [if_pos (ej.trans hk.symm), if_pos rfl]
      exact .cons ej r (RepK.mapPut hk r l)
    · rw [if_neg (fun z => e (Option.some.inj (ej.symm.trans (z.trans hk)))), if_neg e]
      exact .cons ej rj (RepK.mapPut hk r l)
theorem RepK.app {F : Hp} : ∀ {kvs kvs' : List (PV × PV)} {hs hs' : List (Key × V)}, RepK G F kvs hs → RepK G F kvs' hs' → RepK G F (kvs ++ kvs') (hs ++ hs')
  | _, _, _, _, .nil, h => h
  | _, _, _, _, .cons e r l, h => .cons e r (RepK.app l h)
theorem putPK_rep {F : Hp} {k p : PV} {key : Key} {v : V} (hk : keyOf k = some key) (r : Rep G F p v) {kvs : List (PV × PV)} {hs : List (Key × V)} (l : RepK G F kvs hs) : RepK G F (putPK kvs k p) (putK hs key v) := by
  unfold putPK putK
  rw [RepK.any hk l]
  split
  · exact l.mapPut hk r
  · exact l.app (.cons hk r .nil)
def cPairs : List (Cm SV × Cm SV) → Cm (List (PV × PV))
  | [], st => .ok [] st
  | (fk, fv) :: r, st => (fk st).bind fun k st1 => (fv st1).bind fun v st2 => match k, v with
    | .t k, .t v => (cPairs r st2).bind fun ps st3 => .ok ((k, v) :: ps) st3
    | _, _ => .stuck
def okPs : List (PV × PV) → Bool
  | [] => true
  | (k, _) :: r => (keyOf k).isSome && okPs r
def mDct (l : List (Cm SV × Cm SV)) : Cm MC := fun st => (cPairs l st).bind fun ps st1 => if okPs ps && decide (ps.length ≤ 15) then .ok (.dct (ps.foldl (fun acc kv => putPK acc kv.1 kv.2) [])) st1 else .stuck
structure CPs (G : Gd) (X : Cx) (Wx : WX) (pos : Pos) (keys : List (Option Expr)) (values : List Expr) (l : List (Cm SV × Cm SV)) : Prop where
  ps : PPs X pos keys values (l.map fun x => (tE G Wx x.1, tE G Wx x.2))
theorem cps_nil : CPs G X Wx pos [] [] [] := ⟨pps_nil⟩
theorem cps_cons {a b : Expr} {ks : List (Option Expr)} {vs : List Expr} {fk fv : Cm SV} {l : List (Cm SV × Cm SV)} (ha : CE G X Wx a fk) (hb : CE G X Wx b fv) (hr : CPs G X Wx pos ks vs l) : CPs G X Wx pos (some a :: ks) (b :: vs) ((fk, fv) :: l) := ⟨pps_cons ha.pe hb.pe hr.ps⟩
theorem okPs_of : ∀ {ps : List (PV × PV)}, okPs ps = true → ∀ {W : Wd} {vs : List (V × V)}, Paired (fun p v => Rep G W.F p.1 v.1 ∧ Rep G W.F p.2 v.2) ps vs → ∃ kvs, vs = kvs.map (fun kv => (kV kv.1, kv.2)) ∧ RepK G W.F ps kvs
  | [], _, _, _, .nil => ⟨[], rfl, .nil⟩
  | (k, p) :: ps, h, _, _, .cons (b := v) r t => by
    unfold okPs at h
    obtain ⟨h1, h2⟩ := Bool.and_eq_true_iff.mp h
    obtain ⟨kvs, rfl, l⟩ := okPs_of h2 t
    obtain ⟨key, hk⟩ := Option.isSome_iff_exists.mp h1
    refine ⟨(key, v.2) :: kvs, ?_, .cons hk r.2 l⟩
    have : v.1 = kV key := by
      have r1 := r.1
      generalize v.1 = x at r1
      cases k with
      | int i => cases hk; cases r1; rfl
      | str x => cases hk; cases r1; rfl
      | _ => cases hk
    show v :: _ = (kV key, v.2) :: _
    rw [← this]
theorem foldPut_rep {F : Hp} : ∀ {ps : List (PV × PV)} {kvs : List (Key × V)} {acc : List (PV × PV)} {hs : List (Key × V)}, RepK G F ps kvs → RepK G F acc hs → RepK G F (ps.foldl (fun acc kv => putPK acc kv.1 kv.2) acc) (kvs.foldl (fun acc kv => putK acc kv.1 kv.2) hs)
  | _, _, _, _, .nil, h => h
  | _, _, _, _, .cons e r l, h => by
    rw [List.foldl_cons, List.foldl_cons]
    exact foldPut_rep l (putPK_rep e r h)
theorem pairs_step : ∀ {l : List (Cm SV × Cm SV)} {W : Wd} {st : ST} {σ : Sg} {H : Hp} {Q : List (V × V) → Hp → Prop}, R G W st σ H →
    (match cPairs l st with
      | .ok ps st' => ∀ W' H' vs, R G W' st' σ H' → Step (own W st σ) W H (own W' st' σ) W' H' → Paired (fun p v => Rep G W'.F p.1 v.1 ∧ Rep G W'.F p.2 v.2) ps vs → Q vs H'
      | .exc c fs st' => ∀ W' H' d, R G W' st' σ H' → Step (own W st σ) W H (own W' st' σ) W' H' → RepX G W' H' fs d → Wx (.ref (G.cls c)) (some d) σ H'
      | .stuck => False) → tPairs (l.map fun x => (tE G Wx x.1, tE G Wx x.2)) σ H Q
  | [], W, st, σ, H, Q, r, o => o W H [] r Step.refl .nil
  | (fk, fv) :: l, W, st, σ, H, Q, r, o => by
    refine ⟨W, st, r, ?_⟩
    unfold cPairs at o
    show OutA G Wx (RepS G) W st σ H (fk st) _
    cases ek : fk st with
    | stuck => rw [ek] at o; exact o
    | exc c fs st' => rw [ek] at o; exact o
    | ok k st1 =>
      rw [ek] at o
      dsimp only [Out.bind] at o
      intro W1 H1 u r1 s1 q1
      refine ⟨W1, st1, r1, ?_⟩
      show OutA G Wx (RepS G) W1 st1 σ H1 (fv st1) _
      cases ev : fv st1 with
      | stuck => rw [ev] at o; exact o
      | exc c fs st' => rw [ev] at o; exact fun W' H' d r' s' k' => o W' H' d r' (s1.trans s') k'
      | ok v st2 =>
        rw [ev] at o
        dsimp only at o
        intro W2 H2 u2 r2 s2 q2
        cases k with
        | pl _ => exact (show False from o).elim
        | t k =>
          cases v with
          | pl _ => exact (show False from o).elim
          | t v =>
            refine pairs_step (l := l) r2 ?_
            dsimp only at o
            cases ep : cPairs l st2 with
            | stuck => rw [ep] at o; exact o
            | exc c fs st' => rw [ep] at o; exact fun W' H' d r' s' k' => o W' H' d r' ((s1.trans s2).trans s') k'
            | ok ps st3 =>
              rw [ep] at o
              exact fun W' H' vs r' s' k' => o W' H' ((u, u2) :: vs) r' ((s1.trans s2).trans s') (.cons ⟨Rep.mono (s2.trans s').f q1, Rep.mono s'.f q2⟩ k')
theorem cm_dct {keys : List (Option Expr)} {values : List Expr} {l : List (Cm SV × Cm SV)} (h : CPs G X Wx pos keys values l) (hall : keys.all (·.isSome) = true := by rfl) (hl : keys.length = values.length := by rfl) (h0 : keys ≠ [] := by simp)
    (h15 : keys.length ≤ 15 := by decide) : CM G X Wx (.Dict keys values pos) (mDct l) := by
  refine ⟨pe_imp (pe_disp h.ps hall hl h0 h15) fun σ H Q ⟨W, st, r, o⟩ p hp => ?_⟩
  unfold mDct at o
  have r0 := r.laid (o := .dK []) hp
  have s0 := r.laid_step (o := .dK []) hp
  have hpo : p ∉ own W st σ := r.notown hp
  have hpf : W.F p = none := r.frno hp
  refine pairs_step r0 ?_
  cases ec : cPairs l st with
  | stuck => rw [ec] at o; exact o
  | exc c fs st' => rw [ec] at o; exact fun W' H' d r' s' k' => o W' H' d r' (s0.trans s') k'
  | ok ps st1 =>
    rw [ec] at o
    dsimp only [Out.bind] at o
    intro W1 H1 vs r1 s1 k1
    split at o
    · rename_i hk
      obtain ⟨k2, k3⟩ := Bool.and_eq_true_iff.mp hk
      obtain ⟨kvs, rfl, lk⟩ := okPs_of k2 k1
      have hH1 : H1 p = some (.dK []) := s1.keep p _ upd_same hpo
      have np : p ∉ own W1 st1 σ := fun z => by
        rcases s1.no p z with q | q
        · exact hpo q
        · rw [upd_same] at q; cases q
      have fp : W1.F p = none := by
        rcases s1.nf p with q | q | q
        · exact q.trans hpf
        · rw [upd_same] at q; cases q
        · exact absurd q hpo
      have hlen : ps.length = kvs.length := by
        have := Paired.length k1
        rw [List.length_map] at this
        exact this
      refine ⟨hH1, kvs, rfl, by rw [← hlen]; exact of_decide_eq_true k3, ?_⟩
      refine o W1 _ p (r1.updD np fp) ?_ ⟨_, upd_same, foldPut_rep lk .nil⟩ np fp (.inl hp)
      have S := s0.trans s1
      refine ⟨S.f, S.a, S.nf, S.no, fun b u e hb => ?_⟩
      have ne : b ≠ p := fun z => by rw [z, hp] at e; cases e
      rw [upd_ne ne]
      exact S.keep b u e hb
    · exact o.elim
def mDct0 : Cm MC := fun st => .ok (.dct []) st
theorem cm_dct0 : CM G X Wx (.Dict [] [] pos) mDct0 := ⟨pe_imp pe_dnewK fun σ H Q ⟨W, st, r, o⟩ => GvM.dct (xs := []) o r .nil⟩
end
end Cl
set_option Elab.async false
set_option linter.all false
set_option maxRecDepth 100000
set_option maxHeartbeats 4000000
namespace Cl
open PySem PySem.Spec PyProof.Rows L2 StX ClX

theorem law_callC {P : Program} {w : World} {K : PySem.W.Frag} {mg mb : PySem.Str → Option Value} {k : Nat} {fa a : Addr} {sp : Sp} {s₁ : Shared} {vs : List Value} {ns : List Int}
    (KX : K.In s₁.heap) (hns : s₁.heap.Ns mainGlobals mg) (hb : s₁.heap.Ns builtinsNs mb) (hbb : ∀ x : PySem.Str, x ≠ "__name__" → mb x = bootBuiltins x) (hlim : s₁.heap.NoLimit) (hg : s₁.gens = #[])
    (ha : s₁.heap.get? a = some { cls := .type "list", data := .seq vs.toArray }) (hi : IntsAre vs ns) (hl : ns.length ≤ sizeLine) (hr : Room k callerA) (nl : K.lookup a = none)
    (F : ∀ base : Heap, K.In base → base.Ns mainGlobals mg → FnP P w K mg base k fa sp)
    (hsp : ∀ (H : Hp) (o : Obj), (∀ b, b ≠ a → H b = none) → H a = some (.frz o (.lst (ns.map V.int))) → sp [.ref a] H (fun v _ => v = .bl true) fun _ _ _ => False) :
    codeAny (model P w) callerA (.call (.ref fa) ⟨[.ref a], []⟩) (fun r s' => r = .ok (.ret (.bool true)) ∧ OldK s₁.heap s'.heap ∧ s'.os = s₁.os ∧ AllBare s'.gens) s₁ := by
  have rv := vals_ints hi
  obtain ⟨H, hH⟩ : ∃ H : Hp, H = fun b => if b = a then some (.frz { cls := .type "list", data := .seq vs.toArray } (.lst (ns.map V.int))) else none := ⟨_, rfl⟩
  have Ha : H a = some (.frz { cls := .type "list", data := .seq vs.toArray } (.lst (ns.map V.int))) := by rw [hH]; exact if_pos rfl
  have Hn : ∀ b, b ≠ a → H b = none := fun b hb => by rw [hH]; exact if_neg hb
  have hok : HOk P w H s₁.heap := fun b u z => by
    by_cases hb : b = a
    · subst hb
      rw [Ha] at z; cases z
      exact ⟨ha, by rw [List.length_map]; exact hl, vs, _, rv, ha⟩
    · rw [Hn b hb] at z; cases z
  have noA : ∀ {b : Addr} {o : Obj} {es : Array DictEntry} {ep : Nat}, s₁.heap.get? b = some o → o.data = .dict es ep → H b = none := fun {b o es ep} e d => Hn b fun e' => by
    subst e'
    rw [ha] at e; cases e
    have d' : Data.seq vs.toArray _ = Data.dict es ep := d
    cases d'
  have nsK : ∀ {b : Addr} {m : PySem.Str → Option Value}, s₁.heap.Ns b m → (hidT s₁.heap H).Ns b m := fun {b m} ⟨o, es, ep, e, d, r⟩ => ⟨o, es, ep, hidT_get e (noA e d), d, r⟩
  have hKb : K.In (hidT s₁.heap H) := fun b o e => hidT_get (KX b o e) (Hn b fun e' => by subst e'; rw [nl] at e; cases e)
  have hM : Mod K mg (hidT s₁.heap H) := ⟨hKb, nsK hns, ⟨mb, nsK hb, hbb⟩, let ⟨mc, h1, h2⟩ := hlim; ⟨mc, nsK h1, h2⟩⟩
  have e0 : Env0 P w K mg (hidT s₁.heap H) callerA [] s₁ H := ⟨rfl, hM, fun b o e => of_hidT e, Nat.le_of_eq (hidT_size _ _), trivial, fun b hb => absurd (show b ∈ ([] : List Addr) from hb) (by simp), hok, .of_eq hg⟩
  refine codeAny_mono (F _ hKb (nsK hns) callerA [] s₁ H [.ref a] [.ref a] _ _ hr rfl e0 (.cons rfl .nil) (hsp H _ Hn Ha)) fun r s' h => ?_
  cases r with
  | error e => obtain ⟨_, _, _, _, _, _, _, _, _, _, _, _, w⟩ := h; exact w.elim
  | ok fl =>
    cases fl with
    | next => exact False.elim h
    | brk => exact False.elim h
    | cont => exact False.elim h
    | ret u =>
      obtain ⟨v, H', os, bare, un, hok', r', q⟩ := h
      have q' : v = .bl true := q
      subst q'
      obtain rfl : u = Value.bool true := r'
      refine ⟨rfl, OldK.of_keep fun b o e => ?_, os, bare⟩
      by_cases hb : b = a
      · subst hb
        have z2 := un.frzs b _ _ Ha
        obtain ⟨e1, _⟩ := hok b _ Ha
        obtain ⟨e2, _⟩ := hok' b _ z2
        rw [e] at e1; cases e1
        exact e2
      · exact un.keep b o e (Hn b hb) (by intro z; exact absurd (show b ∈ ([] : List Addr) from z) (by simp)) (by simp)
theorem walk_ofC {l : PySem.W.OpenLaw} {n k : Nat} {q : Program} {loose : List PySem.Str} {XP : (PySem.Str → Option Value) → Heap → Prop} {YP : World → Heap → Prop} {d : DefRec}
    (hn : l.most = some n) (hn2 : n ≤ sizeLine) (hdf : d.params.defaults = []) (hr : Room k callerA)
    (F : ∀ (w : World) (mg : PySem.Str → Option Value) (fa : Addr) (h : Heap), YP w h → h.Ns mainGlobals mg → mg d.name = some (.ref fa) →
      ∃ (K : PySem.W.Frag) (sp : Sp), K.In h ∧ (∀ (a : Addr) (o : Obj), K.lookup a = some o → o.cls ≠ .type "list") ∧
        (∀ (H : Hp) (a : Addr) (o : Obj) (ns : List Int), ns.length ≤ n → (∀ b, b ≠ a → H b = none) → H a = some (.frz o (.lst (ns.map V.int))) → sp [.ref a] H (fun v _ => v = .bl true) fun _ _ _ => False) ∧
        ∀ base : Heap, K.In base → base.Ns mainGlobals mg → FnP l.prog w K mg base k fa sp) :
    PySem.W.WalkO q loose XP YP l.row.toRowW d [] (fun f vs => PySem.call f vs) := by
  refine Att.attach_call hn hdf fun w s₀ s₁ mg mb fa o pm cd doc a vs ns G Y ho hd hcd hmg hobj hints hlen hg => ?_
  obtain ⟨K, sp, KX, nl, hsp, hF⟩ := F w mg fa _ Y G.T.g hmg
  refine law_callC KX G.T.g G.T.b G.T.builtins G.T.nolimit hg hobj hints (Nat.le_trans hlen hn2) hr ?_ hF fun H o h1 h2 => hsp H a o ns hlen h1 h2
  cases e : K.lookup a with
  | none => rfl
  | some o =>
    have e2 := KX a o e
    rw [hobj] at e2
    cases e2
    exact absurd rfl (nl a _ e)
theorem law_in {G : Gd} {N : List PySem.Str} {F : Fm} {ns : List Int} {a : Addr} {o : Obj} {H : Hp} (hF : ∃ out, F [.t (.scr ns)] = .ok (.t (.bl true)) out) (h1 : ∀ b, b ≠ a → H b = none) (h2 : H a = some (.frz o (.lst (ns.map V.int)))) :
    spC G N F [.ref a] H (fun v _ => v = .bl true) fun _ _ _ => False := by
  obtain ⟨out, hF⟩ := hF
  refine ⟨⟨H, []⟩, [.t (.scr ns)], rfl, ⟨Same.refl _, trivial, ?_, ?_, ?_⟩, ?_⟩
  · unfold enter L2.start
    exact RepLoc.pad (W := ⟨H, []⟩) (ls := slots 0 [.t (.scr ns)]) (vs := [some (V.ref a)]) (N.length - 1) ⟨Rep.scr h2, trivial⟩
  · rw [own_enter]; exact List.nodup_nil
  · rw [own_enter]; exact fun b hb => nomatch hb
  · rw [hF]
    intro W' H' u r s k
    cases k
    rfl
inductive At where
  | g (x : PySem.Str) | m (c x : PySem.Str) | sm (c x : PySem.Str) | cm (c x : PySem.Str) | pr (c x : PySem.Str)
def recA (K : PySem.W.Frag) (T : String) (p : Addr) : Addr := match PySem.W.recIn K p T with
  | some (.ref g :: _) => g
  | _ => 0
def prA (K : PySem.W.Frag) (p : Addr) : Addr := match K.lookup p with
  | some ⟨_, _, .fields vs, _⟩ => (match vs.toList.head? with
    | some (.ref g) => g
    | _ => 0)
  | _ => 0
def At.ad (K : PySem.W.Frag) : At → Addr
  | .g x => He.ga K x
  | .m c x => He.ma K (He.ga K c) x
  | .sm c x => recA K "staticmethod" (He.ma K (He.ga K c) x)
  | .cm c x => recA K "classmethod" (He.ma K (He.ga K c) x)
  | .pr c x => prA K (He.ma K (He.ga K c) x)
def fnWA (K : PySem.W.Frag) (a : Addr) : He.FnW := match K.lookup a with
  | some ⟨_, _, .func fd, _⟩ => some (fd.name, fd.qualname, fd.params, fd.body, fd.scope, fd.globals, fd.closure, fd.builtins)
  | _ => none
structure DefC where
  at_ : At
  name : PySem.Str
  qual : PySem.Str
  params : Arguments
  body : List Stmt
  scope : Scope
  dfl : List He.Dv := []
  kwd : List (PySem.Str × He.Dv) := []
def DefC.val (d : DefC) : He.FnW := some (d.name, d.qual, d.params, .stmts d.body, d.scope, mainGlobals, [], builtinsNs)
def DefC.dvs (K : PySem.W.Frag) (d : DefC) : List V := d.dfl.map (He.Dv.v K)
def DefC.kws (K : PySem.W.Frag) (d : DefC) : List (PySem.Str × V) := d.kwd.map fun q => (q.1, q.2.v K)
def DefC.ok (K : PySem.W.Frag) (d : DefC) : Bool := PySem.W.keepIn K (.ref (d.at_.ad K)) && (match K.lookup (d.at_.ad K) with
  | some ⟨_, _, .func fd, _⟩ => PySem.W.codeIn K fd.code d.qual && (He.dflB K fd.defaults (d.dvs K) && He.kwdB K fd.kwdefaults (d.kws K))
  | _ => false)
theorem DefC.funD {K : PySem.W.Frag} {d : DefC} (e : fnWA K (d.at_.ad K) = d.val) (c : d.ok K = true) : ∃ fd, FunD K d.name d.qual d.params d.body d.scope (d.dvs K) (d.kws K) (d.at_.ad K) fd := by
  obtain ⟨kp, c2⟩ := He.ba c
  unfold fnWA at e
  cases q : K.lookup (d.at_.ad K) with
  | none => rw [q] at c2; cases c2
  | some o =>
    obtain ⟨oc, od, dt, osl⟩ := o
    rw [q] at c2 e
    cases dt with
    | func fd =>
      obtain ⟨n1, n2, n3, n4, n5, n6, n7, n8, n9, n10, n11, n12, n13, n14, n15⟩ := fd
      have e2 : (some (n1, n2, n3, n4, n5, n6, n7, n15) : He.FnW) = some (d.name, d.qual, d.params, .stmts d.body, d.scope, mainGlobals, [], builtinsNs) := e
      simp only [Option.some.injEq, Prod.mk.injEq] at e2
      obtain ⟨h1, h2, h3, h4, h5, h6, h7, h8⟩ := e2
      subst h1 h2 h3 h4 h5 h6 h7 h8
      have c3 : (PySem.W.codeIn K n13 d.qual && (He.dflB K n8 (d.dvs K) && He.kwdB K n9 (d.kws K))) = true := c2
      obtain ⟨k1, k2⟩ := He.ba c3
      obtain ⟨k3, k4⟩ := He.ba k2
      exact ⟨_, ⟨oc, od, n8, n9, n10, n11, n12, n13, n14, osl, rfl, q, k1, He.dflB_ok k3, He.kwdB_ok k4⟩, kp⟩
    | _ => cases c2
abbrev FaC := PySem.W.Frag → Bool
def obsC (fa : List FaC) (fn : List DefC) (K : PySem.W.Frag) : He.AlD := ((fa.all fun f => f K) && fn.all fun d => d.ok K, fn.map fun d => fnWA K (d.at_.ad K))
def valC (fn : List DefC) : He.AlD := (true, fn.map DefC.val)
def SaysC (fa : List FaC) (fn : List DefC) (K : PySem.W.Frag) : Prop := obsC fa fn K = valC fn
def obsCG (n : Nat) (fa : List FaC) (fn : List DefC) (g : Addr → Option Obj) : He.AlD := obsC fa fn (He.frG g (cStatics :: He.asD g n))
def hookC (n : Nat) (fa : List FaC) (fn : List DefC) : PySem.W.Hook where
  α := He.AlD
  obs := fun s => obsCG n fa fn s.heap.get?
  val := fun _ => valC fn
  says := fun _ h => ∃ K : PySem.W.Frag, K.In h ∧ SaysC fa fn K
  of := fun _ _ e => ⟨_, He.frG_in, e⟩
  keeps := fun _ _ _ ⟨K, hK, c⟩ k => ⟨K, PySem.W.Frag.In.keeps hK k, c⟩
theorem obsCG_eq {n : Nat} {fa : List FaC} {fn : List DefC} {g : Addr → Option Obj} {s : Shared} (h : ∀ a, g a = s.heap.get? a) : obsCG n fa fn g = (hookC n fa fn).obs s := by
  have e : g = s.heap.get? := funext h
  rw [e] <;> rfl
section
variable {fa : List FaC} {fn : List DefC} {K : PySem.W.Frag}
theorem SaysC.fact (c : SaysC fa fn K) (i : Nat) {f : FaC} (h : fa[i]? = some f := by rfl) : f K = true := by
  have c1 := (He.ba (show ((fa.all fun f => f K) && fn.all fun d => d.ok K) = true from congrArg (fun z : He.AlD => z.1) c)).1
  exact List.all_eq_true.mp c1 f (List.mem_of_getElem? h)
theorem SaysC.def_ (c : SaysC fa fn K) (i : Nat) {d : DefC} (h : fn[i]? = some d := by rfl) : ∃ fd, FunD K d.name d.qual d.params d.body d.scope (d.dvs K) (d.kws K) (d.at_.ad K) fd := by
  have c2 := (He.ba (show ((fa.all fun f => f K) && fn.all fun d => d.ok K) = true from congrArg (fun z : He.AlD => z.1) c)).2
  have e : fn.map (fun d => fnWA K (d.at_.ad K)) = fn.map DefC.val := congrArg (fun z : He.AlD => z.2) c
  have e2 : (fn.map fun d => fnWA K (d.at_.ad K))[i]? = (fn.map DefC.val)[i]? := by rw [e]
  rw [List.getElem?_map, List.getElem?_map, h] at e2
  exact DefC.funD (Option.some.inj e2) (List.all_eq_true.mp c2 d (List.mem_of_getElem? h))
end
def faHe (f : He.Fa) : FaC := fun K => f.ok K
def faNoList : FaC := fun K => K.all fun p => !(p.2.cls == .type "list")
theorem noList_ok {K : PySem.W.Frag} (h : faNoList K = true) : ∀ (a : Addr) (o : Obj), K.lookup a = some o → o.cls ≠ .type "list" := by
  intro a o e q
  have hm : ∀ {l : PySem.W.Frag}, l.lookup a = some o → (a, o) ∈ l := by
    intro l
    induction l with
    | nil => intro e; cases e
    | cons p l ih =>
      intro e
      rw [List.lookup_cons] at e
      cases hb : a == p.1 with
      | true =>
        rw [hb] at e
        cases e
        rw [show a = p.1 from eq_of_beq hb]
        exact List.mem_cons_self ..
      | false => rw [hb] at e; exact List.mem_cons_of_mem _ (ih e)
  have := List.all_eq_true.mp h _ (hm e)
  rw [q] at this
  exact absurd this (by simp)
def faB (p : PySem.W.Frag → Prop) [∀ K, Decidable (p K)] : FaC := fun K => decide (p K)
def faRead (x : PySem.Str) : FaC := fun K => PySem.W.readsIn K (He.ga K x) (.type "type") && He.eqO (PySem.W.specialIn K (.ref (He.ga K x)) "__getattribute__") (some (some (.builtin "type.__getattribute__")))
theorem read_ok {K : PySem.W.Frag} {x : PySem.Str} (h : faRead x K = true) : CRead K (He.ga K x) (.type "type") := ⟨(He.ba h).1, He.eqO_ok (He.ba h).2⟩
end Cl
set_option Elab.async false
set_option linter.all false
set_option maxRecDepth 100000
set_option maxHeartbeats 4000000
namespace Cl
open PySem PySem.Spec PyProof.Rows L2 StX ClX

theorem takesZ {X : Cx} : Takes X wx0 := fun _ _ ⟨_, _, _, _, _, _, _, _, _, _, _, _, _, _, _, _, w⟩ => w.elim
theorem hu64 {k : Nat} {A : Around} (r : Room k A) : A.units + 64 < cLine := by have := r.un; omega
theorem hu65 {k : Nat} {A : Around} (r : Room k A) : A.units + 65 < cLine := by have := r.un; omega
def plan (n : Nat) (ds : List PV) : Plan := (List.range n).map .inl ++ ds.map .inr
theorem pickV_plan {n : Nat} {ds : List PV} {vs : List V} (h : vs.length = n) : pickV (plan n ds) vs = vs ++ ds.map scV := by
  unfold pickV plan
  rw [List.map_append, List.map_map, List.map_map]
  congr 1
  subst h
  apply List.ext_getElem
  · simp
  · intro i h1 h2
    simp [List.getD_eq_getElem?_getD, List.getElem?_eq_getElem h2]
theorem Bd.of {K : PySem.W.Frag} {fd : FuncData} {ps : List PySem.Str} {ds : List Value} {n : Nat} {dp : List PV} {pl : Plan} (b : Binds K fd ps ds) (hd : Vals (dp.map scV) ds) (hn : n + dp.length = ps.length) (hpl : pl = plan n dp) : Bd K fd ps n [] pl := by
  subst hpl
  intro s us ws kin lu lw
  obtain rfl : ws = [] := List.length_eq_zero_iff.mp lw
  have hl : (us ++ ds).length = ps.length := by
    have := hd.length
    rw [List.length_map] at this
    rw [List.length_append, lu, ← this, hn]
  refine ⟨us ++ ds, b s us kin hl, hl, fun vs r => ?_⟩
  rw [List.append_nil] at r
  rw [pickV_plan (r.length.trans lu)]
  exact r.append hd
def spN (G : Gd) (N : List PySem.Str) (F : Fm) (n : Nat) (pl : Plan) : Sp := fun vs H Q E => vs.length = n ∧ spC G N F (pickV pl vs) H Q E
theorem FnP.stuck {G : Gd} {P : Program} {w : World} {K : PySem.W.Frag} {mg : PySem.Str → Option Value} {base : Heap} {k n : Nat} {f : Addr} {N : List PySem.Str} {pl : Plan} : FnP P w K mg base k f (spN G N (fun _ => .stuck) n pl) :=
  fun A outer s H us vs Q E room gd e0 rv ⟨_, _, _, _, _, o⟩ => o.elim
abbrev fcD (n : Nat) (pl : Plan) (F : Fm) := fcDef n pl F
def faIns (x : PySem.Str) : FaC := fun K => (He.Fa.cls x).ok K && (He.eqO (PySem.W.findIn K (.ref (He.ga K x)) "__class__") (some (some (.builtin "object.__class__"))) && (He.eqO (PySem.W.specialIn K (.builtin "object.__class__") "__get__") (some (some (.builtin "getset_descriptor.__get__")))
  && (decide (PySem.W.takesIn K (.builtin "object.__class__") = some true) && decide (PySem.W.mroIn K (He.ga K x) (.type "object") = some true))))
theorem ins_ok {K : PySem.W.Frag} {x : PySem.Str} (h : faIns x K = true) : InsOk K (He.ga K x) := by
  obtain ⟨h1, h⟩ := He.ba h
  obtain ⟨h2, h⟩ := He.ba h
  obtain ⟨h3, h⟩ := He.ba h
  obtain ⟨h4, h5⟩ := He.ba h
  exact ⟨He.cls_ok h1, He.eqO_ok h2, He.eqO_ok h3, of_decide_eq_true h4, of_decide_eq_true h5⟩
def faProp (x f : PySem.Str) : FaC := fun K => He.eqO (PySem.W.findIn K (.ref (He.ga K x)) f) (some (some (.ref (He.ma K (He.ga K x) f)))) && (He.eqO (PySem.W.specialIn K (.ref (He.ma K (He.ga K x) f)) "__get__") (some (some (.builtin "property.__get__")))
  && (decide (PySem.W.takesIn K (.ref (He.ma K (He.ga K x) f)) = some true) && (match PySem.W.recIn K (He.ma K (He.ga K x) f) "property" with
    | some (.ref g :: _) => decide (g = At.ad K (.pr x f))
    | _ => false)))
theorem rec_ok {K : PySem.W.Frag} {p g : Addr} {T : String} (h : (match PySem.W.recIn K p T with
    | some (.ref g' :: _) => decide (g' = g)
    | _ => false) = true) : ∃ rest, PySem.W.recIn K p T = some (.ref g :: rest) := by
  split at h
  · rename_i g' r e
    rw [← of_decide_eq_true h]
    exact ⟨_, e⟩
  · cases h
theorem prop_ok {K : PySem.W.Frag} {x f : PySem.Str} (h : faProp x f K = true) : PropOf K (He.ga K x) f (He.ma K (He.ga K x) f) (At.ad K (.pr x f)) := by
  obtain ⟨h1, h⟩ := He.ba h
  obtain ⟨h2, h⟩ := He.ba h
  obtain ⟨h3, h4⟩ := He.ba h
  exact ⟨He.eqO_ok h1, He.eqO_ok h2, of_decide_eq_true h3, rec_ok h4⟩
def getB (K : PySem.W.Frag) (x m : PySem.Str) (g : String) : Bool := match PySem.W.findCls K (.ref (He.ga K x)) (.type "type") m with
  | some (.get a b c d) => decide (a = .builtin g) && (decide (b = .ref (He.ma K (He.ga K x) m)) && (decide (c = .none) && decide (d = .ref (He.ga K x))))
  | _ => false
theorem getB_ok {K : PySem.W.Frag} {x m : PySem.Str} {g : String} (h : getB K x m g = true) : PySem.W.findCls K (.ref (He.ga K x)) (.type "type") m = some (.get (.builtin g) (.ref (He.ma K (He.ga K x) m)) .none (.ref (He.ga K x))) := by
  unfold getB at h
  split at h
  · rename_i a b c d e
    obtain ⟨h1, h⟩ := He.ba h
    obtain ⟨h2, h⟩ := He.ba h
    obtain ⟨h3, h4⟩ := He.ba h
    rw [e, of_decide_eq_true h1, of_decide_eq_true h2, of_decide_eq_true h3, of_decide_eq_true h4]
  · cases h
def recB (K : PySem.W.Frag) (p g : Addr) (T : String) : Bool := match PySem.W.recIn K p T with
  | some (.ref g' :: _) => decide (g' = g)
  | _ => false
def faSm (x m : PySem.Str) : FaC := fun K => getB K x m "staticmethod.__get__" && (recB K (He.ma K (He.ga K x) m) (At.ad K (.sm x m)) "staticmethod" && PySem.W.keepIn K (.ref (At.ad K (.sm x m))))
theorem sm_ok {K : PySem.W.Frag} {x m : PySem.Str} (h : faSm x m K = true) : SMet K (He.ga K x) (.type "type") m (He.ma K (He.ga K x) m) (At.ad K (.sm x m)) := by
  obtain ⟨h1, h⟩ := He.ba h
  obtain ⟨h2, h3⟩ := He.ba h
  exact ⟨getB_ok h1, rec_ok h2, h3⟩
def faCm (x m : PySem.Str) : FaC := fun K => getB K x m "classmethod.__get__" && (recB K (He.ma K (He.ga K x) m) (At.ad K (.cm x m)) "classmethod" && PySem.W.fnIn K (At.ad K (.cm x m)))
theorem cm_ok {K : PySem.W.Frag} {x m : PySem.Str} (h : faCm x m K = true) : CMet K (He.ga K x) (.type "type") m (He.ma K (He.ga K x) m) (At.ad K (.cm x m)) := by
  obtain ⟨h1, h⟩ := He.ba h
  obtain ⟨h2, h3⟩ := He.ba h
  exact ⟨getB_ok h1, rec_ok h2, h3⟩
def faCv (x m : PySem.Str) (i : Int) : FaC := fun K => match PySem.W.findCls K (.ref (He.ga K x)) (.type "type") m with
  | some (.val (.int j _)) => decide (j = i)
  | _ => false
theorem cv_ok {K : PySem.W.Frag} {x m : PySem.Str} {i : Int} (h : faCv x m i K = true) : ∃ u, CVal K (He.ga K x) (.type "type") m (.int i) u := by
  unfold faCv at h
  split at h
  · rename_i j t e
    have ej := of_decide_eq_true h
    subst ej
    exact ⟨_, e, t, rfl⟩
  · cases h
structure Tx (fa : List FaC) (fn : List DefC) (K : PySem.W.Frag) (mg : PySem.Str → Option Value) : Prop where
  c : SaysC fa fn K
  g : ∃ h : Heap, K.In h ∧ h.Ns mainGlobals mg
section
variable {fa : List FaC} {fn : List DefC} {K : PySem.W.Frag} {mg : PySem.Str → Option Value}
theorem Tx.glo (T : Tx fa fn K mg) (i : Nat) {x : PySem.Str} (h : fa[i]? = some (faHe (.glo x)) := by rfl) : mg x = some (.ref (He.ga K x)) :=
  let ⟨_, X, G⟩ := T.g
  He.glo_ok X G (T.c.fact i h)
theorem Tx.free (T : Tx fa fn K mg) (i : Nat) {x : PySem.Str} (h : fa[i]? = some (faHe (.free x)) := by rfl) : mg x = none :=
  let ⟨_, X, G⟩ := T.g
  He.free_ok X G (T.c.fact i h)
end
section
variable {fa : List FaC} {fn : List DefC} {K : PySem.W.Frag} {mg : PySem.Str → Option Value}
theorem Tx.kp (T : Tx fa fn K mg) (i : Nat) {d : DefC} (h : fn[i]? = some d := by rfl) : PySem.W.keepIn K (.ref (d.at_.ad K)) = true :=
  let ⟨_, F⟩ := T.c.def_ i h
  F.kp
theorem Tx.cls (T : Tx fa fn K mg) (i : Nat) {x : PySem.Str} (h : fa[i]? = some (faHe (.cls x)) := by rfl) : Cls K (He.ga K x) := He.cls_ok (T.c.fact i h)
theorem Tx.noat (T : Tx fa fn K mg) (i : Nat) {x f : PySem.Str} (h : fa[i]? = some (faHe (.noat x f)) := by rfl) : NoAttr K (He.ga K x) f := He.noat_ok (T.c.fact i h)
theorem Tx.meth (T : Tx fa fn K mg) (i : Nat) {x m : PySem.Str} (h : fa[i]? = some (faHe (.meth x m)) := by rfl) : Meth K (He.ga K x) m (He.ma K (He.ga K x) m) := He.meth_ok (T.c.fact i h)
theorem Tx.mkr (T : Tx fa fn K mg) (i : Nat) {x : PySem.Str} (h : fa[i]? = some (faHe (.mkr x)) := by rfl) : Mk K (He.ga K x) (He.ma K (He.ga K x) "__init__") := He.mkr_ok (T.c.fact i h)
theorem Tx.keep (T : Tx fa fn K mg) (i : Nat) {x : PySem.Str} (h : fa[i]? = some (faHe (.keep x)) := by rfl) : PySem.W.keepIn K (.ref (He.ga K x)) = true := He.keep_ok (T.c.fact i h)
theorem Tx.read (T : Tx fa fn K mg) (i : Nat) {x : PySem.Str} (h : fa[i]? = some (faRead x) := by rfl) : CRead K (He.ga K x) (.type "type") := read_ok (T.c.fact i h)
theorem Tx.prop (T : Tx fa fn K mg) (i : Nat) {x f : PySem.Str} (h : fa[i]? = some (faProp x f) := by rfl) : PropOf K (He.ga K x) f (He.ma K (He.ga K x) f) (At.ad K (.pr x f)) := prop_ok (T.c.fact i h)
theorem Tx.sm (T : Tx fa fn K mg) (i : Nat) {x m : PySem.Str} (h : fa[i]? = some (faSm x m) := by rfl) : SMet K (He.ga K x) (.type "type") m (He.ma K (He.ga K x) m) (At.ad K (.sm x m)) := sm_ok (T.c.fact i h)
theorem Tx.cm (T : Tx fa fn K mg) (i : Nat) {x m : PySem.Str} (h : fa[i]? = some (faCm x m) := by rfl) : CMet K (He.ga K x) (.type "type") m (He.ma K (He.ga K x) m) (At.ad K (.cm x m)) := cm_ok (T.c.fact i h)
theorem Tx.ins (T : Tx fa fn K mg) (i : Nat) {x : PySem.Str} (h : fa[i]? = some (faIns x) := by rfl) : InsOk K (He.ga K x) := ins_ok (T.c.fact i h)
end
theorem all1 {P : Nat → Prop} {a : Nat} (h : P a) : ∀ c ∈ [a], P c := fun c hc => by rw [List.mem_singleton.mp hc]; exact h
section
variable {G : Gd} {X : Cx} {Wx : WX} {e : Expr} {es : List Expr} {pos p : Pos} {x : PySem.Str}
theorem ce_ty {n : String} (hg : Gl X x) (hm : X.mg x = none) (hv : bootBuiltins x = some (.type n)) (hn : x ≠ "__name__" := by decide) (hd : (x == ("__debug__" : PySem.Str)) = false := by decide) : CE G X Wx (.Name x p) (cC (.ty n)) :=
  ce_C (pe_bltn (v := .ty n) hg hm hv rfl hn hd) fun _ => .ty n
def tgS (fs : List TgF) : TgF
  | .tup ps => tgs fs ps
  | .lst ps => tgs fs ps
  | _ => none
theorem cg_seq {fs : List TgF} {k n : Nat} (hc : X.calm = true) (h : CGs G X es fs) (hl : fs.length = n := by rfl)
    (hn : (assignEach es X.env).length = n := by rfl) (hst : (assignEach es X.env).findIdx? (·.1) = none := by rfl) : CG G X (.Tuple es k pos) (tgS fs) := by
  have h1 := (cg_tup (k := k) (pos := pos) hc h hl hn hst).pg
  have h2 := (cg_lst (k := k) (pos := pos) hc h hl hn hst).pg
  refine ⟨⟨fun pn s σ H v u Q I ru ⟨W, st, p, l, r, k, el, o⟩ => ?_⟩⟩
  unfold tgS at el
  split at el
  · exact h1.run pn s σ H v u Q I ru ⟨W, st, _, l, r, k, el, o⟩
  · exact h2.run pn s σ H v u Q I ru ⟨W, st, _, l, r, k, el, o⟩
  · cases el
theorem onlyAt_s {vs : List Nat} {fs : List TgF} (hs : OnlyAts vs fs) : OnlyAt vs (tgS fs) := fun p l e x hx => by
  unfold tgS at e
  split at e
  · exact hs _ _ e x hx
  · exact hs _ _ e x hx
  · cases e
theorem ce_clvI {n : Nat} {m : PySem.Str} {mc : Value} {i : Int} {o : Expr} {fo : Cm SV} (he : CE G X Wx o fo) (r : CRead X.K (G.fn n) mc) (kv : ∃ u, CVal X.K (G.fn n) mc m (.int i) u) (hb : attributeBase o m X.env (eval o X.env) = eval o X.env := by rfl) : CE G X Wx (.Attribute o m pos) (cClV n (.int i) fo) :=
  let ⟨_, kv⟩ := kv
  ce_clv he r kv (fun _ => .int i) hb
end
theorem Tx.cv {fa : List FaC} {fn : List DefC} {K : PySem.W.Frag} {mg : PySem.Str → Option Value} (T : Tx fa fn K mg) (j : Nat) {x m : PySem.Str} {i : Int} (h : fa[j]? = some (faCv x m i) := by rfl) : ∃ u, CVal K (He.ga K x) (.type "type") m (.int i) u := cv_ok (T.c.fact j h)
def isRows : List ((String × String) × Bool) :=
  [(("NoneType", "int"), false), (("NoneType", "bool"), false), (("NoneType", "str"), false), (("NoneType", "list"), false), (("NoneType", "tuple"), false), (("NoneType", "dict"), false),
   (("bool", "int"), true), (("bool", "bool"), true), (("bool", "str"), false), (("bool", "list"), false), (("bool", "tuple"), false), (("bool", "dict"), false),
   (("int", "int"), true), (("int", "bool"), false), (("int", "str"), false), (("int", "list"), false), (("int", "tuple"), false), (("int", "dict"), false),
   (("str", "int"), false), (("str", "bool"), false), (("str", "str"), true), (("str", "list"), false), (("str", "tuple"), false), (("str", "dict"), false),
   (("list", "int"), false), (("list", "bool"), false), (("list", "str"), false), (("list", "list"), true), (("list", "tuple"), false), (("list", "dict"), false),
   (("tuple", "int"), false), (("tuple", "bool"), false), (("tuple", "str"), false), (("tuple", "list"), false), (("tuple", "tuple"), true), (("tuple", "dict"), false),
   (("dict", "int"), false), (("dict", "bool"), false), (("dict", "str"), false), (("dict", "list"), false), (("dict", "tuple"), false), (("dict", "dict"), true)]
theorem isRows_ok : isRows.all (fun r => decide (kitB r.1.1 r.1.2 = some r.2)) = true := by decide +kernel
theorem lookup_mem {α β : Type} [BEq α] [LawfulBEq α] {a : α} {b : β} : ∀ {l : List (α × β)}, l.lookup a = some b → (a, b) ∈ l
  | [], h => nomatch h
  | p :: l, h => by
    rw [List.lookup_cons] at h
    cases hb : a == p.1 with
    | true =>
      rw [hb] at h
      cases h
      rw [show a = p.1 from eq_of_beq hb]
      exact List.mem_cons_self ..
    | false => rw [hb] at h; exact List.mem_cons_of_mem _ (lookup_mem h)
def tbB : TK → CK → Option Bool
  | .ty a, .ty b => isRows.lookup (a, b)
  | _, _ => none
theorem tbB_one {K : PySem.W.Frag} {a b : String} {v : Bool} (e : isRows.lookup (a, b) = some v) : PySem.W.kitOne K (.type a) (.type b) = some v :=
  kit_ty (of_decide_eq_true (List.all_eq_true.mp isRows_ok _ (lookup_mem e)))
theorem isTbB {G : Gd} {K : PySem.W.Frag} : IsTb G K tbB where
  one := fun t c b e => by
    unfold tbB at e
    split at e
    · exact tbB_one e
    · cases e
  ins := fun n c b e => by cases e
end Cl
set_option Elab.async false
set_option linter.all false
set_option maxRecDepth 100000
set_option maxHeartbeats 4000000
namespace Cl
open PySem PySem.Spec PyProof.Rows L2
section
variable {α β : Type} {st st1 : ST} {x : α} {k : α → ST → Out β} {f g : Sm} {fa fb fc : Cm SV} {fs : Cm (List SV)} {p q : PV} {i j : Nat} {ps : List PV} {c : MC} {t t' : Cm Bool} {n : Nat}
@[simp] theorem ev_bind_ok : (Out.ok x st).bind k = k x st := rfl
@[simp] theorem ev_bind_stuck : (Out.stuck : Out α).bind k = .stuck := rfl
@[simp] theorem ev_bind_exc {m : Nat} {hs : List (PySem.Str × PV)} : (Out.exc m hs st : Out α).bind k = .exc m hs st := rfl
@[simp] theorem ev_cC : cC p st = .ok (.t p) st := rfl
@[simp] theorem ev_ofO {o : Option PV} : ofO st o = match o with | some p => .ok (.t p) st | none => .stuck := rfl
@[simp] theorem ev_ofM {o : Option MC} : ofM st o = match o with | some p => .ok p st | none => .stuck := rfl
@[simp] theorem ev_cVar : cVar i st = match st.loc[i]? with
  | some (some (.t p)) => .ok (.t p) st
  | some (some (.m _)) => .ok (.pl (.sl i)) st
  | some (some (.i n)) => .ok (.pl (.ih n)) st
  | _ => .stuck := rfl
@[simp] theorem ev_cMv : cMv i st = match st.loc[i]? with
  | some (some (.t p)) => .ok (.t p) st
  | some (some (.m c)) => .ok (.t c.pv) (st.set i (some (.t c.pv)))
  | _ => .stuck := rfl
@[simp] theorem ev_mMv : mMv i st = match st.loc[i]? with
  | some (some (.m c)) => .ok c (st.set i none)
  | _ => .stuck := rfl
@[simp] theorem ev_cUn {f : PV → Option PV} : cUn f fa st = (fa st).bind fun x st1 => ofO st1 ((view st1 x).bind f) := rfl
@[simp] theorem ev_cBin {f : PV → PV → Option PV} : cBin f fa fb st = (fa st).bind fun x st1 => (fb st1).bind fun y st2 => ofO st2 ((view st2 x).bind fun p => (view st2 y).bind fun q => f p q) := rfl
@[simp] theorem ev_cNil : cNil st = .ok [] st := rfl
@[simp] theorem ev_cCons : cCons fa fs st = (fa st).bind fun x st1 => (fs st1).bind fun xs st2 => .ok (x :: xs) st2 := rfl
@[simp] theorem ev_views_nil : views st [] = some [] := rfl
@[simp] theorem ev_views_cons {x : SV} {xs : List SV} : views st (x :: xs) = (view st x).bind fun p => (views st xs).bind fun ps => some (p :: ps) := rfl
@[simp] theorem ev_view_t : view st (.t p) = some p := rfl
@[simp] theorem ev_view_sl : view st (.pl (.sl j)) = match st.loc[j]? with | some (some (.m c)) => some c.pv | _ => none := rfl
@[simp] theorem ev_view_ih : view st (.pl (.ih n)) = match st.inh[n]? with | some c => some c.pv | none => none := rfl
@[simp] theorem ev_pv_lst : (MC.lst ps).pv = .lst ps := rfl
@[simp] theorem ev_pv_obj {c : Nat} {hs : List (PySem.Str × PV)} : (MC.obj c hs).pv = .obj c hs := rfl
@[simp] theorem ev_pv_dct {hs : List (PV × PV)} : (MC.dct hs).pv = .dct hs := rfl
@[simp] theorem ev_cList {f : List PV → Option PV} : cList f fs st = (fs st).bind fun xs st1 => ofO st1 ((views st1 xs).bind f) := rfl
@[simp] theorem ev_mList {f : List PV → Option MC} : mList f fs st = (fs st).bind fun xs st1 => ofM st1 ((views st1 xs).bind f) := rfl
@[simp] theorem ev_cTruth : cTruth fa st = (fa st).bind fun x st1 => match x with
  | .t (.bl b) => .ok b st1
  | _ => .stuck := rfl
@[simp] theorem ev_cAnd : cAnd t t' st = (t st).bind fun b st1 => if b = true then t' st1 else .ok false st1 := rfl
@[simp] theorem ev_cOr : cOr t t' st = (t st).bind fun b st1 => if b = true then .ok true st1 else t' st1 := rfl
@[simp] theorem ev_cNot : cNot t st = (t st).bind fun b st1 => .ok (!b) st1 := rfl
@[simp] theorem ev_cAndV : cAndV fa fb st = (fa st).bind fun x st1 => match x with
  | .t (.bl true) => fb st1
  | .t (.bl false) => .ok (.t (.bl false)) st1
  | _ => .stuck := rfl
@[simp] theorem ev_cOrV : cOrV fa fb st = (fa st).bind fun x st1 => match x with
  | .t (.bl true) => .ok (.t (.bl true)) st1
  | .t (.bl false) => fb st1
  | _ => .stuck := rfl
@[simp] theorem ev_cNotV : cNotV fa st = (fa st).bind fun x st1 => match x with
  | .t (.bl c) => .ok (.t (.bl (!c))) st1
  | _ => .stuck := rfl
@[simp] theorem ev_cIf {f g : Cm α} : cIf t f g st = (t st).bind fun b st1 => if b = true then f st1 else g st1 := rfl
@[simp] theorem ev_cYes : cYes st = .ok true st := rfl
@[simp] theorem ev_cChain {f f' : PV → PV → Option PV} : cChain f f' fa fb fc st = (fa st).bind fun x st1 => (fb st1).bind fun y st2 =>
  match (view st2 x).bind fun p => (view st2 y).bind fun q => f p q with
  | some (.bl true) => (fc st2).bind fun z st3 => ofO st3 ((view st3 y).bind fun p => (view st3 z).bind fun q => f' p q)
  | some (.bl false) => .ok (.t (.bl false)) st2
  | _ => .stuck := rfl
@[simp] theorem ev_cDisp {k : List PV → PV} : cDisp k fs st = (fs st).bind fun xs st1 => ofO st1 ((trees xs).bind fun ps => if szOk ps.length then some (k ps) else none) := rfl
@[simp] theorem ev_mDisp : mDisp fs st = (fs st).bind fun xs st1 => ofM st1 ((trees xs).bind fun ps => if szOk ps.length then some (.lst ps) else none) := rfl
@[simp] theorem ev_trees_nil : trees [] = some [] := rfl
@[simp] theorem ev_trees_cons {xs : List SV} : trees (.t p :: xs) = (trees xs).map fun ps => p :: ps := rfl
@[simp] theorem ev_cFrz {f : Cm MC} : cFrz f st = (f st).bind fun c st1 => .ok (.t c.pv) st1 := rfl
@[simp] theorem ev_sNil : sNil st = .nx st := rfl
@[simp] theorem ev_sNo : sNo st = .stuck := rfl
@[simp] theorem ev_sSeq : sSeq f g st = match f st with
  | .nx st' => g st'
  | o => o := rfl
@[simp] theorem ev_bindS_ok {k : α → ST → OutS} : bindS (.ok x st) k = k x st := rfl
@[simp] theorem ev_bindS_stuck {k : α → ST → OutS} : bindS (.stuck : Out α) k = .stuck := rfl
@[simp] theorem ev_sExpr : sExpr fa st = bindS (fa st) fun _ st1 => .nx st1 := rfl
@[simp] theorem ev_sRet : sRet fa st = bindS (fa st) fun x st1 => match x with
  | .t p => .rt (.t p) st1
  | _ => .stuck := rfl
@[simp] theorem ev_sRetN : sRetN st = .rt (.t .non) st := rfl
@[simp] theorem ev_sRetM {f : Cm MC} : sRetM f st = bindS (f st) fun c st1 => .rt (.n c) st1 := rfl
@[simp] theorem ev_sIf : sIf t f g st = bindS (t st) fun b st1 => if b = true then f st1 else g st1 := rfl
@[simp] theorem ev_sSet : sSet i fa st = bindS (fa st) fun x st1 => match x with
  | .t p => .nx (st1.set i (some (.t p)))
  | _ => .stuck := rfl
@[simp] theorem ev_sSetM {f : Cm MC} : sSetM i f st = bindS (f st) fun c st1 => .nx (st1.set i (some (.m c))) := rfl
@[simp] theorem ev_sAsg {tg : TgF} : sAsg tg fa st = bindS (fa st) fun x st1 => match x with
  | .t p => match tg p with
    | some l => .nx (st1.sets l)
    | none => .stuck
  | _ => .stuck := rfl
@[simp] theorem ev_sItem : sItem fa fb fc st = bindS (fa st) fun x st1 => bindS (fb st1) fun o st2 => bindS (fc st2) fun i st3 => match x, o, i with
  | .t p, .pl q, .t (.int k) => match getP st3 q with
    | some (.lst ys) => match ixN ys.length k with
      | some j => .nx (Cl.setP st3 q (.lst (ys.set j p)))
      | none => .stuck
    | _ => .stuck
  | _, _, _ => .stuck := rfl
@[simp] theorem ev_getP_sl : getP st (.sl j) = match st.loc[j]? with
    | some (some (.m c)) => some c
    | _ => none := rfl
@[simp] theorem ev_getP_ih : getP st (.ih n) = st.inh[n]? := rfl
@[simp] theorem ev_setP_sl : Cl.setP st (.sl j) c = { st with loc := st.loc.set j (some (.m c)) } := rfl
@[simp] theorem ev_setP_ih : Cl.setP st (.ih n) c = { st with inh := st.inh.set n c } := rfl
@[simp] theorem ev_set {l : Option SL} {loc : List (Option SL)} {inh : List MC} : ST.set ⟨loc, inh⟩ i l = ⟨loc.set i l, inh⟩ := rfl
@[simp] theorem ev_sets_nil : st.sets [] = st := rfl
@[simp] theorem ev_sets_cons {l : List (Nat × PV)} : st.sets ((i, p) :: l) = (st.set i (some (.t p))).sets l := rfl
@[simp] theorem ev_tgN : tgN i p = some [(i, p)] := rfl
@[simp] theorem ev_tgS_tup {l : List TgF} : tgS l (.tup ps) = tgs l ps := rfl
@[simp] theorem ev_tgS_lst {l : List TgF} : tgS l (.lst ps) = tgs l ps := rfl
@[simp] theorem ev_tgs_nil : tgs [] [] = some [] := rfl
@[simp] theorem ev_tgs_cons {f : TgF} {l : List TgF} : tgs (f :: l) (p :: ps) = (f p).bind fun a => (tgs l ps).map fun m => a ++ m := rfl
@[simp] theorem ev_nNil : nNil st = .ok [] st := rfl
@[simp] theorem ev_nT {fr : Cm (List FV)} : nT fa fr st = (fa st).bind fun x st1 => match x with
  | .t p => (fr st1).bind fun xs st2 => .ok (.t p :: xs) st2
  | _ => .stuck := rfl
@[simp] theorem ev_nM {fm : Cm MC} {fr : Cm (List FV)} : nM fm fr st = (fm st).bind fun c st1 => (fr st1).bind fun xs st2 => .ok (.n c :: xs) st2 := rfl
@[simp] theorem ev_sPar {is : List Nat} {f : Cm (List FV)} : sPar is f st = bindS (f st) fun fs st1 => if fs.length = is.length then .nx (setFs st1 is fs) else .stuck := rfl
@[simp] theorem ev_setFs_nil {fs : List FV} : setFs st [] fs = st := by cases fs <;> rfl
@[simp] theorem ev_setFs_t {is : List Nat} {fs : List FV} : setFs st (i :: is) (.t p :: fs) = setFs (st.set i (some (.t p))) is fs := rfl
@[simp] theorem ev_setFs_n {is : List Nat} {fs : List FV} : setFs st (i :: is) (.n c :: fs) = setFs (st.set i (some (.m c))) is fs := rfl
@[simp] theorem ev_cPl {op : PlOp} : cPl op fa fs st = (fa st).bind fun x st1 => match x with
  | .pl q => match getP st1 q with
    | some (.lst _) => (fs st1).bind fun xs st2 => match trees xs, getP st2 q with
      | some ps, some (.lst ys) => match op ys ps with
        | some (z, zs) => .ok (.t z) (Cl.setP st2 q (.lst zs))
        | none => .stuck
      | _, _ => .stuck
    | _ => .stuck
  | _ => .stuck := rfl
@[simp] theorem ev_cCallF {Fc : List SV → Cm SV} : cCallF Fc fs st = (fs st).bind fun xs st1 => Fc xs st1 := rfl
@[simp] theorem ev_mCallF {Fc : List SV → Cm MC} : mCallF Fc fs st = (fs st).bind fun xs st1 => Fc xs st1 := rfl
@[simp] theorem ev_fcDef {pl : Plan} {F : Fm} {xs : List SV} : fcDef n pl F xs st = if xs.length = n then cRun F st (pickS pl xs) else .stuck := rfl
@[simp] theorem ev_fcDefM {pl : Plan} {F : Fm} {xs : List SV} : fcDefM n pl F xs st = if xs.length = n then cRunM F st (pickS pl xs) else .stuck := rfl
@[simp] theorem ev_mRg1 : mRg1 fa st = (fa st).bind fun x st1 => match x with
  | .t (.int n) => if decide (n.toNat ≤ 16777216) && smallI n then .ok (.lst (rngL 0 1 n.toNat)) st1 else .stuck
  | _ => .stuck := rfl
@[simp] theorem ev_cRng1 : cRng1 fs st = (fs st).bind fun xs st1 => match xs with
  | [.t (.int j)] => if smallI j = true then .ok (rngL 0 1 j.toNat) st1 else .stuck
  | _ => .stuck := rfl
@[simp] theorem ev_cIt : cIt fa st = (fa st).bind fun x st1 => match x with
  | .t (.lst ps) => .ok ps st1
  | .t (.tup ps) => .ok ps st1
  | _ => .stuck := rfl
@[simp] theorem ev_sFor {fi : Cm (List PV)} {tg : TgF} : sFor fi tg f st = bindS (fi st) fun items st1 => forL (forB tg f) items st1 := rfl
end
end Cl
set_option Elab.async false
set_option linter.all false
set_option maxRecDepth 100000
set_option maxHeartbeats 4000000
namespace Cl
open PySem PySem.Spec PyProof.Rows L2

theorem forL_inv {g : PV → Sm} (I : List PV → ST → Prop) (step : ∀ p ps st, I (p :: ps) st → ∃ st', (g p st = .nx st' ∨ g p st = .ct st') ∧ I ps st') : ∀ {ps : List PV} {st : ST}, I ps st → ∃ st', forL g ps st = .nx st' ∧ I [] st'
  | [], st, h => ⟨st, rfl, h⟩
  | p :: ps, st, h => by
    obtain ⟨st1, e, h1⟩ := step p ps st h
    obtain ⟨st2, e2, h2⟩ := forL_inv I step (ps := ps) h1
    refine ⟨st2, ?_, h2⟩
    unfold forL
    rcases e with e | e
    · rw [e]; exact e2
    · rw [e]; exact e2
theorem forL_ret {g : PV → Sm} (I : List PV → ST → Prop) (E : OutS → Prop) (hE : ∀ st, I [] st → E (.nx st)) (step : ∀ p ps st, I (p :: ps) st → (∃ st', (g p st = .nx st' ∨ g p st = .ct st') ∧ I ps st') ∨ (∃ r st', g p st = .rt r st' ∧ E (.rt r st'))) :
    ∀ {ps : List PV} {st : ST}, I ps st → E (forL g ps st)
  | [], st, h => hE st h
  | p :: ps, st, h => by
    rcases step p ps st h with ⟨st1, e, h1⟩ | ⟨r, st1, e, h1⟩
    · have q := forL_ret I E hE step (ps := ps) h1
      unfold forL
      rcases e with e | e
      · rw [e]; exact q
      · rw [e]; exact q
    · unfold forL
      rw [e]; exact h1
theorem lcL_inv {tg : TgF} {fe : Cm SV} {vs : List Nat} (I : List PV → List PV → ST → Prop)
    (step : ∀ p ps qs st, I (p :: ps) qs st → ∃ l q st2, tg p = some l ∧ fe (st.sets l) = .ok (.t q) st2 ∧ I ps (qs ++ [q]) (st2.clear vs)) :
    ∀ {ps qs : List PV} {st : ST}, I ps qs st → ∃ rs st', lcL tg cYes fe vs ps st = .ok rs st' ∧ I [] (qs ++ rs) st'
  | [], qs, st, h => ⟨[], st, rfl, by simpa using h⟩
  | p :: ps, qs, st, h => by
    obtain ⟨l, q, st2, e1, e2, h2⟩ := step p ps qs st h
    obtain ⟨rs, st', e3, h3⟩ := lcL_inv I step (ps := ps) h2
    refine ⟨q :: rs, st', ?_, by simpa using h3⟩
    unfold lcL
    rw [e1]
    simp [e2, e3]
theorem lcL_filter {tg : TgF} {fc : Cm Bool} {fe : Cm SV} {vs : List Nat} {st : ST} (k : PV → Bool) (f : PV → PV)
    (step : ∀ p, p ∈ ps → ∃ l, tg p = some l ∧ fc (st.sets l) = .ok (k p) (st.sets l) ∧ (k p = true → fe (st.sets l) = .ok (.t (f p)) (st.sets l)) ∧ (st.sets l).clear vs = st) :
    lcL tg fc fe vs ps st = .ok ((ps.filter k).map f) st := by
  induction ps with
  | nil => rfl
  | cons p ps ih =>
    obtain ⟨l, e1, e2, e3, e4⟩ := step p (List.mem_cons_self ..)
    have ih := ih fun q hq => step q (List.mem_cons_of_mem _ hq)
    unfold lcL
    rw [e1]
    cases hk : k p with
    | true => simp [e2, hk, e3 hk, e4, ih]
    | false => simp [e2, hk, e4, ih]
@[simp] theorem ev_clear_nil {st : ST} : st.clear [] = st := rfl
@[simp] theorem ev_clear_cons {st : ST} {v : Nat} {vs : List Nat} : st.clear (v :: vs) = (st.clear vs).set v none := rfl
@[simp] theorem ev_restore_nil {st st0 : ST} : st.restore st0 [] = st := rfl
@[simp] theorem ev_restore_cons {st st0 : ST} {v : Nat} {vs : List Nat} : st.restore st0 (v :: vs) = (st.restore st0 vs).set v (st0.loc.getD v none) := rfl
theorem ev_mLc {fi : Cm (List PV)} {tg : TgF} {fc : Cm Bool} {fe : Cm SV} {vs : List Nat} {st : ST} : mLc fi tg fc fe vs st = (fi st).bind fun items st1 =>
  if plainAt st1 vs = true then (match lcL tg fc fe vs items (st1.clear vs) with
    | .ok qs st2 => if szOk qs.length = true then .ok (.lst qs) (st2.restore st1 vs) else .stuck
    | _ => .stuck) else .stuck := rfl
end Cl
set_option Elab.async false
set_option linter.all false
set_option maxRecDepth 100000
set_option maxHeartbeats 4000000
namespace Cl
open PySem PySem.Spec PyProof.Rows L2

abbrev iL (ns : List Int) : List PV := ns.map .int
section
variable {ns ms : List Int} {a b i : Int}
theorem intsP_ints : ∀ {ns : List Int}, intsP (iL ns) = some ns
  | [] => rfl
  | n :: ns => by
    show (intsP (iL ns)).map (fun l => n :: l) = _
    rw [intsP_ints]; rfl
theorem toDs_ints : ∀ {ns : List Int}, toDs (iL ns) = some (ns.map .int)
  | [] => rfl
  | n :: ns => by
    show (toD (.int n)).bind (fun d => (toDs (iL ns)).map fun ds => d :: ds) = _
    rw [toDs_ints]; rfl
theorem canLayAll_ints : ∀ {ns : List Int}, PyData.canLayAll0 (ns.map PyData.int) = true
  | [] => by simp [PyData.canLayAll0]
  | n :: ns => by simp [PyData.canLayAll0, PyData.canLay0, canLayAll_ints]
theorem depthAll_ints : ∀ {ns : List Int}, PyData.depthAll (ns.map PyData.int) = 0
  | [] => by simp [PyData.depthAll]
  | n :: ns => by simp [PyData.depthAll, PyData.depth, depthAll_ints]
theorem shaped_int : SeqAt.shaped (.int a) = true := by simp [SeqAt.shaped, PyData.canLay0, PyData.depth]
theorem shaped_ints : SeqAt.shaped (.list (ns.map PyData.int)) = true := by simp [SeqAt.shaped, PyData.canLay0, PyData.depth, canLayAll_ints, depthAll_ints]
theorem shaped_intsT : SeqAt.shaped (.tuple (ns.map PyData.int)) = true := by simp [SeqAt.shaped, PyData.canLay0, PyData.depth, canLayAll_ints, depthAll_ints]
theorem eqvAll_ints : ∀ {xs ys : List Int}, PyData.eqvAll (xs.map PyData.int) (ys.map PyData.int) = decide (xs = ys)
  | [], [] => by simp [PyData.eqvAll]
  | [], y :: ys => by simp [PyData.eqvAll]
  | x :: xs, [] => by simp [PyData.eqvAll]
  | x :: xs, y :: ys => by
    simp only [List.map_cons, PyData.eqvAll, PyData.eqv, eqvAll_ints, List.cons.injEq, Bool.decide_and]
    rfl
theorem pEqB_int : pEqB (.int a) (.int b) = some (decide (a = b)) := by
  show (if SeqAt.shaped (.int a) && SeqAt.shaped (.int b) then some (PyData.eqv (.int a) (.int b)) else none) = _
  rw [shaped_int, shaped_int]
  simp only [PyData.eqv]; rfl
theorem pEq_int : pEq (.int a) (.int b) = some (.bl (decide (a = b))) := by unfold pEq; rw [pEqB_int]; rfl
theorem pNe_int : pNe (.int a) (.int b) = some (.bl (!decide (a = b))) := by unfold pNe; rw [pEqB_int]; rfl
theorem pEqB_ints : pEqB (.lst (iL ns)) (.lst (iL ms)) = some (decide (ns = ms)) := by
  show ((toDs (iL ns)).map PyData.list).bind (fun d => ((toDs (iL ms)).map PyData.list).bind fun e => dEq d e) = _
  rw [toDs_ints, toDs_ints]
  show (if SeqAt.shaped (.list (ns.map PyData.int)) && SeqAt.shaped (.list (ms.map PyData.int)) then some (PyData.eqv (.list (ns.map PyData.int)) (.list (ms.map PyData.int))) else none) = _
  rw [shaped_ints, shaped_ints]
  simp only [PyData.eqv, eqvAll_ints]; rfl
theorem pEq_ints : pEq (.lst (iL ns)) (.lst (iL ms)) = some (.bl (decide (ns = ms))) := by unfold pEq; rw [pEqB_ints]; rfl
theorem pNe_ints : pNe (.lst (iL ns)) (.lst (iL ms)) = some (.bl (!decide (ns = ms))) := by unfold pNe; rw [pEqB_ints]; rfl
theorem pEqB_intsT : pEqB (.tup (iL ns)) (.tup (iL ms)) = some (decide (ns = ms)) := by
  show ((toDs (iL ns)).map PyData.tuple).bind (fun d => ((toDs (iL ms)).map PyData.tuple).bind fun e => dEq d e) = _
  rw [toDs_ints, toDs_ints]
  show (if SeqAt.shaped (.tuple (ns.map PyData.int)) && SeqAt.shaped (.tuple (ms.map PyData.int)) then some (PyData.eqv (.tuple (ns.map PyData.int)) (.tuple (ms.map PyData.int))) else none) = _
  rw [shaped_intsT, shaped_intsT]
  simp only [PyData.eqv, eqvAll_ints]; rfl
theorem pEq_intsT : pEq (.tup (iL ns)) (.tup (iL ms)) = some (.bl (decide (ns = ms))) := by unfold pEq; rw [pEqB_intsT]; rfl
theorem pNe_intsT : pNe (.tup (iL ns)) (.tup (iL ms)) = some (.bl (!decide (ns = ms))) := by unfold pNe; rw [pEqB_intsT]; rfl
theorem any_ints : ∀ {ns : List Int}, ((ns.map PyData.int).any fun z => PyData.eqv z (.int i)) = decide (i ∈ ns)
  | [] => by simp
  | n :: ns => by
    rw [List.map_cons, List.any_cons, any_ints]
    simp only [PyData.eqv, List.mem_cons]
    by_cases h : n = i
    · subst h; simp
    · have : ¬ i = n := fun e => h e.symm
      simp [h, this]
theorem dIn_ints : dIn (.int i) (ns.map PyData.int) = some (decide (i ∈ ns)) := by
  unfold dIn
  rw [shaped_int, shaped_ints, any_ints]; rfl
theorem pInB_ints : pInB (.int i) (.lst (iL ns)) = some (decide (i ∈ ns)) := by
  show (toD (.int i)).bind (fun d => (toDs (iL ns)).bind fun ds => dIn d ds) = _
  rw [toDs_ints]
  exact dIn_ints
theorem pInB_intsT : pInB (.int i) (.tup (iL ns)) = some (decide (i ∈ ns)) := by
  show (toD (.int i)).bind (fun d => (toDs (iL ns)).bind fun ds => dIn d ds) = _
  rw [toDs_ints]
  exact dIn_ints
theorem pIn_ints : pIn (.int i) (.lst (iL ns)) = some (.bl (decide (i ∈ ns))) := by unfold pIn; rw [pInB_ints]; rfl
theorem pIn_intsT : pIn (.int i) (.tup (iL ns)) = some (.bl (decide (i ∈ ns))) := by unfold pIn; rw [pInB_intsT]; rfl
theorem pNotIn_ints : pNotIn (.int i) (.lst (iL ns)) = some (.bl (!decide (i ∈ ns))) := by unfold pNotIn; rw [pInB_ints]; rfl
theorem pNotIn_intsT : pNotIn (.int i) (.tup (iL ns)) = some (.bl (!decide (i ∈ ns))) := by unfold pNotIn; rw [pInB_intsT]; rfl
theorem bSorted_ints : bSorted [.lst (iL ns)] = some (.lst (iL (sortI ns))) := by
  show (match intsP (iL ns) with
    | some ns => some (MC.lst ((sortI ns).map .int))
    | none => _) = _
  rw [intsP_ints]
theorem bSorted_intsT : bSorted [.tup (iL ns)] = some (.lst (iL (sortI ns))) := by
  show (intsP (iL ns)).map (fun ns => MC.lst ((sortI ns).map .int)) = _
  rw [intsP_ints]; rfl
theorem bLenSet_ints (h : ns.length ≤ 4000) : bLenSet (.lst (iL ns)) = some (.int (dset ns).length) := by
  show (match intsP (iL ns) with
    | some ns => if ns.length ≤ 4000 then some (PV.int (dset ns).length) else none
    | none => _) = _
  rw [intsP_ints]
  exact if_pos h
theorem bLenSet_intsT (h : ns.length ≤ 4000) : bLenSet (.tup (iL ns)) = some (.int (dset ns).length) := by
  show (intsP (iL ns)).bind (fun ns => if ns.length ≤ 4000 then some (PV.int (dset ns).length) else none) = _
  rw [intsP_ints]
  exact if_pos h
end
def rg (n : Nat) : List Int := (List.range n).map fun (i : Nat) => (i : Int)
theorem rg_length {n : Nat} : (rg n).length = n := by simp [rg]
theorem rg_sorted {n : Nat} : (rg n).Pairwise (· ≤ ·) := by
  unfold rg
  rw [List.pairwise_map]
  exact List.Pairwise.imp (fun h => by omega) (List.pairwise_lt_range (n := n))
theorem rg_nodup {n : Nat} : (rg n).Nodup := by
  unfold rg List.Nodup
  rw [List.pairwise_map]
  exact List.Pairwise.imp (fun h => by omega) (List.pairwise_lt_range (n := n))
theorem mem_rg {n : Nat} {i : Int} : i ∈ rg n ↔ 0 ≤ i ∧ i < n := by
  unfold rg
  rw [List.mem_map]
  constructor
  · rintro ⟨j, h, rfl⟩
    rw [List.mem_range] at h
    omega
  · rintro ⟨h1, h2⟩
    exact ⟨i.toNat, by rw [List.mem_range]; omega, by omega⟩
theorem rg_zero : rg 0 = [] := rfl
theorem rg_succ {n : Nat} : rg (n + 1) = rg n ++ [(n : Int)] := by simp [rg, List.range_succ]
theorem rngL_rg {n : Nat} : rngL 0 1 n = iL (rg n) := by simp [rngL, rg, iL]
theorem sortI_rg {n : Nat} {ns : List Int} (h : ns.Perm (rg n)) : sortI ns = rg n := sorted_unique ((sortI_perm ns).trans h) (sortI_sorted ns) rg_sorted
theorem perm_ints : ∀ {ps : List PV} {ns : List Int}, ps.Perm (iL ns) → ∃ ms : List Int, ps = iL ms ∧ ms.Perm ns
  | [], ns, h => by
    have := h.length_eq
    have : ns = [] := by cases ns with
      | nil => rfl
      | cons => simp [iL] at this
    subst this
    exact ⟨[], rfl, .refl _⟩
  | p :: ps, ns, h => by
    have hp : p ∈ iL ns := h.mem_iff.mp (List.mem_cons_self ..)
    obtain ⟨n, hn, rfl⟩ := List.mem_map.mp hp
    have h1 : ns.Perm (n :: ns.erase n) := List.perm_cons_erase hn
    have h2 : (iL ns).Perm (PV.int n :: iL (ns.erase n)) := h1.map PV.int
    obtain ⟨ms, rfl, h3⟩ := perm_ints (List.Perm.cons_inv (h.trans h2))
    exact ⟨n :: ms, rfl, (h3.cons n).trans h1.symm⟩
theorem sIx_n {n d : Nat} : HT.sIx n d none = d := rfl
theorem sIx_pos {n d : Nat} {k : Int} (h : 0 ≤ k) : HT.sIx n d (some k) = min k.toNat n := if_neg (by omega)
theorem cut_to {α : Type} {xs : List α} {k : Int} (h : 0 ≤ k) : cut xs none (some k) = xs.take k.toNat := by
  unfold cut
  rw [sIx_n, sIx_pos h, List.drop_zero, Nat.sub_zero]
  by_cases h2 : k.toNat < xs.length
  · rw [Nat.min_eq_left (by omega)]
  · rw [Nat.min_eq_right (by omega), List.take_length, List.take_of_length_le (by omega)]
theorem cut_from {α : Type} {xs : List α} {k : Int} (h : 0 ≤ k) : cut xs (some k) none = xs.drop k.toNat := by
  unfold cut
  rw [sIx_n, sIx_pos h, List.take_of_length_le (by simp)]
  by_cases h2 : k.toNat < xs.length
  · rw [Nat.min_eq_left (by omega)]
  · rw [Nat.min_eq_right (by omega), List.drop_length, List.drop_eq_nil_of_le (by omega)]
theorem mkArgs_t {st : ST} : ∀ {ps : List PV}, mkArgs st (ps.map SV.t) = some (ps.map Arg.t, [])
  | [] => rfl
  | p :: ps => by
    show (mkArgs st (ps.map SV.t)).map (fun z => (Arg.t p :: z.1, z.2)) = _
    rw [mkArgs_t]; rfl
theorem cRun_t {F : Fm} {st : ST} {ps : List PV} {q : PV} {o : List MC} (h : F (ps.map .t) = .ok (.t q) o) : cRun F st (ps.map .t) = .ok (.t q) st := by
  unfold cRun
  rw [mkArgs_t]
  show (if ([] : List PL).Nodup then cRes st [] (F (ps.map Arg.t)) else .stuck) = _
  rw [if_pos List.nodup_nil, h]
  show Out.ok (SV.t q) (putBack st [] o) = _
  simp [putBack]
theorem cRun_n {F : Fm} {st : ST} {ps : List PV} {q : MC} {o : List MC} (h : F (ps.map .t) = .ok (.n q) o) : cRun F st (ps.map .t) = .ok (.t q.pv) st := by
  unfold cRun
  rw [mkArgs_t]
  show (if ([] : List PL).Nodup then cRes st [] (F (ps.map Arg.t)) else .stuck) = _
  rw [if_pos List.nodup_nil, h]
  show Out.ok (SV.t q.pv) (putBack st [] o) = _
  simp [putBack]
theorem cRun1 {F : Fm} {st : ST} {p q : PV} {o : List MC} (h : F [.t p] = .ok (.t q) o) : cRun F st [.t p] = .ok (.t q) st := cRun_t (ps := [p]) h
theorem cRun2 {F : Fm} {st : ST} {p1 p2 q : PV} {o : List MC} (h : F [.t p1, .t p2] = .ok (.t q) o) : cRun F st [.t p1, .t p2] = .ok (.t q) st := cRun_t (ps := [p1, p2]) h
theorem cRun3 {F : Fm} {st : ST} {p1 p2 p3 q : PV} {o : List MC} (h : F [.t p1, .t p2, .t p3] = .ok (.t q) o) : cRun F st [.t p1, .t p2, .t p3] = .ok (.t q) st := cRun_t (ps := [p1, p2, p3]) h
theorem cRun4 {F : Fm} {st : ST} {p1 p2 p3 p4 q : PV} {o : List MC} (h : F [.t p1, .t p2, .t p3, .t p4] = .ok (.t q) o) : cRun F st [.t p1, .t p2, .t p3, .t p4] = .ok (.t q) st := cRun_t (ps := [p1, p2, p3, p4]) h
theorem cRun5 {F : Fm} {st : ST} {p1 p2 p3 p4 p5 q : PV} {o : List MC} (h : F [.t p1, .t p2, .t p3, .t p4, .t p5] = .ok (.t q) o) : cRun F st [.t p1, .t p2, .t p3, .t p4, .t p5] = .ok (.t q) st := cRun_t (ps := [p1, p2, p3, p4, p5]) h
theorem lcL_map {tg : TgF} {fe : Cm SV} {vs : List Nat} {st : ST} {ps : List PV} (f : PV → PV)
    (step : ∀ p, p ∈ ps → ∃ l, tg p = some l ∧ fe (st.sets l) = .ok (.t (f p)) (st.sets l) ∧ (st.sets l).clear vs = st) :
    lcL tg cYes fe vs ps st = .ok (ps.map f) st := by
  have := lcL_filter (tg := tg) (fc := cYes) (fe := fe) (vs := vs) (st := st) (ps := ps) (fun _ => true) f fun p hp => by
    obtain ⟨l, e1, e2, e3⟩ := step p hp
    exact ⟨l, e1, rfl, fun _ => e2, e3⟩
  rw [this, List.filter_eq_self.mpr fun _ _ => rfl]
theorem bools_map {α : Type} {f : α → Bool} : ∀ {l : List α}, bools (l.map fun x => .bl (f x)) = some (l.map f)
  | [] => rfl
  | x :: l => by
    show (bools (l.map fun x => .bl (f x))).map (fun z => f x :: z) = _
    rw [bools_map]; rfl
theorem bAll_map {α : Type} {f : α → Bool} {l : List α} : bAll [.lst (l.map fun x => .bl (f x))] = some (.bl (l.all f)) := by
  show (bools (l.map fun x => .bl (f x))).map (fun ns => PV.bl (ns.all _root_.id)) = _
  rw [bools_map]
  simp
theorem bAny_map {α : Type} {f : α → Bool} {l : List α} : bAny [.lst (l.map fun x => .bl (f x))] = some (.bl (l.any f)) := by
  show (bools (l.map fun x => .bl (f x))).map (fun ns => PV.bl (ns.any _root_.id)) = _
  rw [bools_map]
  simp
end Cl
set_option Elab.async false
set_option linter.all false
set_option maxRecDepth 100000
set_option maxHeartbeats 4000000
namespace Std
open Cl PySem PySem.Spec PyProof.Rows L2
abbrev N_law_pool : List PySem.Str := ["_law_script", "_law_k", "_law_cell", "_law_mixed"]
abbrev pl_law_pool : Plan := [.inl 0, .inl 1]
def g_law_pool : Sm := (sSeq (sSet 2 (cC (.int 0))) (sSeq (sIf (cTruth (cBin pLt (cVar 1) (cList bLen (cCons (cVar 0) cNil)))) (sSet 2 (cList bAbs (cCons (cBin pIx (cVar 0) (cVar 1)) cNil))) sNil) (sSeq (sSet 3 (cBin pMod (cBin pMul (cBin pAdd (cBin pAdd (cBin pAdd (cBin pMod (cVar 2) (cC (.int 2147483629))) (cBin pMul (cBin pMul (cC (.int 7919)) (cVar 1)) (cVar 1))) (cBin pMul (cC (.int 31)) (cVar 1))) (cC (.int 17))) (cC (.int 48271))) (cC (.int 2147483647)))) (sRetM (mDisp (cCons (cBin pMul (cVar 2) (cList bInt (cCons (cBin pGe (cVar 2) (cBin pPow (cC (.int 10)) (cC (.int 18)))) cNil))) (cCons (cBin pMod (cBin pMul (cVar 3) (cVar 3)) (cC (.int 2147483629))) cNil)))))))
def F_law_pool : Fm := runF 4 g_law_pool
abbrev N_law_take : List PySem.Str := ["_law_pool_here", "_law_count", "_law_result"]
abbrev pl_law_take : Plan := [.inl 0, .inl 1]
def g_law_take : Sm := (sSeq (sIf (cTruth (cBin pGt (cBin pIx (cVar 0) (cC (.int 0))) (cC (.int 0)))) (sSeq (sSet 2 (cBin pMod (cBin pIx (cVar 0) (cC (.int 0))) (cVar 1))) (sSeq (sItem (cBin pDiv (cBin pIx (cVar 0) (cC (.int 0))) (cVar 1)) (cVar 0) (cC (.int 0))) (sRet (cVar 2)))) sNil) (sSeq (sItem (cBin pMod (cBin pAdd (cBin pMul (cBin pIx (cVar 0) (cC (.int 1))) (cC (.int 48271))) (cC (.int 12345))) (cC (.int 2147483647))) (cVar 0) (cC (.int 1))) (sRet (cBin pMod (cBin pDiv (cBin pMod (cBin pMul (cBin pIx (cVar 0) (cC (.int 1))) (cBin pIx (cVar 0) (cC (.int 1)))) (cC (.int 2147483629))) (cC (.int 64))) (cVar 1)))))
def F_law_take : Fm := runF 3 g_law_take
abbrev N_law_shuffle : List PySem.Str := ["_law_pool_here", "_law_items", "_law_rest", "_law_result", "_law_turn"]
abbrev pl_law_shuffle : Plan := [.inl 0, .inl 1]
def p_law_shuffle_0 : Sm := (sExpr (cPl opAppend (cVar 3) (cCons (cPl opPop (cVar 2) (cCons (cCallF (fcDef 2 pl_law_take F_law_take) (cCons (cVar 0) (cCons (cList bLen (cCons (cVar 2) cNil)) cNil))) cNil)) cNil)))
def g_law_shuffle : Sm := (sSeq (sPar [2, 3] (nM (mList bList (cCons (cVar 1) cNil)) (nM (mDisp cNil) nNil))) (sSeq (sFor (cRng1 (cCons (cList bLen (cCons (cVar 1) cNil)) cNil)) (tgN 4) p_law_shuffle_0) (sRetM (mMv 3))))
def F_law_shuffle : Fm := runF 5 g_law_shuffle
abbrev N_is_integer : List PySem.Str := ["value", "minimum"]
abbrev pl_is_integer : Plan := [.inl 0, .inl 1]
abbrev pl1_is_integer : Plan := [.inl 0, .inr (.int 0)]
def g_is_integer : Sm := (sRet (cAndV (cList (bIsi tbB) (cCons (cVar 0) (cCons (cC (.ty "int")) cNil))) (cAndV (cNotV (cList (bIsi tbB) (cCons (cVar 0) (cCons (cC (.ty "bool")) cNil)))) (cBin pGe (cVar 0) (cVar 1)))))
def F_is_integer : Fm := runF 2 g_is_integer
abbrev N_is_index : List PySem.Str := ["value", "size"]
abbrev pl_is_index : Plan := [.inl 0, .inl 1]
def g_is_index : Sm := (sRet (cAndV (cCallF (fcDef 1 pl1_is_integer F_is_integer) (cCons (cVar 0) cNil)) (cBin pLt (cVar 0) (cVar 1))))
def F_is_index : Fm := runF 2 g_is_index
abbrev N_is_order : List PySem.Str := ["value", "size", "item"]
abbrev pl_is_order : Plan := [.inl 0, .inl 1]
def c_is_order_0_t : Cm Bool := cYes
def c_is_order_0_e : Cm SV := (cCallF (fcDef 1 pl1_is_integer F_is_integer) (cCons (cVar 2) cNil))
def g_is_order : Sm := (sSeq (sIf (cOr (cNot (cTruth (cList (bIsi tbB) (cCons (cVar 0) (cCons (cDisp .tup (cCons (cC (.ty "list")) (cCons (cC (.ty "tuple")) cNil))) cNil))))) (cNot (cTruth (cList bAll (cCons (cFrz (mLc (cIt (cVar 0)) (tgN 2) (c_is_order_0_t) (c_is_order_0_e) [2])) cNil))))) (sRet (cC (.bl false))) sNil) (sRet (cBin pEq (cFrz (mList bSorted (cCons (cVar 0) cNil))) (cFrz (mRg1 (cVar 1))))))
def F_is_order : Fm := runF 3 g_is_order
abbrev N_Profile_is_ranking : List PySem.Str := ["value"]
abbrev pl_Profile_is_ranking : Plan := [.inl 0]
def g_Profile_is_ranking : Sm := (sSeq (sIf (cOr (cNot (cTruth (cList (bIsi tbB) (cCons (cVar 0) (cCons (cC (.ty "tuple")) cNil))))) (cNot (cTruth (cChain pLe pLe (cC (.int 1)) (cList bLen (cCons (cVar 0) cNil)) (cClV 0 (.int 10) (cC (.fn 0))))))) (sRet (cC (.bl false))) sNil) (sRet (cCallF (fcDef 2 pl_is_order F_is_order) (cCons (cVar 0) (cCons (cList bLen (cCons (cVar 0) cNil)) cNil)))))
def F_Profile_is_ranking : Fm := runF 1 g_Profile_is_ranking
def tk (a b n : Int) : Int × (Int × Int) := if 0 < a then (a % n, (a / n, b)) else
  let b' := (b * 48271 + 12345) % 2147483647
  (b' * b' % 2147483629 / 64 % n, (a, b'))
abbrev pool (a b : Int) : MC := .lst [.int a, .int b]
theorem take_eq (a b n : Int) (h : 0 < n) (h2 : n < 1073741824) : F_law_take [.i (pool a b), .t (.int n)] = .ok (.t (.int (tk a b n).1)) [pool (tk a b n).2.1 (tk a b n).2.2] := by
  unfold F_law_take runF g_law_take
  by_cases ha : 0 < a
  · have h2' : n.natAbs < 1073741824 := by omega
    simp [tk, ha, enter, slots, conts, pIx, atI, ixN, pCmp, pMod, pDiv, h, h2']
  · have hb : 0 ≤ (b * 48271 + 12345) % 2147483647 := Int.emod_nonneg _ (by decide)
    have hb2 : (b * 48271 + 12345) % 2147483647 < 2147483647 := Int.emod_lt_of_pos _ (by decide)
    have hs : Cl.small64 ((b * 48271 + 12345) % 2147483647) = true := by simp [Cl.small64]; omega
    have h2' : n.natAbs < 1073741824 := by omega
    have hs2 : Cl.small64 48271 = true := by decide
    simp [tk, ha, enter, slots, conts, pIx, atI, ixN, pCmp, pMod, pDiv, pMul, pAdd, h, h2, hs, hs2]
theorem tk_range (a b n : Int) (h : 0 < n) : 0 ≤ (tk a b n).1 ∧ (tk a b n).1 < n := by
  unfold tk
  split
  · exact ⟨Int.emod_nonneg _ (by omega), Int.emod_lt_of_pos _ h⟩
  · exact ⟨Int.emod_nonneg _ (by omega), Int.emod_lt_of_pos _ h⟩
theorem run_take {st : ST} {q : PL} {a b n : Int} (hq : getP st q = some (pool a b)) (h : 0 < n) (h2 : n < 1073741824) :
    ∃ r a' b', 0 ≤ r ∧ r < n ∧ cRun F_law_take st [.pl q, .t (.int n)] = .ok (.t (.int r)) (Cl.setP st q (pool a' b')) := by
  obtain ⟨h3, h4⟩ := tk_range a b n h
  refine ⟨(tk a b n).1, (tk a b n).2.1, (tk a b n).2.2, h3, h4, ?_⟩
  unfold cRun
  simp only [mkArgs, hq, Option.bind_some, Option.map_some]
  rw [if_pos (by simp)]
  rw [take_eq a b n h h2]
  rfl
theorem pick2 {x y : SV} : pickS [.inl 0, .inl 1] [x, y] = [x, y] := rfl
theorem eraseIdx_perm {α : Type} : ∀ {l : List α} {i : Nat} {x : α}, l[i]? = some x → l.Perm (x :: l.eraseIdx i)
  | [], _, _, h => by simp at h
  | y :: l, 0, x, h => by simp at h; subst h; exact .refl _
  | y :: l, i + 1, x, h => by
    have := eraseIdx_perm (l := l) (i := i) (by simpa using h)
    exact (this.cons y).trans (.swap x y _)
theorem shuffle_step {items rest res : List PV} {a b : Int} {t : Option SL} {p : PV} (hpos : 0 < rest.length) (hle : rest.length ≤ 1000) (hle2 : res.length ≤ 1000) :
    ∃ i a' b', ∃ h : i < rest.length, forB (tgN 4) p_law_shuffle_0 p ⟨[some (.i 0), some (.t (.lst items)), some (.m (.lst rest)), some (.m (.lst res)), t], [pool a b]⟩ =
      .nx ⟨[some (.i 0), some (.t (.lst items)), some (.m (.lst (rest.eraseIdx i))), some (.m (.lst (res ++ [rest[i]]))), some (.t p)], [pool a' b']⟩ := by
  obtain ⟨r, a', b', r0, r1, er⟩ := run_take (st := ⟨[some (.i 0), some (.t (.lst items)), some (.m (.lst rest)), some (.m (.lst res)), some (.t p)], [pool a b]⟩) (q := .ih 0) (a := a) (b := b) (n := rest.length) rfl (by omega) (by omega)
  have hix : ixN rest.length r = some r.toNat := by unfold ixN; rw [if_pos r0, if_pos r1]
  have hlt : r.toNat < rest.length := by omega
  have z1 : decide (rest.length < 2 ^ 62) = true := decide_eq_true (by omega)
  have z2 : decide (res.length < 16777216) = true := decide_eq_true (by omega)
  refine ⟨r.toNat, a', b', hlt, ?_⟩
  have o1 : opPop rest [.int r] = some (rest[r.toNat], rest.eraseIdx r.toNat) := by simp [opPop, hix, List.getElem?_eq_getElem hlt, z1]
  have o2 : opAppend res [rest[r.toNat]] = some (.non, res ++ [rest[r.toNat]]) := by simp [opAppend]; omega
  simp only [ev_bind_ok, ev_bind_stuck, ev_bind_exc, ev_cC, ev_ofO, ev_ofM, ev_cVar, ev_cMv, ev_mMv, ev_cUn, ev_cBin, ev_cNil, ev_cCons, ev_views_nil, ev_views_cons, ev_view_t, ev_view_sl, ev_view_ih, ev_pv_lst, ev_pv_obj, ev_pv_dct, ev_cList, ev_mList, ev_cTruth, ev_cAnd, ev_cOr, ev_cNot, ev_cAndV, ev_cOrV, ev_cNotV, ev_cIf, ev_cYes, ev_cChain, ev_cDisp, ev_mDisp, ev_trees_nil, ev_trees_cons, ev_cFrz, ev_sNil, ev_sNo, ev_sSeq, ev_bindS_ok, ev_bindS_stuck, ev_sExpr, ev_sRet, ev_sRetN, ev_sRetM, ev_sIf, ev_sSet, ev_sSetM, ev_sAsg, ev_sItem, ev_getP_sl, ev_getP_ih, ev_setP_sl, ev_setP_ih, ev_set, ev_sets_nil, ev_sets_cons, ev_tgN, ev_tgS_tup, ev_tgS_lst, ev_tgs_nil, ev_tgs_cons, ev_nNil, ev_nT, ev_nM, ev_sPar, ev_setFs_nil, ev_setFs_t, ev_setFs_n, ev_cPl, ev_cCallF, ev_mCallF, ev_fcDef, ev_fcDefM, ev_mRg1, ev_cRng1, ev_cIt, ev_sFor, ev_clear_nil, ev_clear_cons, ev_restore_nil, ev_restore_cons, List.set, List.getElem?_cons_succ, List.getElem?_cons_zero, Option.bind_some, Option.map_some, List.length_cons, List.length_nil, if_true, Bool.not_true, Bool.not_false, Bool.false_eq_true, if_false, reduceIte, decide_true, decide_false, Nat.reduceAdd, Nat.zero_add, List.getD_cons_succ, List.getD_cons_zero, forB, p_law_shuffle_0, bLen, pick2, er, o1, o2]
theorem szOk0 : Cl.szOk 0 = true := by decide
theorem sm1000 {n : Nat} (h : n ≤ 1000) : smallI (n : Int) = true := by simp [smallI]; omega
def ShI (items : List PV) (ps : List PV) (st : Cl.ST) : Prop := ∃ rest res a b t, st = ⟨[some (.i 0), some (.t (.lst items)), some (.m (.lst rest)), some (.m (.lst res)), t], [pool a b]⟩ ∧ rest.length = ps.length ∧ (res ++ rest).Perm items
theorem shuffle_turn {items : List PV} (hl : items.length ≤ 1000) (p : PV) (ps : List PV) (st : Cl.ST) (h : ShI items (p :: ps) st) : ∃ st', (forB (tgN 4) p_law_shuffle_0 p st = .nx st' ∨ forB (tgN 4) p_law_shuffle_0 p st = .ct st') ∧ ShI items ps st' := by
  obtain ⟨rest, res, a, b, t, rfl, hr, hp⟩ := h
  have hlen := hp.length_eq
  rw [List.length_append] at hlen
  rw [List.length_cons] at hr
  obtain ⟨i, a', b', h, es⟩ := shuffle_step (items := items) (rest := rest) (res := res) (a := a) (b := b) (t := t) (p := p) (by omega) (by omega) (by omega)
  refine ⟨_, .inl es, _, _, a', b', _, rfl, ?_, ?_⟩
  · rw [List.length_eraseIdx, if_pos h]; omega
  · refine List.Perm.trans ?_ hp
    rw [List.append_assoc]
    exact List.Perm.append_left res (eraseIdx_perm (List.getElem?_eq_getElem h)).symm
theorem shuffle_loop {items : List PV} (hl : items.length ≤ 1000) {ps : List PV} {a b : Int} (h : items.length = ps.length) : ∃ st', forL (forB (tgN 4) p_law_shuffle_0) ps ⟨[some (.i 0), some (.t (.lst items)), some (.m (.lst items)), some (.m (.lst [])), none], [pool a b]⟩ = .nx st' ∧ ShI items [] st' :=
  forL_inv (ShI items) (shuffle_turn hl) ⟨items, [], a, b, none, rfl, h, List.Perm.refl _⟩
theorem shuffle_ok (items : List PV) (a b : Int) (hl : items.length ≤ 1000) : ∃ perm a' b', perm.Perm items ∧ F_law_shuffle [.i (pool a b), .t (.lst items)] = .ok (.n (.lst perm)) [pool a' b'] := by
  obtain ⟨st', e, rest, res, a', b', t, rfl, hr, hp⟩ := shuffle_loop hl (ps := rngL 0 1 items.length) (a := a) (b := b) rngL_length.symm
  have : rest = [] := List.length_eq_zero_iff.mp hr
  subst this
  have hsm := sm1000 hl
  refine ⟨res, a', b', by simpa using hp, ?_⟩
  unfold F_law_shuffle runF g_law_shuffle
  simp only [ev_bind_ok, ev_bind_stuck, ev_bind_exc, ev_cC, ev_ofO, ev_ofM, ev_cVar, ev_cMv, ev_mMv, ev_cUn, ev_cBin, ev_cNil, ev_cCons, ev_views_nil, ev_views_cons, ev_view_t, ev_view_sl, ev_view_ih, ev_pv_lst, ev_pv_obj, ev_pv_dct, ev_cList, ev_mList, ev_cTruth, ev_cAnd, ev_cOr, ev_cNot, ev_cAndV, ev_cOrV, ev_cNotV, ev_cIf, ev_cYes, ev_cChain, ev_cDisp, ev_mDisp, ev_trees_nil, ev_trees_cons, ev_cFrz, ev_sNil, ev_sNo, ev_sSeq, ev_bindS_ok, ev_bindS_stuck, ev_sExpr, ev_sRet, ev_sRetN, ev_sRetM, ev_sIf, ev_sSet, ev_sSetM, ev_sAsg, ev_sItem, ev_getP_sl, ev_getP_ih, ev_setP_sl, ev_setP_ih, ev_set, ev_sets_nil, ev_sets_cons, ev_tgN, ev_tgS_tup, ev_tgS_lst, ev_tgs_nil, ev_tgs_cons, ev_nNil, ev_nT, ev_nM, ev_sPar, ev_setFs_nil, ev_setFs_t, ev_setFs_n, ev_cPl, ev_cCallF, ev_mCallF, ev_fcDef, ev_fcDefM, ev_mRg1, ev_cRng1, ev_cIt, ev_sFor, ev_clear_nil, ev_clear_cons, ev_restore_nil, ev_restore_cons, List.set, List.getElem?_cons_succ, List.getElem?_cons_zero, Option.bind_some, Option.map_some, List.length_cons, List.length_nil, if_true, Bool.not_true, Bool.not_false, Bool.false_eq_true, if_false, reduceIte, decide_true, decide_false, Nat.reduceAdd, Nat.zero_add, List.getD_cons_succ, List.getD_cons_zero, enter, slots, conts, bList, szOk0, bLen, hsm, e, List.replicate, Int.toNat_natCast, List.cons_append, List.nil_append]
theorem pool_eq (ns : List Int) (k : Nat) (hk : k < 1000) (hn : ns.length ≤ 63) : ∃ a b, F_law_pool [.t (.scr ns), .t (.int k)] = .ok (.n (pool a b)) [] := by
  have hs0 : Cl.small64 ((k : Int) * k) = true := by
    have : (k : Int) * k ≤ 1000 * 1000 := Int.mul_le_mul (by omega) (by omega) (by omega) (by omega)
    have : 0 ≤ (k : Int) * k := Int.mul_nonneg (by omega) (by omega)
    simp [Cl.small64]; omega
  have hs1 : Cl.small64 7919 = true := by decide
  have hs2 : Cl.small64 31 = true := by decide
  have hs3 : Cl.small64 48271 = true := by decide
  have hs4 : Cl.small64 0 = true := by decide
  have hs5 : Cl.small64 1 = true := by decide
  have hsk : Cl.small64 (k : Int) = true := by simp [Cl.small64]; omega
  have hx : ∀ x : Int, Cl.small64 (x % 2147483647) = true := fun x => by
    have h1 := Int.emod_nonneg x (b := 2147483647) (by decide)
    have h2 := Int.emod_lt_of_pos x (b := 2147483647) (by decide)
    simp [Cl.small64]; omega
  have hp : pPow (.int 10) (.int 18) = some (.int 1000000000000000000) := rfl
  unfold F_law_pool runF g_law_pool
  by_cases hlt : (k : Int) < ns.length
  · have hat : atI ns (k : Int) = some ns[k] := by
      unfold atI ixN
      rw [if_pos (by omega), if_pos hlt]
      simp
    by_cases h18 : (1000000000000000000 : Int) ≤ (if ns[k] < 0 then -ns[k] else ns[k])
    · simp [enter, slots, conts, pIx, hat, pCmp, pMod, pMul, pAdd, bLen, bAbs, bInt, hp, h18, hlt, hs0, hs1, hs2, hs3, hs4, hs5, hx, hsk, szOk]
    · simp [enter, slots, conts, pIx, hat, pCmp, pMod, pMul, pAdd, bLen, bAbs, bInt, hp, h18, hlt, hs0, hs1, hs2, hs3, hs4, hs5, hx, hsk, szOk]
  · simp [enter, slots, conts, pIx, pCmp, pMod, pMul, pAdd, bLen, bAbs, bInt, hp, hlt, hs0, hs1, hs2, hs3, hs4, hs5, hx, hsk, szOk]
end Std
set_option Elab.async false
set_option linter.all false
set_option maxRecDepth 100000
set_option maxHeartbeats 4000000
namespace Std
open Cl PySem PySem.Spec PyProof.Rows L2
def isP : PV → Bool
  | .non => true
  | .bl _ => true
  | .int _ => true
  | .str _ => true
  | .lst _ => true
  | .tup _ => true
  | .dct _ => true
  | .scr _ => true
  | _ => false
def ofI (m : Int) : PV → Bool
  | .int i => decide (m ≤ i)
  | _ => false
def isInt : PV → Bool
  | .int _ => true
  | .bl _ => true
  | _ => false
def isBl : PV → Bool
  | .bl _ => true
  | _ => false
def isSq : PV → Bool
  | .lst _ => true
  | .scr _ => true
  | .tup _ => true
  | _ => false
def isTup : PV → Bool
  | .tup _ => true
  | _ => false
theorem isi_int {p : PV} (h : isP p = true) : bIsi tbB [p, .ty "int"] = some (.bl (isInt p)) := by cases p <;> first | rfl | cases h
theorem isi_bool {p : PV} (h : isP p = true) : bIsi tbB [p, .ty "bool"] = some (.bl (isBl p)) := by cases p <;> first | rfl | cases h
theorem isi_tup {p : PV} (h : isP p = true) : bIsi tbB [p, .ty "tuple"] = some (.bl (isTup p)) := by cases p <;> first | rfl | cases h
theorem isi_sq {p : PV} (h : isP p = true) : bIsi tbB [p, .tup [.ty "list", .ty "tuple"]] = some (.bl (isSq p)) := by cases p <;> first | rfl | cases h
theorem is_integer_eq {p : PV} {m : Int} (h : isP p = true) : F_is_integer [.t p, .t (.int m)] = .ok (.t (.bl (ofI m p))) [] := by
  cases p <;> first | rfl | cases h
def ofIx (n : Int) : PV → Bool
  | .int i => decide (0 ≤ i ∧ i < n)
  | _ => false
theorem is_index_eq {p : PV} {n : Int} (h : isP p = true) : F_is_index [.t p, .t (.int n)] = .ok (.t (.bl (ofIx n p))) [] := by
  have e : ∀ st, cRun F_is_integer st [.t p, .t (.int 0)] = .ok (.t (.bl (ofI 0 p))) st := fun st => cRun2 (is_integer_eq h)
  unfold F_is_index runF g_is_index
  cases p with
  | int i =>
    by_cases h0 : 0 ≤ i
    · simp [enter, slots, conts, pickS, pCmp, ofI, ofIx, e, h0]
    · simp [enter, slots, conts, pickS, pCmp, ofI, ofIx, e, h0]
  | ty _ => cases h
  | fn _ => cases h
  | obj _ _ => cases h
  | _ => simp [enter, slots, conts, pickS, pCmp, ofI, ofIx, e]
def sqL : PV → List PV
  | .lst ps => ps
  | .tup ps => ps
  | _ => []
theorem order_lc {ps : List PV} {x y : Option SL} (h : ps.all isP = true) : lcL (tgN 2) c_is_order_0_t c_is_order_0_e [2] ps ⟨[x, y, none], []⟩ = .ok (ps.map fun p => .bl (ofI 0 p)) ⟨[x, y, none], []⟩ :=
  lcL_map _ fun p hp => by
    have hq := List.all_eq_true.mp h p hp
    refine ⟨_, rfl, ?_, rfl⟩
    have e : ∀ st, cRun F_is_integer st [.t p, .t (.int 0)] = .ok (.t (.bl (ofI 0 p))) st := fun st => cRun2 (is_integer_eq hq)
    simp [c_is_order_0_e, pickS, e]
theorem all_ofI : ∀ {ps : List PV}, (ps.all (ofI 0)) = true → ∃ ns, ps = iL ns
  | [], _ => ⟨[], rfl⟩
  | p :: ps, h => by
    rw [List.all_cons, Bool.and_eq_true] at h
    obtain ⟨ns, rfl⟩ := all_ofI h.2
    cases p with
    | int i => exact ⟨i :: ns, rfl⟩
    | _ => cases h.1
def ordL (n : Int) (ps : List PV) : Bool := match intsP ps with
  | some ns => ns.all (fun i => decide (0 ≤ i)) && decide (sortI ns = rg n.toNat)
  | none => false
theorem is_order_no {p : PV} {n : Int} (h : isP p = true) (hs : isSq p = false) : F_is_order [.t p, .t (.int n)] = .ok (.t (.bl false)) [] := by
  unfold F_is_order runF g_is_order
  simp [enter, slots, conts, isi_sq h, hs, szOk]
theorem all_ofI_iL : ∀ {ns : List Int}, (iL ns).all (ofI 0) = ns.all (fun i => decide (0 ≤ i))
  | [] => rfl
  | n :: ns => by
    show (ofI 0 (.int n) && (iL ns).all (ofI 0)) = _
    rw [all_ofI_iL]; rfl
theorem ordL_no {ps : List PV} {n : Int} (h : ¬ ps.all (ofI 0) = true) : ordL n ps = false := by
  unfold ordL
  cases e : intsP ps with
  | none => rfl
  | some ns =>
    rw [ints_eq e, all_ofI_iL, Bool.not_eq_true] at h
    show (ns.all _ && _) = false
    rw [h]; rfl
theorem ordL_yes {ns : List Int} {n : Int} (h : (iL ns).all (ofI 0) = true) : ordL n (iL ns) = decide (sortI ns = rg n.toNat) := by
  unfold ordL
  rw [intsP_ints]
  rw [all_ofI_iL] at h
  show (ns.all _ && _) = _
  rw [h]; rfl
theorem is_order_lst {ps : List PV} {n : Int} (h : ps.all isP = true) (hl : ps.length ≤ 1000) (hn : n.natAbs ≤ 1000) : F_is_order [.t (.lst ps), .t (.int n)] = .ok (.t (.bl (ordL n ps))) [] := by
  have hsz : decide (n.toNat ≤ 16777216) = true := decide_eq_true (by omega)
  have hsm : smallI n = true := by simp [smallI]; omega
  have hz : szOk (ps.map fun p => PV.bl (ofI 0 p)).length = true := by simp [szOk]; omega
  have hz2 : szOk 2 = true := by decide
  have hb := bAll_map (f := ofI 0) (l := ps)
  have h1 := isi_sq (p := .lst ps) rfl
  unfold F_is_order runF g_is_order
  by_cases ha : ps.all (ofI 0) = true
  · obtain ⟨ns, rfl⟩ := all_ofI ha
    rw [ordL_yes ha]
    rw [ha] at hb
    simp only [ev_bind_ok, ev_bind_stuck, ev_bind_exc, ev_cC, ev_ofO, ev_ofM, ev_cVar, ev_cMv, ev_mMv, ev_cUn, ev_cBin, ev_cNil, ev_cCons, ev_views_nil, ev_views_cons, ev_view_t, ev_view_sl, ev_view_ih, ev_pv_lst, ev_pv_obj, ev_pv_dct, ev_cList, ev_mList, ev_cTruth, ev_cAnd, ev_cOr, ev_cNot, ev_cAndV, ev_cOrV, ev_cNotV, ev_cIf, ev_cYes, ev_cChain, ev_cDisp, ev_mDisp, ev_trees_nil, ev_trees_cons, ev_cFrz, ev_sNil, ev_sNo, ev_sSeq, ev_bindS_ok, ev_bindS_stuck, ev_sExpr, ev_sRet, ev_sRetN, ev_sRetM, ev_sIf, ev_sSet, ev_sSetM, ev_sAsg, ev_sItem, ev_getP_sl, ev_getP_ih, ev_setP_sl, ev_setP_ih, ev_set, ev_sets_nil, ev_sets_cons, ev_tgN, ev_tgS_tup, ev_tgS_lst, ev_tgs_nil, ev_tgs_cons, ev_nNil, ev_nT, ev_nM, ev_sPar, ev_setFs_nil, ev_setFs_t, ev_setFs_n, ev_cPl, ev_cCallF, ev_mCallF, ev_fcDef, ev_fcDefM, ev_mRg1, ev_cRng1, ev_cIt, ev_sFor, ev_clear_nil, ev_clear_cons, ev_restore_nil, ev_restore_cons, List.set, List.getElem?_cons_succ, List.getElem?_cons_zero, Option.bind_some, Option.map_some, List.length_cons, List.length_nil, if_true, Bool.not_true, Bool.not_false, Bool.false_eq_true, if_false, reduceIte, decide_true, decide_false, Nat.reduceAdd, Nat.zero_add, List.getD_cons_succ, List.getD_cons_zero, ev_mLc, enter, slots, conts, h1, isSq, plainAt, List.all_cons, List.all_nil, List.replicate, List.cons_append, List.nil_append, Nat.reduceSub, order_lc h, hz, hz2, hb, bSorted_ints, pEq_ints, rngL_rg, hsz, hsm, Bool.and_self, Bool.and_true]
  · rw [ordL_no ha]
    rw [Bool.not_eq_true] at ha
    rw [ha] at hb
    simp only [ev_bind_ok, ev_bind_stuck, ev_bind_exc, ev_cC, ev_ofO, ev_ofM, ev_cVar, ev_cMv, ev_mMv, ev_cUn, ev_cBin, ev_cNil, ev_cCons, ev_views_nil, ev_views_cons, ev_view_t, ev_view_sl, ev_view_ih, ev_pv_lst, ev_pv_obj, ev_pv_dct, ev_cList, ev_mList, ev_cTruth, ev_cAnd, ev_cOr, ev_cNot, ev_cAndV, ev_cOrV, ev_cNotV, ev_cIf, ev_cYes, ev_cChain, ev_cDisp, ev_mDisp, ev_trees_nil, ev_trees_cons, ev_cFrz, ev_sNil, ev_sNo, ev_sSeq, ev_bindS_ok, ev_bindS_stuck, ev_sExpr, ev_sRet, ev_sRetN, ev_sRetM, ev_sIf, ev_sSet, ev_sSetM, ev_sAsg, ev_sItem, ev_getP_sl, ev_getP_ih, ev_setP_sl, ev_setP_ih, ev_set, ev_sets_nil, ev_sets_cons, ev_tgN, ev_tgS_tup, ev_tgS_lst, ev_tgs_nil, ev_tgs_cons, ev_nNil, ev_nT, ev_nM, ev_sPar, ev_setFs_nil, ev_setFs_t, ev_setFs_n, ev_cPl, ev_cCallF, ev_mCallF, ev_fcDef, ev_fcDefM, ev_mRg1, ev_cRng1, ev_cIt, ev_sFor, ev_clear_nil, ev_clear_cons, ev_restore_nil, ev_restore_cons, List.set, List.getElem?_cons_succ, List.getElem?_cons_zero, Option.bind_some, Option.map_some, List.length_cons, List.length_nil, if_true, Bool.not_true, Bool.not_false, Bool.false_eq_true, if_false, reduceIte, decide_true, decide_false, Nat.reduceAdd, Nat.zero_add, List.getD_cons_succ, List.getD_cons_zero, ev_mLc, enter, slots, conts, h1, isSq, plainAt, List.all_cons, List.all_nil, List.replicate, List.cons_append, List.nil_append, Nat.reduceSub, order_lc h, hz, hz2, hb, Bool.and_self, Bool.and_true]
theorem is_order_tup {ps : List PV} {n : Int} (h : ps.all isP = true) (hl : ps.length ≤ 1000) (hn : n.natAbs ≤ 1000) : F_is_order [.t (.tup ps), .t (.int n)] = .ok (.t (.bl (ordL n ps))) [] := by
  have hsz : decide (n.toNat ≤ 16777216) = true := decide_eq_true (by omega)
  have hsm : smallI n = true := by simp [smallI]; omega
  have hz : szOk (ps.map fun p => PV.bl (ofI 0 p)).length = true := by simp [szOk]; omega
  have hz2 : szOk 2 = true := by decide
  have hb := bAll_map (f := ofI 0) (l := ps)
  have h1 := isi_sq (p := .tup ps) rfl
  unfold F_is_order runF g_is_order
  by_cases ha : ps.all (ofI 0) = true
  · obtain ⟨ns, rfl⟩ := all_ofI ha
    rw [ordL_yes ha]
    rw [ha] at hb
    simp only [ev_bind_ok, ev_bind_stuck, ev_bind_exc, ev_cC, ev_ofO, ev_ofM, ev_cVar, ev_cMv, ev_mMv, ev_cUn, ev_cBin, ev_cNil, ev_cCons, ev_views_nil, ev_views_cons, ev_view_t, ev_view_sl, ev_view_ih, ev_pv_lst, ev_pv_obj, ev_pv_dct, ev_cList, ev_mList, ev_cTruth, ev_cAnd, ev_cOr, ev_cNot, ev_cAndV, ev_cOrV, ev_cNotV, ev_cIf, ev_cYes, ev_cChain, ev_cDisp, ev_mDisp, ev_trees_nil, ev_trees_cons, ev_cFrz, ev_sNil, ev_sNo, ev_sSeq, ev_bindS_ok, ev_bindS_stuck, ev_sExpr, ev_sRet, ev_sRetN, ev_sRetM, ev_sIf, ev_sSet, ev_sSetM, ev_sAsg, ev_sItem, ev_getP_sl, ev_getP_ih, ev_setP_sl, ev_setP_ih, ev_set, ev_sets_nil, ev_sets_cons, ev_tgN, ev_tgS_tup, ev_tgS_lst, ev_tgs_nil, ev_tgs_cons, ev_nNil, ev_nT, ev_nM, ev_sPar, ev_setFs_nil, ev_setFs_t, ev_setFs_n, ev_cPl, ev_cCallF, ev_mCallF, ev_fcDef, ev_fcDefM, ev_mRg1, ev_cRng1, ev_cIt, ev_sFor, ev_clear_nil, ev_clear_cons, ev_restore_nil, ev_restore_cons, List.set, List.getElem?_cons_succ, List.getElem?_cons_zero, Option.bind_some, Option.map_some, List.length_cons, List.length_nil, if_true, Bool.not_true, Bool.not_false, Bool.false_eq_true, if_false, reduceIte, decide_true, decide_false, Nat.reduceAdd, Nat.zero_add, List.getD_cons_succ, List.getD_cons_zero, ev_mLc, enter, slots, conts, h1, isSq, plainAt, List.all_cons, List.all_nil, List.replicate, List.cons_append, List.nil_append, Nat.reduceSub, order_lc h, hz, hz2, hb, bSorted_intsT, pEq_ints, rngL_rg, hsz, hsm, Bool.and_self, Bool.and_true]
  · rw [ordL_no ha]
    rw [Bool.not_eq_true] at ha
    rw [ha] at hb
    simp only [ev_bind_ok, ev_bind_stuck, ev_bind_exc, ev_cC, ev_ofO, ev_ofM, ev_cVar, ev_cMv, ev_mMv, ev_cUn, ev_cBin, ev_cNil, ev_cCons, ev_views_nil, ev_views_cons, ev_view_t, ev_view_sl, ev_view_ih, ev_pv_lst, ev_pv_obj, ev_pv_dct, ev_cList, ev_mList, ev_cTruth, ev_cAnd, ev_cOr, ev_cNot, ev_cAndV, ev_cOrV, ev_cNotV, ev_cIf, ev_cYes, ev_cChain, ev_cDisp, ev_mDisp, ev_trees_nil, ev_trees_cons, ev_cFrz, ev_sNil, ev_sNo, ev_sSeq, ev_bindS_ok, ev_bindS_stuck, ev_sExpr, ev_sRet, ev_sRetN, ev_sRetM, ev_sIf, ev_sSet, ev_sSetM, ev_sAsg, ev_sItem, ev_getP_sl, ev_getP_ih, ev_setP_sl, ev_setP_ih, ev_set, ev_sets_nil, ev_sets_cons, ev_tgN, ev_tgS_tup, ev_tgS_lst, ev_tgs_nil, ev_tgs_cons, ev_nNil, ev_nT, ev_nM, ev_sPar, ev_setFs_nil, ev_setFs_t, ev_setFs_n, ev_cPl, ev_cCallF, ev_mCallF, ev_fcDef, ev_fcDefM, ev_mRg1, ev_cRng1, ev_cIt, ev_sFor, ev_clear_nil, ev_clear_cons, ev_restore_nil, ev_restore_cons, List.set, List.getElem?_cons_succ, List.getElem?_cons_zero, Option.bind_some, Option.map_some, List.length_cons, List.length_nil, if_true, Bool.not_true, Bool.not_false, Bool.false_eq_true, if_false, reduceIte, decide_true, decide_false, Nat.reduceAdd, Nat.zero_add, List.getD_cons_succ, List.getD_cons_zero, ev_mLc, enter, slots, conts, h1, isSq, plainAt, List.all_cons, List.all_nil, List.replicate, List.cons_append, List.nil_append, Nat.reduceSub, order_lc h, hz, hz2, hb, Bool.and_self, Bool.and_true]
def rankOk (ps : List PV) : Bool := decide (1 ≤ ps.length ∧ ps.length ≤ 10) && ordL ps.length ps
theorem is_ranking_no {p : PV} (h : isP p = true) (hs : isTup p = false) : F_Profile_is_ranking [.t p] = .ok (.t (.bl false)) [] := by
  unfold F_Profile_is_ranking runF g_Profile_is_ranking
  simp [enter, slots, conts, isi_tup h, hs, szOk]
theorem is_ranking_eq {ps : List PV} (h : ps.all isP = true) (hl : ps.length ≤ 1000) : F_Profile_is_ranking [.t (.tup ps)] = .ok (.t (.bl (rankOk ps))) [] := by
  have h1 := isi_tup (p := .tup ps) rfl
  have e : ∀ st, cRun F_is_order st [.t (.tup ps), .t (.int ps.length)] = .ok (.t (.bl (ordL ps.length ps))) st := fun st => cRun2 (is_order_tup h hl (by omega))
  unfold F_Profile_is_ranking runF g_Profile_is_ranking rankOk
  by_cases h2 : 1 ≤ ps.length
  · by_cases h3 : ps.length ≤ 10
    · have h2' : (1 : Int) ≤ (ps.length : Int) := by omega
      have h3' : (ps.length : Int) ≤ 10 := by omega
      simp [enter, slots, conts, h1, isTup, bLen, pCmp, h2', h3', cClV, pickS, e, h2, h3]
    · have h2' : (1 : Int) ≤ (ps.length : Int) := by omega
      have h3' : ¬ (ps.length : Int) ≤ 10 := by omega
      simp [enter, slots, conts, h1, isTup, bLen, pCmp, h2', h3', cClV, pickS, e, h2, h3]
  · have h2' : ¬ (1 : Int) ≤ (ps.length : Int) := by omega
    simp [enter, slots, conts, h1, isTup, bLen, pCmp, h2', cClV, pickS, e, h2]
end Std
set_option Elab.async false
set_option linter.all false
set_option maxRecDepth 100000
set_option maxHeartbeats 4000000
namespace Std
open Cl PySem PySem.Spec PyProof.Rows L2
abbrev N_law_turns : List PySem.Str := ["_law_pool_here", "_law_count", "_law_size", "_law_turn"]
abbrev pl_law_turns : Plan := [.inl 0, .inl 1, .inl 2]
def c_law_turns_0_t : Cm Bool := cYes
def c_law_turns_0_e : Cm SV := (cCallF (fcDef 2 pl_law_take F_law_take) (cCons (cVar 0) (cCons (cVar 1) cNil)))
def g_law_turns : Sm := (sRet (cFrz (mLc (cRng1 (cCons (cBin pSub (cVar 2) (cC (.int 1))) cNil)) (tgN 3) (c_law_turns_0_t) (c_law_turns_0_e) [3])))
def F_law_turns : Fm := runF 4 g_law_turns
abbrev N_law_rankings : List PySem.Str := ["_law_pool_here", "_law_count", "_law_size", "_law_first", "_law_result", "_law_turn", "_law_other"]
abbrev pl_law_rankings : Plan := [.inl 0, .inl 1, .inl 2]
def p_law_rankings_0 : Sm := (sSeq (sSet 6 (cList bTuple (cCons (cCallF (fcDef 2 pl_law_shuffle F_law_shuffle) (cCons (cVar 0) (cCons (cFrz (mRg1 (cVar 2))) cNil))) cNil))) (sExpr (cPl opAppend (cVar 4) (cCons (cBin pIx (cFrz (mDisp (cCons (cVar 3) (cCons (cRev (cVar 3)) (cCons (cVar 6) (cCons (cVar 6) (cCons (cVar 6) cNil))))))) (cCallF (fcDef 2 pl_law_take F_law_take) (cCons (cVar 0) (cCons (cC (.int 5)) cNil)))) cNil))))
def g_law_rankings : Sm := (sSeq (sSet 3 (cList bTuple (cCons (cCallF (fcDef 2 pl_law_shuffle F_law_shuffle) (cCons (cVar 0) (cCons (cFrz (mRg1 (cVar 2))) cNil))) cNil))) (sSeq (sSetM 4 (mDisp (cCons (cVar 3) cNil))) (sSeq (sFor (cRng1 (cCons (cBin pSub (cVar 1) (cC (.int 1))) cNil)) (tgN 5) p_law_rankings_0) (sRetM (mMv 4)))))
def F_law_rankings : Fm := runF 7 g_law_rankings
abbrev N_law_players : List PySem.Str := ["_law_pool_here", "_law_count"]
abbrev pl_law_players : Plan := [.inl 0, .inl 1]
def g_law_players : Sm := (sRet (cSl (cCallF (fcDef 2 pl_law_shuffle F_law_shuffle) (cCons (cVar 0) (cCons (cFrz (mRg1 (cVar 1))) cNil))) cNoPart (cPart (cCallF (fcDef 2 pl_law_take F_law_take) (cCons (cVar 0) (cCons (cBin pAdd (cVar 1) (cC (.int 1))) cNil))))))
def F_law_players : Fm := runF 2 g_law_players
abbrev N_Profile_init : List PySem.Str := ["self", "rankings", "ranking"]
def p_Profile_init_0 : Sm := (sIf (cOr (cNot (cTruth (cCallF (fcDef 1 pl_Profile_is_ranking F_Profile_is_ranking) (cCons (cVar 2) cNil)))) (cTruth (cBin pNe (cList bLen (cCons (cVar 2) cNil)) (cList bLen (cCons (cBin pIx (cVar 1) (cC (.int 0))) cNil))))) sNo sNil)
def g_Profile_init : Sm := (sSeq (sIf (cNot (cTruth (cChain pLe pLe (cC (.int 1)) (cList bLen (cCons (cVar 1) cNil)) (cClV 0 (.int 6) (cC (.fn 0)))))) sNo sNil) (sSeq (sFor (cIt (cVar 1)) (tgN 2) p_Profile_init_0) (sAttr [0] "orders" (cVar 0) (cFrz (mList bList (cCons (cVar 1) cNil))))))
def F_Profile_init : Fm := runF 3 g_Profile_init
abbrev N_Profile_unanimous : List PySem.Str := ["cls", "ranking", "players", "rankings"]
abbrev pl_Profile_unanimous : Plan := [.inl 0, .inl 1, .inl 2]
def g_Profile_unanimous : Sm := (sSeq (sIf (cNot (cTruth (cCallF (fcDef 1 pl_Profile_is_ranking F_Profile_is_ranking) (cCons (cVar 1) cNil)))) sNo sNil) (sSeq (sIf (cOr (cNot (cTruth (cCallF (fcDef 2 pl_is_integer F_is_integer) (cCons (cVar 2) (cCons (cC (.int 1)) cNil))))) (cTruth (cBin pGt (cVar 2) (cClV 0 (.int 6) (cVar 0))))) sNo sNil) (sSeq (sSet 3 (cBin pMul (cFrz (mDisp (cCons (cVar 1) cNil))) (cVar 2))) (sRet (cLoc 0 0 (cCallF (fcMake 0 (fcStar 1 F_Profile_init)) (cStar (cVar 3) cNil)))))))
def F_Profile_unanimous : Fm := runF 4 g_Profile_unanimous
abbrev N_Profile_check_player : List PySem.Str := ["self", "player"]
abbrev pl_Profile_check_player : Plan := [.inl 0, .inl 1]
def g_Profile_check_player : Sm := (sIf (cNot (cTruth (cCallF (fcDef 2 pl_is_index F_is_index) (cCons (cVar 1) (cCons (cList bLen (cCons (cUn (pFld [0] "orders") (cVar 0)) cNil)) cNil))))) sNo sNil)
def F_Profile_check_player : Fm := runF 2 g_Profile_check_player
abbrev N_Profile_with_ranking : List PySem.Str := ["self", "player", "ranking", "rankings"]
abbrev pl_Profile_with_ranking : Plan := [.inl 0, .inl 1, .inl 2]
def g_Profile_with_ranking : Sm := (sSeq (sExpr (cMeth 0 "check_player" (fcDef 2 pl_Profile_check_player F_Profile_check_player) (cVar 0) (cCons (cVar 1) cNil))) (sSeq (sIf (cOr (cNot (cTruth (cCallF (fcDef 1 pl_Profile_is_ranking F_Profile_is_ranking) (cCons (cVar 2) cNil)))) (cTruth (cBin pNe (cList bLen (cCons (cVar 2) cNil)) (cList bLen (cCons (cBin pIx (cUn (pFld [0] "orders") (cVar 0)) (cC (.int 0))) cNil))))) sNo sNil) (sSeq (sSetM 3 (mList bList (cCons (cUn (pFld [0] "orders") (cVar 0)) cNil))) (sSeq (sItem (cVar 2) (cVar 3) (cVar 1)) (sRet (cCallF (fcMake 0 (fcStar 1 F_Profile_init)) (cStar (cVar 3) cNil)))))))
def F_Profile_with_ranking : Fm := runF 4 g_Profile_with_ranking
abbrev N_law_built : List PySem.Str := ["_law_rankings_here", "_law_result", "_law_player", "_law_ranking"]
abbrev pl_law_built : Plan := [.inl 0]
def p_law_built_0 : Sm := (sSet 1 (cMeth 0 "with_ranking" (fcDef 3 pl_Profile_with_ranking F_Profile_with_ranking) (cVar 1) (cCons (cVar 2) (cCons (cVar 3) cNil))))
def g_law_built : Sm := (sSeq (sSet 1 (cCallF (fun xs => (fcDef 3 pl_Profile_unanimous F_Profile_unanimous) (.t (.fn 0) :: xs)) (cCons (cBin pIx (cVar 0) (cC (.int 0))) (cCons (cList bLen (cCons (cVar 0) cNil)) cNil)))) (sSeq (sFor (cEn (cCons (cVar 0) cNil)) (tgS [(tgN 2), (tgN 3)]) p_law_built_0) (sRet (cVar 1))))
def F_law_built : Fm := runF 4 g_law_built
abbrev N_Profile_players : List PySem.Str := ["self"]
abbrev pl_Profile_players : Plan := [.inl 0]
def g_Profile_players : Sm := (sRet (cList bLen (cCons (cUn (pFld [0] "orders") (cVar 0)) cNil)))
def F_Profile_players : Fm := runF 1 g_Profile_players
abbrev N_Profile_alternatives : List PySem.Str := ["self"]
abbrev pl_Profile_alternatives : Plan := [.inl 0]
def g_Profile_alternatives : Sm := (sRet (cList bLen (cCons (cBin pIx (cUn (pFld [0] "orders") (cVar 0)) (cC (.int 0))) cNil)))
def F_Profile_alternatives : Fm := runF 1 g_Profile_alternatives
abbrev N_check_turns : List PySem.Str := ["profile", "turns", "size", "player"]
abbrev pl_check_turns : Plan := [.inl 0, .inl 1, .inl 2]
def c_check_turns_0_t : Cm Bool := cYes
def c_check_turns_0_e : Cm SV := (cCallF (fcDef 2 pl_is_index F_is_index) (cCons (cVar 3) (cCons (cProp 0 (fcDef 1 pl_Profile_players F_Profile_players) (cVar 0)) cNil)))
def g_check_turns : Sm := (sSeq (sIf (cOr (cNot (cTruth (cList (bIsi tbB) (cCons (cVar 1) (cCons (cDisp .tup (cCons (cC (.ty "list")) (cCons (cC (.ty "tuple")) cNil))) cNil))))) (cTruth (cBin pNe (cList bLen (cCons (cVar 1) cNil)) (cBin pSub (cVar 2) (cC (.int 1)))))) sNo sNil) (sIf (cNot (cTruth (cList bAll (cCons (cFrz (mLc (cIt (cVar 1)) (tgN 3) (c_check_turns_0_t) (c_check_turns_0_e) [3])) cNil)))) sNo sNil))
def F_check_turns : Fm := runF 4 g_check_turns
abbrev N_check_players : List PySem.Str := ["profile", "players", "index", "player"]
abbrev pl_check_players : Plan := [.inl 0, .inl 1]
def p_check_players_0 : Sm := (sIf (cOr (cNot (cTruth (cCallF (fcDef 2 pl_is_index F_is_index) (cCons (cVar 3) (cCons (cProp 0 (fcDef 1 pl_Profile_players F_Profile_players) (cVar 0)) cNil))))) (cTruth (cBin pIn (cVar 3) (cSl (cVar 1) cNoPart (cPart (cVar 2)))))) sNo sNil)
def g_check_players : Sm := (sFor (cEn (cCons (cVar 1) cNil)) (tgS [(tgN 2), (tgN 3)]) p_check_players_0)
def F_check_players : Fm := runF 4 g_check_players
abbrev N_Profile_is_left : List PySem.Str := ["self", "value", "item"]
abbrev pl_Profile_is_left : Plan := [.inl 0, .inl 1]
def c_Profile_is_left_0_t : Cm Bool := cYes
def c_Profile_is_left_0_e : Cm SV := (cCallF (fcDef 2 pl_is_index F_is_index) (cCons (cVar 2) (cCons (cList bLen (cCons (cBin pIx (cUn (pFld [0] "orders") (cVar 0)) (cC (.int 0))) cNil)) cNil)))
def g_Profile_is_left : Sm := (sSeq (sIf (cOr (cNot (cTruth (cList (bIsi tbB) (cCons (cVar 1) (cCons (cDisp .tup (cCons (cC (.ty "list")) (cCons (cC (.ty "tuple")) cNil))) cNil))))) (cTruth (cBin pEq (cList bLen (cCons (cVar 1) cNil)) (cC (.int 0))))) (sRet (cC (.bl false))) sNil) (sSeq (sIf (cNot (cTruth (cList bAll (cCons (cFrz (mLc (cIt (cVar 1)) (tgN 2) (c_Profile_is_left_0_t) (c_Profile_is_left_0_e) [2])) cNil)))) (sRet (cC (.bl false))) sNil) (sRet (cBin pEq (cUn bLenSet (cVar 1)) (cList bLen (cCons (cVar 1) cNil))))))
def F_Profile_is_left : Fm := runF 3 g_Profile_is_left
theorem cRun_i1 {F : Fm} {st : Cl.ST} {q : PL} {c c' : MC} {z : PV} (hq : getP st q = some c) (h : F [.i c] = .ok (.t z) [c']) : cRun F st [.pl q] = .ok (.t z) (Cl.setP st q c') := by
  unfold cRun
  simp only [mkArgs, hq, Option.bind_some, Option.map_some]
  rw [if_pos (by simp), h]; rfl
theorem cRun_i2 {F : Fm} {st : Cl.ST} {q : PL} {c c' : MC} {z p1 : PV} (hq : getP st q = some c) (h : F [.i c, .t p1] = .ok (.t z) [c']) : cRun F st [.pl q, .t p1] = .ok (.t z) (Cl.setP st q c') := by
  unfold cRun
  simp only [mkArgs, hq, Option.bind_some, Option.map_some]
  rw [if_pos (by simp), h]; rfl
theorem cRun_i3 {F : Fm} {st : Cl.ST} {q : PL} {c c' : MC} {z p1 p2 : PV} (hq : getP st q = some c) (h : F [.i c, .t p1, .t p2] = .ok (.t z) [c']) : cRun F st [.pl q, .t p1, .t p2] = .ok (.t z) (Cl.setP st q c') := by
  unfold cRun
  simp only [mkArgs, hq, Option.bind_some, Option.map_some]
  rw [if_pos (by simp), h]; rfl
theorem cRun_n2 {F : Fm} {st : Cl.ST} {q : PL} {c c' m : MC} {p1 : PV} (hq : getP st q = some c) (h : F [.i c, .t p1] = .ok (.n m) [c']) : cRun F st [.pl q, .t p1] = .ok (.t m.pv) (Cl.setP st q c') := by
  unfold cRun
  simp only [mkArgs, hq, Option.bind_some, Option.map_some]
  rw [if_pos (by simp), h]; rfl
theorem cRun_n3 {F : Fm} {st : Cl.ST} {q : PL} {c c' m : MC} {p1 p2 : PV} (hq : getP st q = some c) (h : F [.i c, .t p1, .t p2] = .ok (.n m) [c']) : cRun F st [.pl q, .t p1, .t p2] = .ok (.t m.pv) (Cl.setP st q c') := by
  unfold cRun
  simp only [mkArgs, hq, Option.bind_some, Option.map_some]
  rw [if_pos (by simp), h]; rfl
theorem shuffle_i (ns : List Int) (a b : Int) (hl : ns.length ≤ 1000) : ∃ ms a' b', ms.Perm ns ∧ F_law_shuffle [.i (pool a b), .t (.lst (iL ns))] = .ok (.n (.lst (iL ms))) [pool a' b'] := by
  obtain ⟨perm, a', b', hp, e⟩ := shuffle_ok (iL ns) a b (by simpa using hl)
  obtain ⟨ms, rfl, h⟩ := perm_ints hp
  exact ⟨ms, a', b', h, e⟩
theorem run_shuffle {st : Cl.ST} {q : PL} {a b : Int} {ns : List Int} (hq : getP st q = some (pool a b)) (hl : ns.length ≤ 1000) :
    ∃ ms a' b', ms.Perm ns ∧ cRun F_law_shuffle st [.pl q, .t (.lst (iL ns))] = .ok (.t (.lst (iL ms))) (Cl.setP st q (pool a' b')) := by
  obtain ⟨ms, a', b', h, e⟩ := shuffle_i ns a b hl
  exact ⟨ms, a', b', h, cRun_n2 hq e⟩
theorem pick3 {x y z : SV} : pickS [.inl 0, .inl 1, .inl 2] [x, y, z] = [x, y, z] := rfl
theorem pick1 {x : SV} : pickS [.inl 0] [x] = [x] := rfl
theorem pick4 {x y z u : SV} : pickS [.inl 0, .inl 1, .inl 2, .inl 3] [x, y, z, u] = [x, y, z, u] := rfl
theorem pick5 {x y z u v : SV} : pickS [.inl 0, .inl 1, .inl 2, .inl 3, .inl 4] [x, y, z, u, v] = [x, y, z, u, v] := rfl
def TuI (count : Int) (c s : PV) (ps : List PV) (qs : List PV) (st : Cl.ST) : Prop := ∃ a b ts, st = ⟨[some (.i 0), some (.t c), some (.t s), none], [pool a b]⟩ ∧ qs = iL ts ∧ ∀ t ∈ ts, 0 ≤ t ∧ t < count
theorem turns_eq (a b : Int) (count size : Nat) (hc : 0 < count) (hc2 : count ≤ 1000) (hs : 0 < size) (hs2 : size ≤ 1000) :
    ∃ ts a' b', ts.length = size - 1 ∧ (∀ t ∈ ts, 0 ≤ t ∧ t < (count : Int)) ∧ F_law_turns [.i (pool a b), .t (.int count), .t (.int size)] = .ok (.t (.lst (iL ts))) [pool a' b'] := by
  have loop : ∀ (ps qs : List PV) (st : Cl.ST), TuI count (.int count) (.int size) ps qs st → ∃ rs st', lcL (tgN 3) c_law_turns_0_t c_law_turns_0_e [3] ps st = .ok rs st' ∧ rs.length = ps.length ∧ TuI count (.int count) (.int size) [] (qs ++ rs) st' := by
    intro ps
    induction ps with
    | nil => intro qs st h; exact ⟨[], st, rfl, rfl, by rw [List.append_nil]; exact h⟩
    | cons p ps ih =>
      rintro qs st ⟨a, b, ts, rfl, rfl, ht⟩
      obtain ⟨r, a', b', h1, h2, e⟩ := run_take (st := ⟨[some (.i 0), some (.t (.int count)), some (.t (.int size)), some (.t p)], [pool a b]⟩) (q := .ih 0) (a := a) (b := b) (n := count) rfl (by omega) (by omega)
      obtain ⟨rs, st', e2, hl, h3⟩ := ih (iL ts ++ [.int r]) ⟨[some (.i 0), some (.t (.int count)), some (.t (.int size)), none], [pool a' b']⟩ ⟨a', b', ts ++ [r], rfl, by simp [iL], fun t h => by
        rcases List.mem_append.mp h with h | h
        · exact ht t h
        · rw [List.mem_singleton.mp h]; exact ⟨h1, h2⟩⟩
      refine ⟨.int r :: rs, st', ?_, by simp [hl], by rw [List.append_assoc] at h3; exact h3⟩
      unfold lcL c_law_turns_0_e c_law_turns_0_t
      unfold c_law_turns_0_e c_law_turns_0_t at e2
      simp only [ev_bind_ok, ev_bind_stuck, ev_bind_exc, ev_cC, ev_ofO, ev_ofM, ev_cVar, ev_cMv, ev_mMv, ev_cUn, ev_cBin, ev_cNil, ev_cCons, ev_views_nil, ev_views_cons, ev_view_t, ev_view_sl, ev_view_ih, ev_pv_lst, ev_pv_obj, ev_pv_dct, ev_cList, ev_mList, ev_cTruth, ev_cAnd, ev_cOr, ev_cNot, ev_cAndV, ev_cOrV, ev_cNotV, ev_cIf, ev_cYes, ev_cChain, ev_cDisp, ev_mDisp, ev_trees_nil, ev_trees_cons, ev_cFrz, ev_sNil, ev_sNo, ev_sSeq, ev_bindS_ok, ev_bindS_stuck, ev_sExpr, ev_sRet, ev_sRetN, ev_sRetM, ev_sIf, ev_sSet, ev_sSetM, ev_sAsg, ev_sItem, ev_getP_sl, ev_getP_ih, ev_setP_sl, ev_setP_ih, ev_set, ev_sets_nil, ev_sets_cons, ev_tgN, ev_tgS_tup, ev_tgS_lst, ev_tgs_nil, ev_tgs_cons, ev_nNil, ev_nT, ev_nM, ev_sPar, ev_setFs_nil, ev_setFs_t, ev_setFs_n, ev_cPl, ev_cCallF, ev_mCallF, ev_fcDef, ev_fcDefM, ev_mRg1, ev_cRng1, ev_cIt, ev_sFor, ev_clear_nil, ev_clear_cons, ev_restore_nil, ev_restore_cons, List.set, List.getElem?_cons_succ, List.getElem?_cons_zero, Option.bind_some, Option.map_some, List.length_cons, List.length_nil, if_true, Bool.not_true, Bool.not_false, Bool.false_eq_true, if_false, reduceIte, decide_true, decide_false, Nat.reduceAdd, Nat.zero_add, List.getD_cons_succ, List.getD_cons_zero, pick2, e, e2]
  obtain ⟨rs, st', e, hl, a', b', ts, rfl, h2, h3⟩ := loop (rngL 0 1 (size - 1)) [] ⟨[some (.i 0), some (.t (.int count)), some (.t (.int size)), none], [pool a b]⟩ ⟨a, b, [], rfl, rfl, by simp⟩
  rw [List.nil_append] at h2
  subst h2
  rw [rngL_length] at hl
  have hl' : ts.length = size - 1 := by simpa using hl
  refine ⟨ts, a', b', hl', h3, ?_⟩
  have h1 : ((size : Int) - 1).toNat = size - 1 := by omega
  have hsm : smallI ((size : Int) - 1) = true := by simp [smallI]; omega
  have hz : szOk (iL ts).length = true := by simp [szOk]; omega
  unfold F_law_turns runF g_law_turns
  simp only [ev_bind_ok, ev_bind_stuck, ev_bind_exc, ev_cC, ev_ofO, ev_ofM, ev_cVar, ev_cMv, ev_mMv, ev_cUn, ev_cBin, ev_cNil, ev_cCons, ev_views_nil, ev_views_cons, ev_view_t, ev_view_sl, ev_view_ih, ev_pv_lst, ev_pv_obj, ev_pv_dct, ev_cList, ev_mList, ev_cTruth, ev_cAnd, ev_cOr, ev_cNot, ev_cAndV, ev_cOrV, ev_cNotV, ev_cIf, ev_cYes, ev_cChain, ev_cDisp, ev_mDisp, ev_trees_nil, ev_trees_cons, ev_cFrz, ev_sNil, ev_sNo, ev_sSeq, ev_bindS_ok, ev_bindS_stuck, ev_sExpr, ev_sRet, ev_sRetN, ev_sRetM, ev_sIf, ev_sSet, ev_sSetM, ev_sAsg, ev_sItem, ev_getP_sl, ev_getP_ih, ev_setP_sl, ev_setP_ih, ev_set, ev_sets_nil, ev_sets_cons, ev_tgN, ev_tgS_tup, ev_tgS_lst, ev_tgs_nil, ev_tgs_cons, ev_nNil, ev_nT, ev_nM, ev_sPar, ev_setFs_nil, ev_setFs_t, ev_setFs_n, ev_cPl, ev_cCallF, ev_mCallF, ev_fcDef, ev_fcDefM, ev_mRg1, ev_cRng1, ev_cIt, ev_sFor, ev_clear_nil, ev_clear_cons, ev_restore_nil, ev_restore_cons, List.set, List.getElem?_cons_succ, List.getElem?_cons_zero, Option.bind_some, Option.map_some, List.length_cons, List.length_nil, if_true, Bool.not_true, Bool.not_false, Bool.false_eq_true, if_false, reduceIte, decide_true, decide_false, Nat.reduceAdd, Nat.zero_add, List.getD_cons_succ, List.getD_cons_zero, ev_mLc, enter, slots, conts, pSub, hsm, h1, List.replicate, List.cons_append, List.nil_append, Nat.reduceSub, plainAt, List.all_cons, List.all_nil, Bool.and_self, e, hz]
theorem run_turns {st : Cl.ST} {q : PL} {a b : Int} {count size : Nat} (hq : getP st q = some (pool a b)) (hc : 0 < count) (hc2 : count ≤ 1000) (hs : 0 < size) (hs2 : size ≤ 1000) :
    ∃ ts a' b', ts.length = size - 1 ∧ (∀ t ∈ ts, 0 ≤ t ∧ t < (count : Int)) ∧ cRun F_law_turns st [.pl q, .t (.int count), .t (.int size)] = .ok (.t (.lst (iL ts))) (Cl.setP st q (pool a' b')) := by
  obtain ⟨ts, a', b', h1, h2, e⟩ := turns_eq a b count size hc hc2 hs hs2
  exact ⟨ts, a', b', h1, h2, cRun_i3 hq e⟩
abbrev rkP (r : List Int) : PV := .tup (iL r)
abbrev rksP (rs : List (List Int)) : List PV := rs.map rkP
abbrev profP (rs : List (List Int)) : PV := .obj 0 [("orders", .lst (rksP rs))]
def IsRk (m : Nat) (r : List Int) : Prop := r.Perm (rg m)
theorem IsRk.length {m : Nat} {r : List Int} (h : IsRk m r) : r.length = m := by have := h.length_eq; rwa [rg_length] at this
theorem IsRk.rev {m : Nat} {r : List Int} (h : IsRk m r) : IsRk m r.reverse := (List.reverse_perm r).trans h
def RkI (m : Nat) (c s : PV) (f : List Int) (ps : List PV) (st : Cl.ST) : Prop := ∃ a b rs x y, st = ⟨[some (.i 0), some (.t c), some (.t s), some (.t (rkP f)), some (.m (.lst (rksP rs))), x, y], [pool a b]⟩ ∧ (∀ r ∈ rs, IsRk m r) ∧ rs.length + ps.length ≤ 1000
theorem rankings_eq (a b : Int) (count size : Nat) (hc : 0 < count) (hc2 : count ≤ 900) (hs2 : size ≤ 1000) :
    ∃ rs a' b', rs.length = count ∧ (∀ r ∈ rs, IsRk size r) ∧ F_law_rankings [.i (pool a b), .t (.int count), .t (.int size)] = .ok (.n (.lst (rksP rs))) [pool a' b'] := by
  have hsz : decide (size ≤ 16777216) = true := decide_eq_true (by omega)
  have hsm : smallI (size : Int) = true := by simp [smallI]; omega
  have htn : ((size : Int)).toNat = size := by omega
  have hz5 : szOk 5 = true := by decide
  have hz1 : szOk 1 = true := by decide
  obtain ⟨f, a1, b1, hf, ef⟩ := shuffle_i (rg size) a b (by rw [rg_length]; exact hs2)
  have hf' : IsRk size f := hf
  have loop : ∀ (ps : List PV) (rs : List (List Int)) (a b : Int) (x y : Option SL), (∀ r ∈ rs, IsRk size r) → rs.length + ps.length ≤ 1000 →
      ∃ rs' a' b' x' y', forL (forB (tgN 5) p_law_rankings_0) ps ⟨[some (.i 0), some (.t (.int count)), some (.t (.int size)), some (.t (rkP f)), some (.m (.lst (rksP rs))), x, y], [pool a b]⟩ =
        .nx ⟨[some (.i 0), some (.t (.int count)), some (.t (.int size)), some (.t (rkP f)), some (.m (.lst (rksP rs'))), x', y'], [pool a' b']⟩ ∧ (∀ r ∈ rs', IsRk size r) ∧ rs'.length = rs.length + ps.length := by
    intro ps
    induction ps with
    | nil => intro rs a b x y h1 h2; exact ⟨rs, a, b, x, y, rfl, h1, rfl⟩
    | cons p ps ih =>
      intro rs a b x y h1 h2
      rw [List.length_cons] at h2
      obtain ⟨o, a2, b2, ho, eo⟩ := run_shuffle (st := ⟨[some (.i 0), some (.t (.int count)), some (.t (.int size)), some (.t (rkP f)), some (.m (.lst (rksP rs))), some (.t p), y], [pool a b]⟩) (q := .ih 0) (a := a) (b := b) (ns := rg size) rfl (by rw [rg_length]; exact hs2)
      have ho' : IsRk size o := ho
      obtain ⟨t, a3, b3, t0, t5, et⟩ := run_take (st := ⟨[some (.i 0), some (.t (.int count)), some (.t (.int size)), some (.t (rkP f)), some (.m (.lst (rksP rs))), some (.t p), some (.t (rkP o))], [pool a2 b2]⟩) (q := .ih 0) (a := a2) (b := b2) (n := 5) rfl (by omega) (by omega)
      have pk : ∃ z, IsRk size z ∧ atI [rkP f, .tup (iL f).reverse, rkP o, rkP o, rkP o] t = some (rkP z) := by
        have : t = 0 ∨ t = 1 ∨ t = 2 ∨ t = 3 ∨ t = 4 := by omega
        rcases this with rfl | rfl | rfl | rfl | rfl
        · exact ⟨f, hf', rfl⟩
        · exact ⟨f.reverse, hf'.rev, by show some (PV.tup (iL f).reverse) = some (.tup (iL f.reverse)); rw [iL, iL, List.map_reverse]⟩
        · exact ⟨o, ho', rfl⟩
        · exact ⟨o, ho', rfl⟩
        · exact ⟨o, ho', rfl⟩
      obtain ⟨z, hz, ez⟩ := pk
      have oa : opAppend (rksP rs) [rkP z] = some (.non, rksP (rs ++ [z])) := by
        have : decide ((rksP rs).length < 16777216) = true := decide_eq_true (by simp; omega)
        simp [opAppend]; omega
      obtain ⟨rs', a', b', x', y', e, h3, h4⟩ := ih (rs ++ [z]) a3 b3 (some (.t p)) (some (.t (rkP o))) (fun r hr => by
        rcases List.mem_append.mp hr with h | h
        · exact h1 r h
        · rw [List.mem_singleton.mp h]; exact hz) (by rw [List.length_append]; simp; omega)
      refine ⟨rs', a', b', x', y', ?_, h3, by rw [h4, List.length_append, List.length_cons]; simp; omega⟩
      have step : forB (tgN 5) p_law_rankings_0 p ⟨[some (.i 0), some (.t (.int count)), some (.t (.int size)), some (.t (rkP f)), some (.m (.lst (rksP rs))), x, y], [pool a b]⟩ =
          .nx ⟨[some (.i 0), some (.t (.int count)), some (.t (.int size)), some (.t (rkP f)), some (.m (.lst (rksP (rs ++ [z])))), some (.t p), some (.t (rkP o))], [pool a3 b3]⟩ := by
        simp only [ev_bind_ok, ev_bind_stuck, ev_bind_exc, ev_cC, ev_ofO, ev_ofM, ev_cVar, ev_cMv, ev_mMv, ev_cUn, ev_cBin, ev_cNil, ev_cCons, ev_views_nil, ev_views_cons, ev_view_t, ev_view_sl, ev_view_ih, ev_pv_lst, ev_pv_obj, ev_pv_dct, ev_cList, ev_mList, ev_cTruth, ev_cAnd, ev_cOr, ev_cNot, ev_cAndV, ev_cOrV, ev_cNotV, ev_cIf, ev_cYes, ev_cChain, ev_cDisp, ev_mDisp, ev_trees_nil, ev_trees_cons, ev_cFrz, ev_sNil, ev_sNo, ev_sSeq, ev_bindS_ok, ev_bindS_stuck, ev_sExpr, ev_sRet, ev_sRetN, ev_sRetM, ev_sIf, ev_sSet, ev_sSetM, ev_sAsg, ev_sItem, ev_getP_sl, ev_getP_ih, ev_setP_sl, ev_setP_ih, ev_set, ev_sets_nil, ev_sets_cons, ev_tgN, ev_tgS_tup, ev_tgS_lst, ev_tgs_nil, ev_tgs_cons, ev_nNil, ev_nT, ev_nM, ev_sPar, ev_setFs_nil, ev_setFs_t, ev_setFs_n, ev_cPl, ev_cCallF, ev_mCallF, ev_fcDef, ev_fcDefM, ev_mRg1, ev_cRng1, ev_cIt, ev_sFor, ev_clear_nil, ev_clear_cons, ev_restore_nil, ev_restore_cons, List.set, List.getElem?_cons_succ, List.getElem?_cons_zero, Option.bind_some, Option.map_some, List.length_cons, List.length_nil, if_true, Bool.not_true, Bool.not_false, Bool.false_eq_true, if_false, reduceIte, decide_true, decide_false, Nat.reduceAdd, Nat.zero_add, List.getD_cons_succ, List.getD_cons_zero, forB, p_law_rankings_0, pick2, hsz, hsm, htn, rngL_rg, eo, bTuple, cRev, hz5, et, pIx, ez, oa, Bool.and_self]
      unfold forL
      rw [step]
      exact e
  obtain ⟨rs', a', b', x', y', e, h3, h4⟩ := loop (iL (rg (count - 1))) [f] a1 b1 none none (fun r hr => by rw [List.mem_singleton.mp hr]; exact hf') (by simp [rg_length]; omega)
  rw [List.length_map, rg_length] at h4
  refine ⟨rs', a', b', by rw [h4]; simp; omega, h3, ?_⟩
  have h1 : ((count : Int) - 1).toNat = count - 1 := by omega
  have hsm1 : smallI ((count : Int) - 1) = true := by simp [smallI]; omega
  have ef' : cRun F_law_shuffle ⟨[some (.i 0), some (.t (.int count)), some (.t (.int size)), none, none, none, none], [pool a b]⟩ [.pl (.ih 0), .t (.lst (iL (rg size)))] = .ok (.t (.lst (iL f))) ⟨[some (.i 0), some (.t (.int count)), some (.t (.int size)), none, none, none, none], [pool a1 b1]⟩ := cRun_n2 rfl ef
  have e' : forL (forB (tgN 5) p_law_rankings_0) (iL (rg (count - 1))) ⟨[some (.i 0), some (.t (.int count)), some (.t (.int size)), some (.t (rkP f)), some (.m (.lst [rkP f])), none, none], [pool a1 b1]⟩ = _ := e
  unfold F_law_rankings runF g_law_rankings
  simp only [ev_bind_ok, ev_bind_stuck, ev_bind_exc, ev_cC, ev_ofO, ev_ofM, ev_cVar, ev_cMv, ev_mMv, ev_cUn, ev_cBin, ev_cNil, ev_cCons, ev_views_nil, ev_views_cons, ev_view_t, ev_view_sl, ev_view_ih, ev_pv_lst, ev_pv_obj, ev_pv_dct, ev_cList, ev_mList, ev_cTruth, ev_cAnd, ev_cOr, ev_cNot, ev_cAndV, ev_cOrV, ev_cNotV, ev_cIf, ev_cYes, ev_cChain, ev_cDisp, ev_mDisp, ev_trees_nil, ev_trees_cons, ev_cFrz, ev_sNil, ev_sNo, ev_sSeq, ev_bindS_ok, ev_bindS_stuck, ev_sExpr, ev_sRet, ev_sRetN, ev_sRetM, ev_sIf, ev_sSet, ev_sSetM, ev_sAsg, ev_sItem, ev_getP_sl, ev_getP_ih, ev_setP_sl, ev_setP_ih, ev_set, ev_sets_nil, ev_sets_cons, ev_tgN, ev_tgS_tup, ev_tgS_lst, ev_tgs_nil, ev_tgs_cons, ev_nNil, ev_nT, ev_nM, ev_sPar, ev_setFs_nil, ev_setFs_t, ev_setFs_n, ev_cPl, ev_cCallF, ev_mCallF, ev_fcDef, ev_fcDefM, ev_mRg1, ev_cRng1, ev_cIt, ev_sFor, ev_clear_nil, ev_clear_cons, ev_restore_nil, ev_restore_cons, List.set, List.getElem?_cons_succ, List.getElem?_cons_zero, Option.bind_some, Option.map_some, List.length_cons, List.length_nil, if_true, Bool.not_true, Bool.not_false, Bool.false_eq_true, if_false, reduceIte, decide_true, decide_false, Nat.reduceAdd, Nat.zero_add, List.getD_cons_succ, List.getD_cons_zero, enter, slots, conts, List.replicate, List.cons_append, List.nil_append, Nat.reduceSub, pick2, hsz, hsm, htn, rngL_rg, ef', bTuple, hz1, pSub, hsm1, h1, e', Bool.and_self]
theorem run_rankings {st : Cl.ST} {q : PL} {a b : Int} {count size : Nat} (hq : getP st q = some (pool a b)) (hc : 0 < count) (hc2 : count ≤ 900) (hs2 : size ≤ 1000) :
    ∃ rs a' b', rs.length = count ∧ (∀ r ∈ rs, IsRk size r) ∧ cRun F_law_rankings st [.pl q, .t (.int count), .t (.int size)] = .ok (.t (.lst (rksP rs))) (Cl.setP st q (pool a' b')) := by
  obtain ⟨rs, a', b', h1, h2, e⟩ := rankings_eq a b count size hc hc2 hs2
  exact ⟨rs, a', b', h1, h2, cRun_n3 hq e⟩
theorem players_eq (a b : Int) (count : Nat) (hc2 : count ≤ 900) :
    ∃ ps a' b', ps.Nodup ∧ (∀ p ∈ ps, 0 ≤ p ∧ p < (count : Int)) ∧ ps.length ≤ count ∧ F_law_players [.i (pool a b), .t (.int count)] = .ok (.t (.lst (iL ps))) [pool a' b'] := by
  have hsz : decide (count ≤ 16777216) = true := decide_eq_true (by omega)
  have hsm : smallI (count : Int) = true := by simp [smallI]; omega
  have htn : ((count : Int)).toNat = count := by omega
  obtain ⟨f, a1, b1, hf, ef⟩ := run_shuffle (st := ⟨[some (.i 0), some (.t (.int count))], [pool a b]⟩) (q := .ih 0) (ns := rg count) (a := a) (b := b) rfl (by rw [rg_length]; omega)
  obtain ⟨t, a2, b2, t0, t1, et⟩ := run_take (st := ⟨[some (.i 0), some (.t (.int count))], [pool a1 b1]⟩) (q := .ih 0) (a := a1) (b := b1) (n := (count : Int) + 1) rfl (by omega) (by omega)
  have hd : f.Nodup := hf.nodup_iff.mpr rg_nodup
  have hfl : f.length = count := by rw [hf.length_eq, rg_length]
  refine ⟨f.take t.toNat, a2, b2, hd.sublist (List.take_sublist _ _), fun p h => mem_rg.mp (hf.mem_iff.mp (List.mem_of_mem_take h)), by rw [List.length_take]; omega, ?_⟩
  have es : cut (iL f) none (some t) = iL (f.take t.toNat) := by rw [cut_to t0, iL, iL, List.map_take]
  unfold F_law_players runF g_law_players
  simp only [ev_bind_ok, ev_bind_stuck, ev_bind_exc, ev_cC, ev_ofO, ev_ofM, ev_cVar, ev_cMv, ev_mMv, ev_cUn, ev_cBin, ev_cNil, ev_cCons, ev_views_nil, ev_views_cons, ev_view_t, ev_view_sl, ev_view_ih, ev_pv_lst, ev_pv_obj, ev_pv_dct, ev_cList, ev_mList, ev_cTruth, ev_cAnd, ev_cOr, ev_cNot, ev_cAndV, ev_cOrV, ev_cNotV, ev_cIf, ev_cYes, ev_cChain, ev_cDisp, ev_mDisp, ev_trees_nil, ev_trees_cons, ev_cFrz, ev_sNil, ev_sNo, ev_sSeq, ev_bindS_ok, ev_bindS_stuck, ev_sExpr, ev_sRet, ev_sRetN, ev_sRetM, ev_sIf, ev_sSet, ev_sSetM, ev_sAsg, ev_sItem, ev_getP_sl, ev_getP_ih, ev_setP_sl, ev_setP_ih, ev_set, ev_sets_nil, ev_sets_cons, ev_tgN, ev_tgS_tup, ev_tgS_lst, ev_tgs_nil, ev_tgs_cons, ev_nNil, ev_nT, ev_nM, ev_sPar, ev_setFs_nil, ev_setFs_t, ev_setFs_n, ev_cPl, ev_cCallF, ev_mCallF, ev_fcDef, ev_fcDefM, ev_mRg1, ev_cRng1, ev_cIt, ev_sFor, ev_clear_nil, ev_clear_cons, ev_restore_nil, ev_restore_cons, List.set, List.getElem?_cons_succ, List.getElem?_cons_zero, Option.bind_some, Option.map_some, List.length_cons, List.length_nil, if_true, Bool.not_true, Bool.not_false, Bool.false_eq_true, if_false, reduceIte, decide_true, decide_false, Nat.reduceAdd, Nat.zero_add, List.getD_cons_succ, List.getD_cons_zero, enter, slots, conts, List.replicate, List.cons_append, List.nil_append, Nat.reduceSub, pick2, hsz, hsm, htn, rngL_rg, ef, cSl, cNoPart, cPart, pAdd, et, pSl, es, Bool.and_self]
theorem run_players {st : Cl.ST} {q : PL} {a b : Int} {count : Nat} (hq : getP st q = some (pool a b)) (hc2 : count ≤ 900) :
    ∃ ps a' b', ps.Nodup ∧ (∀ p ∈ ps, 0 ≤ p ∧ p < (count : Int)) ∧ ps.length ≤ count ∧ cRun F_law_players st [.pl q, .t (.int count)] = .ok (.t (.lst (iL ps))) (Cl.setP st q (pool a' b')) := by
  obtain ⟨ps, a', b', h1, h2, h3, e⟩ := players_eq a b count hc2
  exact ⟨ps, a', b', h1, h2, h3, cRun_i2 hq e⟩
end Std
set_option Elab.async false
set_option linter.all false
set_option maxRecDepth 100000
set_option maxHeartbeats 4000000
namespace Std
open Cl PySem PySem.Spec PyProof.Rows L2
structure IsPf (m : Nat) (rs : List (List Int)) : Prop where
  rk : ∀ r ∈ rs, IsRk m r
  pos : 0 < rs.length
  le : rs.length ≤ 6
  mpos : 0 < m
  mle : m ≤ 10
theorem IsPf.first {m : Nat} {rs : List (List Int)} (h : IsPf m rs) : ∃ f, IsRk m f ∧ atI (rksP rs) 0 = some (rkP f) := by
  obtain ⟨f, rs', rfl⟩ : ∃ f rs', rs = f :: rs' := List.ne_nil_iff_exists_cons.mp (List.ne_nil_of_length_pos h.pos)
  exact ⟨f, h.rk f (List.mem_cons_self ..), by simp [atI, ixN]⟩
theorem pMul_lst {xs : List PV} {k : Int} (h0 : 0 ≤ k) (h1 : k.natAbs < 4611686018427387904) (h2 : szOk (xs.length * k.toNat) = true) : pMul (.lst xs) (.int k) = some (.lst (List.replicate k.toNat xs).flatten) := by
  show (if decide (0 ≤ k) && (decide (k.natAbs < 4611686018427387904) && szOk (xs.length * k.toNat)) then some (PV.lst (List.replicate k.toNat xs).flatten) else none) = _
  rw [h2, decide_eq_true h0, decide_eq_true h1]; rfl
theorem rank_yes {m : Nat} {r : List Int} (h : IsRk m r) (h0 : 0 < m) (h1 : m ≤ 10) : rankOk (iL r) = true := by
  have hl := h.length
  have h2 : r.all (fun i => decide (0 ≤ i)) = true := List.all_eq_true.mpr fun i hi => decide_eq_true (mem_rg.mp (h.mem_iff.mp hi)).1
  have h3 : sortI r = rg m := sortI_rg h
  unfold rankOk ordL
  rw [intsP_ints, List.length_map, hl]
  show (decide (1 ≤ m ∧ m ≤ 10) && (r.all _ && decide (sortI r = rg ((m : Int)).toNat))) = true
  rw [h2, Int.toNat_natCast, h3]
  simp
  omega
theorem isP_ints : ∀ {ns : List Int}, (iL ns).all isP = true
  | [] => rfl
  | n :: ns => by show (isP (.int n) && (iL ns).all isP) = true; rw [isP_ints]; rfl
theorem ranking_yes {m : Nat} {r : List Int} (h : IsRk m r) (h0 : 0 < m) (h1 : m ≤ 10) {st : Cl.ST} : cRun F_Profile_is_ranking st [.t (rkP r)] = .ok (.t (.bl true)) st := by
  have hl := h.length
  have := is_ranking_eq (ps := iL r) isP_ints (by simp; omega)
  rw [rank_yes h h0 h1] at this
  exact cRun1 this
theorem rksP_length {rs : List (List Int)} : (rksP rs).length = rs.length := by simp
theorem len_rk {m : Nat} {r : List Int} (h : IsRk m r) : bLen [rkP r] = some (.int (m : Nat)) := by
  show some (PV.int (iL r).length) = _
  rw [List.length_map, h.length]
theorem init_loop {m : Nat} {x0 : SL} {all : List PV} {c : MC} {f : List Int} (h0 : 0 < m) (h1 : m ≤ 10) (ha : atI all 0 = some (rkP f)) (hf : IsRk m f) : ∀ {rs : List (List Int)} {y : Option SL}, (∀ r ∈ rs, IsRk m r) →
    ∃ y', forL (forB (tgN 2) p_Profile_init_0) (rksP rs) ⟨[some x0, some (.t (.tup all)), y], [c]⟩ = .nx ⟨[some x0, some (.t (.tup all)), y'], [c]⟩
  | [], y, _ => ⟨y, rfl⟩
  | r :: rs, y, h => by
    have hr := h r (List.mem_cons_self ..)
    obtain ⟨y', e⟩ := init_loop (rs := rs) (y := some (.t (rkP r))) h0 h1 ha hf fun q hq => h q (List.mem_cons_of_mem _ hq)
    refine ⟨y', ?_⟩
    have step : forB (tgN 2) p_Profile_init_0 (rkP r) ⟨[some x0, some (.t (.tup all)), y], [c]⟩ = .nx ⟨[some x0, some (.t (.tup all)), some (.t (rkP r))], [c]⟩ := by
      have e1 := fun st => ranking_yes (st := st) hr h0 h1
      have e2 := len_rk hr
      have e3 := len_rk hf
      simp only [ev_bind_ok, ev_bind_stuck, ev_bind_exc, ev_cC, ev_ofO, ev_ofM, ev_cVar, ev_cMv, ev_mMv, ev_cUn, ev_cBin, ev_cNil, ev_cCons, ev_views_nil, ev_views_cons, ev_view_t, ev_view_sl, ev_view_ih, ev_pv_lst, ev_pv_obj, ev_pv_dct, ev_cList, ev_mList, ev_cTruth, ev_cAnd, ev_cOr, ev_cNot, ev_cAndV, ev_cOrV, ev_cNotV, ev_cIf, ev_cYes, ev_cChain, ev_cDisp, ev_mDisp, ev_trees_nil, ev_trees_cons, ev_cFrz, ev_sNil, ev_sNo, ev_sSeq, ev_bindS_ok, ev_bindS_stuck, ev_sExpr, ev_sRet, ev_sRetN, ev_sRetM, ev_sIf, ev_sSet, ev_sSetM, ev_sAsg, ev_sItem, ev_getP_sl, ev_getP_ih, ev_setP_sl, ev_setP_ih, ev_set, ev_sets_nil, ev_sets_cons, ev_tgN, ev_tgS_tup, ev_tgS_lst, ev_tgs_nil, ev_tgs_cons, ev_nNil, ev_nT, ev_nM, ev_sPar, ev_setFs_nil, ev_setFs_t, ev_setFs_n, ev_cPl, ev_cCallF, ev_mCallF, ev_fcDef, ev_fcDefM, ev_mRg1, ev_cRng1, ev_cIt, ev_sFor, ev_clear_nil, ev_clear_cons, ev_restore_nil, ev_restore_cons, List.set, List.getElem?_cons_succ, List.getElem?_cons_zero, Option.bind_some, Option.map_some, List.length_cons, List.length_nil, if_true, Bool.not_true, Bool.not_false, Bool.false_eq_true, if_false, reduceIte, decide_true, decide_false, Nat.reduceAdd, Nat.zero_add, List.getD_cons_succ, List.getD_cons_zero, forB, p_Profile_init_0, pick1, e1, e2, e3, pIx, ha, pNe_int]
    show forL _ (rkP r :: rksP rs) _ = _
    unfold forL
    rw [step]
    exact e
theorem init_eq {m : Nat} {rs : List (List Int)} (h : IsPf m rs) : F_Profile_init [.i (.obj 0 []), .t (.tup (rksP rs))] = .ok (.t .non) [.obj 0 [("orders", .lst (rksP rs))]] := by
  obtain ⟨f, hf, ha⟩ := h.first
  obtain ⟨y', e⟩ := init_loop (x0 := .i 0) (all := rksP rs) (c := .obj 0 []) (f := f) h.mpos h.mle ha hf (rs := rs) (y := none) h.rk
  have hl : bLen [.tup (rksP rs)] = some (.int (rs.length : Nat)) := by
    show some (PV.int (rksP rs).length) = _
    rw [rksP_length]
  have h6 := h.le
  have c1 : pLe (.int 1) (.int (rs.length : Nat)) = some (.bl true) := by
    show some (PV.bl (decide _)) = _
    rw [decide_eq_true (by have := h.pos; omega)]
  have c2 : pLe (.int (rs.length : Nat)) (.int 6) = some (.bl true) := by
    show some (PV.bl (decide _)) = _
    rw [decide_eq_true (by omega)]
  unfold F_Profile_init runF g_Profile_init
  simp only [ev_bind_ok, ev_bind_stuck, ev_bind_exc, ev_cC, ev_ofO, ev_ofM, ev_cVar, ev_cMv, ev_mMv, ev_cUn, ev_cBin, ev_cNil, ev_cCons, ev_views_nil, ev_views_cons, ev_view_t, ev_view_sl, ev_view_ih, ev_pv_lst, ev_pv_obj, ev_pv_dct, ev_cList, ev_mList, ev_cTruth, ev_cAnd, ev_cOr, ev_cNot, ev_cAndV, ev_cOrV, ev_cNotV, ev_cIf, ev_cYes, ev_cChain, ev_cDisp, ev_mDisp, ev_trees_nil, ev_trees_cons, ev_cFrz, ev_sNil, ev_sNo, ev_sSeq, ev_bindS_ok, ev_bindS_stuck, ev_sExpr, ev_sRet, ev_sRetN, ev_sRetM, ev_sIf, ev_sSet, ev_sSetM, ev_sAsg, ev_sItem, ev_getP_sl, ev_getP_ih, ev_setP_sl, ev_setP_ih, ev_set, ev_sets_nil, ev_sets_cons, ev_tgN, ev_tgS_tup, ev_tgS_lst, ev_tgs_nil, ev_tgs_cons, ev_nNil, ev_nT, ev_nM, ev_sPar, ev_setFs_nil, ev_setFs_t, ev_setFs_n, ev_cPl, ev_cCallF, ev_mCallF, ev_fcDef, ev_fcDefM, ev_mRg1, ev_cRng1, ev_cIt, ev_sFor, ev_clear_nil, ev_clear_cons, ev_restore_nil, ev_restore_cons, List.set, List.getElem?_cons_succ, List.getElem?_cons_zero, Option.bind_some, Option.map_some, List.length_cons, List.length_nil, if_true, Bool.not_true, Bool.not_false, Bool.false_eq_true, if_false, reduceIte, decide_true, decide_false, Nat.reduceAdd, Nat.zero_add, List.getD_cons_succ, List.getD_cons_zero, enter, slots, conts, List.replicate, List.cons_append, List.nil_append, Nat.reduceSub, hl, c1, c2, cClV, e, bList, sAttr, putP, if_pos, List.mem_singleton, true_and, and_self, Nat.reduceLT, decide_true]
theorem make_eq {m : Nat} {rs : List (List Int)} (h : IsPf m rs) {st : Cl.ST} : fcMake 0 (fcStar 1 F_Profile_init) ((rksP rs).map SV.t) st = .ok (.t (profP rs)) st := by
  have hl : (rksP rs).length = rs.length := rksP_length
  have tr : ∀ ps : List PV, trees (ps.map SV.t) = some ps := by
    intro ps
    induction ps with
    | nil => rfl
    | cons p ps ih => show (trees (ps.map SV.t)).map _ = _; rw [ih]; rfl
  have e : cRun F_Profile_init (push st (.obj 0 [])) [.pl (.sl st.loc.length), .t (.tup (rksP rs))] = .ok (.t .non) (Cl.setP (push st (.obj 0 [])) (.sl st.loc.length) (.obj 0 [("orders", .lst (rksP rs))])) := by
    refine cRun_i2 ?_ (init_eq h)
    show (match (st.loc ++ [some (SL.m (.obj 0 []))])[st.loc.length]? with | some (some (.m c)) => some c | _ => none) = _
    rw [List.getElem?_append_right (Nat.le_refl _), Nat.sub_self]; rfl
  have o : fcStar 1 F_Profile_init (SV.pl (.sl st.loc.length) :: (rksP rs).map SV.t) (push st (.obj 0 [])) = .ok (.t .non) (Cl.setP (push st (.obj 0 [])) (.sl st.loc.length) (.obj 0 [("orders", .lst (rksP rs))])) := by
    unfold fcStar
    show (match trees ((rksP rs).map SV.t) with | some ps => _ | none => _) = _
    rw [tr]
    have hz : szOk ((SV.pl (.sl st.loc.length) :: (rksP rs).map SV.t).length) = true := by
      have := h.le
      simp [szOk]; omega
    show (if 1 ≤ (SV.pl (.sl st.loc.length) :: (rksP rs).map SV.t).length ∧ _ then _ else _) = _
    rw [if_pos ⟨by simp, hz⟩]
    exact e
  unfold fcMake
  rw [o]
  have l : (Cl.setP (push st (.obj 0 [])) (.sl st.loc.length) (.obj 0 [("orders", .lst (rksP rs))])).loc = st.loc ++ [some (.m (.obj 0 [("orders", .lst (rksP rs))]))] := by
    show (st.loc ++ [some (SL.m (.obj 0 []))]).set st.loc.length _ = _
    rw [List.set_append_right _ _ (Nat.le_refl _), Nat.sub_self]; rfl
  show (match (Cl.setP (push st (.obj 0 [])) (.sl st.loc.length) (.obj 0 [("orders", .lst (rksP rs))])).loc.getLast? with | some (some (SL.m m)) => Out.ok (SV.t m.pv) (pop _) | _ => .stuck) = _
  rw [l, List.getLast?_concat]
  show Out.ok (SV.t (profP rs)) (pop (Cl.setP (push st (.obj 0 [])) (.sl st.loc.length) (.obj 0 [("orders", .lst (rksP rs))]))) = _
  have : pop (Cl.setP (push st (.obj 0 [])) (.sl st.loc.length) (.obj 0 [("orders", .lst (rksP rs))])) = st := by
    unfold pop
    rw [l, List.dropLast_concat]; rfl
  rw [this]
theorem intb {n m : Nat} (h : n < m) : ofIx (m : Nat) (.int (n : Nat)) = true := decide_eq_true ⟨by omega, by omega⟩
theorem run_index {st : Cl.ST} {i n : Int} (h0 : 0 ≤ i) (h1 : i < n) : cRun F_is_index st [.t (.int i), .t (.int n)] = .ok (.t (.bl true)) st := by
  have := is_index_eq (p := .int i) (n := n) rfl
  rw [show ofIx n (.int i) = true from decide_eq_true ⟨h0, h1⟩] at this
  exact cRun2 this
theorem len_lst {ps : List PV} : bLen [.lst ps] = some (.int (ps.length : Nat)) := rfl
theorem len_tup {ps : List PV} : bLen [.tup ps] = some (.int (ps.length : Nat)) := rfl
theorem fld_orders {rs : List (List Int)} : pFld [0] "orders" (profP rs) = some (.lst (rksP rs)) := rfl
theorem check_player_eq {rs : List (List Int)} {i : Int} (h0 : 0 ≤ i) (h1 : i < rs.length) : F_Profile_check_player [.t (profP rs), .t (.int i)] = .ok (.t .non) [] := by
  have e := fun st => run_index (st := st) (i := i) (n := (rs.length : Nat)) h0 h1
  unfold F_Profile_check_player runF g_Profile_check_player
  simp only [ev_bind_ok, ev_bind_stuck, ev_bind_exc, ev_cC, ev_ofO, ev_ofM, ev_cVar, ev_cMv, ev_mMv, ev_cUn, ev_cBin, ev_cNil, ev_cCons, ev_views_nil, ev_views_cons, ev_view_t, ev_view_sl, ev_view_ih, ev_pv_lst, ev_pv_obj, ev_pv_dct, ev_cList, ev_mList, ev_cTruth, ev_cAnd, ev_cOr, ev_cNot, ev_cAndV, ev_cOrV, ev_cNotV, ev_cIf, ev_cYes, ev_cChain, ev_cDisp, ev_mDisp, ev_trees_nil, ev_trees_cons, ev_cFrz, ev_sNil, ev_sNo, ev_sSeq, ev_bindS_ok, ev_bindS_stuck, ev_sExpr, ev_sRet, ev_sRetN, ev_sRetM, ev_sIf, ev_sSet, ev_sSetM, ev_sAsg, ev_sItem, ev_getP_sl, ev_getP_ih, ev_setP_sl, ev_setP_ih, ev_set, ev_sets_nil, ev_sets_cons, ev_tgN, ev_tgS_tup, ev_tgS_lst, ev_tgs_nil, ev_tgs_cons, ev_nNil, ev_nT, ev_nM, ev_sPar, ev_setFs_nil, ev_setFs_t, ev_setFs_n, ev_cPl, ev_cCallF, ev_mCallF, ev_fcDef, ev_fcDefM, ev_mRg1, ev_cRng1, ev_cIt, ev_sFor, ev_clear_nil, ev_clear_cons, ev_restore_nil, ev_restore_cons, List.set, List.getElem?_cons_succ, List.getElem?_cons_zero, Option.bind_some, Option.map_some, List.length_cons, List.length_nil, if_true, Bool.not_true, Bool.not_false, Bool.false_eq_true, if_false, reduceIte, decide_true, decide_false, Nat.reduceAdd, Nat.zero_add, List.getD_cons_succ, List.getD_cons_zero, enter, slots, conts, List.replicate, List.cons_append, List.nil_append, Nat.reduceSub, fld_orders, len_lst, rksP_length, pick2, e]
theorem unanimous_eq {m : Nat} {r : List Int} {n : Nat} (hr : IsRk m r) (h0 : 0 < m) (h1 : m ≤ 10) (hn : 0 < n) (hn6 : n ≤ 6) : F_Profile_unanimous [.t (.fn 0), .t (rkP r), .t (.int n)] = .ok (.t (profP (List.replicate n r))) [] := by
  have hp : IsPf m (List.replicate n r) := ⟨fun q hq => by rw [List.eq_of_mem_replicate hq]; exact hr, by simpa using hn, by simpa using hn6, h0, h1⟩
  have e1 := fun st => ranking_yes (st := st) hr h0 h1
  have e2 : ∀ st, cRun F_is_integer st [.t (.int n), .t (.int 1)] = .ok (.t (.bl true)) st := fun st => by
    have := is_integer_eq (p := .int n) (m := 1) rfl
    rw [show ofI 1 (.int n) = true from decide_eq_true (by omega)] at this
    exact cRun2 this
  have e3 : pGt (.int n) (.int 6) = some (.bl false) := by
    show some (PV.bl (decide _)) = _
    rw [decide_eq_false (by omega)]
  have e4 : pMul (.lst [rkP r]) (.int n) = some (.lst (rksP (List.replicate n r))) := by
    have : (List.replicate n [rkP r]).flatten = rksP (List.replicate n r) := by
      rw [rksP, List.map_replicate]
      clear e2 e3 hp hn hn6 e1
      induction n with
      | zero => rfl
      | succ n ih => rw [List.replicate_succ, List.flatten_cons, ih, List.replicate_succ]; rfl
    have b3 : szOk ([rkP r].length * ((n : Nat) : Int).toNat) = true := by
      rw [Int.toNat_natCast]
      simp [szOk]; omega
    rw [pMul_lst (by omega) (by omega) b3, Int.toNat_natCast, this]
  have e5 := fun st => make_eq (st := st) hp
  have hz : szOk 1 = true := by decide
  unfold F_Profile_unanimous runF g_Profile_unanimous
  simp only [ev_bind_ok, ev_bind_stuck, ev_bind_exc, ev_cC, ev_ofO, ev_ofM, ev_cVar, ev_cMv, ev_mMv, ev_cUn, ev_cBin, ev_cNil, ev_cCons, ev_views_nil, ev_views_cons, ev_view_t, ev_view_sl, ev_view_ih, ev_pv_lst, ev_pv_obj, ev_pv_dct, ev_cList, ev_mList, ev_cTruth, ev_cAnd, ev_cOr, ev_cNot, ev_cAndV, ev_cOrV, ev_cNotV, ev_cIf, ev_cYes, ev_cChain, ev_cDisp, ev_mDisp, ev_trees_nil, ev_trees_cons, ev_cFrz, ev_sNil, ev_sNo, ev_sSeq, ev_bindS_ok, ev_bindS_stuck, ev_sExpr, ev_sRet, ev_sRetN, ev_sRetM, ev_sIf, ev_sSet, ev_sSetM, ev_sAsg, ev_sItem, ev_getP_sl, ev_getP_ih, ev_setP_sl, ev_setP_ih, ev_set, ev_sets_nil, ev_sets_cons, ev_tgN, ev_tgS_tup, ev_tgS_lst, ev_tgs_nil, ev_tgs_cons, ev_nNil, ev_nT, ev_nM, ev_sPar, ev_setFs_nil, ev_setFs_t, ev_setFs_n, ev_cPl, ev_cCallF, ev_mCallF, ev_fcDef, ev_fcDefM, ev_mRg1, ev_cRng1, ev_cIt, ev_sFor, ev_clear_nil, ev_clear_cons, ev_restore_nil, ev_restore_cons, List.set, List.getElem?_cons_succ, List.getElem?_cons_zero, Option.bind_some, Option.map_some, List.length_cons, List.length_nil, if_true, Bool.not_true, Bool.not_false, Bool.false_eq_true, if_false, reduceIte, decide_true, decide_false, Nat.reduceAdd, Nat.zero_add, List.getD_cons_succ, List.getD_cons_zero, enter, slots, conts, List.replicate, List.cons_append, List.nil_append, Nat.reduceSub, pick1, pick2, e1, e2, cClV, e3, hz, e4, cLoc, cStar, starO, List.append_nil, e5]
end Std
set_option Elab.async false
set_option linter.all false
set_option maxRecDepth 100000
set_option maxHeartbeats 4000000
namespace Std
open Cl PySem PySem.Spec PyProof.Rows L2
theorem ixN_nat {n k : Nat} (h : k < n) : ixN n (k : Nat) = some k := by
  unfold ixN
  rw [if_pos (by omega), if_pos (by omega), Int.toNat_natCast]
theorem IsPf.set {m : Nat} {rs : List (List Int)} (h : IsPf m rs) {r : List Int} (hr : IsRk m r) (i : Nat) : IsPf m (rs.set i r) :=
  ⟨fun q hq => (List.mem_or_eq_of_mem_set hq).elim (h.rk q) fun e => by rw [e]; exact hr, by rw [List.length_set]; exact h.pos, by rw [List.length_set]; exact h.le, h.mpos, h.mle⟩
theorem rksP_set {rs : List (List Int)} {i : Nat} {r : List Int} : (rksP rs).set i (rkP r) = rksP (rs.set i r) := by
  simp [rksP, List.map_set]
theorem with_ranking_eq {m : Nat} {rs : List (List Int)} {i : Nat} {r : List Int} (h : IsPf m rs) (hi : i < rs.length) (hr : IsRk m r) :
    F_Profile_with_ranking [.t (profP rs), .t (.int i), .t (rkP r)] = .ok (.t (profP (rs.set i r))) [] := by
  obtain ⟨f, hf, ha⟩ := h.first
  have e0 : ∀ st, cRun F_Profile_check_player st [.t (profP rs), .t (.int i)] = .ok (.t .non) st := fun st => cRun2 (check_player_eq (by omega) (by omega))
  have e1 := fun st => ranking_yes (st := st) hr h.mpos h.mle
  have e2 := len_rk hr
  have e3 := len_rk hf
  have e4 : ixN (rksP rs).length (i : Nat) = some i := ixN_nat (by rw [rksP_length]; exact hi)
  have e5 := fun st => make_eq (st := st) (h.set hr i)
  have e6 : (rksP rs).set i (rkP r) = rksP (rs.set i r) := rksP_set
  have e7 : ([("orders", PV.lst (rksP rs))] : List (PySem.Str × PV)).lookup ("check_player" : PySem.Str) = none := rfl
  unfold F_Profile_with_ranking runF g_Profile_with_ranking
  simp only [ev_bind_ok, ev_bind_stuck, ev_bind_exc, ev_cC, ev_ofO, ev_ofM, ev_cVar, ev_cMv, ev_mMv, ev_cUn, ev_cBin, ev_cNil, ev_cCons, ev_views_nil, ev_views_cons, ev_view_t, ev_view_sl, ev_view_ih, ev_pv_lst, ev_pv_obj, ev_pv_dct, ev_cList, ev_mList, ev_cTruth, ev_cAnd, ev_cOr, ev_cNot, ev_cAndV, ev_cOrV, ev_cNotV, ev_cIf, ev_cYes, ev_cChain, ev_cDisp, ev_mDisp, ev_trees_nil, ev_trees_cons, ev_cFrz, ev_sNil, ev_sNo, ev_sSeq, ev_bindS_ok, ev_bindS_stuck, ev_sExpr, ev_sRet, ev_sRetN, ev_sRetM, ev_sIf, ev_sSet, ev_sSetM, ev_sAsg, ev_sItem, ev_getP_sl, ev_getP_ih, ev_setP_sl, ev_setP_ih, ev_set, ev_sets_nil, ev_sets_cons, ev_tgN, ev_tgS_tup, ev_tgS_lst, ev_tgs_nil, ev_tgs_cons, ev_nNil, ev_nT, ev_nM, ev_sPar, ev_setFs_nil, ev_setFs_t, ev_setFs_n, ev_cPl, ev_cCallF, ev_mCallF, ev_fcDef, ev_fcDefM, ev_mRg1, ev_cRng1, ev_cIt, ev_sFor, ev_clear_nil, ev_clear_cons, ev_restore_nil, ev_restore_cons, List.set, List.getElem?_cons_succ, List.getElem?_cons_zero, Option.bind_some, Option.map_some, List.length_cons, List.length_nil, if_true, Bool.not_true, Bool.not_false, Bool.false_eq_true, if_false, reduceIte, decide_true, decide_false, Nat.reduceAdd, Nat.zero_add, List.getD_cons_succ, List.getD_cons_zero, enter, slots, conts, List.replicate, List.cons_append, List.nil_append, Nat.reduceSub, cMeth, e7, Option.isNone_none, and_self, pick2, pick1, e0, e1, e2, e3, fld_orders, pIx, ha, pNe_int, bList, e4, e6, cStar, starO, List.append_nil, e5]
def builtL (m : Nat) : Nat → List (List Int) → List (List Int) → List (List Int)
  | _, [], acc => acc
  | i, r :: rs, acc => builtL m (i + 1) rs (acc.set i r)
theorem enumL_cons {i : Nat} {p : PV} {ps : List PV} : enumL i (p :: ps) = .tup [.int i, p] :: enumL (i + 1) ps := rfl
theorem builtL_eq {m : Nat} : ∀ {rs pre acc : List (List Int)}, acc.length = pre.length + rs.length → acc.take pre.length = pre → builtL m pre.length rs acc = pre ++ rs
  | [], pre, acc, h, h2 => by
    unfold builtL
    rw [List.append_nil, ← h2, List.take_of_length_le]
    rw [h]; simp
  | r :: rs, pre, acc, h, h2 => by
    unfold builtL
    have := builtL_eq (m := m) (rs := rs) (pre := pre ++ [r]) (acc := acc.set pre.length r) (by rw [List.length_set, h, List.length_append]; simp; omega) (by
      rw [List.length_append]
      rw [List.length_cons] at h
      rw [List.take_set, List.length_singleton, List.take_add_one, h2]
      have : acc[pre.length]?.toList = [acc[pre.length]] := by rw [List.getElem?_eq_getElem (by omega)]; rfl
      rw [this, List.set_append_right _ _ (by omega)]; simp)
    rw [List.length_append] at this
    rw [show pre.length + 1 = pre.length + [r].length from rfl, this, List.append_assoc]; rfl
theorem built_loop {m : Nat} {x : PV} : ∀ {rs : List (List Int)} {i : Nat} {acc : List (List Int)} {y z : Option SL}, IsPf m acc → (∀ r ∈ rs, IsRk m r) → i + rs.length ≤ acc.length →
    ∃ y' z', forL (forB (tgS [tgN 2, tgN 3]) p_law_built_0) (enumL i (rksP rs)) ⟨[some (.t x), some (.t (profP acc)), y, z], []⟩ = .nx ⟨[some (.t x), some (.t (profP (builtL m i rs acc))), y', z'], []⟩
  | [], i, acc, y, z, _, _, _ => ⟨y, z, rfl⟩
  | r :: rs, i, acc, y, z, h, hr, hl => by
    rw [List.length_cons] at hl
    have h0 := hr r (List.mem_cons_self ..)
    obtain ⟨y', z', e⟩ := built_loop (x := x) (rs := rs) (i := i + 1) (y := some (.t (.int i))) (z := some (.t (rkP r))) (h.set h0 i) (fun q hq => hr q (List.mem_cons_of_mem _ hq)) (by rw [List.length_set]; omega)
    refine ⟨y', z', ?_⟩
    have step : forB (tgS [tgN 2, tgN 3]) p_law_built_0 (.tup [.int i, rkP r]) ⟨[some (.t x), some (.t (profP acc)), y, z], []⟩ = .nx ⟨[some (.t x), some (.t (profP (acc.set i r))), some (.t (.int i)), some (.t (rkP r))], []⟩ := by
      have e0 : ∀ st, cRun F_Profile_with_ranking st [.t (profP acc), .t (.int i), .t (rkP r)] = .ok (.t (profP (acc.set i r))) st := fun st => cRun3 (with_ranking_eq h (by omega) h0)
      have e7 : ([("orders", PV.lst (rksP acc))] : List (PySem.Str × PV)).lookup ("with_ranking" : PySem.Str) = none := rfl
      simp only [ev_bind_ok, ev_bind_stuck, ev_bind_exc, ev_cC, ev_ofO, ev_ofM, ev_cVar, ev_cMv, ev_mMv, ev_cUn, ev_cBin, ev_cNil, ev_cCons, ev_views_nil, ev_views_cons, ev_view_t, ev_view_sl, ev_view_ih, ev_pv_lst, ev_pv_obj, ev_pv_dct, ev_cList, ev_mList, ev_cTruth, ev_cAnd, ev_cOr, ev_cNot, ev_cAndV, ev_cOrV, ev_cNotV, ev_cIf, ev_cYes, ev_cChain, ev_cDisp, ev_mDisp, ev_trees_nil, ev_trees_cons, ev_cFrz, ev_sNil, ev_sNo, ev_sSeq, ev_bindS_ok, ev_bindS_stuck, ev_sExpr, ev_sRet, ev_sRetN, ev_sRetM, ev_sIf, ev_sSet, ev_sSetM, ev_sAsg, ev_sItem, ev_getP_sl, ev_getP_ih, ev_setP_sl, ev_setP_ih, ev_set, ev_sets_nil, ev_sets_cons, ev_tgN, ev_tgS_tup, ev_tgS_lst, ev_tgs_nil, ev_tgs_cons, ev_nNil, ev_nT, ev_nM, ev_sPar, ev_setFs_nil, ev_setFs_t, ev_setFs_n, ev_cPl, ev_cCallF, ev_mCallF, ev_fcDef, ev_fcDefM, ev_mRg1, ev_cRng1, ev_cIt, ev_sFor, ev_clear_nil, ev_clear_cons, ev_restore_nil, ev_restore_cons, List.set, List.getElem?_cons_succ, List.getElem?_cons_zero, Option.bind_some, Option.map_some, List.length_cons, List.length_nil, if_true, Bool.not_true, Bool.not_false, Bool.false_eq_true, if_false, reduceIte, decide_true, decide_false, Nat.reduceAdd, Nat.zero_add, List.getD_cons_succ, List.getD_cons_zero, forB, p_law_built_0, List.cons_append, List.nil_append, cMeth, e7, Option.isNone_none, and_self, pick3, e0]
    show forL _ (.tup [.int i, rkP r] :: enumL (i + 1) (rksP rs)) _ = _
    unfold forL
    rw [step]
    exact e
theorem built_eq {m : Nat} {rs : List (List Int)} (h : IsPf m rs) : F_law_built [.t (.lst (rksP rs))] = .ok (.t (profP rs)) [] := by
  obtain ⟨f, hf, ha⟩ := h.first
  have hp : IsPf m (List.replicate rs.length f) := ⟨fun q hq => by rw [List.eq_of_mem_replicate hq]; exact hf, by simpa using h.pos, by simpa using h.le, h.mpos, h.mle⟩
  have e0 : ∀ st, cRun F_Profile_unanimous st [.t (.fn 0), .t (rkP f), .t (.int rs.length)] = .ok (.t (profP (List.replicate rs.length f))) st := fun st => cRun3 (unanimous_eq hf h.mpos h.mle h.pos h.le)
  obtain ⟨y', z', e⟩ := built_loop (x := .lst (rksP rs)) (rs := rs) (i := 0) (acc := List.replicate rs.length f) (y := none) (z := none) hp h.rk (by simp)
  rw [show builtL m 0 rs (List.replicate rs.length f) = rs from builtL_eq (pre := []) (by simp) rfl] at e
  unfold F_law_built runF g_law_built
  simp only [ev_bind_ok, ev_bind_stuck, ev_bind_exc, ev_cC, ev_ofO, ev_ofM, ev_cVar, ev_cMv, ev_mMv, ev_cUn, ev_cBin, ev_cNil, ev_cCons, ev_views_nil, ev_views_cons, ev_view_t, ev_view_sl, ev_view_ih, ev_pv_lst, ev_pv_obj, ev_pv_dct, ev_cList, ev_mList, ev_cTruth, ev_cAnd, ev_cOr, ev_cNot, ev_cAndV, ev_cOrV, ev_cNotV, ev_cIf, ev_cYes, ev_cChain, ev_cDisp, ev_mDisp, ev_trees_nil, ev_trees_cons, ev_cFrz, ev_sNil, ev_sNo, ev_sSeq, ev_bindS_ok, ev_bindS_stuck, ev_sExpr, ev_sRet, ev_sRetN, ev_sRetM, ev_sIf, ev_sSet, ev_sSetM, ev_sAsg, ev_sItem, ev_getP_sl, ev_getP_ih, ev_setP_sl, ev_setP_ih, ev_set, ev_sets_nil, ev_sets_cons, ev_tgN, ev_tgS_tup, ev_tgS_lst, ev_tgs_nil, ev_tgs_cons, ev_nNil, ev_nT, ev_nM, ev_sPar, ev_setFs_nil, ev_setFs_t, ev_setFs_n, ev_cPl, ev_cCallF, ev_mCallF, ev_fcDef, ev_fcDefM, ev_mRg1, ev_cRng1, ev_cIt, ev_sFor, ev_clear_nil, ev_clear_cons, ev_restore_nil, ev_restore_cons, List.set, List.getElem?_cons_succ, List.getElem?_cons_zero, Option.bind_some, Option.map_some, List.length_cons, List.length_nil, if_true, Bool.not_true, Bool.not_false, Bool.false_eq_true, if_false, reduceIte, decide_true, decide_false, Nat.reduceAdd, Nat.zero_add, List.getD_cons_succ, List.getD_cons_zero, enter, slots, conts, List.replicate, List.cons_append, List.nil_append, Nat.reduceSub, pIx, ha, len_lst, rksP_length, pick3, e0, cEn, e]
theorem run_built {m : Nat} {rs : List (List Int)} (h : IsPf m rs) {st : Cl.ST} : cRun F_law_built st [.t (.lst (rksP rs))] = .ok (.t (profP rs)) st := cRun1 (built_eq h)
theorem prop_players {rs : List (List Int)} {st : Cl.ST} : cRun F_Profile_players st [.t (profP rs)] = .ok (.t (.int rs.length)) st := cRun1 (o := []) (by
  unfold F_Profile_players runF g_Profile_players
  simp only [ev_bind_ok, ev_bind_stuck, ev_bind_exc, ev_cC, ev_ofO, ev_ofM, ev_cVar, ev_cMv, ev_mMv, ev_cUn, ev_cBin, ev_cNil, ev_cCons, ev_views_nil, ev_views_cons, ev_view_t, ev_view_sl, ev_view_ih, ev_pv_lst, ev_pv_obj, ev_pv_dct, ev_cList, ev_mList, ev_cTruth, ev_cAnd, ev_cOr, ev_cNot, ev_cAndV, ev_cOrV, ev_cNotV, ev_cIf, ev_cYes, ev_cChain, ev_cDisp, ev_mDisp, ev_trees_nil, ev_trees_cons, ev_cFrz, ev_sNil, ev_sNo, ev_sSeq, ev_bindS_ok, ev_bindS_stuck, ev_sExpr, ev_sRet, ev_sRetN, ev_sRetM, ev_sIf, ev_sSet, ev_sSetM, ev_sAsg, ev_sItem, ev_getP_sl, ev_getP_ih, ev_setP_sl, ev_setP_ih, ev_set, ev_sets_nil, ev_sets_cons, ev_tgN, ev_tgS_tup, ev_tgS_lst, ev_tgs_nil, ev_tgs_cons, ev_nNil, ev_nT, ev_nM, ev_sPar, ev_setFs_nil, ev_setFs_t, ev_setFs_n, ev_cPl, ev_cCallF, ev_mCallF, ev_fcDef, ev_fcDefM, ev_mRg1, ev_cRng1, ev_cIt, ev_sFor, ev_clear_nil, ev_clear_cons, ev_restore_nil, ev_restore_cons, List.set, List.getElem?_cons_succ, List.getElem?_cons_zero, Option.bind_some, Option.map_some, List.length_cons, List.length_nil, if_true, Bool.not_true, Bool.not_false, Bool.false_eq_true, if_false, reduceIte, decide_true, decide_false, Nat.reduceAdd, Nat.zero_add, List.getD_cons_succ, List.getD_cons_zero, enter, slots, conts, List.replicate, List.cons_append, List.nil_append, Nat.reduceSub, fld_orders, len_lst, rksP_length])
theorem prop_alternatives {m : Nat} {rs : List (List Int)} (h : IsPf m rs) {st : Cl.ST} : cRun F_Profile_alternatives st [.t (profP rs)] = .ok (.t (.int m)) st := cRun1 (o := []) (by
  obtain ⟨f, hf, ha⟩ := h.first
  have e3 := len_rk hf
  unfold F_Profile_alternatives runF g_Profile_alternatives
  simp only [ev_bind_ok, ev_bind_stuck, ev_bind_exc, ev_cC, ev_ofO, ev_ofM, ev_cVar, ev_cMv, ev_mMv, ev_cUn, ev_cBin, ev_cNil, ev_cCons, ev_views_nil, ev_views_cons, ev_view_t, ev_view_sl, ev_view_ih, ev_pv_lst, ev_pv_obj, ev_pv_dct, ev_cList, ev_mList, ev_cTruth, ev_cAnd, ev_cOr, ev_cNot, ev_cAndV, ev_cOrV, ev_cNotV, ev_cIf, ev_cYes, ev_cChain, ev_cDisp, ev_mDisp, ev_trees_nil, ev_trees_cons, ev_cFrz, ev_sNil, ev_sNo, ev_sSeq, ev_bindS_ok, ev_bindS_stuck, ev_sExpr, ev_sRet, ev_sRetN, ev_sRetM, ev_sIf, ev_sSet, ev_sSetM, ev_sAsg, ev_sItem, ev_getP_sl, ev_getP_ih, ev_setP_sl, ev_setP_ih, ev_set, ev_sets_nil, ev_sets_cons, ev_tgN, ev_tgS_tup, ev_tgS_lst, ev_tgs_nil, ev_tgs_cons, ev_nNil, ev_nT, ev_nM, ev_sPar, ev_setFs_nil, ev_setFs_t, ev_setFs_n, ev_cPl, ev_cCallF, ev_mCallF, ev_fcDef, ev_fcDefM, ev_mRg1, ev_cRng1, ev_cIt, ev_sFor, ev_clear_nil, ev_clear_cons, ev_restore_nil, ev_restore_cons, List.set, List.getElem?_cons_succ, List.getElem?_cons_zero, Option.bind_some, Option.map_some, List.length_cons, List.length_nil, if_true, Bool.not_true, Bool.not_false, Bool.false_eq_true, if_false, reduceIte, decide_true, decide_false, Nat.reduceAdd, Nat.zero_add, List.getD_cons_succ, List.getD_cons_zero, enter, slots, conts, List.replicate, List.cons_append, List.nil_append, Nat.reduceSub, fld_orders, pIx, ha, e3])
def IsTu (n size : Nat) (ts : List Int) : Prop := ts.length + 1 = size ∧ ∀ t ∈ ts, 0 ≤ t ∧ t < (n : Int)
def sqP (tup : Bool) (ps : List PV) : PV := if tup then .tup ps else .lst ps
theorem ct_lc {rs : List (List Int)} {x y z : Option SL} {ts : List Int} (ht : ∀ t ∈ ts, 0 ≤ t ∧ t < (rs.length : Int)) :
    lcL (tgN 3) c_check_turns_0_t c_check_turns_0_e [3] (iL ts) ⟨[some (.t (profP rs)), y, z, none], []⟩ = .ok ((iL ts).map fun _ => .bl true) ⟨[some (.t (profP rs)), y, z, none], []⟩ :=
  lcL_map _ fun p hp => by
    obtain ⟨t, h, rfl⟩ := List.mem_map.mp hp
    obtain ⟨h0, h1⟩ := ht t h
    refine ⟨_, rfl, ?_, rfl⟩
    have e0 := fun st => prop_players (rs := rs) (st := st)
    have e1 := fun st => run_index (st := st) h0 h1
    simp only [ev_bind_ok, ev_bind_stuck, ev_bind_exc, ev_cC, ev_ofO, ev_ofM, ev_cVar, ev_cMv, ev_mMv, ev_cUn, ev_cBin, ev_cNil, ev_cCons, ev_views_nil, ev_views_cons, ev_view_t, ev_view_sl, ev_view_ih, ev_pv_lst, ev_pv_obj, ev_pv_dct, ev_cList, ev_mList, ev_cTruth, ev_cAnd, ev_cOr, ev_cNot, ev_cAndV, ev_cOrV, ev_cNotV, ev_cIf, ev_cYes, ev_cChain, ev_cDisp, ev_mDisp, ev_trees_nil, ev_trees_cons, ev_cFrz, ev_sNil, ev_sNo, ev_sSeq, ev_bindS_ok, ev_bindS_stuck, ev_sExpr, ev_sRet, ev_sRetN, ev_sRetM, ev_sIf, ev_sSet, ev_sSetM, ev_sAsg, ev_sItem, ev_getP_sl, ev_getP_ih, ev_setP_sl, ev_setP_ih, ev_set, ev_sets_nil, ev_sets_cons, ev_tgN, ev_tgS_tup, ev_tgS_lst, ev_tgs_nil, ev_tgs_cons, ev_nNil, ev_nT, ev_nM, ev_sPar, ev_setFs_nil, ev_setFs_t, ev_setFs_n, ev_cPl, ev_cCallF, ev_mCallF, ev_fcDef, ev_fcDefM, ev_mRg1, ev_cRng1, ev_cIt, ev_sFor, ev_clear_nil, ev_clear_cons, ev_restore_nil, ev_restore_cons, List.set, List.getElem?_cons_succ, List.getElem?_cons_zero, Option.bind_some, Option.map_some, List.length_cons, List.length_nil, if_true, Bool.not_true, Bool.not_false, Bool.false_eq_true, if_false, reduceIte, decide_true, decide_false, Nat.reduceAdd, Nat.zero_add, List.getD_cons_succ, List.getD_cons_zero, c_check_turns_0_e, cProp, pick1, pick2, e0, noX, e1]
theorem check_turns_eq {rs : List (List Int)} {size : Nat} {ts : List Int} {tup : Bool} (ht : IsTu rs.length size ts) (hs : size ≤ 1000) :
    F_check_turns [.t (profP rs), .t (sqP tup (iL ts)), .t (.int size)] = .ok (.t .non) [] := by
  have hz : szOk ((iL ts).map fun _ => PV.bl true).length = true := by
    have := ht.1
    simp [szOk]; omega
  have hz2 : szOk 2 = true := by decide
  have hb : bAll [.lst ((iL ts).map fun _ => PV.bl true)] = some (.bl true) := by
    rw [bAll_map (f := fun _ => true)]
    simp
  have hn : pSub (.int size) (.int 1) = some (.int ((ts.length : Nat) : Int)) := by
    have := ht.1
    show some (PV.int ((size : Int) - 1)) = _
    rw [show ((size : Int) - 1) = (ts.length : Nat) by omega]
  have e1 := fun y z => ct_lc (x := none) (y := y) (z := z) ht.2
  cases tup with
  | true =>
    have hi := isi_sq (p := .tup (iL ts)) rfl
    have hl : bLen [.tup (iL ts)] = some (.int (ts.length : Nat)) := by rw [len_tup, List.length_map]
    unfold F_check_turns runF g_check_turns sqP
    simp only [ev_bind_ok, ev_bind_stuck, ev_bind_exc, ev_cC, ev_ofO, ev_ofM, ev_cVar, ev_cMv, ev_mMv, ev_cUn, ev_cBin, ev_cNil, ev_cCons, ev_views_nil, ev_views_cons, ev_view_t, ev_view_sl, ev_view_ih, ev_pv_lst, ev_pv_obj, ev_pv_dct, ev_cList, ev_mList, ev_cTruth, ev_cAnd, ev_cOr, ev_cNot, ev_cAndV, ev_cOrV, ev_cNotV, ev_cIf, ev_cYes, ev_cChain, ev_cDisp, ev_mDisp, ev_trees_nil, ev_trees_cons, ev_cFrz, ev_sNil, ev_sNo, ev_sSeq, ev_bindS_ok, ev_bindS_stuck, ev_sExpr, ev_sRet, ev_sRetN, ev_sRetM, ev_sIf, ev_sSet, ev_sSetM, ev_sAsg, ev_sItem, ev_getP_sl, ev_getP_ih, ev_setP_sl, ev_setP_ih, ev_set, ev_sets_nil, ev_sets_cons, ev_tgN, ev_tgS_tup, ev_tgS_lst, ev_tgs_nil, ev_tgs_cons, ev_nNil, ev_nT, ev_nM, ev_sPar, ev_setFs_nil, ev_setFs_t, ev_setFs_n, ev_cPl, ev_cCallF, ev_mCallF, ev_fcDef, ev_fcDefM, ev_mRg1, ev_cRng1, ev_cIt, ev_sFor, ev_clear_nil, ev_clear_cons, ev_restore_nil, ev_restore_cons, List.set, List.getElem?_cons_succ, List.getElem?_cons_zero, Option.bind_some, Option.map_some, List.length_cons, List.length_nil, if_true, Bool.not_true, Bool.not_false, Bool.false_eq_true, if_false, reduceIte, decide_true, decide_false, Nat.reduceAdd, Nat.zero_add, List.getD_cons_succ, List.getD_cons_zero, ev_mLc, enter, slots, conts, List.replicate, List.cons_append, List.nil_append, Nat.reduceSub, hi, isSq, hz2, hl, hn, pNe_int, plainAt, List.all_cons, List.all_nil, Bool.and_self, e1, hz, hb]
  | false =>
    have hi := isi_sq (p := .lst (iL ts)) rfl
    have hl : bLen [.lst (iL ts)] = some (.int (ts.length : Nat)) := by rw [len_lst, List.length_map]
    unfold F_check_turns runF g_check_turns sqP
    simp only [ev_bind_ok, ev_bind_stuck, ev_bind_exc, ev_cC, ev_ofO, ev_ofM, ev_cVar, ev_cMv, ev_mMv, ev_cUn, ev_cBin, ev_cNil, ev_cCons, ev_views_nil, ev_views_cons, ev_view_t, ev_view_sl, ev_view_ih, ev_pv_lst, ev_pv_obj, ev_pv_dct, ev_cList, ev_mList, ev_cTruth, ev_cAnd, ev_cOr, ev_cNot, ev_cAndV, ev_cOrV, ev_cNotV, ev_cIf, ev_cYes, ev_cChain, ev_cDisp, ev_mDisp, ev_trees_nil, ev_trees_cons, ev_cFrz, ev_sNil, ev_sNo, ev_sSeq, ev_bindS_ok, ev_bindS_stuck, ev_sExpr, ev_sRet, ev_sRetN, ev_sRetM, ev_sIf, ev_sSet, ev_sSetM, ev_sAsg, ev_sItem, ev_getP_sl, ev_getP_ih, ev_setP_sl, ev_setP_ih, ev_set, ev_sets_nil, ev_sets_cons, ev_tgN, ev_tgS_tup, ev_tgS_lst, ev_tgs_nil, ev_tgs_cons, ev_nNil, ev_nT, ev_nM, ev_sPar, ev_setFs_nil, ev_setFs_t, ev_setFs_n, ev_cPl, ev_cCallF, ev_mCallF, ev_fcDef, ev_fcDefM, ev_mRg1, ev_cRng1, ev_cIt, ev_sFor, ev_clear_nil, ev_clear_cons, ev_restore_nil, ev_restore_cons, List.set, List.getElem?_cons_succ, List.getElem?_cons_zero, Option.bind_some, Option.map_some, List.length_cons, List.length_nil, if_true, Bool.not_true, Bool.not_false, Bool.false_eq_true, if_false, reduceIte, decide_true, decide_false, Nat.reduceAdd, Nat.zero_add, List.getD_cons_succ, List.getD_cons_zero, ev_mLc, enter, slots, conts, List.replicate, List.cons_append, List.nil_append, Nat.reduceSub, hi, isSq, hz2, hl, hn, pNe_int, plainAt, List.all_cons, List.all_nil, Bool.and_self, e1, hz, hb]
theorem run_check_turns {rs : List (List Int)} {size : Nat} {ts : List Int} {tup : Bool} (ht : IsTu rs.length size ts) (hs : size ≤ 1000) {st : Cl.ST} :
    cRun F_check_turns st [.t (profP rs), .t (sqP tup (iL ts)), .t (.int size)] = .ok (.t .non) st := cRun3 (check_turns_eq ht hs)
theorem cp_loop {rs : List (List Int)} {all : List Int} : ∀ {ps : List Int} {pre : List Int} {y z : Option SL}, all = pre ++ ps → (∀ p ∈ all, 0 ≤ p ∧ p < (rs.length : Int)) → all.Nodup →
    ∃ y' z', forL (forB (tgS [tgN 2, tgN 3]) p_check_players_0) (enumL pre.length (iL ps)) ⟨[some (.t (profP rs)), some (.t (.tup (iL all))), y, z], []⟩ = .nx ⟨[some (.t (profP rs)), some (.t (.tup (iL all))), y', z'], []⟩
  | [], pre, y, z, _, _, _ => ⟨y, z, rfl⟩
  | p :: ps, pre, y, z, h, hp, hd => by
    obtain ⟨y', z', e⟩ := cp_loop (rs := rs) (all := all) (ps := ps) (pre := pre ++ [p]) (y := some (.t (.int (pre.length : Nat)))) (z := some (.t (.int p))) (by rw [h, List.append_assoc]; rfl) hp hd
    refine ⟨y', z', ?_⟩
    obtain ⟨h0, h1⟩ := hp p (by rw [h]; simp)
    have e0 := fun st => prop_players (rs := rs) (st := st)
    have e1 := fun st => run_index (st := st) h0 h1
    have hc : cut (iL all) none (some ((pre.length : Nat) : Int)) = iL pre := by
      rw [cut_to (by omega), Int.toNat_natCast, h, iL, List.map_append, List.take_append_of_le_length (by simp), List.take_of_length_le (by simp)]
    have hn : ¬ p ∈ pre := fun z => by
      rw [h] at hd
      exact (List.nodup_append.mp hd).2.2 p z p (List.mem_cons_self ..) rfl
    have e2 : pIn (.int p) (.tup (iL pre)) = some (.bl false) := by rw [pIn_intsT, decide_eq_false hn]
    have step : forB (tgS [tgN 2, tgN 3]) p_check_players_0 (.tup [.int (pre.length : Nat), .int p]) ⟨[some (.t (profP rs)), some (.t (.tup (iL all))), y, z], []⟩ = .nx ⟨[some (.t (profP rs)), some (.t (.tup (iL all))), some (.t (.int (pre.length : Nat))), some (.t (.int p))], []⟩ := by
      simp only [ev_bind_ok, ev_bind_stuck, ev_bind_exc, ev_cC, ev_ofO, ev_ofM, ev_cVar, ev_cMv, ev_mMv, ev_cUn, ev_cBin, ev_cNil, ev_cCons, ev_views_nil, ev_views_cons, ev_view_t, ev_view_sl, ev_view_ih, ev_pv_lst, ev_pv_obj, ev_pv_dct, ev_cList, ev_mList, ev_cTruth, ev_cAnd, ev_cOr, ev_cNot, ev_cAndV, ev_cOrV, ev_cNotV, ev_cIf, ev_cYes, ev_cChain, ev_cDisp, ev_mDisp, ev_trees_nil, ev_trees_cons, ev_cFrz, ev_sNil, ev_sNo, ev_sSeq, ev_bindS_ok, ev_bindS_stuck, ev_sExpr, ev_sRet, ev_sRetN, ev_sRetM, ev_sIf, ev_sSet, ev_sSetM, ev_sAsg, ev_sItem, ev_getP_sl, ev_getP_ih, ev_setP_sl, ev_setP_ih, ev_set, ev_sets_nil, ev_sets_cons, ev_tgN, ev_tgS_tup, ev_tgS_lst, ev_tgs_nil, ev_tgs_cons, ev_nNil, ev_nT, ev_nM, ev_sPar, ev_setFs_nil, ev_setFs_t, ev_setFs_n, ev_cPl, ev_cCallF, ev_mCallF, ev_fcDef, ev_fcDefM, ev_mRg1, ev_cRng1, ev_cIt, ev_sFor, ev_clear_nil, ev_clear_cons, ev_restore_nil, ev_restore_cons, List.set, List.getElem?_cons_succ, List.getElem?_cons_zero, Option.bind_some, Option.map_some, List.length_cons, List.length_nil, if_true, Bool.not_true, Bool.not_false, Bool.false_eq_true, if_false, reduceIte, decide_true, decide_false, Nat.reduceAdd, Nat.zero_add, List.getD_cons_succ, List.getD_cons_zero, forB, p_check_players_0, List.cons_append, List.nil_append, cProp, pick1, pick2, e0, noX, e1, cSl, cNoPart, cPart, pSl, hc, e2]
    show forL _ (.tup [.int (pre.length : Nat), .int p] :: enumL (pre.length + 1) (iL ps)) _ = _
    unfold forL
    rw [step]
    rw [List.length_append] at e
    exact e
theorem check_players_eq {rs : List (List Int)} {ps : List Int} (hp : ∀ p ∈ ps, 0 ≤ p ∧ p < (rs.length : Int)) (hd : ps.Nodup) : F_check_players [.t (profP rs), .t (.tup (iL ps))] = .ok (.t .non) [] := by
  obtain ⟨y', z', e⟩ := cp_loop (rs := rs) (all := ps) (ps := ps) (pre := []) (y := none) (z := none) rfl hp hd
  rw [List.length_nil] at e
  unfold F_check_players runF g_check_players
  simp only [ev_bind_ok, ev_bind_stuck, ev_bind_exc, ev_cC, ev_ofO, ev_ofM, ev_cVar, ev_cMv, ev_mMv, ev_cUn, ev_cBin, ev_cNil, ev_cCons, ev_views_nil, ev_views_cons, ev_view_t, ev_view_sl, ev_view_ih, ev_pv_lst, ev_pv_obj, ev_pv_dct, ev_cList, ev_mList, ev_cTruth, ev_cAnd, ev_cOr, ev_cNot, ev_cAndV, ev_cOrV, ev_cNotV, ev_cIf, ev_cYes, ev_cChain, ev_cDisp, ev_mDisp, ev_trees_nil, ev_trees_cons, ev_cFrz, ev_sNil, ev_sNo, ev_sSeq, ev_bindS_ok, ev_bindS_stuck, ev_sExpr, ev_sRet, ev_sRetN, ev_sRetM, ev_sIf, ev_sSet, ev_sSetM, ev_sAsg, ev_sItem, ev_getP_sl, ev_getP_ih, ev_setP_sl, ev_setP_ih, ev_set, ev_sets_nil, ev_sets_cons, ev_tgN, ev_tgS_tup, ev_tgS_lst, ev_tgs_nil, ev_tgs_cons, ev_nNil, ev_nT, ev_nM, ev_sPar, ev_setFs_nil, ev_setFs_t, ev_setFs_n, ev_cPl, ev_cCallF, ev_mCallF, ev_fcDef, ev_fcDefM, ev_mRg1, ev_cRng1, ev_cIt, ev_sFor, ev_clear_nil, ev_clear_cons, ev_restore_nil, ev_restore_cons, List.set, List.getElem?_cons_succ, List.getElem?_cons_zero, Option.bind_some, Option.map_some, List.length_cons, List.length_nil, if_true, Bool.not_true, Bool.not_false, Bool.false_eq_true, if_false, reduceIte, decide_true, decide_false, Nat.reduceAdd, Nat.zero_add, List.getD_cons_succ, List.getD_cons_zero, enter, slots, conts, List.replicate, List.cons_append, List.nil_append, Nat.reduceSub, cEn, e]
def leftOk (m : Nat) (ps : List PV) : Bool := match intsP ps with
  | some ns => decide (0 < ns.length) && ns.all (fun i => decide (0 ≤ i ∧ i < (m : Int))) && decide ((dset ns).length = ns.length)
  | none => false
end Std
set_option Elab.async false
set_option linter.all false
set_option maxRecDepth 100000
set_option maxHeartbeats 4000000
namespace Std
open Cl PySem PySem.Spec PyProof.Rows L2
def leftL (m : Nat) (ps : List PV) : Bool := decide (0 < ps.length) && (ps.all (ofIx (m : Nat)) && match intsP ps with
  | some ns => decide ns.Nodup
  | none => false)
theorem ofIx_ints {m : Int} : ∀ {ps : List PV}, ps.all (ofIx m) = true → ∃ ns, ps = iL ns ∧ ∀ n ∈ ns, 0 ≤ n ∧ n < m
  | [], _ => ⟨[], rfl, fun _ h => nomatch h⟩
  | p :: ps, h => by
    rw [List.all_cons, Bool.and_eq_true] at h
    obtain ⟨ns, rfl, k⟩ := ofIx_ints h.2
    cases p with
    | int i =>
      refine ⟨i :: ns, rfl, fun n hn => ?_⟩
      rcases List.mem_cons.mp hn with e | e
      · rw [e]; exact of_decide_eq_true h.1
      · exact k n e
    | _ => cases h.1
theorem leftL_ints {m : Nat} {ns : List Int} (h : ∀ n ∈ ns, 0 ≤ n ∧ n < (m : Int)) : leftL m (iL ns) = (decide (0 < ns.length) && decide ns.Nodup) := by
  have ha : (iL ns).all (ofIx (m : Nat)) = true := List.all_eq_true.mpr fun p hp => by
    obtain ⟨n, hn, rfl⟩ := List.mem_map.mp hp
    exact decide_eq_true (h n hn)
  unfold leftL
  rw [ha, intsP_ints, List.length_map]
  rfl
theorem ofIx_one {st : Cl.ST} {p : PV} {n : Int} (h : isP p = true) : cRun F_is_index st [.t p, .t (.int n)] = .ok (.t (.bl (ofIx n p))) st := cRun2 (is_index_eq h)
theorem isl_lc {m : Nat} {rs : List (List Int)} (h : IsPf m rs) {y : Option SL} {ps : List PV} (hp : ps.all isP = true) :
    lcL (tgN 2) c_Profile_is_left_0_t c_Profile_is_left_0_e [2] ps ⟨[some (.t (profP rs)), y, none], []⟩ = .ok (ps.map fun p => .bl (ofIx (m : Nat) p)) ⟨[some (.t (profP rs)), y, none], []⟩ :=
  lcL_map _ fun p hq => by
    have hi := List.all_eq_true.mp hp p hq
    obtain ⟨f, hf, ha⟩ := h.first
    have e3 := len_rk hf
    refine ⟨_, rfl, ?_, rfl⟩
    have e1 := fun st => ofIx_one (st := st) (n := (m : Nat)) hi
    simp only [ev_bind_ok, ev_bind_stuck, ev_bind_exc, ev_cC, ev_ofO, ev_ofM, ev_cVar, ev_cMv, ev_mMv, ev_cUn, ev_cBin, ev_cNil, ev_cCons, ev_views_nil, ev_views_cons, ev_view_t, ev_view_sl, ev_view_ih, ev_pv_lst, ev_pv_obj, ev_pv_dct, ev_cList, ev_mList, ev_cTruth, ev_cAnd, ev_cOr, ev_cNot, ev_cAndV, ev_cOrV, ev_cNotV, ev_cIf, ev_cYes, ev_cChain, ev_cDisp, ev_mDisp, ev_trees_nil, ev_trees_cons, ev_cFrz, ev_sNil, ev_sNo, ev_sSeq, ev_bindS_ok, ev_bindS_stuck, ev_sExpr, ev_sRet, ev_sRetN, ev_sRetM, ev_sIf, ev_sSet, ev_sSetM, ev_sAsg, ev_sItem, ev_getP_sl, ev_getP_ih, ev_setP_sl, ev_setP_ih, ev_set, ev_sets_nil, ev_sets_cons, ev_tgN, ev_tgS_tup, ev_tgS_lst, ev_tgs_nil, ev_tgs_cons, ev_nNil, ev_nT, ev_nM, ev_sPar, ev_setFs_nil, ev_setFs_t, ev_setFs_n, ev_cPl, ev_cCallF, ev_mCallF, ev_fcDef, ev_fcDefM, ev_mRg1, ev_cRng1, ev_cIt, ev_sFor, ev_clear_nil, ev_clear_cons, ev_restore_nil, ev_restore_cons, List.set, List.getElem?_cons_succ, List.getElem?_cons_zero, Option.bind_some, Option.map_some, List.length_cons, List.length_nil, if_true, Bool.not_true, Bool.not_false, Bool.false_eq_true, if_false, reduceIte, decide_true, decide_false, Nat.reduceAdd, Nat.zero_add, List.getD_cons_succ, List.getD_cons_zero, c_Profile_is_left_0_e, fld_orders, pIx, ha, e3, pick2, e1]
theorem is_left_eq {m : Nat} {rs : List (List Int)} (h : IsPf m rs) {tup : Bool} {ps : List PV} (hp : ps.all isP = true) (hl : ps.length ≤ 1000) :
    F_Profile_is_left [.t (profP rs), .t (sqP tup ps)] = .ok (.t (.bl (leftL m ps))) [] := by
  have hz : szOk (ps.map fun p => PV.bl (ofIx (m : Nat) p)).length = true := by simp [szOk]; omega
  have hz2 : szOk 2 = true := by decide
  have hb := bAll_map (f := ofIx (m : Nat)) (l := ps)
  have e1 := fun y => isl_lc h (y := y) hp
  by_cases h0 : 0 < ps.length
  · have n0 : pEq (.int (ps.length : Nat)) (.int 0) = some (.bl false) := by rw [pEq_int, decide_eq_false (by omega)]
    by_cases ha : ps.all (ofIx (m : Nat)) = true
    · obtain ⟨ns, rfl, k⟩ := ofIx_ints ha
      rw [leftL_ints k]
      rw [ha] at hb
      rw [List.length_map] at hl h0 n0
      have hn : (decide (0 < ns.length) && decide ns.Nodup) = decide (((dset ns).length : Int) = (ns.length : Nat)) := by
        rw [decide_eq_true h0, Bool.true_and]
        refine decide_eq_decide.mpr ?_
        rw [← dset_self]; omega
      rw [hn]
      cases tup with
      | true =>
        have hi := isi_sq (p := .tup (iL ns)) rfl
        have hll : bLen [.tup (iL ns)] = some (.int (ns.length : Nat)) := by rw [len_tup, List.length_map]
        have hs := bLenSet_intsT (ns := ns) (by omega)
        unfold F_Profile_is_left runF g_Profile_is_left sqP
        simp only [ev_bind_ok, ev_bind_stuck, ev_bind_exc, ev_cC, ev_ofO, ev_ofM, ev_cVar, ev_cMv, ev_mMv, ev_cUn, ev_cBin, ev_cNil, ev_cCons, ev_views_nil, ev_views_cons, ev_view_t, ev_view_sl, ev_view_ih, ev_pv_lst, ev_pv_obj, ev_pv_dct, ev_cList, ev_mList, ev_cTruth, ev_cAnd, ev_cOr, ev_cNot, ev_cAndV, ev_cOrV, ev_cNotV, ev_cIf, ev_cYes, ev_cChain, ev_cDisp, ev_mDisp, ev_trees_nil, ev_trees_cons, ev_cFrz, ev_sNil, ev_sNo, ev_sSeq, ev_bindS_ok, ev_bindS_stuck, ev_sExpr, ev_sRet, ev_sRetN, ev_sRetM, ev_sIf, ev_sSet, ev_sSetM, ev_sAsg, ev_sItem, ev_getP_sl, ev_getP_ih, ev_setP_sl, ev_setP_ih, ev_set, ev_sets_nil, ev_sets_cons, ev_tgN, ev_tgS_tup, ev_tgS_lst, ev_tgs_nil, ev_tgs_cons, ev_nNil, ev_nT, ev_nM, ev_sPar, ev_setFs_nil, ev_setFs_t, ev_setFs_n, ev_cPl, ev_cCallF, ev_mCallF, ev_fcDef, ev_fcDefM, ev_mRg1, ev_cRng1, ev_cIt, ev_sFor, ev_clear_nil, ev_clear_cons, ev_restore_nil, ev_restore_cons, List.set, List.getElem?_cons_succ, List.getElem?_cons_zero, Option.bind_some, Option.map_some, List.length_cons, List.length_nil, if_true, Bool.not_true, Bool.not_false, Bool.false_eq_true, if_false, reduceIte, decide_true, decide_false, Nat.reduceAdd, Nat.zero_add, List.getD_cons_succ, List.getD_cons_zero, ev_mLc, enter, slots, conts, List.replicate, List.cons_append, List.nil_append, Nat.reduceSub, hi, isSq, hz2, hll, n0, plainAt, List.all_cons, List.all_nil, Bool.and_self, e1, hz, hb, hs, pEq_int]
      | false =>
        have hi := isi_sq (p := .lst (iL ns)) rfl
        have hll : bLen [.lst (iL ns)] = some (.int (ns.length : Nat)) := by rw [len_lst, List.length_map]
        have hs := bLenSet_ints (ns := ns) (by omega)
        unfold F_Profile_is_left runF g_Profile_is_left sqP
        simp only [ev_bind_ok, ev_bind_stuck, ev_bind_exc, ev_cC, ev_ofO, ev_ofM, ev_cVar, ev_cMv, ev_mMv, ev_cUn, ev_cBin, ev_cNil, ev_cCons, ev_views_nil, ev_views_cons, ev_view_t, ev_view_sl, ev_view_ih, ev_pv_lst, ev_pv_obj, ev_pv_dct, ev_cList, ev_mList, ev_cTruth, ev_cAnd, ev_cOr, ev_cNot, ev_cAndV, ev_cOrV, ev_cNotV, ev_cIf, ev_cYes, ev_cChain, ev_cDisp, ev_mDisp, ev_trees_nil, ev_trees_cons, ev_cFrz, ev_sNil, ev_sNo, ev_sSeq, ev_bindS_ok, ev_bindS_stuck, ev_sExpr, ev_sRet, ev_sRetN, ev_sRetM, ev_sIf, ev_sSet, ev_sSetM, ev_sAsg, ev_sItem, ev_getP_sl, ev_getP_ih, ev_setP_sl, ev_setP_ih, ev_set, ev_sets_nil, ev_sets_cons, ev_tgN, ev_tgS_tup, ev_tgS_lst, ev_tgs_nil, ev_tgs_cons, ev_nNil, ev_nT, ev_nM, ev_sPar, ev_setFs_nil, ev_setFs_t, ev_setFs_n, ev_cPl, ev_cCallF, ev_mCallF, ev_fcDef, ev_fcDefM, ev_mRg1, ev_cRng1, ev_cIt, ev_sFor, ev_clear_nil, ev_clear_cons, ev_restore_nil, ev_restore_cons, List.set, List.getElem?_cons_succ, List.getElem?_cons_zero, Option.bind_some, Option.map_some, List.length_cons, List.length_nil, if_true, Bool.not_true, Bool.not_false, Bool.false_eq_true, if_false, reduceIte, decide_true, decide_false, Nat.reduceAdd, Nat.zero_add, List.getD_cons_succ, List.getD_cons_zero, ev_mLc, enter, slots, conts, List.replicate, List.cons_append, List.nil_append, Nat.reduceSub, hi, isSq, hz2, hll, n0, plainAt, List.all_cons, List.all_nil, Bool.and_self, e1, hz, hb, hs, pEq_int]
    · have hf : leftL m ps = false := by
        unfold leftL
        rw [Bool.not_eq_true] at ha
        rw [ha]; simp
      rw [hf]
      rw [Bool.not_eq_true] at ha
      rw [ha] at hb
      cases tup with
      | true =>
        have hi := isi_sq (p := .tup ps) rfl
        have hll : bLen [.tup ps] = some (.int (ps.length : Nat)) := len_tup
        unfold F_Profile_is_left runF g_Profile_is_left sqP
        simp only [ev_bind_ok, ev_bind_stuck, ev_bind_exc, ev_cC, ev_ofO, ev_ofM, ev_cVar, ev_cMv, ev_mMv, ev_cUn, ev_cBin, ev_cNil, ev_cCons, ev_views_nil, ev_views_cons, ev_view_t, ev_view_sl, ev_view_ih, ev_pv_lst, ev_pv_obj, ev_pv_dct, ev_cList, ev_mList, ev_cTruth, ev_cAnd, ev_cOr, ev_cNot, ev_cAndV, ev_cOrV, ev_cNotV, ev_cIf, ev_cYes, ev_cChain, ev_cDisp, ev_mDisp, ev_trees_nil, ev_trees_cons, ev_cFrz, ev_sNil, ev_sNo, ev_sSeq, ev_bindS_ok, ev_bindS_stuck, ev_sExpr, ev_sRet, ev_sRetN, ev_sRetM, ev_sIf, ev_sSet, ev_sSetM, ev_sAsg, ev_sItem, ev_getP_sl, ev_getP_ih, ev_setP_sl, ev_setP_ih, ev_set, ev_sets_nil, ev_sets_cons, ev_tgN, ev_tgS_tup, ev_tgS_lst, ev_tgs_nil, ev_tgs_cons, ev_nNil, ev_nT, ev_nM, ev_sPar, ev_setFs_nil, ev_setFs_t, ev_setFs_n, ev_cPl, ev_cCallF, ev_mCallF, ev_fcDef, ev_fcDefM, ev_mRg1, ev_cRng1, ev_cIt, ev_sFor, ev_clear_nil, ev_clear_cons, ev_restore_nil, ev_restore_cons, List.set, List.getElem?_cons_succ, List.getElem?_cons_zero, Option.bind_some, Option.map_some, List.length_cons, List.length_nil, if_true, Bool.not_true, Bool.not_false, Bool.false_eq_true, if_false, reduceIte, decide_true, decide_false, Nat.reduceAdd, Nat.zero_add, List.getD_cons_succ, List.getD_cons_zero, ev_mLc, enter, slots, conts, List.replicate, List.cons_append, List.nil_append, Nat.reduceSub, hi, isSq, hz2, hll, n0, plainAt, List.all_cons, List.all_nil, Bool.and_self, e1, hz, hb]
      | false =>
        have hi := isi_sq (p := .lst ps) rfl
        have hll : bLen [.lst ps] = some (.int (ps.length : Nat)) := len_lst
        unfold F_Profile_is_left runF g_Profile_is_left sqP
        simp only [ev_bind_ok, ev_bind_stuck, ev_bind_exc, ev_cC, ev_ofO, ev_ofM, ev_cVar, ev_cMv, ev_mMv, ev_cUn, ev_cBin, ev_cNil, ev_cCons, ev_views_nil, ev_views_cons, ev_view_t, ev_view_sl, ev_view_ih, ev_pv_lst, ev_pv_obj, ev_pv_dct, ev_cList, ev_mList, ev_cTruth, ev_cAnd, ev_cOr, ev_cNot, ev_cAndV, ev_cOrV, ev_cNotV, ev_cIf, ev_cYes, ev_cChain, ev_cDisp, ev_mDisp, ev_trees_nil, ev_trees_cons, ev_cFrz, ev_sNil, ev_sNo, ev_sSeq, ev_bindS_ok, ev_bindS_stuck, ev_sExpr, ev_sRet, ev_sRetN, ev_sRetM, ev_sIf, ev_sSet, ev_sSetM, ev_sAsg, ev_sItem, ev_getP_sl, ev_getP_ih, ev_setP_sl, ev_setP_ih, ev_set, ev_sets_nil, ev_sets_cons, ev_tgN, ev_tgS_tup, ev_tgS_lst, ev_tgs_nil, ev_tgs_cons, ev_nNil, ev_nT, ev_nM, ev_sPar, ev_setFs_nil, ev_setFs_t, ev_setFs_n, ev_cPl, ev_cCallF, ev_mCallF, ev_fcDef, ev_fcDefM, ev_mRg1, ev_cRng1, ev_cIt, ev_sFor, ev_clear_nil, ev_clear_cons, ev_restore_nil, ev_restore_cons, List.set, List.getElem?_cons_succ, List.getElem?_cons_zero, Option.bind_some, Option.map_some, List.length_cons, List.length_nil, if_true, Bool.not_true, Bool.not_false, Bool.false_eq_true, if_false, reduceIte, decide_true, decide_false, Nat.reduceAdd, Nat.zero_add, List.getD_cons_succ, List.getD_cons_zero, ev_mLc, enter, slots, conts, List.replicate, List.cons_append, List.nil_append, Nat.reduceSub, hi, isSq, hz2, hll, n0, plainAt, List.all_cons, List.all_nil, Bool.and_self, e1, hz, hb]
  · have : ps = [] := List.length_eq_zero_iff.mp (by omega)
    subst this
    have n0 : pEq (.int (0 : Nat)) (.int 0) = some (.bl true) := by rw [pEq_int]; rfl
    cases tup with
    | true =>
      have hi := isi_sq (p := .tup []) rfl
      have hll : bLen [.tup []] = some (.int (0 : Nat)) := len_tup
      unfold F_Profile_is_left runF g_Profile_is_left sqP
      simp only [ev_bind_ok, ev_bind_stuck, ev_bind_exc, ev_cC, ev_ofO, ev_ofM, ev_cVar, ev_cMv, ev_mMv, ev_cUn, ev_cBin, ev_cNil, ev_cCons, ev_views_nil, ev_views_cons, ev_view_t, ev_view_sl, ev_view_ih, ev_pv_lst, ev_pv_obj, ev_pv_dct, ev_cList, ev_mList, ev_cTruth, ev_cAnd, ev_cOr, ev_cNot, ev_cAndV, ev_cOrV, ev_cNotV, ev_cIf, ev_cYes, ev_cChain, ev_cDisp, ev_mDisp, ev_trees_nil, ev_trees_cons, ev_cFrz, ev_sNil, ev_sNo, ev_sSeq, ev_bindS_ok, ev_bindS_stuck, ev_sExpr, ev_sRet, ev_sRetN, ev_sRetM, ev_sIf, ev_sSet, ev_sSetM, ev_sAsg, ev_sItem, ev_getP_sl, ev_getP_ih, ev_setP_sl, ev_setP_ih, ev_set, ev_sets_nil, ev_sets_cons, ev_tgN, ev_tgS_tup, ev_tgS_lst, ev_tgs_nil, ev_tgs_cons, ev_nNil, ev_nT, ev_nM, ev_sPar, ev_setFs_nil, ev_setFs_t, ev_setFs_n, ev_cPl, ev_cCallF, ev_mCallF, ev_fcDef, ev_fcDefM, ev_mRg1, ev_cRng1, ev_cIt, ev_sFor, ev_clear_nil, ev_clear_cons, ev_restore_nil, ev_restore_cons, List.set, List.getElem?_cons_succ, List.getElem?_cons_zero, Option.bind_some, Option.map_some, List.length_cons, List.length_nil, if_true, Bool.not_true, Bool.not_false, Bool.false_eq_true, if_false, reduceIte, decide_true, decide_false, Nat.reduceAdd, Nat.zero_add, List.getD_cons_succ, List.getD_cons_zero, enter, slots, conts, List.replicate, List.cons_append, List.nil_append, Nat.reduceSub, hi, isSq, hz2, hll, n0]
      rfl
    | false =>
      have hi := isi_sq (p := .lst []) rfl
      have hll : bLen [.lst []] = some (.int (0 : Nat)) := len_lst
      unfold F_Profile_is_left runF g_Profile_is_left sqP
      simp only [ev_bind_ok, ev_bind_stuck, ev_bind_exc, ev_cC, ev_ofO, ev_ofM, ev_cVar, ev_cMv, ev_mMv, ev_cUn, ev_cBin, ev_cNil, ev_cCons, ev_views_nil, ev_views_cons, ev_view_t, ev_view_sl, ev_view_ih, ev_pv_lst, ev_pv_obj, ev_pv_dct, ev_cList, ev_mList, ev_cTruth, ev_cAnd, ev_cOr, ev_cNot, ev_cAndV, ev_cOrV, ev_cNotV, ev_cIf, ev_cYes, ev_cChain, ev_cDisp, ev_mDisp, ev_trees_nil, ev_trees_cons, ev_cFrz, ev_sNil, ev_sNo, ev_sSeq, ev_bindS_ok, ev_bindS_stuck, ev_sExpr, ev_sRet, ev_sRetN, ev_sRetM, ev_sIf, ev_sSet, ev_sSetM, ev_sAsg, ev_sItem, ev_getP_sl, ev_getP_ih, ev_setP_sl, ev_setP_ih, ev_set, ev_sets_nil, ev_sets_cons, ev_tgN, ev_tgS_tup, ev_tgS_lst, ev_tgs_nil, ev_tgs_cons, ev_nNil, ev_nT, ev_nM, ev_sPar, ev_setFs_nil, ev_setFs_t, ev_setFs_n, ev_cPl, ev_cCallF, ev_mCallF, ev_fcDef, ev_fcDefM, ev_mRg1, ev_cRng1, ev_cIt, ev_sFor, ev_clear_nil, ev_clear_cons, ev_restore_nil, ev_restore_cons, List.set, List.getElem?_cons_succ, List.getElem?_cons_zero, Option.bind_some, Option.map_some, List.length_cons, List.length_nil, if_true, Bool.not_true, Bool.not_false, Bool.false_eq_true, if_false, reduceIte, decide_true, decide_false, Nat.reduceAdd, Nat.zero_add, List.getD_cons_succ, List.getD_cons_zero, enter, slots, conts, List.replicate, List.cons_append, List.nil_append, Nat.reduceSub, hi, isSq, hz2, hll, n0]
      rfl
end Std
set_option Elab.async false
set_option linter.all false
set_option maxRecDepth 100000
set_option maxHeartbeats 4000000
namespace Std
open Cl PySem PySem.Spec PyProof.Rows L2
abbrev N_can_avoid : List PySem.Str := ["profile", "turns", "value", "players", "player"]
def g_can_avoid : Sm := (sSeq (sExpr (cCallF (fcDef 3 pl_check_turns F_check_turns) (cCons (cVar 0) (cCons (cVar 1) (cCons (cProp 0 (fcDef 1 pl_Profile_alternatives F_Profile_alternatives) (cVar 0)) cNil))))) (sSeq (sExpr (cCallF (fcDef 2 pl_check_players F_check_players) (cCons (cVar 0) (cCons (cVar 3) cNil)))) (sSeq (sIf (cOr (cNot (cTruth (cList (bIsi tbB) (cCons (cVar 2) (cCons (cDisp .tup (cCons (cC (.ty "list")) (cCons (cC (.ty "tuple")) cNil))) cNil))))) (cAnd (cTruth (cBin pGt (cList bLen (cCons (cVar 2) cNil)) (cC (.int 0)))) (cNot (cTruth (cMeth 0 "is_left" (fcDef 2 pl_Profile_is_left F_Profile_is_left) (cVar 0) (cCons (cVar 2) cNil)))))) (sRet (cC (.bl false))) sNil) (sRet (cBin pGe (cList bLen (cCons (cFrz (mLc (cIt (cVar 1)) (tgN 4) (cTruth (cBin pIn (cVar 4) (cVar 3))) (cVar 4) [4])) cNil)) (cList bLen (cCons (cVar 2) cNil)))))))
def F_can_avoid : Fm := runF 5 g_can_avoid
def onI (p : Int → Bool) : PV → Bool
  | .int i => p i
  | _ => false
theorem filter_iL {p : Int → Bool} {ns : List Int} : (iL ns).filter (onI p) = iL (ns.filter p) := by
  show (ns.map PV.int).filter _ = _
  rw [List.filter_map]; rfl
def mineN (ts ps : List Int) : Nat := (ts.filter fun t => decide (t ∈ ps)).length
def avoidL (m : Nat) (ts ps : List Int) (qs : List PV) : Bool := (decide (qs.length = 0) || leftL m qs) && decide (qs.length ≤ mineN ts ps)
def avoidV (m : Nat) (ts ps : List Int) : PV → Bool
  | .lst qs => avoidL m ts ps qs
  | .tup qs => avoidL m ts ps qs
  | _ => false
theorem ca_lc {x y z w : Option SL} {ts ps : List Int} : lcL (tgN 4) (cTruth (cBin pIn (cVar 4) (cVar 3))) (cVar 4) [4] (iL ts) ⟨[x, y, z, some (.t (.tup (iL ps))), none], []⟩ = .ok (iL (ts.filter fun t => decide (t ∈ ps))) ⟨[x, y, z, some (.t (.tup (iL ps))), none], []⟩ := by
  rw [lcL_filter (onI fun i => decide (i ∈ ps)) _root_.id, filter_iL, List.map_id]
  intro p hp
  obtain ⟨t, h, rfl⟩ := List.mem_map.mp hp
  refine ⟨_, rfl, ?_, fun _ => rfl, rfl⟩
  simp only [ev_bind_ok, ev_bind_stuck, ev_bind_exc, ev_cC, ev_ofO, ev_ofM, ev_cVar, ev_cMv, ev_mMv, ev_cUn, ev_cBin, ev_cNil, ev_cCons, ev_views_nil, ev_views_cons, ev_view_t, ev_view_sl, ev_view_ih, ev_pv_lst, ev_pv_obj, ev_pv_dct, ev_cList, ev_mList, ev_cTruth, ev_cAnd, ev_cOr, ev_cNot, ev_cAndV, ev_cOrV, ev_cNotV, ev_cIf, ev_cYes, ev_cChain, ev_cDisp, ev_mDisp, ev_trees_nil, ev_trees_cons, ev_cFrz, ev_sNil, ev_sNo, ev_sSeq, ev_bindS_ok, ev_bindS_stuck, ev_sExpr, ev_sRet, ev_sRetN, ev_sRetM, ev_sIf, ev_sSet, ev_sSetM, ev_sAsg, ev_sItem, ev_getP_sl, ev_getP_ih, ev_setP_sl, ev_setP_ih, ev_set, ev_sets_nil, ev_sets_cons, ev_tgN, ev_tgS_tup, ev_tgS_lst, ev_tgs_nil, ev_tgs_cons, ev_nNil, ev_nT, ev_nM, ev_sPar, ev_setFs_nil, ev_setFs_t, ev_setFs_n, ev_cPl, ev_cCallF, ev_mCallF, ev_fcDef, ev_fcDefM, ev_mRg1, ev_cRng1, ev_cIt, ev_sFor, ev_clear_nil, ev_clear_cons, ev_restore_nil, ev_restore_cons, List.set, List.getElem?_cons_succ, List.getElem?_cons_zero, Option.bind_some, Option.map_some, List.length_cons, List.length_nil, if_true, Bool.not_true, Bool.not_false, Bool.false_eq_true, if_false, reduceIte, decide_true, decide_false, Nat.reduceAdd, Nat.zero_add, List.getD_cons_succ, List.getD_cons_zero, pIn_intsT, onI]
theorem sq_len {tup : Bool} {ps : List PV} : bLen [sqP tup ps] = some (.int (ps.length : Nat)) := by cases tup <;> rfl
theorem sq_isi {tup : Bool} {ps : List PV} : bIsi tbB [sqP tup ps, .tup [.ty "list", .ty "tuple"]] = some (.bl true) := by cases tup <;> rfl
theorem sq_it {tup : Bool} {ps : List PV} : (match sqP tup ps with | .lst qs => some qs | .tup qs => some qs | _ => none) = some ps := by cases tup <;> rfl
theorem cIt_sq {fe : Cm SV} {st st1 : Cl.ST} {tup : Bool} {ps : List PV} (h : fe st = .ok (.t (sqP tup ps)) st1) : cIt fe st = .ok ps st1 := by
  rw [ev_cIt, h]
  cases tup <;> rfl
theorem can_avoid_sq {m : Nat} {rs : List (List Int)} {ts ps : List Int} {tup tup2 : Bool} {qs : List PV} (h : IsPf m rs) (ht : IsTu rs.length m ts) (hp : ∀ p ∈ ps, 0 ≤ p ∧ p < (rs.length : Int)) (hd : ps.Nodup) (hq : qs.all isP = true) (hl : qs.length ≤ 1000) :
    F_can_avoid [.t (profP rs), .t (sqP tup (iL ts)), .t (sqP tup2 qs), .t (.tup (iL ps))] = .ok (.t (.bl (avoidL m ts ps qs))) [] := by
  have hm := h.mle
  have e0 : ∀ st, cRun F_check_turns st [.t (profP rs), .t (sqP tup (iL ts)), .t (.int m)] = .ok (.t .non) st := fun st => run_check_turns ht (by omega)
  have e1 := fun st => prop_alternatives h (st := st)
  have e2 : ∀ st, cRun F_check_players st [.t (profP rs), .t (.tup (iL ps))] = .ok (.t .non) st := fun st => cRun2 (check_players_eq hp hd)
  have e3 : ∀ st, cRun F_Profile_is_left st [.t (profP rs), .t (sqP tup2 qs)] = .ok (.t (.bl (leftL m qs))) st := fun st => cRun2 (is_left_eq h hq hl)
  have hz2 : szOk 2 = true := by decide
  have e7 : ([("orders", PV.lst (rksP rs))] : List (PySem.Str × PV)).lookup ("is_left" : PySem.Str) = none := rfl
  have i2 := sq_isi (tup := tup2) (ps := qs)
  have l2 := sq_len (tup := tup2) (ps := qs)
  have tl : mineN ts ps ≤ 1000 := by
    have := ht.1
    have : mineN ts ps ≤ ts.length := List.length_filter_le _ _
    omega
  have z1 : szOk (iL (ts.filter fun t => decide (t ∈ ps))).length = true := by
    rw [List.length_map]
    have : (ts.filter fun t => decide (t ∈ ps)).length ≤ 1000 := tl
    simp [szOk]; omega
  have l3 : bLen [.lst (iL (ts.filter fun t => decide (t ∈ ps)))] = some (.int (mineN ts ps : Nat)) := by rw [len_lst, List.length_map]; rfl
  have it : cIt (cVar 1) ⟨[some (.t (profP rs)), some (.t (sqP tup (iL ts))), some (.t (sqP tup2 qs)), some (.t (.tup (iL ps))), none], []⟩ = .ok (iL ts) ⟨[some (.t (profP rs)), some (.t (sqP tup (iL ts))), some (.t (sqP tup2 qs)), some (.t (.tup (iL ps))), none], []⟩ := cIt_sq rfl
  have lc := ca_lc (x := some (.t (profP rs))) (y := some (.t (sqP tup (iL ts)))) (z := some (.t (sqP tup2 qs))) (w := none) (ts := ts) (ps := ps)
  have fin : (sRet (cBin pGe (cList bLen (cCons (cFrz (mLc (cIt (cVar 1)) (tgN 4) (cTruth (cBin pIn (cVar 4) (cVar 3))) (cVar 4) [4])) cNil)) (cList bLen (cCons (cVar 2) cNil)))) ⟨[some (.t (profP rs)), some (.t (sqP tup (iL ts))), some (.t (sqP tup2 qs)), some (.t (.tup (iL ps))), none], []⟩ =
      .rt (.t (.bl (decide ((qs.length : Int) ≤ (mineN ts ps : Nat))))) ⟨[some (.t (profP rs)), some (.t (sqP tup (iL ts))), some (.t (sqP tup2 qs)), some (.t (.tup (iL ps))), none], []⟩ := by
    rw [ev_sRet, ev_cBin, ev_cList, ev_cCons, ev_cFrz, ev_mLc, it]
    simp only [ev_bind_ok, plainAt, List.all_cons, List.all_nil, List.getElem?_cons_succ, List.getElem?_cons_zero, Bool.and_self, if_true, ev_clear_cons, ev_clear_nil, ev_set, List.set, lc, z1, ev_restore_cons, ev_restore_nil, List.getD_cons_succ, List.getD_cons_zero, ev_cNil, ev_pv_lst, ev_views_cons, ev_views_nil, ev_view_t, Option.bind_some, l3, ev_ofO, ev_cList, ev_cCons, ev_cVar, l2, ev_bindS_ok, pCmp]
  by_cases h0 : qs.length = 0
  · have g0 : pGt (.int (qs.length : Nat)) (.int 0) = some (.bl false) := by
      show some (PV.bl (decide _)) = _
      rw [decide_eq_false (by omega)]
    have ev : avoidL m ts ps qs = decide ((qs.length : Int) ≤ (mineN ts ps : Nat)) := by
      unfold avoidL
      rw [decide_eq_true h0, Bool.true_or, Bool.true_and]
      exact decide_eq_decide.mpr (by omega)
    rw [ev]
    unfold F_can_avoid runF g_can_avoid
    simp only [ev_sSeq, ev_sExpr, ev_cCallF, ev_cCons, ev_cNil, ev_cVar, enter, slots, conts, List.length_cons, List.length_nil, Nat.reduceAdd, Nat.reduceSub, List.replicate, List.cons_append, List.nil_append, List.getElem?_cons_succ, List.getElem?_cons_zero, ev_bind_ok, cProp, ev_view_t, ev_fcDef, reduceIte, pick1, pick2, pick3, e0, e1, e2, noX, ev_bindS_ok, ev_sIf, ev_cOr, ev_cAnd, ev_cNot, ev_cTruth, ev_cList, ev_cDisp, ev_cC, ev_trees_cons, ev_trees_nil, Option.map_some, Option.bind_some, hz2, ev_ofO, ev_views_cons, ev_views_nil, i2, l2, ev_cBin, g0, Bool.not_true, Bool.false_eq_true, if_false, ev_sNil, fin]
  · have g0 : pGt (.int (qs.length : Nat)) (.int 0) = some (.bl true) := by
      show some (PV.bl (decide _)) = _
      rw [decide_eq_true (by omega)]
    cases hL : leftL m qs with
    | true =>
      have ev : avoidL m ts ps qs = decide ((qs.length : Int) ≤ (mineN ts ps : Nat)) := by
        unfold avoidL
        rw [hL, Bool.or_true, Bool.true_and]
        exact decide_eq_decide.mpr (by omega)
      rw [hL] at e3
      rw [ev]
      unfold F_can_avoid runF g_can_avoid
      simp only [ev_sSeq, ev_sExpr, ev_cCallF, ev_cCons, ev_cNil, ev_cVar, enter, slots, conts, List.length_cons, List.length_nil, Nat.reduceAdd, Nat.reduceSub, List.replicate, List.cons_append, List.nil_append, List.getElem?_cons_succ, List.getElem?_cons_zero, ev_bind_ok, cProp, ev_view_t, ev_fcDef, reduceIte, pick1, pick2, pick3, e0, e1, e2, noX, ev_bindS_ok, ev_sIf, ev_cOr, ev_cAnd, ev_cNot, ev_cTruth, ev_cList, ev_cDisp, ev_cC, ev_trees_cons, ev_trees_nil, Option.map_some, Option.bind_some, hz2, ev_ofO, ev_views_cons, ev_views_nil, i2, l2, ev_cBin, g0, Bool.not_true, Bool.false_eq_true, if_false, ev_sNil, cMeth, e7, Option.isNone_none, and_self, e3, if_true, fin]
    | false =>
      have ev : avoidL m ts ps qs = false := by
        unfold avoidL
        rw [hL, decide_eq_false h0]; rfl
      rw [hL] at e3
      rw [ev]
      unfold F_can_avoid runF g_can_avoid
      simp only [ev_sSeq, ev_sExpr, ev_cCallF, ev_cCons, ev_cNil, ev_cVar, enter, slots, conts, List.length_cons, List.length_nil, Nat.reduceAdd, Nat.reduceSub, List.replicate, List.cons_append, List.nil_append, List.getElem?_cons_succ, List.getElem?_cons_zero, ev_bind_ok, cProp, ev_view_t, ev_fcDef, reduceIte, pick1, pick2, pick3, e0, e1, e2, noX, ev_bindS_ok, ev_sIf, ev_cOr, ev_cAnd, ev_cNot, ev_cTruth, ev_cList, ev_cDisp, ev_cC, ev_trees_cons, ev_trees_nil, Option.map_some, Option.bind_some, hz2, ev_ofO, ev_views_cons, ev_views_nil, i2, l2, ev_cBin, g0, Bool.not_true, Bool.not_false, Bool.false_eq_true, if_false, ev_sNil, cMeth, e7, Option.isNone_none, and_self, e3, if_true, ev_sRet]
theorem can_avoid_no {m : Nat} {rs : List (List Int)} {ts ps : List Int} {tup : Bool} {v : PV} (h : IsPf m rs) (ht : IsTu rs.length m ts) (hp : ∀ p ∈ ps, 0 ≤ p ∧ p < (rs.length : Int)) (hd : ps.Nodup) (hv : isP v = true) (hs : isSq v = false) :
    F_can_avoid [.t (profP rs), .t (sqP tup (iL ts)), .t v, .t (.tup (iL ps))] = .ok (.t (.bl false)) [] := by
  have hm := h.mle
  have e0 : ∀ st, cRun F_check_turns st [.t (profP rs), .t (sqP tup (iL ts)), .t (.int m)] = .ok (.t .non) st := fun st => run_check_turns ht (by omega)
  have e1 := fun st => prop_alternatives h (st := st)
  have e2 : ∀ st, cRun F_check_players st [.t (profP rs), .t (.tup (iL ps))] = .ok (.t .non) st := fun st => cRun2 (check_players_eq hp hd)
  have hz2 : szOk 2 = true := by decide
  have i2 := isi_sq hv
  rw [hs] at i2
  unfold F_can_avoid runF g_can_avoid
  simp only [ev_bind_ok, ev_bind_stuck, ev_bind_exc, ev_cC, ev_ofO, ev_ofM, ev_cVar, ev_cMv, ev_mMv, ev_cUn, ev_cBin, ev_cNil, ev_cCons, ev_views_nil, ev_views_cons, ev_view_t, ev_view_sl, ev_view_ih, ev_pv_lst, ev_pv_obj, ev_pv_dct, ev_cList, ev_mList, ev_cTruth, ev_cAnd, ev_cOr, ev_cNot, ev_cAndV, ev_cOrV, ev_cNotV, ev_cIf, ev_cYes, ev_cChain, ev_cDisp, ev_mDisp, ev_trees_nil, ev_trees_cons, ev_cFrz, ev_sNil, ev_sNo, ev_sSeq, ev_bindS_ok, ev_bindS_stuck, ev_sExpr, ev_sRet, ev_sRetN, ev_sRetM, ev_sIf, ev_sSet, ev_sSetM, ev_sAsg, ev_sItem, ev_getP_sl, ev_getP_ih, ev_setP_sl, ev_setP_ih, ev_set, ev_sets_nil, ev_sets_cons, ev_tgN, ev_tgS_tup, ev_tgS_lst, ev_tgs_nil, ev_tgs_cons, ev_nNil, ev_nT, ev_nM, ev_sPar, ev_setFs_nil, ev_setFs_t, ev_setFs_n, ev_cPl, ev_cCallF, ev_mCallF, ev_fcDef, ev_fcDefM, ev_mRg1, ev_cRng1, ev_cIt, ev_sFor, ev_clear_nil, ev_clear_cons, ev_restore_nil, ev_restore_cons, List.set, List.getElem?_cons_succ, List.getElem?_cons_zero, Option.bind_some, Option.map_some, List.length_cons, List.length_nil, if_true, Bool.not_true, Bool.not_false, Bool.false_eq_true, if_false, reduceIte, decide_true, decide_false, Nat.reduceAdd, Nat.zero_add, List.getD_cons_succ, List.getD_cons_zero, enter, slots, conts, List.replicate, List.cons_append, List.nil_append, Nat.reduceSub, cProp, pick1, pick2, pick3, e0, e1, e2, noX, hz2, i2]
end Std
set_option Elab.async false
set_option linter.all false
set_option maxRecDepth 100000
set_option maxHeartbeats 4000000
namespace K45
open Std Cl PySem PySem.Spec PyProof.Rows L2 StX ClX
abbrev N_law_avoids : List PySem.Str := ["_law_turns_here", "_law_some", "_law_rest", "_law_banned", "_law_mine", "_law_item", "_law_left", "_law_other"]
abbrev pl_law_avoids : Plan := [.inl 0, .inl 1, .inl 2, .inl 3]
def p_law_avoids_0 (ihF : Fm) : Sm := (sSeq (sSet 6 (cFrz (mLc (cIt (cVar 2)) (tgN 7) (cTruth (cBin pNe (cVar 7) (cVar 5))) (cVar 7) [7]))) (sIf (cTruth (cBin pEq (cCallF (fcDef 4 pl_law_avoids ihF) (cCons (cSl (cVar 0) (cPart (cC (.int 1))) cNoPart) (cCons (cVar 1) (cCons (cVar 6) (cCons (cVar 3) cNil))))) (cVar 4))) (sRet (cVar 4)) sNil))
def g_law_avoids (ihF : Fm) : Sm := (sSeq (sIf (cTruth (cBin pEq (cList bLen (cCons (cVar 2) cNil)) (cC (.int 1)))) (sRet (cBin pNotIn (cBin pIx (cVar 2) (cC (.int 0))) (cVar 3))) sNil) (sSeq (sSet 4 (cBin pIn (cBin pIx (cVar 0) (cC (.int 0))) (cVar 1))) (sSeq (sFor (cIt (cVar 2)) (tgN 5) (p_law_avoids_0 ihF)) (sRet (cNotV (cVar 4))))))
def F_law_avoids : Nat → Fm
  | 0 => fun _ => .stuck
  | n + 1 => runF 8 (g_law_avoids (F_law_avoids n))
abbrev N_law_with_item : List PySem.Str := ["_law_call", "_law_profile", "_law_turns_here", "_law_item", "_law_some"]
abbrev pl_law_with_item : Plan := [.inl 0, .inl 1, .inl 2, .inl 3, .inl 4]
def g_law_with_item : Sm := (sSeq (sIf (cTruth (cBin pEq (cList bLen (cCons (cVar 4) cNil)) (cC (.int 0)))) (sRet (cLoc 0 1 (cCallF (fcStar 3 F_can_avoid) (cCons (cVar 1) (cCons (cVar 2) (cCons (cVar 3) cNil)))))) sNil) (sSeq (sIf (cTruth (cBin pEq (cList bLen (cCons (cVar 4) cNil)) (cC (.int 1)))) (sRet (cLoc 0 1 (cCallF (fcStar 3 F_can_avoid) (cCons (cVar 1) (cCons (cVar 2) (cCons (cVar 3) (cCons (cBin pIx (cVar 4) (cC (.int 0))) cNil))))))) sNil) (sSeq (sIf (cTruth (cBin pEq (cList bLen (cCons (cVar 4) cNil)) (cC (.int 2)))) (sRet (cLoc 0 1 (cCallF (fcStar 3 F_can_avoid) (cCons (cVar 1) (cCons (cVar 2) (cCons (cVar 3) (cCons (cBin pIx (cVar 4) (cC (.int 0))) (cCons (cBin pIx (cVar 4) (cC (.int 1))) cNil)))))))) sNil) (sSeq (sIf (cTruth (cBin pEq (cList bLen (cCons (cVar 4) cNil)) (cC (.int 3)))) (sRet (cLoc 0 1 (cCallF (fcStar 3 F_can_avoid) (cCons (cVar 1) (cCons (cVar 2) (cCons (cVar 3) (cCons (cBin pIx (cVar 4) (cC (.int 0))) (cCons (cBin pIx (cVar 4) (cC (.int 1))) (cCons (cBin pIx (cVar 4) (cC (.int 2))) cNil))))))))) sNil) (sSeq (sIf (cTruth (cBin pEq (cList bLen (cCons (cVar 4) cNil)) (cC (.int 4)))) (sRet (cLoc 0 1 (cCallF (fcStar 3 F_can_avoid) (cCons (cVar 1) (cCons (cVar 2) (cCons (cVar 3) (cCons (cBin pIx (cVar 4) (cC (.int 0))) (cCons (cBin pIx (cVar 4) (cC (.int 1))) (cCons (cBin pIx (cVar 4) (cC (.int 2))) (cCons (cBin pIx (cVar 4) (cC (.int 3))) cNil)))))))))) sNil) (sSeq (sIf (cTruth (cBin pEq (cList bLen (cCons (cVar 4) cNil)) (cC (.int 5)))) (sRet (cLoc 0 1 (cCallF (fcStar 3 F_can_avoid) (cCons (cVar 1) (cCons (cVar 2) (cCons (cVar 3) (cCons (cBin pIx (cVar 4) (cC (.int 0))) (cCons (cBin pIx (cVar 4) (cC (.int 1))) (cCons (cBin pIx (cVar 4) (cC (.int 2))) (cCons (cBin pIx (cVar 4) (cC (.int 3))) (cCons (cBin pIx (cVar 4) (cC (.int 4))) cNil))))))))))) sNil) (sRet (cLoc 0 1 (cCallF (fcStar 3 F_can_avoid) (cCons (cVar 1) (cCons (cVar 2) (cCons (cVar 3) (cCons (cBin pIx (cVar 4) (cC (.int 0))) (cCons (cBin pIx (cVar 4) (cC (.int 1))) (cCons (cBin pIx (cVar 4) (cC (.int 2))) (cCons (cBin pIx (cVar 4) (cC (.int 3))) (cCons (cBin pIx (cVar 4) (cC (.int 4))) (cCons (cBin pIx (cVar 4) (cC (.int 5))) cNil))))))))))))))))))
def F_law_with_item : Fm := runF 5 g_law_with_item
abbrev N_law : List PySem.Str := ["_law_script", "_law_k", "_law_pool_here", "_law_count", "_law_size", "_law_turns_here", "_law_profile", "_law_some", "_law_every", "_law_turn", "_law_banned", "_law_saved", "_law_due", "_law_value", "_law_order", "_law_found", "_law_everyone", "_law_bad"]
abbrev pl_law : Plan := [.inl 0]
def p_law_0 : Sm := (sIf (cOr (cTruth (cBin pNe (cList bRepr (cCons (cCallF (fcDef 5 pl_law_with_item F_law_with_item) (cCons (cC (.fn 1)) (cCons (cVar 6) (cCons (cVar 14) (cCons (cVar 13) (cCons (cVar 7) cNil)))))) cNil)) (cVar 12))) (cTruth (cBin pNe (cVar 10) (cVar 11)))) (sRet (cC (.bl false))) sNil)
def p_law_1 : Sm := (sSeq (sSet 10 (cSl (cCallF (fcDef 2 pl_law_shuffle F_law_shuffle) (cCons (cVar 2) (cCons (cVar 8) cNil))) cNoPart (cPart (cCallF (fcDef 2 pl_law_take F_law_take) (cCons (cVar 2) (cCons (cBin pAdd (cVar 4) (cC (.int 1))) cNil)))))) (sSeq (sSet 11 (cFrz (mList bList (cCons (cVar 10) cNil)))) (sSeq (sSet 12 (cList bRepr (cCons (cCallF (fcDef 4 pl_law_avoids (F_law_avoids 8)) (cCons (cVar 5) (cCons (cVar 7) (cCons (cVar 8) (cCons (cVar 10) cNil))))) cNil))) (sFor (cIt (cFrz (mDisp (cCons (cDisp .tup (cCons (cVar 10) (cCons (cVar 5) cNil))) (cCons (cDisp .tup (cCons (cList bTuple (cCons (cVar 10) cNil)) (cCons (cList bTuple (cCons (cVar 5) cNil)) cNil))) cNil))))) (tgS [(tgN 13), (tgN 14)]) p_law_0))))
def c_law_2_t : Cm Bool := cYes
def c_law_2_e : Cm SV := (cCallF (fcDef 5 pl_law_with_item F_law_with_item) (cCons (cC (.fn 1)) (cCons (cVar 6) (cCons (cVar 5) (cCons (cVar 13) (cCons (cVar 7) cNil))))))
def p_law_3 : Sm := (sIf (cTruth (cBin pNotB (cCallF (fcDef 5 pl_law_with_item F_law_with_item) (cCons (cC (.fn 1)) (cCons (cVar 6) (cCons (cVar 5) (cCons (cVar 17) (cCons (cVar 16) cNil)))))) (cC (.bl false)))) (sRet (cC (.bl false))) sNil)
def p_law_4 : Sm := (sSeq (sSetM 2 (mCallF (fcDefM 2 pl_law_pool F_law_pool) (cCons (cVar 0) (cCons (cVar 1) cNil)))) (sSeq (sPar [3, 4] (nT (cBin pAdd (cC (.int 1)) (cCallF (fcDef 2 pl_law_take F_law_take) (cCons (cVar 2) (cCons (cC (.int 4)) cNil)))) (nT (cBin pAdd (cC (.int 1)) (cCallF (fcDef 2 pl_law_take F_law_take) (cCons (cVar 2) (cCons (cC (.int 5)) cNil)))) nNil))) (sSeq (sAsg (tgS [(tgN 5), (tgN 6)]) (cDisp .tup (cCons (cCallF (fcDef 3 pl_law_turns F_law_turns) (cCons (cVar 2) (cCons (cVar 3) (cCons (cVar 4) cNil)))) (cCons (cCallF (fcDef 1 pl_law_built F_law_built) (cCons (cCallF (fcDef 3 pl_law_rankings F_law_rankings) (cCons (cVar 2) (cCons (cVar 3) (cCons (cVar 4) cNil)))) cNil)) cNil)))) (sSeq (sAsg (tgS [(tgN 7), (tgN 8)]) (cDisp .tup (cCons (cCallF (fcDef 2 pl_law_players F_law_players) (cCons (cVar 2) (cCons (cVar 3) cNil))) (cCons (cFrz (mRg1 (cVar 4))) cNil)))) (sSeq (sFor (cRng1 (cCons (cC (.int 6)) cNil)) (tgN 9) p_law_1) (sSeq (sSet 15 (cFrz (mLc (cIt (cFrz (mDisp (cCons (cFrz (mDisp cNil)) (cCons (cVar 8) cNil))))) (tgN 13) (c_law_2_t) (c_law_2_e) [13]))) (sSeq (sIf (cOr (cTruth (cBin pNotB (cBin pIx (cVar 15) (cC (.int 0))) (cC (.bl true)))) (cTruth (cBin pNotB (cBin pIx (cVar 15) (cC (.int 1))) (cC (.bl false))))) (sRet (cC (.bl false))) sNil) (sSeq (sSet 16 (cFrz (mRg1 (cVar 3)))) (sSeq (sSet 7 (cFrz (mDisp (cCons (cC .non) (cCons (cC (.int 5)) (cCons (cC (.str "")) (cCons (cC (.str "0")) (cCons (cFrz mDct0) (cCons (cFrz (mDisp (cCons (cVar 4) cNil))) (cCons (cFrz (mDisp (cCons (cUn pNeg (cC (.int 1))) cNil))) (cCons (cFrz (mDisp (cCons (cC (.bl true)) cNil))) (cCons (cFrz (mDisp (cCons (cC .non) cNil))) (cCons (cFrz (mDisp (cCons (cC (.int 0)) (cCons (cC (.int 0)) cNil)))) (cCons (cDisp .tup (cCons (cDisp .tup (cCons (cC (.int 0)) cNil)) cNil)) (cCons (cFrz (mDisp (cCons (cC (.str "0")) cNil))) (cCons (cFrz (mDisp (cCons (cFrz (mDisp (cCons (cC (.int 0)) cNil))) cNil))) (cCons (cC (.bl true)) (cCons (cFrz (mDct (((cC (.int 0)), (cC (.int 0))) :: []))) cNil)))))))))))))))))) (sFor (cIt (cBin pAdd (cVar 7) (cFrz (mDisp (cCons (cFrz (mDisp (cCons (cC (.int 0)) (cCons (cC .non) cNil)))) (cCons (cFrz (mDisp (cCons (cC (.str "0")) (cCons (cC (.int 0)) cNil)))) (cCons (cDisp .tup (cCons (cC (.int 0)) (cCons (cC (.str "1")) cNil))) cNil))))))) (tgN 17) p_law_3))))))))))
def g_law : Sm := (sSeq (sFor (cRng1 (cCons (cList bMax (cCons (cC (.int 1)) (cCons (cList bMin (cCons (cC (.int 4)) (cCons (cList bLen (cCons (cVar 0) cNil)) cNil))) cNil))) cNil)) (tgN 1) p_law_4) (sRet (cC (.bl true))))
def F_law : Fm := runF 18 g_law
end K45
set_option Elab.async false
set_option linter.all false
set_option maxRecDepth 100000
set_option maxHeartbeats 4000000
namespace K45
open Std Cl PySem PySem.Spec PyProof.Rows L2 StX ClX
def top (i : Nat) : Stmt := PySem.Challenge.pw_vetoturns_k45_sets_avoided_by_the_whole.main.body.getD i (.Pass ⟨0, 0, 0, 0⟩)
abbrev s_law_pool : Stmt := top 17
abbrev s_law_take : Stmt := top 18
abbrev s_law_turns : Stmt := top 23
abbrev s_is_integer : Stmt := top 7
abbrev s_is_order : Stmt := top 9
abbrev s_Profile_is_ranking : Stmt := inClass (top 10) 3
abbrev s_Profile_init : Stmt := inClass (top 10) 2
abbrev s_Profile_unanimous : Stmt := inClass (top 10) 4
abbrev s_is_index : Stmt := top 8
abbrev s_Profile_check_player : Stmt := inClass (top 10) 8
abbrev s_Profile_with_ranking : Stmt := inClass (top 10) 14
abbrev s_law_built : Stmt := top 20
abbrev s_law_shuffle : Stmt := top 21
abbrev s_law_rankings : Stmt := top 22
abbrev s_law_players : Stmt := top 24
abbrev s_law_avoids : Stmt := top 25
abbrev s_Profile_players : Stmt := inClass (top 10) 5
abbrev s_check_turns : Stmt := top 12
abbrev s_Profile_alternatives : Stmt := inClass (top 10) 6
abbrev s_check_players : Stmt := top 14
abbrev s_Profile_is_left : Stmt := inClass (top 10) 12
abbrev s_can_avoid : Stmt := top 15
abbrev s_law_with_item : Stmt := top 19
abbrev s_law : Stmt := top 26
def fns : List DefC := [
  ⟨.g "_law_pool", "_law_pool", "_law_pool", defArgs s_law_pool, defBody s_law_pool, defScope s_law_pool, [], []⟩,
  ⟨.g "_law_take", "_law_take", "_law_take", defArgs s_law_take, defBody s_law_take, defScope s_law_take, [], []⟩,
  ⟨.g "_law_turns", "_law_turns", "_law_turns", defArgs s_law_turns, defBody s_law_turns, defScope s_law_turns, [], []⟩,
  ⟨.g "is_integer", "is_integer", "is_integer", defArgs s_is_integer, defBody s_is_integer, defScope s_is_integer, [.int 0], []⟩,
  ⟨.g "is_order", "is_order", "is_order", defArgs s_is_order, defBody s_is_order, defScope s_is_order, [], []⟩,
  ⟨.sm "Profile" "is_ranking", "is_ranking", "Profile.is_ranking", defArgs s_Profile_is_ranking, defBody s_Profile_is_ranking, defScope s_Profile_is_ranking, [], []⟩,
  ⟨.m "Profile" "__init__", "__init__", "Profile.__init__", defArgs s_Profile_init, defBody s_Profile_init, defScope s_Profile_init, [], []⟩,
  ⟨.cm "Profile" "unanimous", "unanimous", "Profile.unanimous", defArgs s_Profile_unanimous, defBody s_Profile_unanimous, defScope s_Profile_unanimous, [], []⟩,
  ⟨.g "is_index", "is_index", "is_index", defArgs s_is_index, defBody s_is_index, defScope s_is_index, [], []⟩,
  ⟨.m "Profile" "check_player", "check_player", "Profile.check_player", defArgs s_Profile_check_player, defBody s_Profile_check_player, defScope s_Profile_check_player, [], []⟩,
  ⟨.m "Profile" "with_ranking", "with_ranking", "Profile.with_ranking", defArgs s_Profile_with_ranking, defBody s_Profile_with_ranking, defScope s_Profile_with_ranking, [], []⟩,
  ⟨.g "_law_built", "_law_built", "_law_built", defArgs s_law_built, defBody s_law_built, defScope s_law_built, [], []⟩,
  ⟨.g "_law_shuffle", "_law_shuffle", "_law_shuffle", defArgs s_law_shuffle, defBody s_law_shuffle, defScope s_law_shuffle, [], []⟩,
  ⟨.g "_law_rankings", "_law_rankings", "_law_rankings", defArgs s_law_rankings, defBody s_law_rankings, defScope s_law_rankings, [], []⟩,
  ⟨.g "_law_players", "_law_players", "_law_players", defArgs s_law_players, defBody s_law_players, defScope s_law_players, [], []⟩,
  ⟨.g "_law_avoids", "_law_avoids", "_law_avoids", defArgs s_law_avoids, defBody s_law_avoids, defScope s_law_avoids, [], []⟩,
  ⟨.pr "Profile" "players", "players", "Profile.players", defArgs s_Profile_players, defBody s_Profile_players, defScope s_Profile_players, [], []⟩,
  ⟨.g "check_turns", "check_turns", "check_turns", defArgs s_check_turns, defBody s_check_turns, defScope s_check_turns, [], []⟩,
  ⟨.pr "Profile" "alternatives", "alternatives", "Profile.alternatives", defArgs s_Profile_alternatives, defBody s_Profile_alternatives, defScope s_Profile_alternatives, [], []⟩,
  ⟨.g "check_players", "check_players", "check_players", defArgs s_check_players, defBody s_check_players, defScope s_check_players, [], []⟩,
  ⟨.m "Profile" "is_left", "is_left", "Profile.is_left", defArgs s_Profile_is_left, defBody s_Profile_is_left, defScope s_Profile_is_left, [], []⟩,
  ⟨.g "can_avoid", "can_avoid", "can_avoid", defArgs s_can_avoid, defBody s_can_avoid, defScope s_can_avoid, [], []⟩,
  ⟨.g "_law_with_item", "_law_with_item", "_law_with_item", defArgs s_law_with_item, defBody s_law_with_item, defScope s_law_with_item, [], []⟩,
  ⟨.g "law", "law", "law", defArgs s_law, defBody s_law, defScope s_law, [], []⟩]
def fas : List FaC := [faHe (.free "len"),
  faHe (.free "abs"),
  faHe (.free "int"),
  faHe (.free "range"),
  faHe (.glo "_law_take"),
  faHe (.free "isinstance"),
  faHe (.free "bool"),
  faHe (.free "list"),
  faHe (.free "tuple"),
  faHe (.glo "is_integer"),
  faHe (.free "all"),
  faHe (.free "sorted"),
  faHe (.glo "Profile"),
  faRead "Profile",
  faCv "Profile" "MOST_ALTERNATIVES" 10,
  faHe (.glo "is_order"),
  faCv "Profile" "MOST_PLAYERS" 6,
  faSm "Profile" "is_ranking",
  faHe (.cls "Profile"),
  faHe (.noat "Profile" "orders"),
  faHe (.mkr "Profile"),
  faHe (.keep "Profile"),
  faHe (.glo "is_index"),
  faHe (.meth "Profile" "check_player"),
  faCm "Profile" "unanimous",
  faHe (.free "enumerate"),
  faHe (.meth "Profile" "with_ranking"),
  faHe (.glo "_law_shuffle"),
  faHe (.glo "_law_avoids"),
  faProp "Profile" "players",
  faHe (.free "set"),
  faHe (.glo "check_turns"),
  faProp "Profile" "alternatives",
  faHe (.glo "check_players"),
  faHe (.meth "Profile" "is_left"),
  faHe (.free "min"),
  faHe (.free "max"),
  faHe (.glo "_law_pool"),
  faHe (.glo "_law_turns"),
  faHe (.glo "_law_built"),
  faHe (.glo "_law_rankings"),
  faHe (.glo "_law_players"),
  faHe (.free "repr"),
  faHe (.glo "_law_with_item"),
  faHe (.glo "can_avoid"),
  faNoList,
  faHe (.glo "law")]
abbrev gd_ (K : PySem.W.Frag) : Gd := ⟨fun | 0 => He.ga K "Profile" | 1 => He.ga K "can_avoid" | _ => 0, fun | 0 => He.ga K "Profile" | _ => 0⟩
theorem nmk {op : CmpOp} {e : Expr} (h : behindInMarks op e = false := by first | exact nomark _ | exact nobehind _ (by decide) | rfl) : behindInMarks op e = false := h
section
variable {P : Program} {w : World} {K : PySem.W.Frag} {mg : PySem.Str → Option Value} {base : Heap}
theorem kp_law_pool (T : Tx fas fns K mg) : PySem.W.keepIn K (.ref (At.ad K (.g "_law_pool"))) = true := T.kp 0
abbrev Ok_law_pool (P : Program) (w : World) (K : PySem.W.Frag) (mg : PySem.Str → Option Value) (base : Heap) : Prop := FnP P w K mg base 1 (At.ad K (.g "_law_pool")) (spN (gd_ K) N_law_pool F_law_pool 2 pl_law_pool)
theorem sc_law_pool : FnScope N_law_pool ["_law_script", "_law_k"] (defScope s_law_pool) := ⟨rfl, rfl, rfl, by decide +kernel, rfl, by decide +kernel, by decide +kernel⟩
theorem b_law_pool (T : Tx fas fns K mg) : BodyC (gd_ K) P w K mg base 0 N_law_pool "_law_pool" (defScope s_law_pool) (At.ad K (.g "_law_pool")) (defBody s_law_pool) g_law_pool := by
  intro cd A outer s H E room gd tk
  have S := sc_law_pool
  exact (css_cons (cs_set (i := 2) S.nd rfl (by first | exact Or.inl rfl | exact Or.inr rfl) ce_int) (css_cons (cs_if (ct_cmp cm_lt (ce_var 1) (ce_bi cf_len rfl (T.free 0) (by decide +kernel) (ca_cons (ce_var 0) ca_nil)) nmk) (css_one (cs_set (i := 2) S.nd rfl (by first | exact Or.inl rfl | exact Or.inr rfl) (ce_bi cf_abs rfl (T.free 1) (by decide +kernel) (ca_cons (ce_ix (ce_var 0) (ce_var 1)) ca_nil)))) css_nil) (css_cons (cs_set (i := 3) S.nd rfl (by first | exact Or.inl rfl | exact Or.inr rfl) (ce_mod (ce_mul (ce_add (ce_add (ce_add (ce_mod (ce_var 2) ce_int) (ce_mul (ce_mul ce_int (ce_var 1)) (ce_var 1))) (ce_mul ce_int (ce_var 1))) ce_int) ce_int) ce_int)) (css_one (cs_retM (cm_lst (ca_cons (ce_mul (ce_var 2) (ce_bt cf_int rfl (T.free 2) (by decide +kernel) (ca_cons (ce_cmp cm_ge (ce_var 2) (ce_pow ce_int ce_int) nmk) ca_nil))) (ca_cons (ce_mod (ce_mul (ce_var 3) (ce_var 3)) ce_int) ca_nil))))))))
theorem ok_law_pool (T : Tx fas fns K mg) : Ok_law_pool P w K mg base := by
  obtain ⟨fd, F⟩ := T.c.def_ 0
  have B : Binds K fd ["_law_script", "_law_k"] [] := F.bindsN (ps := ["_law_script", "_law_k"]) fun _ _ _ _ _ _ us hl => match us, hl with | [_, _], _ => rfl
  exact FnP.of (fn_body F sc_law_pool (Bd.of (n := 2) (dp := []) B .nil rfl rfl) (b_law_pool T))
theorem kp_law_take (T : Tx fas fns K mg) : PySem.W.keepIn K (.ref (At.ad K (.g "_law_take"))) = true := T.kp 1
abbrev Ok_law_take (P : Program) (w : World) (K : PySem.W.Frag) (mg : PySem.Str → Option Value) (base : Heap) : Prop := FnP P w K mg base 1 (At.ad K (.g "_law_take")) (spN (gd_ K) N_law_take F_law_take 2 pl_law_take)
theorem sc_law_take : FnScope N_law_take ["_law_pool_here", "_law_count"] (defScope s_law_take) := ⟨rfl, rfl, rfl, by decide +kernel, rfl, by decide +kernel, by decide +kernel⟩
theorem b_law_take (T : Tx fas fns K mg) : BodyC (gd_ K) P w K mg base 0 N_law_take "_law_take" (defScope s_law_take) (At.ad K (.g "_law_take")) (defBody s_law_take) g_law_take := by
  intro cd A outer s H E room gd tk
  have S := sc_law_take
  exact (css_cons (cs_if (ct_cmp cm_gt (ce_ix (ce_var 0) ce_int) ce_int nmk) (css_cons (cs_set (i := 2) S.nd rfl (by first | exact Or.inl rfl | exact Or.inr rfl) (ce_mod (ce_ix (ce_var 0) ce_int) (ce_var 1))) (css_cons (cs_item (ce_div (ce_ix (ce_var 0) ce_int) (ce_var 1)) (ce_var 0) ce_int) (css_one (cs_ret (ce_var 2))))) css_nil) (css_cons (cs_item (ce_mod (ce_add (ce_mul (ce_ix (ce_var 0) ce_int) ce_int) ce_int) ce_int) (ce_var 0) ce_int) (css_one (cs_ret (ce_mod (ce_div (ce_mod (ce_mul (ce_ix (ce_var 0) ce_int) (ce_ix (ce_var 0) ce_int)) ce_int) ce_int) (ce_var 1))))))
theorem ok_law_take (T : Tx fas fns K mg) : Ok_law_take P w K mg base := by
  obtain ⟨fd, F⟩ := T.c.def_ 1
  have B : Binds K fd ["_law_pool_here", "_law_count"] [] := F.bindsN (ps := ["_law_pool_here", "_law_count"]) fun _ _ _ _ _ _ us hl => match us, hl with | [_, _], _ => rfl
  exact FnP.of (fn_body F sc_law_take (Bd.of (n := 2) (dp := []) B .nil rfl rfl) (b_law_take T))
theorem kp_law_turns (T : Tx fas fns K mg) : PySem.W.keepIn K (.ref (At.ad K (.g "_law_turns"))) = true := T.kp 2
abbrev Ok_law_turns (P : Program) (w : World) (K : PySem.W.Frag) (mg : PySem.Str → Option Value) (base : Heap) : Prop := FnP P w K mg base 2 (At.ad K (.g "_law_turns")) (spN (gd_ K) N_law_turns F_law_turns 3 pl_law_turns)
theorem sc_law_turns : FnScope N_law_turns ["_law_pool_here", "_law_count", "_law_size"] (defScope s_law_turns) := ⟨rfl, rfl, rfl, by decide +kernel, rfl, by decide +kernel, by decide +kernel⟩
theorem b_law_turns (T : Tx fas fns K mg) (h_law_take : Ok_law_take P w K mg base) : BodyC (gd_ K) P w K mg base 1 N_law_turns "_law_turns" (defScope s_law_turns) (At.ad K (.g "_law_turns")) (defBody s_law_turns) g_law_turns := by
  intro cd A outer s H E room gd tk
  have S := sc_law_turns
  exact (css_one (cs_ret (CM.ce (cm_lc (own := [("_law_turn", 3)]) rfl S.nd (ci_rng1 rfl (T.free 3) (ca_cons (ce_sub (ce_var 2) ce_int) ca_nil)) (blkOk_by (own := [("_law_turn", 3)]) (N := N_law_turns) (sc := defScope (top 23)) (by decide +kernel)) (fun _ _ _ _ _ => (cg_name (i := 3) S.nd rfl (by first | exact Or.inl rfl | exact Or.inr rfl))) (fun _ _ _ _ _ => cts_nil) (fun _ _ _ _ _ => (ce_call (kp_law_take T) (RunOk.of h_law_take (Prom.def_ rfl) (room.mono (by decide)) gd takesZ) rfl (T.glo 4) (ca_cons (ce_var 0) (ca_cons (ce_var 1) ca_nil)))) (onlyAt_n (by decide))))))
theorem ok_law_turns (T : Tx fas fns K mg) (h_law_take : Ok_law_take P w K mg base) : Ok_law_turns P w K mg base := by
  obtain ⟨fd, F⟩ := T.c.def_ 2
  have B : Binds K fd ["_law_pool_here", "_law_count", "_law_size"] [] := F.bindsN (ps := ["_law_pool_here", "_law_count", "_law_size"]) fun _ _ _ _ _ _ us hl => match us, hl with | [_, _, _], _ => rfl
  exact FnP.of (fn_body F sc_law_turns (Bd.of (n := 3) (dp := []) B .nil rfl rfl) (b_law_turns T h_law_take))
theorem kp_is_integer (T : Tx fas fns K mg) : PySem.W.keepIn K (.ref (At.ad K (.g "is_integer"))) = true := T.kp 3
abbrev Ok_is_integer (P : Program) (w : World) (K : PySem.W.Frag) (mg : PySem.Str → Option Value) (base : Heap) : Prop := FnP P w K mg base 1 (At.ad K (.g "is_integer")) (spN (gd_ K) N_is_integer F_is_integer 2 pl_is_integer)
abbrev Ok1_is_integer (P : Program) (w : World) (K : PySem.W.Frag) (mg : PySem.Str → Option Value) (base : Heap) : Prop := FnP P w K mg base 1 (At.ad K (.g "is_integer")) (spN (gd_ K) N_is_integer F_is_integer 1 pl1_is_integer)
theorem sc_is_integer : FnScope N_is_integer ["value", "minimum"] (defScope s_is_integer) := ⟨rfl, rfl, rfl, by decide +kernel, rfl, by decide +kernel, by decide +kernel⟩
theorem b_is_integer (T : Tx fas fns K mg) : BodyC (gd_ K) P w K mg base 0 N_is_integer "is_integer" (defScope s_is_integer) (At.ad K (.g "is_integer")) (defBody s_is_integer) g_is_integer := by
  intro cd A outer s H E room gd tk
  have S := sc_is_integer
  exact (css_one (cs_ret (ce_and (ce_bi (cf_isi isTbB) rfl (T.free 5) (by decide +kernel) (ca_cons (ce_var 0) (ca_cons (ce_ty rfl (T.free 2) (by decide +kernel)) ca_nil))) (ce_and (ce_not (ce_bi (cf_isi isTbB) rfl (T.free 5) (by decide +kernel) (ca_cons (ce_var 0) (ca_cons (ce_ty rfl (T.free 6) (by decide +kernel)) ca_nil)))) (ce_one (ce_cmp cm_ge (ce_var 0) (ce_var 1) nmk))))))
theorem ok_is_integer (T : Tx fas fns K mg) : Ok_is_integer P w K mg base := by
  obtain ⟨fd, F⟩ := T.c.def_ 3
  obtain ⟨ds, hv, B⟩ := F.binds1 (ps := ["value", "minimum"]) 2 1 (by simp [DefC.dvs]) rfl fun _ _ _ _ _ _ _ us its hl hl2 => match us, its, hl, hl2 with | [_, _], [_], _, _ => ⟨_, rfl, rfl⟩
  exact FnP.of (fn_body F sc_is_integer (Bd.of (n := 2) (dp := []) B hv rfl rfl) (b_is_integer T))
theorem ok1_is_integer (T : Tx fas fns K mg) : Ok1_is_integer P w K mg base := by
  obtain ⟨fd, F⟩ := T.c.def_ 3
  obtain ⟨ds, hv, B⟩ := F.binds1 (ps := ["value", "minimum"]) 1 0 (by simp [DefC.dvs]) rfl fun _ _ _ _ _ _ _ us its hl hl2 => match us, its, hl, hl2 with | [_], [_], _, _ => ⟨_, rfl, rfl⟩
  exact FnP.of (fn_body F sc_is_integer (Bd.of (n := 1) (dp := [.int 0]) B hv rfl rfl) (b_is_integer T))
theorem kp_is_order (T : Tx fas fns K mg) : PySem.W.keepIn K (.ref (At.ad K (.g "is_order"))) = true := T.kp 4
abbrev Ok_is_order (P : Program) (w : World) (K : PySem.W.Frag) (mg : PySem.Str → Option Value) (base : Heap) : Prop := FnP P w K mg base 2 (At.ad K (.g "is_order")) (spN (gd_ K) N_is_order F_is_order 2 pl_is_order)
theorem sc_is_order : FnScope N_is_order ["value", "size"] (defScope s_is_order) := ⟨rfl, rfl, rfl, by decide +kernel, rfl, by decide +kernel, by decide +kernel⟩
theorem b_is_order (T : Tx fas fns K mg) (h1_is_integer : Ok1_is_integer P w K mg base) : BodyC (gd_ K) P w K mg base 1 N_is_order "is_order" (defScope s_is_order) (At.ad K (.g "is_order")) (defBody s_is_order) g_is_order := by
  intro cd A outer s H E room gd tk
  have S := sc_is_order
  exact (css_cons (cs_if (CW.ct (cw_or (ct_not (ct_val (ce_bi (cf_isi isTbB) rfl (T.free 5) (by decide +kernel) (ca_cons (ce_var 0) (ca_cons (ce_tup (ca_cons (ce_ty rfl (T.free 7) (by decide +kernel)) (ca_cons (ce_ty rfl (T.free 8) (by decide +kernel)) ca_nil))) ca_nil))))) (cw_or1 (ct_not (ct_val (ce_bi (cf_all rfl) rfl (T.free 10) (by decide +kernel) (ca_cons (CM.ce (cm_lc (own := [("item", 2)]) rfl S.nd (ci_seq (ce_var 0)) (blkOk_by (own := [("item", 2)]) (N := N_is_order) (sc := defScope (top 9)) (by decide +kernel)) (fun _ _ _ _ _ => (cg_name (i := 2) S.nd rfl (by first | exact Or.inl rfl | exact Or.inr rfl))) (fun _ _ _ _ _ => cts_nil) (fun _ _ _ _ _ => (ce_call (kp_is_integer T) (RunOk.of h1_is_integer (Prom.def_ rfl) (room.mono (by decide)) gd takesZ) rfl (T.glo 9) (ca_cons (ce_var 2) ca_nil))) (onlyAt_n (by decide)))) ca_nil))))))) (css_one (cs_ret ce_bl)) css_nil) (css_one (cs_ret (ce_cmp (cm_eq (hu64 room)) (CM.ce (cm_bi cf_sorted rfl (T.free 11) (by decide +kernel) (ca_cons (ce_var 0) ca_nil))) (CM.ce (cm_rg1 rfl rfl (T.free 7) rfl (T.free 3) (ce_var 1))) nmk))))
theorem ok_is_order (T : Tx fas fns K mg) (h1_is_integer : Ok1_is_integer P w K mg base) : Ok_is_order P w K mg base := by
  obtain ⟨fd, F⟩ := T.c.def_ 4
  have B : Binds K fd ["value", "size"] [] := F.bindsN (ps := ["value", "size"]) fun _ _ _ _ _ _ us hl => match us, hl with | [_, _], _ => rfl
  exact FnP.of (fn_body F sc_is_order (Bd.of (n := 2) (dp := []) B .nil rfl rfl) (b_is_order T h1_is_integer))
abbrev Ok_Profile_is_ranking (P : Program) (w : World) (K : PySem.W.Frag) (mg : PySem.Str → Option Value) (base : Heap) : Prop := FnP P w K mg base 3 (At.ad K (.sm "Profile" "is_ranking")) (spN (gd_ K) N_Profile_is_ranking F_Profile_is_ranking 1 pl_Profile_is_ranking)
theorem sc_Profile_is_ranking : FnScope N_Profile_is_ranking ["value"] (defScope s_Profile_is_ranking) := ⟨rfl, rfl, rfl, by decide +kernel, rfl, by decide +kernel, by decide +kernel⟩
theorem b_Profile_is_ranking (T : Tx fas fns K mg) (h_is_order : Ok_is_order P w K mg base) : BodyC (gd_ K) P w K mg base 2 N_Profile_is_ranking "Profile.is_ranking" (defScope s_Profile_is_ranking) (At.ad K (.sm "Profile" "is_ranking")) (defBody s_Profile_is_ranking) g_Profile_is_ranking := by
  intro cd A outer s H E room gd tk
  have S := sc_Profile_is_ranking
  exact (css_cons (cs_if (CW.ct (cw_or (ct_not (ct_val (ce_bi (cf_isi isTbB) rfl (T.free 5) (by decide +kernel) (ca_cons (ce_var 0) (ca_cons (ce_ty rfl (T.free 8) (by decide +kernel)) ca_nil))))) (cw_or1 (ct_not (ct_chain cm_le cm_le ce_int (ce_bi cf_len rfl (T.free 0) (by decide +kernel) (ca_cons (ce_var 0) ca_nil)) (ce_clvI (n := 0) (ce_glob (n := 0) rfl (T.glo 12) rfl) (T.read 13) (T.cv 14))))))) (css_one (cs_ret ce_bl)) css_nil) (css_one (cs_ret (ce_call (kp_is_order T) (RunOk.of h_is_order (Prom.def_ rfl) (room.mono (by decide)) gd tk) rfl (T.glo 15) (ca_cons (ce_var 0) (ca_cons (ce_bi cf_len rfl (T.free 0) (by decide +kernel) (ca_cons (ce_var 0) ca_nil)) ca_nil))))))
theorem ok_Profile_is_ranking (T : Tx fas fns K mg) (h_is_order : Ok_is_order P w K mg base) : Ok_Profile_is_ranking P w K mg base := by
  obtain ⟨fd, F⟩ := T.c.def_ 5
  have B : Binds K fd ["value"] [] := F.bindsN (ps := ["value"]) fun _ _ _ _ _ _ us hl => match us, hl with | [_], _ => rfl
  exact FnP.of (fn_body F sc_Profile_is_ranking (Bd.of (n := 1) (dp := []) B .nil rfl rfl) (b_Profile_is_ranking T h_is_order))
abbrev Ok_Profile_init (P : Program) (w : World) (K : PySem.W.Frag) (mg : PySem.Str → Option Value) (base : Heap) : Prop := FnP P w K mg base 4 (At.ad K (.m "Profile" "__init__")) (spStar (gd_ K) N_Profile_init F_Profile_init 1)
theorem sc_Profile_init : FnScope N_Profile_init ["self", "rankings"] (defScope s_Profile_init) := ⟨rfl, rfl, rfl, by decide +kernel, rfl, by decide +kernel, by decide +kernel⟩
theorem b_Profile_init (T : Tx fas fns K mg) (h_Profile_is_ranking : Ok_Profile_is_ranking P w K mg base) : BodyC (gd_ K) P w K mg base 3 N_Profile_init "Profile.__init__" (defScope s_Profile_init) (At.ad K (.m "Profile" "__init__")) (defBody s_Profile_init) g_Profile_init := by
  intro cd A outer s H E room gd tk
  have S := sc_Profile_init
  exact (css_cons (cs_if (ct_not (ct_chain cm_le cm_le ce_int (ce_bi cf_len rfl (T.free 0) (by decide +kernel) (ca_cons (ce_var 1) ca_nil)) (ce_clvI (n := 0) (ce_glob (n := 0) rfl (T.glo 12) rfl) (T.read 13) (T.cv 16)))) css_no css_nil) (css_cons (cs_for (passes_of rfl) rfl (ci_seq (ce_var 1)) (cg_name (i := 2) S.nd rfl (by first | exact Or.inl rfl | exact Or.inr rfl)) (css_one (cs_if (CW.ct (cw_or (ct_not (ct_val (ce_smeth (n := 0) (ce_glob (n := 0) rfl (T.glo 12) rfl) (T.read 13) (T.sm 17) (RunOk.of h_Profile_is_ranking (Prom.def_ rfl) (room.mono (by decide)) gd tk) (ca_cons (ce_var 2) ca_nil)))) (cw_or1 (ct_cmp (cm_ne (hu64 room)) (ce_bi cf_len rfl (T.free 0) (by decide +kernel) (ca_cons (ce_var 2) ca_nil)) (ce_bi cf_len rfl (T.free 0) (by decide +kernel) (ca_cons (ce_ix (ce_var 1) ce_int) ca_nil)) nmk)))) css_no css_nil))) (css_one (cs_attr (all1 (a := 0) ⟨T.cls 18, T.noat 19⟩) (ce_var 0) (CM.ce (cm_bt cf_list rfl (T.free 7) (by decide +kernel) (ca_cons (ce_var 1) ca_nil)))))))
theorem ok_Profile_init (T : Tx fas fns K mg) (h_Profile_is_ranking : Ok_Profile_is_ranking P w K mg base) : Ok_Profile_init P w K mg base := by
  obtain ⟨fd, F⟩ := T.c.def_ 6
  exact fn_bodyS (ps := ["self"]) (pv := "rankings") F sc_Profile_init (fun _ _ _ _ _ _ us rest hl => match us, rest, hl with | [_], [], _ => rfl | [_], _ :: _, _ => rfl) (b_Profile_init T h_Profile_is_ranking)
abbrev Ok_Profile_unanimous (P : Program) (w : World) (K : PySem.W.Frag) (mg : PySem.Str → Option Value) (base : Heap) : Prop := FnP P w K mg base 6 (At.ad K (.cm "Profile" "unanimous")) (spN (gd_ K) N_Profile_unanimous F_Profile_unanimous 3 pl_Profile_unanimous)
theorem sc_Profile_unanimous : FnScope N_Profile_unanimous ["cls", "ranking", "players"] (defScope s_Profile_unanimous) := ⟨rfl, rfl, rfl, by decide +kernel, rfl, by decide +kernel, by decide +kernel⟩
theorem b_Profile_unanimous (T : Tx fas fns K mg) (h_Profile_init : Ok_Profile_init P w K mg base) (h_Profile_is_ranking : Ok_Profile_is_ranking P w K mg base) (h_is_integer : Ok_is_integer P w K mg base) : BodyC (gd_ K) P w K mg base 5 N_Profile_unanimous "Profile.unanimous" (defScope s_Profile_unanimous) (At.ad K (.cm "Profile" "unanimous")) (defBody s_Profile_unanimous) g_Profile_unanimous := by
  intro cd A outer s H E room gd tk
  have S := sc_Profile_unanimous
  exact (css_cons (cs_if (ct_not (ct_val (ce_smeth (n := 0) (ce_glob (n := 0) rfl (T.glo 12) rfl) (T.read 13) (T.sm 17) (RunOk.of h_Profile_is_ranking (Prom.def_ rfl) (room.mono (by decide)) gd tk) (ca_cons (ce_var 1) ca_nil)))) css_no css_nil) (css_cons (cs_if (CW.ct (cw_or (ct_not (ct_val (ce_call (kp_is_integer T) (RunOk.of h_is_integer (Prom.def_ rfl) (room.mono (by decide)) gd tk) rfl (T.glo 9) (ca_cons (ce_var 2) (ca_cons ce_int ca_nil))))) (cw_or1 (ct_cmp cm_gt (ce_var 2) (ce_clvI (n := 0) (ce_var 0) (T.read 13) (T.cv 16)) nmk)))) css_no css_nil) (css_cons (cs_set (i := 3) S.nd rfl (by first | exact Or.inl rfl | exact Or.inr rfl) (ce_mul (CM.ce (cm_lst (ca_cons (ce_var 1) ca_nil))) (ce_var 2))) (css_one (cs_ret (ce_callLS (i := 0) (n := 0) (T.keep 21) (RunOk.make (c := 0) (T.mkr 20) h_Profile_init (fun _ => Prom.star) (room.mono (by decide)) gd tk) rfl (by first | exact Or.inl rfl | exact Or.inr (Or.inl rfl) | exact Or.inr (Or.inr rfl)) (ce_var 3)))))))
theorem ok_Profile_unanimous (T : Tx fas fns K mg) (h_Profile_init : Ok_Profile_init P w K mg base) (h_Profile_is_ranking : Ok_Profile_is_ranking P w K mg base) (h_is_integer : Ok_is_integer P w K mg base) : Ok_Profile_unanimous P w K mg base := by
  obtain ⟨fd, F⟩ := T.c.def_ 7
  have B : Binds K fd ["cls", "ranking", "players"] [] := F.bindsN (ps := ["cls", "ranking", "players"]) fun _ _ _ _ _ _ us hl => match us, hl with | [_, _, _], _ => rfl
  exact FnP.of (fn_body F sc_Profile_unanimous (Bd.of (n := 3) (dp := []) B .nil rfl rfl) (b_Profile_unanimous T h_Profile_init h_Profile_is_ranking h_is_integer))
theorem kp_is_index (T : Tx fas fns K mg) : PySem.W.keepIn K (.ref (At.ad K (.g "is_index"))) = true := T.kp 8
abbrev Ok_is_index (P : Program) (w : World) (K : PySem.W.Frag) (mg : PySem.Str → Option Value) (base : Heap) : Prop := FnP P w K mg base 2 (At.ad K (.g "is_index")) (spN (gd_ K) N_is_index F_is_index 2 pl_is_index)
theorem sc_is_index : FnScope N_is_index ["value", "size"] (defScope s_is_index) := ⟨rfl, rfl, rfl, by decide +kernel, rfl, by decide +kernel, by decide +kernel⟩
theorem b_is_index (T : Tx fas fns K mg) (h1_is_integer : Ok1_is_integer P w K mg base) : BodyC (gd_ K) P w K mg base 1 N_is_index "is_index" (defScope s_is_index) (At.ad K (.g "is_index")) (defBody s_is_index) g_is_index := by
  intro cd A outer s H E room gd tk
  have S := sc_is_index
  exact (css_one (cs_ret (ce_and (ce_call (kp_is_integer T) (RunOk.of h1_is_integer (Prom.def_ rfl) (room.mono (by decide)) gd tk) rfl (T.glo 9) (ca_cons (ce_var 0) ca_nil)) (ce_one (ce_cmp cm_lt (ce_var 0) (ce_var 1) nmk)))))
theorem ok_is_index (T : Tx fas fns K mg) (h1_is_integer : Ok1_is_integer P w K mg base) : Ok_is_index P w K mg base := by
  obtain ⟨fd, F⟩ := T.c.def_ 8
  have B : Binds K fd ["value", "size"] [] := F.bindsN (ps := ["value", "size"]) fun _ _ _ _ _ _ us hl => match us, hl with | [_, _], _ => rfl
  exact FnP.of (fn_body F sc_is_index (Bd.of (n := 2) (dp := []) B .nil rfl rfl) (b_is_index T h1_is_integer))
abbrev Ok_Profile_check_player (P : Program) (w : World) (K : PySem.W.Frag) (mg : PySem.Str → Option Value) (base : Heap) : Prop := FnP P w K mg base 3 (At.ad K (.m "Profile" "check_player")) (spN (gd_ K) N_Profile_check_player F_Profile_check_player 2 pl_Profile_check_player)
theorem sc_Profile_check_player : FnScope N_Profile_check_player ["self", "player"] (defScope s_Profile_check_player) := ⟨rfl, rfl, rfl, by decide +kernel, rfl, by decide +kernel, by decide +kernel⟩
theorem b_Profile_check_player (T : Tx fas fns K mg) (h_is_index : Ok_is_index P w K mg base) : BodyC (gd_ K) P w K mg base 2 N_Profile_check_player "Profile.check_player" (defScope s_Profile_check_player) (At.ad K (.m "Profile" "check_player")) (defBody s_Profile_check_player) g_Profile_check_player := by
  intro cd A outer s H E room gd tk
  have S := sc_Profile_check_player
  exact (css_one (cs_if (ct_not (ct_val (ce_call (kp_is_index T) (RunOk.of h_is_index (Prom.def_ rfl) (room.mono (by decide)) gd tk) rfl (T.glo 22) (ca_cons (ce_var 1) (ca_cons (ce_bi cf_len rfl (T.free 0) (by decide +kernel) (ca_cons (ce_fld (all1 (a := 0) ⟨T.cls 18, T.noat 19⟩) (ce_var 0)) ca_nil)) ca_nil))))) css_no css_nil))
theorem ok_Profile_check_player (T : Tx fas fns K mg) (h_is_index : Ok_is_index P w K mg base) : Ok_Profile_check_player P w K mg base := by
  obtain ⟨fd, F⟩ := T.c.def_ 9
  have B : Binds K fd ["self", "player"] [] := F.bindsN (ps := ["self", "player"]) fun _ _ _ _ _ _ us hl => match us, hl with | [_, _], _ => rfl
  exact FnP.of (fn_body F sc_Profile_check_player (Bd.of (n := 2) (dp := []) B .nil rfl rfl) (b_Profile_check_player T h_is_index))
abbrev Ok_Profile_with_ranking (P : Program) (w : World) (K : PySem.W.Frag) (mg : PySem.Str → Option Value) (base : Heap) : Prop := FnP P w K mg base 6 (At.ad K (.m "Profile" "with_ranking")) (spN (gd_ K) N_Profile_with_ranking F_Profile_with_ranking 3 pl_Profile_with_ranking)
theorem sc_Profile_with_ranking : FnScope N_Profile_with_ranking ["self", "player", "ranking"] (defScope s_Profile_with_ranking) := ⟨rfl, rfl, rfl, by decide +kernel, rfl, by decide +kernel, by decide +kernel⟩
theorem b_Profile_with_ranking (T : Tx fas fns K mg) (h_Profile_check_player : Ok_Profile_check_player P w K mg base) (h_Profile_init : Ok_Profile_init P w K mg base) (h_Profile_is_ranking : Ok_Profile_is_ranking P w K mg base) : BodyC (gd_ K) P w K mg base 5 N_Profile_with_ranking "Profile.with_ranking" (defScope s_Profile_with_ranking) (At.ad K (.m "Profile" "with_ranking")) (defBody s_Profile_with_ranking) g_Profile_with_ranking := by
  intro cd A outer s H E room gd tk
  have S := sc_Profile_with_ranking
  exact (css_cons (cs_expr (ce_meth (c := 0) (ce_var 0) (T.cls 18) (T.meth 23) (RunOk.of h_Profile_check_player (Prom.def_ rfl) (room.mono (by decide)) gd tk) (ca_cons (ce_var 1) ca_nil))) (css_cons (cs_if (CW.ct (cw_or (ct_not (ct_val (ce_smeth (n := 0) (ce_glob (n := 0) rfl (T.glo 12) rfl) (T.read 13) (T.sm 17) (RunOk.of h_Profile_is_ranking (Prom.def_ rfl) (room.mono (by decide)) gd tk) (ca_cons (ce_var 2) ca_nil)))) (cw_or1 (ct_cmp (cm_ne (hu64 room)) (ce_bi cf_len rfl (T.free 0) (by decide +kernel) (ca_cons (ce_var 2) ca_nil)) (ce_bi cf_len rfl (T.free 0) (by decide +kernel) (ca_cons (ce_ix (ce_fld (all1 (a := 0) ⟨T.cls 18, T.noat 19⟩) (ce_var 0)) ce_int) ca_nil)) nmk)))) css_no css_nil) (css_cons (cs_setM (i := 3) S.nd rfl (by first | exact Or.inl rfl | exact Or.inr rfl) (cm_bt cf_list rfl (T.free 7) (by decide +kernel) (ca_cons (ce_fld (all1 (a := 0) ⟨T.cls 18, T.noat 19⟩) (ce_var 0)) ca_nil))) (css_cons (cs_item (ce_var 2) (ce_var 3) (ce_var 1)) (css_one (cs_ret (ce_callS (T.keep 21) (RunOk.make (c := 0) (T.mkr 20) h_Profile_init (fun _ => Prom.star) (room.mono (by decide)) gd tk) rfl (T.glo 12) (ce_var 3))))))))
theorem ok_Profile_with_ranking (T : Tx fas fns K mg) (h_Profile_check_player : Ok_Profile_check_player P w K mg base) (h_Profile_init : Ok_Profile_init P w K mg base) (h_Profile_is_ranking : Ok_Profile_is_ranking P w K mg base) : Ok_Profile_with_ranking P w K mg base := by
  obtain ⟨fd, F⟩ := T.c.def_ 10
  have B : Binds K fd ["self", "player", "ranking"] [] := F.bindsN (ps := ["self", "player", "ranking"]) fun _ _ _ _ _ _ us hl => match us, hl with | [_, _, _], _ => rfl
  exact FnP.of (fn_body F sc_Profile_with_ranking (Bd.of (n := 3) (dp := []) B .nil rfl rfl) (b_Profile_with_ranking T h_Profile_check_player h_Profile_init h_Profile_is_ranking))
theorem kp_law_built (T : Tx fas fns K mg) : PySem.W.keepIn K (.ref (At.ad K (.g "_law_built"))) = true := T.kp 11
abbrev Ok_law_built (P : Program) (w : World) (K : PySem.W.Frag) (mg : PySem.Str → Option Value) (base : Heap) : Prop := FnP P w K mg base 7 (At.ad K (.g "_law_built")) (spN (gd_ K) N_law_built F_law_built 1 pl_law_built)
theorem sc_law_built : FnScope N_law_built ["_law_rankings_here"] (defScope s_law_built) := ⟨rfl, rfl, rfl, by decide +kernel, rfl, by decide +kernel, by decide +kernel⟩
theorem b_law_built (T : Tx fas fns K mg) (h_Profile_unanimous : Ok_Profile_unanimous P w K mg base) (h_Profile_with_ranking : Ok_Profile_with_ranking P w K mg base) : BodyC (gd_ K) P w K mg base 6 N_law_built "_law_built" (defScope s_law_built) (At.ad K (.g "_law_built")) (defBody s_law_built) g_law_built := by
  intro cd A outer s H E room gd tk
  have S := sc_law_built
  exact (css_cons (cs_set (i := 1) S.nd rfl (by first | exact Or.inl rfl | exact Or.inr rfl) (ce_cmeth (n := 0) (ce_glob (n := 0) rfl (T.glo 12) rfl) (T.read 13) (T.cm 24) h_Profile_unanimous (Prom.def_ rfl) (room.mono (by decide)) gd tk (ca_cons (ce_ix (ce_var 0) ce_int) (ca_cons (ce_bi cf_len rfl (T.free 0) (by decide +kernel) (ca_cons (ce_var 0) ca_nil)) ca_nil)))) (css_cons (cs_for (passes_of rfl) rfl (ci_en rfl (T.free 25) (ca_cons (ce_var 0) ca_nil)) (cg_seq rfl (cgs_cons (cg_name (i := 2) S.nd rfl (by first | exact Or.inl rfl | exact Or.inr rfl)) (cgs_cons (cg_name (i := 3) S.nd rfl (by first | exact Or.inl rfl | exact Or.inr rfl)) cgs_nil))) (css_one (cs_set (i := 1) S.nd rfl (by first | exact Or.inl rfl | exact Or.inr rfl) (ce_meth (c := 0) (ce_var 1) (T.cls 18) (T.meth 26) (RunOk.of h_Profile_with_ranking (Prom.def_ rfl) (room.mono (by decide)) gd tk) (ca_cons (ce_var 2) (ca_cons (ce_var 3) ca_nil)))))) (css_one (cs_ret (ce_var 1)))))
theorem ok_law_built (T : Tx fas fns K mg) (h_Profile_unanimous : Ok_Profile_unanimous P w K mg base) (h_Profile_with_ranking : Ok_Profile_with_ranking P w K mg base) : Ok_law_built P w K mg base := by
  obtain ⟨fd, F⟩ := T.c.def_ 11
  have B : Binds K fd ["_law_rankings_here"] [] := F.bindsN (ps := ["_law_rankings_here"]) fun _ _ _ _ _ _ us hl => match us, hl with | [_], _ => rfl
  exact FnP.of (fn_body F sc_law_built (Bd.of (n := 1) (dp := []) B .nil rfl rfl) (b_law_built T h_Profile_unanimous h_Profile_with_ranking))
theorem kp_law_shuffle (T : Tx fas fns K mg) : PySem.W.keepIn K (.ref (At.ad K (.g "_law_shuffle"))) = true := T.kp 12
abbrev Ok_law_shuffle (P : Program) (w : World) (K : PySem.W.Frag) (mg : PySem.Str → Option Value) (base : Heap) : Prop := FnP P w K mg base 2 (At.ad K (.g "_law_shuffle")) (spN (gd_ K) N_law_shuffle F_law_shuffle 2 pl_law_shuffle)
theorem sc_law_shuffle : FnScope N_law_shuffle ["_law_pool_here", "_law_items"] (defScope s_law_shuffle) := ⟨rfl, rfl, rfl, by decide +kernel, rfl, by decide +kernel, by decide +kernel⟩
theorem b_law_shuffle (T : Tx fas fns K mg) (h_law_take : Ok_law_take P w K mg base) : BodyC (gd_ K) P w K mg base 1 N_law_shuffle "_law_shuffle" (defScope s_law_shuffle) (At.ad K (.g "_law_shuffle")) (defBody s_law_shuffle) g_law_shuffle := by
  intro cd A outer s H E room gd tk
  have S := sc_law_shuffle
  exact (css_cons (cs_par (i := 2) (j := 3) rfl S.nd rfl rfl (by decide) rfl rfl (cn_m (cm_bt cf_list rfl (T.free 7) (by decide +kernel) (ca_cons (ce_var 1) ca_nil)) (cn_m (cm_lst ca_nil) cn_nil)) rfl) (css_cons (cs_for (passes_of rfl) rfl (ci_rng1 rfl (T.free 3) (ca_cons (ce_bi cf_len rfl (T.free 0) (by decide +kernel) (ca_cons (ce_var 1) ca_nil)) ca_nil)) (cg_name (i := 4) S.nd rfl (by first | exact Or.inl rfl | exact Or.inr rfl)) (css_one (cs_expr (ce_pl sn_append PySem.F.plainAttrs_list PySem.F.slot_list_append PySem.F.type_list_append mt_append (ce_var 3) (ca_cons (ce_pl sn_pop PySem.F.plainAttrs_list PySem.F.slot_list_pop PySem.F.type_list_pop mt_popAt (ce_var 2) (ca_cons (ce_call (kp_law_take T) (RunOk.of h_law_take (Prom.def_ rfl) (room.mono (by decide)) gd tk) rfl (T.glo 4) (ca_cons (ce_var 0) (ca_cons (ce_bi cf_len rfl (T.free 0) (by decide +kernel) (ca_cons (ce_var 2) ca_nil)) ca_nil))) ca_nil)) ca_nil))))) (css_one (cs_retM (cm_mv (i := 3) rfl (by first | exact Or.inl rfl | exact Or.inr (Or.inl rfl) | exact Or.inr (Or.inr rfl)))))))
theorem ok_law_shuffle (T : Tx fas fns K mg) (h_law_take : Ok_law_take P w K mg base) : Ok_law_shuffle P w K mg base := by
  obtain ⟨fd, F⟩ := T.c.def_ 12
  have B : Binds K fd ["_law_pool_here", "_law_items"] [] := F.bindsN (ps := ["_law_pool_here", "_law_items"]) fun _ _ _ _ _ _ us hl => match us, hl with | [_, _], _ => rfl
  exact FnP.of (fn_body F sc_law_shuffle (Bd.of (n := 2) (dp := []) B .nil rfl rfl) (b_law_shuffle T h_law_take))
theorem kp_law_rankings (T : Tx fas fns K mg) : PySem.W.keepIn K (.ref (At.ad K (.g "_law_rankings"))) = true := T.kp 13
abbrev Ok_law_rankings (P : Program) (w : World) (K : PySem.W.Frag) (mg : PySem.Str → Option Value) (base : Heap) : Prop := FnP P w K mg base 3 (At.ad K (.g "_law_rankings")) (spN (gd_ K) N_law_rankings F_law_rankings 3 pl_law_rankings)
theorem sc_law_rankings : FnScope N_law_rankings ["_law_pool_here", "_law_count", "_law_size"] (defScope s_law_rankings) := ⟨rfl, rfl, rfl, by decide +kernel, rfl, by decide +kernel, by decide +kernel⟩
theorem b_law_rankings (T : Tx fas fns K mg) (h_law_shuffle : Ok_law_shuffle P w K mg base) (h_law_take : Ok_law_take P w K mg base) : BodyC (gd_ K) P w K mg base 2 N_law_rankings "_law_rankings" (defScope s_law_rankings) (At.ad K (.g "_law_rankings")) (defBody s_law_rankings) g_law_rankings := by
  intro cd A outer s H E room gd tk
  have S := sc_law_rankings
  exact (css_cons (cs_set (i := 3) S.nd rfl (by first | exact Or.inl rfl | exact Or.inr rfl) (ce_bt cf_tuple rfl (T.free 8) (by decide +kernel) (ca_cons (ce_call (kp_law_shuffle T) (RunOk.of h_law_shuffle (Prom.def_ rfl) (room.mono (by decide)) gd tk) rfl (T.glo 27) (ca_cons (ce_var 0) (ca_cons (CM.ce (cm_rg1 rfl rfl (T.free 7) rfl (T.free 3) (ce_var 2))) ca_nil))) ca_nil))) (css_cons (cs_setM (i := 4) S.nd rfl (by first | exact Or.inl rfl | exact Or.inr rfl) (cm_lst (ca_cons (ce_var 3) ca_nil))) (css_cons (cs_for (passes_of rfl) rfl (ci_rng1 rfl (T.free 3) (ca_cons (ce_sub (ce_var 1) ce_int) ca_nil)) (cg_name (i := 5) S.nd rfl (by first | exact Or.inl rfl | exact Or.inr rfl)) (css_cons (cs_set (i := 6) S.nd rfl (by first | exact Or.inl rfl | exact Or.inr rfl) (ce_bt cf_tuple rfl (T.free 8) (by decide +kernel) (ca_cons (ce_call (kp_law_shuffle T) (RunOk.of h_law_shuffle (Prom.def_ rfl) (room.mono (by decide)) gd tk) rfl (T.glo 27) (ca_cons (ce_var 0) (ca_cons (CM.ce (cm_rg1 rfl rfl (T.free 7) rfl (T.free 3) (ce_var 2))) ca_nil))) ca_nil))) (css_one (cs_expr (ce_pl sn_append PySem.F.plainAttrs_list PySem.F.slot_list_append PySem.F.type_list_append mt_append (ce_var 4) (ca_cons (ce_ix (CM.ce (cm_lst (ca_cons (ce_var 3) (ca_cons (ce_rev (ce_var 3)) (ca_cons (ce_var 6) (ca_cons (ce_var 6) (ca_cons (ce_var 6) ca_nil))))))) (ce_call (kp_law_take T) (RunOk.of h_law_take (Prom.def_ rfl) (room.mono (by decide)) gd tk) rfl (T.glo 4) (ca_cons (ce_var 0) (ca_cons ce_int ca_nil)))) ca_nil)))))) (css_one (cs_retM (cm_mv (i := 4) rfl (by first | exact Or.inl rfl | exact Or.inr (Or.inl rfl) | exact Or.inr (Or.inr rfl))))))))
theorem ok_law_rankings (T : Tx fas fns K mg) (h_law_shuffle : Ok_law_shuffle P w K mg base) (h_law_take : Ok_law_take P w K mg base) : Ok_law_rankings P w K mg base := by
  obtain ⟨fd, F⟩ := T.c.def_ 13
  have B : Binds K fd ["_law_pool_here", "_law_count", "_law_size"] [] := F.bindsN (ps := ["_law_pool_here", "_law_count", "_law_size"]) fun _ _ _ _ _ _ us hl => match us, hl with | [_, _, _], _ => rfl
  exact FnP.of (fn_body F sc_law_rankings (Bd.of (n := 3) (dp := []) B .nil rfl rfl) (b_law_rankings T h_law_shuffle h_law_take))
theorem kp_law_players (T : Tx fas fns K mg) : PySem.W.keepIn K (.ref (At.ad K (.g "_law_players"))) = true := T.kp 14
abbrev Ok_law_players (P : Program) (w : World) (K : PySem.W.Frag) (mg : PySem.Str → Option Value) (base : Heap) : Prop := FnP P w K mg base 3 (At.ad K (.g "_law_players")) (spN (gd_ K) N_law_players F_law_players 2 pl_law_players)
theorem sc_law_players : FnScope N_law_players ["_law_pool_here", "_law_count"] (defScope s_law_players) := ⟨rfl, rfl, rfl, by decide +kernel, rfl, by decide +kernel, by decide +kernel⟩
theorem b_law_players (T : Tx fas fns K mg) (h_law_shuffle : Ok_law_shuffle P w K mg base) (h_law_take : Ok_law_take P w K mg base) : BodyC (gd_ K) P w K mg base 2 N_law_players "_law_players" (defScope s_law_players) (At.ad K (.g "_law_players")) (defBody s_law_players) g_law_players := by
  intro cd A outer s H E room gd tk
  have S := sc_law_players
  exact (css_one (cs_ret (ce_slice (ce_call (kp_law_shuffle T) (RunOk.of h_law_shuffle (Prom.def_ rfl) (room.mono (by decide)) gd tk) rfl (T.glo 27) (ca_cons (ce_var 0) (ca_cons (CM.ce (cm_rg1 rfl rfl (T.free 7) rfl (T.free 3) (ce_var 1))) ca_nil))) co_none (co_some (ce_call (kp_law_take T) (RunOk.of h_law_take (Prom.def_ rfl) (room.mono (by decide)) gd tk) rfl (T.glo 4) (ca_cons (ce_var 0) (ca_cons (ce_add (ce_var 1) ce_int) ca_nil)))))))
theorem ok_law_players (T : Tx fas fns K mg) (h_law_shuffle : Ok_law_shuffle P w K mg base) (h_law_take : Ok_law_take P w K mg base) : Ok_law_players P w K mg base := by
  obtain ⟨fd, F⟩ := T.c.def_ 14
  have B : Binds K fd ["_law_pool_here", "_law_count"] [] := F.bindsN (ps := ["_law_pool_here", "_law_count"]) fun _ _ _ _ _ _ us hl => match us, hl with | [_, _], _ => rfl
  exact FnP.of (fn_body F sc_law_players (Bd.of (n := 2) (dp := []) B .nil rfl rfl) (b_law_players T h_law_shuffle h_law_take))
theorem kp_law_avoids (T : Tx fas fns K mg) : PySem.W.keepIn K (.ref (At.ad K (.g "_law_avoids"))) = true := T.kp 15
abbrev Ok_law_avoids (P : Program) (w : World) (K : PySem.W.Frag) (mg : PySem.Str → Option Value) (base : Heap) (n : Nat) : Prop := FnP P w K mg base (1 + n) (At.ad K (.g "_law_avoids")) (spN (gd_ K) N_law_avoids (F_law_avoids n) 4 pl_law_avoids)
theorem sc_law_avoids : FnScope N_law_avoids ["_law_turns_here", "_law_some", "_law_rest", "_law_banned"] (defScope s_law_avoids) := ⟨rfl, rfl, rfl, by decide +kernel, rfl, by decide +kernel, by decide +kernel⟩
theorem b_law_avoids (T : Tx fas fns K mg) {k : Nat} {ihF : Fm} (ih : FnP P w K mg base k (At.ad K (.g "_law_avoids")) (spN (gd_ K) N_law_avoids ihF 4 pl_law_avoids)) (hk : 0 ≤ k) : BodyC (gd_ K) P w K mg base k N_law_avoids "_law_avoids" (defScope s_law_avoids) (At.ad K (.g "_law_avoids")) (defBody s_law_avoids) (g_law_avoids ihF) := by
  intro cd A outer s H E room gd tk
  have S := sc_law_avoids
  exact (css_cons (cs_if (ct_cmp (cm_eq (hu64 room)) (ce_bi cf_len rfl (T.free 0) (by decide +kernel) (ca_cons (ce_var 2) ca_nil)) ce_int nmk) (css_one (cs_ret (ce_cmp (cm_notIn (hu65 room)) (ce_ix (ce_var 2) ce_int) (ce_var 3) nmk))) css_nil) (css_cons (cs_set (i := 4) S.nd rfl (by first | exact Or.inl rfl | exact Or.inr rfl) (ce_cmp (cm_in (hu65 room)) (ce_ix (ce_var 0) ce_int) (ce_var 1) nmk)) (css_cons (cs_for (passes_of rfl) rfl (ci_seq (ce_var 2)) (cg_name (i := 5) S.nd rfl (by first | exact Or.inl rfl | exact Or.inr rfl)) (css_cons (cs_setLcT (own := [("_law_other", 7)]) (i := 6) rfl S.nd rfl rfl (sw_true rfl rfl rfl (by decide +kernel)) (ci_seq (ce_var 2)) (blkOk_by (own := [("_law_other", 7)]) (N := N_law_avoids) (sc := defScope (top 25)) (by decide +kernel)) (fun _ _ _ _ _ => (cg_name (i := 7) S.nd rfl (by first | exact Or.inl rfl | exact Or.inr rfl))) (fun _ _ _ _ _ => (cts_one (ct_cmp (cm_ne (hu64 room)) (ce_var 7) (ce_var 5) nmk))) (fun _ _ _ _ _ => (ce_var 7)) (onlyAt_n (by decide))) (css_one (cs_if (ct_cmp (cm_eq (hu64 room)) (ce_call (kp_law_avoids T) (RunOk.of ih (Prom.def_ rfl) room gd tk) rfl (T.glo 28) (ca_cons (ce_slice (ce_var 0) (co_some ce_int) co_none) (ca_cons (ce_var 1) (ca_cons (ce_var 6) (ca_cons (ce_var 3) ca_nil))))) (ce_var 4) nmk) (css_one (cs_ret (ce_var 4))) css_nil)))) (css_one (cs_ret (ce_not (ce_var 4)))))))
theorem ok_law_avoids (T : Tx fas fns K mg) : ∀ n : Nat, Ok_law_avoids P w K mg base n
  | 0 => FnP.stuck
  | n + 1 => by
    obtain ⟨fd, F⟩ := T.c.def_ 15
    have B : Binds K fd ["_law_turns_here", "_law_some", "_law_rest", "_law_banned"] [] := F.bindsN (ps := ["_law_turns_here", "_law_some", "_law_rest", "_law_banned"]) fun _ _ _ _ _ _ us hl => match us, hl with | [_, _, _, _], _ => rfl
    exact FnP.of (fn_body F sc_law_avoids (Bd.of (n := 4) (dp := []) B .nil rfl rfl) (b_law_avoids T (ok_law_avoids T n) (by omega)))
abbrev Ok_Profile_players (P : Program) (w : World) (K : PySem.W.Frag) (mg : PySem.Str → Option Value) (base : Heap) : Prop := FnP P w K mg base 1 (At.ad K (.pr "Profile" "players")) (spN (gd_ K) N_Profile_players F_Profile_players 1 pl_Profile_players)
theorem sc_Profile_players : FnScope N_Profile_players ["self"] (defScope s_Profile_players) := ⟨rfl, rfl, rfl, by decide +kernel, rfl, by decide +kernel, by decide +kernel⟩
theorem b_Profile_players (T : Tx fas fns K mg) : BodyC (gd_ K) P w K mg base 0 N_Profile_players "Profile.players" (defScope s_Profile_players) (At.ad K (.pr "Profile" "players")) (defBody s_Profile_players) g_Profile_players := by
  intro cd A outer s H E room gd tk
  have S := sc_Profile_players
  exact (css_one (cs_ret (ce_bi cf_len rfl (T.free 0) (by decide +kernel) (ca_cons (ce_fld (all1 (a := 0) ⟨T.cls 18, T.noat 19⟩) (ce_var 0)) ca_nil))))
theorem ok_Profile_players (T : Tx fas fns K mg) : Ok_Profile_players P w K mg base := by
  obtain ⟨fd, F⟩ := T.c.def_ 16
  have B : Binds K fd ["self"] [] := F.bindsN (ps := ["self"]) fun _ _ _ _ _ _ us hl => match us, hl with | [_], _ => rfl
  exact FnP.of (fn_body F sc_Profile_players (Bd.of (n := 1) (dp := []) B .nil rfl rfl) (b_Profile_players T))
theorem kp_check_turns (T : Tx fas fns K mg) : PySem.W.keepIn K (.ref (At.ad K (.g "check_turns"))) = true := T.kp 17
abbrev Ok_check_turns (P : Program) (w : World) (K : PySem.W.Frag) (mg : PySem.Str → Option Value) (base : Heap) : Prop := FnP P w K mg base 3 (At.ad K (.g "check_turns")) (spN (gd_ K) N_check_turns F_check_turns 3 pl_check_turns)
theorem sc_check_turns : FnScope N_check_turns ["profile", "turns", "size"] (defScope s_check_turns) := ⟨rfl, rfl, rfl, by decide +kernel, rfl, by decide +kernel, by decide +kernel⟩
theorem b_check_turns (T : Tx fas fns K mg) (h_Profile_players : Ok_Profile_players P w K mg base) (h_is_index : Ok_is_index P w K mg base) : BodyC (gd_ K) P w K mg base 2 N_check_turns "check_turns" (defScope s_check_turns) (At.ad K (.g "check_turns")) (defBody s_check_turns) g_check_turns := by
  intro cd A outer s H E room gd tk
  have S := sc_check_turns
  exact (css_cons (cs_if (CW.ct (cw_or (ct_not (ct_val (ce_bi (cf_isi isTbB) rfl (T.free 5) (by decide +kernel) (ca_cons (ce_var 1) (ca_cons (ce_tup (ca_cons (ce_ty rfl (T.free 7) (by decide +kernel)) (ca_cons (ce_ty rfl (T.free 8) (by decide +kernel)) ca_nil))) ca_nil))))) (cw_or1 (ct_cmp (cm_ne (hu64 room)) (ce_bi cf_len rfl (T.free 0) (by decide +kernel) (ca_cons (ce_var 1) ca_nil)) (ce_sub (ce_var 2) ce_int) nmk)))) css_no css_nil) (css_one (cs_if (ct_not (ct_val (ce_bi (cf_all rfl) rfl (T.free 10) (by decide +kernel) (ca_cons (CM.ce (cm_lc (own := [("player", 3)]) rfl S.nd (ci_seq (ce_var 1)) (blkOk_by (own := [("player", 3)]) (N := N_check_turns) (sc := defScope (top 12)) (by decide +kernel)) (fun _ _ _ _ _ => (cg_name (i := 3) S.nd rfl (by first | exact Or.inl rfl | exact Or.inr rfl))) (fun _ _ _ _ _ => cts_nil) (fun _ _ _ _ _ => (ce_call (kp_is_index T) (RunOk.of h_is_index (Prom.def_ rfl) (room.mono (by decide)) gd takesZ) rfl (T.glo 22) (ca_cons (ce_var 3) (ca_cons (ce_prop (c := 0) (ce_var 0) (T.cls 18) (T.prop 29) h_Profile_players (fun _ => (Prom.def_ rfl)) (room.mono (by decide)) gd) ca_nil)))) (onlyAt_n (by decide)))) ca_nil)))) css_no css_nil)))
theorem ok_check_turns (T : Tx fas fns K mg) (h_Profile_players : Ok_Profile_players P w K mg base) (h_is_index : Ok_is_index P w K mg base) : Ok_check_turns P w K mg base := by
  obtain ⟨fd, F⟩ := T.c.def_ 17
  have B : Binds K fd ["profile", "turns", "size"] [] := F.bindsN (ps := ["profile", "turns", "size"]) fun _ _ _ _ _ _ us hl => match us, hl with | [_, _, _], _ => rfl
  exact FnP.of (fn_body F sc_check_turns (Bd.of (n := 3) (dp := []) B .nil rfl rfl) (b_check_turns T h_Profile_players h_is_index))
abbrev Ok_Profile_alternatives (P : Program) (w : World) (K : PySem.W.Frag) (mg : PySem.Str → Option Value) (base : Heap) : Prop := FnP P w K mg base 1 (At.ad K (.pr "Profile" "alternatives")) (spN (gd_ K) N_Profile_alternatives F_Profile_alternatives 1 pl_Profile_alternatives)
theorem sc_Profile_alternatives : FnScope N_Profile_alternatives ["self"] (defScope s_Profile_alternatives) := ⟨rfl, rfl, rfl, by decide +kernel, rfl, by decide +kernel, by decide +kernel⟩
theorem b_Profile_alternatives (T : Tx fas fns K mg) : BodyC (gd_ K) P w K mg base 0 N_Profile_alternatives "Profile.alternatives" (defScope s_Profile_alternatives) (At.ad K (.pr "Profile" "alternatives")) (defBody s_Profile_alternatives) g_Profile_alternatives := by
  intro cd A outer s H E room gd tk
  have S := sc_Profile_alternatives
  exact (css_one (cs_ret (ce_bi cf_len rfl (T.free 0) (by decide +kernel) (ca_cons (ce_ix (ce_fld (all1 (a := 0) ⟨T.cls 18, T.noat 19⟩) (ce_var 0)) ce_int) ca_nil))))
theorem ok_Profile_alternatives (T : Tx fas fns K mg) : Ok_Profile_alternatives P w K mg base := by
  obtain ⟨fd, F⟩ := T.c.def_ 18
  have B : Binds K fd ["self"] [] := F.bindsN (ps := ["self"]) fun _ _ _ _ _ _ us hl => match us, hl with | [_], _ => rfl
  exact FnP.of (fn_body F sc_Profile_alternatives (Bd.of (n := 1) (dp := []) B .nil rfl rfl) (b_Profile_alternatives T))
theorem kp_check_players (T : Tx fas fns K mg) : PySem.W.keepIn K (.ref (At.ad K (.g "check_players"))) = true := T.kp 19
abbrev Ok_check_players (P : Program) (w : World) (K : PySem.W.Frag) (mg : PySem.Str → Option Value) (base : Heap) : Prop := FnP P w K mg base 3 (At.ad K (.g "check_players")) (spN (gd_ K) N_check_players F_check_players 2 pl_check_players)
theorem sc_check_players : FnScope N_check_players ["profile", "players"] (defScope s_check_players) := ⟨rfl, rfl, rfl, by decide +kernel, rfl, by decide +kernel, by decide +kernel⟩
theorem b_check_players (T : Tx fas fns K mg) (h_Profile_players : Ok_Profile_players P w K mg base) (h_is_index : Ok_is_index P w K mg base) : BodyC (gd_ K) P w K mg base 2 N_check_players "check_players" (defScope s_check_players) (At.ad K (.g "check_players")) (defBody s_check_players) g_check_players := by
  intro cd A outer s H E room gd tk
  have S := sc_check_players
  exact (css_one (cs_for (passes_of rfl) rfl (ci_en rfl (T.free 25) (ca_cons (ce_var 1) ca_nil)) (cg_seq rfl (cgs_cons (cg_name (i := 2) S.nd rfl (by first | exact Or.inl rfl | exact Or.inr rfl)) (cgs_cons (cg_name (i := 3) S.nd rfl (by first | exact Or.inl rfl | exact Or.inr rfl)) cgs_nil))) (css_one (cs_if (CW.ct (cw_or (ct_not (ct_val (ce_call (kp_is_index T) (RunOk.of h_is_index (Prom.def_ rfl) (room.mono (by decide)) gd tk) rfl (T.glo 22) (ca_cons (ce_var 3) (ca_cons (ce_prop (c := 0) (ce_var 0) (T.cls 18) (T.prop 29) h_Profile_players (fun _ => (Prom.def_ rfl)) (room.mono (by decide)) gd) ca_nil))))) (cw_or1 (ct_cmp (cm_in (hu65 room)) (ce_var 3) (ce_slice (ce_var 1) co_none (co_some (ce_var 2))) nmk)))) css_no css_nil))))
theorem ok_check_players (T : Tx fas fns K mg) (h_Profile_players : Ok_Profile_players P w K mg base) (h_is_index : Ok_is_index P w K mg base) : Ok_check_players P w K mg base := by
  obtain ⟨fd, F⟩ := T.c.def_ 19
  have B : Binds K fd ["profile", "players"] [] := F.bindsN (ps := ["profile", "players"]) fun _ _ _ _ _ _ us hl => match us, hl with | [_, _], _ => rfl
  exact FnP.of (fn_body F sc_check_players (Bd.of (n := 2) (dp := []) B .nil rfl rfl) (b_check_players T h_Profile_players h_is_index))
abbrev Ok_Profile_is_left (P : Program) (w : World) (K : PySem.W.Frag) (mg : PySem.Str → Option Value) (base : Heap) : Prop := FnP P w K mg base 3 (At.ad K (.m "Profile" "is_left")) (spN (gd_ K) N_Profile_is_left F_Profile_is_left 2 pl_Profile_is_left)
theorem sc_Profile_is_left : FnScope N_Profile_is_left ["self", "value"] (defScope s_Profile_is_left) := ⟨rfl, rfl, rfl, by decide +kernel, rfl, by decide +kernel, by decide +kernel⟩
theorem b_Profile_is_left (T : Tx fas fns K mg) (h_is_index : Ok_is_index P w K mg base) : BodyC (gd_ K) P w K mg base 2 N_Profile_is_left "Profile.is_left" (defScope s_Profile_is_left) (At.ad K (.m "Profile" "is_left")) (defBody s_Profile_is_left) g_Profile_is_left := by
  intro cd A outer s H E room gd tk
  have S := sc_Profile_is_left
  exact (css_cons (cs_if (CW.ct (cw_or (ct_not (ct_val (ce_bi (cf_isi isTbB) rfl (T.free 5) (by decide +kernel) (ca_cons (ce_var 1) (ca_cons (ce_tup (ca_cons (ce_ty rfl (T.free 7) (by decide +kernel)) (ca_cons (ce_ty rfl (T.free 8) (by decide +kernel)) ca_nil))) ca_nil))))) (cw_or1 (ct_cmp (cm_eq (hu64 room)) (ce_bi cf_len rfl (T.free 0) (by decide +kernel) (ca_cons (ce_var 1) ca_nil)) ce_int nmk)))) (css_one (cs_ret ce_bl)) css_nil) (css_cons (cs_if (ct_not (ct_val (ce_bi (cf_all rfl) rfl (T.free 10) (by decide +kernel) (ca_cons (CM.ce (cm_lc (own := [("item", 2)]) rfl S.nd (ci_seq (ce_var 1)) (blkOk_by (own := [("item", 2)]) (N := N_Profile_is_left) (sc := defScope (inClass (top 10) 12)) (by decide +kernel)) (fun _ _ _ _ _ => (cg_name (i := 2) S.nd rfl (by first | exact Or.inl rfl | exact Or.inr rfl))) (fun _ _ _ _ _ => cts_nil) (fun _ _ _ _ _ => (ce_call (kp_is_index T) (RunOk.of h_is_index (Prom.def_ rfl) (room.mono (by decide)) gd takesZ) rfl (T.glo 22) (ca_cons (ce_var 2) (ca_cons (ce_bi cf_len rfl (T.free 0) (by decide +kernel) (ca_cons (ce_ix (ce_fld (all1 (a := 0) ⟨T.cls 18, T.noat 19⟩) (ce_var 0)) ce_int) ca_nil)) ca_nil)))) (onlyAt_n (by decide)))) ca_nil)))) (css_one (cs_ret ce_bl)) css_nil) (css_one (cs_ret (ce_cmp (cm_eq (hu64 room)) (ce_lenSet rfl (T.free 0) rfl (T.free 30) (ce_var 1) rfl) (ce_bi cf_len rfl (T.free 0) (by decide +kernel) (ca_cons (ce_var 1) ca_nil)) nmk)))))
theorem ok_Profile_is_left (T : Tx fas fns K mg) (h_is_index : Ok_is_index P w K mg base) : Ok_Profile_is_left P w K mg base := by
  obtain ⟨fd, F⟩ := T.c.def_ 20
  have B : Binds K fd ["self", "value"] [] := F.bindsN (ps := ["self", "value"]) fun _ _ _ _ _ _ us hl => match us, hl with | [_, _], _ => rfl
  exact FnP.of (fn_body F sc_Profile_is_left (Bd.of (n := 2) (dp := []) B .nil rfl rfl) (b_Profile_is_left T h_is_index))
theorem kp_can_avoid (T : Tx fas fns K mg) : PySem.W.keepIn K (.ref (At.ad K (.g "can_avoid"))) = true := T.kp 21
abbrev Ok_can_avoid (P : Program) (w : World) (K : PySem.W.Frag) (mg : PySem.Str → Option Value) (base : Heap) : Prop := FnP P w K mg base 4 (At.ad K (.g "can_avoid")) (spStar (gd_ K) N_can_avoid F_can_avoid 3)
theorem sc_can_avoid : FnScope N_can_avoid ["profile", "turns", "value", "players"] (defScope s_can_avoid) := ⟨rfl, rfl, rfl, by decide +kernel, rfl, by decide +kernel, by decide +kernel⟩
theorem b_can_avoid (T : Tx fas fns K mg) (h_Profile_alternatives : Ok_Profile_alternatives P w K mg base) (h_Profile_is_left : Ok_Profile_is_left P w K mg base) (h_check_players : Ok_check_players P w K mg base) (h_check_turns : Ok_check_turns P w K mg base) : BodyC (gd_ K) P w K mg base 3 N_can_avoid "can_avoid" (defScope s_can_avoid) (At.ad K (.g "can_avoid")) (defBody s_can_avoid) g_can_avoid := by
  intro cd A outer s H E room gd tk
  have S := sc_can_avoid
  exact (css_cons (cs_expr (ce_call (kp_check_turns T) (RunOk.of h_check_turns (Prom.def_ rfl) (room.mono (by decide)) gd tk) rfl (T.glo 31) (ca_cons (ce_var 0) (ca_cons (ce_var 1) (ca_cons (ce_prop (c := 0) (ce_var 0) (T.cls 18) (T.prop 32) h_Profile_alternatives (fun _ => (Prom.def_ rfl)) (room.mono (by decide)) gd) ca_nil))))) (css_cons (cs_expr (ce_call (kp_check_players T) (RunOk.of h_check_players (Prom.def_ rfl) (room.mono (by decide)) gd tk) rfl (T.glo 33) (ca_cons (ce_var 0) (ca_cons (ce_var 3) ca_nil)))) (css_cons (cs_if (CW.ct (cw_or (ct_not (ct_val (ce_bi (cf_isi isTbB) rfl (T.free 5) (by decide +kernel) (ca_cons (ce_var 2) (ca_cons (ce_tup (ca_cons (ce_ty rfl (T.free 7) (by decide +kernel)) (ca_cons (ce_ty rfl (T.free 8) (by decide +kernel)) ca_nil))) ca_nil))))) (cw_or1 (CW.ct (cw_and (ct_cmp cm_gt (ce_bi cf_len rfl (T.free 0) (by decide +kernel) (ca_cons (ce_var 2) ca_nil)) ce_int nmk) (cw_and1 (ct_not (ct_val (ce_meth (c := 0) (ce_var 0) (T.cls 18) (T.meth 34) (RunOk.of h_Profile_is_left (Prom.def_ rfl) (room.mono (by decide)) gd tk) (ca_cons (ce_var 2) ca_nil)))))))))) (css_one (cs_ret ce_bl)) css_nil) (css_one (cs_ret (ce_cmp cm_ge (ce_bi cf_len rfl (T.free 0) (by decide +kernel) (ca_cons (CM.ce (cm_lc (own := [("player", 4)]) rfl S.nd (ci_seq (ce_var 1)) (blkOk_by (own := [("player", 4)]) (N := N_can_avoid) (sc := defScope (top 15)) (by decide +kernel)) (fun _ _ _ _ _ => (cg_name (i := 4) S.nd rfl (by first | exact Or.inl rfl | exact Or.inr rfl))) (fun _ _ _ _ _ => (cts_one (ct_cmp (cm_in (hu65 room)) (ce_var 4) (ce_var 3) nmk))) (fun _ _ _ _ _ => (ce_var 4)) (onlyAt_n (by decide)))) ca_nil)) (ce_bi cf_len rfl (T.free 0) (by decide +kernel) (ca_cons (ce_var 2) ca_nil)) nmk))))))
theorem ok_can_avoid (T : Tx fas fns K mg) (h_Profile_alternatives : Ok_Profile_alternatives P w K mg base) (h_Profile_is_left : Ok_Profile_is_left P w K mg base) (h_check_players : Ok_check_players P w K mg base) (h_check_turns : Ok_check_turns P w K mg base) : Ok_can_avoid P w K mg base := by
  obtain ⟨fd, F⟩ := T.c.def_ 21
  exact fn_bodyS (ps := ["profile", "turns", "value"]) (pv := "players") F sc_can_avoid (fun _ _ _ _ _ _ us rest hl => match us, rest, hl with | [_, _, _], [], _ => rfl | [_, _, _], _ :: _, _ => rfl) (b_can_avoid T h_Profile_alternatives h_Profile_is_left h_check_players h_check_turns)
theorem kp_law_with_item (T : Tx fas fns K mg) : PySem.W.keepIn K (.ref (At.ad K (.g "_law_with_item"))) = true := T.kp 22
abbrev Ok_law_with_item (P : Program) (w : World) (K : PySem.W.Frag) (mg : PySem.Str → Option Value) (base : Heap) : Prop := FnP P w K mg base 5 (At.ad K (.g "_law_with_item")) (spN (gd_ K) N_law_with_item F_law_with_item 5 pl_law_with_item)
theorem sc_law_with_item : FnScope N_law_with_item ["_law_call", "_law_profile", "_law_turns_here", "_law_item", "_law_some"] (defScope s_law_with_item) := ⟨rfl, rfl, rfl, by decide +kernel, rfl, by decide +kernel, by decide +kernel⟩
theorem b_law_with_item (T : Tx fas fns K mg) (h_can_avoid : Ok_can_avoid P w K mg base) : BodyC (gd_ K) P w K mg base 4 N_law_with_item "_law_with_item" (defScope s_law_with_item) (At.ad K (.g "_law_with_item")) (defBody s_law_with_item) g_law_with_item := by
  intro cd A outer s H E room gd tk
  have S := sc_law_with_item
  exact (css_cons (cs_if (ct_cmp (cm_eq (hu64 room)) (ce_bi cf_len rfl (T.free 0) (by decide +kernel) (ca_cons (ce_var 4) ca_nil)) ce_int nmk) (css_one (cs_ret (ce_callL (i := 0) (n := 1) (kp_can_avoid T) (RunOk.of h_can_avoid Prom.star (room.mono (by decide)) gd tk) rfl (by first | exact Or.inl rfl | exact Or.inr (Or.inl rfl) | exact Or.inr (Or.inr rfl)) (ca_cons (ce_var 1) (ca_cons (ce_var 2) (ca_cons (ce_var 3) ca_nil)))))) css_nil) (css_cons (cs_if (ct_cmp (cm_eq (hu64 room)) (ce_bi cf_len rfl (T.free 0) (by decide +kernel) (ca_cons (ce_var 4) ca_nil)) ce_int nmk) (css_one (cs_ret (ce_callL (i := 0) (n := 1) (kp_can_avoid T) (RunOk.of h_can_avoid Prom.star (room.mono (by decide)) gd tk) rfl (by first | exact Or.inl rfl | exact Or.inr (Or.inl rfl) | exact Or.inr (Or.inr rfl)) (ca_cons (ce_var 1) (ca_cons (ce_var 2) (ca_cons (ce_var 3) (ca_cons (ce_ix (ce_var 4) ce_int) ca_nil))))))) css_nil) (css_cons (cs_if (ct_cmp (cm_eq (hu64 room)) (ce_bi cf_len rfl (T.free 0) (by decide +kernel) (ca_cons (ce_var 4) ca_nil)) ce_int nmk) (css_one (cs_ret (ce_callL (i := 0) (n := 1) (kp_can_avoid T) (RunOk.of h_can_avoid Prom.star (room.mono (by decide)) gd tk) rfl (by first | exact Or.inl rfl | exact Or.inr (Or.inl rfl) | exact Or.inr (Or.inr rfl)) (ca_cons (ce_var 1) (ca_cons (ce_var 2) (ca_cons (ce_var 3) (ca_cons (ce_ix (ce_var 4) ce_int) (ca_cons (ce_ix (ce_var 4) ce_int) ca_nil)))))))) css_nil) (css_cons (cs_if (ct_cmp (cm_eq (hu64 room)) (ce_bi cf_len rfl (T.free 0) (by decide +kernel) (ca_cons (ce_var 4) ca_nil)) ce_int nmk) (css_one (cs_ret (ce_callL (i := 0) (n := 1) (kp_can_avoid T) (RunOk.of h_can_avoid Prom.star (room.mono (by decide)) gd tk) rfl (by first | exact Or.inl rfl | exact Or.inr (Or.inl rfl) | exact Or.inr (Or.inr rfl)) (ca_cons (ce_var 1) (ca_cons (ce_var 2) (ca_cons (ce_var 3) (ca_cons (ce_ix (ce_var 4) ce_int) (ca_cons (ce_ix (ce_var 4) ce_int) (ca_cons (ce_ix (ce_var 4) ce_int) ca_nil))))))))) css_nil) (css_cons (cs_if (ct_cmp (cm_eq (hu64 room)) (ce_bi cf_len rfl (T.free 0) (by decide +kernel) (ca_cons (ce_var 4) ca_nil)) ce_int nmk) (css_one (cs_ret (ce_callL (i := 0) (n := 1) (kp_can_avoid T) (RunOk.of h_can_avoid Prom.star (room.mono (by decide)) gd tk) rfl (by first | exact Or.inl rfl | exact Or.inr (Or.inl rfl) | exact Or.inr (Or.inr rfl)) (ca_cons (ce_var 1) (ca_cons (ce_var 2) (ca_cons (ce_var 3) (ca_cons (ce_ix (ce_var 4) ce_int) (ca_cons (ce_ix (ce_var 4) ce_int) (ca_cons (ce_ix (ce_var 4) ce_int) (ca_cons (ce_ix (ce_var 4) ce_int) ca_nil)))))))))) css_nil) (css_cons (cs_if (ct_cmp (cm_eq (hu64 room)) (ce_bi cf_len rfl (T.free 0) (by decide +kernel) (ca_cons (ce_var 4) ca_nil)) ce_int nmk) (css_one (cs_ret (ce_callL (i := 0) (n := 1) (kp_can_avoid T) (RunOk.of h_can_avoid Prom.star (room.mono (by decide)) gd tk) rfl (by first | exact Or.inl rfl | exact Or.inr (Or.inl rfl) | exact Or.inr (Or.inr rfl)) (ca_cons (ce_var 1) (ca_cons (ce_var 2) (ca_cons (ce_var 3) (ca_cons (ce_ix (ce_var 4) ce_int) (ca_cons (ce_ix (ce_var 4) ce_int) (ca_cons (ce_ix (ce_var 4) ce_int) (ca_cons (ce_ix (ce_var 4) ce_int) (ca_cons (ce_ix (ce_var 4) ce_int) ca_nil))))))))))) css_nil) (css_one (cs_ret (ce_callL (i := 0) (n := 1) (kp_can_avoid T) (RunOk.of h_can_avoid Prom.star (room.mono (by decide)) gd tk) rfl (by first | exact Or.inl rfl | exact Or.inr (Or.inl rfl) | exact Or.inr (Or.inr rfl)) (ca_cons (ce_var 1) (ca_cons (ce_var 2) (ca_cons (ce_var 3) (ca_cons (ce_ix (ce_var 4) ce_int) (ca_cons (ce_ix (ce_var 4) ce_int) (ca_cons (ce_ix (ce_var 4) ce_int) (ca_cons (ce_ix (ce_var 4) ce_int) (ca_cons (ce_ix (ce_var 4) ce_int) (ca_cons (ce_ix (ce_var 4) ce_int) ca_nil))))))))))))))))))
theorem ok_law_with_item (T : Tx fas fns K mg) (h_can_avoid : Ok_can_avoid P w K mg base) : Ok_law_with_item P w K mg base := by
  obtain ⟨fd, F⟩ := T.c.def_ 22
  have B : Binds K fd ["_law_call", "_law_profile", "_law_turns_here", "_law_item", "_law_some"] [] := F.bindsN (ps := ["_law_call", "_law_profile", "_law_turns_here", "_law_item", "_law_some"]) fun _ _ _ _ _ _ us hl => match us, hl with | [_, _, _, _, _], _ => rfl
  exact FnP.of (fn_body F sc_law_with_item (Bd.of (n := 5) (dp := []) B .nil rfl rfl) (b_law_with_item T h_can_avoid))
theorem kp_law (T : Tx fas fns K mg) : PySem.W.keepIn K (.ref (At.ad K (.g "law"))) = true := T.kp 23
abbrev Ok_law (P : Program) (w : World) (K : PySem.W.Frag) (mg : PySem.Str → Option Value) (base : Heap) : Prop := FnP P w K mg base 10 (At.ad K (.g "law")) (spN (gd_ K) N_law F_law 1 pl_law)
theorem sc_law : FnScope N_law ["_law_script"] (defScope s_law) := ⟨rfl, rfl, rfl, by decide +kernel, rfl, by decide +kernel, by decide +kernel⟩
theorem b_law (T : Tx fas fns K mg) (h_law_avoids : Ok_law_avoids P w K mg base 8) (h_law_built : Ok_law_built P w K mg base) (h_law_players : Ok_law_players P w K mg base) (h_law_pool : Ok_law_pool P w K mg base) (h_law_rankings : Ok_law_rankings P w K mg base) (h_law_shuffle : Ok_law_shuffle P w K mg base) (h_law_take : Ok_law_take P w K mg base) (h_law_turns : Ok_law_turns P w K mg base) (h_law_with_item : Ok_law_with_item P w K mg base) : BodyC (gd_ K) P w K mg base 9 N_law "law" (defScope s_law) (At.ad K (.g "law")) (defBody s_law) g_law := by
  intro cd A outer s H E room gd tk
  have S := sc_law
  exact (css_cons (cs_for (passes_of rfl) rfl (ci_rng1 rfl (T.free 3) (ca_cons (ce_bi (cf_max rfl) rfl (T.free 36) (by decide +kernel) (ca_cons ce_int (ca_cons (ce_bi (cf_min rfl) rfl (T.free 35) (by decide +kernel) (ca_cons ce_int (ca_cons (ce_bi cf_len rfl (T.free 0) (by decide +kernel) (ca_cons (ce_var 0) ca_nil)) ca_nil))) ca_nil))) ca_nil)) (cg_name (i := 1) S.nd rfl (by first | exact Or.inl rfl | exact Or.inr rfl)) (css_cons (cs_setM (i := 2) S.nd rfl (by first | exact Or.inl rfl | exact Or.inr rfl) (cm_call (kp_law_pool T) (RunOkM.of h_law_pool (PromM.def_ rfl) (room.mono (by decide)) gd tk) rfl (T.glo 37) (ca_cons (ce_var 0) (ca_cons (ce_var 1) ca_nil)))) (css_cons (cs_par (i := 3) (j := 4) rfl S.nd rfl rfl (by decide) rfl rfl (cn_t (ce_add ce_int (ce_call (kp_law_take T) (RunOk.of h_law_take (Prom.def_ rfl) (room.mono (by decide)) gd tk) rfl (T.glo 4) (ca_cons (ce_var 2) (ca_cons ce_int ca_nil)))) (cn_t (ce_add ce_int (ce_call (kp_law_take T) (RunOk.of h_law_take (Prom.def_ rfl) (room.mono (by decide)) gd tk) rfl (T.glo 4) (ca_cons (ce_var 2) (ca_cons ce_int ca_nil)))) cn_nil)) rfl) (css_cons (cs_asg (ce_tup (ca_cons (ce_call (kp_law_turns T) (RunOk.of h_law_turns (Prom.def_ rfl) (room.mono (by decide)) gd tk) rfl (T.glo 38) (ca_cons (ce_var 2) (ca_cons (ce_var 3) (ca_cons (ce_var 4) ca_nil)))) (ca_cons (ce_call (kp_law_built T) (RunOk.of h_law_built (Prom.def_ rfl) (room.mono (by decide)) gd tk) rfl (T.glo 39) (ca_cons (ce_call (kp_law_rankings T) (RunOk.of h_law_rankings (Prom.def_ rfl) (room.mono (by decide)) gd tk) rfl (T.glo 40) (ca_cons (ce_var 2) (ca_cons (ce_var 3) (ca_cons (ce_var 4) ca_nil)))) ca_nil)) ca_nil))) (cg_seq rfl (cgs_cons (cg_name (i := 5) S.nd rfl (by first | exact Or.inl rfl | exact Or.inr rfl)) (cgs_cons (cg_name (i := 6) S.nd rfl (by first | exact Or.inl rfl | exact Or.inr rfl)) cgs_nil)))) (css_cons (cs_asg (ce_tup (ca_cons (ce_call (kp_law_players T) (RunOk.of h_law_players (Prom.def_ rfl) (room.mono (by decide)) gd tk) rfl (T.glo 41) (ca_cons (ce_var 2) (ca_cons (ce_var 3) ca_nil))) (ca_cons (CM.ce (cm_rg1 rfl rfl (T.free 7) rfl (T.free 3) (ce_var 4))) ca_nil))) (cg_seq rfl (cgs_cons (cg_name (i := 7) S.nd rfl (by first | exact Or.inl rfl | exact Or.inr rfl)) (cgs_cons (cg_name (i := 8) S.nd rfl (by first | exact Or.inl rfl | exact Or.inr rfl)) cgs_nil)))) (css_cons (cs_for (passes_of rfl) rfl (ci_rng1 rfl (T.free 3) (ca_cons ce_int ca_nil)) (cg_name (i := 9) S.nd rfl (by first | exact Or.inl rfl | exact Or.inr rfl)) (css_cons (cs_set (i := 10) S.nd rfl (by first | exact Or.inl rfl | exact Or.inr rfl) (ce_slice (ce_call (kp_law_shuffle T) (RunOk.of h_law_shuffle (Prom.def_ rfl) (room.mono (by decide)) gd tk) rfl (T.glo 27) (ca_cons (ce_var 2) (ca_cons (ce_var 8) ca_nil))) co_none (co_some (ce_call (kp_law_take T) (RunOk.of h_law_take (Prom.def_ rfl) (room.mono (by decide)) gd tk) rfl (T.glo 4) (ca_cons (ce_var 2) (ca_cons (ce_add (ce_var 4) ce_int) ca_nil)))))) (css_cons (cs_set (i := 11) S.nd rfl (by first | exact Or.inl rfl | exact Or.inr rfl) (CM.ce (cm_bt cf_list rfl (T.free 7) (by decide +kernel) (ca_cons (ce_var 10) ca_nil)))) (css_cons (cs_set (i := 12) S.nd rfl (by first | exact Or.inl rfl | exact Or.inr rfl) (ce_bi (cf_repr gd (hu65 room)) rfl (T.free 42) (by decide +kernel) (ca_cons (ce_call (kp_law_avoids T) (RunOk.of h_law_avoids (Prom.def_ rfl) (room.mono (by decide)) gd tk) rfl (T.glo 28) (ca_cons (ce_var 5) (ca_cons (ce_var 7) (ca_cons (ce_var 8) (ca_cons (ce_var 10) ca_nil))))) ca_nil))) (css_one (cs_for (passes_of rfl) rfl (ci_seq (CM.ce (cm_lst (ca_cons (ce_tup (ca_cons (ce_var 10) (ca_cons (ce_var 5) ca_nil))) (ca_cons (ce_tup (ca_cons (ce_bt cf_tuple rfl (T.free 8) (by decide +kernel) (ca_cons (ce_var 10) ca_nil)) (ca_cons (ce_bt cf_tuple rfl (T.free 8) (by decide +kernel) (ca_cons (ce_var 5) ca_nil)) ca_nil))) ca_nil))))) (cg_seq rfl (cgs_cons (cg_name (i := 13) S.nd rfl (by first | exact Or.inl rfl | exact Or.inr rfl)) (cgs_cons (cg_name (i := 14) S.nd rfl (by first | exact Or.inl rfl | exact Or.inr rfl)) cgs_nil))) (css_one (cs_if (CW.ct (cw_or (ct_cmp (cm_ne (hu64 room)) (ce_bi (cf_repr gd (hu65 room)) rfl (T.free 42) (by decide +kernel) (ca_cons (ce_call (kp_law_with_item T) (RunOk.of h_law_with_item (Prom.def_ rfl) (room.mono (by decide)) gd tk) rfl (T.glo 43) (ca_cons (ce_glob (n := 1) rfl (T.glo 44) rfl) (ca_cons (ce_var 6) (ca_cons (ce_var 14) (ca_cons (ce_var 13) (ca_cons (ce_var 7) ca_nil)))))) ca_nil)) (ce_var 12) nmk) (cw_or1 (ct_cmp (cm_ne (hu64 room)) (ce_var 10) (ce_var 11) nmk)))) (css_one (cs_ret ce_bl)) css_nil)))))))) (css_cons (cs_setLcT (own := [("_law_value", 13)]) (i := 15) rfl S.nd rfl rfl (sw_true rfl rfl rfl (by decide +kernel)) (ci_seq (CM.ce (cm_lst (ca_cons (CM.ce (cm_lst ca_nil)) (ca_cons (ce_var 8) ca_nil))))) (blkOk_by (own := [("_law_value", 13)]) (N := N_law) (sc := defScope (top 26)) (by decide +kernel)) (fun _ _ _ _ _ => (cg_name (i := 13) S.nd rfl (by first | exact Or.inl rfl | exact Or.inr rfl))) (fun _ _ _ _ _ => cts_nil) (fun _ _ _ _ _ => (ce_call (kp_law_with_item T) (RunOk.of h_law_with_item (Prom.def_ rfl) (room.mono (by decide)) gd takesZ) rfl (T.glo 43) (ca_cons (ce_glob (n := 1) rfl (T.glo 44) rfl) (ca_cons (ce_var 6) (ca_cons (ce_var 5) (ca_cons (ce_var 13) (ca_cons (ce_var 7) ca_nil))))))) (onlyAt_n (by decide))) (css_cons (cs_if (CW.ct (cw_or (ct_cmp cm_notB (ce_ix (ce_var 15) ce_int) ce_bl nmk) (cw_or1 (ct_cmp cm_notB (ce_ix (ce_var 15) ce_int) ce_bl nmk)))) (css_one (cs_ret ce_bl)) css_nil) (css_cons (cs_set (i := 16) S.nd rfl (by first | exact Or.inl rfl | exact Or.inr rfl) (CM.ce (cm_rg1 rfl rfl (T.free 7) rfl (T.free 3) (ce_var 3)))) (css_cons (cs_set (i := 7) S.nd rfl (by first | exact Or.inl rfl | exact Or.inr rfl) (CM.ce (cm_lst (ca_cons ce_non (ca_cons ce_int (ca_cons ce_str (ca_cons ce_str (ca_cons (CM.ce cm_dct0) (ca_cons (CM.ce (cm_lst (ca_cons (ce_var 4) ca_nil))) (ca_cons (CM.ce (cm_lst (ca_cons (ce_neg ce_int) ca_nil))) (ca_cons (CM.ce (cm_lst (ca_cons ce_bl ca_nil))) (ca_cons (CM.ce (cm_lst (ca_cons ce_non ca_nil))) (ca_cons (CM.ce (cm_lst (ca_cons ce_int (ca_cons ce_int ca_nil)))) (ca_cons (ce_tup (ca_cons (ce_tup (ca_cons ce_int ca_nil)) ca_nil)) (ca_cons (CM.ce (cm_lst (ca_cons ce_str ca_nil))) (ca_cons (CM.ce (cm_lst (ca_cons (CM.ce (cm_lst (ca_cons ce_int ca_nil))) ca_nil))) (ca_cons ce_bl (ca_cons (CM.ce (cm_dct (cps_cons ce_int ce_int cps_nil))) ca_nil)))))))))))))))))) (css_one (cs_for (passes_of rfl) rfl (ci_seq (ce_add (ce_var 7) (CM.ce (cm_lst (ca_cons (CM.ce (cm_lst (ca_cons ce_int (ca_cons ce_non ca_nil)))) (ca_cons (CM.ce (cm_lst (ca_cons ce_str (ca_cons ce_int ca_nil)))) (ca_cons (ce_tup (ca_cons ce_int (ca_cons ce_str ca_nil))) ca_nil))))))) (cg_name (i := 17) S.nd rfl (by first | exact Or.inl rfl | exact Or.inr rfl)) (css_one (cs_if (ct_cmp cm_notB (ce_call (kp_law_with_item T) (RunOk.of h_law_with_item (Prom.def_ rfl) (room.mono (by decide)) gd tk) rfl (T.glo 43) (ca_cons (ce_glob (n := 1) rfl (T.glo 44) rfl) (ca_cons (ce_var 6) (ca_cons (ce_var 5) (ca_cons (ce_var 17) (ca_cons (ce_var 16) ca_nil)))))) ce_bl nmk) (css_one (cs_ret ce_bl)) css_nil)))))))))))))) (css_one (cs_ret ce_bl)))
theorem ok_law (T : Tx fas fns K mg) (h_law_avoids : Ok_law_avoids P w K mg base 8) (h_law_built : Ok_law_built P w K mg base) (h_law_players : Ok_law_players P w K mg base) (h_law_pool : Ok_law_pool P w K mg base) (h_law_rankings : Ok_law_rankings P w K mg base) (h_law_shuffle : Ok_law_shuffle P w K mg base) (h_law_take : Ok_law_take P w K mg base) (h_law_turns : Ok_law_turns P w K mg base) (h_law_with_item : Ok_law_with_item P w K mg base) : Ok_law P w K mg base := by
  obtain ⟨fd, F⟩ := T.c.def_ 23
  have B : Binds K fd ["_law_script"] [] := F.bindsN (ps := ["_law_script"]) fun _ _ _ _ _ _ us hl => match us, hl with | [_], _ => rfl
  exact FnP.of (fn_body F sc_law (Bd.of (n := 1) (dp := []) B .nil rfl rfl) (b_law T h_law_avoids h_law_built h_law_players h_law_pool h_law_rankings h_law_shuffle h_law_take h_law_turns h_law_with_item))
theorem all_ok (T : Tx fas fns K mg) : Ok_law P w K mg base := by
  have h_law_pool := ok_law_pool (P := P) (w := w) (base := base) T
  have h_law_take := ok_law_take (P := P) (w := w) (base := base) T
  have h_law_turns := ok_law_turns (P := P) (w := w) (base := base) T h_law_take
  have h_is_integer := ok_is_integer (P := P) (w := w) (base := base) T
  have h1_is_integer := ok1_is_integer (P := P) (w := w) (base := base) T
  have h_is_order := ok_is_order (P := P) (w := w) (base := base) T h1_is_integer
  have h_Profile_is_ranking := ok_Profile_is_ranking (P := P) (w := w) (base := base) T h_is_order
  have h_Profile_init := ok_Profile_init (P := P) (w := w) (base := base) T h_Profile_is_ranking
  have h_Profile_unanimous := ok_Profile_unanimous (P := P) (w := w) (base := base) T h_Profile_init h_Profile_is_ranking h_is_integer
  have h_is_index := ok_is_index (P := P) (w := w) (base := base) T h1_is_integer
  have h_Profile_check_player := ok_Profile_check_player (P := P) (w := w) (base := base) T h_is_index
  have h_Profile_with_ranking := ok_Profile_with_ranking (P := P) (w := w) (base := base) T h_Profile_check_player h_Profile_init h_Profile_is_ranking
  have h_law_built := ok_law_built (P := P) (w := w) (base := base) T h_Profile_unanimous h_Profile_with_ranking
  have h_law_shuffle := ok_law_shuffle (P := P) (w := w) (base := base) T h_law_take
  have h_law_rankings := ok_law_rankings (P := P) (w := w) (base := base) T h_law_shuffle h_law_take
  have h_law_players := ok_law_players (P := P) (w := w) (base := base) T h_law_shuffle h_law_take
  have h_law_avoids := ok_law_avoids (P := P) (w := w) (base := base) T 8
  have h_Profile_players := ok_Profile_players (P := P) (w := w) (base := base) T
  have h_check_turns := ok_check_turns (P := P) (w := w) (base := base) T h_Profile_players h_is_index
  have h_Profile_alternatives := ok_Profile_alternatives (P := P) (w := w) (base := base) T
  have h_check_players := ok_check_players (P := P) (w := w) (base := base) T h_Profile_players h_is_index
  have h_Profile_is_left := ok_Profile_is_left (P := P) (w := w) (base := base) T h_is_index
  have h_can_avoid := ok_can_avoid (P := P) (w := w) (base := base) T h_Profile_alternatives h_Profile_is_left h_check_players h_check_turns
  have h_law_with_item := ok_law_with_item (P := P) (w := w) (base := base) T h_can_avoid
  have h_law := ok_law (P := P) (w := w) (base := base) T h_law_avoids h_law_built h_law_players h_law_pool h_law_rankings h_law_shuffle h_law_take h_law_turns h_law_with_item
  exact h_law
end
abbrev R : PySem.W.OpenRow := PySem.W.OpenLaw.row PySem.Challenge.rw_vetoturns_k45_sets_avoided_by_the_whole
abbrev hk : PySem.W.Hook := hookC 5 fas fns
def ob (s : PySem.W.SharedT) : He.AlD := obsCG 5 fas fns (HandSHeadRun.getT s)
theorem ob_eq (s : PySem.W.SharedT) : ob s = hk.obs s.abs := obsCG_eq (HandSHeadRun.getT_eq s)

end K45
set_option Elab.async false
set_option linter.all false
set_option maxRecDepth 100000
set_option maxHeartbeats 0
namespace K45
open Std Cl PySem PySem.Spec PyProof.Rows L2 StX ClX
def names0 : List PySem.Str := ["_wall", "VetoError", "InvalidRanking", "InvalidPlayer", "InvalidTurns", "is_integer", "is_index", "is_order", "Profile", "check_turns", "check_players", "can_avoid", "_law_pool", "_law_take", "_law_with_item", "_law_built", "_law_shuffle", "_law_rankings", "_law_turns", "_law_players", "_law_avoids"]
def names : List PySem.Str := names0
theorem run (w : World) : HandSHeadRun.RunEq R (PySem.W.view R.prog [26]) hk ob 4000 names w := by
  intro os
  kernel_rfl
theorem end_ {l : PySem.W.OpenLaw} {q : Program} {loose : List PySem.Str} {XP : (PySem.Str → Option Value) → Heap → Prop} {d : DefRec} (hn : l.most = some 63) (hdf : d.params.defaults = []) (hd : d.name = ("law" : PySem.Str))
    (plain : ∀ ns : List Int, ns.length ≤ 63 → ∃ out, F_law [.t (.scr ns)] = .ok (.t (.bl true)) out) :
    PySem.W.WalkO q loose XP hk.says l.row.toRowW d [] (fun f vs => PySem.call f vs) := by
  refine walk_ofC (n := 63) (k := 10) hn (by decide) hdf ⟨rfl, by decide, by decide⟩ fun w mg fa h Y G hmg => ?_
  obtain ⟨K, KX, c⟩ := Y
  have T : Tx fas fns K mg := ⟨c, h, KX, G⟩
  rw [hd] at hmg
  have e := hmg.symm.trans (T.glo (x := "law") 46)
  cases e
  refine ⟨K, spN (gd_ K) N_law F_law 1 pl_law, KX, noList_ok (c.fact 45), fun H a o ns hl h1 h2 => ⟨rfl, law_in (plain ns hl) h1 h2⟩, fun base kb nb => ?_⟩
  exact all_ok T
end K45

open PySem PySem.W PySem.Calls PyProof.Rows in
set_option maxHeartbeats 0 in
theorem holds_of_K45 (plain : ∀ ns : List Int, ns.length ≤ 63 → ∃ out, K45.F_law [.t (.scr ns)] = .ok (.t (.bl true)) out) : PySem.Challenge.rw_vetoturns_k45_sets_avoided_by_the_whole.Holds := by
  w_on; o_law
  refine HandSHeadRun.head_any (r := OpenLaw.row PySem.Challenge.rw_vetoturns_k45_sets_avoided_by_the_whole) (q := view (OpenLaw.row PySem.Challenge.rw_vetoturns_k45_sets_avoided_by_the_whole).prog [26]) (H := K45.hk) (ob := K45.ob) (M := 4000) (loose := K45.names) (d := HandSHeadRun.topDef (OpenLaw.row PySem.Challenge.rw_vetoturns_k45_sets_avoided_by_the_whole).prog 26) (kwd := []) K45.ob_eq
    (by kernel_rfl) (fun s => by kernel_rfl) K45.run (by kernel_rfl) (by kernel_rfl) (by kernel_rfl) (by rfl) (by first | assumption | decide +kernel) (by decide +kernel) ⟨rfl, rfl, rfl, rfl, rfl, by decide +kernel⟩ ?hw ?hc
  case hw => w_witness2
  case hc => exact K45.end_ rfl (by kernel_rfl) (by kernel_rfl) plain
set_option Elab.async false
set_option linter.all false
set_option maxRecDepth 100000
set_option maxHeartbeats 4000000
namespace K45
open Std Cl PySem PySem.Spec PyProof.Rows L2
def bnN (rest ban : List Int) : Nat := (rest.filter fun i => decide (i ∈ ban)).length
def av (ts sm rest ban : List Int) : Bool := decide (bnN rest ban ≤ mineN ts sm)
def rem (rest : List Int) (i : Int) : List Int := rest.filter fun o => !decide (o = i)
theorem rem_length : ∀ {rest : List Int} {i : Int}, rest.Nodup → i ∈ rest → (rem rest i).length + 1 = rest.length
  | [], _, _, h => nomatch h
  | r :: rest, i, hd, h => by
    obtain ⟨h1, h2⟩ := List.nodup_cons.mp hd
    unfold rem
    rw [List.filter_cons]
    by_cases e : r = i
    · subst e
      have : rest.filter (fun o => !decide (o = r)) = rest := List.filter_eq_self.mpr fun o ho => by
        have : ¬ o = r := fun z => h1 (z ▸ ho)
        simp [this]
      simp [this]
    · have h3 : i ∈ rest := (List.mem_cons.mp h).resolve_left fun z => e z.symm
      have := rem_length (rest := rest) h2 h3
      unfold rem at this
      simp [e, this]
theorem rem_ban : ∀ {rest : List Int} {i : Int} {ban : List Int}, rest.Nodup → i ∈ rest → bnN (rem rest i) ban + (if i ∈ ban then 1 else 0) = bnN rest ban
  | [], _, _, _, h => nomatch h
  | r :: rest, i, ban, hd, h => by
    obtain ⟨h1, h2⟩ := List.nodup_cons.mp hd
    unfold rem bnN
    rw [List.filter_cons]
    by_cases e : r = i
    · subst e
      have : rest.filter (fun o => !decide (o = r)) = rest := List.filter_eq_self.mpr fun o ho => by
        have : ¬ o = r := fun z => h1 (z ▸ ho)
        simp [this]
      by_cases hb : r ∈ ban
      · simp [this, hb, List.filter_cons]
      · simp [this, hb, List.filter_cons]
    · have h3 : i ∈ rest := (List.mem_cons.mp h).resolve_left fun z => e z.symm
      have ih := rem_ban (rest := rest) (ban := ban) h2 h3
      unfold rem bnN at ih
      by_cases hb : r ∈ ban
      · simp only [e, decide_false, Bool.not_false, if_true, List.filter_cons, hb, decide_true, List.length_cons]; omega
      · simp only [e, decide_false, Bool.not_false, if_true, List.filter_cons, hb, Bool.false_eq_true, if_false]; omega
theorem bnN_le {rest ban : List Int} : bnN rest ban ≤ rest.length := List.length_filter_le _ _
theorem mineN_le {ts sm : List Int} : mineN ts sm ≤ ts.length := List.length_filter_le _ _
theorem mineN_cons {t : Int} {ts sm : List Int} : mineN (t :: ts) sm = mineN ts sm + (if t ∈ sm then 1 else 0) := by
  unfold mineN
  rw [List.filter_cons]
  by_cases h : t ∈ sm <;> simp [h]
theorem av_step {t : Int} {ts sm rest ban : List Int} (hd : rest.Nodup) (hl : (t :: ts).length + 1 = rest.length) :
    av (t :: ts) sm rest ban = if (rest.any fun i => av ts sm (rem rest i) ban == decide (t ∈ sm)) = true then decide (t ∈ sm) else !decide (t ∈ sm) := by
  have hm : ∀ i ∈ rest, av ts sm (rem rest i) ban = decide (bnN rest ban ≤ mineN ts sm + (if i ∈ ban then 1 else 0)) := fun i hi => by
    unfold av
    have := rem_ban (ban := ban) hd hi
    by_cases h : i ∈ ban
    · simp only [h, if_true] at this ⊢; exact decide_eq_decide.mpr (by omega)
    · simp only [h, if_false] at this ⊢; exact decide_eq_decide.mpr (by omega)
  have hb := bnN_le (rest := rest) (ban := ban)
  have hk := mineN_le (ts := ts) (sm := sm)
  rw [List.length_cons] at hl
  have hv : av (t :: ts) sm rest ban = decide (bnN rest ban ≤ mineN ts sm + (if t ∈ sm then 1 else 0)) := by unfold av; rw [mineN_cons]
  rw [hv]
  by_cases ht : t ∈ sm
  · rw [if_pos ht, decide_eq_true ht]
    by_cases hc : bnN rest ban ≤ mineN ts sm + 1
    · rw [decide_eq_true hc, if_pos]
      rw [List.any_eq_true]
      by_cases h0 : bnN rest ban = 0
      · obtain ⟨i, hi⟩ : ∃ i, i ∈ rest := List.exists_mem_of_length_pos (by omega)
        refine ⟨i, hi, ?_⟩
        rw [hm i hi, decide_eq_true (by omega)]; rfl
      · obtain ⟨i, hi⟩ : ∃ i, i ∈ rest.filter fun i => decide (i ∈ ban) := List.exists_mem_of_length_pos (by unfold bnN at h0; omega)
        obtain ⟨h1, h2⟩ := List.mem_filter.mp hi
        have h2 := of_decide_eq_true h2
        refine ⟨i, h1, ?_⟩
        rw [hm i h1, if_pos h2, decide_eq_true hc]; rfl
    · rw [decide_eq_false hc, if_neg]
      · rfl
      · rw [Bool.not_eq_true, List.any_eq_false]
        intro i hi
        rw [hm i hi]
        have : ¬ bnN rest ban ≤ mineN ts sm + (if i ∈ ban then 1 else 0) := by split <;> omega
        rw [decide_eq_false this]; decide
  · rw [if_neg ht, decide_eq_false ht]
    by_cases hc : bnN rest ban ≤ mineN ts sm + 0
    · rw [decide_eq_true hc, if_neg]
      · rfl
      · rw [Bool.not_eq_true, List.any_eq_false]
        intro i hi
        rw [hm i hi]
        have : bnN rest ban ≤ mineN ts sm + (if i ∈ ban then 1 else 0) := by split <;> omega
        rw [decide_eq_true this]; decide
    · rw [decide_eq_false hc, if_pos]
      rw [List.any_eq_true]
      by_cases hf : bnN rest ban = rest.length
      · obtain ⟨i, hi⟩ : ∃ i, i ∈ rest := List.exists_mem_of_length_pos (by omega)
        refine ⟨i, hi, ?_⟩
        have : ¬ bnN rest ban ≤ mineN ts sm + (if i ∈ ban then 1 else 0) := by split <;> omega
        rw [hm i hi, decide_eq_false this]; rfl
      · have : ∃ i ∈ rest, ¬ i ∈ ban := Classical.byContradiction fun z => hf (by
          unfold bnN
          rw [List.filter_eq_self.mpr]
          intro i hi
          refine decide_eq_true (Classical.byContradiction fun q => z ⟨i, hi, q⟩))
        obtain ⟨i, hi, hn⟩ := this
        refine ⟨i, hi, ?_⟩
        rw [hm i hi, if_neg hn, decide_eq_false hc]; rfl
theorem av_one {sm ban : List Int} {i : Int} : av [] sm [i] ban = !decide (i ∈ ban) := by
  unfold av bnN mineN
  by_cases h : i ∈ ban <;> simp [h]
theorem rem_lc {x y z w u s : Option SL} {rest : List Int} {i : Int} : lcL (tgN 7) (cTruth (cBin pNe (cVar 7) (cVar 5))) (cVar 7) [7] (iL rest) ⟨[x, y, z, w, u, some (.t (.int i)), s, none], []⟩ = .ok (iL (rem rest i)) ⟨[x, y, z, w, u, some (.t (.int i)), s, none], []⟩ := by
  rw [lcL_filter (onI fun o => !decide (o = i)) _root_.id, filter_iL, List.map_id]
  · rfl
  intro p hp
  obtain ⟨t, h, rfl⟩ := List.mem_map.mp hp
  refine ⟨_, rfl, ?_, fun _ => rfl, rfl⟩
  simp only [ev_bind_ok, ev_bind_stuck, ev_bind_exc, ev_cC, ev_ofO, ev_ofM, ev_cVar, ev_cMv, ev_mMv, ev_cUn, ev_cBin, ev_cNil, ev_cCons, ev_views_nil, ev_views_cons, ev_view_t, ev_view_sl, ev_view_ih, ev_pv_lst, ev_pv_obj, ev_pv_dct, ev_cList, ev_mList, ev_cTruth, ev_cAnd, ev_cOr, ev_cNot, ev_cAndV, ev_cOrV, ev_cNotV, ev_cIf, ev_cYes, ev_cChain, ev_cDisp, ev_mDisp, ev_trees_nil, ev_trees_cons, ev_cFrz, ev_sNil, ev_sNo, ev_sSeq, ev_bindS_ok, ev_bindS_stuck, ev_sExpr, ev_sRet, ev_sRetN, ev_sRetM, ev_sIf, ev_sSet, ev_sSetM, ev_sAsg, ev_sItem, ev_getP_sl, ev_getP_ih, ev_setP_sl, ev_setP_ih, ev_set, ev_sets_nil, ev_sets_cons, ev_tgN, ev_tgS_tup, ev_tgS_lst, ev_tgs_nil, ev_tgs_cons, ev_nNil, ev_nT, ev_nM, ev_sPar, ev_setFs_nil, ev_setFs_t, ev_setFs_n, ev_cPl, ev_cCallF, ev_mCallF, ev_fcDef, ev_fcDefM, ev_mRg1, ev_cRng1, ev_cIt, ev_sFor, ev_clear_nil, ev_clear_cons, ev_restore_nil, ev_restore_cons, List.set, List.getElem?_cons_succ, List.getElem?_cons_zero, Option.bind_some, Option.map_some, List.length_cons, List.length_nil, if_true, Bool.not_true, Bool.not_false, Bool.false_eq_true, if_false, reduceIte, decide_true, decide_false, Nat.reduceAdd, Nat.zero_add, List.getD_cons_succ, List.getD_cons_zero, pNe_int, onI]
theorem avoids_loop {F : Fm} {t : Int} {ts sm rest ban : List Int} (hr : rest.length ≤ 1000) (hF : ∀ i ∈ rest, F [.t (.lst (iL ts)), .t (.lst (iL sm)), .t (.lst (iL (rem rest i))), .t (.lst (iL ban))] = .ok (.t (.bl (av ts sm (rem rest i) ban))) []) {mine : Bool} :
    ∀ {is : List Int} {x y : Option SL}, (∀ i ∈ is, i ∈ rest) → ∃ x' y', forL (forB (tgN 5) (p_law_avoids_0 F)) (iL is) ⟨[some (.t (.lst (iL (t :: ts)))), some (.t (.lst (iL sm))), some (.t (.lst (iL rest))), some (.t (.lst (iL ban))), some (.t (.bl mine)), x, y, none], []⟩ =
      if (is.any fun i => av ts sm (rem rest i) ban == mine) = true then .rt (.t (.bl mine)) ⟨[some (.t (.lst (iL (t :: ts)))), some (.t (.lst (iL sm))), some (.t (.lst (iL rest))), some (.t (.lst (iL ban))), some (.t (.bl mine)), x', y', none], []⟩
      else .nx ⟨[some (.t (.lst (iL (t :: ts)))), some (.t (.lst (iL sm))), some (.t (.lst (iL rest))), some (.t (.lst (iL ban))), some (.t (.bl mine)), x', y', none], []⟩
  | [], x, y, _ => ⟨x, y, rfl⟩
  | i :: is, x, y, h => by
    have hi := h i (List.mem_cons_self ..)
    have e1 : ∀ st, cRun F st [.t (.lst (iL ts)), .t (.lst (iL sm)), .t (.lst (iL (rem rest i))), .t (.lst (iL ban))] = .ok (.t (.bl (av ts sm (rem rest i) ban))) st := fun st => cRun4 (hF i hi)
    have hz : szOk (iL (rem rest i)).length = true := by
      have : (rem rest i).length ≤ rest.length := List.length_filter_le _ _
      rw [List.length_map]; simp [szOk]; omega
    have hc : cut (iL (t :: ts)) (some 1) none = iL ts := by rw [cut_from (by omega)]; rfl
    have e2 : ∀ b c : Bool, pEq (.bl b) (.bl c) = some (.bl (b == c)) := fun b c => by cases b <;> cases c <;> rfl
    have step : forB (tgN 5) (p_law_avoids_0 F) (.int i) ⟨[some (.t (.lst (iL (t :: ts)))), some (.t (.lst (iL sm))), some (.t (.lst (iL rest))), some (.t (.lst (iL ban))), some (.t (.bl mine)), x, y, none], []⟩ =
        if (av ts sm (rem rest i) ban == mine) = true then .rt (.t (.bl mine)) ⟨[some (.t (.lst (iL (t :: ts)))), some (.t (.lst (iL sm))), some (.t (.lst (iL rest))), some (.t (.lst (iL ban))), some (.t (.bl mine)), some (.t (.int i)), some (.t (.lst (iL (rem rest i)))), none], []⟩
        else .nx ⟨[some (.t (.lst (iL (t :: ts)))), some (.t (.lst (iL sm))), some (.t (.lst (iL rest))), some (.t (.lst (iL ban))), some (.t (.bl mine)), some (.t (.int i)), some (.t (.lst (iL (rem rest i)))), none], []⟩ := by
      simp only [ev_bind_ok, ev_bind_stuck, ev_bind_exc, ev_cC, ev_ofO, ev_ofM, ev_cVar, ev_cMv, ev_mMv, ev_cUn, ev_cBin, ev_cNil, ev_cCons, ev_views_nil, ev_views_cons, ev_view_t, ev_view_sl, ev_view_ih, ev_pv_lst, ev_pv_obj, ev_pv_dct, ev_cList, ev_mList, ev_cTruth, ev_cAnd, ev_cOr, ev_cNot, ev_cAndV, ev_cOrV, ev_cNotV, ev_cIf, ev_cYes, ev_cChain, ev_cDisp, ev_mDisp, ev_trees_nil, ev_trees_cons, ev_cFrz, ev_sNil, ev_sNo, ev_sSeq, ev_bindS_ok, ev_bindS_stuck, ev_sExpr, ev_sRet, ev_sRetN, ev_sRetM, ev_sIf, ev_sSet, ev_sSetM, ev_sAsg, ev_sItem, ev_getP_sl, ev_getP_ih, ev_setP_sl, ev_setP_ih, ev_set, ev_sets_nil, ev_sets_cons, ev_tgN, ev_tgS_tup, ev_tgS_lst, ev_tgs_nil, ev_tgs_cons, ev_nNil, ev_nT, ev_nM, ev_sPar, ev_setFs_nil, ev_setFs_t, ev_setFs_n, ev_cPl, ev_cCallF, ev_mCallF, ev_fcDef, ev_fcDefM, ev_mRg1, ev_cRng1, ev_cIt, ev_sFor, ev_clear_nil, ev_clear_cons, ev_restore_nil, ev_restore_cons, List.set, List.getElem?_cons_succ, List.getElem?_cons_zero, Option.bind_some, Option.map_some, List.length_cons, List.length_nil, if_true, Bool.not_true, Bool.not_false, Bool.false_eq_true, if_false, reduceIte, decide_true, decide_false, Nat.reduceAdd, Nat.zero_add, List.getD_cons_succ, List.getD_cons_zero, ev_mLc, forB, p_law_avoids_0, plainAt, List.all_cons, List.all_nil, Bool.and_self, rem_lc, hz, cSl, cPart, cNoPart, pSl, hc, pick4, e1, e2]
    show ∃ x' y', forL _ (.int i :: iL is) _ = _
    unfold forL
    rw [step, List.any_cons]
    cases hb : av ts sm (rem rest i) ban == mine with
    | true => exact ⟨_, _, rfl⟩
    | false =>
      obtain ⟨x', y', e⟩ := avoids_loop (t := t) hr hF (mine := mine) (is := is) (x := some (.t (.int i))) (y := some (.t (.lst (iL (rem rest i))))) fun j hj => h j (List.mem_cons_of_mem _ hj)
      exact ⟨x', y', by rw [Bool.false_or]; exact e⟩
theorem avoids_eq : ∀ (n : Nat) (ts sm rest ban : List Int), rest.length ≤ n → n ≤ 1000 → rest.Nodup → ts.length + 1 = rest.length →
    F_law_avoids n [.t (.lst (iL ts)), .t (.lst (iL sm)), .t (.lst (iL rest)), .t (.lst (iL ban))] = .ok (.t (.bl (av ts sm rest ban))) []
  | 0, ts, sm, rest, ban, h, _, _, hl => by omega
  | n + 1, [], sm, rest, ban, h, hn, hd, hl => by
    obtain ⟨i, rfl⟩ : ∃ i, rest = [i] := List.length_eq_one_iff.mp (by rw [List.length_nil] at hl; omega)
    have e0 : bLen [.lst (iL [i])] = some (.int (1 : Nat)) := rfl
    have e1 : pEq (.int (1 : Nat)) (.int 1) = some (.bl true) := by rw [pEq_int]; rfl
    have e2 : pIx (.lst (iL [i])) (.int 0) = some (.int i) := rfl
    rw [av_one]
    unfold F_law_avoids runF g_law_avoids
    simp only [ev_bind_ok, ev_bind_stuck, ev_bind_exc, ev_cC, ev_ofO, ev_ofM, ev_cVar, ev_cMv, ev_mMv, ev_cUn, ev_cBin, ev_cNil, ev_cCons, ev_views_nil, ev_views_cons, ev_view_t, ev_view_sl, ev_view_ih, ev_pv_lst, ev_pv_obj, ev_pv_dct, ev_cList, ev_mList, ev_cTruth, ev_cAnd, ev_cOr, ev_cNot, ev_cAndV, ev_cOrV, ev_cNotV, ev_cIf, ev_cYes, ev_cChain, ev_cDisp, ev_mDisp, ev_trees_nil, ev_trees_cons, ev_cFrz, ev_sNil, ev_sNo, ev_sSeq, ev_bindS_ok, ev_bindS_stuck, ev_sExpr, ev_sRet, ev_sRetN, ev_sRetM, ev_sIf, ev_sSet, ev_sSetM, ev_sAsg, ev_sItem, ev_getP_sl, ev_getP_ih, ev_setP_sl, ev_setP_ih, ev_set, ev_sets_nil, ev_sets_cons, ev_tgN, ev_tgS_tup, ev_tgS_lst, ev_tgs_nil, ev_tgs_cons, ev_nNil, ev_nT, ev_nM, ev_sPar, ev_setFs_nil, ev_setFs_t, ev_setFs_n, ev_cPl, ev_cCallF, ev_mCallF, ev_fcDef, ev_fcDefM, ev_mRg1, ev_cRng1, ev_cIt, ev_sFor, ev_clear_nil, ev_clear_cons, ev_restore_nil, ev_restore_cons, List.set, List.getElem?_cons_succ, List.getElem?_cons_zero, Option.bind_some, Option.map_some, List.length_cons, List.length_nil, if_true, Bool.not_true, Bool.not_false, Bool.false_eq_true, if_false, reduceIte, decide_true, decide_false, Nat.reduceAdd, Nat.zero_add, List.getD_cons_succ, List.getD_cons_zero, enter, slots, conts, List.replicate, List.cons_append, List.nil_append, Nat.reduceSub, e0, e1, e2, pNotIn_ints]
  | n + 1, t :: ts, sm, rest, ban, h, hn, hd, hl => by
    have e0 : bLen [.lst (iL rest)] = some (.int (rest.length : Nat)) := by rw [len_lst, List.length_map]
    have hl2 := hl
    rw [List.length_cons] at hl
    have e1 : pEq (.int (rest.length : Nat)) (.int 1) = some (.bl false) := by rw [pEq_int, decide_eq_false (by omega)]
    have e2 : pIx (.lst (iL (t :: ts))) (.int 0) = some (.int t) := by
      show atI (PV.int t :: iL ts) 0 = _
      simp [atI, ixN]
    have hF : ∀ i ∈ rest, F_law_avoids n [.t (.lst (iL ts)), .t (.lst (iL sm)), .t (.lst (iL (rem rest i))), .t (.lst (iL ban))] = .ok (.t (.bl (av ts sm (rem rest i) ban))) [] := fun i hi => by
      have := rem_length hd hi
      exact avoids_eq n ts sm (rem rest i) ban (by omega) (by omega) (hd.sublist (List.filter_sublist ..)) (by omega)
    obtain ⟨x', y', e⟩ := avoids_loop (t := t) (by omega) hF (mine := decide (t ∈ sm)) (is := rest) (x := none) (y := none) fun i hi => hi
    rw [av_step hd hl2]
    unfold F_law_avoids runF g_law_avoids
    cases hb : rest.any fun i => av ts sm (rem rest i) ban == decide (t ∈ sm) with
    | true =>
      rw [hb] at e
      simp only [if_true] at e
      simp only [ev_bind_ok, ev_bind_stuck, ev_bind_exc, ev_cC, ev_ofO, ev_ofM, ev_cVar, ev_cMv, ev_mMv, ev_cUn, ev_cBin, ev_cNil, ev_cCons, ev_views_nil, ev_views_cons, ev_view_t, ev_view_sl, ev_view_ih, ev_pv_lst, ev_pv_obj, ev_pv_dct, ev_cList, ev_mList, ev_cTruth, ev_cAnd, ev_cOr, ev_cNot, ev_cAndV, ev_cOrV, ev_cNotV, ev_cIf, ev_cYes, ev_cChain, ev_cDisp, ev_mDisp, ev_trees_nil, ev_trees_cons, ev_cFrz, ev_sNil, ev_sNo, ev_sSeq, ev_bindS_ok, ev_bindS_stuck, ev_sExpr, ev_sRet, ev_sRetN, ev_sRetM, ev_sIf, ev_sSet, ev_sSetM, ev_sAsg, ev_sItem, ev_getP_sl, ev_getP_ih, ev_setP_sl, ev_setP_ih, ev_set, ev_sets_nil, ev_sets_cons, ev_tgN, ev_tgS_tup, ev_tgS_lst, ev_tgs_nil, ev_tgs_cons, ev_nNil, ev_nT, ev_nM, ev_sPar, ev_setFs_nil, ev_setFs_t, ev_setFs_n, ev_cPl, ev_cCallF, ev_mCallF, ev_fcDef, ev_fcDefM, ev_mRg1, ev_cRng1, ev_cIt, ev_sFor, ev_clear_nil, ev_clear_cons, ev_restore_nil, ev_restore_cons, List.set, List.getElem?_cons_succ, List.getElem?_cons_zero, Option.bind_some, Option.map_some, List.length_cons, List.length_nil, if_true, Bool.not_true, Bool.not_false, Bool.false_eq_true, if_false, reduceIte, decide_true, decide_false, Nat.reduceAdd, Nat.zero_add, List.getD_cons_succ, List.getD_cons_zero, enter, slots, conts, List.replicate, List.cons_append, List.nil_append, Nat.reduceSub, e0, e1, e2, pIn_ints, e]
    | false =>
      rw [hb] at e
      simp only [Bool.false_eq_true, if_false] at e
      simp only [ev_bind_ok, ev_bind_stuck, ev_bind_exc, ev_cC, ev_ofO, ev_ofM, ev_cVar, ev_cMv, ev_mMv, ev_cUn, ev_cBin, ev_cNil, ev_cCons, ev_views_nil, ev_views_cons, ev_view_t, ev_view_sl, ev_view_ih, ev_pv_lst, ev_pv_obj, ev_pv_dct, ev_cList, ev_mList, ev_cTruth, ev_cAnd, ev_cOr, ev_cNot, ev_cAndV, ev_cOrV, ev_cNotV, ev_cIf, ev_cYes, ev_cChain, ev_cDisp, ev_mDisp, ev_trees_nil, ev_trees_cons, ev_cFrz, ev_sNil, ev_sNo, ev_sSeq, ev_bindS_ok, ev_bindS_stuck, ev_sExpr, ev_sRet, ev_sRetN, ev_sRetM, ev_sIf, ev_sSet, ev_sSetM, ev_sAsg, ev_sItem, ev_getP_sl, ev_getP_ih, ev_setP_sl, ev_setP_ih, ev_set, ev_sets_nil, ev_sets_cons, ev_tgN, ev_tgS_tup, ev_tgS_lst, ev_tgs_nil, ev_tgs_cons, ev_nNil, ev_nT, ev_nM, ev_sPar, ev_setFs_nil, ev_setFs_t, ev_setFs_n, ev_cPl, ev_cCallF, ev_mCallF, ev_fcDef, ev_fcDefM, ev_mRg1, ev_cRng1, ev_cIt, ev_sFor, ev_clear_nil, ev_clear_cons, ev_restore_nil, ev_restore_cons, List.set, List.getElem?_cons_succ, List.getElem?_cons_zero, Option.bind_some, Option.map_some, List.length_cons, List.length_nil, if_true, Bool.not_true, Bool.not_false, Bool.false_eq_true, if_false, reduceIte, decide_true, decide_false, Nat.reduceAdd, Nat.zero_add, List.getD_cons_succ, List.getD_cons_zero, enter, slots, conts, List.replicate, List.cons_append, List.nil_append, Nat.reduceSub, e0, e1, e2, pIn_ints, e]
def okV (v : PV) : Prop := (isP v = true ∧ isSq v = false) ∨ ∃ tup qs, v = sqP tup qs ∧ qs.all isP = true ∧ qs.length ≤ 1000
theorem can_avoid_v {m : Nat} {rs : List (List Int)} {ts ps : List Int} {tup : Bool} {v : PV} (h : IsPf m rs) (ht : IsTu rs.length m ts) (hp : ∀ p ∈ ps, 0 ≤ p ∧ p < (rs.length : Int)) (hd : ps.Nodup) (hv : okV v) :
    F_can_avoid [.t (profP rs), .t (sqP tup (iL ts)), .t v, .t (.tup (iL ps))] = .ok (.t (.bl (avoidV m ts ps v))) [] := by
  rcases hv with ⟨h1, h2⟩ | ⟨tup2, qs, rfl, h1, h2⟩
  · rw [can_avoid_no h ht hp hd h1 h2]
    cases v <;> first | rfl | cases h2
  · rw [can_avoid_sq h ht hp hd h1 h2]
    cases tup2 <;> rfl
theorem star_v {m : Nat} {rs : List (List Int)} {ts ps : List Int} {tup : Bool} {v : PV} (h : IsPf m rs) (ht : IsTu rs.length m ts) (hp : ∀ p ∈ ps, 0 ≤ p ∧ p < (rs.length : Int)) (hd : ps.Nodup) (hv : okV v) (hl : ps.length ≤ 6) {st : Cl.ST} :
    fcStar 3 F_can_avoid ([.t (profP rs), .t (sqP tup (iL ts)), .t v] ++ (iL ps).map SV.t) st = .ok (.t (.bl (avoidV m ts ps v))) st := by
  have tr : ∀ ps : List PV, trees (ps.map SV.t) = some ps := by
    intro ps
    induction ps with
    | nil => rfl
    | cons p ps ih => show (trees (ps.map SV.t)).map _ = _; rw [ih]; rfl
  unfold fcStar
  show (match trees ((iL ps).map SV.t) with | some ps => _ | none => _) = _
  rw [tr]
  have hz : szOk (([SV.t (profP rs), .t (sqP tup (iL ts)), .t v] ++ (iL ps).map SV.t).length) = true := by simp [szOk]; omega
  show (if 3 ≤ ([SV.t (profP rs), .t (sqP tup (iL ts)), .t v] ++ (iL ps).map SV.t).length ∧ _ then _ else _) = _
  rw [if_pos ⟨by simp, hz⟩]
  exact cRun4 (can_avoid_v h ht hp hd hv)
theorem with_item_eq {m : Nat} {rs : List (List Int)} {ts ps : List Int} {tup : Bool} {v : PV} (h : IsPf m rs) (ht : IsTu rs.length m ts) (hp : ∀ p ∈ ps, 0 ≤ p ∧ p < (rs.length : Int)) (hd : ps.Nodup) (hv : okV v) (hl : ps.length ≤ 6) :
    F_law_with_item [.t (.fn 1), .t (profP rs), .t (sqP tup (iL ts)), .t v, .t (.lst (iL ps))] = .ok (.t (.bl (avoidV m ts ps v))) [] := by
  have e := fun st => star_v h ht hp hd hv hl (tup := tup) (st := st)
  have q : ∀ (a b : Nat), pEq (.int (a : Nat)) (.int (b : Nat)) = some (.bl (decide (a = b))) := fun a b => by rw [pEq_int]; congr 2; exact decide_eq_decide.mpr (by omega)
  unfold F_law_with_item runF g_law_with_item
  match ps, hl with
  | [], _ => 
    have l : bLen [.lst (iL [])] = some (.int (0 : Nat)) := rfl
    have q0 : pEq (.int (0 : Nat)) (.int 0) = some (.bl true) := q 0 0
    simp only [iL, List.map_nil, List.cons_append, List.nil_append] at e
    simp only [ev_bind_ok, ev_bind_stuck, ev_bind_exc, ev_cC, ev_ofO, ev_ofM, ev_cVar, ev_cMv, ev_mMv, ev_cUn, ev_cBin, ev_cNil, ev_cCons, ev_views_nil, ev_views_cons, ev_view_t, ev_view_sl, ev_view_ih, ev_pv_lst, ev_pv_obj, ev_pv_dct, ev_cList, ev_mList, ev_cTruth, ev_cAnd, ev_cOr, ev_cNot, ev_cAndV, ev_cOrV, ev_cNotV, ev_cIf, ev_cYes, ev_cChain, ev_cDisp, ev_mDisp, ev_trees_nil, ev_trees_cons, ev_cFrz, ev_sNil, ev_sNo, ev_sSeq, ev_bindS_ok, ev_bindS_stuck, ev_sExpr, ev_sRet, ev_sRetN, ev_sRetM, ev_sIf, ev_sSet, ev_sSetM, ev_sAsg, ev_sItem, ev_getP_sl, ev_getP_ih, ev_setP_sl, ev_setP_ih, ev_set, ev_sets_nil, ev_sets_cons, ev_tgN, ev_tgS_tup, ev_tgS_lst, ev_tgs_nil, ev_tgs_cons, ev_nNil, ev_nT, ev_nM, ev_sPar, ev_setFs_nil, ev_setFs_t, ev_setFs_n, ev_cPl, ev_cCallF, ev_mCallF, ev_fcDef, ev_fcDefM, ev_mRg1, ev_cRng1, ev_cIt, ev_sFor, ev_clear_nil, ev_clear_cons, ev_restore_nil, ev_restore_cons, List.set, List.getElem?_cons_succ, List.getElem?_cons_zero, Option.bind_some, Option.map_some, List.length_cons, List.length_nil, if_true, Bool.not_true, Bool.not_false, Bool.false_eq_true, if_false, reduceIte, decide_true, decide_false, Nat.reduceAdd, Nat.zero_add, List.getD_cons_succ, List.getD_cons_zero, enter, slots, conts, List.replicate, List.cons_append, List.nil_append, Nat.reduceSub, l, q0, cLoc, e]
  | [a], _ =>
    have l : bLen [.lst (iL [a])] = some (.int (1 : Nat)) := rfl
    have q0 : pEq (.int (1 : Nat)) (.int 0) = some (.bl false) := q 1 0
    have q1 : pEq (.int (1 : Nat)) (.int 1) = some (.bl true) := q 1 1
    have x0 : pIx (.lst (iL [a])) (.int 0) = some (.int a) := rfl
    simp only [iL, List.map_nil, List.map_cons, List.cons_append, List.nil_append] at e
    simp only [ev_bind_ok, ev_bind_stuck, ev_bind_exc, ev_cC, ev_ofO, ev_ofM, ev_cVar, ev_cMv, ev_mMv, ev_cUn, ev_cBin, ev_cNil, ev_cCons, ev_views_nil, ev_views_cons, ev_view_t, ev_view_sl, ev_view_ih, ev_pv_lst, ev_pv_obj, ev_pv_dct, ev_cList, ev_mList, ev_cTruth, ev_cAnd, ev_cOr, ev_cNot, ev_cAndV, ev_cOrV, ev_cNotV, ev_cIf, ev_cYes, ev_cChain, ev_cDisp, ev_mDisp, ev_trees_nil, ev_trees_cons, ev_cFrz, ev_sNil, ev_sNo, ev_sSeq, ev_bindS_ok, ev_bindS_stuck, ev_sExpr, ev_sRet, ev_sRetN, ev_sRetM, ev_sIf, ev_sSet, ev_sSetM, ev_sAsg, ev_sItem, ev_getP_sl, ev_getP_ih, ev_setP_sl, ev_setP_ih, ev_set, ev_sets_nil, ev_sets_cons, ev_tgN, ev_tgS_tup, ev_tgS_lst, ev_tgs_nil, ev_tgs_cons, ev_nNil, ev_nT, ev_nM, ev_sPar, ev_setFs_nil, ev_setFs_t, ev_setFs_n, ev_cPl, ev_cCallF, ev_mCallF, ev_fcDef, ev_fcDefM, ev_mRg1, ev_cRng1, ev_cIt, ev_sFor, ev_clear_nil, ev_clear_cons, ev_restore_nil, ev_restore_cons, List.set, List.getElem?_cons_succ, List.getElem?_cons_zero, Option.bind_some, Option.map_some, List.length_cons, List.length_nil, if_true, Bool.not_true, Bool.not_false, Bool.false_eq_true, if_false, reduceIte, decide_true, decide_false, Nat.reduceAdd, Nat.zero_add, List.getD_cons_succ, List.getD_cons_zero, enter, slots, conts, List.replicate, List.cons_append, List.nil_append, Nat.reduceSub, l, q0, q1, x0, cLoc, e]
  | [a, b], _ =>
    have l : bLen [.lst (iL [a, b])] = some (.int (2 : Nat)) := rfl
    have q0 : pEq (.int (2 : Nat)) (.int 0) = some (.bl false) := q 2 0
    have q1 : pEq (.int (2 : Nat)) (.int 1) = some (.bl false) := q 2 1
    have q2 : pEq (.int (2 : Nat)) (.int 2) = some (.bl true) := q 2 2
    have x0 : pIx (.lst (iL [a, b])) (.int 0) = some (.int a) := rfl
    have x1 : pIx (.lst (iL [a, b])) (.int 1) = some (.int b) := rfl
    simp only [iL, List.map_nil, List.map_cons, List.cons_append, List.nil_append] at e
    simp only [ev_bind_ok, ev_bind_stuck, ev_bind_exc, ev_cC, ev_ofO, ev_ofM, ev_cVar, ev_cMv, ev_mMv, ev_cUn, ev_cBin, ev_cNil, ev_cCons, ev_views_nil, ev_views_cons, ev_view_t, ev_view_sl, ev_view_ih, ev_pv_lst, ev_pv_obj, ev_pv_dct, ev_cList, ev_mList, ev_cTruth, ev_cAnd, ev_cOr, ev_cNot, ev_cAndV, ev_cOrV, ev_cNotV, ev_cIf, ev_cYes, ev_cChain, ev_cDisp, ev_mDisp, ev_trees_nil, ev_trees_cons, ev_cFrz, ev_sNil, ev_sNo, ev_sSeq, ev_bindS_ok, ev_bindS_stuck, ev_sExpr, ev_sRet, ev_sRetN, ev_sRetM, ev_sIf, ev_sSet, ev_sSetM, ev_sAsg, ev_sItem, ev_getP_sl, ev_getP_ih, ev_setP_sl, ev_setP_ih, ev_set, ev_sets_nil, ev_sets_cons, ev_tgN, ev_tgS_tup, ev_tgS_lst, ev_tgs_nil, ev_tgs_cons, ev_nNil, ev_nT, ev_nM, ev_sPar, ev_setFs_nil, ev_setFs_t, ev_setFs_n, ev_cPl, ev_cCallF, ev_mCallF, ev_fcDef, ev_fcDefM, ev_mRg1, ev_cRng1, ev_cIt, ev_sFor, ev_clear_nil, ev_clear_cons, ev_restore_nil, ev_restore_cons, List.set, List.getElem?_cons_succ, List.getElem?_cons_zero, Option.bind_some, Option.map_some, List.length_cons, List.length_nil, if_true, Bool.not_true, Bool.not_false, Bool.false_eq_true, if_false, reduceIte, decide_true, decide_false, Nat.reduceAdd, Nat.zero_add, List.getD_cons_succ, List.getD_cons_zero, enter, slots, conts, List.replicate, List.cons_append, List.nil_append, Nat.reduceSub, l, q0, q1, q2, x0, x1, cLoc, e]
  | [a, b, c], _ =>
    have l : bLen [.lst (iL [a, b, c])] = some (.int (3 : Nat)) := rfl
    have q0 : pEq (.int (3 : Nat)) (.int 0) = some (.bl false) := q 3 0
    have q1 : pEq (.int (3 : Nat)) (.int 1) = some (.bl false) := q 3 1
    have q2 : pEq (.int (3 : Nat)) (.int 2) = some (.bl false) := q 3 2
    have q3 : pEq (.int (3 : Nat)) (.int 3) = some (.bl true) := q 3 3
    have x0 : pIx (.lst (iL [a, b, c])) (.int 0) = some (.int a) := rfl
    have x1 : pIx (.lst (iL [a, b, c])) (.int 1) = some (.int b) := rfl
    have x2 : pIx (.lst (iL [a, b, c])) (.int 2) = some (.int c) := rfl
    simp only [iL, List.map_nil, List.map_cons, List.cons_append, List.nil_append] at e
    simp only [ev_bind_ok, ev_bind_stuck, ev_bind_exc, ev_cC, ev_ofO, ev_ofM, ev_cVar, ev_cMv, ev_mMv, ev_cUn, ev_cBin, ev_cNil, ev_cCons, ev_views_nil, ev_views_cons, ev_view_t, ev_view_sl, ev_view_ih, ev_pv_lst, ev_pv_obj, ev_pv_dct, ev_cList, ev_mList, ev_cTruth, ev_cAnd, ev_cOr, ev_cNot, ev_cAndV, ev_cOrV, ev_cNotV, ev_cIf, ev_cYes, ev_cChain, ev_cDisp, ev_mDisp, ev_trees_nil, ev_trees_cons, ev_cFrz, ev_sNil, ev_sNo, ev_sSeq, ev_bindS_ok, ev_bindS_stuck, ev_sExpr, ev_sRet, ev_sRetN, ev_sRetM, ev_sIf, ev_sSet, ev_sSetM, ev_sAsg, ev_sItem, ev_getP_sl, ev_getP_ih, ev_setP_sl, ev_setP_ih, ev_set, ev_sets_nil, ev_sets_cons, ev_tgN, ev_tgS_tup, ev_tgS_lst, ev_tgs_nil, ev_tgs_cons, ev_nNil, ev_nT, ev_nM, ev_sPar, ev_setFs_nil, ev_setFs_t, ev_setFs_n, ev_cPl, ev_cCallF, ev_mCallF, ev_fcDef, ev_fcDefM, ev_mRg1, ev_cRng1, ev_cIt, ev_sFor, ev_clear_nil, ev_clear_cons, ev_restore_nil, ev_restore_cons, List.set, List.getElem?_cons_succ, List.getElem?_cons_zero, Option.bind_some, Option.map_some, List.length_cons, List.length_nil, if_true, Bool.not_true, Bool.not_false, Bool.false_eq_true, if_false, reduceIte, decide_true, decide_false, Nat.reduceAdd, Nat.zero_add, List.getD_cons_succ, List.getD_cons_zero, enter, slots, conts, List.replicate, List.cons_append, List.nil_append, Nat.reduceSub, l, q0, q1, q2, q3, x0, x1, x2, cLoc, e]
  | [a, b, c, d], _ =>
    have l : bLen [.lst (iL [a, b, c, d])] = some (.int (4 : Nat)) := rfl
    have q0 : pEq (.int (4 : Nat)) (.int 0) = some (.bl false) := q 4 0
    have q1 : pEq (.int (4 : Nat)) (.int 1) = some (.bl false) := q 4 1
    have q2 : pEq (.int (4 : Nat)) (.int 2) = some (.bl false) := q 4 2
    have q3 : pEq (.int (4 : Nat)) (.int 3) = some (.bl false) := q 4 3
    have q4 : pEq (.int (4 : Nat)) (.int 4) = some (.bl true) := q 4 4
    have x0 : pIx (.lst (iL [a, b, c, d])) (.int 0) = some (.int a) := rfl
    have x1 : pIx (.lst (iL [a, b, c, d])) (.int 1) = some (.int b) := rfl
    have x2 : pIx (.lst (iL [a, b, c, d])) (.int 2) = some (.int c) := rfl
    have x3 : pIx (.lst (iL [a, b, c, d])) (.int 3) = some (.int d) := rfl
    simp only [iL, List.map_nil, List.map_cons, List.cons_append, List.nil_append] at e
    simp only [ev_bind_ok, ev_bind_stuck, ev_bind_exc, ev_cC, ev_ofO, ev_ofM, ev_cVar, ev_cMv, ev_mMv, ev_cUn, ev_cBin, ev_cNil, ev_cCons, ev_views_nil, ev_views_cons, ev_view_t, ev_view_sl, ev_view_ih, ev_pv_lst, ev_pv_obj, ev_pv_dct, ev_cList, ev_mList, ev_cTruth, ev_cAnd, ev_cOr, ev_cNot, ev_cAndV, ev_cOrV, ev_cNotV, ev_cIf, ev_cYes, ev_cChain, ev_cDisp, ev_mDisp, ev_trees_nil, ev_trees_cons, ev_cFrz, ev_sNil, ev_sNo, ev_sSeq, ev_bindS_ok, ev_bindS_stuck, ev_sExpr, ev_sRet, ev_sRetN, ev_sRetM, ev_sIf, ev_sSet, ev_sSetM, ev_sAsg, ev_sItem, ev_getP_sl, ev_getP_ih, ev_setP_sl, ev_setP_ih, ev_set, ev_sets_nil, ev_sets_cons, ev_tgN, ev_tgS_tup, ev_tgS_lst, ev_tgs_nil, ev_tgs_cons, ev_nNil, ev_nT, ev_nM, ev_sPar, ev_setFs_nil, ev_setFs_t, ev_setFs_n, ev_cPl, ev_cCallF, ev_mCallF, ev_fcDef, ev_fcDefM, ev_mRg1, ev_cRng1, ev_cIt, ev_sFor, ev_clear_nil, ev_clear_cons, ev_restore_nil, ev_restore_cons, List.set, List.getElem?_cons_succ, List.getElem?_cons_zero, Option.bind_some, Option.map_some, List.length_cons, List.length_nil, if_true, Bool.not_true, Bool.not_false, Bool.false_eq_true, if_false, reduceIte, decide_true, decide_false, Nat.reduceAdd, Nat.zero_add, List.getD_cons_succ, List.getD_cons_zero, enter, slots, conts, List.replicate, List.cons_append, List.nil_append, Nat.reduceSub, l, q0, q1, q2, q3, q4, x0, x1, x2, x3, cLoc, e]
  | [a, b, c, d, f], _ =>
    have l : bLen [.lst (iL [a, b, c, d, f])] = some (.int (5 : Nat)) := rfl
    have q0 : pEq (.int (5 : Nat)) (.int 0) = some (.bl false) := q 5 0
    have q1 : pEq (.int (5 : Nat)) (.int 1) = some (.bl false) := q 5 1
    have q2 : pEq (.int (5 : Nat)) (.int 2) = some (.bl false) := q 5 2
    have q3 : pEq (.int (5 : Nat)) (.int 3) = some (.bl false) := q 5 3
    have q4 : pEq (.int (5 : Nat)) (.int 4) = some (.bl false) := q 5 4
    have q5 : pEq (.int (5 : Nat)) (.int 5) = some (.bl true) := q 5 5
    have x0 : pIx (.lst (iL [a, b, c, d, f])) (.int 0) = some (.int a) := rfl
    have x1 : pIx (.lst (iL [a, b, c, d, f])) (.int 1) = some (.int b) := rfl
    have x2 : pIx (.lst (iL [a, b, c, d, f])) (.int 2) = some (.int c) := rfl
    have x3 : pIx (.lst (iL [a, b, c, d, f])) (.int 3) = some (.int d) := rfl
    have x4 : pIx (.lst (iL [a, b, c, d, f])) (.int 4) = some (.int f) := rfl
    simp only [iL, List.map_nil, List.map_cons, List.cons_append, List.nil_append] at e
    simp only [ev_bind_ok, ev_bind_stuck, ev_bind_exc, ev_cC, ev_ofO, ev_ofM, ev_cVar, ev_cMv, ev_mMv, ev_cUn, ev_cBin, ev_cNil, ev_cCons, ev_views_nil, ev_views_cons, ev_view_t, ev_view_sl, ev_view_ih, ev_pv_lst, ev_pv_obj, ev_pv_dct, ev_cList, ev_mList, ev_cTruth, ev_cAnd, ev_cOr, ev_cNot, ev_cAndV, ev_cOrV, ev_cNotV, ev_cIf, ev_cYes, ev_cChain, ev_cDisp, ev_mDisp, ev_trees_nil, ev_trees_cons, ev_cFrz, ev_sNil, ev_sNo, ev_sSeq, ev_bindS_ok, ev_bindS_stuck, ev_sExpr, ev_sRet, ev_sRetN, ev_sRetM, ev_sIf, ev_sSet, ev_sSetM, ev_sAsg, ev_sItem, ev_getP_sl, ev_getP_ih, ev_setP_sl, ev_setP_ih, ev_set, ev_sets_nil, ev_sets_cons, ev_tgN, ev_tgS_tup, ev_tgS_lst, ev_tgs_nil, ev_tgs_cons, ev_nNil, ev_nT, ev_nM, ev_sPar, ev_setFs_nil, ev_setFs_t, ev_setFs_n, ev_cPl, ev_cCallF, ev_mCallF, ev_fcDef, ev_fcDefM, ev_mRg1, ev_cRng1, ev_cIt, ev_sFor, ev_clear_nil, ev_clear_cons, ev_restore_nil, ev_restore_cons, List.set, List.getElem?_cons_succ, List.getElem?_cons_zero, Option.bind_some, Option.map_some, List.length_cons, List.length_nil, if_true, Bool.not_true, Bool.not_false, Bool.false_eq_true, if_false, reduceIte, decide_true, decide_false, Nat.reduceAdd, Nat.zero_add, List.getD_cons_succ, List.getD_cons_zero, enter, slots, conts, List.replicate, List.cons_append, List.nil_append, Nat.reduceSub, l, q0, q1, q2, q3, q4, q5, x0, x1, x2, x3, x4, cLoc, e]
  | [a, b, c, d, f, g], _ =>
    have l : bLen [.lst (iL [a, b, c, d, f, g])] = some (.int (6 : Nat)) := rfl
    have q0 : pEq (.int (6 : Nat)) (.int 0) = some (.bl false) := q 6 0
    have q1 : pEq (.int (6 : Nat)) (.int 1) = some (.bl false) := q 6 1
    have q2 : pEq (.int (6 : Nat)) (.int 2) = some (.bl false) := q 6 2
    have q3 : pEq (.int (6 : Nat)) (.int 3) = some (.bl false) := q 6 3
    have q4 : pEq (.int (6 : Nat)) (.int 4) = some (.bl false) := q 6 4
    have q5 : pEq (.int (6 : Nat)) (.int 5) = some (.bl false) := q 6 5
    have x0 : pIx (.lst (iL [a, b, c, d, f, g])) (.int 0) = some (.int a) := rfl
    have x1 : pIx (.lst (iL [a, b, c, d, f, g])) (.int 1) = some (.int b) := rfl
    have x2 : pIx (.lst (iL [a, b, c, d, f, g])) (.int 2) = some (.int c) := rfl
    have x3 : pIx (.lst (iL [a, b, c, d, f, g])) (.int 3) = some (.int d) := rfl
    have x4 : pIx (.lst (iL [a, b, c, d, f, g])) (.int 4) = some (.int f) := rfl
    have x5 : pIx (.lst (iL [a, b, c, d, f, g])) (.int 5) = some (.int g) := rfl
    simp only [iL, List.map_nil, List.map_cons, List.cons_append, List.nil_append] at e
    simp only [ev_bind_ok, ev_bind_stuck, ev_bind_exc, ev_cC, ev_ofO, ev_ofM, ev_cVar, ev_cMv, ev_mMv, ev_cUn, ev_cBin, ev_cNil, ev_cCons, ev_views_nil, ev_views_cons, ev_view_t, ev_view_sl, ev_view_ih, ev_pv_lst, ev_pv_obj, ev_pv_dct, ev_cList, ev_mList, ev_cTruth, ev_cAnd, ev_cOr, ev_cNot, ev_cAndV, ev_cOrV, ev_cNotV, ev_cIf, ev_cYes, ev_cChain, ev_cDisp, ev_mDisp, ev_trees_nil, ev_trees_cons, ev_cFrz, ev_sNil, ev_sNo, ev_sSeq, ev_bindS_ok, ev_bindS_stuck, ev_sExpr, ev_sRet, ev_sRetN, ev_sRetM, ev_sIf, ev_sSet, ev_sSetM, ev_sAsg, ev_sItem, ev_getP_sl, ev_getP_ih, ev_setP_sl, ev_setP_ih, ev_set, ev_sets_nil, ev_sets_cons, ev_tgN, ev_tgS_tup, ev_tgS_lst, ev_tgs_nil, ev_tgs_cons, ev_nNil, ev_nT, ev_nM, ev_sPar, ev_setFs_nil, ev_setFs_t, ev_setFs_n, ev_cPl, ev_cCallF, ev_mCallF, ev_fcDef, ev_fcDefM, ev_mRg1, ev_cRng1, ev_cIt, ev_sFor, ev_clear_nil, ev_clear_cons, ev_restore_nil, ev_restore_cons, List.set, List.getElem?_cons_succ, List.getElem?_cons_zero, Option.bind_some, Option.map_some, List.length_cons, List.length_nil, if_true, Bool.not_true, Bool.not_false, Bool.false_eq_true, if_false, reduceIte, decide_true, decide_false, Nat.reduceAdd, Nat.zero_add, List.getD_cons_succ, List.getD_cons_zero, enter, slots, conts, List.replicate, List.cons_append, List.nil_append, Nat.reduceSub, l, q0, q1, q2, q3, q4, q5, x0, x1, x2, x3, x4, x5, cLoc, e]
theorem run_with {m : Nat} {rs : List (List Int)} {ts ps : List Int} {tup : Bool} {v : PV} (h : IsPf m rs) (ht : IsTu rs.length m ts) (hp : ∀ p ∈ ps, 0 ≤ p ∧ p < (rs.length : Int)) (hd : ps.Nodup) (hv : okV v) (hl : ps.length ≤ 6) {st : Cl.ST} :
    cRun F_law_with_item st [.t (.fn 1), .t (profP rs), .t (sqP tup (iL ts)), .t v, .t (.lst (iL ps))] = .ok (.t (.bl (avoidV m ts ps v))) st := cRun5 (with_item_eq h ht hp hd hv hl)
theorem bnN_all {m : Nat} {ban : List Int} (hd : ban.Nodup) (hb : ∀ b ∈ ban, 0 ≤ b ∧ b < (m : Int)) : bnN (rg m) ban = ban.length := by
  unfold bnN
  refine List.Perm.length_eq ((List.perm_ext_iff_of_nodup (rg_nodup.sublist (List.filter_sublist ..)) hd).mpr fun i => ?_)
  rw [List.mem_filter, decide_eq_true_eq, mem_rg]
  exact ⟨fun z => z.2, fun z => ⟨hb i z, z⟩⟩
theorem avoid_ban {m : Nat} {ts ps ban : List Int} (hd : ban.Nodup) (hb : ∀ b ∈ ban, 0 ≤ b ∧ b < (m : Int)) : avoidL m ts ps (iL ban) = av ts ps (rg m) ban := by
  unfold avoidL av
  rw [leftL_ints hb, bnN_all hd hb, List.length_map, decide_eq_true hd, Bool.and_true]
  by_cases h : ban.length = 0
  · rw [decide_eq_true h, Bool.true_or, Bool.true_and]
  · rw [decide_eq_true (show 0 < ban.length by omega), Bool.or_true, Bool.true_and]
theorem repr_bl {b : Bool} : bRepr [.bl b] = some (.str (PyData.bool b).shown) := by cases b <;> rfl
theorem pNe_same {s : PySem.Str} : pNe (.str s) (.str s) = some (.bl false) := by
  show some (PV.bl (!decide (s = s))) = _
  rw [decide_eq_true rfl]; rfl
end K45
set_option Elab.async false
set_option linter.all false
set_option maxRecDepth 100000
set_option maxHeartbeats 4000000
namespace Std
open Cl PySem PySem.Spec PyProof.Rows L2
theorem run_pool {ns : List Int} {k : Nat} (hk : k < 1000) (hn : ns.length ≤ 63) {st : Cl.ST} : ∃ a b, cRunM F_law_pool st [.t (.scr ns), .t (.int k)] = .ok (pool a b) st := by
  obtain ⟨a, b, e⟩ := pool_eq ns k hk hn
  refine ⟨a, b, ?_⟩
  unfold cRunM
  show (if ([] : List PL).Nodup then cResM st [] (F_law_pool [.t (.scr ns), .t (.int k)]) else .stuck) = _
  rw [if_pos List.nodup_nil, e]
  show Out.ok (pool a b) (putBack st [] []) = _
  simp [putBack]
theorem pAdd_lst {xs ys : List PV} (h : szOk (xs.length + ys.length) = true) : pAdd (.lst xs) (.lst ys) = some (.lst (xs ++ ys)) := by
  show (if szOk (xs.length + ys.length) then some (PV.lst (xs ++ ys)) else none) = _
  rw [h]; rfl
theorem law_loop {I : Cl.ST → Prop} {g : PV → Sm} (turn : ∀ (k : Nat) (st : Cl.ST), k < 1000 → I st → ∃ st', g (.int k) st = .nx st' ∧ I st') : ∀ {n : Nat} {k : Nat} {st : Cl.ST}, k + n < 1000 → I st →
    ∃ st', forL g ((List.range' k n).map fun i => PV.int (i : Nat)) st = .nx st' ∧ I st'
  | 0, k, st, _, h => ⟨st, rfl, h⟩
  | n + 1, k, st, hk, h => by
    obtain ⟨st1, e, h1⟩ := turn k st (by omega) h
    obtain ⟨st2, e2, h2⟩ := law_loop turn (n := n) (k := k + 1) (st := st1) (by omega) h1
    refine ⟨st2, ?_, h2⟩
    rw [List.range'_succ, List.map_cons]
    unfold forL
    rw [e]
    exact e2
theorem rg_range' {n : Nat} : iL (rg n) = (List.range' 0 n).map fun i => PV.int (i : Nat) := by
  rw [iL, rg, List.map_map, List.range_eq_range']; rfl
theorem head_n {lo hi n : Nat} : ∃ q : Nat, (bMin [.int (hi : Nat), .int (n : Nat)]).bind (fun w => bMax [.int (lo : Nat), w]) = some (.int q) ∧ q ≤ lo + hi ∧ lo ≤ q := by
  have e1 : bMin [.int (hi : Nat), .int (n : Nat)] = some (.int ((if n < hi then n else hi : Nat) : Int)) := by
    show some (PV.int (if (n : Int) < hi then (n : Int) else hi)) = _
    congr 2
    by_cases h : n < hi
    · rw [if_pos h, if_pos (by omega)]
    · rw [if_neg h, if_neg (by omega)]
  have e2 : ∀ w : Nat, bMax [.int (lo : Nat), .int (w : Nat)] = some (.int ((if lo < w then w else lo : Nat) : Int)) := fun w => by
    show some (PV.int (if (w : Int) > lo then (w : Int) else lo)) = _
    congr 2
    by_cases h : lo < w
    · rw [if_pos h, if_pos (by omega)]
    · rw [if_neg h, if_neg (by omega)]
  rw [e1, Option.bind_some, e2]
  refine ⟨_, rfl, ?_, ?_⟩
  · split <;> split <;> omega
  · split <;> split <;> omega
end Std
set_option Elab.async false
set_option linter.all false
set_option maxRecDepth 100000
set_option maxHeartbeats 4000000
namespace K45
open Std Cl PySem PySem.Spec PyProof.Rows L2
abbrev sT (scr k : Option SL) (a b : Int) (cnt size : PV) (ts : List Int) (rs : List (List Int)) (ps : List Int) (m : Nat) (l9 l10 l11 l12 l13 l14 l15 l16 l17 : Option SL) : Cl.ST :=
  ⟨[scr, k, some (.m (pool a b)), some (.t cnt), some (.t size), some (.t (.lst (iL ts))), some (.t (profP rs)), some (.t (.lst (iL ps))), some (.t (.lst (iL (rg m)))), l9, l10, l11, l12, l13, l14, l15, l16, l17], []⟩
structure Fine (m : Nat) (rs : List (List Int)) (ts ps : List Int) : Prop where
  pf : IsPf m rs
  tu : IsTu rs.length m ts
  pl : ∀ p ∈ ps, 0 ≤ p ∧ p < (rs.length : Int)
  nd : ps.Nodup
  le : ps.length ≤ 6
theorem okV_ints {ns : List Int} {tup : Bool} (h : ns.length ≤ 1000) : okV (sqP tup (iL ns)) := .inr ⟨tup, iL ns, rfl, isP_ints, by rw [List.length_map]; exact h⟩
theorem turn0 {m : Nat} {rs : List (List Int)} {ts ps : List Int} (z : Fine m rs ts ps) {ban : List Int} (hd : ban.Nodup) (hb : ∀ b ∈ ban, 0 ≤ b ∧ b < (m : Int)) (hl : ban.length ≤ 1000) {scr k l9 l15 l16 l17 : Option SL} {a b : Int} {cnt size : PV} {tup : Bool} {x y : Option SL} :
    forB (tgS [tgN 13, tgN 14]) p_law_0 (.tup [sqP tup (iL ban), sqP tup (iL ts)]) (sT scr k a b cnt size ts rs ps m l9 (some (.t (.lst (iL ban)))) (some (.t (.lst (iL ban)))) (some (.t (.str (PyData.bool (av ts ps (rg m) ban)).shown))) x y l15 l16 l17) =
      .nx (sT scr k a b cnt size ts rs ps m l9 (some (.t (.lst (iL ban)))) (some (.t (.lst (iL ban)))) (some (.t (.str (PyData.bool (av ts ps (rg m) ban)).shown))) (some (.t (sqP tup (iL ban)))) (some (.t (sqP tup (iL ts)))) l15 l16 l17) := by
  have e1 := fun st => run_with (st := st) (tup := tup) z.pf z.tu z.pl z.nd (okV_ints (tup := tup) hl) z.le
  have e2 : avoidV m ts ps (sqP tup (iL ban)) = av ts ps (rg m) ban := by
    rw [← avoid_ban hd hb]
    cases tup <;> rfl
  rw [e2] at e1
  have e3 := repr_bl (b := av ts ps (rg m) ban)
  have e4 := pNe_same (s := (PyData.bool (av ts ps (rg m) ban)).shown)
  have e5 : pNe (.lst (iL ban)) (.lst (iL ban)) = some (.bl false) := by rw [pNe_ints, decide_eq_true rfl]; rfl
  simp only [ev_bind_ok, ev_bind_stuck, ev_bind_exc, ev_cC, ev_ofO, ev_ofM, ev_cVar, ev_cMv, ev_mMv, ev_cUn, ev_cBin, ev_cNil, ev_cCons, ev_views_nil, ev_views_cons, ev_view_t, ev_view_sl, ev_view_ih, ev_pv_lst, ev_pv_obj, ev_pv_dct, ev_cList, ev_mList, ev_cTruth, ev_cAnd, ev_cOr, ev_cNot, ev_cAndV, ev_cOrV, ev_cNotV, ev_cIf, ev_cYes, ev_cChain, ev_cDisp, ev_mDisp, ev_trees_nil, ev_trees_cons, ev_cFrz, ev_sNil, ev_sNo, ev_sSeq, ev_bindS_ok, ev_bindS_stuck, ev_sExpr, ev_sRet, ev_sRetN, ev_sRetM, ev_sIf, ev_sSet, ev_sSetM, ev_sAsg, ev_sItem, ev_getP_sl, ev_getP_ih, ev_setP_sl, ev_setP_ih, ev_set, ev_sets_nil, ev_sets_cons, ev_tgN, ev_tgS_tup, ev_tgS_lst, ev_tgs_nil, ev_tgs_cons, ev_nNil, ev_nT, ev_nM, ev_sPar, ev_setFs_nil, ev_setFs_t, ev_setFs_n, ev_cPl, ev_cCallF, ev_mCallF, ev_fcDef, ev_fcDefM, ev_mRg1, ev_cRng1, ev_cIt, ev_sFor, ev_clear_nil, ev_clear_cons, ev_restore_nil, ev_restore_cons, List.set, List.getElem?_cons_succ, List.getElem?_cons_zero, Option.bind_some, Option.map_some, List.length_cons, List.length_nil, if_true, Bool.not_true, Bool.not_false, Bool.false_eq_true, if_false, reduceIte, decide_true, decide_false, Nat.reduceAdd, Nat.zero_add, List.getD_cons_succ, List.getD_cons_zero, forB, p_law_0, List.cons_append, List.nil_append, pick5, e1, e3, e4, e5]
theorem turn1 {m : Nat} {rs : List (List Int)} {ts ps : List Int} (z : Fine m rs ts ps) {scr k l9 l10 l11 l12 l13 l14 l15 l16 l17 : Option SL} {a b : Int} {cnt : PV} {p : PV} (hm8 : m ≤ 8) :
    ∃ a' b' l10' l11' l12' l13' l14', forB (tgN 9) p_law_1 p (sT scr k a b cnt (.int m) ts rs ps m l9 l10 l11 l12 l13 l14 l15 l16 l17) = .nx (sT scr k a' b' cnt (.int m) ts rs ps m (some (.t p)) l10' l11' l12' (some (.t l13')) l14' l15 l16 l17) := by
  have hm := z.pf.mle
  obtain ⟨f, a1, b1, hf, ef⟩ := run_shuffle (st := sT scr k a b cnt (.int m) ts rs ps m (some (.t p)) l10 l11 l12 l13 l14 l15 l16 l17) (q := .sl 2) (ns := rg m) (a := a) (b := b) rfl (by rw [rg_length]; omega)
  obtain ⟨t, a2, b2, t0, t1, et⟩ := run_take (st := sT scr k a1 b1 cnt (.int m) ts rs ps m (some (.t p)) l10 l11 l12 l13 l14 l15 l16 l17) (q := .sl 2) (a := a1) (b := b1) (n := (m : Int) + 1) rfl (by omega) (by omega)
  have hfl : f.length = m := by rw [hf.length_eq, rg_length]
  have hd : (f.take t.toNat).Nodup := (hf.nodup_iff.mpr rg_nodup).sublist (List.take_sublist _ _)
  have hb : ∀ b ∈ f.take t.toNat, 0 ≤ b ∧ b < (m : Int) := fun b h => mem_rg.mp (hf.mem_iff.mp (List.mem_of_mem_take h))
  have hl : (f.take t.toNat).length ≤ 1000 := by rw [List.length_take]; omega
  have es : cut (iL f) none (some t) = iL (f.take t.toNat) := by rw [cut_to t0, iL, iL, List.map_take]
  have h1 : ts.length + 1 = (rg m).length := by rw [rg_length]; exact z.tu.1
  have e1 : ∀ st, cRun (F_law_avoids 8) st [.t (.lst (iL ts)), .t (.lst (iL ps)), .t (.lst (iL (rg m))), .t (.lst (iL (f.take t.toNat)))] = .ok (.t (.bl (av ts ps (rg m) (f.take t.toNat)))) st := fun st =>
    cRun4 (avoids_eq 8 ts ps (rg m) (f.take t.toNat) (by rw [rg_length]; exact hm8) (by omega) rg_nodup h1)
  have e2 := repr_bl (b := av ts ps (rg m) (f.take t.toNat))
  have hz2 : szOk 2 = true := by decide
  have st1 := turn0 z hd hb hl (scr := scr) (k := k) (l9 := some (.t p)) (l15 := l15) (l16 := l16) (l17 := l17) (a := a2) (b := b2) (cnt := cnt) (size := .int m) (tup := false) (x := l13) (y := l14)
  have st2 := turn0 z hd hb hl (scr := scr) (k := k) (l9 := some (.t p)) (l15 := l15) (l16 := l16) (l17 := l17) (a := a2) (b := b2) (cnt := cnt) (size := .int m) (tup := true) (x := some (.t (sqP false (iL (f.take t.toNat))))) (y := some (.t (sqP false (iL ts))))
  have lp : forL (forB (tgS [tgN 13, tgN 14]) p_law_0) [.tup [.lst (iL (f.take t.toNat)), .lst (iL ts)], .tup [.tup (iL (f.take t.toNat)), .tup (iL ts)]] (sT scr k a2 b2 cnt (.int m) ts rs ps m (some (.t p)) (some (.t (.lst (iL (f.take t.toNat))))) (some (.t (.lst (iL (f.take t.toNat))))) (some (.t (.str (PyData.bool (av ts ps (rg m) (f.take t.toNat))).shown))) l13 l14 l15 l16 l17) =
      .nx (sT scr k a2 b2 cnt (.int m) ts rs ps m (some (.t p)) (some (.t (.lst (iL (f.take t.toNat))))) (some (.t (.lst (iL (f.take t.toNat))))) (some (.t (.str (PyData.bool (av ts ps (rg m) (f.take t.toNat))).shown))) (some (.t (sqP true (iL (f.take t.toNat))))) (some (.t (sqP true (iL ts)))) l15 l16 l17) := by
    unfold forL
    rw [show PV.tup [.lst (iL (f.take t.toNat)), .lst (iL ts)] = .tup [sqP false (iL (f.take t.toNat)), sqP false (iL ts)] from rfl, st1]
    show forL _ _ _ = _
    unfold forL
    rw [show PV.tup [.tup (iL (f.take t.toNat)), .tup (iL ts)] = .tup [sqP true (iL (f.take t.toNat)), sqP true (iL ts)] from rfl, st2]
    rfl
  refine ⟨a2, b2, some (.t (.lst (iL (f.take t.toNat)))), some (.t (.lst (iL (f.take t.toNat)))), some (.t (.str (PyData.bool (av ts ps (rg m) (f.take t.toNat))).shown)), sqP true (iL (f.take t.toNat)), some (.t (sqP true (iL ts))), ?_⟩
  unfold sT at ef et lp
  simp only [ev_bind_ok, ev_bind_stuck, ev_bind_exc, ev_cC, ev_ofO, ev_ofM, ev_cVar, ev_cMv, ev_mMv, ev_cUn, ev_cBin, ev_cNil, ev_cCons, ev_views_nil, ev_views_cons, ev_view_t, ev_view_sl, ev_view_ih, ev_pv_lst, ev_pv_obj, ev_pv_dct, ev_cList, ev_mList, ev_cTruth, ev_cAnd, ev_cOr, ev_cNot, ev_cAndV, ev_cOrV, ev_cNotV, ev_cIf, ev_cYes, ev_cChain, ev_cDisp, ev_mDisp, ev_trees_nil, ev_trees_cons, ev_cFrz, ev_sNil, ev_sNo, ev_sSeq, ev_bindS_ok, ev_bindS_stuck, ev_sExpr, ev_sRet, ev_sRetN, ev_sRetM, ev_sIf, ev_sSet, ev_sSetM, ev_sAsg, ev_sItem, ev_getP_sl, ev_getP_ih, ev_setP_sl, ev_setP_ih, ev_set, ev_sets_nil, ev_sets_cons, ev_tgN, ev_tgS_tup, ev_tgS_lst, ev_tgs_nil, ev_tgs_cons, ev_nNil, ev_nT, ev_nM, ev_sPar, ev_setFs_nil, ev_setFs_t, ev_setFs_n, ev_cPl, ev_cCallF, ev_mCallF, ev_fcDef, ev_fcDefM, ev_mRg1, ev_cRng1, ev_cIt, ev_sFor, ev_clear_nil, ev_clear_cons, ev_restore_nil, ev_restore_cons, List.set, List.getElem?_cons_succ, List.getElem?_cons_zero, Option.bind_some, Option.map_some, List.length_cons, List.length_nil, if_true, Bool.not_true, Bool.not_false, Bool.false_eq_true, if_false, reduceIte, decide_true, decide_false, Nat.reduceAdd, Nat.zero_add, List.getD_cons_succ, List.getD_cons_zero, forB, p_law_1, sT, pick2, pick4, ef, cSl, cNoPart, cPart, pAdd, et, pSl, es, bList, e1, e2, bTuple, hz2, lp]
theorem loop1 {m : Nat} {rs : List (List Int)} {ts ps : List Int} (z : Fine m rs ts ps) {scr k l15 l16 l17 : Option SL} {cnt : PV} (hm8 : m ≤ 8) : ∀ {is : List PV} {p : PV} {l9 l10 l11 l12 l13 l14 : Option SL} {a b : Int},
    ∃ a' b' l9' l10' l11' l12' l13' l14', forL (forB (tgN 9) p_law_1) (p :: is) (sT scr k a b cnt (.int m) ts rs ps m l9 l10 l11 l12 l13 l14 l15 l16 l17) = .nx (sT scr k a' b' cnt (.int m) ts rs ps m l9' l10' l11' l12' (some (.t l13')) l14' l15 l16 l17)
  | [], p, l9, l10, l11, l12, l13, l14, a, b => by
    obtain ⟨a1, b1, x10, x11, x12, x13, x14, e⟩ := turn1 z (scr := scr) (k := k) (l9 := l9) (l10 := l10) (l11 := l11) (l12 := l12) (l13 := l13) (l14 := l14) (l15 := l15) (l16 := l16) (l17 := l17) (a := a) (b := b) (cnt := cnt) (p := p) hm8
    refine ⟨a1, b1, some (.t p), x10, x11, x12, x13, x14, ?_⟩
    unfold forL
    rw [e]; rfl
  | p2 :: is, p, l9, l10, l11, l12, l13, l14, a, b => by
    obtain ⟨a1, b1, x10, x11, x12, x13, x14, e⟩ := turn1 z (scr := scr) (k := k) (l9 := l9) (l10 := l10) (l11 := l11) (l12 := l12) (l13 := l13) (l14 := l14) (l15 := l15) (l16 := l16) (l17 := l17) (a := a) (b := b) (cnt := cnt) (p := p) hm8
    obtain ⟨a2, b2, y9, y10, y11, y12, y13, y14, e2⟩ := loop1 z (scr := scr) (k := k) (l15 := l15) (l16 := l16) (l17 := l17) (cnt := cnt) hm8 (is := is) (p := p2) (l9 := some (.t p)) (l10 := x10) (l11 := x11) (l12 := x12) (l13 := some (.t x13)) (l14 := x14) (a := a1) (b := b1)
    refine ⟨a2, b2, y9, y10, y11, y12, y13, y14, ?_⟩
    unfold forL
    rw [e]
    exact e2
theorem bad_loop {m : Nat} {rs : List (List Int)} {ts ps : List Int} (z : Fine m rs ts ps) {scr k p2 p3 p4 p7 p8 p9 p10 p11 p12 p13 p14 p15 : Option SL} : ∀ {vs : List PV} {x : Option SL}, (∀ v ∈ vs, okV v ∧ avoidV m ts ps v = false) →
    ∃ x', forL (forB (tgN 17) p_law_3) vs ⟨[scr, k, p2, p3, p4, some (.t (.lst (iL ts))), some (.t (profP rs)), p7, p8, p9, p10, p11, p12, p13, p14, p15, some (.t (.lst (iL ps))), x], []⟩ =
      .nx ⟨[scr, k, p2, p3, p4, some (.t (.lst (iL ts))), some (.t (profP rs)), p7, p8, p9, p10, p11, p12, p13, p14, p15, some (.t (.lst (iL ps))), x'], []⟩
  | [], x, _ => ⟨x, rfl⟩
  | v :: vs, x, h => by
    obtain ⟨x', e⟩ := bad_loop z (scr := scr) (k := k) (p2 := p2) (p3 := p3) (p4 := p4) (p7 := p7) (p8 := p8) (p9 := p9) (p10 := p10) (p11 := p11) (p12 := p12) (p13 := p13) (p14 := p14) (p15 := p15) (vs := vs) (x := some (.t v)) fun w hw => h w (List.mem_cons_of_mem _ hw)
    obtain ⟨h1, h2⟩ := h v (List.mem_cons_self ..)
    have e1 := fun st => run_with (st := st) (tup := false) z.pf z.tu z.pl z.nd h1 z.le
    rw [h2] at e1
    have e2 : pNotB (.bl false) (.bl false) = some (.bl false) := rfl
    have e1' : ∀ st, cRun F_law_with_item st [.t (.fn 1), .t (profP rs), .t (.lst (iL ts)), .t v, .t (.lst (iL ps))] = .ok (.t (.bl false)) st := e1
    refine ⟨x', ?_⟩
    unfold forL
    have step : forB (tgN 17) p_law_3 v ⟨[scr, k, p2, p3, p4, some (.t (.lst (iL ts))), some (.t (profP rs)), p7, p8, p9, p10, p11, p12, p13, p14, p15, some (.t (.lst (iL ps))), x], []⟩ = .nx ⟨[scr, k, p2, p3, p4, some (.t (.lst (iL ts))), some (.t (profP rs)), p7, p8, p9, p10, p11, p12, p13, p14, p15, some (.t (.lst (iL ps))), some (.t v)], []⟩ := by
      simp only [ev_bind_ok, ev_bind_stuck, ev_bind_exc, ev_cC, ev_ofO, ev_ofM, ev_cVar, ev_cMv, ev_mMv, ev_cUn, ev_cBin, ev_cNil, ev_cCons, ev_views_nil, ev_views_cons, ev_view_t, ev_view_sl, ev_view_ih, ev_pv_lst, ev_pv_obj, ev_pv_dct, ev_cList, ev_mList, ev_cTruth, ev_cAnd, ev_cOr, ev_cNot, ev_cAndV, ev_cOrV, ev_cNotV, ev_cIf, ev_cYes, ev_cChain, ev_cDisp, ev_mDisp, ev_trees_nil, ev_trees_cons, ev_cFrz, ev_sNil, ev_sNo, ev_sSeq, ev_bindS_ok, ev_bindS_stuck, ev_sExpr, ev_sRet, ev_sRetN, ev_sRetM, ev_sIf, ev_sSet, ev_sSetM, ev_sAsg, ev_sItem, ev_getP_sl, ev_getP_ih, ev_setP_sl, ev_setP_ih, ev_set, ev_sets_nil, ev_sets_cons, ev_tgN, ev_tgS_tup, ev_tgS_lst, ev_tgs_nil, ev_tgs_cons, ev_nNil, ev_nT, ev_nM, ev_sPar, ev_setFs_nil, ev_setFs_t, ev_setFs_n, ev_cPl, ev_cCallF, ev_mCallF, ev_fcDef, ev_fcDefM, ev_mRg1, ev_cRng1, ev_cIt, ev_sFor, ev_clear_nil, ev_clear_cons, ev_restore_nil, ev_restore_cons, List.set, List.getElem?_cons_succ, List.getElem?_cons_zero, Option.bind_some, Option.map_some, List.length_cons, List.length_nil, if_true, Bool.not_true, Bool.not_false, Bool.false_eq_true, if_false, reduceIte, decide_true, decide_false, Nat.reduceAdd, Nat.zero_add, List.getD_cons_succ, List.getD_cons_zero, forB, p_law_3, pick5, e1', e2]
    rw [step]
    exact e
theorem okV_lst {qs : List PV} (h : qs.all isP = true) (h2 : qs.length ≤ 1000) : okV (.lst qs) := .inr ⟨false, qs, rfl, h, h2⟩
theorem okV_tup {qs : List PV} (h : qs.all isP = true) (h2 : qs.length ≤ 1000) : okV (.tup qs) := .inr ⟨true, qs, rfl, h, h2⟩
theorem avoidL_no {m : Nat} {ts ps : List Int} {qs : List PV} (h0 : qs.length ≠ 0) (h : leftL m qs = false) : avoidL m ts ps qs = false := by
  unfold avoidL
  rw [h, decide_eq_false h0]; rfl
theorem leftL_bad {m : Nat} {qs : List PV} (h : qs.all (ofIx (m : Nat)) = false) : leftL m qs = false := by
  unfold leftL
  rw [h]; simp
def badVs (m : Nat) : List PV := [.non, .int 5, .str "", .str "0", .dct [], .lst [.int m], .lst [.int (-1)], .lst [.bl true], .lst [.non], .lst [.int 0, .int 0], .tup [.tup [.int 0]], .lst [.str "0"], .lst [.lst [.int 0]], .bl true, .dct [(.int 0, .int 0)], .lst [.int 0, .non], .lst [.str "0", .int 0], .tup [.int 0, .str "1"]]
theorem badVs_ok {m : Nat} {ts ps : List Int} : ∀ v ∈ badVs m, okV v ∧ avoidV m ts ps v = false := by
  have one : ∀ p : PV, isP p = true → ofIx (m : Nat) p = false → okV (.lst [p]) ∧ avoidV m ts ps (.lst [p]) = false := fun p h1 h2 =>
    ⟨okV_lst (by simp [h1]) (by simp), avoidL_no (by simp) (leftL_bad (by simp [h2]))⟩
  unfold badVs
  simp only [List.forall_mem_cons]
  refine ⟨⟨.inl ⟨rfl, rfl⟩, rfl⟩, ⟨.inl ⟨rfl, rfl⟩, rfl⟩, ⟨.inl ⟨rfl, rfl⟩, rfl⟩, ⟨.inl ⟨rfl, rfl⟩, rfl⟩, ⟨.inl ⟨rfl, rfl⟩, rfl⟩, one _ rfl ?_, one _ rfl ?_, one _ rfl rfl, one _ rfl rfl, ⟨okV_lst rfl (by simp), avoidL_no (by simp) ?_⟩, ⟨okV_tup rfl (by simp), avoidL_no (by simp) (leftL_bad (by simp [ofIx]))⟩,
    one _ rfl rfl, one _ rfl rfl, ⟨.inl ⟨rfl, rfl⟩, rfl⟩, ⟨.inl ⟨rfl, rfl⟩, rfl⟩, ⟨okV_lst rfl (by simp), avoidL_no (by simp) (leftL_bad (by simp [ofIx]))⟩, ⟨okV_lst rfl (by simp), avoidL_no (by simp) (leftL_bad (by simp [ofIx]))⟩, ⟨okV_tup rfl (by simp), avoidL_no (by simp) (leftL_bad (by simp [ofIx]))⟩, fun v h => nomatch h⟩
  · show decide (0 ≤ (m : Int) ∧ (m : Int) < (m : Nat)) = false
    exact decide_eq_false (by omega)
  · show decide (0 ≤ (-1 : Int) ∧ (-1 : Int) < (m : Nat)) = false
    exact decide_eq_false (by omega)
  · unfold leftL
    have : intsP [.int 0, .int 0] = some [0, 0] := rfl
    rw [this]
    simp
def LawI (ns : List Int) (st : Cl.ST) : Prop := ∃ l : List (Option SL), st = ⟨some (.t (.scr ns)) :: l, []⟩ ∧ l.length = 17
theorem turn {ns : List Int} (hn : ns.length ≤ 63) {k : Nat} (hk : k < 1000) {st : Cl.ST} (h : LawI ns st) : ∃ st', forB (tgN 1) p_law_4 (.int k) st = .nx st' ∧ LawI ns st' := by
  obtain ⟨l, rfl, hl⟩ := h
  match l, hl with
  | [l1, l2, l3, l4, l5, l6, l7, l8, l9, l10, l11, l12, l13, l14, l15, l16, l17], _ =>
  obtain ⟨a0, b0, e0⟩ := run_pool hk hn (st := ⟨[some (.t (.scr ns)), some (.t (.int k)), l2, l3, l4, l5, l6, l7, l8, l9, l10, l11, l12, l13, l14, l15, l16, l17], []⟩)
  obtain ⟨c, a1, b1, c0, c1, ec⟩ := run_take (st := ⟨[some (.t (.scr ns)), some (.t (.int k)), some (.m (pool a0 b0)), l3, l4, l5, l6, l7, l8, l9, l10, l11, l12, l13, l14, l15, l16, l17], []⟩) (q := .sl 2) (a := a0) (b := b0) (n := 4) rfl (by omega) (by omega)
  obtain ⟨s, a2, b2, s0, s1, es⟩ := run_take (st := ⟨[some (.t (.scr ns)), some (.t (.int k)), some (.m (pool a1 b1)), l3, l4, l5, l6, l7, l8, l9, l10, l11, l12, l13, l14, l15, l16, l17], []⟩) (q := .sl 2) (a := a1) (b := b1) (n := 5) rfl (by omega) (by omega)
  obtain ⟨cnt, hcnt⟩ : ∃ cnt : Nat, 1 + c = cnt := ⟨(1 + c).toNat, by omega⟩
  obtain ⟨m, hm⟩ : ∃ m : Nat, 1 + s = m := ⟨(1 + s).toNat, by omega⟩
  obtain ⟨ts, a3, b3, ht, ht2, et⟩ := run_turns (st := ⟨[some (.t (.scr ns)), some (.t (.int k)), some (.m (pool a2 b2)), some (.t (.int cnt)), some (.t (.int m)), l5, l6, l7, l8, l9, l10, l11, l12, l13, l14, l15, l16, l17], []⟩) (q := .sl 2) (a := a2) (b := b2) (count := cnt) (size := m) rfl (by omega) (by omega) (by omega) (by omega)
  obtain ⟨rs, a4, b4, hr, hr2, er⟩ := run_rankings (st := ⟨[some (.t (.scr ns)), some (.t (.int k)), some (.m (pool a3 b3)), some (.t (.int cnt)), some (.t (.int m)), l5, l6, l7, l8, l9, l10, l11, l12, l13, l14, l15, l16, l17], []⟩) (q := .sl 2) (a := a3) (b := b3) (count := cnt) (size := m) rfl (by omega) (by omega) (by omega)
  have pf : IsPf m rs := ⟨hr2, by omega, by omega, by omega, by omega⟩
  have eb := fun st => run_built pf (st := st)
  obtain ⟨ps, a5, b5, hp1, hp2, hp3, ep⟩ := run_players (st := ⟨[some (.t (.scr ns)), some (.t (.int k)), some (.m (pool a4 b4)), some (.t (.int cnt)), some (.t (.int m)), some (.t (.lst (iL ts))), some (.t (profP rs)), l7, l8, l9, l10, l11, l12, l13, l14, l15, l16, l17], []⟩) (q := .sl 2) (a := a4) (b := b4) (count := cnt) rfl (by omega)
  have tu : IsTu rs.length m ts := ⟨by omega, fun t h => by have := ht2 t h; omega⟩
  have z : Fine m rs ts ps := ⟨pf, tu, fun p h => by have := hp2 p h; omega, hp1, by omega⟩
  have hsz : decide (m ≤ 16777216) = true := decide_eq_true (by omega)
  have hsm : smallI (m : Int) = true := by simp [smallI]; omega
  have htn : ((m : Int)).toNat = m := by omega
  have hsz' : decide (cnt ≤ 16777216) = true := decide_eq_true (by omega)
  have hsm' : smallI (cnt : Int) = true := by simp [smallI]; omega
  have htn' : ((cnt : Int)).toNat = cnt := by omega
  have hz2 : szOk 2 = true := by decide
  have hz0 : szOk 0 = true := by decide
  have hz1 : szOk 1 = true := by decide
  have hs6 : smallI 6 = true := by decide
  obtain ⟨a6, b6, y9, y10, y11, y12, y13, y14, e6⟩ := loop1 z (scr := some (.t (.scr ns))) (k := some (.t (.int k))) (l15 := l15) (l16 := l16) (l17 := l17) (cnt := .int cnt) (by omega) (is := iL [1, 2, 3, 4, 5]) (p := .int 0) (l9 := l9) (l10 := l10) (l11 := l11) (l12 := l12) (l13 := l13) (l14 := l14) (a := a5) (b := b5)
  unfold sT at e6
  have e6' : forL (forB (tgN 9) p_law_1) (iL (rg (Int.toNat 6))) _ = _ := e6
  -- the empty list and all alternatives
  have v0 : avoidV m ts ps (.lst []) = true := by
    show avoidL m ts ps [] = true
    unfold avoidL
    simp
  have v1 : avoidV m ts ps (.lst (iL (rg m))) = false := by
    show avoidL m ts ps (iL (rg m)) = false
    rw [avoid_ban rg_nodup fun b h => mem_rg.mp h]
    unfold av
    rw [bnN_all rg_nodup fun b h => mem_rg.mp h, rg_length]
    have := mineN_le (ts := ts) (sm := ps)
    exact decide_eq_false (by omega)
  have w0 := fun st => run_with (st := st) (tup := false) pf tu z.pl z.nd (okV_lst (qs := []) rfl (by simp)) z.le
  have w1 := fun st => run_with (st := st) (tup := false) pf tu z.pl z.nd (okV_lst (qs := iL (rg m)) isP_ints (by rw [List.length_map, rg_length]; omega)) z.le
  rw [v0] at w0
  rw [v1] at w1
  have w0' : ∀ st, cRun F_law_with_item st [.t (.fn 1), .t (profP rs), .t (.lst (iL ts)), .t (.lst []), .t (.lst (iL ps))] = .ok (.t (.bl true)) st := w0
  have w1' : ∀ st, cRun F_law_with_item st [.t (.fn 1), .t (profP rs), .t (.lst (iL ts)), .t (.lst (iL (rg m))), .t (.lst (iL ps))] = .ok (.t (.bl false)) st := w1
  have x0 : pIx (.lst [.bl true, .bl false]) (.int 0) = some (.bl true) := rfl
  have x1 : pIx (.lst [.bl true, .bl false]) (.int 1) = some (.bl false) := rfl
  have n0 : pNotB (.bl true) (.bl true) = some (.bl false) := rfl
  have n1 : pNotB (.bl false) (.bl false) = some (.bl false) := rfl
  -- bad values
  have z2 : Fine m rs ts (rg cnt) := ⟨pf, tu, fun p h => by have := mem_rg.mp h; omega, rg_nodup, by rw [rg_length]; omega⟩
  have hz15 : szOk 15 = true := by decide
  have hz3 : szOk 3 = true := by decide
  have hng : pNeg (.int 1) = some (.int (-1)) := rfl
  have hbad : pAdd (.lst [.non, .int 5, .str "", .str "0", .dct [], .lst [.int m], .lst [.int (-1)], .lst [.bl true], .lst [.non], .lst [.int 0, .int 0], .tup [.tup [.int 0]], .lst [.str "0"], .lst [.lst [.int 0]], .bl true, .dct [(.int 0, .int 0)]]) (.lst [.lst [.int 0, .non], .lst [.str "0", .int 0], .tup [.int 0, .str "1"]]) = some (.lst (badVs m)) := pAdd_lst rfl
  obtain ⟨x', e7⟩ := bad_loop z2 (scr := some (.t (.scr ns))) (k := some (.t (.int k))) (p2 := some (.m (pool a6 b6))) (p3 := some (.t (.int cnt))) (p4 := some (.t (.int m))) (p7 := some (.t (.lst [.non, .int 5, .str "", .str "0", .dct [], .lst [.int m], .lst [.int (-1)], .lst [.bl true], .lst [.non], .lst [.int 0, .int 0], .tup [.tup [.int 0]], .lst [.str "0"], .lst [.lst [.int 0]], .bl true, .dct [(.int 0, .int 0)]]))) (p8 := some (.t (.lst (iL (rg m))))) (p9 := y9) (p10 := y10) (p11 := y11) (p12 := y12) (p13 := some (.t y13)) (p14 := y14) (p15 := some (.t (.lst [.bl true, .bl false]))) (vs := badVs m) (x := l17) badVs_ok
  unfold badVs at e7
  have hz18 : szOk 18 = true := by decide
  have rgs : rngL 0 1 m = iL (rg m) := rngL_rg
  have dct1 : mDct [(cC (.int 0), cC (.int 0))] = fun st => .ok (.dct [(.int 0, .int 0)]) st := rfl
  have hmDct0 : ∀ st, mDct0 st = .ok (.dct []) st := fun _ => rfl
  refine ⟨⟨[some (.t (.scr ns)), some (.t (.int k)), some (.m (pool a6 b6)), some (.t (.int cnt)), some (.t (.int m)), some (.t (.lst (iL ts))), some (.t (profP rs)), some (.t (.lst [.non, .int 5, .str "", .str "0", .dct [], .lst [.int m], .lst [.int (-1)], .lst [.bl true], .lst [.non], .lst [.int 0, .int 0], .tup [.tup [.int 0]], .lst [.str "0"], .lst [.lst [.int 0]], .bl true, .dct [(.int 0, .int 0)]])), some (.t (.lst (iL (rg m)))), y9, y10, y11, y12, some (.t y13), y14, some (.t (.lst [.bl true, .bl false])), some (.t (.lst (iL (rg cnt)))), x'], []⟩, ?_, _, rfl, rfl⟩
  · simp only [ev_bind_ok, ev_bind_stuck, ev_bind_exc, ev_cC, ev_ofO, ev_ofM, ev_cVar, ev_cMv, ev_mMv, ev_cUn, ev_cBin, ev_cNil, ev_cCons, ev_views_nil, ev_views_cons, ev_view_t, ev_view_sl, ev_view_ih, ev_pv_lst, ev_pv_obj, ev_pv_dct, ev_cList, ev_mList, ev_cTruth, ev_cAnd, ev_cOr, ev_cNot, ev_cAndV, ev_cOrV, ev_cNotV, ev_cIf, ev_cYes, ev_cChain, ev_cDisp, ev_mDisp, ev_trees_nil, ev_trees_cons, ev_cFrz, ev_sNil, ev_sNo, ev_sSeq, ev_bindS_ok, ev_bindS_stuck, ev_sExpr, ev_sRet, ev_sRetN, ev_sRetM, ev_sIf, ev_sSet, ev_sSetM, ev_sAsg, ev_sItem, ev_getP_sl, ev_getP_ih, ev_setP_sl, ev_setP_ih, ev_set, ev_sets_nil, ev_sets_cons, ev_tgN, ev_tgS_tup, ev_tgS_lst, ev_tgs_nil, ev_tgs_cons, ev_nNil, ev_nT, ev_nM, ev_sPar, ev_setFs_nil, ev_setFs_t, ev_setFs_n, ev_cPl, ev_cCallF, ev_mCallF, ev_fcDef, ev_fcDefM, ev_mRg1, ev_cRng1, ev_cIt, ev_sFor, ev_clear_nil, ev_clear_cons, ev_restore_nil, ev_restore_cons, List.set, List.getElem?_cons_succ, List.getElem?_cons_zero, Option.bind_some, Option.map_some, List.length_cons, List.length_nil, if_true, Bool.not_true, Bool.not_false, Bool.false_eq_true, if_false, reduceIte, decide_true, decide_false, Nat.reduceAdd, Nat.zero_add, List.getD_cons_succ, List.getD_cons_zero, ev_mLc, forB, p_law_4, lcL, c_law_2_t, c_law_2_e, plainAt, List.all_cons, List.all_nil, Bool.and_self, pick1, pick2, pick3, pick5, List.cons_append, List.nil_append, e0, pAdd, ec, es, hcnt, hm, et, er, eb, ep, hsz, hsm, htn, hsz', hsm', htn', hz2, hz0, hz1, rngL_rg, hs6, e6', w0', w1', x0, x1, n0, n1, hz15, hz3, hng, dct1, hmDct0, hz18, e7]
theorem plain (ns : List Int) (hn : ns.length ≤ 63) : ∃ out, F_law [.t (.scr ns)] = .ok (.t (.bl true)) out := by
  have l : bLen [.scr ns] = some (.int (ns.length : Nat)) := rfl
  obtain ⟨q, hq, q1, q2⟩ := head_n (lo := 1) (hi := 4) (n := ns.length)
  obtain ⟨w, e1, e2⟩ := Option.bind_eq_some_iff.mp hq
  have e1' : bMin [.int 4, .int (ns.length : Nat)] = some w := e1
  have e2' : bMax [.int 1, w] = some (.int q) := e2
  obtain ⟨st', e3, _⟩ := law_loop (I := LawI ns) (g := forB (tgN 1) p_law_4) (fun k st hk h => turn hn hk h) (n := q) (k := 0) (st := ⟨[some (.t (.scr ns)), none, none, none, none, none, none, none, none, none, none, none, none, none, none, none, none, none], []⟩) (by omega) ⟨_, rfl, rfl⟩
  rw [← rg_range'] at e3
  have hsm : smallI (q : Int) = true := by simp [smallI]; omega
  refine ⟨st'.inh, ?_⟩
  unfold F_law runF g_law
  simp only [ev_bind_ok, ev_bind_stuck, ev_bind_exc, ev_cC, ev_ofO, ev_ofM, ev_cVar, ev_cMv, ev_mMv, ev_cUn, ev_cBin, ev_cNil, ev_cCons, ev_views_nil, ev_views_cons, ev_view_t, ev_view_sl, ev_view_ih, ev_pv_lst, ev_pv_obj, ev_pv_dct, ev_cList, ev_mList, ev_cTruth, ev_cAnd, ev_cOr, ev_cNot, ev_cAndV, ev_cOrV, ev_cNotV, ev_cIf, ev_cYes, ev_cChain, ev_cDisp, ev_mDisp, ev_trees_nil, ev_trees_cons, ev_cFrz, ev_sNil, ev_sNo, ev_sSeq, ev_bindS_ok, ev_bindS_stuck, ev_sExpr, ev_sRet, ev_sRetN, ev_sRetM, ev_sIf, ev_sSet, ev_sSetM, ev_sAsg, ev_sItem, ev_getP_sl, ev_getP_ih, ev_setP_sl, ev_setP_ih, ev_set, ev_sets_nil, ev_sets_cons, ev_tgN, ev_tgS_tup, ev_tgS_lst, ev_tgs_nil, ev_tgs_cons, ev_nNil, ev_nT, ev_nM, ev_sPar, ev_setFs_nil, ev_setFs_t, ev_setFs_n, ev_cPl, ev_cCallF, ev_mCallF, ev_fcDef, ev_fcDefM, ev_mRg1, ev_cRng1, ev_cIt, ev_sFor, ev_clear_nil, ev_clear_cons, ev_restore_nil, ev_restore_cons, List.set, List.getElem?_cons_succ, List.getElem?_cons_zero, Option.bind_some, Option.map_some, List.length_cons, List.length_nil, if_true, Bool.not_true, Bool.not_false, Bool.false_eq_true, if_false, reduceIte, decide_true, decide_false, Nat.reduceAdd, Nat.zero_add, List.getD_cons_succ, List.getD_cons_zero, enter, slots, conts, List.replicate, List.cons_append, List.nil_append, Nat.reduceSub, l, e1', e2', hsm, Int.toNat_natCast, rngL_rg, e3]
end K45
set_option maxRecDepth 100000 in
set_option maxHeartbeats 0 in
theorem PySem.Challenge.cw_vetoturns_k45_sets_avoided_by_the_whole_holds : PySem.Challenge.rw_vetoturns_k45_sets_avoided_by_the_whole.Holds := by
  exact holds_of_K45 K45.plain
