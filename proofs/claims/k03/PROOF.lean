import PyProof.Rows.All
import Wide.All
import OpenK.AllK
import Wide.FinOn
import HandS.ForMost
import HandS.Exc
import HandS.TryOnly
import HandS.ExcOwn
import HandS.WordsExc
import HandS.IsInst
import HandS.TupAny
import HandS.Walk
import HandS.Lambda
import HandS.HeadHook4
import HandS.Text
import HandS.More
import HandS.Dict
import KE.KDictPairs
import KE.GoesEnum
import PyProof.ReprRoads
import HandS.Ends
import HandS.HeadEnd
import HandS.HeadHook1
import HandS.HeadHook2
import HandS.Defaults
import HandS.SetFor
import HandS.SortInts
import HandS.Strs
import HandS.Style
import HandS.Property
import HandS.ClsMeth
import KE.KCallOwn
import HandS.HeadNt
import HandS.Star
import KE.KUnpackStar
import HandS.ExcValue
import HandS.ExcInit
import HandS.HotCalls
import HandS.ExcField
import HandS.ExcIs
import KE.KExcIs
import HandS.EndTab
import KE.KStateDown
import Lean
import HandS.Head0
import HandS.Head1
import HandS.Head2
import PySem.Challenge.RW_classcurves_k03_grades_refused
set_option Elab.async false
set_option linter.all false
set_option maxRecDepth 100000
set_option maxHeartbeats 0

/-! VsBase: values as plain data, a store of changing things, how both lie in the heap. -/
namespace VL
open PySem PySem.Spec PyProof.Rows L2

inductive D where
  | non
  | bl (b : Bool)
  | int (i : Int)
  | str (x : Str)
  | tup (xs : List D)
  | lst (xs : List D)
  | dct (kvs : List (Key × D))
  | obj (c : Str) (fs : List (Str × D))
  | loc (n : Nat)
  | cls (c : Str)
  | scr (ns : List Int)
  | ty (n : String)
  | ptup (xs : List D)
  | exc (c : Str) (fs : List (Str × D))
  | tab (q : Str × Option Str)
  | fnv (a : Addr)

abbrev St := L2.St
/-- by a truth -/
@[irreducible] def Br (b : Bool) (A B : Prop) : Prop := match b with
  | true => A
  | false => B
theorem Br.by {b : Bool} {A B : Prop} (h1 : b = true → A) (h2 : b = false → B) : Br b A B := by
  unfold Br
  cases b with
  | true => exact h1 rfl
  | false => exact h2 rfl
abbrev Lo := List (Option D)
abbrev Mu := List D

/-- where the changing things lie (by their numbers), and all addresses that no plain datum may use -/
structure Ad where
  pl : List Addr
  ex : List Addr
/-- where things of the text lie, and the state at a def's entry -/
structure Gm where
  K : PySem.W.Frag
  ca : Str → Addr
  H0 : Hp
  al0 : Ad

/-- a tuple that nobody changes -/
def NT (K : PySem.W.Frag) (al : Ad) (H : Hp) (a : Addr) (vs : List V) : Prop :=
  (Rd H a (.tup vs) ∧ a ∉ al.ex) ∨ ∃ (o : Obj) (its : Array Value) (n : Nat), K.lookup a = some o ∧ o.cls = .type "tuple" ∧ o.data = .seq its n ∧ its.size ≤ sizeLine ∧ Vals vs its.toList
/-- the script: the law's own list, wherever it lies -/
def NS (K : PySem.W.Frag) (al : Ad) (H : Hp) (a : Addr) (vs : List V) : Prop :=
  (Rd H a (.lst vs) ∧ a ∉ al.ex) ∨ ∃ (o : Obj) (its : Array Value) (n : Nat), K.lookup a = some o ∧ o.cls = .type "list" ∧ o.dict = none ∧ o.data = .seq its n ∧ its.size ≤ sizeLine ∧ Vals vs its.toList
theorem NT.sq {K : PySem.W.Frag} {al : Ad} {H : Hp} {a : Addr} {vs : List V} (h : NT K al H a vs) : SqT K H a vs := h.imp (fun z => z.1) id
theorem NS.sq {K : PySem.W.Frag} {al : Ad} {H : Hp} {a : Addr} {vs : List V} (h : NS K al H a vs) : SqL K H a vs := h.imp (fun z => z.1) id

/-- an object that stays as it is: a caught exception's -/
def XA (a : Addr) (oe : Obj) : HO := .ext fun h => h.get? a = some oe
/-- its dict's fields -/
def XF (al : Ad) (H : Hp) (d : Option Addr) (vs : List (Str × V)) : Prop := match d with
  | some a => H a = some (.xd vs) ∧ a ∉ al.ex
  | none => vs = []
/-- a def's whole name -/
def qnOf (p : Str × Option Str) : Str := match p.2 with
  | none => p.1
  | some m => p.1 ++ "." ++ m

section
variable (K : PySem.W.Frag) (ca : Str → Addr) (al : Ad) (H : Hp)
mutual
def Rep : D → V → Prop
  | .non, v => v = .non
  | .bl b, v => v = .bl b
  | .int i, v => v = .int i
  | .str x, v => v = .str x
  | .tup ds, v => ∃ a vs, v = .ref a ∧ NT K al H a vs ∧ Reps ds vs
  | .lst ds, v => ∃ a vs, v = .ref a ∧ H a = some (.lst vs) ∧ a ∉ al.ex ∧ Reps ds vs
  | .ptup ds, v => ∃ a o vs, v = .ref a ∧ H a = some (.frz o (.tup vs)) ∧ o.dict = none ∧ a ∉ al.ex ∧ Reps ds vs
  | .dct ks, v => ∃ a kvs, v = .ref a ∧ Rd H a (.dK kvs) ∧ a ∉ al.ex ∧ RepK ks kvs
  | .obj c fs, v => ∃ a dx vs, v = .ref a ∧ H a = some (.ins (ca c) dx vs) ∧ a ∉ al.ex ∧ RepF fs vs
  | .loc n, v => ∃ a, v = .ref a ∧ al.pl[n]? = some a
  | .cls c, v => v = .ref (ca c)
  | .scr ns, v => ∃ a, v = .ref a ∧ NS K al H a (ns.map V.int)
  | .ty n, v => v = .ty n
  | .exc c fs, v => ∃ a oe fv vs, v = .ref a ∧ H a = some (XA a oe) ∧ a ∉ al.ex ∧ oe.cls = .ref (ca c) ∧ oe.data = .fields fv ∧ XF al H oe.dict vs ∧ RepF fs vs
  | .tab _, _ => False
  | .fnv a, v => v = .ref a
def Reps : List D → List V → Prop
  | [], vs => vs = []
  | d :: ds, vs => ∃ v r, vs = v :: r ∧ Rep d v ∧ Reps ds r
def RepK : List (Key × D) → List (Key × V) → Prop
  | [], vs => vs = []
  | (k, d) :: ds, vs => ∃ v r, vs = (k, v) :: r ∧ Rep d v ∧ RepK ds r
def RepF : List (Str × D) → List (Str × V) → Prop
  | [], vs => vs = []
  | (k, d) :: ds, vs => ∃ v r, vs = (k, v) :: r ∧ Rep d v ∧ RepF ds r
end
end

/-- what a changing thing holds -/
def Cont (K : PySem.W.Frag) (ca : Str → Addr) (al : Ad) (H : Hp) (a : Addr) : D → Prop
  | .lst ds => ∃ vs, H a = some (.lst vs) ∧ Reps K ca al H ds vs
  | .dct ks => ∃ kvs, H a = some (.dK kvs) ∧ RepK K ca al H ks kvs
  | .obj c fs => ∃ dx vs, H a = some (.ins (ca c) dx vs) ∧ RepF K ca al H fs vs
  | .tab q => a = (He.cT K q).2 ∧ ∃ ps : Array Value, H a = some (.tbl ps) ∧ TriplesOk ps.toList ∧ ∀ (pos : Pos) (cv : Value), codeAmong pos ps.toList = some cv → ∃ c, cv = .ref c ∧ H c = some (LamX.CodeO c (qnOf q ++ ".<locals>." ++ "<lambda>")) ∧ c ∉ al.ex
  | _ => False

/-- .. is no fact of another kind -/
theorem Cont.nx {K : PySem.W.Frag} {ca : Str → Addr} {al : Ad} {H : Hp} {a : Addr} {d : D} (h : Cont K ca al H a d) (φ : Heap → Prop) : H a ≠ some (.ext φ) := fun e => by
  cases d with
  | lst ds => obtain ⟨vs, q, _⟩ := h; rw [e] at q; cases q
  | dct ds => obtain ⟨vs, q, _⟩ := h; rw [e] at q; cases q
  | obj c ds => obtain ⟨dx, vs, q, _⟩ := h; rw [e] at q; cases q
  | tab t => obtain ⟨_, ps, q, _⟩ := h; rw [e] at q; cases q
  | _ => exact h.elim
structure Store (K : PySem.W.Frag) (ca : Str → Addr) (al : Ad) (mu : Mu) (H : Hp) : Prop where
  nd : al.pl.Nodup
  len : al.pl.length = mu.length
  sub : ∀ a ∈ al.pl, a ∈ al.ex
  dom : ∀ a ∈ al.ex, ∃ o, H a = some o
  nx : ∀ a ∈ al.ex, ∀ φ, H a ≠ some (.ext φ)
  has : ∀ (n : Nat) (a : Addr) (d : D), al.pl[n]? = some a → mu[n]? = some d → Cont K ca al H a d

structure RelA (g : Gm) (al : Ad) (dl : Lo) (mu : Mu) (T : List (V × D)) (sg : St) (H : Hp) : Prop where
  st : Store g.K g.ca al mu H
  pre : g.al0.pl <+: al.pl
  exs : ∀ a ∈ g.al0.ex, a ∈ al.ex
  sub0 : ∀ a ∈ g.al0.ex, ∃ o, g.H0 a = some o
  frm : ∀ b o, g.H0 b = some o → b ∉ g.al0.pl → H b = some o
  fre : ∀ a ∈ al.ex, a ∉ g.al0.ex → g.H0 a = none
  frp : ∀ a ∈ al.pl, a ∉ g.al0.pl → g.H0 a = none
  loc : ∀ (i : Nat) (d : D), dl[i]? = some (some d) → ∃ v, sg[i]? = some (some v) ∧ Rep g.K g.ca al H d v
  tmp : ∀ p ∈ T, Rep g.K g.ca al H p.2 p.1
  len : sg.length = dl.length
def Rel (g : Gm) (dl : Lo) (mu : Mu) (T : List (V × D)) (sg : St) (H : Hp) : Prop := ∃ al, RelA g al dl mu T sg H

/-! ### kept data -/
section
variable {K : PySem.W.Frag} {ca : Str → Addr} {al al' : Ad} {H H' : Hp}
/-- the places only grow, what is no place stays -/
structure Grow (al al' : Ad) (H H' : Hp) : Prop where
  pre : al.pl <+: al'.pl
  keep : ∀ b o, H b = some o → b ∉ al.ex → H' b = some o
  new : ∀ a ∈ al'.ex, a ∉ al.ex → H a = none
  newp : ∀ a ∈ al'.pl, a ∉ al.pl → H a = none
theorem Grow.out (g : Grow al al' H H') {a : Addr} {o : HO} (e : H a = some o) (h : a ∉ al.ex) : a ∉ al'.ex := fun z => by
  have q := g.new a z h
  rw [e] at q; cases q
theorem Grow.rd (g : Grow al al' H H') {a : Addr} {u : HO} (e : Rd H a u) (h : a ∉ al.ex) : Rd H' a u ∧ a ∉ al'.ex := by
  rcases e with e | ⟨o, e⟩
  · exact ⟨.inl (g.keep _ _ e h), g.out e h⟩
  · exact ⟨.inr ⟨o, g.keep _ _ e h⟩, g.out e h⟩
theorem XF.grow (g : Grow al al' H H') {d : Option Addr} {vs : List (Str × V)} (h : XF al H d vs) : XF al' H' d vs := by
  cases d with
  | none => exact h
  | some a => exact ⟨g.keep _ _ h.1 h.2, g.out h.1 h.2⟩
mutual
theorem Rep.grow (g : Grow al al' H H') : ∀ (d : D) (v : V), Rep K ca al H d v → Rep K ca al' H' d v
  | .non, _, h => by simpa only [Rep] using h
  | .bl _, _, h => by simpa only [Rep] using h
  | .int _, _, h => by simpa only [Rep] using h
  | .str _, _, h => by simpa only [Rep] using h
  | .cls _, _, h => by simpa only [Rep] using h
  | .ty _, _, h => by simpa only [Rep] using h
  | .exc c fs, v, h => by
    simp only [Rep] at h ⊢
    obtain ⟨a, oe, fv, vs, e, n1, n2, k1, k2, k3, r⟩ := h
    exact ⟨a, oe, fv, vs, e, g.keep _ _ n1 n2, g.out n1 n2, k1, k2, XF.grow g k3, RepF.grow g fs vs r⟩
  | .tab _, _, h => by simpa only [Rep] using h
  | .fnv _, _, h => by simpa only [Rep] using h
  | .tup ds, v, h => by
    simp only [Rep] at h ⊢
    obtain ⟨a, vs, e, n, r⟩ := h
    refine ⟨a, vs, e, ?_, Reps.grow g ds vs r⟩
    rcases n with ⟨n1, n2⟩ | n
    · exact .inl (g.rd n1 n2)
    · exact .inr n
  | .lst ds, v, h => by
    simp only [Rep] at h ⊢
    obtain ⟨a, vs, e, n1, n2, r⟩ := h
    exact ⟨a, vs, e, g.keep _ _ n1 n2, g.out n1 n2, Reps.grow g ds vs r⟩
  | .ptup ds, v, h => by
    simp only [Rep] at h ⊢
    obtain ⟨a, o, vs, e, n1, n0, n2, r⟩ := h
    exact ⟨a, o, vs, e, g.keep _ _ n1 n2, n0, g.out n1 n2, Reps.grow g ds vs r⟩
  | .scr ns, v, h => by
    simp only [Rep] at h ⊢
    obtain ⟨a, e, n⟩ := h
    refine ⟨a, e, ?_⟩
    rcases n with ⟨n1, n2⟩ | n
    · exact .inl (g.rd n1 n2)
    · exact .inr n
  | .dct ks, v, h => by
    simp only [Rep] at h ⊢
    obtain ⟨a, vs, e, n1, n2, r⟩ := h
    obtain ⟨m1, m2⟩ := g.rd n1 n2
    exact ⟨a, vs, e, m1, m2, RepK.grow g ks vs r⟩
  | .obj c fs, v, h => by
    simp only [Rep] at h ⊢
    obtain ⟨a, dx, vs, e, n1, n2, r⟩ := h
    exact ⟨a, dx, vs, e, g.keep _ _ n1 n2, g.out n1 n2, RepF.grow g fs vs r⟩
  | .loc n, v, h => by
    simp only [Rep] at h ⊢
    obtain ⟨a, e, q⟩ := h
    obtain ⟨t, ht⟩ := g.pre
    refine ⟨a, e, ?_⟩
    rw [← ht, List.getElem?_append_left (List.getElem?_eq_some_iff.mp q).1]
    exact q
theorem Reps.grow (g : Grow al al' H H') : ∀ (ds : List D) (vs : List V), Reps K ca al H ds vs → Reps K ca al' H' ds vs
  | [], _, h => by simpa only [Reps] using h
  | d :: ds, vs, h => by
    simp only [Reps] at h ⊢
    obtain ⟨v, r, e, h1, h2⟩ := h
    exact ⟨v, r, e, Rep.grow g d v h1, Reps.grow g ds r h2⟩
theorem RepK.grow (g : Grow al al' H H') : ∀ (ds : List (Key × D)) (vs : List (Key × V)), RepK K ca al H ds vs → RepK K ca al' H' ds vs
  | [], _, h => by simpa only [RepK] using h
  | (k, d) :: ds, vs, h => by
    simp only [RepK] at h ⊢
    obtain ⟨v, r, e, h1, h2⟩ := h
    exact ⟨v, r, e, Rep.grow g d v h1, RepK.grow g ds r h2⟩
theorem RepF.grow (g : Grow al al' H H') : ∀ (ds : List (Str × D)) (vs : List (Str × V)), RepF K ca al H ds vs → RepF K ca al' H' ds vs
  | [], _, h => by simpa only [RepF] using h
  | (k, d) :: ds, vs, h => by
    simp only [RepF] at h ⊢
    obtain ⟨v, r, e, h1, h2⟩ := h
    exact ⟨v, r, e, Rep.grow g d v h1, RepF.grow g ds r h2⟩
end
theorem Cont.grow (g : Grow al al' H H') {a : Addr} {d : D} (h : Cont K ca al H a d) (hs : H' a = H a) : Cont K ca al' H' a d := by
  cases d with
  | lst ds =>
    obtain ⟨vs, e, r⟩ := h
    exact ⟨vs, by rw [hs]; exact e, Reps.grow g ds vs r⟩
  | dct ds =>
    obtain ⟨vs, e, r⟩ := h
    exact ⟨vs, by rw [hs]; exact e, RepK.grow g ds vs r⟩
  | obj c ds =>
    obtain ⟨dx, vs, e, r⟩ := h
    exact ⟨dx, vs, by rw [hs]; exact e, RepF.grow g ds vs r⟩
  | tab q =>
    obtain ⟨ea, ps, e, t, k⟩ := h
    refine ⟨ea, ps, by rw [hs]; exact e, t, fun pos cv hc => ?_⟩
    obtain ⟨c, e1, e2, e3⟩ := k pos cv hc
    exact ⟨c, e1, g.keep _ _ e2 e3, g.out e2 e3⟩
  | _ => exact h.elim
theorem Store.pdom {mu : Mu} (s : Store K ca al mu H) {a : Addr} (h : a ∈ al.pl) : ∃ o, H a = some o := s.dom a (s.sub a h)
theorem Store.fresh {mu : Mu} (s : Store K ca al mu H) {p : Addr} (n : H p = none) : p ∉ al.ex := fun h => by
  obtain ⟨u, e⟩ := s.dom p h
  rw [n] at e; cases e
end

/-! ### one step of the state -/
section
variable {g : Gm} {al al' : Ad} {dl : Lo} {mu mu' : Mu} {T : List (V × D)} {sg : St} {H H' : Hp}
/-- .. seen from the def's entry -/
structure Stp (g : Gm) (al al' : Ad) (H H' : Hp) : Prop extends Grow al al' H H' where
  kf : ∀ b o, g.H0 b = some o → b ∉ g.al0.pl → H b = some o → H' b = some o
  ke : ∀ a ∈ g.al0.ex, a ∈ al.ex → a ∈ al'.ex
theorem RelA.step (r : RelA g al dl mu T sg H) (k : Stp g al al' H H') (s : Store g.K g.ca al' mu' H') : RelA g al' dl mu' T sg H' where
  st := s
  pre := r.pre.trans k.pre
  exs := fun a h => k.ke a h (r.exs a h)
  sub0 := r.sub0
  frm := fun b o e n => k.kf b o e n (r.frm b o e n)
  fre := fun a h n => by
    by_cases z : a ∈ al.ex
    · exact r.fre a z n
    · cases q : g.H0 a with
      | none => rfl
      | some o =>
        by_cases pz : a ∈ g.al0.pl
        · exact absurd (r.st.sub a (r.pre.subset pz)) z
        · have w := k.new a h z
          rw [r.frm a o q pz] at w
          cases w
  frp := fun a h n => by
    by_cases z : a ∈ al.pl
    · exact r.frp a z n
    · cases q : g.H0 a with
      | none => rfl
      | some o =>
        have w := k.newp a h z
        rw [r.frm a o q n] at w
        cases w
  loc := fun i d e => by
    obtain ⟨v, e1, e2⟩ := r.loc i d e
    exact ⟨v, e1, Rep.grow k.toGrow d v e2⟩
  tmp := fun p hp => Rep.grow k.toGrow _ _ (r.tmp p hp)
  len := r.len
theorem RelA.push (r : RelA g al dl mu T sg H) {v : V} {d : D} (h : Rep g.K g.ca al H d v) : RelA g al dl mu ((v, d) :: T) sg H :=
  { r with tmp := fun p hp => (List.mem_cons.mp hp).elim (fun e => by rw [e]; exact h) (r.tmp p) }
theorem RelA.sub (r : RelA g al dl mu T sg H) {T' : List (V × D)} (h : ∀ p ∈ T', p ∈ T) : RelA g al dl mu T' sg H := { r with tmp := fun p hp => r.tmp p (h p hp) }
theorem Rel.sub (r : Rel g dl mu T sg H) {T' : List (V × D)} (h : ∀ p ∈ T', p ∈ T) : Rel g dl mu T' sg H := let ⟨al, q⟩ := r; ⟨al, q.sub h⟩
/-- a new thing that nobody changes -/
theorem stp_new {p : Addr} {o : HO} (n : H p = none) : Stp g al al H (upd H p o) where
  pre := List.prefix_rfl
  keep := fun b u e _ => by rw [upd_ne (ne_of_none e n)]; exact e
  new := fun a h1 h2 => absurd h1 h2
  newp := fun a h1 h2 => absurd h1 h2
  kf := fun b u _ _ e => by rw [upd_ne (ne_of_none e n)]; exact e
  ke := fun a _ h => h
theorem Store.new {K : PySem.W.Frag} {ca : Str → Addr} (s : Store K ca al mu H) {p : Addr} {o : HO} (n : H p = none) : Store K ca al mu (upd H p o) where
  nd := s.nd
  len := s.len
  sub := s.sub
  dom := fun a h => by
    obtain ⟨u, e⟩ := s.dom a h
    exact ⟨u, by rw [upd_ne (ne_of_none e n)]; exact e⟩
  nx := fun a h φ => by
    obtain ⟨u, e⟩ := s.dom a h
    rw [upd_ne (ne_of_none e n)]
    exact s.nx a h φ
  has := fun i a d e1 e2 => by
    obtain ⟨u, e⟩ := s.pdom (List.mem_of_getElem? e1)
    exact (s.has i a d e1 e2).grow (stp_new (g := ⟨K, ca, H, al⟩) n).toGrow (upd_ne (ne_of_none e n))
theorem RelA.new (r : RelA g al dl mu T sg H) {p : Addr} {o : HO} (n : H p = none) : RelA g al dl mu T sg (upd H p o) := r.step (stp_new n) (r.st.new n)
/-- a new place -/
def Ad.add (al : Ad) (p : Addr) : Ad := ⟨al.pl ++ [p], p :: al.ex⟩
theorem stp_loc {p : Addr} {o : HO} (n : H p = none) : Stp g al (al.add p) H (upd H p o) where
  pre := List.prefix_append _ _
  keep := fun b u e _ => by rw [upd_ne (ne_of_none e n)]; exact e
  new := fun a h1 h2 => by
    rcases List.mem_cons.mp h1 with z | z
    · rw [z]; exact n
    · exact absurd z h2
  newp := fun a h1 h2 => by
    rcases List.mem_append.mp h1 with z | z
    · exact absurd z h2
    · rw [List.mem_singleton.mp z]; exact n
  kf := fun b u _ _ e => by rw [upd_ne (ne_of_none e n)]; exact e
  ke := fun a _ h => List.mem_cons_of_mem _ h
theorem Store.loc {K : PySem.W.Frag} {ca : Str → Addr} (s : Store K ca al mu H) {p : Addr} {o : HO} {d : D} (n : H p = none) (c : Cont K ca (al.add p) (upd H p o) p d) : Store K ca (al.add p) (mu ++ [d]) (upd H p o) where
  nd := List.nodup_append.mpr ⟨s.nd, by simp, fun a h b hb e => by
    rw [List.mem_singleton.mp hb] at e
    subst e
    exact s.fresh n (s.sub a h)⟩
  len := by
    show (al.pl ++ [p]).length = _
    rw [List.length_append, List.length_append, s.len]; rfl
  sub := fun a h => by
    rcases List.mem_append.mp h with z | z
    · exact List.mem_cons_of_mem _ (s.sub a z)
    · rw [List.mem_singleton.mp z]; exact List.mem_cons_self
  dom := fun a h => by
    rcases List.mem_cons.mp h with z | z
    · rw [z]; exact ⟨_, upd_same⟩
    · obtain ⟨u, e⟩ := s.dom a z
      exact ⟨u, by rw [upd_ne (ne_of_none e n)]; exact e⟩
  nx := fun a h φ => by
    rcases List.mem_cons.mp h with z | z
    · rw [z]; exact c.nx φ
    · obtain ⟨u, e⟩ := s.dom a z
      rw [upd_ne (ne_of_none e n)]
      exact s.nx a z φ
  has := fun i a d' e1 e2 => by
    have e1' : (al.pl ++ [p])[i]? = some a := e1
    by_cases hi : i < al.pl.length
    · rw [List.getElem?_append_left hi] at e1'
      rw [List.getElem?_append_left (by rw [← s.len]; exact hi)] at e2
      obtain ⟨u, e⟩ := s.pdom (List.mem_of_getElem? e1')
      exact (s.has i a d' e1' e2).grow (stp_loc (g := ⟨K, ca, H, al⟩) n).toGrow (upd_ne (ne_of_none e n))
    · rw [List.getElem?_append_right (by omega)] at e1'
      rw [List.getElem?_append_right (by rw [← s.len]; omega)] at e2
      have z : i - al.pl.length = 0 := by
        have := (List.getElem?_eq_some_iff.mp e1').1
        simp at this; omega
      rw [s.len] at z e1'
      rw [z] at e1' e2
      cases e1'; cases e2
      exact c
theorem RelA.newLoc (r : RelA g al dl mu T sg H) {p : Addr} {o : HO} {d : D} (n : H p = none) (c : Cont g.K g.ca (al.add p) (upd H p o) p d) : RelA g (al.add p) dl (mu ++ [d]) ((.ref p, .loc mu.length) :: T) sg (upd H p o) := by
  refine (r.step (stp_loc n) (r.st.loc n c)).push ?_
  show ∃ a, V.ref p = .ref a ∧ (al.pl ++ [p])[mu.length]? = some a
  refine ⟨p, rfl, ?_⟩
  rw [← r.st.len]
  simp
/-- a place is written -/
theorem grow_put {a : Addr} {o : HO} (h : a ∈ al.ex) : Grow al al H (upd H a o) := ⟨List.prefix_rfl, fun b u e n => by rw [upd_ne (show b ≠ a from fun z => n (by rw [z]; exact h))]; exact e, fun b h1 h2 => absurd h1 h2, fun b h1 h2 => absurd h1 h2⟩
theorem Store.put {K : PySem.W.Frag} {ca : Str → Addr} (s : Store K ca al mu H) {n : Nat} {a : Addr} {o : HO} {d : D} (h : al.pl[n]? = some a) (c : Cont K ca al (upd H a o) a d) : Store K ca al (mu.set n d) (upd H a o) where
  nd := s.nd
  len := by rw [List.length_set]; exact s.len
  sub := s.sub
  dom := fun b hb => by
    by_cases z : b = a
    · rw [z]; exact ⟨_, upd_same⟩
    · rw [upd_ne z]; exact s.dom b hb
  nx := fun b hb φ => by
    by_cases z : b = a
    · rw [z]; exact c.nx φ
    · rw [upd_ne z]; exact s.nx b hb φ
  has := fun i b d' e1 e2 => by
    by_cases hi : i = n
    · subst hi
      rw [h] at e1; cases e1
      rw [List.getElem?_set_self (by rw [← s.len]; exact (List.getElem?_eq_some_iff.mp h).1)] at e2
      cases e2
      exact c
    · rw [List.getElem?_set_ne (Ne.symm hi)] at e2
      have ne : b ≠ a := fun z => hi (by
        obtain ⟨h1, q1⟩ := List.getElem?_eq_some_iff.mp e1
        obtain ⟨h2, q2⟩ := List.getElem?_eq_some_iff.mp h
        exact (List.getElem_inj s.nd).mp (q1.trans (z.trans q2.symm)))
      exact (s.has i b d' e1 e2).grow (grow_put (s.sub a (List.mem_of_getElem? h))) (upd_ne ne)
theorem RelA.put (r : RelA g al dl mu T sg H) {n : Nat} {a : Addr} {o : HO} {d : D} (h : al.pl[n]? = some a) (c : Cont g.K g.ca al (upd H a o) a d) : RelA g al dl (mu.set n d) T sg (upd H a o) :=
  have ha : a ∈ al.pl := List.mem_of_getElem? h
  r.step { grow_put (r.st.sub a ha) with
    kf := fun b u e n _ => by
      rw [upd_ne (show b ≠ a from fun z => by
        rw [z] at e n
        have q := r.frp a ha n
        rw [e] at q; cases q)]
      exact r.frm b u e n
    ke := fun _ _ z => z } (r.st.put h c)
/-- what a place holds, as it is seen -/
theorem RelA.at (r : RelA g al dl mu T sg H) {n : Nat} {d : D} (e : mu[n]? = some d) : ∃ a, al.pl[n]? = some a ∧ Cont g.K g.ca al H a d := by
  have hn : n < al.pl.length := by rw [r.st.len]; exact (List.getElem?_eq_some_iff.mp e).1
  exact ⟨al.pl[n], List.getElem?_eq_getElem hn, r.st.has n _ d (List.getElem?_eq_getElem hn) e⟩
/-- a slot is stored -/
theorem RelA.set {v : V} {d : D} (r : RelA g al dl mu ((v, d) :: T) sg H) (i : Nat) : RelA g al (dl.set i (some d)) mu T (sg.set i (some v)) H where
  st := r.st
  pre := r.pre
  exs := r.exs
  sub0 := r.sub0
  frm := r.frm
  fre := r.fre
  frp := r.frp
  loc := fun j d' e => by
    by_cases hj : j = i
    · subst hj
      have hl : j < dl.length := by
        have := (List.getElem?_eq_some_iff.mp e).1
        simpa using this
      rw [List.getElem?_set_self hl] at e
      cases e
      exact ⟨v, List.getElem?_set_self (by rw [r.len]; exact hl), r.tmp (v, d) List.mem_cons_self⟩
    · rw [List.getElem?_set_ne (Ne.symm hj)] at e
      rw [List.getElem?_set_ne (Ne.symm hj)]
      exact r.loc j d' e
  tmp := fun p hp => r.tmp p (List.mem_cons_of_mem _ hp)
  len := by rw [List.length_set, List.length_set]; exact r.len
end

/-! ### readings over data -/
abbrev KD := D → Mu → Prop
abbrev TEd := Lo → Mu → KD → Prop
abbrev TTd := Lo → Mu → (Bool → Mu → Prop) → Prop
abbrev TAd := Lo → Mu → (List D → Mu → Prop) → Prop
def MonoE {α : Type} (t : Lo → Mu → (α → Mu → Prop) → Prop) : Prop := ∀ dl mu (Q Q' : α → Mu → Prop), (∀ d m, Q d m → Q' d m) → t dl mu Q → t dl mu Q'
def upE (g : Gm) (t : TEd) : TE := fun sg H Q => ∃ dl mu T, Rel g dl mu T sg H ∧ t dl mu fun d mu' => ∀ v H', Rel g dl mu' ((v, d) :: T) sg H' → Q v H'
def upT (g : Gm) (t : TTd) : TT := fun sg H Q => ∃ dl mu T, Rel g dl mu T sg H ∧ t dl mu fun b mu' => ∀ H', Rel g dl mu' T sg H' → Q b H'
def zipT (vs : List V) (ds : List D) (T : List (V × D)) : List (V × D) := vs.zip ds ++ T
def upA (g : Gm) (t : TAd) : TA := fun sg H Q => ∃ dl mu T, Rel g dl mu T sg H ∧ t dl mu fun ds mu' => ∀ vs H', vs.length = ds.length → Rel g dl mu' (vs.zip ds ++ T) sg H' → Q vs H'
structure PD (X : Cx) (g : Gm) (e : Expr) (t : TEd) : Prop where
  m : MonoE t
  pe : PE X e (upE g t)
structure QT (X : Cx) (g : Gm) (e : Expr) (t : TTd) : Prop where
  m : MonoE t
  pt : PT X e (upT g t)
structure QA (X : Cx) (g : Gm) (es : List Expr) (t : TAd) : Prop where
  m : MonoE t
  pa : PA X es (upA g t)
theorem PE.of {X : Cx} {e : Expr} {t t' : TE} (h : PE X e t) (w : ∀ sg H Q, t' sg H Q → t sg H Q) : PE X e t' := ⟨fun pins s sg H Q I q => h.run pins s sg H Q I (w sg H Q q)⟩
theorem PT.of {X : Cx} {e : Expr} {t t' : TT} (h : PT X e t) (w : ∀ sg H Q, t' sg H Q → t sg H Q) : PT X e t' := ⟨fun pins s sg H Q I q => h.run pins s sg H Q I (w sg H Q q)⟩
theorem PA.of {X : Cx} {e : List Expr} {t t' : TA} (h : PA X e t) (w : ∀ sg H Q, t' sg H Q → t sg H Q) : PA X e t' := ⟨fun pos pins s sg H Q I q => h.run pos pins s sg H Q I (w sg H Q q)⟩
theorem PS.of {X : Cx} {e : Stmt} {t t' : TS} (h : PS X e t) (w : ∀ E sg H, t' E sg H → t E sg H) : PS X e t' := ⟨fun pins s sg H Q I q => h.run pins s sg H Q I (w Q sg H q)⟩
theorem PSs.of {X : Cx} {e : List Stmt} {t t' : TS} (h : PSs X e t) (w : ∀ E sg H, t' E sg H → t E sg H) : PSs X e t' := ⟨fun pins s sg H Q I q => h.run pins s sg H Q I (w Q sg H q)⟩
end VL

/-! VsExpr: expressions over data. -/
namespace VL
open PySem PySem.Spec PyProof.Rows L2

/-! ### data at hand -/
section
variable {g : Gm} {al : Ad} {dl : Lo} {mu : Mu} {T : List (V × D)} {sg : St} {H : Hp}
/-- a scalar: no heap -/
def Sc : D → V → Prop
  | .non, v => v = .non
  | .bl b, v => v = .bl b
  | .int i, v => v = .int i
  | .str x, v => v = .str x
  | .ty n, v => v = .ty n
  | _, _ => False
theorem Sc.rep {K : PySem.W.Frag} {ca : Str → Addr} {d : D} {v : V} (h : Sc d v) : Rep K ca al H d v := by
  cases d <;> first | exact h | exact h.elim
theorem Rel.top {v : V} {d : D} (r : Rel g dl mu ((v, d) :: T) sg H) : ∃ al, RelA g al dl mu ((v, d) :: T) sg H ∧ Rep g.K g.ca al H d v := by
  obtain ⟨al, q⟩ := r
  exact ⟨al, q, q.tmp (v, d) List.mem_cons_self⟩
theorem Rel.pop {p : V × D} (r : Rel g dl mu (p :: T) sg H) : Rel g dl mu T sg H := r.sub fun _ h => List.mem_cons_of_mem _ h
theorem Rel.pop2 {p q : V × D} (r : Rel g dl mu (p :: q :: T) sg H) : Rel g dl mu T sg H := r.pop.pop
theorem Rel.popA {l : List (V × D)} (r : Rel g dl mu (l ++ T) sg H) : Rel g dl mu T sg H := r.sub fun _ h => List.mem_append_right _ h
theorem Rel.sc (r : Rel g dl mu T sg H) {d : D} {v : V} (h : Sc d v) : Rel g dl mu ((v, d) :: T) sg H := let ⟨al, q⟩ := r; ⟨al, q.push h.rep⟩
theorem Rel.keep {v : V} {d : D} {p : V × D} (r : Rel g dl mu (p :: (v, d) :: T) sg H) : Rel g dl mu ((v, d) :: T) sg H := r.pop
theorem rep_int {K : PySem.W.Frag} {ca : Str → Addr} {i : Int} {v : V} (h : Rep K ca al H (.int i) v) : v = .int i := by simpa only [Rep] using h
theorem rep_str {K : PySem.W.Frag} {ca : Str → Addr} {i : Str} {v : V} (h : Rep K ca al H (.str i) v) : v = .str i := by simpa only [Rep] using h
theorem rep_bl {K : PySem.W.Frag} {ca : Str → Addr} {i : Bool} {v : V} (h : Rep K ca al H (.bl i) v) : v = .bl i := by simpa only [Rep] using h
theorem rep_non {K : PySem.W.Frag} {ca : Str → Addr} {v : V} (h : Rep K ca al H .non v) : v = .non := by simpa only [Rep] using h
theorem Rel.int {i : Int} {v : V} (r : Rel g dl mu ((v, .int i) :: T) sg H) : v = .int i := let ⟨_, _, q⟩ := r.top; rep_int q
theorem Rel.str {i : Str} {v : V} (r : Rel g dl mu ((v, .str i) :: T) sg H) : v = .str i := let ⟨_, _, q⟩ := r.top; rep_str q
theorem Rel.bl {i : Bool} {v : V} (r : Rel g dl mu ((v, .bl i) :: T) sg H) : v = .bl i := let ⟨_, _, q⟩ := r.top; rep_bl q
theorem Rel.non {v : V} (r : Rel g dl mu ((v, .non) :: T) sg H) : v = .non := let ⟨_, _, q⟩ := r.top; rep_non q
theorem reps_len {K : PySem.W.Frag} {ca : Str → Addr} : ∀ {ds : List D} {vs : List V}, Reps K ca al H ds vs → vs.length = ds.length
  | [], vs, h => by
    have e : vs = [] := by simpa only [Reps] using h
    rw [e]; rfl
  | d :: ds, vs, h => by
    simp only [Reps] at h
    obtain ⟨v, r, rfl, _, h2⟩ := h
    simp only [List.length_cons, reps_len h2]
theorem reps_get {K : PySem.W.Frag} {ca : Str → Addr} : ∀ {ds : List D} {vs : List V} {j : Nat} {d : D}, Reps K ca al H ds vs → ds[j]? = some d → ∃ v, vs[j]? = some v ∧ Rep K ca al H d v
  | [], _, _, _, _, e => by simp at e
  | x :: ds, vs, 0, d, h, e => by
    simp only [Reps] at h
    obtain ⟨v, r, rfl, h1, _⟩ := h
    simp at e; subst e
    exact ⟨v, rfl, h1⟩
  | x :: ds, vs, j + 1, d, h, e => by
    simp only [Reps] at h
    obtain ⟨v, r, rfl, _, h2⟩ := h
    obtain ⟨w, e1, e2⟩ := reps_get (j := j) h2 (by simpa using e)
    exact ⟨w, by simpa using e1, e2⟩
theorem reps_zip {K : PySem.W.Frag} {ca : Str → Addr} : ∀ {ds : List D} {vs : List V}, vs.length = ds.length → (∀ p ∈ vs.zip ds, Rep K ca al H p.2 p.1) → Reps K ca al H ds vs
  | [], vs, h, _ => by
    cases vs with
    | nil => simp only [Reps]
    | cons _ _ => simp at h
  | d :: ds, [], h, _ => by simp at h
  | d :: ds, v :: vs, h, k => by
    simp only [Reps]
    exact ⟨v, vs, rfl, k (v, d) (by simp), reps_zip (by simpa using h) fun p hp => k p (by simp only [List.zip_cons_cons]; exact List.mem_cons_of_mem _ hp)⟩
theorem reps_app {K : PySem.W.Frag} {ca : Str → Addr} : ∀ {ds es : List D} {vs ws : List V}, Reps K ca al H ds vs → Reps K ca al H es ws → Reps K ca al H (ds ++ es) (vs ++ ws)
  | [], es, vs, ws, h, k => by
    have e : vs = [] := by simpa only [Reps] using h
    rw [e]; exact k
  | d :: ds, es, vs, ws, h, k => by
    simp only [Reps] at h
    obtain ⟨v, r, rfl, h1, h2⟩ := h
    simp only [List.cons_append, Reps]
    exact ⟨v, r ++ ws, rfl, h1, reps_app h2 k⟩
theorem reps_take {K : PySem.W.Frag} {ca : Str → Addr} : ∀ {ds : List D} {vs : List V} (n : Nat), Reps K ca al H ds vs → Reps K ca al H (ds.take n) (vs.take n)
  | [], vs, n, h => by
    have e : vs = [] := by simpa only [Reps] using h
    rw [e]; simp only [List.take_nil, Reps]
  | d :: ds, vs, 0, h => by simp only [List.take_zero, Reps]
  | d :: ds, vs, n + 1, h => by
    simp only [Reps] at h
    obtain ⟨v, r, rfl, h1, h2⟩ := h
    simp only [List.take_succ_cons, Reps]
    exact ⟨v, r.take n, rfl, h1, reps_take n h2⟩
theorem reps_drop {K : PySem.W.Frag} {ca : Str → Addr} : ∀ {ds : List D} {vs : List V} (n : Nat), Reps K ca al H ds vs → Reps K ca al H (ds.drop n) (vs.drop n)
  | [], vs, n, h => by
    have e : vs = [] := by simpa only [Reps] using h
    rw [e]; simp only [List.drop_nil, Reps]
  | d :: ds, vs, 0, h => h
  | d :: ds, vs, n + 1, h => by
    simp only [Reps] at h
    obtain ⟨v, r, rfl, h1, h2⟩ := h
    simp only [List.drop_succ_cons]
    exact reps_drop n h2
theorem reps_rev {K : PySem.W.Frag} {ca : Str → Addr} : ∀ {ds : List D} {vs : List V}, Reps K ca al H ds vs → Reps K ca al H ds.reverse vs.reverse
  | [], vs, h => by
    have e : vs = [] := by simpa only [Reps] using h
    rw [e]; simp only [List.reverse_nil, Reps]
  | d :: ds, vs, h => by
    simp only [Reps] at h
    obtain ⟨v, r, rfl, h1, h2⟩ := h
    rw [List.reverse_cons, List.reverse_cons]
    refine reps_app (reps_rev h2) ?_
    simp only [Reps]
    exact ⟨v, [], rfl, h1, rfl⟩
theorem reps_set {K : PySem.W.Frag} {ca : Str → Addr} : ∀ {ds : List D} {vs : List V} (j : Nat) {d : D} {v : V}, Reps K ca al H ds vs → Rep K ca al H d v → Reps K ca al H (ds.set j d) (vs.set j v)
  | [], vs, j, d, v, h, k => by
    have e : vs = [] := by simpa only [Reps] using h
    rw [e]; simp only [List.set_nil, Reps]
  | x :: ds, vs, 0, d, v, h, k => by
    simp only [Reps] at h
    obtain ⟨w, r, rfl, h1, h2⟩ := h
    simp only [List.set_cons_zero, Reps]
    exact ⟨v, r, rfl, k, h2⟩
  | x :: ds, vs, j + 1, d, v, h, k => by
    simp only [Reps] at h
    obtain ⟨w, r, rfl, h1, h2⟩ := h
    simp only [List.set_cons_succ, Reps]
    exact ⟨w, r.set j v, rfl, h1, reps_set j h2 k⟩
theorem Rel.reps {vs : List V} {ds : List D} (hl : vs.length = ds.length) (r : Rel g dl mu (vs.zip ds ++ T) sg H) : ∃ al, RelA g al dl mu (vs.zip ds ++ T) sg H ∧ Reps g.K g.ca al H ds vs := by
  obtain ⟨al, q⟩ := r
  exact ⟨al, q, reps_zip hl fun p hp => q.tmp p (List.mem_append_left _ hp)⟩
theorem zip_rep {K : PySem.W.Frag} {ca : Str → Addr} : ∀ {ds : List D} {vs : List V}, Reps K ca al H ds vs → ∀ p ∈ vs.zip ds, Rep K ca al H p.2 p.1
  | [], vs, _, p, hp => by simp at hp
  | d :: ds, vs, h, p, hp => by
    simp only [Reps] at h
    obtain ⟨v, r, rfl, h1, h2⟩ := h
    simp only [List.zip_cons_cons, List.mem_cons] at hp
    rcases hp with rfl | hp
    · exact h1
    · exact zip_rep h2 p hp
theorem RelA.zip (q : RelA g al dl mu T sg H) {vs : List V} {ds : List D} (k : Reps g.K g.ca al H ds vs) : RelA g al dl mu (vs.zip ds ++ T) sg H :=
  { q with tmp := fun p hp => (List.mem_append.mp hp).elim (zip_rep k p) (q.tmp p) }
/-- new tuples and lists that nobody changes -/
theorem RelA.newTup (q : RelA g al dl mu T sg H) {vs : List V} {ds : List D} (k : Reps g.K g.ca al H ds vs) {p : Addr} (n : H p = none) : Rel g dl mu ((.ref p, .tup ds) :: T) sg (upd H p (.tup vs)) := by
  refine ⟨al, (q.new n).push ?_⟩
  simp only [Rep]
  exact ⟨p, vs, rfl, .inl ⟨.inl upd_same, q.st.fresh n⟩, Reps.grow (stp_new (g := g) n).toGrow ds vs k⟩
theorem RelA.newLst (q : RelA g al dl mu T sg H) {vs : List V} {ds : List D} (k : Reps g.K g.ca al H ds vs) {p : Addr} (n : H p = none) : Rel g dl mu ((.ref p, .lst ds) :: T) sg (upd H p (.lst vs)) := by
  refine ⟨al, (q.new n).push ?_⟩
  simp only [Rep]
  exact ⟨p, vs, rfl, upd_same, q.st.fresh n, Reps.grow (stp_new (g := g) n).toGrow ds vs k⟩
theorem RelA.newLstL (q : RelA g al dl mu T sg H) {vs : List V} {ds : List D} (k : Reps g.K g.ca al H ds vs) {p : Addr} (n : H p = none) : Rel g dl (mu ++ [.lst ds]) ((.ref p, .loc mu.length) :: T) sg (upd H p (.lst vs)) :=
  ⟨_, q.newLoc n ⟨vs, upd_same, Reps.grow (stp_loc (g := g) n).toGrow ds vs k⟩⟩
/-- a list, wherever it stands -/
def asL (mu : Mu) : D → Option (List D)
  | .lst xs => some xs
  | .loc n => match mu[n]? with
    | some (.lst xs) => some xs
    | _ => none
  | .scr ns => some (ns.map D.int)
  | _ => none
def asT : D → Option (List D)
  | .tup xs => some xs
  | _ => none
theorem reps_ints {K : PySem.W.Frag} {ca : Str → Addr} : ∀ (ns : List Int), Reps K ca al H (ns.map D.int) (ns.map V.int)
  | [] => by simp only [List.map_nil, Reps]
  | n :: ns => by
    simp only [List.map_cons, Reps]
    exact ⟨_, _, rfl, by simp only [Rep], reps_ints ns⟩
theorem RelA.lst (q : RelA g al dl mu T sg H) {d : D} {v : V} {ds : List D} (r : Rep g.K g.ca al H d v) (e : asL mu d = some ds) : ∃ a vs, v = .ref a ∧ SqL g.K H a vs ∧ Reps g.K g.ca al H ds vs := by
  cases d with
  | lst xs =>
    cases e
    simp only [Rep] at r
    obtain ⟨a, vs, e1, e2, _, e3⟩ := r
    exact ⟨a, vs, e1, .of e2, e3⟩
  | loc n =>
    simp only [Rep] at r
    obtain ⟨a, e1, e2⟩ := r
    simp only [asL] at e
    cases em : mu[n]? with
    | none => rw [em] at e; cases e
    | some c =>
      rw [em] at e
      obtain ⟨a', e3, c'⟩ := q.at em
      rw [e2] at e3; cases e3
      cases c with
      | lst xs =>
        cases e
        obtain ⟨vs, f1, f2⟩ := c'
        exact ⟨a, vs, e1, .of f1, f2⟩
      | _ => cases e
  | scr ns =>
    cases e
    simp only [Rep] at r
    obtain ⟨a, e1, e2⟩ := r
    exact ⟨a, _, e1, e2.sq, reps_ints ns⟩
  | _ => cases e
/-- as asL, but the list stands by itself -/
def asL1 (mu : Mu) : D → Option (List D)
  | .lst xs => some xs
  | .loc n => match mu[n]? with
    | some (.lst xs) => some xs
    | _ => none
  | _ => none
theorem RelA.lst1 (q : RelA g al dl mu T sg H) {d : D} {v : V} {ds : List D} (r : Rep g.K g.ca al H d v) (e : asL1 mu d = some ds) : ∃ a vs, v = .ref a ∧ H a = some (.lst vs) ∧ Reps g.K g.ca al H ds vs := by
  cases d with
  | lst xs =>
    cases e
    simp only [Rep] at r
    obtain ⟨a, vs, e1, e2, _, e3⟩ := r
    exact ⟨a, vs, e1, e2, e3⟩
  | loc n =>
    simp only [Rep] at r
    obtain ⟨a, e1, e2⟩ := r
    simp only [asL1] at e
    cases em : mu[n]? with
    | none => rw [em] at e; cases e
    | some c =>
      rw [em] at e
      obtain ⟨a', e3, c'⟩ := q.at em
      rw [e2] at e3; cases e3
      cases c with
      | lst xs =>
        cases e
        obtain ⟨vs, f1, f2⟩ := c'
        exact ⟨a, vs, e1, f1, f2⟩
      | _ => cases e
  | _ => cases e
theorem rep_tup {K : PySem.W.Frag} {ca : Str → Addr} {ds : List D} {v : V} (r : Rep K ca al H (.tup ds) v) : ∃ a vs, v = .ref a ∧ SqT K H a vs ∧ Reps K ca al H ds vs := by
  simp only [Rep] at r
  obtain ⟨a, vs, e1, e2, e3⟩ := r
  exact ⟨a, vs, e1, e2.sq, e3⟩
theorem ptup_tup {K : PySem.W.Frag} {ca : Str → Addr} {ds : List D} {v : V} (r : Rep K ca al H (.ptup ds) v) : Rep K ca al H (.tup ds) v := by
  simp only [Rep] at r ⊢
  obtain ⟨a, o, vs, e1, e2, _, e4, e3⟩ := r
  exact ⟨a, vs, e1, .inl ⟨.inr ⟨o, e2⟩, e4⟩, e3⟩
theorem rep_ptup {K : PySem.W.Frag} {ca : Str → Addr} {ds : List D} {v : V} (r : Rep K ca al H (.ptup ds) v) : ∃ a vs, v = .ref a ∧ SqT K H a vs ∧ Reps K ca al H ds vs := by
  simp only [Rep] at r
  obtain ⟨a, o, vs, e1, e2, _, _, e3⟩ := r
  exact ⟨a, vs, e1, .inl (.inr ⟨o, e2⟩), e3⟩
end

section
variable {g : Gm} {al : Ad} {dl : Lo} {mu : Mu} {T : List (V × D)} {sg : St} {H : Hp}
/-- a tuple or a list -/
def seqOf (mu : Mu) : D → Option (List D)
  | .tup xs => some xs
  | .ptup xs => some xs
  | .lst xs => some xs
  | .loc n => match mu[n]? with
    | some (.lst xs) => some xs
    | _ => none
  | .scr ns => some (ns.map D.int)
  | _ => none
theorem RelA.seq (q : RelA g al dl mu T sg H) {d : D} {v : V} {ds : List D} (r : Rep g.K g.ca al H d v) (e : seqOf mu d = some ds) :
    (∃ a vs, v = .ref a ∧ SqT g.K H a vs ∧ Reps g.K g.ca al H ds vs) ∨ ∃ a vs, v = .ref a ∧ SqL g.K H a vs ∧ Reps g.K g.ca al H ds vs := by
  cases d with
  | tup xs => cases e; exact .inl (rep_tup r)
  | ptup xs => cases e; exact .inl (rep_ptup r)
  | lst xs => exact .inr (q.lst r e)
  | loc n => exact .inr (q.lst r e)
  | scr ns => exact .inr (q.lst r e)
  | _ => cases e
end

/-! ### names, constants -/
section
variable {X : Cx} {g : Gm}
def dVar (i : Nat) : TEd := fun dl mu Q => match dl[i]? with
  | some (some d) => Q d mu
  | _ => False
theorem pd_var (i : Nat) {x : Str} {pos : Pos} (hN : X.N[i]? = some x := by rfl) (hv : Vis X.env.scope x := by first | exact Or.inl rfl | exact Or.inr (Or.inl rfl) | exact Or.inr (Or.inr rfl)) (hd : (x == ("__debug__" : Str)) = false := by decide) (hcd : (x == ("__classdict__" : Str)) = false := by decide) :
    PD X g (.Name x pos) (dVar i) where
  m := fun dl mu Q Q' w h => by
    unfold dVar at h ⊢
    split at h
    · rename_i d e; exact w _ _ h
    · exact h.elim
  pe := PE.of (pe_var hN hv hd hcd) fun sg H Q h => by
    obtain ⟨dl, mu, T, ⟨al, r⟩, h⟩ := h
    unfold dVar at h
    split at h
    · rename_i d e
      obtain ⟨v, e1, e2⟩ := r.loc i d e
      exact ⟨v, e1, h v H ⟨al, r.push e2⟩⟩
    · exact h.elim
def dC (d : D) : TEd := fun _ mu Q => Q d mu
theorem pd_c {e : Expr} {v : V} {d : D} (h : PE X e (tC v)) (s : Sc d v) : PD X g e (dC d) where
  m := fun _ _ _ _ w h => w _ _ h
  pe := PE.of h fun sg H Q h => by
    obtain ⟨dl, mu, T, r, h⟩ := h
    exact h v H (r.sc s)
theorem pd_int {i : Int} {j pos} : PD X g (.Constant (.int i) j pos) (dC (.int i)) := pd_c pe_int rfl
theorem pd_bl {i : Bool} {j pos} : PD X g (.Constant (.bool i) j pos) (dC (.bl i)) := pd_c pe_bl rfl
theorem pd_non {j pos} : PD X g (.Constant .none j pos) (dC .non) := pd_c pe_non rfl
theorem pd_str {x : Str} {j pos} : PD X g (.Constant (.str x) j pos) (dC (.str x)) := pd_c pe_str rfl
theorem pd_gint {x : Str} {i : Int} {pos : Pos} (hg : Gl X x) (hm : ∃ t, X.mg x = some (.int i t)) (hd : (x == ("__debug__" : Str)) = false := by decide) : PD X g (.Name x pos) (dC (.int i)) := by
  obtain ⟨t, e⟩ := hm
  exact pd_c (pe_glob hg e (v := .int i) ⟨t, rfl⟩ hd) rfl
theorem pd_gstr {x z : Str} {pos : Pos} (hg : Gl X x) (hm : ∃ t, X.mg x = some (.str z t)) (hd : (x == ("__debug__" : Str)) = false := by decide) : PD X g (.Name x pos) (dC (.str z)) := by
  obtain ⟨t, e⟩ := hm
  exact pd_c (pe_glob hg e (v := .str z) ⟨t, rfl⟩ hd) rfl

/-! ### two operands -/
abbrev F2 := D → D → Mu → KD → Prop
def MonoF (f : F2) : Prop := ∀ x y mu (Q Q' : KD), (∀ d m, Q d m → Q' d m) → f x y mu Q → f x y mu Q'
def dBin (f : F2) (ta tb : TEd) : TEd := fun dl mu Q => ta dl mu fun x m1 => tb dl m1 fun y m2 => f x y m2 Q
def OpOk (g : Gm) (r : R2) (f : F2) : Prop := ∀ dl mu T sg H v w x y Q, Rel g dl mu ((w, y) :: (v, x) :: T) sg H → f x y mu (fun d mu' => ∀ v' H', Rel g dl mu' ((v', d) :: T) sg H' → Q v' H') → r v w H Q
variable {a b : Expr} {ta tb : TEd} {pos : Pos}
theorem bin_m {f : F2} (mf : MonoF f) (ha : MonoE ta) (hb : MonoE tb) : MonoE (dBin f ta tb) := fun dl mu Q Q' w h =>
  ha dl mu _ _ (fun x m1 h => hb dl m1 _ _ (fun y m2 h => mf x y m2 Q Q' w h) h) h
theorem bin_up {f : F2} {r : R2} (ok : OpOk g r f) (ha : MonoE ta) (hb : MonoE tb) {sg : St} {H : Hp} {Q : VK} (h : upE g (dBin f ta tb) sg H Q) : tOp r (upE g ta) (upE g tb) sg H Q := by
  obtain ⟨dl, mu, T, rl, h⟩ := h
  refine ⟨dl, mu, T, rl, ha dl mu _ _ (fun x m1 h v H1 r1 => ?_) h⟩
  refine ⟨dl, m1, _, r1, hb dl m1 _ _ (fun y m2 h w H2 r2 => ?_) h⟩
  exact ok dl m2 T sg H2 v w x y Q r2 h
theorem pd_bin {op : Operator} {f : F2} {r : R2} (ho : OpR X (binaryOp op) r) (ok : OpOk g r f) (mf : MonoF f) (ha : PD X g a ta) (hb : PD X g b tb) : PD X g (.BinOp a op b pos) (dBin f ta tb) :=
  ⟨bin_m mf ha.m hb.m, PE.of (pe_op ho ha.pe hb.pe) fun _ _ _ h => bin_up ok ha.m hb.m h⟩
theorem pd_cmp {op : CmpOp} {f : F2} {r : R2} (ho : OpR X (compareOp op) r) (ok : OpOk g r f) (mf : MonoF f) (ha : PD X g a ta) (hb : PD X g b tb) (hm : behindInMarks op b = false) : PD X g (.Compare a [op] [b] pos) (dBin f ta tb) :=
  ⟨bin_m mf ha.m hb.m, PE.of (pe_cmpR ho ha.pe hb.pe hm) fun _ _ _ h => bin_up ok ha.m hb.m h⟩

/-! ### tests -/
def dTest (t : TEd) : TTd := fun dl mu Q => t dl mu fun d m => match d with
  | .bl b => Q b m
  | _ => False
theorem qt_val {e : Expr} {t : TEd} (h : PD X g e t) (he : ∀ whole, isTrue e X.env whole = (do let v ← whole; standAt e.pos; holding [v] (truthy v)) := by intro _; rfl) : QT X g e (dTest t) where
  m := fun dl mu Q Q' w h' => h.m dl mu _ _ (fun d m z => by cases d <;> first | exact z.elim | exact w _ _ z) h'
  pt := PT.of (pt_val h.pe he) fun sg H Q h' => by
    obtain ⟨dl, mu, T, r, h'⟩ := h'
    refine ⟨dl, mu, T, r, h.m dl mu _ _ (fun d m z v H1 r1 => ?_) h'⟩
    cases d with
    | bl b => exact ⟨b, r1.bl, z H1 r1.pop⟩
    | _ => exact z.elim
theorem test_cmp {op : CmpOp} {f : F2} {r : R2} (ho : OpR X (compareOp op) r) (ok : OpOk g r f) (mf : MonoF f) (ha : PD X g a ta) (hb : PD X g b tb) (hm : behindInMarks op b = false) : QT X g (.Compare a [op] [b] pos) (dTest (dBin f ta tb)) where
  m := fun dl mu Q Q' w h' => bin_m mf ha.m hb.m dl mu _ _ (fun d m z => by cases d <;> first | exact z.elim | exact w _ _ z) h'
  pt := PT.of (pt_cmpR ho ha.pe hb.pe hm) fun sg H Q h' => by
    obtain ⟨dl, mu, T, r, h'⟩ := h'
    refine bin_up ok ha.m hb.m ⟨dl, mu, T, r, bin_m mf ha.m hb.m dl mu _ _ (fun d m z v H1 r1 => ?_) h'⟩
    cases d with
    | bl b => exact ⟨b, r1.bl, z H1 r1.pop⟩
    | _ => exact z.elim
def dAnd (t u : TTd) : TTd := fun dl mu Q => t dl mu fun b m => Br b (u dl m Q) (Q false m)
def dOr (t u : TTd) : TTd := fun dl mu Q => t dl mu fun b m => Br b (Q true m) (u dl m Q)
def dNot (t : TTd) : TTd := fun dl mu Q => t dl mu fun b m => Q (!b) m
/-- a test within and, or -/
structure QW (X : Cx) (g : Gm) (e : Expr) (t : TTd) : Prop where
  m : MonoE t
  pw : PW X e (upT g t)
theorem QW.qt {e : Expr} {t : TTd} (h : QW X g e t) : QT X g e t := ⟨h.m, h.pw.pt⟩
theorem PW.of {e : Expr} {t t' : TT} (h : PW X e t) (w : ∀ sg H Q, t' sg H Q → t sg H Q) : PW X e t' := ⟨fun wh pins s sg H Q I q => h.run wh pins s sg H Q I (w sg H Q q)⟩
variable {tA tB : TTd} {rest : List Expr}
theorem and_m {t u : TTd} (h : MonoE t) (k : MonoE u) : MonoE (dAnd t u) := fun dl mu Q Q' w z => h dl mu _ _ (fun b m z => by
  cases b with
  | true =>
    simp only [Br, Bool.false_eq_true, ↓reduceIte] at z ⊢
    exact k _ _ _ _ w z
  | false =>
    simp only [Br, Bool.false_eq_true, ↓reduceIte] at z ⊢
    exact w _ _ z) z
theorem or_m {t u : TTd} (h : MonoE t) (k : MonoE u) : MonoE (dOr t u) := fun dl mu Q Q' w z => h dl mu _ _ (fun b m z => by
  cases b with
  | true =>
    simp only [Br, Bool.false_eq_true, ↓reduceIte] at z ⊢
    exact w _ _ z
  | false =>
    simp only [Br, Bool.false_eq_true, ↓reduceIte] at z ⊢
    exact k _ _ _ _ w z) z
theorem and_up {t u : TTd} (ht : MonoE t) {sg : St} {H : Hp} {Q : Bool → Hp → Prop} (h : upT g (dAnd t u) sg H Q) : tAnd (upT g t) (upT g u) sg H Q := by
  obtain ⟨dl, mu, T, r, h⟩ := h
  refine ⟨dl, mu, T, r, ht dl mu _ _ (fun b m z H1 r1 => ?_) h⟩
  cases b with
  | true =>
    simp only [Br, Bool.false_eq_true, ↓reduceIte] at z ⊢
    exact ⟨dl, m, T, r1, z⟩
  | false =>
    simp only [Br, Bool.false_eq_true, ↓reduceIte] at z ⊢
    exact z H1 r1
theorem or_up {t u : TTd} (ht : MonoE t) {sg : St} {H : Hp} {Q : Bool → Hp → Prop} (h : upT g (dOr t u) sg H Q) : tOr (upT g t) (upT g u) sg H Q := by
  obtain ⟨dl, mu, T, r, h⟩ := h
  refine ⟨dl, mu, T, r, ht dl mu _ _ (fun b m z H1 r1 => ?_) h⟩
  cases b with
  | true =>
    simp only [Br, Bool.false_eq_true, ↓reduceIte] at z ⊢
    exact z H1 r1
  | false =>
    simp only [Br, Bool.false_eq_true, ↓reduceIte] at z ⊢
    exact ⟨dl, m, T, r1, z⟩
theorem qw_and1 (ha : QT X g a tA) : QW X g (.BoolOp .And [a] pos) tA := ⟨ha.m, pw_and1 ha.pt⟩
theorem qw_or1 (ha : QT X g a tA) : QW X g (.BoolOp .Or [a] pos) tA := ⟨ha.m, pw_or1 ha.pt⟩
theorem qw_and (ha : QT X g a tA) (hb : QW X g (.BoolOp .And (b :: rest) pos) tB) : QW X g (.BoolOp .And (a :: b :: rest) pos) (dAnd tA tB) :=
  ⟨and_m ha.m hb.m, PW.of (pw_and ha.pt hb.pw) fun _ _ _ h => and_up ha.m h⟩
theorem qw_or (ha : QT X g a tA) (hb : QW X g (.BoolOp .Or (b :: rest) pos) tB) : QW X g (.BoolOp .Or (a :: b :: rest) pos) (dOr tA tB) :=
  ⟨or_m ha.m hb.m, PW.of (pw_or ha.pt hb.pw) fun _ _ _ h => or_up ha.m h⟩
theorem qt_not (ha : QT X g a tA) : QT X g (.UnaryOp .Not a pos) (dNot tA) where
  m := fun dl mu Q Q' w h => ha.m dl mu _ _ (fun b m z => w _ _ z) h
  pt := PT.of (pt_not ha.pt) fun sg H Q h => by
    obtain ⟨dl, mu, T, r, h⟩ := h
    exact ⟨dl, mu, T, r, ha.m dl mu _ _ (fun b m z H1 r1 => z H1 r1) h⟩
/-- and, or, not as values, of bools -/
def dAndV (t u : TEd) : TEd := fun dl mu Q => t dl mu fun d m => match d with
  | .bl b => Br b (u dl m Q) (Q (.bl false) m)
  | _ => False
def dOrV (t u : TEd) : TEd := fun dl mu Q => t dl mu fun d m => match d with
  | .bl b => Br b (Q (.bl true) m) (u dl m Q)
  | _ => False
def dNotV (t : TEd) : TEd := fun dl mu Q => t dl mu fun d m => match d with
  | .bl b => Q (.bl (!b)) m
  | _ => False
theorem pd_one {op} {t : TEd} (h : PD X g a t) : PD X g (.BoolOp op [a] pos) t := ⟨h.m, pe_one h.pe⟩
theorem pd_and (ha : PD X g a ta) (hb : PD X g (.BoolOp .And (b :: rest) pos) tb) : PD X g (.BoolOp .And (a :: b :: rest) pos) (dAndV ta tb) where
  m := fun dl mu Q Q' w h => ha.m dl mu _ _ (fun d m z => by
    cases d with
    | bl c =>
      cases c with
      | true =>
        simp only [Br, Bool.false_eq_true, ↓reduceIte] at z ⊢
        exact hb.m _ _ _ _ w z
      | false =>
        simp only [Br, Bool.false_eq_true, ↓reduceIte] at z ⊢
        exact w _ _ z
    | _ => exact z.elim) h
  pe := PE.of (pe_and ha.pe hb.pe) fun sg H Q h => by
    obtain ⟨dl, mu, T, r, h⟩ := h
    refine ⟨dl, mu, T, r, ha.m dl mu _ _ (fun d m z v H1 r1 => ?_) h⟩
    cases d with
    | bl c =>
      refine ⟨c, r1.bl, ?_⟩
      cases c with
      | true =>
        simp only [Br, Bool.false_eq_true, ↓reduceIte] at z ⊢
        exact ⟨dl, m, T, r1.pop, z⟩
      | false =>
        simp only [Br, Bool.false_eq_true, ↓reduceIte] at z ⊢
        exact z _ _ (r1.pop.sc rfl)
    | _ => exact z.elim
theorem pd_or (ha : PD X g a ta) (hb : PD X g (.BoolOp .Or (b :: rest) pos) tb) : PD X g (.BoolOp .Or (a :: b :: rest) pos) (dOrV ta tb) where
  m := fun dl mu Q Q' w h => ha.m dl mu _ _ (fun d m z => by
    cases d with
    | bl c =>
      cases c with
      | true =>
        simp only [Br, Bool.false_eq_true, ↓reduceIte] at z ⊢
        exact w _ _ z
      | false =>
        simp only [Br, Bool.false_eq_true, ↓reduceIte] at z ⊢
        exact hb.m _ _ _ _ w z
    | _ => exact z.elim) h
  pe := PE.of (pe_or ha.pe hb.pe) fun sg H Q h => by
    obtain ⟨dl, mu, T, r, h⟩ := h
    refine ⟨dl, mu, T, r, ha.m dl mu _ _ (fun d m z v H1 r1 => ?_) h⟩
    cases d with
    | bl c =>
      refine ⟨c, r1.bl, ?_⟩
      cases c with
      | true =>
        simp only [Br, Bool.false_eq_true, ↓reduceIte] at z ⊢
        exact z _ _ (r1.pop.sc rfl)
      | false =>
        simp only [Br, Bool.false_eq_true, ↓reduceIte] at z ⊢
        exact ⟨dl, m, T, r1.pop, z⟩
    | _ => exact z.elim
theorem pd_not (ha : PD X g a ta) : PD X g (.UnaryOp .Not a pos) (dNotV ta) where
  m := fun dl mu Q Q' w h => ha.m dl mu _ _ (fun d m z => by cases d <;> first | exact z.elim | exact w _ _ z) h
  pe := PE.of (pe_not ha.pe) fun sg H Q h => by
    obtain ⟨dl, mu, T, r, h⟩ := h
    refine ⟨dl, mu, T, r, ha.m dl mu _ _ (fun d m z v H1 r1 => ?_) h⟩
    cases d with
    | bl c => exact ⟨c, r1.bl, z _ _ (r1.pop.sc rfl)⟩
    | _ => exact z.elim
/-- x if c else y -/
def dIf (t : TTd) (ta tb : TEd) : TEd := fun dl mu Q => t dl mu fun c m => Br c (ta dl m Q) (tb dl m Q)
theorem pd_if {c : Expr} {tc : TTd} (hc : QT X g c tc) (ha : PD X g a ta) (hb : PD X g b tb) : PD X g (.IfExp c a b pos) (dIf tc ta tb) where
  m := fun dl mu Q Q' w h => hc.m dl mu _ _ (fun d m z => by
    cases d with
    | true =>
      simp only [Br, Bool.false_eq_true, ↓reduceIte] at z ⊢
      exact ha.m _ _ _ _ w z
    | false =>
      simp only [Br, Bool.false_eq_true, ↓reduceIte] at z ⊢
      exact hb.m _ _ _ _ w z) h
  pe := PE.of (pe_ifExp hc.pt ha.pe hb.pe) fun sg H Q h => by
    obtain ⟨dl, mu, T, r, h⟩ := h
    refine ⟨dl, mu, T, r, hc.m dl mu _ _ (fun d m z H1 r1 => ?_) h⟩
    cases d with
    | true =>
      simp only [Br, Bool.false_eq_true, ↓reduceIte] at z ⊢
      exact ⟨dl, m, T, r1, z⟩
    | false =>
      simp only [Br, Bool.false_eq_true, ↓reduceIte] at z ⊢
      exact ⟨dl, m, T, r1, z⟩
/-- a < b < c -/
def dChain (f f' : F2) (ta tb tc : TEd) : TEd := fun dl mu Q => ta dl mu fun x m1 => tb dl m1 fun y m2 => f x y m2 fun d m3 => match d with
  | .bl k => Br k (tc dl m3 fun z m4 => f' y z m4 Q) (Q (.bl false) m3)
  | _ => False

/-! ### arguments -/
def dNil : TAd := fun _ mu Q => Q [] mu
def dCons (t : TEd) (u : TAd) : TAd := fun dl mu Q => t dl mu fun d m1 => u dl m1 fun ds m2 => Q (d :: ds) m2
variable {e : Expr} {es : List Expr} {te : TEd} {tr : TAd}
theorem qa_nil : QA X g [] dNil where
  m := fun _ _ _ _ w h => w _ _ h
  pa := PA.of pa_nil fun sg H Q h => by
    obtain ⟨dl, mu, T, r, h⟩ := h
    exact h [] H rfl r
theorem qa_cons (ha : PD X g e te) (hr : QA X g es tr) (hs : starEach (e :: es) X.env = (false, eval e X.env) :: starEach es X.env := by rfl) : QA X g (e :: es) (dCons te tr) where
  m := fun dl mu Q Q' w h => ha.m dl mu _ _ (fun d m z => hr.m dl m _ _ (fun ds m2 z => w _ _ z) z) h
  pa := PA.of (pa_cons ha.pe hr.pa hs) fun sg H Q h => by
    obtain ⟨dl, mu, T, r, h⟩ := h
    refine ⟨dl, mu, T, r, ha.m dl mu _ _ (fun d m z v H1 r1 => ?_) h⟩
    refine ⟨dl, m, _, r1, hr.m dl m _ _ (fun ds m2 z vs H2 hl r2 => ?_) z⟩
    refine z (v :: vs) H2 (by simp [hl]) (r2.sub fun p hp => ?_)
    simp only [List.zip_cons_cons, List.cons_append, List.mem_cons, List.mem_append] at hp ⊢
    rcases hp with h | h | h
    · exact .inr (.inl h)
    · exact .inl h
    · exact .inr (.inr h)

/-! ### displays -/
def dTup (t : TAd) : TEd := fun dl mu Q => t dl mu fun ds m => ds.length ≤ sizeLine ∧ Q (.tup ds) m
def dLst (t : TAd) : TEd := fun dl mu Q => t dl mu fun ds m => ds.length ≤ sizeLine ∧ Q (.lst ds) m
/-- a list that will be changed -/
def dLstM (t : TAd) : TEd := fun dl mu Q => t dl mu fun ds m => ds.length ≤ sizeLine ∧ Q (.loc m.length) (m ++ [.lst ds])
theorem pd_tup {x1} (h : QA X g es tr) : PD X g (.Tuple es x1 pos) (dTup tr) where
  m := fun dl mu Q Q' w z => h.m dl mu _ _ (fun ds m z => ⟨z.1, w _ _ z.2⟩) z
  pe := PE.of (pe_tup h.pa) fun sg H Q z => by
    obtain ⟨dl, mu, T, r, z⟩ := z
    refine ⟨dl, mu, T, r, h.m dl mu _ _ (fun ds m z vs H1 hl r1 => ⟨by rw [hl]; exact z.1, fun p n => ?_⟩) z⟩
    obtain ⟨al, q, k⟩ := r1.reps hl
    exact z.2 _ _ ((q.sub fun _ h => List.mem_append_right _ h).newTup k n)
theorem pd_lst (h : QA X g es tr) : PD X g (.List es pos) (dLst tr) where
  m := fun dl mu Q Q' w z => h.m dl mu _ _ (fun ds m z => ⟨z.1, w _ _ z.2⟩) z
  pe := PE.of (pe_lst h.pa) fun sg H Q z => by
    obtain ⟨dl, mu, T, r, z⟩ := z
    refine ⟨dl, mu, T, r, h.m dl mu _ _ (fun ds m z vs H1 hl r1 => ⟨by rw [hl]; exact z.1, fun p n => ?_⟩) z⟩
    obtain ⟨al, q, k⟩ := r1.reps hl
    exact z.2 _ _ ((q.sub fun _ h => List.mem_append_right _ h).newLst k n)
theorem pd_lstM (h : QA X g es tr) : PD X g (.List es pos) (dLstM tr) where
  m := fun dl mu Q Q' w z => h.m dl mu _ _ (fun ds m z => ⟨z.1, w _ _ z.2⟩) z
  pe := PE.of (pe_lst h.pa) fun sg H Q z => by
    obtain ⟨dl, mu, T, r, z⟩ := z
    refine ⟨dl, mu, T, r, h.m dl mu _ _ (fun ds m z vs H1 hl r1 => ⟨by rw [hl]; exact z.1, fun p n => ?_⟩) z⟩
    obtain ⟨al, q, k⟩ := r1.reps hl
    exact z.2 _ _ ((q.sub fun _ h => List.mem_append_right _ h).newLstL k n)
end
end VL

/-! VsStmt: statements over data. -/
namespace VL
open PySem PySem.Spec PyProof.Rows L2

structure EndsD where
  nx : Lo → Mu → Prop
  rt : D → Mu → Prop
  bk : Lo → Mu → Prop := fun _ _ => False
  ct : Lo → Mu → Prop := fun _ _ => False
abbrev TSd := EndsD → Lo → Mu → Prop
structure EndsD.Le (A B : EndsD) : Prop where
  nx : ∀ dl mu, A.nx dl mu → B.nx dl mu
  rt : ∀ d mu, A.rt d mu → B.rt d mu
  bk : ∀ dl mu, A.bk dl mu → B.bk dl mu
  ct : ∀ dl mu, A.ct dl mu → B.ct dl mu
theorem EndsD.Le.refl (A : EndsD) : A.Le A := ⟨fun _ _ h => h, fun _ _ h => h, fun _ _ h => h, fun _ _ h => h⟩
def MonoS (t : TSd) : Prop := ∀ A B : EndsD, A.Le B → ∀ dl mu, t A dl mu → t B dl mu
structure Fits (g : Gm) (T : List (V × D)) (A : EndsD) (E : Ends) : Prop where
  nx : ∀ dl mu sg H, Rel g dl mu T sg H → A.nx dl mu → E.nx sg H
  rt : ∀ dl mu sg H v d, Rel g dl mu ((v, d) :: T) sg H → A.rt d mu → E.rt v H
  bk : ∀ dl mu sg H, Rel g dl mu T sg H → A.bk dl mu → E.bk sg H
  ct : ∀ dl mu sg H, Rel g dl mu T sg H → A.ct dl mu → E.ct sg H
def upS (g : Gm) (t : TSd) : TS := fun E sg H => ∃ dl mu T A, Rel g dl mu T sg H ∧ Fits g T A E ∧ t A dl mu
structure QS (X : Cx) (g : Gm) (st : Stmt) (t : TSd) : Prop where
  m : MonoS t
  ps : PS X st (upS g t)
structure QSs (X : Cx) (g : Gm) (st : List Stmt) (t : TSd) : Prop where
  m : MonoS t
  ps : PSs X st (upS g t)
section
variable {X : Cx} {g : Gm} {st : Stmt} {rest : List Stmt} {t u : TSd} {e : Expr} {te : TEd} {pos : Pos}
def sNext : TSd := fun A dl mu => A.nx dl mu
def sSeq (t u : TSd) : TSd := fun A dl mu => t { A with nx := u A } dl mu
theorem qs_nil : QSs X g [] sNext := ⟨fun _ _ h dl mu z => h.nx dl mu z, PSs.of pss_nil fun E sg H z => by
  obtain ⟨dl, mu, T, A, r, f, z⟩ := z
  exact f.nx dl mu sg H r z⟩
theorem seq_m (ht : MonoS t) (hu : MonoS u) : MonoS (sSeq t u) := fun A B h dl mu z => ht { A with nx := u A } { B with nx := u B } ⟨fun dl mu z => hu A B h dl mu z, h.rt, h.bk, h.ct⟩ dl mu z
theorem qs_cons (h1 : QS X g st t) (h2 : QSs X g rest u) : QSs X g (st :: rest) (sSeq t u) where
  m := seq_m h1.m h2.m
  ps := PSs.of (pss_cons h1.ps h2.ps) fun E sg H z => by
    obtain ⟨dl, mu, T, A, r, f, z⟩ := z
    exact ⟨dl, mu, T, { A with nx := u A }, r, ⟨fun dl mu sg H r z => ⟨dl, mu, T, A, r, f, z⟩, f.rt, f.bk, f.ct⟩, z⟩
theorem qs_one (h1 : QS X g st t) : QSs X g [st] t := ⟨h1.m, pss_one h1.ps⟩
theorem qs_pass : QS X g (.Pass pos) sNext := ⟨fun _ _ h dl mu z => h.nx dl mu z, PS.of ps_pass fun E sg H z => by
  obtain ⟨dl, mu, T, A, r, f, z⟩ := z
  exact f.nx dl mu sg H r z⟩
def sBrk : TSd := fun A dl mu => A.bk dl mu
theorem qs_break : QS X g (.Break pos) sBrk := ⟨fun _ _ h dl mu z => h.bk dl mu z, PS.of ps_break fun E sg H z => by
  obtain ⟨dl, mu, T, A, r, f, z⟩ := z
  exact f.bk dl mu sg H r z⟩
def sNo : TSd := fun _ _ _ => False
theorem qs_never : QS X g st sNo := ⟨fun _ _ _ _ _ z => z, PS.of (e := st) ps_never fun E sg H z => by
  obtain ⟨dl, mu, T, A, r, f, z⟩ := z
  exact z⟩
theorem qss_never {sts : List Stmt} : QSs X g sts sNo := ⟨fun _ _ _ _ _ z => z, PSs.of (e := sts) pss_never fun E sg H z => by
  obtain ⟨dl, mu, T, A, r, f, z⟩ := z
  exact z⟩
def sExpr (te : TEd) : TSd := fun A dl mu => te dl mu fun _ m => A.nx dl m
theorem qs_expr (he : PD X g e te) (hs : swapsWith e none pos.line X.env = pure false := by rfl) : QS X g (.Expr e pos) (sExpr te) where
  m := fun A B h dl mu z => he.m dl mu _ _ (fun d m z => h.nx _ _ z) z
  ps := PS.of (ps_expr he.pe hs) fun E sg H z => by
    obtain ⟨dl, mu, T, A, r, f, z⟩ := z
    exact ⟨dl, mu, T, r, he.m dl mu _ _ (fun d m z v H1 r1 => f.nx dl m sg H1 r1.pop z) z⟩
def sRet (te : TEd) : TSd := fun A dl mu => te dl mu A.rt
theorem qs_ret (he : PD X g e te) : QS X g (.Return (some e) pos) (sRet te) where
  m := fun A B h dl mu z => he.m dl mu _ _ (fun d m z => h.rt _ _ z) z
  ps := PS.of (ps_ret he.pe) fun E sg H z => by
    obtain ⟨dl, mu, T, A, r, f, z⟩ := z
    exact ⟨dl, mu, T, r, he.m dl mu _ _ (fun d m z v H1 r1 => f.rt dl m sg H1 v d r1 z) z⟩
def sRetN : TSd := fun A _ mu => A.rt .non mu
theorem qs_retN : QS X g (.Return none pos) sRetN where
  m := fun A B h dl mu z => h.rt _ _ z
  ps := PS.of ps_retN fun E sg H z => by
    obtain ⟨dl, mu, T, A, r, f, z⟩ := z
    exact f.rt dl mu sg H .non .non (r.sc rfl) z
def sIf (c : TTd) (t u : TSd) : TSd := fun A dl mu => c dl mu fun b m => Br b (t A dl m) (u A dl m)
theorem qs_if {c : Expr} {a b : List Stmt} {tc : TTd} (hc : QT X g c tc) (ha : QSs X g a t) (hb : QSs X g b u) : QS X g (.If c a b pos) (sIf tc t u) where
  m := fun A B h dl mu z => hc.m dl mu _ _ (fun d m z => by
    cases d with
    | true =>
      simp only [Br, Bool.false_eq_true, ↓reduceIte] at z ⊢
      exact ha.m _ _ h _ _ z
    | false =>
      simp only [Br, Bool.false_eq_true, ↓reduceIte] at z ⊢
      exact hb.m _ _ h _ _ z) z
  ps := PS.of (ps_if hc.pt ha.ps hb.ps) fun E sg H z => by
    obtain ⟨dl, mu, T, A, r, f, z⟩ := z
    refine ⟨dl, mu, T, r, hc.m dl mu _ _ (fun d m z H1 r1 => ?_) z⟩
    cases d with
    | true =>
      simp only [Br, Bool.false_eq_true, ↓reduceIte] at z ⊢
      exact ⟨dl, m, T, A, r1, f, z⟩
    | false =>
      simp only [Br, Bool.false_eq_true, ↓reduceIte] at z ⊢
      exact ⟨dl, m, T, A, r1, f, z⟩

/-! ### targets -/
abbrev TGd := D → Lo → Mu → (Lo → Mu → Prop) → Prop
abbrev TGsd := List D → Lo → Mu → (Lo → Mu → Prop) → Prop
def MonoG {α : Type} (t : α → Lo → Mu → (Lo → Mu → Prop) → Prop) : Prop := ∀ d dl mu (Q Q' : Lo → Mu → Prop), (∀ dl mu, Q dl mu → Q' dl mu) → t d dl mu Q → t d dl mu Q'
/-- the slots ws alone may have changed -/
def Tch (ws : List Nat) (sg sg' : St) : Prop := sg'.length = sg.length ∧ ∀ i, i ∉ ws → sg'[i]? = sg[i]?
theorem Tch.same {ws : List Nat} {sg sg' : St} (h : Tch ws sg sg') : L2.wipe sg' ws = L2.wipe sg ws := by
  apply List.ext_getElem?
  intro i
  by_cases hi : i ∈ ws
  · have key : ∀ (s : St), (L2.wipe s ws)[i]? = if i < s.length then some none else none := fun s => by
      by_cases hl : i < s.length
      · rw [if_pos hl]
        cases e : (L2.wipe s ws)[i]? with
        | none => rw [List.getElem?_eq_none_iff, wipe_length] at e; omega
        | some o =>
          cases o with
          | none => rfl
          | some v => exact absurd hi (wipe_some e).2
      · rw [if_neg hl]
        exact List.getElem?_eq_none_iff.mpr (by rw [wipe_length]; omega)
    rw [key, key, h.1]
  · rw [wipe_out hi, wipe_out hi]; exact h.2 i hi
theorem Tch.refl (sg : St) : Tch [] sg sg := ⟨rfl, fun _ _ => rfl⟩
theorem Tch.set (i : Nat) (v : Option V) (sg : St) : Tch [i] sg (sg.set i v) := ⟨List.length_set, fun j hj => List.getElem?_set_ne (fun z => hj (by simp [z]))⟩
theorem Tch.trans {ws ws' : List Nat} {a b c : St} (h : Tch ws a b) (k : Tch ws' b c) : Tch (ws ++ ws') a c := ⟨k.1.trans h.1, fun i hi => (k.2 i fun z => hi (List.mem_append_right _ z)).trans (h.2 i fun z => hi (List.mem_append_left _ z))⟩
def upG (g : Gm) (ws : List Nat) (t : TGd) : TG := fun v sg H Q => ∃ dl mu T d, Rel g dl mu ((v, d) :: T) sg H ∧ t d dl mu fun dl' mu' => ∀ sg' H', Tch ws sg sg' → Rel g dl' mu' T sg' H' → Q sg' H'
def upGs (g : Gm) (ws : List Nat) (t : TGsd) : TGs := fun vs sg H Q => ∃ dl mu T ds, vs.length = ds.length ∧ Rel g dl mu (vs.zip ds ++ T) sg H ∧ t ds dl mu fun dl' mu' => ∀ sg' H', Tch ws sg sg' → Rel g dl' mu' T sg' H' → Q sg' H'
structure QG (X : Cx) (g : Gm) (tg : Expr) (ws : List Nat) (t : TGd) : Prop where
  m : MonoG t
  pg : PG X tg (upG g ws t)
structure QGs (X : Cx) (g : Gm) (tg : List Expr) (ws : List Nat) (t : TGsd) : Prop where
  m : MonoG t
  pg : PGs X tg (upGs g ws t)
theorem PG.of {tg : Expr} {t t' : TG} (h : PG X tg t) (w : ∀ v sg H Q, t' v sg H Q → t v sg H Q) : PG X tg t' := ⟨fun pins s sg H v u Q I r q => h.run pins s sg H v u Q I r (w v sg H Q q)⟩
theorem PGs.of {tg : List Expr} {t t' : TGs} (h : PGs X tg t) (w : ∀ v sg H Q, t' v sg H Q → t v sg H Q) : PGs X tg t' := ⟨fun pins s sg H v u Q I r q => h.run pins s sg H v u Q I r (w v sg H Q q)⟩
theorem PG.or {tg : Expr} {t t' : TG} (h : PG X tg t) (h' : PG X tg t') : PG X tg (fun v sg H Q => t v sg H Q ∨ t' v sg H Q) := ⟨fun pins s sg H v u Q I r q => q.elim (h.run pins s sg H v u Q I r) (h'.run pins s sg H v u Q I r)⟩
def kName (i : Nat) : TGd := fun d dl mu Q => Q (dl.set i (some d)) mu
theorem qg_name {i : Nat} {x : Str} (hN : X.N.Nodup) (hi : X.N[i]? = some x) (hx : L2.Loc X.env.scope x) (hf : X.fn x = true ∨ X.env.scope.names.lookup x = some .local := by first | exact .inl rfl | exact .inr rfl | assumption) : QG X g (.Name x pos) [i] (kName i) where
  m := fun _ _ _ _ _ w z => w _ _ z
  pg := PG.of (pg_name hN hi hx hf) fun v sg H Q z => by
    obtain ⟨dl, mu, T, d, ⟨al, r⟩, z⟩ := z
    exact z _ _ (Tch.set i _ sg) ⟨al, r.set i⟩
def kNil : TGsd := fun ds dl mu Q => match ds with
  | [] => Q dl mu
  | _ => False
def kCons (t : TGd) (u : TGsd) : TGsd := fun ds dl mu Q => match ds with
  | d :: r => t d dl mu fun dl' mu' => u r dl' mu' Q
  | [] => False
theorem qgs_nil : QGs X g [] [] kNil where
  m := fun ds _ _ _ _ w z => by cases ds <;> first | exact w _ _ z | exact z.elim
  pg := PGs.of pgs_nil fun v sg H Q z => by
    obtain ⟨dl, mu, T, ds, hl, r, z⟩ := z
    cases ds with
    | nil =>
      have e : v = [] := List.eq_nil_of_length_eq_zero hl
      subst e
      exact ⟨rfl, z _ _ (Tch.refl sg) r⟩
    | cons _ _ => exact z.elim
theorem qgs_cons {e : Expr} {es : List Expr} {t : TGd} {u : TGsd} {ws ws' : List Nat} (h1 : QG X g e ws t) (h2 : QGs X g es ws' u)
    (hs : (assignEach (e :: es) X.env).map (·.2) = assign e X.env :: (assignEach es X.env).map (·.2) := by rfl) : QGs X g (e :: es) (ws ++ ws') (kCons t u) where
  m := fun ds dl mu Q Q' w z => by
    cases ds with
    | nil => exact z.elim
    | cons d r => exact h1.m d dl mu _ _ (fun dl mu z => h2.m _ _ _ _ _ w z) z
  pg := PGs.of (pgs_cons h1.pg h2.pg hs) fun v sg H Q z => by
    obtain ⟨dl, mu, T, ds, hl, r, z⟩ := z
    cases ds with
    | nil => exact z.elim
    | cons d ds =>
      cases v with
      | nil => simp at hl
      | cons v vs =>
        have hl' : vs.length = ds.length := by simpa using hl
        refine ⟨v, vs, rfl, dl, mu, vs.zip ds ++ T, d, r, h1.m d dl mu _ _ (fun dl' mu' z sg' H' tc r' => ?_) z⟩
        exact ⟨dl', mu', T, ds, hl', r', h2.m _ _ _ _ _ (fun dl2 mu2 z sg2 H2 tc2 r2 => z sg2 H2 (tc.trans tc2) r2) z⟩
/-- a, b = a tuple or a list -/
def kSeq (n : Nat) (t : TGsd) : TGd := fun d dl mu Q => match seqOf mu d with
  | some ds => ds.length = n ∧ t ds dl mu Q
  | none => False
theorem tup_go {es : List Expr} {t : TGsd} {ws : List Nat} (h : QGs X g es ws t) (hK : X.K = g.K) {n : Nat} {v : V} {sg : St} {H : Hp} {Q : St → Hp → Prop} (z : upG g ws (kSeq n t) v sg H Q) : gTup X.K n (upGs g ws t) v sg H Q ∨ gLst X.K n (upGs g ws t) v sg H Q := by
  obtain ⟨dl, mu, T, d, r, z⟩ := z
  obtain ⟨al, q, k⟩ := r.top
  have key : ∀ {vs : List V} {ds : List D}, Reps g.K g.ca al H ds vs → t ds dl mu (fun dl' mu' => ∀ sg' H', Tch ws sg sg' → Rel g dl' mu' T sg' H' → Q sg' H') → upGs g ws t vs sg H Q := fun {vs ds} k z =>
    ⟨dl, mu, T, ds, reps_len k, ⟨al, (q.sub fun _ h => List.mem_cons_of_mem _ h).zip k⟩, z⟩
  unfold kSeq at z
  cases e : seqOf mu d with
  | none => rw [e] at z; exact z.elim
  | some ds =>
    rw [e] at z
    rcases q.seq k e with ⟨a, vs, e1, e2, e3⟩ | ⟨a, vs, e1, e2, e3⟩
    · exact .inl ⟨a, vs, e1, by rw [hK]; exact e2, by rw [reps_len e3]; exact z.1, key e3 z.2⟩
    · exact .inr ⟨a, vs, e1, by rw [hK]; exact e2, by rw [reps_len e3]; exact z.1, key e3 z.2⟩
theorem seq_mono {n : Nat} {t : TGsd} (h : MonoG t) : MonoG (kSeq n t) := fun d dl mu Q Q' w z => by
  unfold kSeq at z ⊢
  cases e : seqOf mu d with
  | none => rw [e] at z; exact z.elim
  | some ds =>
    rw [e] at z
    exact ⟨z.1, h _ _ _ _ _ w z.2⟩
theorem qg_tup {es : List Expr} {k : Nat} {t : TGsd} {n : Nat} {ws : List Nat} (hK : X.K = g.K) (hc : X.calm = true) (h : QGs X g es ws t)
    (hn : (assignEach es X.env).length = n := by rfl) (hst : (assignEach es X.env).findIdx? (·.1) = none := by rfl) : QG X g (.Tuple es k pos) ws (kSeq n t) :=
  ⟨seq_mono h.m, PG.of (PG.or (pg_tup hc h.pg hn hst) (pg_lst hc h.pg hn hst)) fun _ _ _ _ z => tup_go h hK z⟩

/-! ### assignments -/
def sAsg (te : TEd) (k : TGd) : TSd := fun A dl mu => te dl mu fun d m => k d dl m A.nx
theorem asg_m {k : TGd} (h1 : MonoE te) (h2 : MonoG k) : MonoS (sAsg te k) := fun A B h dl mu z => h1 dl mu _ _ (fun d m z => h2 _ _ _ _ _ h.nx z) z
theorem asg_up {k : TGd} {ws : List Nat} (h1 : MonoE te) (h2 : MonoG k) {E : Ends} {sg : St} {H : Hp} (z : upS g (sAsg te k) E sg H) : tAsg (upE g te) (upG g ws k) E sg H := by
  obtain ⟨dl, mu, T, A, r, f, z⟩ := z
  refine ⟨dl, mu, T, r, h1 dl mu _ _ (fun d m z v H1 r1 => ?_) z⟩
  exact ⟨dl, m, T, d, r1, h2 _ _ _ _ _ (fun dl' mu' z sg' H' _ r' => f.nx _ _ _ _ r' z) z⟩
theorem qs_asg {tg : Expr} {k : TGd} {ws : List Nat} (he : PD X g e te) (hg : QG X g tg ws k) (hs : swapsWithSole [tg] e pos.line X.env = pure false := by rfl) (hw : swappedStores [tg] e X.env = pure none := by rfl)
    (h1 : (assignEach [tg] X.env).map (·.2) = [assign tg X.env] := by rfl) : QS X g (.Assign [tg] e pos) (sAsg te k) :=
  ⟨asg_m he.m hg.m, PS.of (ps_asg he.pe hg.pg hs hw h1) fun _ _ _ z => asg_up he.m hg.m z⟩
theorem name_m (i : Nat) : MonoG (kName i) := fun _ _ _ _ _ w z => w _ _ z
theorem set_up {i : Nat} (h1 : MonoE te) {E : Ends} {sg : St} {H : Hp} (z : upS g (sAsg te (kName i)) E sg H) : tAsg (upE g te) (gName i) E sg H := by
  obtain ⟨dl, mu, T, A, r, f, z⟩ := z
  refine ⟨dl, mu, T, r, h1 dl mu _ _ (fun d m z v H1 r1 => ?_) z⟩
  obtain ⟨al, r1⟩ := r1
  exact f.nx _ _ _ _ ⟨al, r1.set i⟩ z
theorem qs_set {i : Nat} {x : Str} {pos' : Pos} (hN : X.N.Nodup) (hi : X.N[i]? = some x) (hx : L2.Loc X.env.scope x) (he : PD X g e te) (hs : swapsWith e (some (.Name x pos')) pos.line X.env = pure false := by rfl) (hf : X.fn x = true ∨ X.env.scope.names.lookup x = some .local := by first | exact .inl rfl | exact .inr rfl | assumption) :
    QS X g (.Assign [.Name x pos'] e pos) (sAsg te (kName i)) :=
  ⟨asg_m he.m (name_m i), PS.of (ps_set hN hi hx he.pe hs hf) fun _ _ _ z => set_up he.m z⟩
/-- a, b = x, y (two names of the def) -/
def sPar (i j : Nat) (ta : TAd) : TSd := fun A dl mu => ta dl mu fun ds m => match ds with
  | [x, y] => A.nx ((dl.set i (some x)).set j (some y)) m
  | _ => False
theorem qs_par {i j : Nat} {x y : Str} {a b : Expr} {ta : TAd} {px py pt : Pos} {kt k2 pt2} (hc : X.calm = true) (hN : X.N.Nodup) (hi : X.N[i]? = some x) (hj : X.N[j]? = some y) (hij : i ≠ j) (ha : QA X g [a, b] ta)
    (hp : ∀ {t : TA}, PA X [a, b] t → PS X (.Assign [.Tuple [.Name x px, .Name y py] kt pt] (.Tuple [a, b] k2 pt2) pos) (tPar i j t)) :
    QS X g (.Assign [.Tuple [.Name x px, .Name y py] kt pt] (.Tuple [a, b] k2 pt2) pos) (sPar i j ta) where
  m := fun A B h dl mu z => ha.m dl mu _ _ (fun ds m z => by
    match ds, z with
    | [x, y], z => exact h.nx _ _ z) z
  ps := PS.of (hp ha.pa) fun E sg H z => by
    obtain ⟨dl, mu, T, A, r, f, z⟩ := z
    refine ⟨dl, mu, T, r, ha.m dl mu _ _ (fun ds m z vs H1 hl r1 => ?_) z⟩
    match ds, vs, hl, z with
    | [x, y], [v, w], _, z =>
      obtain ⟨al, r1⟩ := r1
      refine ⟨v, w, rfl, f.nx _ _ _ _ ⟨al, ?_⟩ z⟩
      have r2 : RelA g al (dl.set i (some x)) m ((w, y) :: T) (sg.set i (some v)) H1 := r1.set i
      exact r2.set j
end
end VL

/-! VsCall: defs, their promises over data, calls. -/
namespace VL
open PySem PySem.Spec PyProof.Rows L2

/-! ### places below a number -/
mutual
def lowD (n : Nat) : D → Bool
  | .non | .bl _ | .int _ | .str _ | .cls _ | .scr _ | .ty _ => true
  | .tup xs => lowL n xs
  | .ptup xs => lowL n xs
  | .lst xs => lowL n xs
  | .dct ks => lowK n ks
  | .obj _ fs => lowF n fs
  | .exc _ fs => lowF n fs
  | .tab _ => true
  | .fnv _ => true
  | .loc m => decide (m < n)
def lowL (n : Nat) : List D → Bool
  | [] => true
  | d :: ds => lowD n d && lowL n ds
def lowK (n : Nat) : List (Key × D) → Bool
  | [] => true
  | (_, d) :: ds => lowD n d && lowK n ds
def lowF (n : Nat) : List (Str × D) → Bool
  | [] => true
  | (_, d) :: ds => lowD n d && lowF n ds
end
section
variable {K : PySem.W.Frag} {ca : Str → Addr} {al : Ad} {H : Hp}
/-- the places from n on are forgotten -/
def Ad.cut (al : Ad) (n : Nat) : Ad := ⟨al.pl.take n, al.ex.filter fun a => decide (a ∉ al.pl.drop n)⟩
theorem notin_take {n : Nat} {a : Addr} (h : a ∉ al.ex) : a ∉ (al.cut n).ex := fun z => h (List.mem_filter.mp z).1
theorem XF.low {n : Nat} {d : Option Addr} {vs : List (Str × V)} (h : XF al H d vs) : XF (al.cut n) H d vs := by
  cases d with
  | none => exact h
  | some a => exact ⟨h.1, notin_take h.2⟩
mutual
theorem Rep.low (n : Nat) : ∀ (d : D) (v : V), lowD n d = true → Rep K ca al H d v → Rep K ca (al.cut n) H d v
  | .non, _, _, h => by simpa only [Rep] using h
  | .bl _, _, _, h => by simpa only [Rep] using h
  | .int _, _, _, h => by simpa only [Rep] using h
  | .str _, _, _, h => by simpa only [Rep] using h
  | .cls _, _, _, h => by simpa only [Rep] using h
  | .ty _, _, _, h => by simpa only [Rep] using h
  | .exc c fs, v, l, h => by
    simp only [Rep] at h ⊢
    simp only [lowD] at l
    obtain ⟨a, oe, fv, vs, e, n1, n2, k1, k2, k3, r⟩ := h
    exact ⟨a, oe, fv, vs, e, n1, notin_take n2, k1, k2, XF.low k3, RepF.low n fs vs l r⟩
  | .tab _, _, _, h => by simpa only [Rep] using h
  | .fnv _, _, _, h => by simpa only [Rep] using h
  | .scr ns, v, _, h => by
    simp only [Rep] at h ⊢
    obtain ⟨a, e, q⟩ := h
    exact ⟨a, e, q.imp (fun z => ⟨z.1, notin_take z.2⟩) id⟩
  | .tup ds, v, l, h => by
    simp only [Rep] at h ⊢
    simp only [lowD] at l
    obtain ⟨a, vs, e, q, r⟩ := h
    exact ⟨a, vs, e, q.imp (fun z => ⟨z.1, notin_take z.2⟩) id, Reps.low n ds vs l r⟩
  | .lst ds, v, l, h => by
    simp only [Rep] at h ⊢
    simp only [lowD] at l
    obtain ⟨a, vs, e, q, m, r⟩ := h
    exact ⟨a, vs, e, q, notin_take m, Reps.low n ds vs l r⟩
  | .ptup ds, v, l, h => by
    simp only [Rep] at h ⊢
    simp only [lowD] at l
    obtain ⟨a, o, vs, e, q, q0, m, r⟩ := h
    exact ⟨a, o, vs, e, q, q0, notin_take m, Reps.low n ds vs l r⟩
  | .dct ds, v, l, h => by
    simp only [Rep] at h ⊢
    simp only [lowD] at l
    obtain ⟨a, vs, e, q, m, r⟩ := h
    exact ⟨a, vs, e, q, notin_take m, RepK.low n ds vs l r⟩
  | .obj c ds, v, l, h => by
    simp only [Rep] at h ⊢
    simp only [lowD] at l
    obtain ⟨a, dx, vs, e, q, m, r⟩ := h
    exact ⟨a, dx, vs, e, q, notin_take m, RepF.low n ds vs l r⟩
  | .loc m, v, l, h => by
    simp only [Rep] at h ⊢
    simp only [lowD, decide_eq_true_eq] at l
    obtain ⟨a, e, q⟩ := h
    exact ⟨a, e, by show (al.pl.take n)[m]? = some a; rw [List.getElem?_take_of_lt l]; exact q⟩
theorem Reps.low (n : Nat) : ∀ (ds : List D) (vs : List V), lowL n ds = true → Reps K ca al H ds vs → Reps K ca (al.cut n) H ds vs
  | [], _, _, h => by simpa only [Reps] using h
  | d :: ds, vs, l, h => by
    simp only [Reps] at h ⊢
    simp only [lowL, Bool.and_eq_true] at l
    obtain ⟨v, r, e, h1, h2⟩ := h
    exact ⟨v, r, e, Rep.low n d v l.1 h1, Reps.low n ds r l.2 h2⟩
theorem RepK.low (n : Nat) : ∀ (ds : List (Key × D)) (vs : List (Key × V)), lowK n ds = true → RepK K ca al H ds vs → RepK K ca (al.cut n) H ds vs
  | [], _, _, h => by simpa only [RepK] using h
  | (k, d) :: ds, vs, l, h => by
    simp only [RepK] at h ⊢
    simp only [lowK, Bool.and_eq_true] at l
    obtain ⟨v, r, e, h1, h2⟩ := h
    exact ⟨v, r, e, Rep.low n d v l.1 h1, RepK.low n ds r l.2 h2⟩
theorem RepF.low (n : Nat) : ∀ (ds : List (Str × D)) (vs : List (Str × V)), lowF n ds = true → RepF K ca al H ds vs → RepF K ca (al.cut n) H ds vs
  | [], _, _, h => by simpa only [RepF] using h
  | (k, d) :: ds, vs, l, h => by
    simp only [RepF] at h ⊢
    simp only [lowF, Bool.and_eq_true] at l
    obtain ⟨v, r, e, h1, h2⟩ := h
    exact ⟨v, r, e, Rep.low n d v l.1 h1, RepF.low n ds r l.2 h2⟩
end
mutual
theorem Rep.lowOf : ∀ (d : D) (v : V), Rep K ca al H d v → lowD al.pl.length d = true
  | .non, _, _ => by simp only [lowD]
  | .bl _, _, _ => by simp only [lowD]
  | .int _, _, _ => by simp only [lowD]
  | .str _, _, _ => by simp only [lowD]
  | .cls _, _, _ => by simp only [lowD]
  | .ty _, _, _ => by simp only [lowD]
  | .exc c fs, v, h => by
    simp only [Rep] at h
    obtain ⟨a, oe, fv, vs, e, n1, n2, k1, k2, k3, r⟩ := h
    simp only [lowD]; exact RepF.lowOf fs vs r
  | .tab _, _, _ => by simp only [lowD]
  | .fnv _, _, _ => by simp only [lowD]
  | .scr _, _, _ => by simp only [lowD]
  | .tup ds, v, h => by
    simp only [Rep] at h
    obtain ⟨a, vs, e, q, r⟩ := h
    simp only [lowD]; exact Reps.lowOf ds vs r
  | .lst ds, v, h => by
    simp only [Rep] at h
    obtain ⟨a, vs, e, q, m, r⟩ := h
    simp only [lowD]; exact Reps.lowOf ds vs r
  | .ptup ds, v, h => by
    simp only [Rep] at h
    obtain ⟨a, o, vs, e, q, q0, m, r⟩ := h
    simp only [lowD]; exact Reps.lowOf ds vs r
  | .dct ds, v, h => by
    simp only [Rep] at h
    obtain ⟨a, vs, e, q, m, r⟩ := h
    simp only [lowD]; exact RepK.lowOf ds vs r
  | .obj c ds, v, h => by
    simp only [Rep] at h
    obtain ⟨a, dx, vs, e, q, m, r⟩ := h
    simp only [lowD]; exact RepF.lowOf ds vs r
  | .loc m, v, h => by
    simp only [Rep] at h
    obtain ⟨a, e, q⟩ := h
    simp only [lowD, decide_eq_true_eq]; exact (List.getElem?_eq_some_iff.mp q).1
theorem Reps.lowOf : ∀ (ds : List D) (vs : List V), Reps K ca al H ds vs → lowL al.pl.length ds = true
  | [], _, _ => by simp only [lowL]
  | d :: ds, vs, h => by
    simp only [Reps] at h
    obtain ⟨v, r, e, h1, h2⟩ := h
    simp only [lowL, Bool.and_eq_true]; exact ⟨Rep.lowOf d v h1, Reps.lowOf ds r h2⟩
theorem RepK.lowOf : ∀ (ds : List (Key × D)) (vs : List (Key × V)), RepK K ca al H ds vs → lowK al.pl.length ds = true
  | [], _, _ => by simp only [lowK]
  | (k, d) :: ds, vs, h => by
    simp only [RepK] at h
    obtain ⟨v, r, e, h1, h2⟩ := h
    simp only [lowK, Bool.and_eq_true]; exact ⟨Rep.lowOf d v h1, RepK.lowOf ds r h2⟩
theorem RepF.lowOf : ∀ (ds : List (Str × D)) (vs : List (Str × V)), RepF K ca al H ds vs → lowF al.pl.length ds = true
  | [], _, _ => by simp only [lowF]
  | (k, d) :: ds, vs, h => by
    simp only [RepF] at h
    obtain ⟨v, r, e, h1, h2⟩ := h
    simp only [lowF, Bool.and_eq_true]; exact ⟨Rep.lowOf d v h1, RepF.lowOf ds r h2⟩
end
theorem Cont.low {n : Nat} {a : Addr} {d : D} (l : lowD n d = true) (h : Cont K ca al H a d) : Cont K ca (al.cut n) H a d := by
  cases d with
  | lst ds =>
    obtain ⟨vs, e, r⟩ := h
    exact ⟨vs, e, Reps.low n ds vs (by simpa only [lowD] using l) r⟩
  | dct ds =>
    obtain ⟨vs, e, r⟩ := h
    exact ⟨vs, e, RepK.low n ds vs (by simpa only [lowD] using l) r⟩
  | obj c ds =>
    obtain ⟨dx, vs, e, r⟩ := h
    exact ⟨dx, vs, e, RepF.low n ds vs (by simpa only [lowD] using l) r⟩
  | tab q =>
    obtain ⟨ea, ps, e, t, k⟩ := h
    refine ⟨ea, ps, e, t, fun pos cv hc => ?_⟩
    obtain ⟨b, e1, e2, e3⟩ := k pos cv hc
    exact ⟨b, e1, e2, notin_take e3⟩
  | _ => exact h.elim
theorem Cont.lowOf {a : Addr} {d : D} (h : Cont K ca al H a d) : lowD al.pl.length d = true := by
  cases d with
  | lst ds => obtain ⟨vs, e, r⟩ := h; simp only [lowD]; exact Reps.lowOf ds vs r
  | dct ds => obtain ⟨vs, e, r⟩ := h; simp only [lowD]; exact RepK.lowOf ds vs r
  | obj c ds => obtain ⟨dx, vs, e, r⟩ := h; simp only [lowD]; exact RepF.lowOf ds vs r
  | tab q => simp only [lowD]
  | _ => exact h.elim
theorem Store.lowOf {mu : Mu} (s : Store K ca al mu H) : lowL mu.length mu = true := by
  have key : ∀ (l : Mu), (∀ d ∈ l, lowD mu.length d = true) → lowL mu.length l = true := by
    intro l
    induction l with
    | nil => intro _; simp only [lowL]
    | cons d l ih =>
      intro h
      simp only [lowL, Bool.and_eq_true]
      exact ⟨h d List.mem_cons_self, ih fun x hx => h x (List.mem_cons_of_mem _ hx)⟩
  refine key mu fun d hd => ?_
  obtain ⟨n, hn, e⟩ := List.mem_iff_getElem.mp hd
  have ha : n < al.pl.length := by rw [s.len]; exact hn
  rw [← s.len]
  exact (s.has n al.pl[n] d (List.getElem?_eq_getElem ha) (by rw [List.getElem?_eq_getElem hn, e])).lowOf
theorem lowL_mem {n : Nat} : ∀ {l : List D}, lowL n l = true → ∀ d ∈ l, lowD n d = true
  | [], _, d, h => by simp at h
  | x :: l, h, d, hd => by
    simp only [lowL, Bool.and_eq_true] at h
    rcases List.mem_cons.mp hd with rfl | hd
    · exact h.1
    · exact lowL_mem h.2 d hd
theorem lowL_of {n : Nat} : ∀ {l : List D}, (∀ d ∈ l, lowD n d = true) → lowL n l = true
  | [], _ => by simp only [lowL]
  | x :: l, h => by
    simp only [lowL, Bool.and_eq_true]
    exact ⟨h x List.mem_cons_self, lowL_of fun d hd => h d (List.mem_cons_of_mem _ hd)⟩
/-- the last places are forgotten -/
theorem Store.cut {mu ms : Mu} (s : Store K ca al (mu ++ ms) H) (l : lowL mu.length mu = true) : Store K ca (al.cut mu.length) mu H where
  nd := s.nd.sublist (List.take_sublist _ _)
  len := by
    have := s.len
    rw [List.length_append] at this
    show (al.pl.take mu.length).length = _
    rw [List.length_take]; omega
  sub := fun a h => by
    have h1 : a ∈ al.pl.take mu.length := h
    refine List.mem_filter.mpr ⟨s.sub a (List.mem_of_mem_take h1), decide_eq_true fun h2 => ?_⟩
    have nd := s.nd
    rw [← List.take_append_drop mu.length al.pl] at nd
    exact (List.nodup_append.mp nd).2.2 a h1 a h2 rfl
  dom := fun a h => s.dom a (List.mem_filter.mp h).1
  nx := fun a h => s.nx a (List.mem_filter.mp h).1
  has := fun n a d e1 e2 => by
    have hn : n < mu.length := (List.getElem?_eq_some_iff.mp e2).1
    have e1 : (al.pl.take mu.length)[n]? = some a := e1
    rw [List.getElem?_take_of_lt hn] at e1
    exact (s.has n a d e1 (by rw [List.getElem?_append_left hn]; exact e2)).low (lowL_mem l d (List.mem_of_getElem? e2))
end
/-- fewer places -/
structure Less (al' al : Ad) : Prop where
  pl : al'.pl <+: al.pl
  ex : ∀ a ∈ al'.ex, a ∈ al.ex
  back : ∀ a ∈ al.ex, a ∉ al'.ex → a ∈ al.pl ∧ a ∉ al'.pl
theorem Less.refl (al : Ad) : Less al al := ⟨List.prefix_rfl, fun _ h => h, fun _ h n => absurd h n⟩
theorem Less.trans {a b c : Ad} (h : Less a b) (k : Less b c) : Less a c := ⟨h.pl.trans k.pl, fun x z => k.ex x (h.ex x z), fun x z n => by
  by_cases hb : x ∈ b.ex
  · obtain ⟨h1, h2⟩ := h.back x hb n
    exact ⟨k.pl.subset h1, h2⟩
  · obtain ⟨h1, h2⟩ := k.back x z hb
    exact ⟨h1, fun q => h2 (h.pl.subset q)⟩⟩
theorem Less.cut {K : PySem.W.Frag} {ca : Str → Addr} {al : Ad} {mu : Mu} {H : Hp} (s : Store K ca al mu H) (n : Nat) : Less (al.cut n) al := ⟨List.take_prefix _ _, fun a h => (List.mem_filter.mp h).1, fun a h n' => by
  have q : a ∈ al.pl.drop n := Classical.byContradiction fun q => n' (List.mem_filter.mpr ⟨h, decide_eq_true q⟩)
  refine ⟨List.mem_of_mem_drop q, fun z => ?_⟩
  have nd := s.nd
  rw [← List.take_append_drop n al.pl] at nd
  exact (List.nodup_append.mp nd).2.2 a z a q rfl⟩
/-- what is told at a def's end: (m, d) may be seen as (m', d') -/
def Frz (m : Mu) (d : D) (m' : Mu) (d' : D) : Prop := ∀ (K : PySem.W.Frag) (ca : Str → Addr) (al : Ad) (H : Hp) (v : V), Store K ca al m H → Rep K ca al H d v → ∃ al', Less al' al ∧ Store K ca al' m' H ∧ Rep K ca al' H d' v
theorem Frz.refl (m : Mu) (d : D) : Frz m d m d := fun _ _ al _ _ s r => ⟨al, Less.refl al, s, r⟩
theorem Frz.trans {m m1 m2 : Mu} {d d1 d2 : D} (a : Frz m d m1 d1) (b : Frz m1 d1 m2 d2) : Frz m d m2 d2 := fun K ca al H v s r => by
  obtain ⟨al1, p1, s1, r1⟩ := a K ca al H v s r
  obtain ⟨al2, p2, s2, r2⟩ := b K ca al1 H v s1 r1
  exact ⟨al2, p2.trans p1, s2, r2⟩
/-- places that nobody knows any more -/
theorem Frz.drop {m ms : Mu} {d : D} (l : lowL m.length m = true) (ld : lowD m.length d = true) : Frz (m ++ ms) d m d := fun K ca al H v s r => ⟨al.cut m.length, Less.cut s _, s.cut l, Rep.low _ d v ld r⟩
/-- the last place is handed back as what it holds -/
theorem Frz.last {m : Mu} {c : D} (l : lowL m.length m = true) (ld : lowD m.length c = true) (hc : ∀ K ca al H a, Cont K ca al H a c → a ∉ (al.cut m.length).ex → Rep K ca (al.cut m.length) H c (.ref a)) : Frz (m ++ [c]) (.loc m.length) m c := fun K ca al H v s r => by
  refine ⟨al.cut m.length, Less.cut s _, s.cut l, ?_⟩
  simp only [Rep] at r
  obtain ⟨a, rfl, e⟩ := r
  refine hc K ca al H a (s.has m.length a c e (by simp)) fun z => ?_
  have q := of_decide_eq_true (List.mem_filter.mp z).2
  obtain ⟨h1, q1⟩ := List.getElem?_eq_some_iff.mp e
  exact q (List.mem_iff_getElem.mpr ⟨0, by rw [List.length_drop]; omega, by rw [List.getElem_drop]; simpa using q1⟩)
theorem Frz.lst {m : Mu} {ds : List D} (l : lowL m.length m = true) (ld : lowL m.length ds = true) : Frz (m ++ [.lst ds]) (.loc m.length) m (.lst ds) :=
  Frz.last l (by simpa only [lowD] using ld) fun K ca al H a c n => by
    obtain ⟨vs, e, r⟩ := c
    simp only [Rep]
    exact ⟨a, vs, rfl, e, n, Reps.low _ ds vs ld r⟩
theorem Frz.dct {m : Mu} {ds : List (Key × D)} (l : lowL m.length m = true) (ld : lowK m.length ds = true) : Frz (m ++ [.dct ds]) (.loc m.length) m (.dct ds) :=
  Frz.last l (by simpa only [lowD] using ld) fun K ca al H a c n => by
    obtain ⟨vs, e, r⟩ := c
    simp only [Rep]
    exact ⟨a, vs, rfl, .inl e, n, RepK.low _ ds vs ld r⟩
theorem Frz.obj {m : Mu} {c : Str} {ds : List (Str × D)} (l : lowL m.length m = true) (ld : lowF m.length ds = true) : Frz (m ++ [.obj c ds]) (.loc m.length) m (.obj c ds) :=
  Frz.last l (by simpa only [lowD] using ld) fun K ca al H a q n => by
    obtain ⟨dx, vs, e, r⟩ := q
    simp only [Rep]
    exact ⟨a, dx, vs, rfl, e, n, RepF.low _ ds vs ld r⟩

/-! ### promises -/
abbrev EdF := Str → List (Str × D) → Mu → Prop
abbrev SpD := List D → Mu → KD → EdF → Prop
/-- an exception as data: its class, its fields -/
def RepX (K : PySem.W.Frag) (ca : Str → Addr) (al : Ad) (H : Hp) (c : Str) (fs : List (Str × D)) (cls : Value) (x : Option Addr) : Prop :=
  cls = .ref (ca c) ∧ match x with
    | some d => ∃ vs, H d = some (.xd vs) ∧ d ∉ al.ex ∧ RepF K ca al H fs vs
    | none => fs = []
/-- behind a call -/
structure Back (al al' : Ad) (H H' : Hp) : Prop extends Grow al al' H H' where
  all : ∀ b o, H b = some o → b ∉ al.pl → H' b = some o
  exs : ∀ a ∈ al.ex, a ∈ al'.ex
theorem Back.trans {a b c : Ad} {H1 H2 H3 : Hp} (x : Back a b H1 H2) (y : Back b c H2 H3) : Back a c H1 H3 :=
  have out : ∀ d o, H1 d = some o → d ∉ a.pl → d ∉ b.pl := fun d o e n z => by
    have q := x.newp d z n
    rw [e] at q
    cases q
  have outx : ∀ d o, H1 d = some o → d ∉ a.ex → d ∉ b.ex := fun d o e n z => by
    have q := x.new d z n
    rw [e] at q
    cases q
  { pre := x.pre.trans y.pre
    keep := fun d o e n => y.keep d o (x.keep d o e n) (outx d o e n)
    new := fun d h n => by
      cases e : H1 d with
      | none => rfl
      | some o =>
        have q := y.new d h (outx d o e n)
        rw [x.keep d o e n] at q
        cases q
    newp := fun d h n => by
      cases e : H1 d with
      | none => rfl
      | some o =>
        have q := y.newp d h (out d o e n)
        rw [x.all d o e n] at q
        cases q
    all := fun d o e n => y.all d o (x.all d o e n) (out d o e n)
    exs := fun d h => y.exs d (x.exs d h) }
def spOf (K : PySem.W.Frag) (ca : Str → Addr) (S : SpD) : Sp := fun vs H Q E => ∃ al ds mu, Store K ca al mu H ∧ Reps K ca al H ds vs ∧ S ds mu
  (fun d mu' => ∀ v H' al', Back al al' H H' → Store K ca al' mu' H' → Rep K ca al' H' d v → Q v H')
  (fun c fs mu' => ∀ cls x H' al', Back al al' H H' → Store K ca al' mu' H' → RepX K ca al' H' c fs cls x → E cls x H')
/-- a def keeps a promise, nothing being shown (no guard) around -/
structure FnG (P : Program) (w : World) (K : PySem.W.Frag) (mg : Str → Option Value) (base : Heap) (CX : CXT) (k : Nat) (f : Addr) (fd : FuncData) (ps : List Str) (sp : Sp) : Prop where
  len : ∀ vs H Q E, sp vs H Q E → vs.length = ps.length
  run : ∀ (A : Around) (outer : List Env) (s : Shared) (H : Hp) (args : Args) (us : List Value) (vs : List V) (Q : VK) (E : XK), Room k A → A.guards = some [] → Env0 P w K mg base A outer s H → BindsTo s fd args (ps.zip us) →
    Vals vs us → sp vs H Q E → codeAny (model P w) A (.call (.ref f) args) (CR CX outer P w H s Q E) s
/-- a def of the module, by its name -/
structure Fn (P : Program) (w : World) (K : PySem.W.Frag) (mg : Str → Option Value) (base : Heap) (CX : CXT) (ca : Str → Addr) (k : Nat) (x : Str) (ps : List Str) (S : SpD) (st : Stmt) : Prop where
  ex : ∃ (f : Addr) (fd : FuncData), mg x = some (.ref f) ∧ PySem.W.keepIn K (.ref f) = true ∧ Binds K fd ps [] ∧ FnG P w K mg base CX k f fd ps (spOf K ca S) ∧ Fun K x x st f fd
section
variable {X : Cx} {g : Gm} {CX : CXT} {k : Nat}
/-- exceptions: what is wanted of them, by the slots -/
abbrev EdT := Lo → Str → List (Str × D) → Mu → Prop
def upX (g : Gm) (Ed : EdT) : WX := fun cls x sg H => ∃ dl mu T c fs al, RelA g al dl mu T sg H ∧ RepX g.K g.ca al H c fs cls x ∧ Ed dl c fs mu
structure Px (CX : CXT) (X : Cx) (g : Gm) (Ed : EdT) : Prop where
  at_ : ∀ sg, PassesAt CX X sg (fun cls x H => upX g Ed cls x sg H)
  tk : Takes X (fun cls x sg H => upX g Ed cls x sg H)
theorem run_fnG {pins : List (Addr × Obj)} {sg : St} {H : Hp} {s : Shared} {Q : VK} {us : List Value} {vs : List V} {f : Addr} {fd : FuncData} {ps : List Str} {sp : Sp} {E : XK}
    (F : FnG X.prog X.w X.K X.mg X.base CX k f fd ps sp) (hr : Room k X.A) (hgd : X.A.guards = some []) (hb : Binds X.K fd ps []) (hx : PassesAt CX X sg E) (I : Inv X pins sg H s) (r : Vals vs us) (h : sp vs H Q E) :
    wpAny (model X.prog X.w) X.A (call (.ref f) us) (EP X pins sg Q) X.xe s := by
  have hlen : us.length = ps.length := r.length.symm.trans (F.len _ _ _ _ h)
  have bind := hb s us I.kIn (by simpa using hlen)
  rw [List.append_nil] at bind
  refine wpAny_call (codeAny_mono (F.run X.A X.stack s H ⟨us, []⟩ us vs Q E hr hgd I.env0 bind r h) fun res s2 hq => ?_)
  match res, hq with
  | .error e, hq => exact hx pins H s e s2 I hq
  | .ok (.ret u), hq => exact I.after hq
  | .ok .next, hq => exact hq.elim
  | .ok .brk, hq => exact hq.elim
  | .ok .cont, hq => exact hq.elim
def dCall (S : SpD) (Ed : EdT) (t : TAd) : TEd := fun dl mu Q => t dl mu fun ds m => S ds m Q (Ed dl)
def MonoSp (S : SpD) : Prop := ∀ ds mu (Q Q' : KD) (E : EdF), (∀ d m, Q d m → Q' d m) → S ds mu Q E → S ds mu Q' E
theorem RelA.back {al al' : Ad} {dl : Lo} {mu : Mu} {T : List (V × D)} {sg : St} {H H' : Hp} (q : RelA g al dl mu T sg H) (b : Back al al' H H') : Stp g al al' H H' :=
  { b.toGrow with
    kf := fun c o e n h => b.all c o h fun z => by
      have w := q.frp c z n
      rw [e] at w; cases w
    ke := fun a _ h => b.exs a h }
/-- from the caller's state into the callee's promise, and back -/
theorem call_in {S : SpD} {Ed : EdT} {dl : Lo} {mu : Mu} {T : List (V × D)} {sg : St} {H : Hp} {vs : List V} {ds : List D} {Q : VK} (hl : vs.length = ds.length) (r : Rel g dl mu (vs.zip ds ++ T) sg H)
    (h : S ds mu (fun d mu' => ∀ v H', Rel g dl mu' ((v, d) :: T) sg H' → Q v H') (Ed dl)) (mS : MonoSp S) (mE : ∀ ds mu Q (E E' : EdF), (∀ c fs m, E c fs m → E' c fs m) → S ds mu Q E → S ds mu Q E') :
    spOf g.K g.ca S vs H Q (fun cls x H => upX g Ed cls x sg H) := by
  obtain ⟨al, q, k⟩ := r.reps hl
  have q0 : RelA g al dl mu T sg H := q.sub fun _ h => List.mem_append_right _ h
  refine ⟨al, ds, mu, q.st, k, mE _ _ _ _ _ (fun c fs m z cls x H' al' gr st rx => ?_) (mS _ _ _ _ _ (fun d m z v H' al' gr st rp => ?_) h)⟩
  · exact ⟨dl, m, T, c, fs, al', q0.step (q0.back gr) st, rx, z⟩
  · exact z v H' ⟨al', (q0.step (q0.back gr) st).push rp⟩
/-- what a promise has to be like -/
structure GoodSp (S : SpD) : Prop where
  q : MonoSp S
  e : ∀ ds mu Q (E E' : EdF), (∀ c fs m, E c fs m → E' c fs m) → S ds mu Q E → S ds mu Q E'
variable {e : Expr} {es : List Expr} {t : TAd} {x : Str} {ps : List Str} {S : SpD} {Ed : EdT} {p pos : Pos} {sst : Stmt}
theorem call_m (gs : GoodSp S) (ht : MonoE t) : MonoE (dCall S Ed t) := fun dl mu Q Q' w z => ht dl mu _ _ (fun ds m z => gs.q _ _ _ _ _ w z) z
theorem pd_call (F : Fn X.prog X.w X.K X.mg X.base CX g.ca k x ps S sst) (gs : GoodSp S) (hK : X.K = g.K) (hr : Room k X.A) (hgd : X.A.guards = some []) (hg : Gl X x) (hx : Px CX X g Ed) (ha : QA X g (e :: es) t)
    (hdb : (x == ("__debug__" : Str)) = false := by decide) (he : starEach (e :: es) X.env = (false, eval e X.env) :: starEach es X.env := by rfl) (hpl : (backTo pos (starEach es X.env)).any (·.1) = false := by rfl) :
    PD X g (.Call (.Name x p) (e :: es) [] pos) (dCall S Ed t) where
  m := call_m gs ha.m
  pe := ⟨fun pins s sg H Q I z => by
    obtain ⟨f, fd, hm, hk, hb, G, _⟩ := F.ex
    obtain ⟨dl, mu, T, r, z⟩ := z
    refine wpAny_Call_Name_kw (ld_glob I hg hm ?_ hdb)
    refine PySem.W.callWith_K (h₀ := X.base) I.ok.mod.kin hk ?_ he hpl
    refine thn (ha.pa.run pos pins s sg H (fun vs H1 => spOf g.K g.ca S vs H1 Q (fun cls x H => upX g Ed cls x sg H)) I ⟨dl, mu, T, r, ha.m dl mu _ _ (fun ds m z vs H1 hl r1 => call_in hl r1 z gs.q gs.e) z⟩) fun us s1 hh => ?_
    obtain ⟨vs, H1, I1, rv, q⟩ := hh
    rw [hK] at G
    exact ⟨I1.kIn, run_fnG (by rw [hK]; exact G) hr hgd hb (hx.at_ sg) I1 rv q⟩⟩
theorem pd_call0 (F : Fn X.prog X.w X.K X.mg X.base CX g.ca k x ps S sst) (gs : GoodSp S) (hK : X.K = g.K) (hr : Room k X.A) (hgd : X.A.guards = some []) (hg : Gl X x) (hx : Px CX X g Ed)
    (hdb : (x == ("__debug__" : Str)) = false := by decide) : PD X g (.Call (.Name x p) [] [] pos) (dCall S Ed dNil) where
  m := call_m gs fun _ _ _ _ w z => w _ _ z
  pe := ⟨fun pins s sg H Q I z => by
    obtain ⟨f, fd, hm, hk, hb, G, _⟩ := F.ex
    obtain ⟨dl, mu, T, r, z⟩ := z
    refine wpAny_Call_Name_kw (ld_glob I hg hm ?_ hdb)
    refine PySem.W.callWith_K0 I.kIn hk ?_
    rw [hK] at G
    exact run_fnG (us := []) (vs := []) (by rw [hK]; exact G) hr hgd hb (hx.at_ sg) I .nil (call_in (ds := []) (vs := []) (T := T) rfl r z gs.q gs.e)⟩
end

/-! ### a def's body -/
def startD (N : List Str) (ds : List D) : Lo := ds.map some ++ List.replicate (N.length - ds.length) none
/-- the def's end, over data -/
def endD (n : Nat) (Q : KD) : EndsD where
  nx := fun _ m => ∃ d' m', Frz m .non m' d' ∧ n ≤ m'.length ∧ Q d' m'
  rt := fun d m => ∃ d' m', Frz m d m' d' ∧ n ≤ m'.length ∧ Q d' m'
section
variable {P : Program} {w : World} {K : PySem.W.Frag} {mg : Str → Option Value} {base : Heap} {CX : CXT}
theorem fnG_of {k : Nat} {f : Addr} {name qual : Str} {params : Arguments} {body : List Stmt} {scope : Scope} {dV kV doc pm cdv ct oc : Value} {an od : Option Addr} {osl : Array (Option Value)} {N ps : List Str} {sp : Sp}
    (look : K.lookup f = some ⟨oc, od, .func (PySem.W.fnOf name qual params body scope dV kV doc pm an cdv ct), osl⟩) (code : PySem.W.codeIn K cdv qual = true) (S : FnScope N ps scope) (len : ∀ vs H Q E, sp vs H Q E → vs.length = ps.length)
    (hbody : ∀ (A : Around) (outer : List Env) (s : Shared) (H : Hp) (vs : List V) (Q : VK) (E : XK), Room k (A.deeper (envOfC qual scope s.heap.objs.size f cdv)) → A.guards = some [] → sp vs H Q E →
      ∃ t, PSs (cxOf CX P w K mg base N qual scope f cdv A outer s H E) body t ∧ t { nx := fun _ H' => Q .non H', rt := Q } (start N vs) H) :
    FnG P w K mg base CX (k + 1) f (PySem.W.fnOf name qual params body scope dV kV doc pm an cdv ct) ps sp where
  len := len
  run := fun A outer s H args us vs Q E room gd e0 bind rel prom => by
    have stays : ∀ b o, base.get? b = some o → s.heap.get? b = some o := fun b o z => (e0.bs b o z).1
    have kin : K.In s.heap := e0.mod.kin.keeps stays
    have par : ∀ y ∈ ps.zip us, scope.names.lookup y.1 = some .local ∨ (scope.names.lookup y.1 = some .cell ∧ ((cellsFrom (s.heap.objs.size + 1) scope.names []).lookup y.1).isSome = true) := by
      rintro ⟨n, v⟩ hy
      exact (S.par n (List.of_mem_zip hy).1).imp id fun q => ⟨q, PySem.W.cellsFrom_some _ _ _ (.inl q)⟩
    refine codeAny_call_function room.depth (kin _ _ look) rfl S.co S.gen rfl (PySem.W.codeRec_of kin code) (bind _ _ _ _ (wpAny_newFunctionEnv_cells S.kind par fun env ee s1 inc => ?_))
    subst ee
    refine ⟨(e0.mod.nolimit.keeps stays).keeps inc.toInCall.keep, codeAny_func ?_⟩
    obtain ⟨t, der, red⟩ := hbody A outer s H vs Q E (room.deeper _) gd prom
    have inv := inv_start (CX := CX) (E := E) S room.hd e0 (len _ _ _ _ prom) rel inc
    refine wpAny_mono (der.run [] s1 _ H _ inv red) (fun fl s2 out => ?_) fun _ _ z => z
    match fl, out with
    | .ret u, ⟨v, sg, H2, J, rv, q⟩ => exact ⟨v, H2, J.os, J.bare, J.base, J.hok, rv, q⟩
    | .next, ⟨sg, H2, J, q⟩ => exact ⟨V.non, H2, J.os, J.bare, J.base, J.hok, rfl, q⟩
    | .brk, ⟨_, _, _, q⟩ => exact q.elim
    | .cont, ⟨_, _, _, q⟩ => exact q.elim
/-- a body over data, from the state al, mu, H on -/
theorem body_at {ca : Str → Addr} {N : List Str} {vs : List V} {H : Hp} {Q : VK} {E : XK} {t : EdT → TSd} {al : Ad} {ds : List D} {mu : Mu} (st : Store K ca al mu H) (k : Reps K ca al H ds vs)
    (z0 : t (fun _ c fs m => ∀ cls x H' al', Back al al' H H' → Store K ca al' m H' → RepX K ca al' H' c fs cls x → E cls x H') (endD mu.length fun d m => ∀ v H' al', Back al al' H H' → Store K ca al' m H' → Rep K ca al' H' d v → Q v H') (startD N ds) mu) :
    ∃ Ed : EdT, (∀ cls x sg H', upX ⟨K, ca, H, al⟩ Ed cls x sg H' → E cls x H') ∧ upS ⟨K, ca, H, al⟩ (t Ed) { nx := fun _ H' => Q .non H', rt := Q } (start N vs) H := by
  have dom0 : ∀ a ∈ al.ex, ∃ o, H a = some o := st.dom
  have fin : ∀ (dl : Lo) (m : Mu) (T : List (V × D)) (sg : St) (H2 : Hp) (v : V) (d : D), Rel ⟨K, ca, H, al⟩ dl m ((v, d) :: T) sg H2 → (∃ d' m', Frz m d m' d' ∧ mu.length ≤ m'.length ∧ ∀ v H' al', Back al al' H H' → Store K ca al' m' H' → Rep K ca al' H' d' v → Q v H') → Q v H2 := by
    rintro dl m T sg H2 v d ⟨al2, r⟩ ⟨d', m', fz, hn, q⟩
    obtain ⟨al3, p3, s3, r3⟩ := fz K ca al2 H2 v r.st (r.tmp (v, d) List.mem_cons_self)
    have hp : al.pl <+: al3.pl := List.prefix_of_prefix_length_le (show al.pl <+: al2.pl from r.pre) p3.pl (by rw [st.len, s3.len]; exact hn)
    refine q v H2 al3 ⟨⟨hp, fun b o e n => r.frm b o e fun z => n (st.sub b z), fun a h1 h2 => r.fre a (p3.ex a h1) h2, fun a h1 h2 => r.frp a (p3.pl.subset h1) h2⟩, fun b o e n => r.frm b o e n, fun a h1 => ?_⟩ s3 r3
    by_cases z : a ∈ al3.ex
    · exact z
    · obtain ⟨z1, z2⟩ := p3.back a (r.exs a h1) z
      have w := r.frp a z1 fun q => z2 (hp.subset q)
      obtain ⟨o, e⟩ := dom0 a h1
      have w' : H a = none := w
      rw [e] at w'; cases w'
  refine ⟨fun _ c fs m => ∀ cls x H' al', Back al al' H H' → Store K ca al' m H' → RepX K ca al' H' c fs cls x → E cls x H', ?_, startD N ds, mu, [], _, ⟨al, ?_⟩, ?_, z0⟩
  · rintro cls x sg H2 ⟨dl, m, T, c, fs, al2, r, rx, z⟩
    exact z cls x H2 al2 ⟨⟨r.pre, fun b o e n => r.frm b o e fun z => n (st.sub b z), fun a h1 h2 => r.fre a h1 h2, fun a h1 h2 => r.frp a h1 h2⟩, fun b o e n => r.frm b o e n, r.exs⟩ r.st rx
  · refine ⟨st, List.prefix_rfl, fun _ h => h, dom0, fun _ _ e _ => e, fun a h1 h2 => absurd h1 h2, fun a h1 h2 => absurd h1 h2, fun i d e => ?_, fun p hp => absurd hp (by simp), ?_⟩
    · unfold startD at e
      by_cases hi : i < ds.length
      · rw [List.getElem?_append_left (by simpa using hi), List.getElem?_map] at e
        have e2 : ds[i]? = some d := by
          cases q : ds[i]? with
          | none => rw [q] at e; simp at e
          | some y => rw [q] at e; simp at e; rw [e]
        obtain ⟨v, e3, e4⟩ := reps_get k e2
        refine ⟨v, ?_, e4⟩
        unfold L2.start
        rw [List.getElem?_append_left (by simpa using (List.getElem?_eq_some_iff.mp e3).1), List.getElem?_map, e3]
        rfl
      · rw [List.getElem?_append_right (by simpa using hi), List.getElem?_replicate] at e
        split at e <;> cases e
    · unfold L2.start startD
      have := reps_len k
      simp only [List.length_append, List.length_map, List.length_replicate, this]
  · refine ⟨fun dl m sg H2 r z => fin dl m [] sg H2 .non .non (r.sc rfl) z, fun dl m sg H2 v d r z => fin dl m [] sg H2 v d r z, fun _ _ _ _ _ z => z.elim, fun _ _ _ _ _ z => z.elim⟩
/-- a body over data keeps a promise over data -/
theorem body_in {ca : Str → Addr} {N : List Str} {S : SpD} {vs : List V} {H : Hp} {Q : VK} {E : XK} {t : EdT → TSd} (h : spOf K ca S vs H Q E)
    (pure_ : ∀ ds mu Q E, lowL mu.length mu = true → lowL mu.length ds = true → S ds mu Q E → t (fun _ c fs m => E c fs m) (endD mu.length Q) (startD N ds) mu) :
    ∃ (g : Gm) (Ed : EdT), g.K = K ∧ g.ca = ca ∧ (∀ cls x sg H', upX g Ed cls x sg H' → E cls x H') ∧ upS g (t Ed) { nx := fun _ H' => Q .non H', rt := Q } (start N vs) H := by
  obtain ⟨al, ds, mu, st, k, h⟩ := h
  obtain ⟨Ed, h1, h2⟩ := body_at (N := N) (t := t) (Q := Q) (E := E) st k (pure_ ds mu _ _ st.lowOf (by rw [← st.len]; exact Reps.lowOf ds vs k) h)
  exact ⟨_, Ed, rfl, rfl, h1, h2⟩
theorem tk_none {X : Cx} {g : Gm} : Takes X (fun cls x sg H => upX g (fun _ _ _ _ => False) cls x sg H) := Takes.imp (W := fun _ _ _ _ => False) takes0 fun _ _ _ _ z => by
    obtain ⟨_, _, _, _, _, _, _, _, z⟩ := z
    exact z
theorem px_none {X : Cx} {g : Gm} : Px (L2.CX X.prog X.w) X g (fun _ _ _ _ => False) := ⟨fun sg => passAt tk_none sg, tk_none⟩
theorem px_fn {N : List Str} {qual : Str} {scope : Scope} {f : Addr} {cdv : Value} {A : Around} {outer : List Env} {s : Shared} {H : Hp} {E : XK} {g : Gm} {Ed : EdT} (hE : ∀ cls x sg H', upX g Ed cls x sg H' → E cls x H') :
    Px (L2.CX P w) (cxOf (L2.CX P w) P w K mg base N qual scope f cdv A outer s H E) g Ed :=
  have tk : Takes (cxOf (L2.CX P w) P w K mg base N qual scope f cdv A outer s H E) (fun cls x sg H => upX g Ed cls x sg H) := Takes.imp (takes_of (E := E) rfl rfl rfl rfl) fun _ _ _ _ z => hE _ _ _ _ z
  ⟨fun sg => passAt tk sg, tk⟩
/-- the rule for a def of the module -/
theorem Fn.of {ca : Str → Addr} {x : Str} {st : Stmt} {f : Addr} {fd : FuncData} {N ps : List Str} {k : Nat} {S : SpD} {t : EdT → TSd} (F : Fun K x x st f fd) (hm : mg x = some (.ref f)) (b : Binds K fd ps []) (sc : FnScope N ps (defScope st)) (len : ∀ ds mu Q E, S ds mu Q E → ds.length = ps.length)
    (der : ∀ (cdv : Value) (A : Around) (outer : List Env) (s : Shared) (H : Hp) (E : XK) (g : Gm) (Ed : EdT), Room k (A.deeper (envOfC x (defScope st) s.heap.objs.size f cdv)) → A.guards = some [] → g.K = K → g.ca = ca → Px (L2.CX P w) (cxOf (L2.CX P w) P w K mg base N x (defScope st) f cdv A outer s H E) g Ed →
      QSs (cxOf (L2.CX P w) P w K mg base N x (defScope st) f cdv A outer s H E) g (defBody st) (t Ed))
    (red : ∀ ds mu Q E, lowL mu.length mu = true → lowL mu.length ds = true → S ds mu Q E → t (fun _ c fs m => E c fs m) (endD mu.length Q) (startD N ds) mu) :
    Fn P w K mg base (L2.CX P w) ca (k + 1) x ps S st where
  ex := by
    refine ⟨f, fd, hm, F.kp, b, ?_, F⟩
    obtain ⟨oc, od, kV, doc, pm, an, cdv, ct, osl, rfl, lk, hcd⟩ := F.ex
    refine fnG_of lk hcd sc (fun vs H Q E h => ?_) fun A outer s H vs Q E hr gd h => ?_
    · obtain ⟨al, ds, mu, _, k, h⟩ := h
      rw [reps_len k]; exact len _ _ _ _ h
    · obtain ⟨g, Ed, e1, e2, hE, q⟩ := body_in (N := N) (t := t) h red
      exact ⟨_, (der cdv A outer s H E g Ed hr gd e1 e2 (px_fn hE)).ps, q⟩
end
end VL

/-! VsOps: operators, subscripts, built-ins over data. -/
namespace VL
open PySem PySem.Spec PyProof.Rows L2

section
variable {X : Cx} {g : Gm} {a b : Expr} {ta tb : TEd} {pos : Pos}
theorem two {dl : Lo} {mu : Mu} {T : List (V × D)} {sg : St} {H : Hp} {v w : V} {x y : D} (r : Rel g dl mu ((w, y) :: (v, x) :: T) sg H) :
    ∃ al, RelA g al dl mu T sg H ∧ Rep g.K g.ca al H x v ∧ Rep g.K g.ca al H y w := by
  obtain ⟨al, q⟩ := r
  exact ⟨al, q.sub fun p h => List.mem_cons_of_mem _ (List.mem_cons_of_mem _ h), q.tmp (v, x) (by simp), q.tmp (w, y) (by simp)⟩
theorem RelA.scal {dl : Lo} {mu : Mu} {T : List (V × D)} {sg : St} {H : Hp} {al : Ad} (q : RelA g al dl mu T sg H) {d : D} {v : V} (h : Sc d v) : Rel g dl mu ((v, d) :: T) sg H := ⟨al, q.push h.rep⟩

/-- an operation that gives a value, where it may be asked -/
def fOf (o : Mu → D → D → Option (Prop × D)) : F2 := fun x y mu Q => match o mu x y with
  | some (c, d) => c ∧ Q d mu
  | none => False
theorem fOf_m {o : Mu → D → D → Option (Prop × D)} : MonoF (fOf o) := fun x y mu Q Q' w h => by
  unfold fOf at h ⊢
  cases e : o mu x y with
  | none => rw [e] at h; exact h.elim
  | some p => rw [e] at h; exact ⟨h.1, w _ _ h.2⟩

/-! ### + -/
def addD (mu : Mu) : D → D → Option (Prop × D)
  | .int i, .int j => some (True, .int (i + j))
  | .str s, .str t => some (s.length + t.length ≤ sizeLine, .str (s ++ t))
  | .tup s, .tup t => some (s ≠ [] ∧ s.length + t.length ≤ sizeLine, .tup (s ++ t))
  | x, y => match asL1 mu x, asL1 mu y with
    | some s, some t => some (s.length + t.length ≤ sizeLine, .lst (s ++ t))
    | _, _ => none
def fAdd : F2 := fOf addD
theorem fAdd_m : MonoF fAdd := fOf_m
theorem add_r : OpR X (binaryOp .Add) (fun x y H Q => (∃ i j, x = .int i ∧ y = .int j ∧ Q (.int (i + j)) H) ∨ (∃ i j, x = .str i ∧ y = .str j ∧ i.length + j.length ≤ sizeLine ∧ Q (.str (i ++ j)) H) ∨ rCatT X.K x y H Q ∨ rCat x y H Q) :=
  op_add.or (op_add_str.or (op_catT.or op_cat))
theorem fAdd_ok (hK : X.K = g.K) : OpOk g (fun x y H Q => (∃ i j, x = .int i ∧ y = .int j ∧ Q (.int (i + j)) H) ∨ (∃ i j, x = .str i ∧ y = .str j ∧ i.length + j.length ≤ sizeLine ∧ Q (.str (i ++ j)) H) ∨ rCatT X.K x y H Q ∨ rCat x y H Q) fAdd := by
  intro dl mu T sg H v w x y Q r h
  obtain ⟨al, q, rx, ry⟩ := two r
  have cat : ∀ s t, asL1 mu x = some s → asL1 mu y = some t → (s.length + t.length ≤ sizeLine ∧ ∀ v' H', Rel g dl mu ((v', .lst (s ++ t)) :: T) sg H' → Q v' H') → rCat v w H Q := fun s t e1 e2 h => by
    obtain ⟨l, vs, f1, f2, f3⟩ := q.lst1 rx e1
    obtain ⟨l', ws, f4, f5, f6⟩ := q.lst1 ry e2
    exact ⟨l, l', vs, ws, f1, f4, f2, f5, by rw [reps_len f3, reps_len f6]; exact h.1, fun p n => h.2 _ _ (q.newLst (reps_app f3 f6) n)⟩
  unfold fAdd fOf at h
  cases e : addD mu x y with
  | none => rw [e] at h; exact h.elim
  | some p =>
    rw [e] at h
    unfold addD at e
    split at e
    · cases e; exact .inl ⟨_, _, rep_int rx, rep_int ry, h.2 _ _ (q.scal rfl)⟩
    · cases e; exact .inr (.inl ⟨_, _, rep_str rx, rep_str ry, h.1, h.2 _ _ (q.scal rfl)⟩)
    · rename_i s t
      cases e
      obtain ⟨l, vs, f1, f2, f3⟩ := rep_tup rx
      obtain ⟨l', ws, f4, f5, f6⟩ := rep_tup ry
      refine .inr (.inr (.inl ⟨l, l', vs, ws, f1, f4, by rw [hK]; exact f2, by rw [hK]; exact f5, fun z => ?_, by rw [reps_len f3, reps_len f6]; exact h.1.2, fun z => ?_, fun z p n => h.2 _ _ (q.newTup (reps_app f3 f6) n)⟩))
      · have := reps_len f3
        rw [z] at this
        exact h.1.1 (List.eq_nil_of_length_eq_zero this.symm)
      · have e : t = [] := by
          have := reps_len f6
          rw [z] at this
          exact List.eq_nil_of_length_eq_zero this.symm
        subst e
        refine h.2 _ _ ⟨al, q.push ?_⟩
        rw [List.append_nil, ← f1]; exact rx
    · split at e
      · rename_i e1 e2
        cases e
        exact .inr (.inr (.inr (cat _ _ e1 e2 h)))
      · cases e
theorem pd_add (hK : X.K = g.K) (ha : PD X g a ta) (hb : PD X g b tb) : PD X g (.BinOp a .Add b pos) (dBin fAdd ta tb) := pd_bin add_r (fAdd_ok hK) fAdd_m ha hb

/-! ### whole numbers -/
def f2I (C : Int → Int → Prop) (f : Int → Int → D) : F2 := fun x y mu Q => match x, y with
  | .int i, .int j => C i j ∧ Q (f i j) mu
  | _, _ => False
theorem f2I_m {C : Int → Int → Prop} {f : Int → Int → D} : MonoF (f2I C f) := fun x y mu Q Q' w h => by
  unfold f2I at h ⊢
  split at h
  · exact ⟨h.1, w _ _ h.2⟩
  · exact h.elim
theorem f2I_ok {C : Int → Int → Prop} {f : Int → Int → D} {k : Int → Int → V} (hs : ∀ i j, Sc (f i j) (k i j)) : OpOk g (rI C k) (f2I C f) := by
  intro dl mu T sg H v w x y Q r h
  obtain ⟨al, q, rx, ry⟩ := two r
  unfold f2I at h
  split at h
  · exact ⟨_, _, rep_int rx, rep_int ry, h.1, h.2 _ _ (q.scal (hs _ _))⟩
  · exact h.elim
theorem f2I_ok0 {f : Int → Int → D} {k : Int → Int → V} (hs : ∀ i j, Sc (f i j) (k i j)) : OpOk g (rI0 k) (f2I (fun _ _ => True) f) := by
  intro dl mu T sg H v w x y Q r h
  obtain ⟨al, q, rx, ry⟩ := two r
  unfold f2I at h
  split at h
  · exact ⟨_, _, rep_int rx, rep_int ry, h.2 _ _ (q.scal (hs _ _))⟩
  · exact h.elim
def fSub : F2 := f2I (fun _ _ => True) fun i j => .int (i - j)
def fFdiv : F2 := f2I CDiv fun i j => .int (i / j)
def fMod : F2 := f2I (fun _ j => 0 < j) fun i j => .int (i % j)
def fPow : F2 := f2I CPow fun i j => .int (i ^ j.toNat)
theorem pd_sub (ha : PD X g a ta) (hb : PD X g b tb) : PD X g (.BinOp a .Sub b pos) (dBin fSub ta tb) := pd_bin op_sub (f2I_ok0 fun _ _ => rfl) f2I_m ha hb
theorem pd_fdiv (ha : PD X g a ta) (hb : PD X g b tb) : PD X g (.BinOp a .FloorDiv b pos) (dBin fFdiv ta tb) := pd_bin op_fdiv (f2I_ok fun _ _ => rfl) f2I_m ha hb
theorem pd_mod (ha : PD X g a ta) (hb : PD X g b tb) : PD X g (.BinOp a .Mod b pos) (dBin fMod ta tb) := pd_bin op_mod (f2I_ok fun _ _ => rfl) f2I_m ha hb
theorem pd_pow (ha : PD X g a ta) (hb : PD X g b tb) : PD X g (.BinOp a .Pow b pos) (dBin fPow ta tb) := pd_bin op_pow (f2I_ok fun _ _ => rfl) f2I_m ha hb
def fLt : F2 := f2I (fun _ _ => True) fun i j => .bl (decide (i < j))
def fLe : F2 := f2I (fun _ _ => True) fun i j => .bl (decide (i ≤ j))
def fGt : F2 := f2I (fun _ _ => True) fun i j => .bl (decide (j < i))
def fGe : F2 := f2I (fun _ _ => True) fun i j => .bl (decide (j ≤ i))
theorem pd_lt (ha : PD X g a ta) (hb : PD X g b tb) : PD X g (.Compare a [.Lt] [b] pos) (dBin fLt ta tb) := pd_cmp op_lt (f2I_ok0 fun _ _ => rfl) f2I_m ha hb (nomark _)
theorem pd_le (ha : PD X g a ta) (hb : PD X g b tb) : PD X g (.Compare a [.LtE] [b] pos) (dBin fLe ta tb) := pd_cmp op_le (f2I_ok0 fun _ _ => rfl) f2I_m ha hb (nomark _)
theorem pd_gt (ha : PD X g a ta) (hb : PD X g b tb) : PD X g (.Compare a [.Gt] [b] pos) (dBin fGt ta tb) := pd_cmp op_gt (f2I_ok0 fun _ _ => rfl) f2I_m ha hb (nomark _)
theorem pd_ge (ha : PD X g a ta) (hb : PD X g b tb) : PD X g (.Compare a [.GtE] [b] pos) (dBin fGe ta tb) := pd_cmp op_ge (f2I_ok0 fun _ _ => rfl) f2I_m ha hb (nomark _)
theorem qt_lt (ha : PD X g a ta) (hb : PD X g b tb) : QT X g (.Compare a [.Lt] [b] pos) (dTest (dBin fLt ta tb)) := test_cmp op_lt (f2I_ok0 fun _ _ => rfl) f2I_m ha hb (nomark _)
theorem qt_le (ha : PD X g a ta) (hb : PD X g b tb) : QT X g (.Compare a [.LtE] [b] pos) (dTest (dBin fLe ta tb)) := test_cmp op_le (f2I_ok0 fun _ _ => rfl) f2I_m ha hb (nomark _)
theorem qt_gt (ha : PD X g a ta) (hb : PD X g b tb) : QT X g (.Compare a [.Gt] [b] pos) (dTest (dBin fGt ta tb)) := test_cmp op_gt (f2I_ok0 fun _ _ => rfl) f2I_m ha hb (nomark _)
theorem qt_ge (ha : PD X g a ta) (hb : PD X g b tb) : QT X g (.Compare a [.GtE] [b] pos) (dTest (dBin fGe ta tb)) := test_cmp op_ge (f2I_ok0 fun _ _ => rfl) f2I_m ha hb (nomark _)
/-- * of numbers, of a list and a number -/
def mulD (mu : Mu) : D → D → Option (Prop × D)
  | .int i, .int j => some (CMul i j, .int (i * j))
  | x, .int k => match asL1 mu x with
    | some s => some (-(2 ^ 63) ≤ k ∧ k < 2 ^ 63 ∧ s.length * k.toNat ≤ sizeLine, .lst (List.replicate k.toNat s).flatten)
    | none => none
  | _, _ => none
def fMul : F2 := fOf mulD
theorem fMul_m : MonoF fMul := fOf_m
theorem reps_rep {K : PySem.W.Frag} {ca : Str → Addr} {al : Ad} {H : Hp} {ds : List D} {vs : List V} (h : Reps K ca al H ds vs) : ∀ n : Nat, Reps K ca al H (List.replicate n ds).flatten (List.replicate n vs).flatten
  | 0 => by simp only [List.replicate_zero, List.flatten_nil, Reps]
  | n + 1 => by
    simp only [List.replicate_succ, List.flatten_cons]
    exact reps_app h (reps_rep h n)
theorem pd_mul (ha : PD X g a ta) (hb : PD X g b tb) : PD X g (.BinOp a .Mult b pos) (dBin fMul ta tb) := pd_bin (op_mul.or op_rep) (fun dl mu T sg H v w x y Q r h => by
  obtain ⟨al, q, rx, ry⟩ := two r
  unfold fMul fOf at h
  cases e : mulD mu x y with
  | none => rw [e] at h; exact h.elim
  | some p =>
    rw [e] at h
    unfold mulD at e
    split at e
    · cases e; exact .inl ⟨_, _, rep_int rx, rep_int ry, h.1, h.2 _ _ (q.scal rfl)⟩
    · split at e
      · rename_i s e1
        cases e
        obtain ⟨l, vs, f1, f2, f3⟩ := q.lst1 rx e1
        exact .inr ⟨l, _, vs, f1, rep_int ry, f2, h.1.1, h.1.2.1, by rw [reps_len f3]; exact h.1.2.2, fun p n => h.2 _ _ (q.newLst (reps_rep f3 _) n)⟩
      · cases e
    · cases e) fMul_m ha hb
/-- one operand -/
def dUn (f : D → Mu → KD → Prop) (t : TEd) : TEd := fun dl mu Q => t dl mu fun d m => f d m Q
def fNeg : D → Mu → KD → Prop := fun d mu Q => match d with
  | .int i => Q (.int (-i)) mu
  | _ => False
theorem pd_neg (ha : PD X g a ta) : PD X g (.UnaryOp .USub a pos) (dUn fNeg ta) where
  m := fun dl mu Q Q' w h => ha.m dl mu _ _ (fun d m z => by cases d <;> first | exact z.elim | exact w _ _ z) h
  pe := PE.of (pe_un un_neg ha.pe) fun sg H Q h => by
    obtain ⟨dl, mu, T, r, h⟩ := h
    refine ⟨dl, mu, T, r, ha.m dl mu _ _ (fun d m z v H1 r1 => ?_) h⟩
    cases d with
    | int i => exact ⟨i, r1.int, z _ _ (r1.pop.sc rfl)⟩
    | _ => exact z.elim

/-! ### == and != of data -/
mutual
def pyOf : D → Option PyData
  | .non => some .none
  | .bl b => some (.bool b)
  | .int i => some (.int i)
  | .str x => some (.str x)
  | .tup xs => (pyAll xs).map .tuple
  | .ptup xs => (pyAll xs).map .tuple
  | .lst xs => (pyAll xs).map .list
  | _ => none
def pyAll : List D → Option (List PyData)
  | [] => some []
  | d :: ds => match pyOf d, pyAll ds with
    | some e, some es => some (e :: es)
    | _, _ => none
end
def pyAt (mu : Mu) : D → Option PyData
  | .loc n => match mu[n]? with
    | some (.lst xs) => (pyAll xs).map .list
    | _ => none
  | d => pyOf d
section
variable {al : Ad} {H : Hp} {ca : Str → Addr} {K : PySem.W.Frag}
mutual
theorem dp_of : ∀ (d : D) (v : V) (e : PyData), pyOf d = some e → Rep K ca al H d v → Dp K H v e
  | .non, v, e, h, r => by
    simp only [pyOf] at h; cases h
    rw [rep_non r]; exact .non
  | .bl b, v, e, h, r => by
    simp only [pyOf] at h; cases h
    rw [rep_bl r]; exact .bl b
  | .int b, v, e, h, r => by
    simp only [pyOf] at h; cases h
    rw [rep_int r]; exact .int b
  | .str b, v, e, h, r => by
    simp only [pyOf] at h; cases h
    rw [rep_str r]; exact .str b
  | .tup xs, v, e, h, r => by
    simp only [pyOf] at h
    obtain ⟨a, vs, rfl, e2, e3⟩ := rep_tup r
    cases q : pyAll xs with
    | none => rw [q] at h; cases h
    | some es =>
      rw [q] at h; cases h
      exact .tup e2 (dps_of xs vs es q e3)
  | .ptup xs, v, e, h, r => by
    simp only [pyOf] at h
    obtain ⟨a, vs, rfl, e2, e3⟩ := rep_ptup r
    cases q : pyAll xs with
    | none => rw [q] at h; cases h
    | some es =>
      rw [q] at h; cases h
      exact .tup e2 (dps_of xs vs es q e3)
  | .lst xs, v, e, h, r => by
    simp only [pyOf] at h
    simp only [Rep] at r
    obtain ⟨a, vs, rfl, e2, _, e3⟩ := r
    cases q : pyAll xs with
    | none => rw [q] at h; cases h
    | some es =>
      rw [q] at h; cases h
      exact .lst (.of e2) (dps_of xs vs es q e3)
  | .dct _, _, _, h, _ => by simp only [pyOf] at h; cases h
  | .obj _ _, _, _, h, _ => by simp only [pyOf] at h; cases h
  | .loc _, _, _, h, _ => by simp only [pyOf] at h; cases h
  | .cls _, _, _, h, _ => by simp only [pyOf] at h; cases h
  | .scr _, _, _, h, _ => by simp only [pyOf] at h; cases h
  | .ty _, _, _, h, _ => by simp only [pyOf] at h; cases h
  | .exc _ _, _, _, h, _ => by simp only [pyOf] at h; cases h
  | .tab _, _, _, h, _ => by simp only [pyOf] at h; cases h
  | .fnv _, _, _, h, _ => by simp only [pyOf] at h; cases h
theorem dps_of : ∀ (ds : List D) (vs : List V) (es : List PyData), pyAll ds = some es → Reps K ca al H ds vs → DpAll K H vs es
  | [], vs, es, h, r => by
    simp only [pyAll] at h; cases h
    have e : vs = [] := by simpa only [Reps] using r
    rw [e]; exact .nil
  | d :: ds, vs, es, h, r => by
    simp only [pyAll] at h
    simp only [Reps] at r
    obtain ⟨v, ws, rfl, r1, r2⟩ := r
    cases q : pyOf d with
    | none => rw [q] at h; cases h
    | some e =>
      cases q2 : pyAll ds with
      | none => rw [q, q2] at h; cases h
      | some es' =>
        rw [q, q2] at h; cases h
        exact .cons (dp_of d v e q r1) (dps_of ds ws es' q2 r2)
end
end
theorem dp_at {dl : Lo} {mu : Mu} {T : List (V × D)} {sg : St} {H : Hp} {al : Ad} (q : RelA g al dl mu T sg H) {d : D} {v : V} {e : PyData} (h : pyAt mu d = some e) (r : Rep g.K g.ca al H d v) : Dp g.K H v e := by
  cases d with
  | loc n =>
    simp only [pyAt] at h
    cases em : mu[n]? with
    | none => rw [em] at h; cases h
    | some c =>
      rw [em] at h
      cases c with
      | lst xs =>
        simp only at h
        cases qq : pyAll xs with
        | none => rw [qq] at h; cases h
        | some es =>
          rw [qq] at h; cases h
          obtain ⟨a, vs, rfl, e2, e3⟩ := q.lst r (ds := xs) (by simp only [asL, em])
          exact .lst e2 (dps_of xs vs es qq e3)
      | _ => cases h
  | non => exact dp_of _ _ _ h r
  | bl _ => exact dp_of _ _ _ h r
  | int _ => exact dp_of _ _ _ h r
  | str _ => exact dp_of _ _ _ h r
  | tup _ => exact dp_of _ _ _ h r
  | ptup _ => exact dp_of _ _ _ h r
  | lst _ => exact dp_of _ _ _ h r
  | _ => simp only [pyAt, pyOf] at h; cases h
/-- scalars that == tells at once -/
def eqS : D → D → Option Bool
  | .non, .non => some true
  | .non, .int _ => some false
  | .int _, .non => some false
  | .non, .bl _ => some false
  | .bl _, .non => some false
  | .non, .str _ => some false
  | .str _, .non => some false
  | .int i, .int j => some (decide (i = j))
  | .bl i, .bl j => some (decide (i = j))
  | .str i, .str j => some (decide (i = j))
  | .int _, .str _ => some false
  | .str _, .int _ => some false
  | .bl _, .str _ => some false
  | .str _, .bl _ => some false
  | _, _ => none
theorem eqS_ok {dl : Lo} {mu : Mu} {T : List (V × D)} {sg : St} {H : Hp} {v w : V} {x y : D} {k : Bool} (r : Rel g dl mu ((w, y) :: (v, x) :: T) sg H) (e : eqS x y = some k) : scal v w = true ∧ decide (v = w) = k := by
  obtain ⟨al, q, rx, ry⟩ := two r
  cases x <;> cases y <;> simp only [eqS] at e <;> first
    | cases e; done
    | (simp only [Rep] at rx ry
       subst rx; subst ry
       cases e
       refine ⟨rfl, ?_⟩
       first
         | rfl
         | simp)
def eqD (neg : Bool) (mu : Mu) (x y : D) : Option (Prop × D) := match eqS x y with
  | some k => some (True, .bl (if neg then !k else k))
  | none => match pyAt mu x, pyAt mu y with
    | some d, some e => some (SeqAt.shaped d = true ∧ SeqAt.shaped e = true, .bl (if neg then !PyData.eqv d e else PyData.eqv d e))
    | _, _ => none
def eqD0 (mu : Mu) (x y : D) : Option (Prop × D) := match eqS x y with
  | some k => some (True, .bl k)
  | none => match pyAt mu x, pyAt mu y with
    | some d, some e => some (SeqAt.shaped d = true ∧ SeqAt.shaped e = true, .bl (PyData.eqv d e))
    | _, _ => none
def neD0 (mu : Mu) (x y : D) : Option (Prop × D) := match eqS x y with
  | some k => some (True, .bl (!k))
  | none => match pyAt mu x, pyAt mu y with
    | some d, some e => some (SeqAt.shaped d = true ∧ SeqAt.shaped e = true, .bl (!PyData.eqv d e))
    | _, _ => none
theorem eqD0_eq (mu : Mu) (x y : D) : eqD0 mu x y = eqD false mu x y := rfl
theorem neD0_eq (mu : Mu) (x y : D) : neD0 mu x y = eqD true mu x y := rfl
def fEq : F2 := fOf eqD0
def fNe : F2 := fOf neD0
theorem fEq_ok (hK : X.K = g.K) : OpOk g (fun x y H Q => rEq x y H Q ∨ rEqD X.K x y H Q) fEq := by
  intro dl mu T sg H v w x y Q r h
  unfold fEq fOf at h
  rw [eqD0_eq] at h
  cases e : eqD false mu x y with
  | none => rw [e] at h; exact h.elim
  | some p =>
    rw [e] at h
    unfold eqD at e
    split at e
    · rename_i k e1
      cases e
      obtain ⟨h1, h2⟩ := eqS_ok r e1
      refine .inl ⟨h1, ?_⟩
      rw [h2]
      exact h.2 _ _ (r.pop2.sc rfl)
    · split at e
      · rename_i d e2 e3 e4
        cases e
        obtain ⟨al, q, rx, ry⟩ := two r
        exact .inr ⟨d, e2, by rw [hK]; exact dp_at q e3 rx, by rw [hK]; exact dp_at q e4 ry, h.1.1, h.1.2, h.2 _ _ (r.pop2.sc rfl)⟩
      · cases e
theorem fNe_ok (hK : X.K = g.K) : OpOk g (fun x y H Q => rNe x y H Q ∨ rNeD X.K x y H Q) fNe := by
  intro dl mu T sg H v w x y Q r h
  unfold fNe fOf at h
  rw [neD0_eq] at h
  cases e : eqD true mu x y with
  | none => rw [e] at h; exact h.elim
  | some p =>
    rw [e] at h
    unfold eqD at e
    split at e
    · rename_i k e1
      cases e
      obtain ⟨h1, h2⟩ := eqS_ok r e1
      refine .inl ⟨h1, ?_⟩
      rw [h2]
      exact h.2 _ _ (r.pop2.sc rfl)
    · split at e
      · rename_i d e2 e3 e4
        cases e
        obtain ⟨al, q, rx, ry⟩ := two r
        exact .inr ⟨d, e2, by rw [hK]; exact dp_at q e3 rx, by rw [hK]; exact dp_at q e4 ry, h.1.1, h.1.2, h.2 _ _ (r.pop2.sc rfl)⟩
      · cases e
theorem pd_eq (hK : X.K = g.K) (hu : X.A.units + 64 < cLine) (ha : PD X g a ta) (hb : PD X g b tb) : PD X g (.Compare a [.Eq] [b] pos) (dBin fEq ta tb) := pd_cmp (op_eq.or (op_eqD hu)) (fEq_ok hK) fOf_m ha hb (nomark _)
theorem pd_ne (hK : X.K = g.K) (hu : X.A.units + 64 < cLine) (ha : PD X g a ta) (hb : PD X g b tb) : PD X g (.Compare a [.NotEq] [b] pos) (dBin fNe ta tb) := pd_cmp (op_ne.or (op_neD hu)) (fNe_ok hK) fOf_m ha hb (nomark _)
theorem qt_eq (hK : X.K = g.K) (hu : X.A.units + 64 < cLine) (ha : PD X g a ta) (hb : PD X g b tb) : QT X g (.Compare a [.Eq] [b] pos) (dTest (dBin fEq ta tb)) := test_cmp (op_eq.or (op_eqD hu)) (fEq_ok hK) fOf_m ha hb (nomark _)
theorem qt_ne (hK : X.K = g.K) (hu : X.A.units + 64 < cLine) (ha : PD X g a ta) (hb : PD X g b tb) : QT X g (.Compare a [.NotEq] [b] pos) (dTest (dBin fNe ta tb)) := test_cmp (op_ne.or (op_neD hu)) (fNe_ok hK) fOf_m ha hb (nomark _)
/-- is None -/
def fIsN (neg : Bool) : F2 := fun x y mu Q => match y with
  | .non => match x with
    | .non => Q (.bl (!neg)) mu
    | _ => Q (.bl neg) mu
  | _ => False
theorem rep_nn {K : PySem.W.Frag} {ca : Str → Addr} {al : Ad} {H : Hp} {d : D} {v : V} (h : Rep K ca al H d v) : decide (v = .non) = (match d with | .non => true | _ => false) := by
  cases d <;> simp only [Rep] at h
  case non => subst h; rfl
  case bl => subst h; rfl
  case int => subst h; rfl
  case str => subst h; rfl
  case cls => subst h; rfl
  case ty => subst h; rfl
  case fnv => subst h; rfl
  case tup => obtain ⟨a, _, rfl, _⟩ := h; rfl
  case lst => obtain ⟨a, _, rfl, _⟩ := h; rfl
  case dct => obtain ⟨a, _, rfl, _⟩ := h; rfl
  case obj => obtain ⟨a, _, _, rfl, _⟩ := h; rfl
  case ptup => obtain ⟨a, _, _, rfl, _⟩ := h; rfl
  case exc => obtain ⟨a, _, _, _, rfl, _⟩ := h; rfl
  case loc => obtain ⟨a, rfl, _⟩ := h; rfl
  case scr => obtain ⟨a, rfl, _⟩ := h; rfl
theorem fIsN_m {neg : Bool} : MonoF (fIsN neg) := fun x y mu Q Q' w h => by
  unfold fIsN at h ⊢
  cases y <;> first | exact h.elim | (cases x <;> exact w _ _ h)
theorem isN_ok : OpOk g (fun x y H Q => y = .non ∧ Q (.bl (decide (x = .non))) H) (fIsN false) := by
  intro dl mu T sg H v w x y Q r h
  obtain ⟨al, q, rx, ry⟩ := two r
  unfold fIsN at h
  cases y <;> first | exact h.elim | skip
  refine ⟨rep_non ry, ?_⟩
  rw [rep_nn rx]
  cases x <;> exact h _ _ (q.scal rfl)
theorem notN_ok : OpOk g (fun x y H Q => y = .non ∧ Q (.bl (!decide (x = .non))) H) (fIsN true) := by
  intro dl mu T sg H v w x y Q r h
  obtain ⟨al, q, rx, ry⟩ := two r
  unfold fIsN at h
  cases y <;> first | exact h.elim | skip
  refine ⟨rep_non ry, ?_⟩
  rw [rep_nn rx]
  cases x <;> exact h _ _ (q.scal rfl)
theorem pd_isN (ha : PD X g a ta) (hb : PD X g b tb) : PD X g (.Compare a [.Is] [b] pos) (dBin (fIsN false) ta tb) := pd_cmp op_isN isN_ok fIsN_m ha hb (nomark _)
theorem pd_notN (ha : PD X g a ta) (hb : PD X g b tb) : PD X g (.Compare a [.IsNot] [b] pos) (dBin (fIsN true) ta tb) := pd_cmp op_notN notN_ok fIsN_m ha hb (nomark _)
theorem qt_isN (ha : PD X g a ta) (hb : PD X g b tb) : QT X g (.Compare a [.Is] [b] pos) (dTest (dBin (fIsN false) ta tb)) := test_cmp op_isN isN_ok fIsN_m ha hb (nomark _)
theorem qt_notN (ha : PD X g a ta) (hb : PD X g b tb) : QT X g (.Compare a [.IsNot] [b] pos) (dTest (dBin (fIsN true) ta tb)) := test_cmp op_notN notN_ok fIsN_m ha hb (nomark _)
end
end VL

/-! VsLoop: what is walked, for, list comprehensions, over data. -/
namespace VL
open PySem PySem.Spec PyProof.Rows L2

/-- J walks the items while alive holds of the store; S: what it leans on -/
structure Wk (g : Gm) (J : It) (items : List D) (alive : Mu → Prop) (S : List (V × D)) : Prop where
  go : ∀ (i : Nat) (d : D) al dl mu T sg H, RelA g al dl mu (S ++ T) sg H → alive mu → items[i]? = some d → J.go i H ∧ ∀ x H', J.yld i H x H' → RelA g al dl mu ((x, d) :: (S ++ T)) sg H' ∧ ∀ b o, H b = some o → H' b = some o
  stop : ∀ (i : Nat) al dl mu T sg H, RelA g al dl mu (S ++ T) sg H → alive mu → items.length ≤ i → J.stop i H
abbrev TId := Lo → Mu → (List D → (Mu → Prop) → Mu → Prop) → Prop
def MonoI (t : TId) : Prop := ∀ dl mu (Q Q' : List D → (Mu → Prop) → Mu → Prop), (∀ l a m, Q l a m → Q' l a m) → t dl mu Q → t dl mu Q'
def upI (g : Gm) (t : TId) : TI := fun sg H R => ∃ dl mu T, Rel g dl mu T sg H ∧ t dl mu fun items alive mu' => ∀ J H' S, Rel g dl mu' (S ++ T) sg H' → Wk g J items alive S → R J H'
structure QI (X : Cx) (g : Gm) (tg iter : Expr) (t : TId) : Prop where
  m : MonoI t
  pi : PI X tg iter (upI g t)
theorem PI.of {X : Cx} {tg iter : Expr} {t t' : TI} (h : PI X tg iter t) (w : ∀ sg H R, t' sg H R → t sg H R) : PI X tg iter t' := ⟨fun pins s sg H R I q => h.run pins s sg H R I (w sg H R q)⟩

/-! ### for -/
def loopE (A : EndsD) (n : Lo → Mu → Prop) : EndsD := { A with nx := n, ct := n, bk := A.nx }
def forD (k : TGd) (tb : TSd) (alive : Mu → Prop) (A : EndsD) : List D → Lo → Mu → Prop
  | [], dl, mu => alive mu ∧ A.nx dl mu
  | d :: ds, dl, mu => alive mu ∧ k d dl mu fun dl' mu' => tb (loopE A (forD k tb alive A ds)) dl' mu'
@[irreducible] def forS (k : TGd) (tb : TSd) (alive : Mu → Prop) (A : EndsD) (ds : List D) (dl : Lo) (mu : Mu) : Prop := forD k tb alive A ds dl mu
theorem forS_eq : @forS = @forD := by
  funext k tb alive A ds dl mu
  unfold forS
  rfl
def sFor (ti : TId) (k : TGd) (tb : TSd) : TSd := fun A dl mu => ti dl mu fun items alive m => forS k tb alive A items dl m
theorem forD_m {k : TGd} {tb : TSd} {alive : Mu → Prop} {A B : EndsD} (hk : MonoG k) (hb : MonoS tb) (h : A.Le B) : ∀ (ds : List D) (dl : Lo) (mu : Mu), forD k tb alive A ds dl mu → forD k tb alive B ds dl mu
  | [], dl, mu, z => ⟨z.1, h.nx _ _ z.2⟩
  | d :: ds, dl, mu, z => ⟨z.1, hk _ _ _ _ _ (fun dl' mu' z => hb (loopE A (forD k tb alive A ds)) (loopE B (forD k tb alive B ds)) ⟨fun dl mu z => forD_m hk hb h ds dl mu z, h.rt, h.nx, fun dl mu z => forD_m hk hb h ds dl mu z⟩ _ _ z) z.2⟩
section
variable {X : Cx} {g : Gm} {pos : Pos}
theorem for_up {ti : TId} {k : TGd} {tb : TSd} {ws : List Nat} (hi : MonoI ti) (hk : MonoG k) {E : Ends} {sg : St} {H : Hp} (z : upS g (sFor ti k tb) E sg H) : tFor (upI g ti) (upG g ws k) (upS g tb) E sg H := by
  obtain ⟨dl, mu, T, A, r, f, z⟩ := z
  refine ⟨dl, mu, T, r, hi dl mu _ _ (fun items alive m z J H1 S r1 w => ?_) z⟩
  rw [forS_eq] at z
  have sub : ∀ {dl mu sg H}, Rel g dl mu (S ++ T) sg H → Rel g dl mu T sg H := fun r => r.sub fun _ h => List.mem_append_right _ h
  refine ⟨fun i n sg' H' => ∃ dl' mu', Rel g dl' mu' (S ++ T) sg' H' ∧ n = items.length - i ∧ i ≤ items.length ∧ forD k tb alive A (items.drop i) dl' mu', ⟨items.length, dl, m, r1, by omega, Nat.zero_le _, z⟩, ?_⟩
  rintro i n sg' H' ⟨dl', mu', r', rfl, hle, z'⟩
  by_cases hlt : i < items.length
  · have e : items.drop i = items[i] :: items.drop (i + 1) := List.drop_eq_getElem_cons hlt
    rw [e] at z'
    obtain ⟨ha, z'⟩ := z'
    obtain ⟨al, ra⟩ := r'
    obtain ⟨h1, h2⟩ := w.go i items[i] al dl' mu' T sg' H' ra ha (List.getElem?_eq_getElem hlt)
    refine .inr ⟨h1, fun sg2 H2 => ∃ dl2 mu2, Rel g dl2 mu2 (S ++ T) sg2 H2 ∧ forD k tb alive A (items.drop (i + 1)) dl2 mu2, fun sg2 H2 ⟨dl2, mu2, r2, z2⟩ => ⟨items.length - (i + 1), by omega, dl2, mu2, r2, rfl, hlt, z2⟩, fun x H2 hy => ?_⟩
    refine ⟨dl', mu', S ++ T, items[i], ⟨al, (h2 x H2 hy).1⟩, hk _ _ _ _ _ (fun dl2 mu2 z2 sg2 H3 _ r2 => ?_) z'⟩
    exact ⟨dl2, mu2, S ++ T, loopE A (forD k tb alive A (items.drop (i + 1))), r2, ⟨fun dl mu sg H r z => ⟨dl, mu, r, z⟩, fun dl mu sg H v d r z => f.rt dl mu sg H v d (r.sub fun p hp => by
      rcases List.mem_cons.mp hp with h | h
      · rw [h]; exact List.mem_cons_self
      · exact List.mem_cons_of_mem _ (List.mem_append_right _ h)) z, fun dl mu sg H r z => f.nx dl mu sg H (sub r) z, fun dl mu sg H r z => ⟨dl, mu, r, z⟩⟩, z2⟩
  · have e : items.drop i = [] := List.drop_eq_nil_of_le (by omega)
    rw [e] at z'
    obtain ⟨al, ra⟩ := id r'
    exact .inl ⟨w.stop i al dl' mu' T sg' H' ra z'.1 (by omega), f.nx _ _ _ _ (sub r') z'.2⟩
theorem qs_for {tg iter : Expr} {body : List Stmt} {ti : TId} {k : TGd} {tb : TSd} {ws : List Nat} (hp : PassesOwn (model X.prog X.w) X.A X.env X.xe) (hc : X.calm = true) (hi : QI X g tg iter ti) (hg : QG X g tg ws k) (hb : QSs X g body tb)
    (hs : ∀ {wi : TI} {gt : TG} {tt : TS}, PI X tg iter wi → PG X tg gt → PSs X body tt → PS X (.For tg iter body [] pos) (tFor wi gt tt)) : QS X g (.For tg iter body [] pos) (sFor ti k tb) where
  m := fun A B h dl mu z => hi.m dl mu _ _ (fun l a m z => by rw [forS_eq] at z ⊢; exact forD_m hg.m hb.m h l dl m z) z
  ps := PS.of (hs hi.pi hg.pg hb.ps) fun _ _ _ z => for_up hi.m hg.m z

/-! ### list comprehensions -/
def wipeD (dl : Lo) : List Nat → Lo
  | [] => dl
  | v :: vs => (wipeD dl vs).set v none
theorem RelA.wipe {al : Ad} {dl : Lo} {mu : Mu} {T : List (V × D)} {sg : St} {H : Hp} (r : RelA g al dl mu T sg H) : ∀ vs : List Nat, RelA g al (wipeD dl vs) mu T (L2.wipe sg vs) H
  | [] => r
  | v :: vs => by
    have ih := RelA.wipe r vs
    refine { ih with loc := fun i d e => ?_, len := by show ((L2.wipe sg vs).set v none).length = ((wipeD dl vs).set v none).length; rw [List.length_set, List.length_set]; exact ih.len }
    have e : ((wipeD dl vs).set v none)[i]? = some (some d) := e
    by_cases hi : i = v
    · subst hi
      by_cases hl : i < (wipeD dl vs).length
      · rw [List.getElem?_set_self hl] at e; cases e
      · rw [List.getElem?_eq_none (by rw [List.length_set]; omega)] at e; cases e
    · rw [List.getElem?_set_ne (Ne.symm hi)] at e
      obtain ⟨w, e1, e2⟩ := ih.loc i d e
      refine ⟨w, ?_, e2⟩
      show ((L2.wipe sg vs).set v none)[i]? = _
      rw [List.getElem?_set_ne (Ne.symm hi)]; exact e1
def lcD (k : TGd) (tt : TTd) (te : TEd) (alive : Mu → Prop) (dw : Lo) (Q : KD) : List D → List D → Mu → Prop
  | [], acc, mu => alive mu ∧ Q (.lst acc) mu
  | d :: ds, acc, mu => alive mu ∧ acc.length < sizeLine ∧ k d dw mu fun dl' mu' => tt dl' mu' fun b m2 => Br b (te dl' m2 fun y m3 => lcD k tt te alive dw Q ds (acc ++ [y]) m3) (lcD k tt te alive dw Q ds acc m2)
@[irreducible] def lcS (k : TGd) (tt : TTd) (te : TEd) (alive : Mu → Prop) (dw : Lo) (Q : KD) (ds acc : List D) (mu : Mu) : Prop := lcD k tt te alive dw Q ds acc mu
theorem lcS_eq : @lcS = @lcD := by
  funext k tt te alive dw Q ds acc mu
  unfold lcS
  rfl
def dLc (ti : TId) (k : TGd) (tt : TTd) (te : TEd) (vs : List Nat) : TEd := fun dl mu Q => ti dl mu fun items alive m => lcS k tt te alive (wipeD dl vs) Q items [] m
theorem lcD_m {k : TGd} {tt : TTd} {te : TEd} {alive : Mu → Prop} {dw : Lo} {Q Q' : KD} (hk : MonoG k) (ht : MonoE tt) (he : MonoE te) (w : ∀ d m, Q d m → Q' d m) : ∀ (ds acc : List D) (mu : Mu), lcD k tt te alive dw Q ds acc mu → lcD k tt te alive dw Q' ds acc mu
  | [], acc, mu, z => ⟨z.1, w _ _ z.2⟩
  | d :: ds, acc, mu, z => ⟨z.1, z.2.1, hk _ _ _ _ _ (fun dl' mu' z => ht _ _ _ _ (fun b m2 z => by
      cases b with
      | true =>
        simp only [Br, Bool.false_eq_true, ↓reduceIte] at z ⊢
        exact he _ _ _ _ (fun y m3 z => lcD_m hk ht he w ds _ _ z) z
      | false =>
        simp only [Br, Bool.false_eq_true, ↓reduceIte] at z ⊢
        exact lcD_m hk ht he w ds _ _ z) z) z.2.2⟩
/-- what a state over an entry tells of that entry -/
theorem RelA.toBack {K : PySem.W.Frag} {ca : Str → Addr} {al al2 : Ad} {H H2 : Hp} {dl : Lo} {mu : Mu} {T : List (V × D)} {sg : St} (r : RelA ⟨K, ca, H, al⟩ al2 dl mu T sg H2) (sub : ∀ a ∈ al.pl, a ∈ al.ex) : Back al al2 H H2 :=
  ⟨⟨r.pre, fun b o e n => r.frm b o e fun z => n (sub b z), fun a h1 h2 => r.fre a h1 h2, fun a h1 h2 => r.frp a h1 h2⟩, fun b o e n => r.frm b o e n, r.exs⟩
/-- a state taken as an entry -/
theorem RelA.enter {al : Ad} {dl : Lo} {mu : Mu} {T : List (V × D)} {sg : St} {H : Hp} (r : RelA g al dl mu T sg H) : RelA ⟨g.K, g.ca, H, al⟩ al dl mu T sg H :=
  ⟨r.st, List.prefix_rfl, fun _ h => h, r.st.dom, fun _ _ e _ => e, fun _ h1 h2 => absurd h1 h2, fun _ h1 h2 => absurd h1 h2, r.loc, r.tmp, r.len⟩
/-- the list that is made is hidden meanwhile -/
structure Mk (g : Gm) (Dd : Addr) (acc : List D) (al : Ad) (dl : Lo) (mu : Mu) (T : List (V × D)) (sg : St) (H : Hp) (vs : List V) : Prop where
  r : RelA g al dl mu T sg H
  ex : Dd ∈ al.ex
  pl : Dd ∉ al.pl
  at_ : H Dd = some (.lst vs)
  rs : Reps g.K g.ca al H acc vs
  h0 : g.H0 Dd = none
def hide (al : Ad) (d : Addr) : Ad := ⟨al.pl, d :: al.ex⟩
def bare (al : Ad) (d : Addr) : Ad := ⟨al.pl, al.ex.filter fun a => decide (a ≠ d)⟩
variable {al : Ad} {dl : Lo} {mu : Mu} {T : List (V × D)} {sg : St} {H : Hp} {Dd : Addr} {acc : List D} {vs : List V}
theorem Mk.start (r : RelA g al dl mu T sg H) (n : H Dd = none) : Mk g Dd [] (hide al Dd) dl mu T sg (upd H Dd (.lst [])) [] := by
  have k : Stp g al (hide al Dd) H (upd H Dd (.lst [])) :=
    { pre := List.prefix_rfl
      keep := fun b o e _ => by rw [upd_ne (ne_of_none e n)]; exact e
      new := fun a h1 h2 => by
        rcases List.mem_cons.mp h1 with z | z
        · rw [z]; exact n
        · exact absurd z h2
      newp := fun a h1 h2 => absurd h1 h2
      kf := fun b o _ _ e => by rw [upd_ne (ne_of_none e n)]; exact e
      ke := fun a _ h => List.mem_cons_of_mem _ h }
  have s : Store g.K g.ca (hide al Dd) mu (upd H Dd (.lst [])) :=
    { nd := r.st.nd
      len := r.st.len
      sub := fun a h => List.mem_cons_of_mem _ (r.st.sub a h)
      dom := fun a h => by
        by_cases z : a = Dd
        · rw [z]; exact ⟨_, upd_same⟩
        · rw [upd_ne z]
          rcases List.mem_cons.mp h with h | h
          · exact absurd h z
          · exact r.st.dom a h
      nx := fun a h φ => by
        by_cases z : a = Dd
        · rw [z, upd_same]; intro q; cases q
        · rw [upd_ne z]
          rcases List.mem_cons.mp h with h | h
          · exact absurd h z
          · exact r.st.nx a h φ
      has := fun i a d e1 e2 => by
        obtain ⟨u, e⟩ := r.st.pdom (List.mem_of_getElem? e1)
        exact (r.st.has i a d e1 e2).grow k.toGrow (upd_ne (ne_of_none e n)) }
  refine ⟨r.step k s, List.mem_cons_self, fun z => r.st.fresh n (r.st.sub Dd z), upd_same, by simp only [Reps], ?_⟩
  cases q : g.H0 Dd with
  | none => rfl
  | some o =>
    by_cases z : Dd ∈ g.al0.pl
    · exact absurd (r.st.sub Dd (r.pre.subset z)) (r.st.fresh n)
    · have := r.frm Dd o q z
      rw [n] at this; cases this
theorem Mk.more (m : Mk g Dd acc al dl mu T sg H vs) {d : D} {v : V} (h : Rep g.K g.ca al H d v) : Mk g Dd (acc ++ [d]) al dl mu T sg (upd H Dd (.lst (vs ++ [v]))) (vs ++ [v]) := by
  have k : Stp g al al H (upd H Dd (.lst (vs ++ [v]))) :=
    { grow_put m.ex with
      kf := fun b o e _ h => by
        rw [upd_ne (show b ≠ Dd from fun z => by rw [z, m.h0] at e; cases e)]; exact h
      ke := fun _ _ h => h }
  have s : Store g.K g.ca al mu (upd H Dd (.lst (vs ++ [v]))) :=
    { m.r.st with
      dom := fun a h => by
        by_cases z : a = Dd
        · rw [z]; exact ⟨_, upd_same⟩
        · rw [upd_ne z]; exact m.r.st.dom a h
      nx := fun a h φ => by
        by_cases z : a = Dd
        · rw [z, upd_same]; intro q; cases q
        · rw [upd_ne z]; exact m.r.st.nx a h φ
      has := fun i a d e1 e2 => (m.r.st.has i a d e1 e2).grow k.toGrow (upd_ne fun z => m.pl (by rw [← z]; exact List.mem_of_getElem? e1)) }
  refine ⟨m.r.step k s, m.ex, m.pl, upd_same, reps_app (Reps.grow k.toGrow _ _ m.rs) ?_, m.h0⟩
  simp only [Reps]
  exact ⟨v, [], rfl, Rep.grow k.toGrow _ _ h, rfl⟩
theorem Mk.done (m : Mk g Dd acc al dl mu T sg H vs) : RelA g (bare al Dd) dl mu ((.ref Dd, .lst acc) :: T) sg H := by
  have k : Stp g al (bare al Dd) H H :=
    { pre := List.prefix_rfl
      keep := fun b o e _ => e
      new := fun a h1 h2 => absurd (List.mem_filter.mp h1).1 h2
      newp := fun a h1 h2 => absurd h1 h2
      kf := fun b o _ _ e => e
      ke := fun a h0 h => List.mem_filter.mpr ⟨h, decide_eq_true fun z => by
        obtain ⟨o, e⟩ := m.r.sub0 a h0
        rw [z, m.h0] at e; cases e⟩ }
  have s : Store g.K g.ca (bare al Dd) mu H :=
    { nd := m.r.st.nd
      len := m.r.st.len
      sub := fun a h => List.mem_filter.mpr ⟨m.r.st.sub a h, decide_eq_true fun z => m.pl (by rw [← z]; exact h)⟩
      dom := fun a h => m.r.st.dom a (List.mem_filter.mp h).1
      nx := fun a h => m.r.st.nx a (List.mem_filter.mp h).1
      has := fun i a d e1 e2 => (m.r.st.has i a d e1 e2).grow k.toGrow rfl }
  refine (m.r.step k s).push ?_
  simp only [Rep]
  exact ⟨Dd, vs, rfl, m.at_, fun z => absurd rfl (of_decide_eq_true (List.mem_filter.mp z).2), Reps.grow k.toGrow _ _ m.rs⟩
theorem Mk.ext (m : Mk g Dd acc al dl mu T sg H vs) {H' : Hp} {T' : List (V × D)} (r : RelA g al dl mu T' sg H') (k : ∀ b o, H b = some o → H' b = some o) : Mk g Dd acc al dl mu T' sg H' vs :=
  ⟨r, m.ex, m.pl, k _ _ m.at_, Reps.grow ⟨List.prefix_rfl, fun b o e _ => k b o e, fun _ h1 h2 => absurd h1 h2, fun _ h1 h2 => absurd h1 h2⟩ _ _ m.rs, m.h0⟩
/-- the turn's part has run, over the state as its entry -/
theorem Mk.ran (m : Mk g Dd acc al dl mu T sg H vs) {al2 : Ad} {dl2 : Lo} {mu2 : Mu} {T2 : List (V × D)} {sg2 : St} {H2 : Hp} (r : RelA ⟨g.K, g.ca, H, al⟩ al2 dl2 mu2 T2 sg2 H2) : Mk g Dd acc al2 dl mu2 T sg H2 vs := by
  have b := r.toBack m.r.st.sub
  refine ⟨m.r.step (m.r.back b) r.st, b.exs _ m.ex, fun z => ?_, b.all _ _ m.at_ m.pl, Reps.grow b.toGrow _ _ m.rs, m.h0⟩
  have q := b.newp Dd z m.pl
  rw [m.at_] at q; cases q
def exG (K : PySem.W.Frag) (ca : Str → Addr) (ws : List Nat) (k : TGd) : TG := fun v sg H Q => ∃ g : Gm, g.K = K ∧ g.ca = ca ∧ upG g ws k v sg H Q
def exT (K : PySem.W.Frag) (ca : Str → Addr) (t : TTd) : TT := fun sg H Q => ∃ g : Gm, g.K = K ∧ g.ca = ca ∧ upT g t sg H Q
def exE (K : PySem.W.Frag) (ca : Str → Addr) (t : TEd) : TE := fun sg H Q => ∃ g : Gm, g.K = K ∧ g.ca = ca ∧ upE g t sg H Q
theorem wipe_wipe (sg : St) (vs : List Nat) : L2.wipe (L2.wipe sg vs) vs = L2.wipe sg vs :=
  Tch.same ⟨wipe_length sg vs, fun i hi => wipe_out hi⟩
theorem Tch.mono {ws ws' : List Nat} {a b : St} (h : Tch ws a b) (k : ∀ i ∈ ws, i ∈ ws') : Tch ws' a b := ⟨h.1, fun i hi => h.2 i fun z => hi (k i z)⟩
theorem lc_up {ti : TId} {k : TGd} {tt : TTd} {te : TEd} {ws vs : List Nat} (hi : MonoI ti) (hk : MonoG k) (ht : MonoE tt) (he : MonoE te) (hw : ∀ i ∈ ws, i ∈ vs) {sg : St} {H : Hp} {Q : VK} (z : upE g (dLc ti k tt te vs) sg H Q) :
    tLc (upI g ti) (exG g.K g.ca ws k) (exT g.K g.ca tt) (exE g.K g.ca te) vs sg H Q := by
  obtain ⟨dl, mu, T, r, z⟩ := z
  refine ⟨dl, mu, T, r, hi dl mu _ _ (fun items alive m z J H1 S r1 w => ?_) z⟩
  rw [lcS_eq] at z
  intro Dd nD
  obtain ⟨al1, r1⟩ := r1
  refine ⟨fun i n H' => ∃ al mu' acc vv, Mk g Dd acc al dl mu' (S ++ T) sg H' vv ∧ n = items.length - i ∧ i ≤ items.length ∧ lcD k tt te alive (wipeD dl vs) (fun d mu' => ∀ v H', Rel g dl mu' ((v, d) :: T) sg H' → Q v H') (items.drop i) acc mu', ⟨items.length, _, m, [], [], Mk.start r1 nD, by omega, Nat.zero_le _, z⟩, ?_⟩
  rintro i n H2 ⟨al, mu2, acc, vv, mk, rfl, hle, z2⟩
  by_cases hlt : i < items.length
  · have e : items.drop i = items[i] :: items.drop (i + 1) := List.drop_eq_getElem_cons hlt
    rw [e] at z2
    obtain ⟨ha, hsz, z2⟩ := z2
    obtain ⟨h1, h2⟩ := w.go i items[i] al dl mu2 T sg H2 mk.r ha (List.getElem?_eq_getElem hlt)
    refine .inr ⟨h1, fun H' => ∃ al mu' acc vv, Mk g Dd acc al dl mu' (S ++ T) sg H' vv ∧ lcD k tt te alive (wipeD dl vs) (fun d mu' => ∀ v H', Rel g dl mu' ((v, d) :: T) sg H' → Q v H') (items.drop (i + 1)) acc mu', fun H' ⟨al, mu', acc, vv, mk, z⟩ => ⟨items.length - (i + 1), by omega, al, mu', acc, vv, mk, rfl, hlt, z⟩, fun x H3 hy => ?_⟩
    obtain ⟨r3, x3⟩ := h2 x H3 hy
    have mk3 : Mk g Dd acc al dl mu2 (S ++ T) sg H3 vv := mk.ext (r3.sub fun _ h => List.mem_cons_of_mem _ h) x3
    have e3 : RelA ⟨g.K, g.ca, H3, al⟩ al (wipeD dl vs) mu2 ((x, items[i]) :: []) (L2.wipe sg vs) H3 := (r3.wipe vs).enter.sub fun p hp => by
      rw [List.mem_singleton.mp hp]; exact List.mem_cons_self
    refine ⟨⟨g.K, g.ca, H3, al⟩, rfl, rfl, wipeD dl vs, mu2, [], items[i], ⟨al, e3⟩, hk _ _ _ _ _ (fun dl4 mu4 z4 sg4 H4 tc r4 => ?_) z2⟩
    refine ⟨((tc.mono hw).same).trans (wipe_wipe sg vs), ⟨g.K, g.ca, H3, al⟩, rfl, rfl, dl4, mu4, [], r4, ht _ _ _ _ (fun b mu5 z5 H5 r5 => ?_) z4⟩
    cases b with
    | true =>
      simp only [Br, Bool.false_eq_true, ↓reduceIte] at z5 ⊢
      refine ⟨⟨g.K, g.ca, H3, al⟩, rfl, rfl, dl4, mu5, [], r5, he _ _ _ _ (fun y mu6 z6 v H6 r6 => ?_) z5⟩
      obtain ⟨al6, r6⟩ := r6
      have mk6 := mk3.ran r6
      refine ⟨vv, mk6.at_, by rw [reps_len mk6.rs]; exact hsz, al6, mu6, acc ++ [y], vv ++ [v], mk6.more (r6.tmp (v, y) List.mem_cons_self), z6⟩
    | false =>
      simp only [Br, Bool.false_eq_true, ↓reduceIte] at z5 ⊢
      obtain ⟨al5, r5⟩ := r5
      exact ⟨al5, mu5, acc, vv, mk3.ran r5, z5⟩
  · have e : items.drop i = [] := List.drop_eq_nil_of_le (by omega)
    rw [e] at z2
    refine .inl ⟨w.stop i al dl mu2 T sg H2 mk.r z2.1 (by omega), z2.2 _ _ ⟨_, mk.done.sub fun p hp => ?_⟩⟩
    rcases List.mem_cons.mp hp with h | h
    · rw [h]; exact List.mem_cons_self
    · exact List.mem_cons_of_mem _ (List.mem_append_right _ h)
end
end VL

/-! VsLoop2: comprehensions as expressions and statements; sources that are walked. -/
namespace VL
open PySem PySem.Spec PyProof.Rows L2
section
variable {X : Cx} {g : Gm} {pos : Pos}
structure QTs (X : Cx) (g : Gm) (ifs : List Expr) (t : TTd) : Prop where
  m : MonoE t
  pts : PTs X ifs (upT g t)
theorem PTs.of {ifs : List Expr} {t t' : TT} (h : PTs X ifs t) (w : ∀ sg H Q, t' sg H Q → t sg H Q) : PTs X ifs t' := ⟨fun pins s sg H Q I q => h.run pins s sg H Q I (w sg H Q q)⟩
def dYes : TTd := fun _ mu Q => Q true mu
theorem qts_nil : QTs X g [] dYes := ⟨fun _ _ _ _ w z => w _ _ z, PTs.of pts_nil fun sg H Q z => by
  obtain ⟨dl, mu, T, r, z⟩ := z
  exact z H r⟩
theorem qts_one {c : Expr} {t : TTd} (h : QT X g c t) : QTs X g [c] t := ⟨h.m, pts_one h.pt⟩
variable {elt tg iter : Expr} {ifs : List Expr} {scope : Scope} {own : List (Str × Nat)} {ti : TId} {k : TGd} {tt : TTd} {te : TEd} {ws : List Nat}
theorem exG_pg {X' : Cx} (h : ∀ g' : Gm, g'.K = g.K → g'.ca = g.ca → QG X' g' tg ws k) : PG X' tg (exG g.K g.ca ws k) := ⟨fun pins s sg H v u Q I r z => by
  obtain ⟨g', e1, e2, z⟩ := z
  exact (h g' e1 e2).pg.run pins s sg H v u Q I r z⟩
theorem exT_pt {X' : Cx} (h : ∀ g' : Gm, g'.K = g.K → g'.ca = g.ca → QTs X' g' ifs tt) : PTs X' ifs (exT g.K g.ca tt) := ⟨fun pins s sg H Q I z => by
  obtain ⟨g', e1, e2, z⟩ := z
  exact (h g' e1 e2).pts.run pins s sg H Q I z⟩
theorem exE_pe {X' : Cx} (h : ∀ g' : Gm, g'.K = g.K → g'.ca = g.ca → PD X' g' elt te) : PE X' elt (exE g.K g.ca te) := ⟨fun pins s sg H Q I z => by
  obtain ⟨g', e1, e2, z⟩ := z
  exact (h g' e1 e2).pe.run pins s sg H Q I z⟩
theorem lc_m (hi : MonoI ti) (hk : MonoG k) (ht : MonoE tt) (he : MonoE te) {vs : List Nat} : MonoE (dLc ti k tt te vs) := fun dl mu Q Q' w z => hi dl mu _ _ (fun l a m z => by rw [lcS_eq] at z ⊢; exact lcD_m hk ht he w l [] m z) z
theorem pd_lc (hc : X.calm = true) (hN : X.N.Nodup) (hi : QI X g tg iter ti) (ok : BlkOk X.N X.env.scope scope own) (hw : ∀ i ∈ ws, i ∈ own.map (·.2))
    (hg : ∀ (s : Shared) (H : Hp) (C : Addr) (cl : List (Str × Addr)) (fp : List Addr) (g' : Gm), g'.K = g.K → g'.ca = g.ca → QG (X.blk s H scope (compEnvC scope cl C X.env) fp) g' tg ws k)
    (ht : ∀ (s : Shared) (H : Hp) (C : Addr) (cl : List (Str × Addr)) (fp : List Addr) (g' : Gm), g'.K = g.K → g'.ca = g.ca → QTs (X.blk s H scope (compEnvC scope cl C X.env) fp) g' ifs tt)
    (he : ∀ (s : Shared) (H : Hp) (C : Addr) (cl : List (Str × Addr)) (fp : List Addr) (g' : Gm), g'.K = g.K → g'.ca = g.ca → PD (X.blk s H scope (compEnvC scope cl C X.env) fp) g' elt te)
    (hs : ∀ x, foldedSetIterable iter X.env x = pure x := by intro _; rfl) : PD X g (.ListComp elt [⟨tg, iter, ifs, 0⟩] scope pos) (dLc ti k tt te (own.map (·.2))) :=
  have mk := (hg X.s_0 X.H_0 0 [] [] g rfl rfl).m
  have mt := (ht X.s_0 X.H_0 0 [] [] g rfl rfl).m
  have me := (he X.s_0 X.H_0 0 [] [] g rfl rfl).m
  ⟨lc_m hi.m mk mt me, PE.of (pe_lc hc hN hi.pi ok (fun s H C cl fp => exG_pg (hg s H C cl fp)) (fun s H C cl fp => exT_pt (ht s H C cl fp)) (fun s H C cl fp => exE_pe (he s H C cl fp)) hs) fun _ _ _ z => lc_up hi.m mk mt me hw z⟩
theorem qs_setLc {i : Nat} {y : Str} {py spos : Pos} (hc : X.calm = true) (hN : X.N.Nodup) (hy : X.N[i]? = some y) (hyl : X.env.scope.names.lookup y = some .local)
    (hsw : swapsWith (.ListComp elt [⟨tg, iter, ifs, 0⟩] scope pos) (some (.Name y py)) spos.line X.env = pure true) (hi : QI X g tg iter ti) (ok : BlkOk X.N X.env.scope scope own) (hw : ∀ i ∈ ws, i ∈ own.map (·.2))
    (hg : ∀ (s : Shared) (H : Hp) (C : Addr) (cl : List (Str × Addr)) (fp : List Addr) (g' : Gm), g'.K = g.K → g'.ca = g.ca → QG (X.blk s H scope (compEnvC scope cl C X.env) fp) g' tg ws k)
    (ht : ∀ (s : Shared) (H : Hp) (C : Addr) (cl : List (Str × Addr)) (fp : List Addr) (g' : Gm), g'.K = g.K → g'.ca = g.ca → QTs (X.blk s H scope (compEnvC scope cl C X.env) fp) g' ifs tt)
    (he : ∀ (s : Shared) (H : Hp) (C : Addr) (cl : List (Str × Addr)) (fp : List Addr) (g' : Gm), g'.K = g.K → g'.ca = g.ca → PD (X.blk s H scope (compEnvC scope cl C X.env) fp) g' elt te)
    (hs : ∀ x, foldedSetIterable iter X.env x = pure x := by intro _; rfl) : QS X g (.Assign [.Name y py] (.ListComp elt [⟨tg, iter, ifs, 0⟩] scope pos) spos) (sAsg (dLc ti k tt te (own.map (·.2))) (kName i)) :=
  have mk := (hg X.s_0 X.H_0 0 [] [] g rfl rfl).m
  have mt := (ht X.s_0 X.H_0 0 [] [] g rfl rfl).m
  have me := (he X.s_0 X.H_0 0 [] [] g rfl rfl).m
  ⟨asg_m (lc_m hi.m mk mt me) (name_m i), PS.of (ps_setLc hc hN hy hyl hsw hi.pi ok (fun s H C cl fp => exG_pg (hg s H C cl fp)) (fun s H C cl fp => exT_pt (ht s H C cl fp)) (fun s H C cl fp => exE_pe (he s H C cl fp)) hs) fun E sg H z => by
    have q := set_up (lc_m hi.m mk mt me) z
    exact lc_up hi.m mk mt me hw q⟩

/-! ### sources -/
def iSeq (tl : TEd) : TId := fun dl mu Q => tl dl mu fun d m => match seqOf m d with
  | some xs => Q xs (fun m' => seqOf m' d = some xs) m
  | none => False
theorem wk_list {K : PySem.W.Frag} (hK : K = g.K) {a : Addr} {d : D} {xs : List D} (hd : ∀ al dl mu T sg H, RelA g al dl mu ((.ref a, d) :: T) sg H → seqOf mu d = some xs → ∃ vs, SqL g.K H a vs ∧ Reps g.K g.ca al H xs vs) : Wk g (Itl K a) xs (fun m => seqOf m d = some xs) [(.ref a, d)] := by
  subst hK
  refine ⟨fun i y al dl mu T sg H r ha e => ?_, fun i al dl mu T sg H r ha hl => ?_⟩
  · obtain ⟨vs, h1, h2⟩ := hd al dl mu T sg H r ha
    obtain ⟨v, e1, e2⟩ := reps_get h2 e
    refine ⟨⟨vs, v, h1, e1⟩, fun x H' hy => ?_⟩
    obtain ⟨rfl, fx⟩ := hy
    have ex : v = x := Option.some.inj (e1.symm.trans (fx vs h1))
    subst ex
    exact ⟨r.push e2, fun _ _ h => h⟩
  · obtain ⟨vs, h1, h2⟩ := hd al dl mu T sg H r ha
    exact ⟨vs, h1, by rw [reps_len h2]; exact hl⟩
theorem wk_tup {K : PySem.W.Frag} (hK : K = g.K) {a : Addr} {d : D} {xs : List D} (hd : ∀ al dl mu T sg H, RelA g al dl mu ((.ref a, d) :: T) sg H → seqOf mu d = some xs → ∃ vs, SqT g.K H a vs ∧ Reps g.K g.ca al H xs vs) : Wk g (Itt K a) xs (fun m => seqOf m d = some xs) [(.ref a, d)] := by
  subst hK
  refine ⟨fun i y al dl mu T sg H r ha e => ?_, fun i al dl mu T sg H r ha hl => ?_⟩
  · obtain ⟨vs, h1, h2⟩ := hd al dl mu T sg H r ha
    obtain ⟨v, e1, e2⟩ := reps_get h2 e
    refine ⟨⟨vs, v, h1, e1⟩, fun x H' hy => ?_⟩
    obtain ⟨rfl, fx⟩ := hy
    have ex : v = x := Option.some.inj (e1.symm.trans (fx vs h1))
    subst ex
    exact ⟨r.push e2, fun _ _ h => h⟩
  · obtain ⟨vs, h1, h2⟩ := hd al dl mu T sg H r ha
    exact ⟨vs, h1, by rw [reps_len h2]; exact hl⟩
theorem seq_kind {dl : Lo} {mu : Mu} {T : List (V × D)} {sg : St} {H : Hp} {v : V} {d : D} {xs : List D} (r : Rel g dl mu ((v, d) :: T) sg H) (e : seqOf mu d = some xs) :
    (∃ a vs, v = .ref a ∧ SqL g.K H a vs ∧ Wk g (Itl g.K a) xs (fun m => seqOf m d = some xs) [(.ref a, d)]) ∨ ∃ a vs, v = .ref a ∧ SqT g.K H a vs ∧ Wk g (Itt g.K a) xs (fun m => seqOf m d = some xs) [(.ref a, d)] := by
  obtain ⟨al, q, k⟩ := r.top
  cases d with
  | tup ys =>
    obtain ⟨a, vs, rfl, h1, h2⟩ := rep_tup k
    refine .inr ⟨a, vs, rfl, h1, wk_tup rfl fun al dl mu T sg H r e => ?_⟩
    cases e
    obtain ⟨a', ws, e1, h1, h2⟩ := rep_tup (r.tmp (_, _) List.mem_cons_self)
    cases e1
    exact ⟨ws, h1, h2⟩
  | ptup ys =>
    obtain ⟨a, vs, rfl, h1, h2⟩ := rep_ptup k
    refine .inr ⟨a, vs, rfl, h1, wk_tup rfl fun al dl mu T sg H r e => ?_⟩
    cases e
    obtain ⟨a', ws, e1, h1, h2⟩ := rep_ptup (r.tmp (_, _) List.mem_cons_self)
    cases e1
    exact ⟨ws, h1, h2⟩
  | lst ys =>
    obtain ⟨a, vs, rfl, h1, h2⟩ := q.lst k e
    refine .inl ⟨a, vs, rfl, h1, wk_list rfl fun al dl mu T sg H r e => ?_⟩
    obtain ⟨a', ws, e1, h1, h2⟩ := r.lst (r.tmp (_, _) List.mem_cons_self) e
    cases e1
    exact ⟨ws, h1, h2⟩
  | loc n =>
    obtain ⟨a, vs, rfl, h1, h2⟩ := q.lst k e
    refine .inl ⟨a, vs, rfl, h1, wk_list rfl fun al dl mu T sg H r e => ?_⟩
    obtain ⟨a', ws, e1, h1, h2⟩ := r.lst (r.tmp (_, _) List.mem_cons_self) e
    cases e1
    exact ⟨ws, h1, h2⟩
  | scr ns =>
    obtain ⟨a, vs, rfl, h1, h2⟩ := q.lst k e
    refine .inl ⟨a, vs, rfl, h1, wk_list rfl fun al dl mu T sg H r e => ?_⟩
    obtain ⟨a', ws, e1, h1, h2⟩ := r.lst (r.tmp (_, _) List.mem_cons_self) e
    cases e1
    exact ⟨ws, h1, h2⟩
  | _ => cases e
theorem qi_seq {l : Expr} {tl : TEd} (hK : X.K = g.K) (hl : PD X g l tl) : QI X g tg l (iSeq tl) where
  m := fun dl mu Q Q' w z => hl.m dl mu _ _ (fun d m z => by
    cases e : seqOf m d with
    | none => rw [e] at z; exact z.elim
    | some xs => rw [e] at z; exact w _ _ _ z) z
  pi := ⟨fun pins s sg H R I z => by
    obtain ⟨dl, mu, T, r, z⟩ := z
    have h2 : upE g tl sg H fun v H1 => (∃ a vs, v = .ref a ∧ SqL X.K H1 a vs ∧ R (Itl X.K a) H1) ∨ ∃ a vs, v = .ref a ∧ SqT X.K H1 a vs ∧ R (Itt X.K a) H1 := by
      refine ⟨dl, mu, T, r, hl.m dl mu _ _ (fun d m z v H1 r1 => ?_) z⟩
      cases e : seqOf m d with
      | none => rw [e] at z; exact z.elim
      | some xs =>
        rw [e] at z
        rw [hK]
        rcases seq_kind r1 e with ⟨a, vs, rfl, h1, w⟩ | ⟨a, vs, rfl, h1, w⟩
        · exact .inl ⟨a, vs, rfl, h1, z _ _ [(.ref a, d)] r1 w⟩
        · exact .inr ⟨a, vs, rfl, h1, z _ _ [(.ref a, d)] r1 w⟩
    refine thn (hl.pe.run pins s sg H _ I h2) fun u st ⟨v, H1, J, rv, q⟩ => ?_
    have fr : ∀ b ∈ [st.heap.objs.size], FpOk X pins H1 b := fun b hb => by
      rw [List.mem_singleton.mp hb]
      exact J.fpOk (Nat.le_refl _) (J.hok.fresh (Nat.le_refl _))
    rcases q with ⟨a, vs, rfl, hq, q⟩ | ⟨a, vs, rfl, hq, q⟩
    · cases rv
      obtain ⟨its, _, pl, _⟩ := J.list hq
      exact wpAny_pyIter_list pl.isList ⟨_, _, _, _, H1, rfl, J.kept (t' := st.toks) fun b o e => Heap.get?_push_of_some _ e, turn_list a _, ⟨_, Heap.get?_push_size _ rfl, rfl, rfl⟩, fr, q⟩
    · cases rv
      obtain ⟨its, _, pl, _⟩ := J.tuple hq
      exact wpAny_pyIter_tuple (show st.heap.IsTuple a its.toArray from pl) ⟨_, _, _, _, H1, rfl, J.kept (t' := st.toks) fun b o e => Heap.get?_push_of_some _ e, turn_tuple a _, ⟨_, Heap.get?_push_size _ rfl, rfl, rfl⟩, fr, q⟩⟩
/-- range(n), range(a, b) -/
def rngD (lo : Int) (n : Nat) : List D := (List.range n).map fun i => .int (lo + (i : Nat))
def iRng1 (ta : TAd) : TId := fun dl mu Q => ta dl mu fun ds m => match ds with
  | [.int j] => -(2 ^ 62) ≤ j ∧ j < 2 ^ 62 ∧ Q (rngD 0 j.toNat) (fun _ => True) m
  | _ => False
def iRng2 (ta : TAd) : TId := fun dl mu Q => ta dl mu fun ds m => match ds with
  | [.int i, .int j] => (-(2 ^ 62) ≤ i ∧ i < 2 ^ 62 ∧ -(2 ^ 62) ≤ j ∧ j < 2 ^ 62) ∧ Q (rngD i (j - i).toNat) (fun _ => True) m
  | _ => False
theorem wk_rng (lo : Int) (n : Nat) : Wk g (Itr lo n) (rngD lo n) (fun _ => True) [] := by
  refine ⟨fun i y al dl mu T sg H r ha e => ?_, fun i al dl mu T sg H r ha hl => ?_⟩
  · have hi : i < n := by
      have := (List.getElem?_eq_some_iff.mp e).1
      simpa [rngD] using this
    have ey : y = .int (lo + (i : Nat)) := by
      unfold rngD at e
      rw [List.getElem?_map, List.getElem?_range hi] at e
      exact (Option.some.inj e).symm
    subst ey
    refine ⟨hi, fun x H' hy => ?_⟩
    obtain ⟨rfl, rfl⟩ := hy
    exact ⟨r.push (by simp only [Rep]), fun _ _ h => h⟩
  · show n ≤ i
    simpa [rngD] using hl
theorem qi_range1 {a : Expr} {ta : TAd} {p : Pos} (hg : Gl X "range") (hm : X.mg "range" = none) (ha : QA X g [a] ta) (hs : starEach [a] X.env = [(false, eval a X.env)] := by rfl) : QI X g tg (.Call (.Name "range" p) [a] [] pos) (iRng1 ta) where
  m := fun dl mu Q Q' w z => ha.m dl mu _ _ (fun ds m z => by
    match ds, z with
    | [.int j], z => exact ⟨z.1, z.2.1, w _ _ _ z.2.2⟩) z
  pi := PI.of (pi_range1 hg hm ha.pa hs) fun sg H R z => by
    obtain ⟨dl, mu, T, r, z⟩ := z
    refine ⟨dl, mu, T, r, ha.m dl mu _ _ (fun ds m z vs H1 hl r1 => ?_) z⟩
    match ds, z, vs, hl with
    | [.int j], z, [v], _ =>
      refine ⟨j, ?_, z.1, z.2.1, z.2.2 _ _ [] (r1.sub fun p hp => List.mem_append_right _ hp) (wk_rng 0 _)⟩
      rw [Rel.int (T := T) r1]
theorem qi_range2 {a b : Expr} {ta : TAd} {p : Pos} (hg : Gl X "range") (hm : X.mg "range" = none) (ha : QA X g [a, b] ta) (hs : starEach [a, b] X.env = [(false, eval a X.env), (false, eval b X.env)] := by rfl) (hs2 : starEach [b] X.env = [(false, eval b X.env)] := by rfl) :
    QI X g tg (.Call (.Name "range" p) [a, b] [] pos) (iRng2 ta) where
  m := fun dl mu Q Q' w z => ha.m dl mu _ _ (fun ds m z => by
    match ds, z with
    | [.int i, .int j], z => exact ⟨z.1, w _ _ _ z.2⟩) z
  pi := PI.of (pi_range2 hg hm ha.pa hs hs2) fun sg H R z => by
    obtain ⟨dl, mu, T, r, z⟩ := z
    refine ⟨dl, mu, T, r, ha.m dl mu _ _ (fun ds m z vs H1 hl r1 => ?_) z⟩
    match ds, z, vs, hl with
    | [.int i, .int j], z, [v, w], _ =>
      refine ⟨i, j, ?_, z.1, z.2 _ _ [] (r1.sub fun p hp => List.mem_append_right _ hp) (wk_rng i _)⟩
      have r2 : Rel g dl m ((v, .int i) :: (w, .int j) :: T) sg H1 := r1
      rw [r2.int, r2.pop.int]
/-- a text, sign by sign -/
def sgnD (z : Str) : List D := z.cps.toList.map fun c => .str ⟨#[c]⟩
def iStr (tl : TEd) : TId := fun dl mu Q => tl dl mu fun d m => match d with
  | .str z => Q (sgnD z) (fun _ => True) m
  | _ => False
theorem wk_str (z : Str) : Wk g (Its z) (sgnD z) (fun _ => True) [] := by
  refine ⟨fun i y al dl mu T sg H r ha e => ?_, fun i al dl mu T sg H r ha hl => ?_⟩
  · unfold sgnD at e
    rw [List.getElem?_map] at e
    cases q : z.cps.toList[i]? with
    | none => rw [q] at e; cases e
    | some c =>
      rw [q] at e
      have ey : y = .str ⟨#[c]⟩ := (Option.some.inj e).symm
      have qc : z.cps[i]? = some c := by rw [← q]; simp
      subst ey
      refine ⟨(Array.getElem?_eq_some_iff.mp qc).1, fun x H' hy => ?_⟩
      obtain ⟨rfl, c', e1, rfl⟩ := hy
      rw [qc] at e1; cases e1
      exact ⟨r.push (by simp only [Rep]), fun _ _ h => h⟩
  · have : (sgnD z).length = z.cps.size := by simp [sgnD]
    rw [this] at hl
    exact hl
end
end VL

/-! VsBlt: subscripts, slices, built-ins, methods over data. -/
namespace VL
open PySem PySem.Spec PyProof.Rows L2
section
variable {X : Cx} {g : Gm} {a b : Expr} {ta tb : TEd} {pos p : Pos}

/-! ### items -/
theorem atI_map {α β : Type} {xs : List α} {ys : List β} (hl : ys.length = xs.length) {i : Int} {j : α} (h : atI xs i = some j) : ∃ n : Nat, xs[n]? = some j ∧ ∀ y, ys[n]? = some y → atI ys i = some y := by
  unfold atI at h ⊢
  cases e : ixN xs.length i with
  | none => rw [e] at h; cases h
  | some n =>
    rw [e] at h
    refine ⟨n, h, fun y hy => ?_⟩
    rw [hl, e]; exact hy
def ixD (mu : Mu) : D → D → Option (Prop × D)
  | .str z, .int i => match atI z.cps.toList i with
    | some c => some (z.length ≤ sizeLine, .str ⟨#[c]⟩)
    | none => none
  | d, .int i => match seqOf mu d with
    | some xs => match atI xs i with
      | some y => some (True, y)
      | none => none
    | none => none
  | _, _ => none
def fIx : F2 := fOf ixD
theorem fIx_ok (hK : X.K = g.K) : OpOk g (rIx X.K) fIx := by
  intro dl mu T sg H v w x y Q r h
  obtain ⟨al, q, rx, ry⟩ := two r
  unfold fIx fOf at h
  cases e : ixD mu x y with
  | none => rw [e] at h; exact h.elim
  | some p =>
    rw [e] at h
    unfold ixD at e
    split at e
    · split at e
      · rename_i c e1
        cases e
        exact .inr (.inr ⟨_, _, c, rep_str rx, rep_int ry, h.1, e1, h.2 _ _ (q.scal rfl)⟩)
      · cases e
    · split at e
      · rename_i xs e1
        split at e
        · rename_i d e2
          cases e
          rcases q.seq rx e1 with ⟨l, vs, f1, f2, f3⟩ | ⟨l, vs, f1, f2, f3⟩
          · obtain ⟨n, g1, g2⟩ := atI_map (reps_len f3) e2
            obtain ⟨u, g3, g4⟩ := reps_get f3 g1
            exact .inr (.inl ⟨l, vs, _, u, f1, rep_int ry, by rw [hK]; exact f2, g2 u g3, h.2 _ _ ⟨al, q.push g4⟩⟩)
          · obtain ⟨n, g1, g2⟩ := atI_map (reps_len f3) e2
            obtain ⟨u, g3, g4⟩ := reps_get f3 g1
            exact .inl ⟨l, vs, _, u, f1, rep_int ry, by rw [hK]; exact f2, g2 u g3, h.2 _ _ ⟨al, q.push g4⟩⟩
        · cases e
      · cases e
    · cases e
theorem pd_ix (hK : X.K = g.K) (ha : PD X g a ta) (hb : PD X g b tb) (hs : PlainIx b) : PD X g (.Subscript a b pos) (dBin fIx ta tb) :=
  ⟨bin_m fOf_m ha.m hb.m, PE.of (pe_ix ix_seq ha.pe hb.pe hs) fun _ _ _ h => bin_up (fIx_ok hK) ha.m hb.m h⟩

/-! ### slices -/
abbrev TOd := Lo → Mu → (Option Int → Mu → Prop) → Prop
def upO (g : Gm) (t : TOd) : TO := fun sg H Q => ∃ dl mu T, Rel g dl mu T sg H ∧ t dl mu fun o mu' => ∀ H', Rel g dl mu' T sg H' → Q o H'
structure QO (X : Cx) (g : Gm) (e : Option Expr) (t : TOd) : Prop where
  m : MonoE t
  po : PO X e (upO g t)
theorem PO.of {e : Option Expr} {t t' : TO} (h : PO X e t) (w : ∀ sg H Q, t' sg H Q → t sg H Q) : PO X e t' := ⟨fun pins s sg H Q I q => h.run pins s sg H Q I (w sg H Q q)⟩
def oNo : TOd := fun _ mu Q => Q none mu
def oPart (t : TEd) : TOd := fun dl mu Q => t dl mu fun d m => match d with
  | .int i => Q (some i) m
  | _ => False
theorem qo_none : QO X g none oNo := ⟨fun _ _ _ _ w z => w _ _ z, PO.of po_none fun sg H Q z => by
  obtain ⟨dl, mu, T, r, z⟩ := z
  exact z H r⟩
theorem qo_some (ha : PD X g a ta) : QO X g (some a) (oPart ta) where
  m := fun dl mu Q Q' w z => ha.m dl mu _ _ (fun d m z => by cases d <;> first | exact z.elim | exact w _ _ z) z
  po := PO.of (po_some ha.pe) fun sg H Q z => by
    obtain ⟨dl, mu, T, r, z⟩ := z
    refine ⟨dl, mu, T, r, ha.m dl mu _ _ (fun d m z v H1 r1 => ?_) z⟩
    cases d with
    | int i => exact ⟨i, r1.int, z H1 r1.pop⟩
    | _ => exact z.elim
def cutD {α : Type} (xs : List α) (lo hi : Option Int) : List α := (xs.drop (HT.sIx xs.length 0 lo)).take (HT.sIx xs.length xs.length hi - HT.sIx xs.length 0 lo)
def slD (mu : Mu) (d : D) (lo hi : Option Int) : Option (Prop × D) := match d with
  | .str z => some (z.length ≤ sizeLine, .str (cutS z lo hi))
  | .tup xs => some (True, .tup (cutD xs lo hi))
  | .ptup xs => some (True, .tup (cutD xs lo hi))
  | d => match asL mu d with
    | some xs => some (True, .lst (cutD xs lo hi))
    | none => none
def dSl (ta : TEd) (tl th : TOd) : TEd := fun dl mu Q => ta dl mu fun d m1 => tl dl m1 fun l m2 => th dl m2 fun u m3 => match slD m3 d l u with
  | some (c, y) => c ∧ Q y m3
  | none => False
theorem reps_cut {K : PySem.W.Frag} {ca : Str → Addr} {al : Ad} {H : Hp} {ds : List D} {vs : List V} (h : Reps K ca al H ds vs) (lo hi : Option Int) : Reps K ca al H (cutD ds lo hi) (cutV vs lo hi) := by
  unfold cutD cutV
  rw [reps_len h]
  exact reps_take _ (reps_drop _ h)
theorem sl_r (hK : X.K = g.K) : SlR X (fun x lo hi H Q => rSlS x lo hi H Q ∨ rSlA X.K x lo hi H Q ∨ rSlL X.K x lo hi H Q) := sl_str.or (sl_tupA.or sl_list)
theorem pd_sl {lo hi : Option Expr} {tl th : TOd} {p2 : Pos} (hK : X.K = g.K) (ha : PD X g a ta) (hl : QO X g lo tl) (hu : QO X g hi th) : PD X g (.Subscript a (.Slice lo hi none p2) pos) (dSl ta tl th) where
  m := fun dl mu Q Q' w z => ha.m dl mu _ _ (fun d m z => hl.m _ _ _ _ (fun l m2 z => hu.m _ _ _ _ (fun u m3 z => by
    cases e : slD m3 d l u with
    | none => rw [e] at z; exact z.elim
    | some p => rw [e] at z; exact ⟨z.1, w _ _ z.2⟩) z) z) z
  pe := PE.of (pe_slice (sl_r hK) ha.pe hl.po hu.po) fun sg H Q z => by
    obtain ⟨dl, mu, T, r, z⟩ := z
    refine ⟨dl, mu, T, r, ha.m dl mu _ _ (fun d m z v H1 r1 => ?_) z⟩
    refine ⟨dl, m, _, r1, hl.m dl m _ _ (fun l m2 z H2 r2 => ?_) z⟩
    refine ⟨dl, m2, _, r2, hu.m dl m2 _ _ (fun u m3 z H3 r3 => ?_) z⟩
    cases e : slD m3 d l u with
    | none => rw [e] at z; exact z.elim
    | some p =>
      rw [e] at z
      obtain ⟨al, q, k⟩ := r3.top
      have q0 : RelA g al dl m3 T sg H3 := q.sub fun _ h => List.mem_cons_of_mem _ h
      have lst : ∀ xs, asL m3 d = some xs → (True ∧ ∀ v H', Rel g dl m3 ((v, .lst (cutD xs l u)) :: T) sg H' → Q v H') → rSlL X.K v l u H3 Q := fun xs e1 z => by
        obtain ⟨l', vs, f1, f2, f3⟩ := q.lst k e1
        exact ⟨l', vs, f1, by rw [hK]; exact f2, fun p n => z.2 _ _ (q0.newLst (reps_cut f3 _ _) n)⟩
      cases d with
      | str s =>
        cases e
        exact .inl ⟨_, rep_str k, z.1, z.2 _ _ (q0.scal rfl)⟩
      | tup xs =>
        cases e
        obtain ⟨l', vs, f1, f2, f3⟩ := rep_tup k
        refine .inr (.inl ⟨l', vs, f1, by rw [hK]; exact f2, fun hh => ?_, fun _ p n => z.2 _ _ (q0.newTup (reps_cut f3 _ _) n)⟩)
        have ee : cutD xs l u = xs := by
          unfold cutD
          rw [reps_len f3] at hh
          rw [hh.1, hh.2, List.drop_zero, Nat.sub_zero, List.take_length]
        have z2 := z.2
        rw [ee] at z2
        refine z2 _ _ ⟨al, q0.push ?_⟩
        rw [← f1]; exact k
      | ptup xs =>
        cases e
        obtain ⟨l', vs, f1, f2, f3⟩ := rep_ptup k
        refine .inr (.inl ⟨l', vs, f1, by rw [hK]; exact f2, fun hh => ?_, fun _ p n => z.2 _ _ (q0.newTup (reps_cut f3 _ _) n)⟩)
        have ee : cutD xs l u = xs := by
          unfold cutD
          rw [reps_len f3] at hh
          rw [hh.1, hh.2, List.drop_zero, Nat.sub_zero, List.take_length]
        have z2 := z.2
        rw [ee] at z2
        refine z2 _ _ ⟨al, q0.push ?_⟩
        rw [← f1]; exact ptup_tup k
      | lst xs => cases e; exact .inr (.inr (lst xs rfl z))
      | scr ns => cases e; exact .inr (.inr (lst _ rfl z))
      | loc n =>
        simp only [slD] at e
        cases e1 : asL m3 (.loc n) with
        | none => rw [e1] at e; cases e
        | some xs => rw [e1] at e; cases e; exact .inr (.inr (lst xs e1 z))
      | _ => simp only [slD, asL] at e; cases e

/-! ### built-ins by name -/
abbrev F1 := List D → Mu → KD → Prop
def gOf (o : Mu → List D → Option (Prop × D)) : F1 := fun ds mu Q => match o mu ds with
  | some (c, d) => c ∧ Q d mu
  | none => False
def dB (f : F1) (t : TAd) : TEd := fun dl mu Q => t dl mu fun ds m => f ds m Q
def CrOk (g : Gm) (r : List V → Hp → VK → Prop) (f : F1) : Prop := ∀ dl mu T sg H vs ds Q, vs.length = ds.length → RelIn g dl mu T sg H vs ds → f ds mu (fun d mu' => ∀ v' H', Rel g dl mu' ((v', d) :: T) sg H' → Q v' H') → r vs H Q
where RelIn (g : Gm) (dl : Lo) (mu : Mu) (T : List (V × D)) (sg : St) (H : Hp) (vs : List V) (ds : List D) : Prop := ∃ al, RelA g al dl mu T sg H ∧ Reps g.K g.ca al H ds vs
theorem CallR.or {f : Value} {r r' : List V → Hp → VK → Prop} (h : CallR X f r) (h' : CallR X f r') : CallR X f (fun xs H Q => r xs H Q ∨ r' xs H Q) := fun pins s sg H xs us Q I rv z => z.elim (h pins s sg H xs us Q I rv) (h' pins s sg H xs us Q I rv)
def MonoB (f : F1) : Prop := ∀ ds mu (Q Q' : KD), (∀ d m, Q d m → Q' d m) → f ds mu Q → f ds mu Q'
theorem gOf_m {o : Mu → List D → Option (Prop × D)} : MonoB (gOf o) := fun ds mu Q Q' w h => by
  unfold gOf at h ⊢
  cases e : o mu ds with
  | none => rw [e] at h; exact h.elim
  | some p => rw [e] at h; exact ⟨h.1, w _ _ h.2⟩
variable {e : Expr} {es : List Expr} {t : TAd} {x : Str} {id T : String}
theorem b_up {f : F1} {r : List V → Hp → VK → Prop} (ok : CrOk g r f) (ht : MonoE t) {sg : St} {H : Hp} {Q : VK} (h : upE g (dB f t) sg H Q) : tCB r (upA g t) sg H Q := by
  obtain ⟨dl, mu, T, rl, h⟩ := h
  refine ⟨dl, mu, T, rl, ht dl mu _ _ (fun ds m h vs H1 hl r1 => ?_) h⟩
  obtain ⟨al, q, k⟩ := r1.reps hl
  exact ok dl m T sg H1 vs ds Q hl ⟨al, q.sub fun _ h => List.mem_append_right _ h, k⟩ h
theorem pd_blt {f : F1} {r : List V → Hp → VK → Prop} (hc : CallR X (.builtin id) r) (ok : CrOk g r f) (mf : MonoB f) (hg : Gl X x) (hm : X.mg x = none) (hv : bootBuiltins x = some (.builtin id)) (ha : QA X g (e :: es) t) (hn : x ≠ "__name__" := by decide) (hdb : (x == ("__debug__" : Str)) = false := by decide)
    (he : starEach (e :: es) X.env = (false, eval e X.env) :: starEach es X.env := by rfl) (hpl : (backTo pos (starEach es X.env)).any (·.1) = false := by rfl) : PD X g (.Call (.Name x p) (e :: es) [] pos) (dB f t) :=
  ⟨fun dl mu Q Q' w z => ha.m dl mu _ _ (fun ds m z => mf ds m Q Q' w z) z, PE.of (pe_callB hc hg hm hv ha.pa hn hdb he hpl) fun _ _ _ h => b_up ok ha.m h⟩
theorem pd_bty {f : F1} {r : List V → Hp → VK → Prop} (hc : CallR X (.type T) r) (ok : CrOk g r f) (mf : MonoB f) (hg : Gl X x) (hm : X.mg x = none) (hv : bootBuiltins x = some (.type T)) (ha : QA X g (e :: es) t) (hn : x ≠ "__name__" := by decide) (hdb : (x == ("__debug__" : Str)) = false := by decide)
    (he : starEach (e :: es) X.env = (false, eval e X.env) :: starEach es X.env := by rfl) (hpl : (backTo pos (starEach es X.env)).any (·.1) = false := by rfl) : PD X g (.Call (.Name x p) (e :: es) [] pos) (dB f t) :=
  ⟨fun dl mu Q Q' w z => ha.m dl mu _ _ (fun ds m z => mf ds m Q Q' w z) z, PE.of (pe_callTy hc hg hm hv ha.pa hn hdb he hpl) fun _ _ _ h => b_up ok ha.m h⟩
/-- from the arguments' data to their values -/
theorem one_of {al : Ad} {H : Hp} {K : PySem.W.Frag} {ca : Str → Addr} {d : D} {vs : List V} (h : Reps K ca al H [d] vs) : ∃ v, vs = [v] ∧ Rep K ca al H d v := by
  simp only [Reps] at h
  obtain ⟨v, r, rfl, h1, rfl⟩ := h
  exact ⟨v, rfl, h1⟩
theorem two_of {al : Ad} {H : Hp} {K : PySem.W.Frag} {ca : Str → Addr} {d d' : D} {vs : List V} (h : Reps K ca al H [d, d'] vs) : ∃ v v', vs = [v, v'] ∧ Rep K ca al H d v ∧ Rep K ca al H d' v' := by
  simp only [Reps] at h
  obtain ⟨v, r, rfl, h1, v', r', rfl, h2, rfl⟩ := h
  exact ⟨v, v', rfl, h1, h2⟩
/-- len -/
def lenD (mu : Mu) : List D → Option (Prop × D)
  | [.str z] => some (z.length ≤ sizeLine, .int z.length)
  | [d] => match seqOf mu d with
    | some xs => some (True, .int xs.length)
    | none => none
  | _ => none
theorem len_ok (hK : X.K = g.K) : CrOk g (fun xs H Q => ∃ x n, xs = [x] ∧ LenV X.K x H n ∧ Q (.int n) H) (gOf lenD) := by
  intro dl mu T sg H vs ds Q hl ⟨al, q, k⟩ h
  unfold gOf at h
  cases e : lenD mu ds with
  | none => rw [e] at h; exact h.elim
  | some pp =>
    rw [e] at h
    unfold lenD at e
    split at e
    · cases e
      obtain ⟨v, rfl, k1⟩ := one_of k
      refine ⟨v, _, rfl, ?_, h.2 _ _ (q.scal rfl)⟩
      rw [rep_str k1]; exact ⟨h.1, rfl⟩
    · split at e
      · rename_i xs e1
        cases e
        obtain ⟨v, rfl, k1⟩ := one_of k
        rcases q.seq k1 e1 with ⟨l, ws, rfl, f2, f3⟩ | ⟨l, ws, rfl, f2, f3⟩
        · exact ⟨_, xs.length, rfl, .inr ⟨ws, by rw [hK]; exact f2, (reps_len f3).symm⟩, h.2 _ _ (q.scal rfl)⟩
        · exact ⟨_, xs.length, rfl, .inl ⟨ws, by rw [hK]; exact f2, (reps_len f3).symm⟩, h.2 _ _ (q.scal rfl)⟩
      · cases e
    · cases e
theorem pd_len (hK : X.K = g.K) (hg : Gl X "len") (hm : X.mg "len" = none) (ha : QA X g [a] t) (he : starEach [a] X.env = (false, eval a X.env) :: starEach [] X.env := by rfl) : PD X g (.Call (.Name "len" p) [a] [] pos) (dB (gOf lenD) t) :=
  pd_blt call_len (len_ok hK) gOf_m hg hm boot_len ha (by decide) (by decide) he
/-- abs, int, min, max -/
def absD (mu : Mu) : List D → Option (Prop × D)
  | [.int i] => some (True, .int (if i < 0 then -i else i))
  | _ => none
theorem pd_abs (hg : Gl X "abs") (hm : X.mg "abs" = none) (ha : QA X g [a] t) (he : starEach [a] X.env = (false, eval a X.env) :: starEach [] X.env := by rfl) : PD X g (.Call (.Name "abs" p) [a] [] pos) (dB (gOf absD) t) :=
  pd_blt call_abs (fun dl mu T sg H vs ds Q hl ⟨al, q, k⟩ h => by
    unfold gOf at h
    cases e : absD mu ds with
    | none => rw [e] at h; exact h.elim
    | some pp =>
      rw [e] at h
      unfold absD at e
      split at e
      · cases e
        obtain ⟨v, rfl, k1⟩ := one_of k
        exact ⟨_, by rw [rep_int k1], h.2 _ _ (q.scal rfl)⟩
      · cases e) gOf_m hg hm (by decide +kernel) ha (by decide) (by decide) he
def minD (mu : Mu) : List D → Option (Prop × D)
  | [.int i, .int j] => some (True, .int (if j < i then j else i))
  | _ => none
def maxD (mu : Mu) : List D → Option (Prop × D)
  | [.int i, .int j] => some (True, .int (if j > i then j else i))
  | _ => none
theorem pd_min2 (hc : X.calm = true) (hg : Gl X "min") (hm : X.mg "min" = none) (ha : QA X g [a, b] t) (he : starEach [a, b] X.env = (false, eval a X.env) :: starEach [b] X.env := by rfl) (hpl : (backTo pos (starEach [b] X.env)).any (·.1) = false := by rfl) : PD X g (.Call (.Name "min" p) [a, b] [] pos) (dB (gOf minD) t) :=
  pd_blt (call_min2 hc) (fun dl mu T sg H vs ds Q hl ⟨al, q, k⟩ h => by
    unfold gOf at h
    cases e : minD mu ds with
    | none => rw [e] at h; exact h.elim
    | some pp =>
      rw [e] at h
      unfold minD at e
      split at e
      · cases e
        obtain ⟨v, w, rfl, k1, k2⟩ := two_of k
        exact ⟨_, _, by rw [rep_int k1, rep_int k2], h.2 _ _ (q.scal rfl)⟩
      · cases e) gOf_m hg hm (by decide +kernel) ha (by decide) (by decide) he hpl
theorem pd_max2 (hc : X.calm = true) (hg : Gl X "max") (hm : X.mg "max" = none) (ha : QA X g [a, b] t) (he : starEach [a, b] X.env = (false, eval a X.env) :: starEach [b] X.env := by rfl) (hpl : (backTo pos (starEach [b] X.env)).any (·.1) = false := by rfl) : PD X g (.Call (.Name "max" p) [a, b] [] pos) (dB (gOf maxD) t) :=
  pd_blt (call_max2 hc) (fun dl mu T sg H vs ds Q hl ⟨al, q, k⟩ h => by
    unfold gOf at h
    cases e : maxD mu ds with
    | none => rw [e] at h; exact h.elim
    | some pp =>
      rw [e] at h
      unfold maxD at e
      split at e
      · cases e
        obtain ⟨v, w, rfl, k1, k2⟩ := two_of k
        exact ⟨_, _, by rw [rep_int k1, rep_int k2], h.2 _ _ (q.scal rfl)⟩
      · cases e) gOf_m hg hm (by decide +kernel) ha (by decide) (by decide) he hpl
def intD (mu : Mu) : List D → Option (Prop × D)
  | [.int i] => some (True, .int i)
  | [.bl k] => some (True, .int (if k then 1 else 0))
  | [.str s] => match PySem.intText? s with
    | some n => some (s.length ≤ 640, .int n)
    | none => none
  | _ => none
theorem pd_int1 (hg : Gl X "int") (hm : X.mg "int" = none) (ha : QA X g [a] t) (he : starEach [a] X.env = (false, eval a X.env) :: starEach [] X.env := by rfl) : PD X g (.Call (.Name "int" p) [a] [] pos) (dB (gOf intD) t) :=
  pd_bty (CallR.or call_int1 call_int_str) (fun dl mu T sg H vs ds Q hl ⟨al, q, k⟩ h => by
    unfold gOf at h
    cases e : intD mu ds with
    | none => rw [e] at h; exact h.elim
    | some pp =>
      rw [e] at h
      unfold intD at e
      split at e
      · cases e
        obtain ⟨v, rfl, k1⟩ := one_of k
        exact .inl (.inl ⟨_, by rw [rep_int k1], h.2 _ _ (q.scal rfl)⟩)
      · cases e
        obtain ⟨v, rfl, k1⟩ := one_of k
        exact .inl (.inr ⟨_, by rw [rep_bl k1], h.2 _ _ (q.scal rfl)⟩)
      · split at e
        · rename_i n e1
          cases e
          obtain ⟨v, rfl, k1⟩ := one_of k
          exact .inr ⟨_, n, by rw [rep_str k1], e1, h.1, h.2 _ _ (q.scal rfl)⟩
        · cases e
      · cases e) gOf_m hg hm (by decide +kernel) ha (by decide) (by decide) he
def divmodD (mu : Mu) : List D → Option (Prop × D)
  | [.int i, .int j] => some (CDiv i j, .tup [.int (i / j), .int (i % j)])
  | _ => none
theorem pd_divmod (hg : Gl X "divmod") (hm : X.mg "divmod" = none) (ha : QA X g [a, b] t) (he : starEach [a, b] X.env = (false, eval a X.env) :: starEach [b] X.env := by rfl) (hpl : (backTo pos (starEach [b] X.env)).any (·.1) = false := by rfl) : PD X g (.Call (.Name "divmod" p) [a, b] [] pos) (dB (gOf divmodD) t) :=
  pd_blt call_divmod (fun dl mu T sg H vs ds Q hl ⟨al, q, k⟩ h => by
    unfold gOf at h
    cases e : divmodD mu ds with
    | none => rw [e] at h; exact h.elim
    | some pp =>
      rw [e] at h
      unfold divmodD at e
      split at e
      · cases e
        obtain ⟨v, w, rfl, k1, k2⟩ := two_of k
        refine ⟨_, _, by rw [rep_int k1, rep_int k2], h.1, fun pp n => h.2 _ _ (q.newTup ?_ n)⟩
        simp only [Reps, Rep]
        exact ⟨_, _, rfl, rfl, _, _, rfl, rfl, rfl⟩
      · cases e) gOf_m hg hm (by decide +kernel) ha (by decide) (by decide) he hpl

/-! ### xs[i] = v -/
def putO (m : Mu) : D → D → D → Option Mu
  | .loc n, .int k, d => match m[n]? with
    | some (.lst xs) => match ixN xs.length k with
      | some j => some (m.set n (.lst (xs.set j d)))
      | none => none
    | _ => none
  | _, _, _ => none
theorem putO_at {m m' : Mu} {o i d : D} (h : putO m o i d = some m') : ∃ n k xs j, o = .loc n ∧ i = .int k ∧ m[n]? = some (.lst xs) ∧ ixN xs.length k = some j ∧ m' = m.set n (.lst (xs.set j d)) := by
  unfold putO at h
  split at h
  · split at h
    · split at h
      · rename_i xs e1 _ j e2
        cases h
        exact ⟨_, _, xs, j, rfl, rfl, e1, e2, rfl⟩
      · cases h
    · cases h
  · cases h
def putD (ta tb : TEd) : TGd := fun d dl mu Q => ta dl mu fun o m1 => tb dl m1 fun i m2 => match putO m2 o i d with
  | some m3 => Q dl m3
  | none => False
theorem put_at {al : Ad} {dl : Lo} {m2 : Mu} {T : List (V × D)} {sg : St} {H2 : Hp} {n : Nat} {vo v : V} {d : D} {xs : List D} (j : Nat) (q0 : RelA g al dl m2 T sg H2) (k1 : Rep g.K g.ca al H2 (.loc n) vo) (k3 : Rep g.K g.ca al H2 d v) (e : m2[n]? = some (.lst xs)) :
    ∃ l vs, vo = .ref l ∧ H2 l = some (.lst vs) ∧ vs.length = xs.length ∧ RelA g al dl (m2.set n (.lst (xs.set j d))) T sg (upd H2 l (.lst (vs.set j v))) := by
  simp only [Rep] at k1
  obtain ⟨l, rfl, hl⟩ := k1
  obtain ⟨l', hl', c⟩ := q0.at e
  rw [hl] at hl'; cases hl'
  obtain ⟨vs, f1, f2⟩ := c
  have gp := grow_put (al := al) (H := H2) (o := .lst (vs.set j v)) (q0.st.sub l (List.mem_of_getElem? hl))
  exact ⟨l, vs, rfl, f1, reps_len f2, q0.put hl ⟨_, upd_same, reps_set j (Reps.grow gp _ _ f2) (Rep.grow gp _ _ k3)⟩⟩
theorem qg_put (ha : PD X g a ta) (hb : PD X g b tb) {tpos : Pos} (hg : ∀ {to ti : TE} {t : TSet}, PE X a to → PE X b ti → PSet X t → PG X (.Subscript a b tpos) (gSub to ti t)) : QG X g (.Subscript a b tpos) [] (putD ta tb) where
  m := fun d dl mu Q Q' w z => ha.m dl mu _ _ (fun o m1 z => hb.m _ _ _ _ (fun i m2 z => by
    cases e : putO m2 o i d with
    | none => rw [e] at z; exact z.elim
    | some m3 => rw [e] at z; exact w _ _ z) z) z
  pg := PG.of (hg ha.pe hb.pe set_list) fun v sg H Q z => by
    obtain ⟨dl, mu, T, d, r, z⟩ := z
    refine ⟨dl, mu, _, r, ha.m dl mu _ _ (fun o m1 z vo H1 r1 => ?_) z⟩
    refine ⟨dl, m1, _, r1, hb.m dl m1 _ _ (fun i m2 z vi H2 r2 => ?_) z⟩
    cases e : putO m2 o i d with
    | none => rw [e] at z; exact z.elim
    | some m3 =>
      rw [e] at z
      obtain ⟨n, k, xs, j, rfl, rfl, e1, e2, rfl⟩ := putO_at e
      obtain ⟨al, q⟩ := r2
      obtain ⟨l, vs, rfl, f1, f2, f3⟩ := put_at j (q.sub (T' := T) fun p hp => by simp [hp]) (q.tmp (vo, .loc n) (by simp)) (q.tmp (v, d) (by simp)) e1
      exact ⟨l, vs, k, j, rfl, rep_int (q.tmp (vi, .int k) (by simp)), f1, by rw [f2]; exact e2, z sg _ (Tch.refl sg) ⟨al, f3⟩⟩
/-- xs.append(e) -/
def appO (m : Mu) : D → List D → Option (Prop × Mu)
  | .loc n, [d] => match m[n]? with
    | some (.lst xs) => some (xs.length < sizeLine, m.set n (.lst (xs ++ [d])))
    | _ => none
  | _, _ => none
def dApp (ta : TEd) (t : TAd) : TEd := fun dl mu Q => ta dl mu fun o m1 => (asL1 m1 o).isSome = true ∧ t dl m1 fun ds m2 => match appO m2 o ds with
  | some (c, m3) => c ∧ Q .non m3
  | none => False
theorem appO_at {m m' : Mu} {o : D} {ds : List D} {c : Prop} (h : appO m o ds = some (c, m')) : ∃ n d xs, o = .loc n ∧ ds = [d] ∧ m[n]? = some (.lst xs) ∧ c = (xs.length < sizeLine) ∧ m' = m.set n (.lst (xs ++ [d])) := by
  unfold appO at h
  split at h
  · split at h
    · rename_i e1
      cases h
      exact ⟨_, _, _, rfl, rfl, e1, rfl, rfl⟩
    · cases h
  · cases h
theorem pd_append {apos cpos : Pos} (ha : PD X g a ta) (hb : QA X g [b] t) (hK : X.K = g.K)
    (hm : ∀ {to : TE} {ta : TA}, PE X a to → PA X [b] ta → PE X (.Call (.Attribute a "append" apos) [b] [] cpos) (tBM X.K "list" rAppend to ta)) : PD X g (.Call (.Attribute a "append" apos) [b] [] cpos) (dApp ta t) where
  m := fun dl mu Q Q' w z => ha.m dl mu _ _ (fun o m1 z => ⟨z.1, hb.m _ _ _ _ (fun ds m2 z => by
    cases e : appO m2 o ds with
    | none => rw [e] at z; exact z.elim
    | some m3 => rw [e] at z; exact ⟨z.1, w _ _ z.2⟩) z.2⟩) z
  pe := PE.of (hm ha.pe hb.pa) fun sg H Q z => by
    obtain ⟨dl, mu, T, r, z⟩ := z
    refine ⟨dl, mu, T, r, ha.m dl mu _ _ (fun o m1 z vo H1 r1 => ?_) z⟩
    obtain ⟨hs, z⟩ := z
    refine ⟨?_, dl, m1, _, r1, hb.m _ _ _ _ (fun ds m2 z vs H2 hl r2 => ?_) z⟩
    · obtain ⟨al, q, k⟩ := r1.top
      obtain ⟨xs, e⟩ := Option.isSome_iff_exists.mp hs
      obtain ⟨l, ws, rfl, f2, f3⟩ := q.lst1 k e
      exact .inl ⟨rfl, ws, .of f2⟩
    · cases e : appO m2 o ds with
      | none => rw [e] at z; exact z.elim
      | some pp =>
        rw [e] at z
        obtain ⟨c, m3⟩ := pp
        obtain ⟨n, d, xs, rfl, rfl, e1, rfl, rfl⟩ := appO_at e
        obtain ⟨al, q, k⟩ := r2.reps hl
        obtain ⟨v, rfl, k1⟩ := one_of k
        have k2 : Rep g.K g.ca al H2 (.loc n) vo := q.tmp (vo, .loc n) (by simp)
        have q0 : RelA g al dl m2 T sg H2 := q.sub (T' := T) fun p hp => by simp [hp]
        simp only [Rep] at k2
        obtain ⟨l, rfl, hl'⟩ := k2
        obtain ⟨l', hl2, c⟩ := q0.at e1
        rw [hl'] at hl2; cases hl2
        obtain ⟨ws, f1, f2⟩ := c
        have gp := grow_put (al := al) (H := H2) (o := .lst (ws ++ [v])) (q0.st.sub l (List.mem_of_getElem? hl'))
        refine ⟨l, ws, v, rfl, rfl, f1, by rw [reps_len f2]; exact z.1, z.2 _ _ ⟨al, (q0.put (o := .lst (ws ++ [v])) (d := .lst (xs ++ [d])) hl' ⟨_, upd_same, reps_app (Reps.grow gp _ _ f2) ?_⟩).push (by simp only [Rep])⟩⟩
        simp only [Reps]
        exact ⟨v, [], rfl, Rep.grow gp _ _ k1, rfl⟩
end
end VL

/-! VsMore: chains of comparisons, more built-ins and methods. -/
namespace VL
open PySem PySem.Spec PyProof.Rows L2
section
variable {X : Cx} {g : Gm} {a b c : Expr} {ta tb tc : TEd} {pos p : Pos}
/-- an operation that leaves the store as it is, and asks of its operands alone -/
def KeepF (f : F2) : Prop := ∀ x y mu Q, f x y mu Q → f x y mu fun d m => m = mu ∧ Q d m
theorem fOf_k {o : Mu → D → D → Option (Prop × D)} : KeepF (fOf o) := fun x y mu Q h => by
  unfold fOf at h ⊢
  cases e : o mu x y with
  | none => rw [e] at h; exact h.elim
  | some p => rw [e] at h; exact ⟨h.1, rfl, h.2⟩
theorem f2I_k {C : Int → Int → Prop} {f : Int → Int → D} : KeepF (f2I C f) := fun x y mu Q h => by
  unfold f2I at h ⊢
  split at h
  · exact ⟨h.1, rfl, h.2⟩
  · exact h.elim
/-- .. and its own state: the operands are still at hand behind it -/
def OpOk3 (g : Gm) (r : R2) (f : F2) : Prop := ∀ dl mu T sg H v w x y Q, Rel g dl mu ((w, y) :: (v, x) :: T) sg H → f x y mu (fun d mu' => ∀ v' H', Rel g dl mu' ((v', d) :: (w, y) :: (v, x) :: T) sg H' → Q v' H') → r v w H Q
theorem int3 {f : Int → Int → D} {k : Int → Int → V} (hs : ∀ i j, Sc (f i j) (k i j)) : OpOk3 g (rI0 k) (f2I (fun _ _ => True) f) := by
  intro dl mu T sg H v w x y Q r h
  obtain ⟨al, q, rx, ry⟩ := two r
  unfold f2I at h
  split at h
  · exact ⟨_, _, rep_int rx, rep_int ry, h.2 _ _ (r.sc (hs _ _))⟩
  · exact h.elim
theorem chain_m {f f' : F2} (mf : MonoF f) (mf' : MonoF f') (ha : MonoE ta) (hb : MonoE tb) (hc : MonoE tc) : MonoE (dChain f f' ta tb tc) := fun dl mu Q Q' w z =>
  ha dl mu _ _ (fun x m1 z => hb dl m1 _ _ (fun y m2 z => mf x y m2 _ _ (fun d m3 z => by
    cases d <;> first | exact z.elim | skip
    rename_i k
    cases k with
    | true =>
      simp only [Br, Bool.false_eq_true, ↓reduceIte] at z ⊢
      exact hc _ _ _ _ (fun u m4 z => mf' _ _ _ _ _ w z) z
    | false =>
      simp only [Br, Bool.false_eq_true, ↓reduceIte] at z ⊢
      exact w _ _ z) z) z) z
theorem chain_up {f f' : F2} {r r' : R2} (ok : OpOk3 g r f) (ok' : OpOk g r' f') (mf : MonoF f) (ha : MonoE ta) (hb : MonoE tb) (hc : MonoE tc) {sg : St} {H : Hp} {Q : VK} (z : upE g (dChain f f' ta tb tc) sg H Q) : tChain r r' (upE g ta) (upE g tb) (upE g tc) sg H Q := by
  obtain ⟨dl, mu, T, rl, z⟩ := z
  refine ⟨dl, mu, T, rl, ha dl mu _ _ (fun x m1 z v H1 r1 => ?_) z⟩
  refine ⟨dl, m1, _, r1, hb dl m1 _ _ (fun y m2 z w H2 r2 => ?_) z⟩
  refine ok dl m2 T sg H2 v w x y _ r2 (mf _ _ _ _ _ (fun d m3 z v' H3 r3 => ?_) z)
  cases d <;> first | exact z.elim | skip
  rename_i k
  refine ⟨k, r3.bl, ?_⟩
  cases k with
  | true =>
    simp only [Br, Bool.false_eq_true, ↓reduceIte] at z ⊢
    refine ⟨dl, m3, (w, y) :: T, r3.sub fun p hp => ?_, hc _ _ _ _ (fun u m4 z vu H4 r4 => ok' dl m4 T sg H4 w vu y u _ r4 z) z⟩
    rcases List.mem_cons.mp hp with h | h
    · rw [h]; simp
    · simp [h]
  | false =>
    simp only [Br, Bool.false_eq_true, ↓reduceIte] at z ⊢
    exact z _ _ ((r3.pop.pop2).sc rfl)
theorem pd_chain {op op' : CmpOp} {f f' : F2} {r r' : R2} (ho : OpR X (compareOp op) r) (ho' : OpR X (compareOp op') r') (ok : OpOk3 g r f) (ok' : OpOk g r' f') (mf : MonoF f) (mf' : MonoF f') (ha : PD X g a ta) (hb : PD X g b tb) (hc : PD X g c tc)
    (hm : lastMarks [op, op'] [b, c] = false := by with_unfolding_all rfl) : PD X g (.Compare a [op, op'] [b, c] pos) (dChain f f' ta tb tc) :=
  ⟨chain_m mf mf' ha.m hb.m hc.m, PE.of (pe_chain ho ho' ha.pe hb.pe hc.pe hm) fun _ _ _ z => chain_up ok ok' mf ha.m hb.m hc.m z⟩
theorem qt_chain {op op' : CmpOp} {f f' : F2} {r r' : R2} (ho : OpR X (compareOp op) r) (ho' : OpR X (compareOp op') r') (ok : OpOk3 g r f) (ok' : OpOk g r' f') (mf : MonoF f) (mf' : MonoF f') (ha : PD X g a ta) (hb : PD X g b tb) (hc : PD X g c tc)
    (hm : lastMarks [op, op'] [b, c] = false := by with_unfolding_all rfl) : QT X g (.Compare a [op, op'] [b, c] pos) (dTest (dChain f f' ta tb tc)) where
  m := fun dl mu Q Q' w z => chain_m mf mf' ha.m hb.m hc.m dl mu _ _ (fun d m z => by cases d <;> first | exact z.elim | exact w _ _ z) z
  pt := PT.of (pt_chain ho ho' ha.pe hb.pe hc.pe hm) fun sg H Q z => by
    obtain ⟨dl, mu, T, r, z⟩ := z
    refine chain_up ok ok' mf ha.m hb.m hc.m ⟨dl, mu, T, r, chain_m mf mf' ha.m hb.m hc.m dl mu _ _ (fun d m z v H1 r1 => ?_) z⟩
    cases d with
    | bl b => exact ⟨b, r1.bl, z H1 r1.pop⟩
    | _ => exact z.elim
theorem pd_ltlt (ha : PD X g a ta) (hb : PD X g b tb) (hc : PD X g c tc) (hm : lastMarks [.Lt, .Lt] [b, c] = false := by with_unfolding_all rfl) : PD X g (.Compare a [.Lt, .Lt] [b, c] pos) (dChain fLt fLt ta tb tc) := pd_chain op_lt op_lt (int3 fun _ _ => rfl) (f2I_ok0 fun _ _ => rfl) f2I_m f2I_m ha hb hc hm
theorem pd_lele (ha : PD X g a ta) (hb : PD X g b tb) (hc : PD X g c tc) (hm : lastMarks [.LtE, .LtE] [b, c] = false := by with_unfolding_all rfl) : PD X g (.Compare a [.LtE, .LtE] [b, c] pos) (dChain fLe fLe ta tb tc) := pd_chain op_le op_le (int3 fun _ _ => rfl) (f2I_ok0 fun _ _ => rfl) f2I_m f2I_m ha hb hc hm
theorem pd_lelt (ha : PD X g a ta) (hb : PD X g b tb) (hc : PD X g c tc) (hm : lastMarks [.LtE, .Lt] [b, c] = false := by with_unfolding_all rfl) : PD X g (.Compare a [.LtE, .Lt] [b, c] pos) (dChain fLe fLt ta tb tc) := pd_chain op_le op_lt (int3 fun _ _ => rfl) (f2I_ok0 fun _ _ => rfl) f2I_m f2I_m ha hb hc hm
theorem pd_ltle (ha : PD X g a ta) (hb : PD X g b tb) (hc : PD X g c tc) (hm : lastMarks [.Lt, .LtE] [b, c] = false := by with_unfolding_all rfl) : PD X g (.Compare a [.Lt, .LtE] [b, c] pos) (dChain fLt fLe ta tb tc) := pd_chain op_lt op_le (int3 fun _ _ => rfl) (f2I_ok0 fun _ _ => rfl) f2I_m f2I_m ha hb hc hm
theorem qt_ltlt (ha : PD X g a ta) (hb : PD X g b tb) (hc : PD X g c tc) (hm : lastMarks [.Lt, .Lt] [b, c] = false := by with_unfolding_all rfl) : QT X g (.Compare a [.Lt, .Lt] [b, c] pos) (dTest (dChain fLt fLt ta tb tc)) := qt_chain op_lt op_lt (int3 fun _ _ => rfl) (f2I_ok0 fun _ _ => rfl) f2I_m f2I_m ha hb hc hm
theorem qt_lele (ha : PD X g a ta) (hb : PD X g b tb) (hc : PD X g c tc) (hm : lastMarks [.LtE, .LtE] [b, c] = false := by with_unfolding_all rfl) : QT X g (.Compare a [.LtE, .LtE] [b, c] pos) (dTest (dChain fLe fLe ta tb tc)) := qt_chain op_le op_le (int3 fun _ _ => rfl) (f2I_ok0 fun _ _ => rfl) f2I_m f2I_m ha hb hc hm
theorem qt_lelt (ha : PD X g a ta) (hb : PD X g b tb) (hc : PD X g c tc) (hm : lastMarks [.LtE, .Lt] [b, c] = false := by with_unfolding_all rfl) : QT X g (.Compare a [.LtE, .Lt] [b, c] pos) (dTest (dChain fLe fLt ta tb tc)) := qt_chain op_le op_lt (int3 fun _ _ => rfl) (f2I_ok0 fun _ _ => rfl) f2I_m f2I_m ha hb hc hm
theorem qt_ltle (ha : PD X g a ta) (hb : PD X g b tb) (hc : PD X g c tc) (hm : lastMarks [.Lt, .LtE] [b, c] = false := by with_unfolding_all rfl) : QT X g (.Compare a [.Lt, .LtE] [b, c] pos) (dTest (dChain fLt fLe ta tb tc)) := qt_chain op_lt op_le (int3 fun _ _ => rfl) (f2I_ok0 fun _ _ => rfl) f2I_m f2I_m ha hb hc hm
end

/-! ### promises by what may come out -/
/-- o tells, where the arguments are right, what is asked and what may come out -/
def spO (o : List D → Mu → Option (Prop × (D → Mu → Prop))) : SpD := fun ds mu Q _ => match o ds mu with
  | some (c, R) => c ∧ ∀ d m, R d m → Q d m
  | none => False
theorem spO_good (o : List D → Mu → Option (Prop × (D → Mu → Prop))) : GoodSp (spO o) where
  q := fun ds mu Q Q' E w h => by
    unfold spO at h ⊢
    cases e : o ds mu with
    | none => rw [e] at h; exact h.elim
    | some p => rw [e] at h; exact ⟨h.1, fun d m z => w _ _ (h.2 d m z)⟩
  e := fun ds mu Q E E' w h => h
/-- .. and which errors -/
def spX (o : List D → Mu → Option (Prop × (D → Mu → Prop) × EdF)) : SpD := fun ds mu Q E => match o ds mu with
  | some (c, R, W) => c ∧ (∀ d m, R d m → Q d m) ∧ ∀ c fs m, W c fs m → E c fs m
  | none => False
theorem spX_good (o : List D → Mu → Option (Prop × (D → Mu → Prop) × EdF)) : GoodSp (spX o) where
  q := fun ds mu Q Q' E w h => by
    unfold spX at h ⊢
    cases e : o ds mu with
    | none => rw [e] at h; exact h.elim
    | some p => rw [e] at h; exact ⟨h.1, fun d m z => w _ _ (h.2.1 d m z), h.2.2⟩
  e := fun ds mu Q E E' w h => by
    unfold spX at h ⊢
    cases e : o ds mu with
    | none => rw [e] at h; exact h.elim
    | some p => rw [e] at h; exact ⟨h.1, h.2.1, fun c fs m z => w _ _ _ (h.2.2 c fs m z)⟩
theorem spO_at {o : List D → Mu → Option (Prop × (D → Mu → Prop))} {ds : List D} {mu : Mu} {Q : KD} {E : EdF} {c : Prop} {R : D → Mu → Prop} (e : o ds mu = some (c, R)) (hc : c) (h : ∀ d m, R d m → Q d m) : spO o ds mu Q E := by
  unfold spO
  rw [e]
  exact ⟨hc, h⟩
theorem spO_of {o : List D → Mu → Option (Prop × (D → Mu → Prop))} {ds : List D} {mu : Mu} {Q : KD} {E : EdF} (h : spO o ds mu Q E) : ∃ c R, o ds mu = some (c, R) ∧ c ∧ ∀ d m, R d m → Q d m := by
  unfold spO at h
  cases e : o ds mu with
  | none => rw [e] at h; exact h.elim
  | some p => rw [e] at h; exact ⟨p.1, p.2, rfl, h⟩
/-- .. as a relation: r says what may come out -/
@[irreducible] def spR (n : Nat) (r : List D → Mu → (D → Mu → Prop) → Prop) : SpD := fun ds mu Q _ => ds.length = n ∧ ∃ R, r ds mu R ∧ ∀ d m, R d m → Q d m
section
variable {n : Nat} {r : List D → Mu → (D → Mu → Prop) → Prop}
theorem spR_good : GoodSp (spR n r) where
  q := fun ds mu Q Q' E w h => by
    unfold spR at h ⊢
    obtain ⟨h0, R, h1, h2⟩ := h
    exact ⟨h0, R, h1, fun d m z => w _ _ (h2 d m z)⟩
  e := fun ds mu Q E E' w h => by
    unfold spR at h ⊢
    exact h
theorem spR_len : ∀ ds mu Q E, spR n r ds mu Q E → ds.length = n := fun ds mu Q E h => by
  unfold spR at h
  exact h.1
theorem spR_of {ds : List D} {mu : Mu} {Q : KD} {E : EdF} (h : spR n r ds mu Q E) : ∃ R, r ds mu R ∧ ∀ d m, R d m → Q d m := by
  unfold spR at h
  exact h.2
theorem spR_at {ds : List D} {mu : Mu} {Q : KD} {E : EdF} {R : D → Mu → Prop} (e : r ds mu R) (hn : ds.length = n) (h : ∀ d m, R d m → Q d m) : spR n r ds mu Q E := by
  unfold spR
  exact ⟨hn, R, e, h⟩
end
/-- the def's end -/
theorem end_rt {n : Nat} {Q : KD} {d : D} {m : Mu} (hn : n ≤ m.length) (h : Q d m) : (endD n Q).rt d m := ⟨d, m, Frz.refl m d, hn, h⟩
theorem end_nx {n : Nat} {Q : KD} {dl : Lo} {m : Mu} (hn : n ≤ m.length) (h : Q .non m) : (endD n Q).nx dl m := ⟨.non, m, Frz.refl m .non, hn, h⟩
theorem brT {A B : Prop} (h : A) : Br true A B := Br.by (fun _ => h) fun z => nomatch z
theorem brF {A B : Prop} (h : B) : Br false A B := Br.by (fun z => nomatch z) fun _ => h
theorem brIf {b : Bool} {A B : Prop} (c : Bool) (e : b = c) (h : Br c A B) : Br b A B := by
  rw [e]
  exact h
theorem small {n : Nat} (h : n ≤ 100000) : n ≤ sizeLine := Nat.le_trans h (by rw [sizeLine_eq]; omega)
theorem end_of {n : Nat} {Q : KD} {d : D} {m : Mu} (hn : n ≤ m.length) (h : Q d m) : ∃ d' m', Frz m d m' d' ∧ n ≤ List.length m' ∧ Q d' m' := ⟨d, m, Frz.refl m d, hn, h⟩
end VL

/-! VsRul: further built-ins, membership, texts. -/
namespace VL
open PySem PySem.Spec PyProof.Rows L2
section
variable {X : Cx} {g : Gm} {a b e : Expr} {ta tb : TEd} {pos p : Pos} {t : TAd}
abbrev noE : EdT := fun _ _ _ _ => False
theorem PD.to {t t' : TEd} (h : PD X g e t) (m : MonoE t') (w : ∀ dl mu Q, t' dl mu Q → t dl mu Q) : PD X g e t' := ⟨m, PE.of h.pe fun sg H Q z => by
  obtain ⟨dl, mu, T, r, z⟩ := z
  exact ⟨dl, mu, T, r, w _ _ _ z⟩⟩
/-- one way to show what a built-in gives -/
theorem cr_by {o : Mu → List D → Option (Prop × D)} {r : List V → Hp → VK → Prop}
    (h : ∀ dl mu T sg H vs ds c d Q al, RelA g al dl mu T sg H → Reps g.K g.ca al H ds vs → o mu ds = some (c, d) → c → (∀ v' H', Rel g dl mu ((v', d) :: T) sg H' → Q v' H') → r vs H Q) : CrOk g r (gOf o) := by
  intro dl mu T sg H vs ds Q hl ⟨al, q, k⟩ z
  unfold gOf at z
  cases e : o mu ds with
  | none => rw [e] at z; exact z.elim
  | some pp =>
    rw [e] at z
    exact h dl mu T sg H vs ds pp.1 pp.2 Q al q k e z.1 z.2
theorem op_by {o : Mu → D → D → Option (Prop × D)} {r : R2}
    (h : ∀ dl mu T sg H v w x y c d Q al, RelA g al dl mu T sg H → Rep g.K g.ca al H x v → Rep g.K g.ca al H y w → o mu x y = some (c, d) → c → (∀ v' H', Rel g dl mu ((v', d) :: T) sg H' → Q v' H') → r v w H Q) : OpOk g r (fOf o) := by
  intro dl mu T sg H v w x y Q rr z
  obtain ⟨al, q, rx, ry⟩ := two rr
  unfold fOf at z
  cases e : o mu x y with
  | none => rw [e] at z; exact z.elim
  | some pp =>
    rw [e] at z
    exact h dl mu T sg H v w x y pp.1 pp.2 Q al q rx ry e z.1 z.2

/-! ### isinstance(x, a built-in type) -/
inductive Ty0 where
  | int | bool | str | tuple
def Ty0.nm : Ty0 → String
  | .int => "int"
  | .bool => "bool"
  | .str => "str"
  | .tuple => "tuple"
def isiB (k : Ty0) : D → Option Bool
  | .non => some false
  | .bl _ => match k with
    | .int => some true
    | .bool => some true
    | _ => some false
  | .int _ => match k with
    | .int => some true
    | _ => some false
  | .str _ => match k with
    | .str => some true
    | _ => some false
  | .tup _ => match k with
    | .tuple => some true
    | _ => some false
  | .ptup _ => match k with
    | .tuple => some true
    | _ => some false
  | .lst _ => some false
  | .dct _ => some false
  | _ => none
def isiD (k : Ty0) (mu : Mu) : List D → Option (Prop × D)
  | [d, .ty n] => match isiB k d with
    | some b => some (n = k.nm, .bl b)
    | none => none
  | _ => none
theorem isiB_ok {k : Ty0} {d : D} {b : Bool} {K : PySem.W.Frag} {ca : Str → Addr} {al : Ad} {H : Hp} {v : V} (h : isiB k d = some b) (r : Rep K ca al H d v) : ∃ t : String, TyX K H v (.type t) ∧ kitB t k.nm = some b := by
  cases d with
  | non => cases h; rw [rep_non r]; exact ⟨_, .base .non, by cases k <;> decide +kernel⟩
  | bl x => rw [rep_bl r]; exact ⟨_, .base (.bl x), by cases k <;> cases h <;> decide +kernel⟩
  | int x => rw [rep_int r]; exact ⟨_, .base (.int x), by cases k <;> cases h <;> decide +kernel⟩
  | str x => rw [rep_str r]; exact ⟨_, .base (.str x), by cases k <;> cases h <;> decide +kernel⟩
  | tup xs =>
    simp only [Rep] at r
    obtain ⟨l, vs, rfl, n, _⟩ := r
    have e : kitB "tuple" k.nm = some b := by cases k <;> cases h <;> decide +kernel
    rcases n with ⟨n | ⟨o, n⟩, _⟩ | ⟨o, its, n, n1, n2, _⟩
    · exact ⟨_, .base (.tup n), e⟩
    · exact ⟨_, .fTuple n, e⟩
    · exact ⟨_, .kTuple n1 n2, e⟩
  | ptup xs =>
    simp only [Rep] at r
    obtain ⟨l, o, vs, rfl, n, _⟩ := r
    exact ⟨_, .fTuple n, by cases k <;> cases h <;> decide +kernel⟩
  | lst xs =>
    cases h
    simp only [Rep] at r
    obtain ⟨l, vs, rfl, n, _, _⟩ := r
    exact ⟨_, .base (.lst n), by cases k <;> decide +kernel⟩
  | dct xs =>
    cases h
    simp only [Rep] at r
    obtain ⟨l, vs, rfl, n, _, _⟩ := r
    rcases n with n | ⟨o, n⟩
    · exact ⟨_, .base (.dK n), by cases k <;> decide +kernel⟩
    · exact ⟨_, .fDict n, by cases k <;> decide +kernel⟩
  | _ => cases h
theorem rep_ty {K : PySem.W.Frag} {ca : Str → Addr} {al : Ad} {H : Hp} {n : String} {v : V} (h : Rep K ca al H (.ty n) v) : v = .ty n := by simpa only [Rep] using h
theorem pd_ty {x : Str} {n : String} (hg : Gl X x) (hm : X.mg x = none) (hv : bootBuiltins x = some (.type n)) (hn : x ≠ "__name__" := by decide) (hd : (x == ("__debug__" : Str)) = false := by decide) : PD X g (.Name x pos) (dC (.ty n)) := pd_c (pe_bltn hg hm hv (v := .ty n) rfl hn hd) rfl
def dIsi (k : Ty0) (ta : TEd) : TEd := fun dl mu Q => ta dl mu fun d m => match isiB k d with
  | some b => Q (.bl b) m
  | none => False
theorem pd_isi (k : Ty0) {x : Str} {px : Pos} (hK : X.K = g.K) (hg : Gl X "isinstance") (hm : X.mg "isinstance" = none) (hgx : Gl X x) (hmx : X.mg x = none) (hvx : bootBuiltins x = some (.type k.nm)) (ha : PD X g a ta) (hn : x ≠ "__name__" := by decide) (hd : (x == ("__debug__" : Str)) = false := by decide)
    (he : starEach [a, .Name x px] X.env = (false, eval a X.env) :: starEach [.Name x px] X.env := by rfl) (he2 : starEach [.Name x px] X.env = (false, eval (.Name x px) X.env) :: starEach [] X.env := by rfl) (hpl : (backTo pos (starEach [.Name x px] X.env)).any (·.1) = false := by rfl) :
    PD X g (.Call (.Name "isinstance" p) [a, .Name x px] [] pos) (dIsi k ta) :=
  PD.to (pd_blt (f := gOf (isiD k)) call_isi (cr_by fun dl mu T sg H vs ds c d Q al q k' e hc z => by
      unfold isiD at e
      split at e
      · rename_i d0 n
        split at e
        · rename_i b0 e1
          cases e
          obtain ⟨v, v', rfl, r1, r2⟩ := two_of k'
          obtain ⟨tt, h1, h2⟩ := isiB_ok e1 r1
          rw [rep_ty r2, hc]
          exact ⟨v, _, _, _, b0, rfl, .ty _, by rw [hK]; exact h1, kit_ty h2, z _ _ (q.scal rfl)⟩
        · cases e
      · cases e) gOf_m hg hm (by decide +kernel) (qa_cons ha (qa_cons (pd_ty hgx hmx hvx hn hd) qa_nil he2) he) (by decide) (by decide) he hpl)
    (fun dl mu Q Q' w z => ha.m dl mu _ _ (fun d m z => by
      cases e : isiB k d with
      | none => rw [e] at z; exact z.elim
      | some b => rw [e] at z; exact w _ _ z) z)
    fun dl mu Q z => ha.m dl mu _ _ (fun d m z => by
      show gOf (isiD k) [d, .ty k.nm] m Q
      cases e : isiB k d with
      | none => rw [e] at z; exact z.elim
      | some b =>
        rw [e] at z
        have e2 : isiD k m [d, .ty k.nm] = some (k.nm = k.nm, .bl b) := by
          unfold isiD
          simp only [e]
        unfold gOf
        rw [e2]
        exact ⟨rfl, z⟩) z

/-! ### in, not in -/
def flatD : D → Bool
  | .non => true
  | .bl _ => true
  | .int _ => true
  | .str _ => true
  | _ => false
/-- == of flat data -/
def eqF : D → D → Bool
  | .non, .non => true
  | .bl a, .bl b => a == b
  | .bl a, .int b => (if a then 1 else 0) == b
  | .int a, .bl b => a == (if b then 1 else 0)
  | .int a, .int b => decide (a = b)
  | .str a, .str b => decide (a = b)
  | _, _ => false
def toV : D → V
  | .non => .non
  | .bl b => .bl b
  | .int i => .int i
  | .str x => .str x
  | _ => .non
theorem flat_rep {K : PySem.W.Frag} {ca : Str → Addr} {al : Ad} {H : Hp} {d : D} {v : V} (f : flatD d = true) (r : Rep K ca al H d v) : v = toV d := by
  cases d with
  | non => exact rep_non r
  | bl x => exact rep_bl r
  | int x => exact rep_int r
  | str x => exact rep_str r
  | _ => cases f
theorem flat_v {d : D} (f : flatD d = true) : flatV (toV d) = true := by
  cases d <;> first | rfl | cases f
theorem eqF_v {x y : D} (f : flatD x = true) (f' : flatD y = true) : eqV (toV x) (toV y) = eqF x y := by
  cases x <;> first | (cases f; done) | skip
  all_goals (cases y <;> first | (cases f'; done) | rfl | (simp [eqV, toV, eqF, Bool.beq_eq_decide_eq]))
theorem reps_flat {K : PySem.W.Frag} {ca : Str → Addr} {al : Ad} {H : Hp} : ∀ {ds : List D} {vs : List V}, Reps K ca al H ds vs → ds.all flatD = true → vs = ds.map toV
  | [], vs, h, _ => by
    have e : vs = [] := by simpa only [Reps] using h
    exact e
  | d :: ds, vs, h, f => by
    simp only [Reps] at h
    obtain ⟨v, r, rfl, h1, h2⟩ := h
    rw [List.all_cons, Bool.and_eq_true] at f
    rw [flat_rep f.1 h1, reps_flat h2 f.2]; rfl
theorem all_flatV : ∀ {ds : List D}, ds.all flatD = true → (ds.map toV).all flatV = true
  | [], _ => rfl
  | d :: ds, f => by
    rw [List.all_cons, Bool.and_eq_true] at f
    rw [List.map_cons, List.all_cons, flat_v f.1, all_flatV f.2]; rfl
theorem any_eqF {x : D} (fx : flatD x = true) : ∀ {ds : List D}, ds.all flatD = true → inV (toV x) (ds.map toV) = ds.any fun y => eqF y x
  | [], _ => rfl
  | d :: ds, f => by
    rw [List.all_cons, Bool.and_eq_true] at f
    have ih := any_eqF fx f.2
    unfold inV at ih ⊢
    rw [List.map_cons, List.any_cons, List.any_cons, eqF_v f.1 fx, ih]
/-- x in y -/
def inD (mu : Mu) : D → D → Option (Prop × Bool)
  | .str x, .str y => match x.cps.toList with
    | [c] => some (x = ⟨#[c]⟩, decide (c ∈ y.cps.toList))
    | _ => some (True, !(Builtin.Str.occurrences y x 0 y.length 1).isEmpty)
  | x, y => match seqOf mu y with
    | some ds => some (flatD x = true ∧ ds.all flatD = true, ds.any fun z => eqF z x)
    | none => none
def inO (neg : Bool) (mu : Mu) (x y : D) : Option (Prop × D) := match inD mu x y with
  | some (c, b) => some (c, .bl (if neg then !b else b))
  | none => none
def inO0 (mu : Mu) (x y : D) : Option (Prop × D) := match inD mu x y with
  | some (c, b) => some (c, .bl b)
  | none => none
def inO1 (mu : Mu) (x y : D) : Option (Prop × D) := match inD mu x y with
  | some (c, b) => some (c, .bl (!b))
  | none => none
def inX : Bool → Mu → D → D → Option (Prop × D)
  | false => inO0
  | true => inO1
theorem inX_eq (neg : Bool) (mu : Mu) (x y : D) : inX neg mu x y = inO neg mu x y := by cases neg <;> rfl
def fIn : Bool → F2
  | false => fOf inO0
  | true => fOf inO1
theorem fIn_eq (neg : Bool) : fIn neg = fOf (inX neg) := by cases neg <;> rfl
def rInA (K : PySem.W.Frag) (neg : Bool) : R2 := fun x y H Q => (∃ (c : Nat) (z : Str), x = .str ⟨#[c]⟩ ∧ y = .str z ∧ Q (.bl (if neg then !decide (c ∈ z.cps.toList) else decide (c ∈ z.cps.toList))) H) ∨
  (∃ i j, x = .str i ∧ y = .str j ∧ Q (.bl (if neg then !(!(Builtin.Str.occurrences j i 0 j.length 1).isEmpty) else !(Builtin.Str.occurrences j i 0 j.length 1).isEmpty)) H) ∨ rIn K neg x y H Q
theorem in_r : OpR X (compareOp .In) (rInA X.K false) := op_in_sign.or (op_in_str.or op_in_seq)
theorem notin_r : OpR X (compareOp .NotIn) (rInA X.K true) := op_notIn_sign.or (op_notin_str.or op_notIn_seq)
theorem in_ok (neg : Bool) (hK : X.K = g.K) : OpOk g (rInA X.K neg) (fIn neg) := by
 rw [fIn_eq]
 exact op_by fun dl mu T sg H v w x y c d Q al q rx ry e hc z => by
  rw [inX_eq] at e
  unfold inO at e
  cases e0 : inD mu x y with
  | none => rw [e0] at e; cases e
  | some pp =>
    rw [e0] at e
    cases e
    unfold inD at e0
    split at e0
    · split at e0
      · rename_i c0 ec
        cases e0
        have hx := rep_str rx
        rw [hc] at hx
        exact .inl ⟨c0, _, hx, rep_str ry, z _ _ (q.scal rfl)⟩
      · cases e0
        exact .inr (.inl ⟨_, _, rep_str rx, rep_str ry, z _ _ (q.scal rfl)⟩)
    · split at e0
      · rename_i ds e1
        cases e0
        refine .inr (.inr ?_)
        have hx := flat_rep hc.1 rx
        have fin : ∀ l vs, w = .ref l → (SqL X.K H l vs ∨ SqT X.K H l vs) → Reps g.K g.ca al H ds vs → rIn X.K neg v w H Q := fun l vs hw hs hr => by
          have hv := reps_flat hr hc.2
          subst hv
          refine ⟨l, _, hw, hs, by rw [hx]; exact flat_v hc.1, all_flatV hc.2, ?_⟩
          rw [hx, any_eqF hc.1 hc.2]
          exact z _ _ (q.scal rfl)
        rcases q.seq ry e1 with ⟨l, vs, hw, f2, f3⟩ | ⟨l, vs, hw, f2, f3⟩
        · exact fin l vs hw (.inr (by rw [hK]; exact f2)) f3
        · exact fin l vs hw (.inl (by rw [hK]; exact f2)) f3
      · cases e0
theorem fIn_m {neg : Bool} : MonoF (fIn neg) := by
  rw [fIn_eq]
  exact fOf_m
theorem pd_in (hK : X.K = g.K) (ha : PD X g a ta) (hb : PD X g b tb) (hmk : lastMarks [.In] [b] = false := by with_unfolding_all rfl) : PD X g (.Compare a [.In] [b] pos) (dBin (fIn false) ta tb) := pd_cmp in_r (in_ok false hK) fIn_m ha hb hmk
theorem pd_notin (hK : X.K = g.K) (ha : PD X g a ta) (hb : PD X g b tb) (hmk : lastMarks [.NotIn] [b] = false := by with_unfolding_all rfl) : PD X g (.Compare a [.NotIn] [b] pos) (dBin (fIn true) ta tb) := pd_cmp notin_r (in_ok true hK) fOf_m ha hb hmk
theorem qt_in (hK : X.K = g.K) (ha : PD X g a ta) (hb : PD X g b tb) (hmk : lastMarks [.In] [b] = false := by with_unfolding_all rfl) : QT X g (.Compare a [.In] [b] pos) (dTest (dBin (fIn false) ta tb)) := test_cmp in_r (in_ok false hK) fOf_m ha hb hmk
theorem qt_notin (hK : X.K = g.K) (ha : PD X g a ta) (hb : PD X g b tb) (hmk : lastMarks [.NotIn] [b] = false := by with_unfolding_all rfl) : QT X g (.Compare a [.NotIn] [b] pos) (dTest (dBin (fIn true) ta tb)) := test_cmp notin_r (in_ok true hK) fOf_m ha hb hmk
end
end VL

/-! VsRulB: all, sum, tuple, str; texts cut; a text walked. -/
namespace VL
open PySem PySem.Spec PyProof.Rows L2
section
variable {X : Cx} {g : Gm} {a b e : Expr} {ta tb : TEd} {pos p : Pos} {t : TAd}
/-- truths, whole numbers of a list -/
def blsOf : List D → Option (List Bool)
  | [] => some []
  | .bl b :: r => (blsOf r).map (b :: ·)
  | _ => none
def intsOf : List D → Option (List Int)
  | [] => some []
  | .int b :: r => (intsOf r).map (b :: ·)
  | _ => none
theorem bls_ok {K : PySem.W.Frag} {ca : Str → Addr} {al : Ad} {H : Hp} : ∀ {ds : List D} {vs : List V} {bs : List Bool}, Reps K ca al H ds vs → blsOf ds = some bs → vs = bs.map V.bl
  | [], vs, bs, h, e => by
    have h0 : vs = [] := by simpa only [Reps] using h
    cases e; exact h0
  | d :: ds, vs, bs, h, e => by
    simp only [Reps] at h
    obtain ⟨v, r, rfl, h1, h2⟩ := h
    cases d with
    | bl x =>
      simp only [blsOf] at e
      cases eb : blsOf ds with
      | none => rw [eb] at e; cases e
      | some bs' =>
        rw [eb] at e
        cases e
        rw [rep_bl h1, bls_ok h2 eb]; rfl
    | _ => cases e
theorem ints_ok {K : PySem.W.Frag} {ca : Str → Addr} {al : Ad} {H : Hp} : ∀ {ds : List D} {vs : List V} {bs : List Int}, Reps K ca al H ds vs → intsOf ds = some bs → vs = bs.map V.int
  | [], vs, bs, h, e => by
    have h0 : vs = [] := by simpa only [Reps] using h
    cases e; exact h0
  | d :: ds, vs, bs, h, e => by
    simp only [Reps] at h
    obtain ⟨v, r, rfl, h1, h2⟩ := h
    cases d with
    | int x =>
      simp only [intsOf] at e
      cases eb : intsOf ds with
      | none => rw [eb] at e; cases e
      | some bs' =>
        rw [eb] at e
        cases e
        rw [rep_int h1, ints_ok h2 eb]; rfl
    | _ => cases e
theorem blsOf_map (bs : List Bool) : blsOf (bs.map D.bl) = some bs := by
  induction bs with
  | nil => rfl
  | cons b r ih => simp only [List.map_cons, blsOf, ih, Option.map_some]
theorem intsOf_map (bs : List Int) : intsOf (bs.map D.int) = some bs := by
  induction bs with
  | nil => rfl
  | cons b r ih => simp only [List.map_cons, intsOf, ih, Option.map_some]
def allD (mu : Mu) : List D → Option (Prop × D)
  | [d] => match asL mu d with
    | some ds => match blsOf ds with
      | some bs => some (True, .bl (bs.all id))
      | none => none
    | none => none
  | _ => none
theorem pd_all (hK : X.K = g.K) (hc : X.calm = true) (hg : Gl X "all") (hm : X.mg "all" = none) (ha : QA X g [a] t) (he : starEach [a] X.env = (false, eval a X.env) :: starEach [] X.env := by rfl) : PD X g (.Call (.Name "all" p) [a] [] pos) (dB (gOf allD) t) :=
  pd_blt (cr_all hc) (cr_by fun dl mu T sg H vs ds c d Q al q k e hc z => by
    unfold allD at e
    split at e
    · split at e
      · rename_i e1
        split at e
        · rename_i bs e2
          cases e
          obtain ⟨v, rfl, k1⟩ := one_of k
          obtain ⟨l, ws, rfl, f2, f3⟩ := q.lst k1 e1
          rw [bls_ok f3 e2] at f2
          exact ⟨l, bs, rfl, by rw [hK]; exact f2, z _ _ (q.scal rfl)⟩
        · cases e
      · cases e
    · cases e) gOf_m hg hm (by decide +kernel) ha (by decide) (by decide) he
def sumD (mu : Mu) : List D → Option (Prop × D)
  | [d] => match asL mu d with
    | some ds => match intsOf ds with
      | some bs => some (True, .int bs.sum)
      | none => none
    | none => none
  | _ => none
theorem pd_sum (hK : X.K = g.K) (hc : X.calm = true) (hg : Gl X "sum") (hm : X.mg "sum" = none) (ha : QA X g [a] t) (he : starEach [a] X.env = (false, eval a X.env) :: starEach [] X.env := by rfl) : PD X g (.Call (.Name "sum" p) [a] [] pos) (dB (gOf sumD) t) :=
  pd_blt (cr_sum hc) (cr_by fun dl mu T sg H vs ds c d Q al q k e hc z => by
    unfold sumD at e
    split at e
    · split at e
      · rename_i e1
        split at e
        · rename_i bs e2
          cases e
          obtain ⟨v, rfl, k1⟩ := one_of k
          obtain ⟨l, ws, rfl, f2, f3⟩ := q.lst k1 e1
          rw [ints_ok f3 e2] at f2
          exact ⟨l, bs, rfl, by rw [hK]; exact f2, z _ _ (q.scal rfl)⟩
        · cases e
      · cases e
    · cases e) gOf_m hg hm (by decide +kernel) ha (by decide) (by decide) he
def tupleD (mu : Mu) : List D → Option (Prop × D)
  | [.tup ds] => some (True, .tup ds)
  | [.ptup ds] => some (True, .ptup ds)
  | [d] => match seqOf mu d with
    | some ds => some (True, .ptup ds)
    | none => none
  | _ => none
/-- tuple(a list): the new object is known -/
theorem call_tupleP : CallR X (.type "tuple") (fun xs H Q => ∃ l ys, xs = [.ref l] ∧ ((SqL X.K H l ys ∧ ∀ q o, H q = none → o.dict = none → Q (.ref q) (upd H q (.frz o (.tup ys)))) ∨ (SqT X.K H l ys ∧ Q (.ref l) H))) := by
  intro pins s sg H xs us Q I r h
  obtain ⟨l, ys, rfl, h⟩ := h
  obtain ⟨u, rfl, rx⟩ := vals1 r
  cases rx
  rcases h with ⟨hq, q⟩ | ⟨hq, q⟩
  · obtain ⟨its, r1, pl, hz⟩ := I.list hq
    have hlen := r1.length
    refine call_tuple_list pl.isList (fun h1 kp => ?_) (by simp only [List.size_toArray] <;> omega)
    have J : Inv X pins sg H { s with heap := h1 } := I.kept (t' := s.toks) kp
    have J2 : Inv X pins sg (upd H h1.objs.size (.frz { cls := .type "tuple", data := .seq its.toArray } (.tup ys))) { s with heap := h1.push { cls := .type "tuple", data := .seq its.toArray } } :=
      J.laid (t' := s.toks) (fun b o e => Heap.get?_push_of_some _ e) (Nat.le_refl _) ⟨Heap.get?_push_size _ rfl, show ObjOk X.prog X.w _ _ _ (.tup ys) from ⟨hz, its, r1, IsTup.new _ _⟩⟩
    exact ⟨.ref h1.objs.size, _, J2, rfl, q _ _ (J.hok.fresh (Nat.le_refl _)) rfl⟩
  · obtain ⟨its, r1, pl, hz⟩ := I.tuple hq
    exact call_tuple_same pl ⟨.ref l, H, I, rfl, q⟩
theorem RelA.newPtup {al : Ad} {dl : Lo} {mu : Mu} {T : List (V × D)} {sg : St} {H : Hp} (q : RelA g al dl mu T sg H) {vs : List V} {ds : List D} (k : Reps g.K g.ca al H ds vs) {l : Addr} {o : Obj} (n : H l = none) (hd : o.dict = none) : Rel g dl mu ((.ref l, .ptup ds) :: T) sg (upd H l (.frz o (.tup vs))) := by
  refine ⟨al, (q.new n).push ?_⟩
  simp only [Rep]
  exact ⟨l, o, vs, rfl, upd_same, hd, q.st.fresh n, Reps.grow (stp_new (g := g) n).toGrow ds vs k⟩
theorem pd_tuple (hK : X.K = g.K) (hg : Gl X "tuple") (hm : X.mg "tuple" = none) (ha : QA X g [a] t) (he : starEach [a] X.env = (false, eval a X.env) :: starEach [] X.env := by rfl) : PD X g (.Call (.Name "tuple" p) [a] [] pos) (dB (gOf tupleD) t) :=
  pd_bty call_tupleP (cr_by fun dl mu T sg H vs ds c d Q al q k e hc z => by
    unfold tupleD at e
    split at e
    · cases e
      obtain ⟨v, rfl, k1⟩ := one_of k
      obtain ⟨l, ws, rfl, f2, f3⟩ := rep_tup k1
      exact ⟨l, ws, rfl, .inr ⟨by rw [hK]; exact f2, z _ _ ⟨al, q.push k1⟩⟩⟩
    · cases e
      obtain ⟨v, rfl, k1⟩ := one_of k
      obtain ⟨l, ws, rfl, f2, f3⟩ := rep_ptup k1
      exact ⟨l, ws, rfl, .inr ⟨by rw [hK]; exact f2, z _ _ ⟨al, q.push k1⟩⟩⟩
    · rename_i d0 nt np
      split at e
      · rename_i ds e1
        cases e
        obtain ⟨v, rfl, k1⟩ := one_of k
        have key : ∀ {d' : D} {ds' : List D}, Rep g.K g.ca al H d' v → asL mu d' = some ds' → (∀ v' H', Rel g dl mu ((v', .ptup ds') :: T) sg H' → Q v' H') → ∃ l ys, [v] = [V.ref l] ∧ ((SqL X.K H l ys ∧ ∀ q o, H q = none → o.dict = none → Q (.ref q) (upd H q (.frz o (.tup ys)))) ∨ (SqT X.K H l ys ∧ Q (.ref l) H)) := fun k1 e1 z => by
          obtain ⟨l, ws, rfl, f2, f3⟩ := q.lst k1 e1
          exact ⟨l, ws, rfl, .inl ⟨by rw [hK]; exact f2, fun p' o n hd => z _ _ (q.newPtup f3 n hd)⟩⟩
        cases d0 with
        | tup xs => exact absurd rfl (nt xs)
        | ptup xs => exact absurd rfl (np xs)
        | lst xs => exact key k1 e1 z
        | loc xs => exact key k1 e1 z
        | scr xs => exact key k1 e1 z
        | _ => cases e1
      · cases e
    · cases e) gOf_m hg hm (by decide +kernel) ha (by decide) (by decide) he
def listD (mu : Mu) : List D → Option (Prop × D)
  | [d] => match seqOf mu d with
    | some ds => some (True, .lst ds)
    | none => none
  | _ => none
theorem pd_list (hK : X.K = g.K) (hg : Gl X "list") (hm : X.mg "list" = none) (ha : QA X g [a] t) (he : starEach [a] X.env = (false, eval a X.env) :: starEach [] X.env := by rfl) : PD X g (.Call (.Name "list" p) [a] [] pos) (dB (gOf listD) t) :=
  pd_bty call_list_of (cr_by fun dl mu T sg H vs ds c d Q al q k e hc z => by
    unfold listD at e
    split at e
    · split at e
      · rename_i ds e1
        cases e
        obtain ⟨v, rfl, k1⟩ := one_of k
        rcases q.seq k1 e1 with ⟨l, ws, rfl, f2, f3⟩ | ⟨l, ws, rfl, f2, f3⟩
        · exact ⟨l, ws, rfl, .inr (by rw [hK]; exact f2), fun p' n => z _ _ (q.newLst f3 n)⟩
        · exact ⟨l, ws, rfl, .inl (by rw [hK]; exact f2), fun p' n => z _ _ (q.newLst f3 n)⟩
      · cases e
    · cases e) gOf_m hg hm (by decide +kernel) ha (by decide) (by decide) he
/-- the digits of a whole number -/
def strD (mu : Mu) : List D → Option (Prop × D)
  | [.int i] => some (i.natAbs.log2 < 1920, .str (toString i))
  | _ => none
theorem pd_str1 (hg : Gl X "str") (hm : X.mg "str" = none) (ha : QA X g [a] t) (he : starEach [a] X.env = (false, eval a X.env) :: starEach [] X.env := by rfl) : PD X g (.Call (.Name "str" p) [a] [] pos) (dB (gOf strD) t) :=
  pd_bty call_str_int (cr_by fun dl mu T sg H vs ds c d Q al q k e hc z => by
    unfold strD at e
    split at e
    · cases e
      obtain ⟨v, rfl, k1⟩ := one_of k
      exact ⟨_, by rw [rep_int k1], hc, z _ _ (q.scal rfl)⟩
    · cases e) gOf_m hg hm (by decide +kernel) ha (by decide) (by decide) he

/-! ### methods of a text -/
def dStr (o : Str → List D → Option (Prop × D)) (ta : TEd) (t : TAd) : TEd := fun dl mu Q => ta dl mu fun x m1 => match x with
  | .str z => t dl m1 fun ds m2 => match o z ds with
    | some (c, d) => c ∧ Q d m2
    | none => False
  | _ => False
theorem reps_strs {K : PySem.W.Frag} {ca : Str → Addr} {al : Ad} {H : Hp} : ∀ (ys : List Str), Reps K ca al H (ys.map D.str) (ys.map V.str)
  | [] => by simp only [List.map_nil, Reps]
  | y :: ys => by
    simp only [List.map_cons, Reps]
    exact ⟨_, _, rfl, by simp only [Rep], reps_strs ys⟩
theorem pd_sm {o : Str → List D → Option (Prop × D)} {r : V → List V → Hp → VK → Prop} {es : List Expr} {name : Str} {apos cpos : Pos}
    (ok : ∀ dl mu T sg H vs z ds c d Q al, RelA g al dl mu T sg H → Reps g.K g.ca al H ds vs → o z ds = some (c, d) → c → (∀ v' H', Rel g dl mu ((v', d) :: T) sg H' → Q v' H') → r (.str z) vs H Q)
    (ha : PD X g a ta) (hb : QA X g es t) (hm : ∀ {to : TE} {ta : TA}, PE X a to → PA X es ta → PE X (.Call (.Attribute a name apos) es [] cpos) (tBM X.K "str" r to ta)) : PD X g (.Call (.Attribute a name apos) es [] cpos) (dStr o ta t) where
  m := fun dl mu Q Q' w z => ha.m dl mu _ _ (fun x m1 z => by
    cases x with
    | str y => exact hb.m _ _ _ _ (fun ds m2 z => by
        cases e : o y ds with
        | none => rw [e] at z; exact z.elim
        | some pp => rw [e] at z; exact ⟨z.1, w _ _ z.2⟩) z
    | _ => exact z.elim) z
  pe := PE.of (hm ha.pe hb.pa) fun sg H Q z => by
    obtain ⟨dl, mu, T, rr, z⟩ := z
    refine ⟨dl, mu, T, rr, ha.m dl mu _ _ (fun x m1 z vo H1 r1 => ?_) z⟩
    cases x with
    | str y =>
      have ev := r1.str
      subst ev
      refine ⟨rfl, dl, m1, T, r1.pop, hb.m _ _ _ _ (fun ds m2 z vs H2 hl r2 => ?_) z⟩
      cases e : o y ds with
      | none => rw [e] at z; exact z.elim
      | some pp =>
        rw [e] at z
        obtain ⟨al, q, k⟩ := r2.reps hl
        exact ok dl m2 T sg H2 vs y ds pp.1 pp.2 Q al (q.sub fun _ h => List.mem_append_right _ h) k e z.1 z.2
    | _ => exact z.elim
def splitD (z : Str) : List D → Option (Prop × D)
  | [.str y] => some ((y.length == 0) = false ∧ z.length + 2 ≤ sizeLine, .lst ((Txt.split z y).map D.str))
  | _ => none
theorem pd_split {apos cpos : Pos} (ha : PD X g a ta) (hb : QA X g [b] t) (hm : ∀ {to : TE} {ta : TA} {r : V → List V → Hp → VK → Prop}, MtR X "str.split" r → PE X a to → PA X [b] ta → PE X (.Call (.Attribute a "split" apos) [b] [] cpos) (tBM X.K "str" r to ta)) :
    PD X g (.Call (.Attribute a "split" apos) [b] [] cpos) (dStr splitD ta t) := pd_sm (fun dl mu T sg H vs z ds c d Q al q k e hc w => by
    unfold splitD at e
    split at e
    · cases e
      obtain ⟨v, rfl, k1⟩ := one_of k
      exact ⟨_, _, rfl, by rw [rep_str k1], hc.1, hc.2, fun p' n => w _ _ (q.newLst (reps_strs _) n)⟩
    · cases e) ha hb fun h1 h2 => hm mt_split h1 h2
def partD (z : Str) : List D → Option (Prop × D)
  | [.str y] => some ((y.length == 0) = false ∧ z.length ≤ sizeLine, .tup [.str (Txt.partition z y).1, .str (Txt.partition z y).2.1, .str (Txt.partition z y).2.2])
  | _ => none
theorem pd_partition {apos cpos : Pos} (ha : PD X g a ta) (hb : QA X g [b] t) (hm : ∀ {to : TE} {ta : TA} {r : V → List V → Hp → VK → Prop}, MtR X "str.partition" r → PE X a to → PA X [b] ta → PE X (.Call (.Attribute a "partition" apos) [b] [] cpos) (tBM X.K "str" r to ta)) :
    PD X g (.Call (.Attribute a "partition" apos) [b] [] cpos) (dStr partD ta t) := pd_sm (fun dl mu T sg H vs z ds c d Q al q k e hc w => by
    unfold partD at e
    split at e
    · cases e
      obtain ⟨v, rfl, k1⟩ := one_of k
      exact ⟨_, _, rfl, by rw [rep_str k1], hc.1, hc.2, fun p' n => w _ _ (q.newTup (reps_strs [_, _, _]) n)⟩
    · cases e) ha hb fun h1 h2 => hm mt_partition h1 h2
/-- x.rpartition(sep) -/
theorem mt_rpart : MtR X "str.rpartition" (fun x xs H Q => ∃ y z, x = .str y ∧ xs = [.str z] ∧ (z.length == 0) = false ∧ y.length ≤ sizeLine ∧
    ∀ q, H q = none → Q (.ref q) (upd H q (.tup [.str (Txt.rpartition y z).1, .str (Txt.rpartition y z).2.1, .str (Txt.rpartition y z).2.2]))) := by
  intro pins s sg H x xs v us Q I rx rs h
  obtain ⟨y, z, rfl, rfl, hb, hz, h⟩ := h
  obtain ⟨t1, rfl⟩ := rx
  obtain ⟨u1, rfl, r1⟩ := vals1 rs
  obtain ⟨t2, rfl⟩ := r1
  refine call_meets F.slot_str_rpartition (typeIs_str _ _ _) F.entry_str_rpartition (F.args_str_rpartition_2 _ _) (meets_str_rpartition y z t1 t2 hb hz) ?_
  unfold Txt.rpartition at h
  revert h
  cases Builtin.Str.lastOccurrence y z 0 y.length with
  | none => intro h; exact laid_parts I h
  | some i => intro h; exact laid_parts I h
def rpartD (z : Str) : List D → Option (Prop × D)
  | [.str y] => some ((y.length == 0) = false ∧ z.length ≤ sizeLine, .tup [.str (Txt.rpartition z y).1, .str (Txt.rpartition z y).2.1, .str (Txt.rpartition z y).2.2])
  | _ => none
theorem pd_rpartition {apos cpos : Pos} (ha : PD X g a ta) (hb : QA X g [b] t) (hm : ∀ {to : TE} {ta : TA} {r : V → List V → Hp → VK → Prop}, MtR X "str.rpartition" r → PE X a to → PA X [b] ta → PE X (.Call (.Attribute a "rpartition" apos) [b] [] cpos) (tBM X.K "str" r to ta)) :
    PD X g (.Call (.Attribute a "rpartition" apos) [b] [] cpos) (dStr rpartD ta t) := pd_sm (fun dl mu T sg H vs z ds c d Q al q k e hc w => by
    unfold rpartD at e
    split at e
    · cases e
      obtain ⟨v, rfl, k1⟩ := one_of k
      exact ⟨_, _, rfl, by rw [rep_str k1], hc.1, hc.2, fun p' n => w _ _ (q.newTup (reps_strs [_, _, _]) n)⟩
    · cases e) ha hb fun h1 h2 => hm mt_rpart h1 h2
/-- for c in a text -/
theorem qi_str {tg l : Expr} {tl : TEd} (hl : PD X g l tl) : QI X g tg l (iStr tl) where
  m := fun dl mu Q Q' w z => hl.m dl mu _ _ (fun d m z => by
    cases d with
    | str y => exact w _ _ _ z
    | _ => exact z.elim) z
  pi := PI.of (pi_str hl.pe) fun sg H R z => by
    obtain ⟨dl, mu, T, r, z⟩ := z
    refine ⟨dl, mu, T, r, hl.m dl mu _ _ (fun d m z v H1 r1 => ?_) z⟩
    cases d with
    | str y => exact ⟨y, r1.str, z _ _ [] r1.pop (wk_str y)⟩
    | _ => exact z.elim
end
end VL

/-! VsObj: instances: their fields, their methods, how they are made. -/
namespace VL
open PySem PySem.Spec PyProof.Rows L2
section
variable {K : PySem.W.Frag} {ca : Str → Addr} {al : Ad} {H : Hp}
theorem repF_keys : ∀ {fs : List (Str × D)} {vs : List (Str × V)}, RepF K ca al H fs vs → vs.map (·.1) = fs.map (·.1)
  | [], vs, h => by
    have e : vs = [] := by simpa only [RepF] using h
    rw [e]; rfl
  | (k, d) :: fs, vs, h => by
    simp only [RepF] at h
    obtain ⟨v, r, rfl, h1, h2⟩ := h
    rw [List.map_cons, List.map_cons, repF_keys h2]
theorem repF_get : ∀ {fs : List (Str × D)} {vs : List (Str × V)} {i : Nat} {f : Str} {d : D}, RepF K ca al H fs vs → fs[i]? = some (f, d) → f ∉ (fs.map (·.1)).take i → ∃ v, vs.lookup f = some v ∧ Rep K ca al H d v
  | [], vs, i, f, d, h, e, _ => by simp at e
  | (k, x) :: fs, vs, 0, f, d, h, e, _ => by
    simp only [RepF] at h
    obtain ⟨v, r, rfl, h1, h2⟩ := h
    simp at e
    obtain ⟨rfl, rfl⟩ := e
    exact ⟨v, by simp [List.lookup], h1⟩
  | (k, x) :: fs, vs, i + 1, f, d, h, e, n => by
    simp only [RepF] at h
    obtain ⟨v, r, rfl, h1, h2⟩ := h
    simp only [List.map_cons, List.take_succ_cons, List.mem_cons, not_or] at n
    obtain ⟨w, e1, e2⟩ := repF_get (i := i) h2 (by simpa using e) n.2
    refine ⟨w, ?_, e2⟩
    rw [List.lookup, show (f == k) = false by simpa using n.1]
    exact e1
theorem repF_none : ∀ {fs : List (Str × D)} {vs : List (Str × V)} {f : Str}, RepF K ca al H fs vs → f ∉ fs.map (·.1) → vs.lookup f = none
  | [], vs, f, h, _ => by
    have e : vs = [] := by simpa only [RepF] using h
    rw [e]; rfl
  | (k, x) :: fs, vs, f, h, n => by
    simp only [RepF] at h
    obtain ⟨v, r, rfl, h1, h2⟩ := h
    simp only [List.map_cons, List.mem_cons, not_or] at n
    rw [List.lookup, show (f == k) = false by simpa using n.1]
    exact repF_none h2 n.2
theorem repF_put {f : Str} {d : D} {v : V} : ∀ {fs : List (Str × D)} {vs : List (Str × V)}, RepF K ca al H fs vs → f ∉ fs.map (·.1) → Rep K ca al H d v → RepF K ca al H (fs ++ [(f, d)]) (putF f v vs)
  | [], vs, h, _, k => by
    have e : vs = [] := by simpa only [RepF] using h
    rw [e]
    simp only [List.nil_append, RepF, putF]
    exact ⟨v, [], rfl, k, rfl⟩
  | (g, x) :: fs, vs, h, n, k => by
    simp only [RepF] at h
    obtain ⟨w, r, rfl, h1, h2⟩ := h
    simp only [List.map_cons, List.mem_cons, not_or] at n
    simp only [List.cons_append, RepF, putF]
    rw [if_neg (fun z => n.1 z.symm)]
    exact ⟨w, _, rfl, h1, repF_put h2 n.2 k⟩
theorem repF_len {fs : List (Str × D)} {vs : List (Str × V)} (h : RepF K ca al H fs vs) : vs.length = fs.length := by
  have := congrArg List.length (repF_keys h)
  simpa using this
end
/-- an instance, wherever it stands -/
def objOf (mu : Mu) : D → Option (Str × List (Str × D))
  | .obj c fs => some (c, fs)
  | .loc n => match mu[n]? with
    | some (.obj c fs) => some (c, fs)
    | _ => none
  | _ => none
theorem RelA.obj {g : Gm} {al : Ad} {dl : Lo} {mu : Mu} {T : List (V × D)} {sg : St} {H : Hp} (q : RelA g al dl mu T sg H) {d : D} {v : V} {c : Str} {fs : List (Str × D)} (r : Rep g.K g.ca al H d v) (e : objOf mu d = some (c, fs)) :
    ∃ a dx vs, v = .ref a ∧ H a = some (.ins (g.ca c) dx vs) ∧ RepF g.K g.ca al H fs vs := by
  cases d with
  | obj c' fs' =>
    cases e
    simp only [Rep] at r
    obtain ⟨a, dx, vs, e1, e2, _, e3⟩ := r
    exact ⟨a, dx, vs, e1, e2, e3⟩
  | loc n =>
    simp only [Rep] at r
    obtain ⟨a, e1, e2⟩ := r
    simp only [objOf] at e
    cases em : mu[n]? with
    | none => rw [em] at e; cases e
    | some c' =>
      rw [em] at e
      obtain ⟨a', e3, cc⟩ := q.at em
      rw [e2] at e3; cases e3
      cases c' with
      | obj c2 fs2 =>
        cases e
        obtain ⟨dx, vs, f1, f2⟩ := cc
        exact ⟨a, dx, vs, e1, f1, f2⟩
      | _ => cases e
  | _ => cases e
section
variable {X : Cx} {g : Gm} {e o : Expr} {te to : TEd} {pos pos' : Pos} {f : Str}
/-- e.f -/
def dAt (c : Str) (ks : List Str) (i : Nat) (ta : TEd) : TEd := fun dl mu Q => ta dl mu fun d m => match objOf m d with
  | some (c', fs) => (c' = c ∧ fs.map (·.1) = ks) ∧ match fs[i]? with
    | some (_, v) => Q v m
    | none => False
  | none => False
theorem at_m {c : Str} {ks : List Str} {i : Nat} (he : MonoE te) : MonoE (dAt c ks i te) := fun dl mu Q Q' w z => he dl mu _ _ (fun d m z => by
  cases eo : objOf m d with
  | none => rw [eo] at z; exact z.elim
  | some pp =>
    obtain ⟨c', fs⟩ := pp
    rw [eo] at z
    refine ⟨z.1, ?_⟩
    have z2 := z.2
    cases ef : fs[i]? with
    | none => rw [ef] at z2; exact z2.elim
    | some kv => rw [ef] at z2; exact w _ _ z2) z
theorem pd_at {c : Str} {ks : List Str} {i : Nat} (hK : X.K = g.K) (c1 : Cls X.K (g.ca c)) (na : NoAttr X.K (g.ca c) f) (he : PD X g e te) (hi : ks[i]? = some f := by rfl) (hn : f ∉ ks.take i := by decide +kernel) (hb : attributeBase e f X.env (eval e X.env) = eval e X.env := by rfl) :
    PD X g (.Attribute e f pos) (dAt c ks i te) where
  m := at_m he.m
  pe := PE.of (pe_fld he.pe hb) fun sg H Q z => by
    obtain ⟨dl, mu, T, r, z⟩ := z
    refine ⟨dl, mu, T, r, he.m dl mu _ _ (fun d m z v H1 r1 => ?_) z⟩
    cases eo : objOf m d with
    | none => rw [eo] at z; exact z.elim
    | some pp =>
      obtain ⟨c', fs⟩ := pp
      rw [eo] at z
      obtain ⟨⟨ec, hks⟩, zz⟩ := z
      rw [ec] at eo
      cases ef : fs[i]? with
      | none => rw [ef] at zz; exact zz.elim
      | some kv =>
        rw [ef] at zz
        obtain ⟨al, q, k⟩ := r1.top
        obtain ⟨a, dx, vs, rfl, e2, e3⟩ := q.obj k eo
        have hf : kv.1 = f := by
          rw [← hks, List.getElem?_map, ef] at hi
          exact Option.some.inj hi
        obtain ⟨w, e4, e5⟩ := repF_get (f := f) (d := kv.2) e3 (by rw [ef, ← hf]) (by rw [hks]; exact hn)
        exact ⟨a, _, dx, vs, w, rfl, e2, c1, na, e4, zz w H1 ⟨al, (q.sub fun _ h => List.mem_cons_of_mem _ h).push e5⟩⟩
/-- self.f = e, a new field of a place -/
@[irreducible] def newAt (c : Str) (ks : List Str) (f : Str) (m2 : Mu) (x y : D) (P : Mu → Prop) : Prop := match x with
  | .loc n => match m2[n]? with
    | some (.obj c' fs) => (c' = c ∧ fs.map (·.1) = ks) ∧ P (m2.set n (.obj c (fs ++ [(f, y)])))
    | _ => False
  | _ => False
def sNew (c : Str) (ks : List Str) (f : Str) (to te : TEd) : TSd := fun A dl mu => te dl mu fun y m1 => to dl m1 fun x m2 => newAt c ks f m2 x y (A.nx dl)
theorem new_at {c : Str} {ks : List Str} {m2 : Mu} {x y : D} {P : Mu → Prop} (z : newAt c ks f m2 x y P) : ∃ n fs, x = .loc n ∧ m2[n]? = some (.obj c fs) ∧ fs.map (·.1) = ks ∧ P (m2.set n (.obj c (fs ++ [(f, y)]))) := by
  unfold newAt at z
  cases x with
  | loc n =>
    cases em : m2[n]? with
    | none => simp only [em] at z
    | some c' =>
      cases c' with
      | obj c2 fs =>
        simp only [em] at z
        obtain ⟨⟨h1, h2⟩, h3⟩ := z
        rw [h1] at em
        exact ⟨n, fs, rfl, em, h2, h3⟩
      | _ => simp only [em] at z
  | _ => exact z.elim
theorem at_new {c : Str} {ks : List Str} {m2 : Mu} {y : D} {P : Mu → Prop} {n : Nat} {fs : List (Str × D)} (hm : m2[n]? = some (.obj c fs)) (hk : fs.map (·.1) = ks) (hp : P (m2.set n (.obj c (fs ++ [(f, y)])))) : newAt c ks f m2 (.loc n) y P := by
  unfold newAt
  simp only [hm]
  exact ⟨⟨trivial, hk⟩, hp⟩
theorem qs_new {c : Str} {ks : List Str} (hK : X.K = g.K) (c1 : Cls X.K (g.ca c)) (na : NoAttr X.K (g.ca c) f) (ho : PD X g o to) (he : PD X g e te) (hn : f ∉ ks := by decide +kernel) (hl : ks.length < 1000 := by decide) (hs : swapsWith e (some (.Attribute o f pos')) pos.line X.env = pure false := by rfl) :
    QS X g (.Assign [.Attribute o f pos'] e pos) (sNew c ks f to te) where
  m := fun A B h dl mu z => he.m dl mu _ _ (fun y m1 z => ho.m _ _ _ _ (fun x m2 z => by
    obtain ⟨n, fs, rfl, h2, h3, h4⟩ := new_at z
    exact at_new h2 h3 (h.nx _ _ h4)) z) z
  ps := PS.of (ps_fld ho.pe he.pe hs) fun E sg H z => by
    obtain ⟨dl, mu, T, A, r, ft, z⟩ := z
    refine ⟨dl, mu, T, r, he.m dl mu _ _ (fun y m1 z vy H1 r1 => ?_) z⟩
    refine ⟨dl, m1, _, r1, ho.m _ _ _ _ (fun x m2 z vx H2 r2 => ?_) z⟩
    obtain ⟨n, fs, rfl, h2, h3, h4⟩ := new_at z
    obtain ⟨al, q, k⟩ := r2.top
    have ky : Rep g.K g.ca al H2 y vy := q.tmp (vy, y) (by simp)
    have q0 : RelA g al dl m2 T sg H2 := q.sub (T' := T) fun p hp => by simp [hp]
    simp only [Rep] at k
    obtain ⟨a, rfl, ha⟩ := k
    obtain ⟨a', ha', cc⟩ := q0.at h2
    rw [ha] at ha'; cases ha'
    obtain ⟨dx, vs, f1, f2⟩ := cc
    refine ⟨a, g.ca c, dx, vs, rfl, f1, c1, na, ?_, ft.nx _ _ _ _ ⟨al, q0.put (o := .ins (g.ca c) dx (putF f vy vs)) (d := .obj c (fs ++ [(f, y)])) ha ⟨dx, _, upd_same, ?_⟩⟩ h4⟩
    · rw [repF_len f2]
      have := congrArg List.length h3
      simp only [List.length_map] at this
      omega
    · have gp := grow_put (al := al) (H := H2) (o := .ins (g.ca c) dx (putF f vy vs)) (q0.st.sub a (List.mem_of_getElem? ha))
      exact repF_put (RepF.grow gp _ _ f2) (by rw [h3]; exact hn) (Rep.grow gp _ _ ky)
end

/-! ### methods -/
/-- a method of the class c -/
structure Fm (P : Program) (w : World) (K : PySem.W.Frag) (mg : Str → Option Value) (base : Heap) (CX : CXT) (ca : Str → Addr) (k : Nat) (c m : Str) (ps : List Str) (S : SpD) (st : Stmt) : Prop where
  cl : Cls K (ca c)
  ex : ∃ (f : Addr) (fd : FuncData), Meth K (ca c) m f ∧ Binds K fd ps [] ∧ FnG P w K mg base CX k f fd ps (spOf K ca S) ∧ ∃ y, Fun K m y st f fd
/-- how an instance of the class c is made -/
structure Fc (P : Program) (w : World) (K : PySem.W.Frag) (mg : Str → Option Value) (base : Heap) (CX : CXT) (ca : Str → Addr) (k : Nat) (c : Str) (ps : List Str) (S : SpD) (st : Stmt) : Prop where
  gl : mg c = some (.ref (ca c))
  ex : ∃ (f : Addr) (fd : FuncData), L2.Mk K (ca c) f ∧ Binds K fd ps [] ∧ FnG P w K mg base CX k f fd ps (spOf K ca S) ∧ ∃ y, Fun K "__init__" y st f fd
section
variable {X : Cx} {g : Gm} {CX : CXT} {k : Nat} {o e : Expr} {es : List Expr} {to : TEd} {t : TAd} {c m : Str} {ps ks : List Str} {S : SpD} {Ed : EdT} {p apos pos : Pos} {sst : Stmt}
def dMeth (c : Str) (ks : List Str) (S : SpD) (Ed : EdT) (to : TEd) (t : TAd) : TEd := fun dl mu Q => to dl mu fun d m1 => match objOf m1 d with
  | some (c', fs) => (c' = c ∧ fs.map (·.1) = ks) ∧ t dl m1 fun ds m2 => S (d :: ds) m2 Q (Ed dl)
  | none => False
theorem meth_m (gs : GoodSp S) (ho : MonoE to) (ht : MonoE t) : MonoE (dMeth c ks S Ed to t) := fun dl mu Q Q' w z => ho dl mu _ _ (fun d m1 z => by
  cases eo : objOf m1 d with
  | none => rw [eo] at z; exact z.elim
  | some pp => rw [eo] at z; exact ⟨z.1, ht _ _ _ _ (fun ds m2 z => gs.q _ _ _ _ _ w z) z.2⟩) z
theorem pd_meth {pl : Sem Bool} (F : Fm X.prog X.w X.K X.mg X.base CX g.ca k c m ps S sst) (gs : GoodSp S) (hK : X.K = g.K) (hr : Room k X.A) (hgd : X.A.guards = some []) (hx : Px CX X g Ed) (ho : PD X g o to) (ha : QA X g (e :: es) t) (hn : m ∉ ks := by decide +kernel)
    (he : starEach (e :: es) X.env = (false, eval e X.env) :: starEach es X.env := by rfl) (hpl : (backTo pos (starEach es X.env)).any (·.1) = false := by rfl)
    (hev : eval (.Call (.Attribute o m apos) (e :: es) [] pos) X.env = (do
      let recv ← eval o X.env
      standAt apos.atName
      let (fn, head) ← holding [recv] (getMethod recv m pl)
      callWith pos fn head (backTo pos (starEach (e :: es) X.env)) (backToKw pos (keywordEach [] X.env))) := by rfl) :
    PD X g (.Call (.Attribute o m apos) (e :: es) [] pos) (dMeth c ks S Ed to t) where
  m := meth_m gs ho.m ha.m
  pe := ⟨fun pins s sg H Q I z => by
    obtain ⟨f, fd, hm, hb, G, _⟩ := F.ex
    obtain ⟨dl, mu, T, r, z⟩ := z
    have h1 : upE g to sg H fun x H1 => ∃ a dx fs, x = .ref a ∧ H1 a = some (.ins (g.ca c) dx fs) ∧ fs.lookup m = none ∧ upA g (fun dl' mu' Q' => t dl' mu' Q') sg H1 fun vs H2 => spOf g.K g.ca S (x :: vs) H2 Q (fun cls x H => upX g Ed cls x sg H) := by
      refine ⟨dl, mu, T, r, ho.m dl mu _ _ (fun d m1 z v H1 r1 => ?_) z⟩
      cases eo : objOf m1 d with
      | none => rw [eo] at z; exact z.elim
      | some pp =>
        obtain ⟨c', fs⟩ := pp
        rw [eo] at z
        obtain ⟨⟨ec, hks⟩, zz⟩ := z
        rw [ec] at eo
        obtain ⟨al, q, kk⟩ := r1.top
        obtain ⟨a, dx, vs, rfl, e2, e3⟩ := q.obj kk eo
        refine ⟨a, dx, vs, rfl, e2, repF_none e3 (by rw [hks]; exact hn), dl, m1, _, r1, ha.m _ _ _ _ (fun ds m2 z ws H2 hl r2 => ?_) zz⟩
        refine call_in (Ed := Ed) (dl := dl) (T := T) (ds := d :: ds) (vs := .ref a :: ws) (by simp only [List.length_cons, hl]) ?_ z gs.q gs.e
        exact r2.sub fun pq hp => by
          simp only [List.zip_cons_cons, List.cons_append, List.mem_cons, List.mem_append] at hp ⊢
          rcases hp with hp | hp | hp
          · exact .inr (.inl hp)
          · exact .inl hp
          · exact .inr (.inr hp)
    refine PySem.W.methodCall_KW (pl := pl) (thn (ho.pe.run pins s sg H _ I h1) fun u s1 hh => ?_) hev
    obtain ⟨x, H1, I1, rx, a, dx, fs, ex, ea, l, q⟩ := hh
    subst ex
    obtain rfl : u = Value.ref a := rx
    have ea' : H1 a = some (.ins (g.ca c) dx fs) := ea
    refine getmeth_ok I1 ea' F.cl hm l ?_
    refine PySem.W.callWith_K (first := [.ref a]) (h₀ := X.base) I.ok.mod.kin hm.kp ?_ he hpl
    refine thn (ha.pa.run pos pins s1 sg H1 _ I1 q) fun us s2 hh => ?_
    obtain ⟨vs, H2, I2, rv, q2⟩ := hh
    rw [hK] at G
    exact ⟨I2.kIn, run_fnG (us := .ref a :: us) (vs := .ref a :: vs) (by rw [hK]; exact G) hr hgd hb (hx.at_ sg) I2 (.cons rfl rv) q2⟩⟩
end
end VL

/-! VsObjB: making an instance; the rules for methods. -/
namespace VL
open PySem PySem.Spec PyProof.Rows L2
section
variable {K : PySem.W.Frag} {ca : Str → Addr} {al al' : Ad} {H : Hp}
theorem XF.less (ls : Less al' al) {d : Option Addr} {vs : List (Str × V)} (h : XF al H d vs) : XF al' H d vs := by
  cases d with
  | none => exact h
  | some a => exact ⟨h.1, fun w => h.2 (ls.ex a w)⟩
mutual
theorem Rep.less (ls : Less al' al) : ∀ (d : D) (v : V), lowD al'.pl.length d = true → Rep K ca al H d v → Rep K ca al' H d v
  | .non, _, _, h => by simpa only [Rep] using h
  | .bl _, _, _, h => by simpa only [Rep] using h
  | .int _, _, _, h => by simpa only [Rep] using h
  | .str _, _, _, h => by simpa only [Rep] using h
  | .cls _, _, _, h => by simpa only [Rep] using h
  | .ty _, _, _, h => by simpa only [Rep] using h
  | .exc c fs, v, l, h => by
    simp only [Rep] at h ⊢
    simp only [lowD] at l
    obtain ⟨a, oe, fv, vs, e, n1, n2, k1, k2, k3, r⟩ := h
    exact ⟨a, oe, fv, vs, e, n1, fun w => n2 (ls.ex a w), k1, k2, XF.less ls k3, RepF.less ls fs vs l r⟩
  | .tab _, _, _, h => by simpa only [Rep] using h
  | .fnv _, _, _, h => by simpa only [Rep] using h
  | .scr ns, v, _, h => by
    simp only [Rep] at h ⊢
    obtain ⟨a, e, q⟩ := h
    exact ⟨a, e, q.imp (fun z => ⟨z.1, fun w => z.2 (ls.ex a w)⟩) id⟩
  | .tup ds, v, l, h => by
    simp only [Rep] at h ⊢
    simp only [lowD] at l
    obtain ⟨a, vs, e, q, r⟩ := h
    exact ⟨a, vs, e, q.imp (fun z => ⟨z.1, fun w => z.2 (ls.ex a w)⟩) id, Reps.less ls ds vs l r⟩
  | .lst ds, v, l, h => by
    simp only [Rep] at h ⊢
    simp only [lowD] at l
    obtain ⟨a, vs, e, q, m, r⟩ := h
    exact ⟨a, vs, e, q, fun w => m (ls.ex a w), Reps.less ls ds vs l r⟩
  | .ptup ds, v, l, h => by
    simp only [Rep] at h ⊢
    simp only [lowD] at l
    obtain ⟨a, o, vs, e, q, q0, m, r⟩ := h
    exact ⟨a, o, vs, e, q, q0, fun w => m (ls.ex a w), Reps.less ls ds vs l r⟩
  | .dct ds, v, l, h => by
    simp only [Rep] at h ⊢
    simp only [lowD] at l
    obtain ⟨a, vs, e, q, m, r⟩ := h
    exact ⟨a, vs, e, q, fun w => m (ls.ex a w), RepK.less ls ds vs l r⟩
  | .obj c ds, v, l, h => by
    simp only [Rep] at h ⊢
    simp only [lowD] at l
    obtain ⟨a, dx, vs, e, q, m, r⟩ := h
    exact ⟨a, dx, vs, e, q, fun w => m (ls.ex a w), RepF.less ls ds vs l r⟩
  | .loc m, v, l, h => by
    simp only [Rep] at h ⊢
    simp only [lowD, decide_eq_true_eq] at l
    obtain ⟨a, e, q⟩ := h
    obtain ⟨t, ht⟩ := ls.pl
    refine ⟨a, e, ?_⟩
    rw [← ht, List.getElem?_append_left l] at q
    exact q
theorem Reps.less (ls : Less al' al) : ∀ (ds : List D) (vs : List V), lowL al'.pl.length ds = true → Reps K ca al H ds vs → Reps K ca al' H ds vs
  | [], _, _, h => by simpa only [Reps] using h
  | d :: ds, vs, l, h => by
    simp only [Reps] at h ⊢
    simp only [lowL, Bool.and_eq_true] at l
    obtain ⟨v, r, e, h1, h2⟩ := h
    exact ⟨v, r, e, Rep.less ls d v l.1 h1, Reps.less ls ds r l.2 h2⟩
theorem RepK.less (ls : Less al' al) : ∀ (ds : List (Key × D)) (vs : List (Key × V)), lowK al'.pl.length ds = true → RepK K ca al H ds vs → RepK K ca al' H ds vs
  | [], _, _, h => by simpa only [RepK] using h
  | (k, d) :: ds, vs, l, h => by
    simp only [RepK] at h ⊢
    simp only [lowK, Bool.and_eq_true] at l
    obtain ⟨v, r, e, h1, h2⟩ := h
    exact ⟨v, r, e, Rep.less ls d v l.1 h1, RepK.less ls ds r l.2 h2⟩
theorem RepF.less (ls : Less al' al) : ∀ (ds : List (Str × D)) (vs : List (Str × V)), lowF al'.pl.length ds = true → RepF K ca al H ds vs → RepF K ca al' H ds vs
  | [], _, _, h => by simpa only [RepF] using h
  | (k, d) :: ds, vs, l, h => by
    simp only [RepF] at h ⊢
    simp only [lowF, Bool.and_eq_true] at l
    obtain ⟨v, r, e, h1, h2⟩ := h
    exact ⟨v, r, e, Rep.less ls d v l.1 h1, RepF.less ls ds r l.2 h2⟩
end
end
mutual
theorem lowD_le {n m : Nat} (h : n ≤ m) : ∀ (d : D), lowD n d = true → lowD m d = true
  | .non, _ => by simp only [lowD]
  | .bl _, _ => by simp only [lowD]
  | .int _, _ => by simp only [lowD]
  | .str _, _ => by simp only [lowD]
  | .cls _, _ => by simp only [lowD]
  | .ty _, _ => by simp only [lowD]
  | .tab _, _ => by simp only [lowD]
  | .fnv _, _ => by simp only [lowD]
  | .exc _ fs, l => by simp only [lowD] at l ⊢; exact lowF_le h fs l
  | .scr _, _ => by simp only [lowD]
  | .tup ds, l => by simp only [lowD] at l ⊢; exact lowL_le h ds l
  | .lst ds, l => by simp only [lowD] at l ⊢; exact lowL_le h ds l
  | .ptup ds, l => by simp only [lowD] at l ⊢; exact lowL_le h ds l
  | .dct ds, l => by simp only [lowD] at l ⊢; exact lowK_le h ds l
  | .obj c ds, l => by simp only [lowD] at l ⊢; exact lowF_le h ds l
  | .loc k, l => by simp only [lowD, decide_eq_true_eq] at l ⊢; omega
theorem lowL_le {n m : Nat} (h : n ≤ m) : ∀ (ds : List D), lowL n ds = true → lowL m ds = true
  | [], _ => by simp only [lowL]
  | d :: ds, l => by
    simp only [lowL, Bool.and_eq_true] at l ⊢
    exact ⟨lowD_le h d l.1, lowL_le h ds l.2⟩
theorem lowK_le {n m : Nat} (h : n ≤ m) : ∀ (ds : List (Key × D)), lowK n ds = true → lowK m ds = true
  | [], _ => by simp only [lowK]
  | (k, d) :: ds, l => by
    simp only [lowK, Bool.and_eq_true] at l ⊢
    exact ⟨lowD_le h d l.1, lowK_le h ds l.2⟩
theorem lowF_le {n m : Nat} (h : n ≤ m) : ∀ (ds : List (Str × D)), lowF n ds = true → lowF m ds = true
  | [], _ => by simp only [lowF]
  | (k, d) :: ds, l => by
    simp only [lowF, Bool.and_eq_true] at l ⊢
    exact ⟨lowD_le h d l.1, lowF_le h ds l.2⟩
end
section
variable {g : Gm} {al al' : Ad} {dl : Lo} {mu mu' : Mu} {T : List (V × D)} {sg : St} {H : Hp}
theorem RelA.less {n : Nat} (q : RelA g al dl mu T sg H) (ls : Less al' al) (st : Store g.K g.ca al' mu' H) (hn : n ≤ mu'.length) (hg : g.al0.pl.length ≤ n) (hl : ∀ (i : Nat) (d : D), dl[i]? = some (some d) → lowD n d = true) (hT : ∀ p ∈ T, lowD n p.2 = true) : RelA g al' dl mu' T sg H := by
  have hn' : n ≤ al'.pl.length := by rw [st.len]; exact hn
  have hp : g.al0.pl <+: al'.pl := List.prefix_of_prefix_length_le q.pre ls.pl (by omega)
  refine ⟨st, hp, fun a h => ?_, q.sub0, q.frm, fun a h n => q.fre a (ls.ex a h) n, fun a h n => q.frp a (ls.pl.subset h) n, fun i d e => ?_, fun p hp => Rep.less ls _ _ (lowD_le hn' _ (hT p hp)) (q.tmp p hp), q.len⟩
  · by_cases z : a ∈ al'.ex
    · exact z
    · obtain ⟨z1, z2⟩ := ls.back a (q.exs a h) z
      obtain ⟨o, e⟩ := q.sub0 a h
      have w := q.frp a z1 fun y => z2 (hp.subset y)
      rw [e] at w; cases w
  · obtain ⟨v, e1, e2⟩ := q.loc i d e
    exact ⟨v, e1, Rep.less ls d v (lowD_le hn' d (hl i d e)) e2⟩
theorem RelA.low0 (q : RelA g al dl mu T sg H) : g.al0.pl.length ≤ mu.length ∧ (∀ (i : Nat) (d : D), dl[i]? = some (some d) → lowD mu.length d = true) ∧ ∀ p ∈ T, lowD mu.length p.2 = true := by
  rw [← q.st.len]
  refine ⟨q.pre.length_le, fun i d e => ?_, fun p hp => Rep.lowOf _ _ (q.tmp p hp)⟩
  obtain ⟨v, _, e2⟩ := q.loc i d e
  exact Rep.lowOf d v e2
end
section
variable {X : Cx} {g : Gm} {CX : CXT} {k : Nat} {e : Expr} {es : List Expr} {t : TAd} {c : Str} {ps : List Str} {S : SpD} {Ed : EdT} {p pos : Pos} {sst : Stmt}
/-- c(..): a new place, __init__, then the place may be told as what it holds -/
def dMake (c : Str) (S : SpD) (Ed : EdT) (t : TAd) : TEd := fun dl mu Q => t dl mu fun ds m => S (.loc m.length :: ds) (m ++ [.obj c []]) (fun d m2 => d = .non ∧ ∃ d' m', Frz m2 (.loc m.length) m' d' ∧ m.length ≤ m'.length ∧ Q d' m') (Ed dl)
theorem make_m (gs : GoodSp S) (ht : MonoE t) : MonoE (dMake c S Ed t) := fun dl mu Q Q' w z => ht dl mu _ _ (fun ds m z => gs.q _ _ _ _ _ (fun d m2 z => by
  obtain ⟨h1, d', m', h2, h3, h4⟩ := z
  exact ⟨h1, d', m', h2, h3, w _ _ h4⟩) z) z
theorem run_makeG {pins : List (Addr × Obj)} {sg : St} {H : Hp} {s : Shared} {Q : VK} {us : List Value} {vs : List V} {C f : Addr} {fd : FuncData} {sp : Sp} {E : XK} (M : L2.Mk X.K C f) (F : FnG X.prog X.w X.K X.mg X.base CX k f fd ps sp) (hr : Room (k + 1) X.A) (hgd : X.A.guards = some [])
    (hb : Binds X.K fd ps []) (hx : PassesAt CX X sg E) (I : Inv X pins sg H s) (rv : Vals vs us)
    (prom : ∀ x dx, H x = none → H dx = none → dx ≠ x → sp (.ref x :: vs) (upd (upd H dx (.own x)) x (.ins C dx [])) (fun v H2 => v = .non ∧ Q (.ref x) H2) E) :
    wpAny (model X.prog X.w) X.A (call (.ref C) us) (EP X pins sg Q) X.xe s := by
  have hp := prom (s.heap.objs.size + 1) s.heap.objs.size (I.hok.fresh (Nat.le_succ _)) (I.hok.fresh (Nat.le_refl _)) (Nat.ne_of_lt (Nat.lt_succ_self _))
  have J := Inv.made (C := C) I
  have rw2 : Vals (V.ref (s.heap.objs.size + 1) :: vs) (Value.ref (s.heap.objs.size + 1) :: us) := .cons rfl rv
  have ln : (Value.ref (s.heap.objs.size + 1) :: us).length = ps.length := rw2.length.symm.trans (F.len _ _ _ _ hp)
  have bind := hb _ (Value.ref (s.heap.objs.size + 1) :: us) J.kIn (by simpa using ln)
  rw [List.append_nil] at bind
  refine wpAny_call (make_map (f := f) I.kIn M.makes M.init (beq_iff_eq.mp M.fn) (codeAny_mono (F.run _ X.stack _ _ ⟨Value.ref (s.heap.objs.size + 1) :: us, []⟩ _ _ _ E (hr.make C us []) ?_ (J.env0.make C us []) bind rw2 hp) fun res s2 hq => ?_))
  · first | exact hgd | (simpa [Around.under] using hgd)
  · match res, hq with
    | .error er, hq => exact hx pins _ _ er s2 J hq
    | .ok (.ret u), hq =>
      obtain ⟨v, H3, J3, rv3, ev, q3⟩ := J.after hq
      subst ev
      exact ⟨rv3, ⟨V.ref (s.heap.objs.size + 1), H3, J3, rfl, q3⟩⟩
    | .ok .next, hq => exact hq.elim
    | .ok .brk, hq => exact hq.elim
    | .ok .cont, hq => exact hq.elim
theorem make_in {dl : Lo} {m : Mu} {T : List (V × D)} {sg : St} {H : Hp} {vs : List V} {ds : List D} {Q : VK} {x dx : Addr} (gs : GoodSp S) (hl : vs.length = ds.length) (r : Rel g dl m (vs.zip ds ++ T) sg H) (nx : H x = none) (nd : H dx = none) (ne : dx ≠ x)
    (z : S (.loc m.length :: ds) (m ++ [.obj c []]) (fun d m2 => d = .non ∧ ∃ d' m', Frz m2 (.loc m.length) m' d' ∧ m.length ≤ m'.length ∧ ∀ v H', Rel g dl m' ((v, d') :: T) sg H' → Q v H') (Ed dl)) :
    spOf g.K g.ca S (.ref x :: vs) (upd (upd H dx (.own x)) x (.ins (g.ca c) dx [])) (fun v H2 => v = .non ∧ Q (.ref x) H2) (fun cls y H => upX g Ed cls y sg H) := by
  obtain ⟨al, q⟩ := r
  obtain ⟨lg, ll, lT⟩ := q.low0
  have q1 := q.new (p := dx) (o := .own x) nd
  have nx1 : upd H dx (.own x) x = none := by rw [upd_ne (Ne.symm ne)]; exact nx
  have q2 := q1.newLoc (p := x) (o := .ins (g.ca c) dx []) (d := .obj c []) nx1 ⟨dx, [], upd_same, by simp only [RepF]⟩
  refine call_in (Ed := Ed) (dl := dl) (T := (.ref x, .loc m.length) :: T) (ds := .loc m.length :: ds) (vs := .ref x :: vs) (by simp only [List.length_cons, hl]) ⟨_, q2.sub fun pq hp => ?_⟩ (gs.q _ _ _ _ _ (fun d m2 w v H' r' => ?_) z) gs.q gs.e
  · simp only [List.zip_cons_cons, List.cons_append, List.mem_cons, List.mem_append] at hp ⊢
    rcases hp with hp | hp | hp | hp
    · exact .inl hp
    · exact .inr (.inl hp)
    · exact .inl hp
    · exact .inr (.inr hp)
  · obtain ⟨rfl, d', m', fz, hm, w⟩ := w
    obtain ⟨al2, q3⟩ := r'
    have hv := rep_non (q3.tmp (v, .non) (by simp))
    obtain ⟨al3, ls, st3, r3⟩ := fz g.K g.ca al2 H' (.ref x) q3.st (q3.tmp (.ref x, .loc m.length) (by simp))
    have q4 : RelA g al2 dl m2 T sg H' := q3.sub (T' := T) fun p hp => by simp [hp]
    exact ⟨hv, w _ _ ⟨al3, (q4.less ls st3 hm lg ll fun p hp => lT p (List.mem_append_right _ hp)).push r3⟩⟩
theorem pd_make (F : Fc X.prog X.w X.K X.mg X.base CX g.ca k c ps S sst) (gs : GoodSp S) (hK : X.K = g.K) (hr : Room (k + 1) X.A) (hgd : X.A.guards = some []) (hg : Gl X c) (hx : Px CX X g Ed) (ha : QA X g (e :: es) t)
    (hdb : (c == ("__debug__" : Str)) = false := by decide) (he : starEach (e :: es) X.env = (false, eval e X.env) :: starEach es X.env := by rfl) (hpl : (backTo pos (starEach es X.env)).any (·.1) = false := by rfl) :
    PD X g (.Call (.Name c p) (e :: es) [] pos) (dMake c S Ed t) where
  m := make_m gs ha.m
  pe := ⟨fun pins s sg H Q I z => by
    obtain ⟨f, fd, M, hb, G, _⟩ := F.ex
    obtain ⟨dl, mu, T, r, z⟩ := z
    refine wpAny_Call_Name_kw (ld_glob I hg F.gl ?_ hdb)
    refine PySem.W.callWith_K (h₀ := X.base) I.ok.mod.kin M.kp ?_ he hpl
    refine thn (ha.pa.run pos pins s sg H (fun vs H1 => ∀ x dx, H1 x = none → H1 dx = none → dx ≠ x → spOf g.K g.ca S (.ref x :: vs) (upd (upd H1 dx (.own x)) x (.ins (g.ca c) dx [])) (fun v H2 => v = .non ∧ Q (.ref x) H2) (fun cls y H => upX g Ed cls y sg H)) I
      ⟨dl, mu, T, r, ha.m dl mu _ _ (fun ds m z vs H1 hl r1 x dx nx nd ne => make_in gs hl r1 nx nd ne z) z⟩) fun us s1 hh => ?_
    obtain ⟨vs, H1, I1, rv, q⟩ := hh
    rw [hK] at G
    exact ⟨I1.kIn, run_makeG M (by rw [hK]; exact G) hr hgd hb (hx.at_ sg) I1 rv q⟩⟩
end
section
variable {P : Program} {w : World} {K : PySem.W.Frag} {mg : Str → Option Value} {base : Heap}
/-- any def keeps a promise over data -/
theorem FnG.of {ca : Str → Addr} {x y : Str} {st : Stmt} {f : Addr} {fd : FuncData} {N ps : List Str} {k : Nat} {S : SpD} {t : EdT → TSd} (F : Fun K x y st f fd) (sc : FnScope N ps (defScope st)) (len : ∀ ds mu Q E, S ds mu Q E → ds.length = ps.length)
    (der : ∀ (cdv : Value) (A : Around) (outer : List Env) (s : Shared) (H : Hp) (E : XK) (g : Gm) (Ed : EdT), Room k (A.deeper (envOfC y (defScope st) s.heap.objs.size f cdv)) → A.guards = some [] → g.K = K → g.ca = ca → Px (L2.CX P w) (cxOf (L2.CX P w) P w K mg base N y (defScope st) f cdv A outer s H E) g Ed →
      QSs (cxOf (L2.CX P w) P w K mg base N y (defScope st) f cdv A outer s H E) g (defBody st) (t Ed))
    (red : ∀ ds mu Q E, lowL mu.length mu = true → lowL mu.length ds = true → S ds mu Q E → t (fun _ c fs m => E c fs m) (endD mu.length Q) (startD N ds) mu) :
    FnG P w K mg base (L2.CX P w) (k + 1) f fd ps (spOf K ca S) := by
  obtain ⟨oc, od, kV, doc, pm, an, cdv, ct, osl, rfl, lk, hcd⟩ := F.ex
  refine fnG_of lk hcd sc (fun vs H Q E h => ?_) fun A outer s H vs Q E hr gd h => ?_
  · obtain ⟨al, ds, mu, _, k, h⟩ := h
    rw [reps_len k]; exact len _ _ _ _ h
  · obtain ⟨g, Ed, e1, e2, hE, q⟩ := body_in (N := N) (t := t) h red
    exact ⟨_, (der cdv A outer s H E g Ed hr gd e1 e2 (px_fn hE)).ps, q⟩
end
end VL

/-! VsDct: dicts. -/
namespace VL
open PySem PySem.Spec PyProof.Rows L2
def dctOf (mu : Mu) : D → Option (List (Key × D))
  | .dct kvs => some kvs
  | .loc n => match mu[n]? with
    | some (.dct kvs) => some kvs
    | _ => none
  | _ => none
def keyD : D → Option Key
  | .int i => some (.inl i)
  | .str x => some (.inr x)
  | _ => none
def valD : List (Key × D) → Key → Option D
  | [], _ => none
  | (j, d) :: r, k => if j = k then some d else valD r k
section
variable {K : PySem.W.Frag} {ca : Str → Addr} {al : Ad} {H : Hp}
theorem key_rep {d : D} {k : Key} {v : V} (e : keyD d = some k) (r : Rep K ca al H d v) : v = kV k := by
  cases d with
  | int i => cases e; exact rep_int r
  | str x => cases e; exact rep_str r
  | _ => cases e
theorem repK_some : ∀ {ds : List (Key × D)} {vs : List (Key × V)} {k : Key} {d : D}, RepK K ca al H ds vs → valD ds k = some d → ∃ v, valV vs k = some v ∧ Rep K ca al H d v
  | [], vs, k, d, h, e => by cases e
  | (j, x) :: ds, vs, k, d, h, e => by
    simp only [RepK] at h
    obtain ⟨v, r, rfl, h1, h2⟩ := h
    unfold valD at e
    by_cases c : j = k
    · rw [if_pos c] at e
      cases e
      exact ⟨v, valV_pos c, h1⟩
    · rw [if_neg c] at e
      obtain ⟨w, e1, e2⟩ := repK_some h2 e
      exact ⟨w, by rw [valV_neg c]; exact e1, e2⟩
theorem repK_non : ∀ {ds : List (Key × D)} {vs : List (Key × V)} {k : Key}, RepK K ca al H ds vs → valD ds k = none → valV vs k = none
  | [], vs, k, h, e => by
    have z : vs = [] := by simpa only [RepK] using h
    rw [z]; exact valV_nil
  | (j, x) :: ds, vs, k, h, e => by
    simp only [RepK] at h
    obtain ⟨v, r, rfl, h1, h2⟩ := h
    unfold valD at e
    by_cases c : j = k
    · rw [if_pos c] at e; cases e
    · rw [if_neg c] at e
      rw [valV_neg c]; exact repK_non h2 e
/-- d[k] = v -/
def hasKD (kvs : List (Key × D)) (k : Key) : Bool := kvs.any fun kv => decide (kv.1 = k)
def putKD (kvs : List (Key × D)) (k : Key) (d : D) : List (Key × D) := bif hasKD kvs k then kvs.map (fun kv => if kv.1 = k then (kv.1, d) else kv) else kvs ++ [(k, d)]
def mergeD (kvs more : List (Key × D)) : List (Key × D) := more.foldl (fun acc kv => putKD acc kv.1 kv.2) kvs
end
theorem RelA.dct {g : Gm} {al : Ad} {dl : Lo} {mu : Mu} {T : List (V × D)} {sg : St} {H : Hp} (q : RelA g al dl mu T sg H) {d : D} {v : V} {kvs : List (Key × D)} (r : Rep g.K g.ca al H d v) (e : dctOf mu d = some kvs) :
    ∃ a vs, v = .ref a ∧ Rd H a (.dK vs) ∧ RepK g.K g.ca al H kvs vs := by
  cases d with
  | dct ks =>
    cases e
    simp only [Rep] at r
    obtain ⟨a, vs, e1, e2, _, e3⟩ := r
    exact ⟨a, vs, e1, e2, e3⟩
  | loc n =>
    simp only [Rep] at r
    obtain ⟨a, e1, e2⟩ := r
    simp only [dctOf] at e
    cases em : mu[n]? with
    | none => rw [em] at e; cases e
    | some c' =>
      rw [em] at e
      obtain ⟨a', e3, cc⟩ := q.at em
      rw [e2] at e3; cases e3
      cases c' with
      | dct ks =>
        cases e
        obtain ⟨vs, f1, f2⟩ := cc
        exact ⟨a, vs, e1, .inl f1, f2⟩
      | _ => cases e
  | _ => cases e
section
variable {X : Cx} {g : Gm} {a b e : Expr} {ta tb : TEd} {pos p : Pos} {t : TAd} {k : Nat}
/-- a[b] of a dict -/
def getO (mu : Mu) (x y : D) : Option (Prop × D) := match dctOf mu x with
  | some kvs => match keyD y with
    | some k => match valD kvs k with
      | some d => some (True, d)
      | none => none
    | none => none
  | none => none
def fGet : F2 := fOf getO
theorem pd_get (hr : Room k X.A) (ha : PD X g a ta) (hb : PD X g b tb) (hs : NoSl b) : PD X g (.Subscript a b pos) (dBin fGet ta tb) where
  m := bin_m fOf_m ha.m hb.m
  pe := PE.of (pe_dget (by have := hr.units; omega) ha.pe hb.pe hs) fun sg H Q z => by
    obtain ⟨dl, mu, T, r, z⟩ := z
    refine ⟨dl, mu, T, r, ha.m dl mu _ _ (fun x m1 z v H1 r1 => ⟨dl, m1, _, r1, hb.m _ _ _ _ (fun y m2 z w H2 r2 => ?_) z⟩) z⟩
    obtain ⟨al, q, rx, ry⟩ := two r2
    unfold fGet fOf at z
    cases e0 : getO m2 x y with
    | none => rw [e0] at z; exact z.elim
    | some pp =>
      rw [e0] at z
      unfold getO at e0
      split at e0
      · rename_i kvs e1
        split at e0
        · rename_i kk e2
          split at e0
          · rename_i d e3
            cases e0
            obtain ⟨l, vs, rfl, f1, f2⟩ := q.dct rx e1
            obtain ⟨u, h1, h2⟩ := repK_some f2 e3
            exact ⟨l, u, rfl, .inl ⟨vs, kk, f1, key_rep e2 ry, h1.symm⟩, z.2 u H2 ⟨al, q.push h2⟩⟩
          · cases e0
        · cases e0
      · cases e0
/-- a in b, b a dict -/
def inKO (mu : Mu) (x y : D) : Option (Prop × D) := match dctOf mu y with
  | some kvs => match keyD x with
    | some k => some (True, .bl (valD kvs k).isSome)
    | none => none
  | none => none
def fInK : F2 := fOf inKO
theorem ink_up (ha : MonoE ta) (hb : MonoE tb) {sg : St} {H : Hp} {Q : VK} (z : upE g (dBin fInK ta tb) sg H Q) : tDIn (upE g ta) (upE g tb) sg H Q := by
  obtain ⟨dl, mu, T, r, z⟩ := z
  refine ⟨dl, mu, T, r, ha dl mu _ _ (fun x m1 z v H1 r1 => ⟨dl, m1, _, r1, hb _ _ _ _ (fun y m2 z w H2 r2 => ?_) z⟩) z⟩
  obtain ⟨al, q, rx, ry⟩ := two r2
  unfold fInK fOf at z
  cases e0 : inKO m2 x y with
  | none => rw [e0] at z; exact z.elim
  | some pp =>
    rw [e0] at z
    unfold inKO at e0
    split at e0
    · rename_i kvs e1
      split at e0
      · rename_i kk e2
        cases e0
        obtain ⟨l, vs, rfl, f1, f2⟩ := q.dct ry e1
        refine ⟨l, valV vs kk, rfl, .inl ⟨vs, kk, f1, key_rep e2 rx, rfl⟩, z.2 _ _ ⟨al, q.push ?_⟩⟩
        simp only [Rep]
        cases e3 : valD kvs kk with
        | none => rw [repK_non f2 e3]; rfl
        | some d =>
          obtain ⟨u, h1, _⟩ := repK_some f2 e3
          rw [h1]; rfl
      · cases e0
    · cases e0
theorem pd_ink (hr : Room k X.A) (ha : PD X g a ta) (hb : PD X g b tb) (h1 : behindInMarks .In b = false := by rfl) : PD X g (.Compare a [.In] [b] pos) (dBin fInK ta tb) where
  m := bin_m fOf_m ha.m hb.m
  pe := PE.of (pe_cmp (pc_din (by have := hr.units; omega) ha.pe hb.pe) h1) fun sg H Q z => ink_up ha.m hb.m z

/-! ### dict(a tuple of pairs) -/
def pairsD : List D → Option (List (Key × D))
  | [] => some []
  | .tup [x, y] :: r => match keyD x, pairsD r with
    | some k, some ps => some ((k, y) :: ps)
    | _, _ => none
  | _ => none
theorem repK_cons {K : PySem.W.Frag} {ca : Str → Addr} {al : Ad} {H : Hp} {k : Key} {d : D} {v : V} {ds : List (Key × D)} {vs : List (Key × V)} (h : Rep K ca al H d v) (h2 : RepK K ca al H ds vs) : RepK K ca al H ((k, d) :: ds) ((k, v) :: vs) := by
  simp only [RepK]
  exact ⟨v, vs, rfl, h, h2⟩
theorem pairs_rep {K : PySem.W.Frag} {ca : Str → Addr} {al : Ad} {H : Hp} : ∀ {ds : List D} {vs : List V} {kds : List (Key × D)}, Reps K ca al H ds vs → pairsD ds = some kds → ∃ (ps : List Addr) (kvs : List (Key × V)), vs = ps.map V.ref ∧ Paired (fun p kv => SqT K H p [kV kv.1, kv.2]) ps kvs ∧ RepK K ca al H kds kvs
  | [], vs, kds, h, e => by
    have z : vs = [] := by simpa only [Reps] using h
    cases e
    exact ⟨[], [], z, .nil, by simp only [RepK]⟩
  | d :: ds, vs, kds, h, e => by
    simp only [Reps] at h
    obtain ⟨v, r, rfl, h1, h2⟩ := h
    unfold pairsD at e
    split at e
    · rename_i heq; cases heq
    · rename_i x y r' heq
      cases heq
      split at e
      · rename_i kk ps' ek ep
        cases e
        obtain ⟨ps, kvs, rfl, h3, h4⟩ := pairs_rep h2 ep
        obtain ⟨l, ws, rfl, f1, f2⟩ := rep_tup h1
        obtain ⟨u, u', rfl, g1, g2⟩ := two_of f2
        rw [key_rep ek g1] at f1
        exact ⟨l :: ps, (kk, u') :: kvs, rfl, .cons f1 h3, repK_cons g2 h4⟩
      · cases e
    · cases e
theorem repK_any {K : PySem.W.Frag} {ca : Str → Addr} {al : Ad} {H : Hp} (k : Key) : ∀ {ds : List (Key × D)} {vs : List (Key × V)}, RepK K ca al H ds vs → (vs.any fun kv => decide (kv.1 = k)) = hasKD ds k
  | [], vs, h => by
    have z : vs = [] := by simpa only [RepK] using h
    rw [z]; rfl
  | (j, x) :: ds, vs, h => by
    simp only [RepK] at h
    obtain ⟨v, r, rfl, h1, h2⟩ := h
    have ih := repK_any k h2
    unfold hasKD at ih ⊢
    rw [List.any_cons, List.any_cons, ih]
theorem repK_map {K : PySem.W.Frag} {ca : Str → Addr} {al : Ad} {H : Hp} {k : Key} {d : D} {v : V} (hd : Rep K ca al H d v) : ∀ {ds : List (Key × D)} {vs : List (Key × V)}, RepK K ca al H ds vs → RepK K ca al H (ds.map (fun kv => if kv.1 = k then (kv.1, d) else kv)) (vs.map fun kv => if kv.1 = k then (kv.1, v) else kv)
  | [], vs, h => by
    have z : vs = [] := by simpa only [RepK] using h
    rw [z]; simp only [List.map_nil, RepK]
  | (j, x) :: ds, vs, h => by
    simp only [RepK] at h
    obtain ⟨w, r, rfl, h1, h2⟩ := h
    rw [List.map_cons, List.map_cons]
    by_cases c : j = k
    · simp only [if_pos c]
      exact repK_cons hd (repK_map hd h2)
    · simp only [if_neg c]
      exact repK_cons h1 (repK_map hd h2)
theorem repK_app {K : PySem.W.Frag} {ca : Str → Addr} {al : Ad} {H : Hp} {k : Key} {d : D} {v : V} (hd : Rep K ca al H d v) : ∀ {ds : List (Key × D)} {vs : List (Key × V)}, RepK K ca al H ds vs → RepK K ca al H (ds ++ [(k, d)]) (vs ++ [(k, v)])
  | [], vs, h => by
    have z : vs = [] := by simpa only [RepK] using h
    rw [z]
    exact repK_cons hd (by simp only [RepK])
  | (j, x) :: ds, vs, h => by
    simp only [RepK] at h
    obtain ⟨w, r, rfl, h1, h2⟩ := h
    exact repK_cons h1 (repK_app hd h2)
theorem repK_put {K : PySem.W.Frag} {ca : Str → Addr} {al : Ad} {H : Hp} {k : Key} {d : D} {v : V} {ds : List (Key × D)} {vs : List (Key × V)} (h : RepK K ca al H ds vs) (hd : Rep K ca al H d v) : RepK K ca al H (putKD ds k d) (putK vs k v) := by
  unfold putKD putK
  rw [repK_any k h]
  cases e : hasKD ds k with
  | true => rw [if_pos rfl]; exact repK_map hd h
  | false => rw [if_neg Bool.false_ne_true]; exact repK_app hd h
theorem repK_merge {K : PySem.W.Frag} {ca : Str → Addr} {al : Ad} {H : Hp} : ∀ {more : List (Key × D)} {mvs : List (Key × V)} {ds : List (Key × D)} {vs : List (Key × V)}, RepK K ca al H more mvs → RepK K ca al H ds vs → RepK K ca al H (mergeD ds more) (mergeK vs mvs)
  | [], mvs, ds, vs, h, k => by
    have z : mvs = [] := by simpa only [RepK] using h
    rw [z]; exact k
  | (j, x) :: more, mvs, ds, vs, h, k => by
    simp only [RepK] at h
    obtain ⟨w, r, rfl, h1, h2⟩ := h
    exact repK_merge (ds := putKD ds j x) (vs := putK vs j w) h2 (repK_put k h1)
theorem pairsV {pins : List (Addr × Obj)} {sg : St} {H : Hp} {s : Shared} (I : Inv X pins sg H s) : ∀ {ps : List Addr} {kvs : List (Key × V)}, Paired (fun p kv => SqT X.K H p [kV kv.1, kv.2]) ps kvs →
    ∃ (prs : List (Key × Value)) (vps : List (Value × Value)), KV kvs prs ∧ prs.length = ps.length ∧ vps.length = ps.length ∧ ∀ (j : Nat) (x y : Value), vps[j]? = some (x, y) → ∃ (c : Addr) (key : Key), ps[j]? = some c ∧ s.heap.IsTuple c #[x, y] ∧ prs[j]? = some (key, y) ∧ (mixKind X.prog X.w).is key x = true
  | _, _, .nil => ⟨[], [], .nil, rfl, rfl, fun j x y e => by simp at e⟩
  | _, _, .cons (a := c) (b := kv) h rest => by
    obtain ⟨prs, vps, r, l1, l2, hp⟩ := pairsV I rest
    obtain ⟨its, rv, ht, _⟩ := I.tuple h
    obtain ⟨x, y, ei, rx, ry⟩ := vals2 rv
    subst ei
    refine ⟨(kv.1, y) :: prs, (x, y) :: vps, .cons ⟨rfl, ry⟩ r, by rw [List.length_cons, List.length_cons, l1], by rw [List.length_cons, List.length_cons, l2], fun j x' y' e => ?_⟩
    cases j with
    | zero =>
      have e' : (x, y) = (x', y') := Option.some.inj e
      cases e'
      exact ⟨c, kv.1, rfl, ht, rfl, kV_is (P := X.prog) (w := X.w) rx⟩
    | succ j =>
      obtain ⟨c', key, e1, e2, e3, e4⟩ := hp j x' y' (by simpa using e)
      exact ⟨c', key, by simpa using e1, e2, by simpa using e3, e4⟩
/-- dict(xs) of a tuple of pairs -/
theorem call_dictT (hcalm : X.calm = true) : CallR X (.type "dict") (fun xs H Q => ∃ (l : Addr) (o : Obj) (ps : List Addr) (kvs : List (Key × V)), xs = [.ref l] ∧ H l = some (.frz o (.tup (ps.map V.ref))) ∧ o.dict = none ∧ Paired (fun p kv => SqT X.K H p [kV kv.1, kv.2]) ps kvs ∧
    ∀ p, H p = none → Q (.ref p) (upd H p (.dK (mergeK [] kvs)))) := by
  intro pins s sg H xs us Q I r q
  obtain ⟨l, o, ps, kvs, rfl, hq, hd0, hp, q⟩ := q
  obtain ⟨u, rfl, rx⟩ := vals1 r
  cases rx
  obtain ⟨ho, hz, its, rv, o', ho', hc, n, hdat⟩ := I.hok l _ hq
  rw [ho] at ho'
  cases ho'
  have ei := refs_at rv
  subst ei
  rw [List.length_map] at hz
  obtain ⟨prs, vps, rel, l1, l2, hv⟩ := pairsV I hp
  have hsz : vps.length ≤ sizeLine := by rw [l2]; exact hz
  have items : PairItems s.heap (ps.map Value.ref).toArray (fun j => ps.getD j 0) vps := by
    refine ⟨by simp [l2], fun j x y e => ?_⟩
    obtain ⟨c, key, e1, e2, _, _⟩ := hv j x y e
    have hg : ps.getD j 0 = c := by rw [List.getD_eq_getElem?_getD, e1]; rfl
    refine ⟨by simp [e1, hg], .inl ?_⟩
    show s.heap.IsTuple (ps.getD j 0) #[x, y]
    rw [hg]; exact e2
  refine call_dict_pairs (knd := mixKind X.prog X.w) (kvs := prs) (PairArg.tuple l (ps.map Value.ref).toArray (fun j => ps.getD j 0) vps) (I.ok.hd hcalm) ⟨⟨o, n, ho, hc, hd0, hdat⟩, items⟩ ⟨by rw [l1, l2], fun i x y e => ?_⟩ hsz fun h1 tk hd1 kp => ?_
  · obtain ⟨c, key, _, _, e3, e4⟩ := hv i x y e
    exact ⟨key, e3, e4⟩
  · have hm : (s.heap.objs.size == sysModules) = false := beq_eq_false_iff_ne.mpr (Nat.ne_of_gt I.big)
    have hlen : (mergeK [] kvs).length ≤ sizeLine := by
      have h1 := length_mergeK kvs []
      have h2 := rel.length
      rw [List.length_nil, Nat.zero_add] at h1
      omega
    exact ⟨.ref s.heap.objs.size, upd H s.heap.objs.size (.dK (mergeK [] kvs)), I.laid (t' := tk) (fun b ob e => kp b ob (by simp) e) (Nat.le_refl _) (show ObjOk X.prog X.w _ _ _ (.dK (mergeK [] kvs)) from ⟨hlen, hm, merged [] prs, KV.merge rel .nil, hd1⟩), rfl, q _ (I.hok.fresh (Nat.le_refl _))⟩
def dictD (mu : Mu) : List D → Option (Prop × D)
  | [.ptup ds] => match pairsD ds with
    | some kvs => some (True, .dct (mergeD [] kvs))
    | none => none
  | _ => none
theorem RelA.newDct {al : Ad} {dl : Lo} {mu : Mu} {T : List (V × D)} {sg : St} {H : Hp} (q : RelA g al dl mu T sg H) {vs : List (Key × V)} {ds : List (Key × D)} (k : RepK g.K g.ca al H ds vs) {l : Addr} (n : H l = none) : Rel g dl mu ((.ref l, .dct ds) :: T) sg (upd H l (.dK vs)) := by
  refine ⟨al, (q.new n).push ?_⟩
  simp only [Rep]
  exact ⟨l, vs, rfl, .inl upd_same, q.st.fresh n, RepK.grow (stp_new (g := g) n).toGrow ds vs k⟩
theorem pd_dict (hK : X.K = g.K) (hc : X.calm = true) (hg : Gl X "dict") (hm : X.mg "dict" = none) (ha : QA X g [a] t) (he : starEach [a] X.env = (false, eval a X.env) :: starEach [] X.env := by rfl) : PD X g (.Call (.Name "dict" p) [a] [] pos) (dB (gOf dictD) t) :=
  pd_bty (call_dictT hc) (cr_by fun dl mu T sg H vs ds c d Q al q k e hc z => by
    unfold dictD at e
    split at e
    · split at e
      · rename_i kvs e1
        cases e
        obtain ⟨v, rfl, k1⟩ := one_of k
        simp only [Rep] at k1
        obtain ⟨l, o, ws, rfl, f1, f2, f3, f4⟩ := k1
        obtain ⟨ps, kvs', rfl, h3, h4⟩ := pairs_rep f4 e1
        exact ⟨l, o, ps, kvs', rfl, f1, f2, by rw [hK]; exact h3, fun p' n => z _ _ (q.newDct (repK_merge h4 (by simp only [RepK])) n)⟩
      · cases e
    · cases e) gOf_m hg hm (by decide +kernel) ha (by decide) (by decide) he
end
end VL

/-! VsDsp: a dict display; None among items; enumerate over tuples. -/
namespace VL
open PySem PySem.Spec PyProof.Rows L2
/-- an object o that is made stands hidden at P meanwhile -/
structure Hid (g : Gm) (P : Addr) (o : HO) (al : Ad) (dl : Lo) (mu : Mu) (T : List (V × D)) (sg : St) (H : Hp) : Prop where
  r : RelA g al dl mu T sg H
  ex : P ∈ al.ex
  pl : P ∉ al.pl
  at_ : H P = some o
  h0 : g.H0 P = none
section
variable {g : Gm} {P : Addr} {o : HO} {al : Ad} {dl : Lo} {mu : Mu} {T : List (V × D)} {sg : St} {H : Hp}
theorem Hid.start (r : RelA g al dl mu T sg H) (n : H P = none) (ho : ∀ φ, o ≠ .ext φ) : Hid g P o (hide al P) dl mu T sg (upd H P o) := by
  have k : Stp g al (hide al P) H (upd H P o) :=
    { pre := List.prefix_rfl
      keep := fun b u e _ => by rw [upd_ne (ne_of_none e n)]; exact e
      new := fun a h1 h2 => by
        rcases List.mem_cons.mp h1 with z | z
        · rw [z]; exact n
        · exact absurd z h2
      newp := fun a h1 h2 => absurd h1 h2
      kf := fun b u _ _ e => by rw [upd_ne (ne_of_none e n)]; exact e
      ke := fun a _ h => List.mem_cons_of_mem _ h }
  have s : Store g.K g.ca (hide al P) mu (upd H P o) :=
    { nd := r.st.nd
      len := r.st.len
      sub := fun a h => List.mem_cons_of_mem _ (r.st.sub a h)
      dom := fun a h => by
        by_cases z : a = P
        · rw [z]; exact ⟨_, upd_same⟩
        · rw [upd_ne z]
          rcases List.mem_cons.mp h with h | h
          · exact absurd h z
          · exact r.st.dom a h
      nx := fun a h φ => by
        by_cases z : a = P
        · rw [z, upd_same]; intro q; exact ho φ (Option.some.inj q)
        · rw [upd_ne z]
          rcases List.mem_cons.mp h with h | h
          · exact absurd h z
          · exact r.st.nx a h φ
      has := fun i a d e1 e2 => by
        obtain ⟨u, e⟩ := r.st.pdom (List.mem_of_getElem? e1)
        exact (r.st.has i a d e1 e2).grow k.toGrow (upd_ne (ne_of_none e n)) }
  refine ⟨r.step k s, List.mem_cons_self, fun z => r.st.fresh n (r.st.sub P z), upd_same, ?_⟩
  cases q : g.H0 P with
  | none => rfl
  | some u =>
    by_cases z : P ∈ g.al0.pl
    · exact absurd (r.st.sub P (r.pre.subset z)) (r.st.fresh n)
    · have := r.frm P u q z
      rw [n] at this; cases this
theorem Hid.ran (m : Hid g P o al dl mu T sg H) {al2 : Ad} {dl2 : Lo} {mu2 : Mu} {T2 : List (V × D)} {sg2 : St} {H2 : Hp} (r : RelA ⟨g.K, g.ca, H, al⟩ al2 dl2 mu2 T2 sg2 H2) : Hid g P o al2 dl mu2 T sg H2 := by
  have b := r.toBack m.r.st.sub
  refine ⟨m.r.step (m.r.back b) r.st, b.exs _ m.ex, fun z => ?_, b.all _ _ m.at_ m.pl, m.h0⟩
  have q := b.newp P z m.pl
  rw [m.at_] at q; cases q
theorem Hid.push (m : Hid g P o al dl mu T sg H) {v : V} {d : D} (h : Rep g.K g.ca al H d v) : Hid g P o al dl mu ((v, d) :: T) sg H := ⟨m.r.push h, m.ex, m.pl, m.at_, m.h0⟩
/-- it is written, and known from now on -/
theorem Hid.done (m : Hid g P o al dl mu T sg H) (o' : HO) : RelA g (bare al P) dl mu T sg (upd H P o') ∧ Grow al (bare al P) H (upd H P o') ∧ P ∉ (bare al P).ex := by
  have k : Stp g al (bare al P) H (upd H P o') :=
    { pre := List.prefix_rfl
      keep := fun b u e n => by rw [upd_ne (show b ≠ P from fun z => n (by rw [z]; exact m.ex))]; exact e
      new := fun a h1 h2 => absurd (List.mem_filter.mp h1).1 h2
      newp := fun a h1 h2 => absurd h1 h2
      kf := fun b u e _ h => by
        rw [upd_ne (show b ≠ P from fun z => by rw [z, m.h0] at e; cases e)]; exact h
      ke := fun a h0 h => List.mem_filter.mpr ⟨h, decide_eq_true fun z => by
        obtain ⟨u, e⟩ := m.r.sub0 a h0
        rw [z, m.h0] at e; cases e⟩ }
  have s : Store g.K g.ca (bare al P) mu (upd H P o') :=
    { nd := m.r.st.nd
      len := m.r.st.len
      sub := fun a h => List.mem_filter.mpr ⟨m.r.st.sub a h, decide_eq_true fun z => m.pl (by rw [← z]; exact h)⟩
      dom := fun a h => by
        rw [upd_ne (show a ≠ P from fun z => absurd z (of_decide_eq_true (List.mem_filter.mp h).2))]
        exact m.r.st.dom a (List.mem_filter.mp h).1
      nx := fun a h φ => by
        rw [upd_ne (show a ≠ P from fun z => absurd z (of_decide_eq_true (List.mem_filter.mp h).2))]
        exact m.r.st.nx a (List.mem_filter.mp h).1 φ
      has := fun i a d e1 e2 => (m.r.st.has i a d e1 e2).grow k.toGrow (upd_ne fun z => m.pl (by rw [← z]; exact List.mem_of_getElem? e1)) }
  exact ⟨m.r.step k s, k.toGrow, fun z => absurd rfl (of_decide_eq_true (List.mem_filter.mp z).2)⟩
end
/-! ### {k: v, ..} -/
def tPairsD : List (TEd × TEd) → Lo → Mu → (List (D × D) → Mu → Prop) → Prop
  | [], _, mu, Q => Q [] mu
  | (tk, tv) :: r, dl, mu, Q => tk dl mu fun x m1 => tv dl m1 fun y m2 => tPairsD r dl m2 fun ps m3 => Q ((x, y) :: ps) m3
def keysD : List (D × D) → Option (List (Key × D))
  | [] => some []
  | (x, y) :: r => match keyD x, keysD r with
    | some k, some ps => some ((k, y) :: ps)
    | _, _ => none
def dDisp (trs : List (TEd × TEd)) : TEd := fun dl mu Q => tPairsD trs dl mu fun ps m => match keysD ps with
  | some kvs => kvs.length ≤ 15 ∧ Q (.dct (mergeD [] kvs)) m
  | none => False
section
variable {X : Cx} {g : Gm} {pos : Pos}
/-- the pairs' rules -/
inductive QPs (X : Cx) (g : Gm) (pos : Pos) : List (Option Expr) → List Expr → List (TEd × TEd) → Prop where
  | nil : QPs X g pos [] [] []
  | cons {k v : Expr} {ks : List (Option Expr)} {vs : List Expr} {tk tv : TEd} {trs : List (TEd × TEd)} (hk : ∀ g' : Gm, g'.K = g.K → g'.ca = g.ca → PD X g' k tk) (hv : ∀ g' : Gm, g'.K = g.K → g'.ca = g.ca → PD X g' v tv) (hr : QPs X g pos ks vs trs) :
      QPs X g pos (some k :: ks) (v :: vs) ((tk, tv) :: trs)
def exP (K : PySem.W.Frag) (ca : Str → Addr) (p : TEd × TEd) : TE × TE := (exE K ca p.1, exE K ca p.2)
theorem QPs.pps {keys : List (Option Expr)} {values : List Expr} {trs : List (TEd × TEd)} (h : QPs X g pos keys values trs) : PPs X pos keys values (trs.map (exP g.K g.ca)) := by
  induction h with
  | nil => exact pps_nil
  | cons hk hv _ ih => exact pps_cons (exE_pe hk) (exE_pe hv) ih
theorem QPs.mono {keys : List (Option Expr)} {values : List Expr} {trs : List (TEd × TEd)} (h : QPs X g pos keys values trs) : ∀ dl mu (Q Q' : List (D × D) → Mu → Prop), (∀ l m, Q l m → Q' l m) → tPairsD trs dl mu Q → tPairsD trs dl mu Q' := by
  induction h with
  | nil => exact fun dl mu Q Q' w z => w _ _ z
  | cons hk hv _ ih => exact fun dl mu Q Q' w z => (hk g rfl rfl).m _ _ _ _ (fun x m1 z => (hv g rfl rfl).m _ _ _ _ (fun y m2 z => ih _ _ _ _ (fun ps m3 z => w _ _ z) z) z) z
theorem QPs.up {keys : List (Option Expr)} {values : List Expr} {trs : List (TEd × TEd)} (h : QPs X g pos keys values trs) {P : Addr} {o : HO} {dl : Lo} {sg : St} : ∀ {al : Ad} {mu : Mu} {T : List (V × D)} {H : Hp} {Q : List (D × D) → Mu → Prop} {R : List (V × V) → Hp → Prop}, Hid g P o al dl mu T sg H → tPairsD trs dl mu Q →
    (∀ al2 mu2 T2 H2 ps ds, Hid g P o al2 dl mu2 T2 sg H2 → (∀ p ∈ T, p ∈ T2) → Paired (fun (pv : V × V) (pd : D × D) => (pv.1, pd.1) ∈ T2 ∧ (pv.2, pd.2) ∈ T2) ps ds → Q ds mu2 → R ps H2) → tPairs (trs.map (exP g.K g.ca)) sg H R := by
  induction h with
  | nil => exact fun hd z w => w _ _ _ _ [] [] hd (fun _ h => h) .nil z
  | cons hk hv _ ih =>
    intro al mu T H Q R hd z w
    refine ⟨⟨g.K, g.ca, H, al⟩, rfl, rfl, dl, mu, T, ⟨al, hd.r.enter⟩, (hk g rfl rfl).m _ _ _ _ (fun x m1 z vx H1 r1 => ?_) z⟩
    obtain ⟨al1, r1⟩ := r1
    have hd1 := (hd.ran r1).push (r1.tmp (vx, x) List.mem_cons_self)
    refine ⟨⟨g.K, g.ca, H1, al1⟩, rfl, rfl, dl, m1, _, ⟨al1, hd1.r.enter⟩, (hv g rfl rfl).m _ _ _ _ (fun y m2 z vy H2 r2 => ?_) z⟩
    obtain ⟨al2, r2⟩ := r2
    have hd2 := (hd1.ran r2).push (r2.tmp (vy, y) List.mem_cons_self)
    refine ih hd2 z fun al3 mu3 T3 H3 ps ds hd3 hs hp q => w _ _ _ _ ((vx, vy) :: ps) ((x, y) :: ds) hd3 (fun p hp => hs p (List.mem_cons_of_mem _ (List.mem_cons_of_mem _ hp))) (.cons ⟨hs _ (by simp), hs _ (by simp)⟩ hp) q
theorem keys_rep {K : PySem.W.Frag} {ca : Str → Addr} {al : Ad} {H : Hp} {T2 : List (V × D)} (ht : ∀ p ∈ T2, Rep K ca al H p.2 p.1) : ∀ {ps : List (V × V)} {ds : List (D × D)} {kds : List (Key × D)}, Paired (fun (pv : V × V) (pd : D × D) => (pv.1, pd.1) ∈ T2 ∧ (pv.2, pd.2) ∈ T2) ps ds → keysD ds = some kds →
    ∃ kvs : List (Key × V), ps = kvs.map (fun kv => (kV kv.1, kv.2)) ∧ RepK K ca al H kds kvs
  | _, _, kds, .nil, e => by cases e; exact ⟨[], rfl, by simp only [RepK]⟩
  | _, _, kds, .cons (a := pv) (b := pd) h r, e => by
    obtain ⟨x, y⟩ := pd
    unfold keysD at e
    split at e
    · rename_i kk ps' ek ep
      cases e
      obtain ⟨kvs, e1, e2⟩ := keys_rep ht r ep
      refine ⟨(kk, pv.2) :: kvs, ?_, repK_cons (ht _ h.2) e2⟩
      rw [List.map_cons, ← e1]
      have := key_rep ek (ht _ h.1)
      obtain ⟨p1, p2⟩ := pv
      simp only at this ⊢
      rw [this]
    · cases e
theorem pd_disp {keys : List (Option Expr)} {values : List Expr} {trs : List (TEd × TEd)} (h : QPs X g pos keys values trs) (hall : keys.all (·.isSome) = true := by rfl) (hl : keys.length = values.length := by rfl) (h0 : keys ≠ [] := by decide) (h15 : keys.length ≤ 15 := by decide) : PD X g (.Dict keys values pos) (dDisp trs) where
  m := fun dl mu Q Q' w z => h.mono _ _ _ _ (fun ps m z => by
    cases e : keysD ps with
    | none => rw [e] at z; exact z.elim
    | some kvs => rw [e] at z; exact ⟨z.1, w _ _ z.2⟩) z
  pe := PE.of (pe_disp h.pps hall hl h0 h15) fun sg H Q z => by
    obtain ⟨dl, mu, T, ⟨al, r⟩, z⟩ := z
    intro P nP
    refine h.up (Hid.start r nP fun _ z => by cases z) z fun al2 mu2 T2 H2 ps ds hd hs hp z => ?_
    cases e : keysD ds with
    | none => rw [e] at z; exact z.elim
    | some kds =>
      rw [e] at z
      obtain ⟨kvs, e1, e2⟩ := keys_rep hd.r.tmp hp e
      refine ⟨hd.at_, kvs, e1, ?_, ?_⟩
      · have : kvs.length = kds.length := by
          have aux : ∀ {ds : List (Key × D)} {vs : List (Key × V)}, RepK g.K g.ca al2 H2 ds vs → vs.length = ds.length := by
            intro ds
            induction ds with
            | nil =>
              intro vs h
              have z : vs = [] := by simpa only [RepK] using h
              rw [z]; rfl
            | cons p ds ih =>
              intro vs h
              obtain ⟨kk, dd⟩ := p
              simp only [RepK] at h
              obtain ⟨v, r, rfl, _, h2⟩ := h
              rw [List.length_cons, List.length_cons, ih h2]
          exact aux e2
        omega
      · obtain ⟨q1, gr, np⟩ := hd.done (.dK (mergeK [] kvs))
        refine z.2 _ _ ⟨_, (q1.sub (T' := T) fun p hp => hs p hp).push ?_⟩
        simp only [Rep]
        exact ⟨P, _, rfl, .inl upd_same, np, repK_merge (RepK.grow gr _ _ e2) (by simp only [RepK])⟩
theorem pd_d0 : PD X g (.Dict [] [] pos) (dC (.dct [])) where
  m := fun _ _ _ _ w z => w _ _ z
  pe := PE.of pe_dnewK fun sg H Q z => by
    obtain ⟨dl, mu, T, ⟨al, r⟩, z⟩ := z
    intro P nP
    exact z _ _ (r.newDct (by simp only [RepK]) nP)
end
end VL

/-! VsEnu: for i, x in enumerate(a tuple). -/
namespace PySem
theorem vl_meets_enum {x : Value} {ob : Obj} {Hq : Heap → Prop} (B : Begins x ob Hq) :
    Meets (Builtin.«enumerate.__new__» ⟨[.type "enumerate", x], []⟩) (fun _ R s => Hq s.heap ∧
      R (.ok (.ret (.ref (s.heap.push ob).objs.size))) { s with heap := (s.heap.push ob).push { cls := .type "enumerate", data := .fields #[.none, .bool false, .ref s.heap.objs.size, rawInt 0, .none, .none] } }) :=
  .of_wp fun prog w A R s hyp => by
    obtain ⟨hp, ge, dr, tk, os⟩ := s
    obtain ⟨hq, fin⟩ := hyp
    have hsub := sub_enumerate
    have it : ∀ {A2 : Around} {E : Value → Shared → Prop} {Q : Value → Shared → Prop}, Q (.ref hp.objs.size) ⟨hp.push ob, ge, dr, tk, os⟩ → wpAny (model prog w) A2 (pyIter x) Q E ⟨hp, ge, dr, tk, os⟩ :=
      fun z => B.iter prog w _ _ ⟨hp, ge, dr, tk, os⟩ _ hq z
    wp_walk using it
    refine wpAny_stack_any fun stk => wpAny_pure ?_
    split
    · rename_i cc _ _ _ _ _
      cases (cc == Value.type "enumerate") <;> (wp_walk using it; exact ⟨_, rfl, fin⟩)
    · wp_walk using it
      exact ⟨_, rfl, fin⟩
theorem vl_enum_begins {prog : Program} {w : World} {A : Around} {E : Value → Shared → Prop} {s : Shared} {x : Value} {ob : Obj} {Hq : Heap → Prop} {Q : Value → Shared → Prop} (B : Begins x ob Hq) (h1 : Hq s.heap)
    (h : ∀ h', IsEnum h' (s.heap.objs.size + 1) s.heap.objs.size 0 .none → h'.get? s.heap.objs.size = some ob → (∀ b o, s.heap.get? b = some o → h'.get? b = some o) → Q (.ref (s.heap.objs.size + 1)) { s with heap := h' }) :
    wpAny (model prog w) A (call (.type "enumerate") [x]) Q E s := by
  refine callType_new F.called_enumerate (by decide) (F.typeCall_enumerate_1 _) (F.newCall_enumerate_1 _) (fun obj => F.args_object_init_2 obj _) F.entry_enumerate_new (vl_meets_enum B) ⟨h1, ?_⟩
  have hz : (s.heap.push ob).objs.size = s.heap.objs.size + 1 := Heap.size_push ..
  show _ ∧ _
  rw [hz]
  have he : IsEnum ((s.heap.push ob).push { cls := .type "enumerate", data := .fields #[.none, .bool false, .ref s.heap.objs.size, rawInt 0, .none, .none] }) (s.heap.objs.size + 1) s.heap.objs.size 0 .none := by
    have z := Heap.get?_push_size (s.heap.push ob) (o := { cls := .type "enumerate", data := .fields #[.none, .bool false, .ref s.heap.objs.size, rawInt 0, .none, .none] }) rfl
    rw [hz] at z
    exact z
  exact ⟨⟨_, he, rfl⟩, h _ he (Heap.get?_push_of_some _ (Heap.get?_push_size _ B.free)) fun b o z => Heap.get?_push_of_some _ (Heap.get?_push_of_some _ z)⟩
end PySem
namespace VL
open PySem PySem.Spec PyProof.Rows L2
/-- the tuple at a, each item in a new pair -/
def ItT (K : PySem.W.Frag) (a : Addr) (n : Nat) : It :=
  ⟨fun i H => ∃ (xs : List V) (x : V), SqT K H a xs ∧ xs.length = n ∧ xs[i]? = some x, fun i H v H' => ∃ q x, v = .ref q ∧ H q = none ∧ H' = upd H q (.tup [.int (i : Nat), x]) ∧ ∀ xs, SqT K H a xs → xs[i]? = some x, fun i H => ∃ xs : List V, SqT K H a xs ∧ xs.length = n ∧ n ≤ i⟩
theorem turn_enumT {P : Program} {w : World} {K : PySem.W.Frag} {elts : List Expr} {kk : Nat} {tpos : Pos} (a en it : Addr) (n : Nat) (hai : a ≠ it) :
    Turn P w K (.Tuple elts kk tpos) (ItT K a n) [en, it] en (fun i h => (∃ old, IsEnum h en it ((i : Nat) : Int) old) ∧ h.IsTupleIter it a i ∧ en ≠ it ∧ en ≠ a ∧ i ≤ n) where
  mem := by simp
  obj := fun i h st b hb => by
    obtain ⟨⟨old, he⟩, ⟨o, ho, hc, hd⟩, _⟩ := st
    have hb2 : b = en ∨ b = it := by simpa using hb
    rcases hb2 with z | z
    · rw [z]; exact ⟨_, he, fun v q => nomatch q⟩
    · rw [z]; exact ⟨o, ho, fun v q => by rw [hd] at q; cases q⟩
  keep := fun i h h' st k => by
    obtain ⟨⟨old, he⟩, hi, h1, h2, h3⟩ := st
    exact ⟨⟨old, k en (by simp) _ he⟩, hi.at fun o q => k it (by simp) o q, h1, h2, h3⟩
  item := by
    intro X hP hw hK hc i pins s sg H E I hf st hg
    subst hP hw hK
    obtain ⟨⟨old, he⟩, hit, hne, hna, hin⟩ := st
    obtain ⟨xs, x, hq, hn, hx⟩ := hg
    obtain ⟨its, rv, tp, hz⟩ := I.tuple hq
    obtain ⟨u, hu, ru⟩ := rv.get hx
    have hel : en < s.heap.objs.size := Heap.lt_size he
    have hil : it < s.heap.objs.size := by obtain ⟨_, q, _⟩ := hit; exact Heap.lt_size q
    have hsz : i < its.toArray.size := by
      have := (List.getElem?_eq_some_iff.mp hu).1
      simpa using this
    have Dw := Draws.tuple (prog := X.prog) (w := X.w) (A := X.A.in1) (I.ok.hd hc) it a hai its.toArray
    refine wpAny_pyNext_enum_itemC Dw he ⟨hit, tp⟩ hsz hne (by simp [hne, hna]) fun y h1 tk hP ho st1 hT hs1 hk => ?_
    have hy : y = u := by
      have e : its.toArray[i]? = some u := by simpa using hu
      rw [e] at hP
      exact (Option.some.inj hP).symm
    subst hy
    refine ⟨_, rfl, wpAny_letOwnedTupleGo_enum (s := { s with heap := h1, toks := tk + 1 }) ho fun h2 he2 sb => ?_⟩
    have hT2 : h2.get? s.heap.objs.size = some { cls := .type "tuple", data := .seq #[.int i tk, y] } := (sb.2 _ (Nat.ne_of_gt hel)).trans hT
    have new : ObjOk X.prog X.w (upd H s.heap.objs.size (.tup [.int (i : Nat), x])) h2 s.heap.objs.size (.tup [.int (i : Nat), x]) :=
      ⟨by show 2 ≤ sizeLine; decide, [.int i tk, y], .cons ⟨_, rfl⟩ (.cons ru .nil), ⟨_, hT2, rfl, _, rfl⟩⟩
    have J : Inv X pins sg (upd H s.heap.objs.size (.tup [.int (i : Nat), x])) { s with heap := h2, toks := tk + 1 } :=
      I.turnedNew (ch := [en, it]) (fun b ob hb q => (sb.2 b (fun z => hb (by simp [z]))).trans (hk b ob (fun z => hb (by simp [z])) (fun z => hb (by simp [z])) q)) hf (Nat.le_refl _) new
    refine ⟨.ref s.heap.objs.size, _, J, rfl, ⟨_, x, rfl, I.hok.fresh (Nat.le_refl _), rfl, fun ys hy => by rw [I.tuple_inj hy hq]; exact hx⟩, ⟨⟨y, ?_⟩, st1.1.at fun o q => (sb.2 it (Ne.symm hne)).trans q, hne, hna, by have := (List.getElem?_eq_some_iff.mp hx).1; omega⟩, fun b hb => ?_⟩
    · have e1 : ((i + 1 : Nat) : Int) = (i : Int) + 1 := by omega
      rw [e1]; exact he2
    · have hb2 : b = en ∨ b = it := by simpa using hb
      have hb3 : b < s.heap.objs.size := by
        rcases hb2 with z | z
        · rw [z]; exact hel
        · rw [z]; exact hil
      rw [upd_ne (Nat.ne_of_lt hb3)]
      exact (hf b hb).1
  done := by
    intro X hP hw hK hc i pins s sg H E I hf st hg
    subst hP hw hK
    obtain ⟨⟨old, he⟩, hit, hne, hna, hin⟩ := st
    obtain ⟨xs, hq, hn, hx⟩ := hg
    obtain ⟨its, rv, tp, hz⟩ := I.tuple hq
    obtain ⟨f0, f1, f2, f3, f4, f5⟩ := hf it (by simp)
    have hl := rv.length
    have ei : i = its.toArray.size := by simp; omega
    have Dw := Draws.tuple (prog := X.prog) (w := X.w) (A := X.A.in1) (I.ok.hd hc) it a hai its.toArray
    exact wpAny_pyNext_enum_endD Dw he ⟨by rw [← ei]; exact hit, tp⟩ fun h1 eb => ⟨rfl, I.turned (t' := s.toks) (fun b o hb q => eb b o hb q) f0 f1 f3 f4 f5⟩
  self := fun A i s Q E st h => by
    obtain ⟨⟨_, he⟩, _⟩ := st
    exact wpAny_pyIter_enum he h
def enumD (xs : List D) : List D := (List.range xs.length).map fun i => .tup [.int (i : Nat), xs.getD i .non]
/-- enumerate(a tuple) -/
def iEnu (ta : TAd) : TId := fun dl mu Q => ta dl mu fun ds m => match ds with
  | [.tup xs] => Q (enumD xs) (fun _ => True) m
  | [.ptup xs] => Q (enumD xs) (fun _ => True) m
  | _ => False
theorem enum_get {xs : List D} {i : Nat} {d : D} (h : (enumD xs)[i]? = some d) : ∃ x, xs[i]? = some x ∧ d = .tup [.int (i : Nat), x] := by
  unfold enumD at h
  rw [List.getElem?_map] at h
  cases e : (List.range xs.length)[i]? with
  | none => rw [e] at h; cases h
  | some j =>
    rw [e] at h
    obtain ⟨h1, h2⟩ := List.getElem?_eq_some_iff.mp e
    rw [List.getElem_range] at h2
    subst h2
    have hi : i < xs.length := by simpa using h1
    refine ⟨xs[i], List.getElem?_eq_getElem hi, ?_⟩
    have := (Option.some.inj h).symm
    rw [this]
    show D.tup [D.int (i : Nat), xs.getD i D.non] = _
    rw [List.getD_eq_getElem?_getD, List.getElem?_eq_getElem hi]; rfl
section
variable {X : Cx} {g : Gm}
theorem wk_enum {a : Addr} {d : D} {xs : List D} (hd : ∀ al dl mu T sg H, RelA g al dl mu ((.ref a, d) :: T) sg H → ∃ vs, SqT g.K H a vs ∧ Reps g.K g.ca al H xs vs) : Wk g (ItT g.K a xs.length) (enumD xs) (fun _ => True) [(.ref a, d)] := by
  refine ⟨fun i y al dl mu T sg H r ha e => ?_, fun i al dl mu T sg H r ha hl => ?_⟩
  · obtain ⟨x, e1, rfl⟩ := enum_get e
    obtain ⟨vs, h1, h2⟩ := hd _ _ _ _ _ _ r
    obtain ⟨v, e2, r2⟩ := reps_get h2 e1
    refine ⟨⟨vs, v, h1, reps_len h2, e2⟩, fun u H' hy => ?_⟩
    obtain ⟨q, x', rfl, nq, rfl, hx⟩ := hy
    have ev : x' = v := by
      have := hx vs h1
      rw [e2] at this
      exact (Option.some.inj this).symm
    subst ev
    refine ⟨?_, fun b o e => by rw [upd_ne (ne_of_none e nq)]; exact e⟩
    refine (r.new nq).push ?_
    simp only [Rep]
    refine ⟨q, [.int (i : Nat), x'], rfl, .inl ⟨.inl upd_same, r.st.fresh nq⟩, ?_⟩
    simp only [Reps]
    exact ⟨_, _, rfl, by simp only [Rep], _, _, rfl, Rep.grow (stp_new (g := g) nq).toGrow _ _ r2, rfl⟩
  · obtain ⟨vs, h1, h2⟩ := hd _ _ _ _ _ _ r
    refine ⟨vs, h1, reps_len h2, ?_⟩
    simpa [enumD] using hl
theorem pi_enumT {e : Expr} {ta : TA} {p pos tpos : Pos} {elts : List Expr} {kk : Nat} (hg : Gl X "enumerate") (hm : X.mg "enumerate" = none) (ha : PA X [e] ta) (hs : starEach [e] X.env = [(false, eval e X.env)] := by rfl) :
    PI X (.Tuple elts kk tpos) (.Call (.Name "enumerate" p) [e] [] pos) (fun sg H R => ta sg H fun vs H1 => ∃ a xs, vs = [.ref a] ∧ SqT X.K H1 a xs ∧ R (ItT X.K a xs.length) H1) := by
  refine ⟨fun pins s sg H R I h => ?_⟩
  refine Call_ (ld_blt I hg hm boot_enumerate (PyProof.Rows.callWith_type1 (thn (ha.run pos pins s sg H _ I h) fun us s1 hh => ?_) hs rfl))
  obtain ⟨vs, H1, I1, r1, a, xs, ex, hq, q⟩ := hh
  subst ex
  obtain ⟨u, rfl, ru⟩ := vals1 r1
  cases ru
  obtain ⟨its, rv, tp, hz⟩ := I1.tuple hq
  have hlt : a < s1.heap.objs.size := by obtain ⟨_, z, _⟩ := tp; exact Heap.lt_size z
  refine vl_enum_begins (begins_tuple a its.toArray) tp fun h1 he hit hk => wpAny_pyIter_enum he ?_
  have J : Inv X pins sg H1 { s1 with heap := h1 } := I1.kept (t' := s1.toks) hk
  refine ⟨s1.heap.objs.size + 1, [s1.heap.objs.size + 1, s1.heap.objs.size], _, _, H1, rfl, J, turn_enumT a (s1.heap.objs.size + 1) s1.heap.objs.size xs.length (Nat.ne_of_lt hlt), ⟨⟨.none, he⟩, ⟨_, hit, rfl, rfl⟩, Nat.succ_ne_self _, Nat.ne_of_gt (Nat.lt_succ_of_lt hlt), Nat.zero_le _⟩, fun b hb => ?_, q⟩
  have hb2 : b = s1.heap.objs.size + 1 ∨ b = s1.heap.objs.size := by simpa using hb
  have hle : s1.heap.objs.size ≤ b := by
    rcases hb2 with z | z
    · rw [z]; exact Nat.le_add_right _ _
    · rw [z]; exact Nat.le_refl _
  exact I1.fpOk hle (I1.hok.fresh hle)
theorem qi_enum {e : Expr} {ta : TAd} {p pos tpos : Pos} {elts : List Expr} {kk : Nat} (hK : X.K = g.K) (hg : Gl X "enumerate") (hm : X.mg "enumerate" = none) (ha : QA X g [e] ta) (hs : starEach [e] X.env = [(false, eval e X.env)] := by rfl) :
    QI X g (.Tuple elts kk tpos) (.Call (.Name "enumerate" p) [e] [] pos) (iEnu ta) where
  m := fun dl mu Q Q' w z => ha.m dl mu _ _ (fun ds m z => by
    unfold iEnu at *
    split at z
    · exact w _ _ _ z
    · exact w _ _ _ z
    · exact z.elim) z
  pi := PI.of (pi_enumT hg hm ha.pa hs) fun sg H R z => by
    obtain ⟨dl, mu, T, r, z⟩ := z
    refine ⟨dl, mu, T, r, ha.m dl mu _ _ (fun ds m z vs H1 hl r1 => ?_) z⟩
    obtain ⟨al, q, k⟩ := r1.reps hl
    split at z
    · rename_i xs
      obtain ⟨v, rfl, k1⟩ := one_of k
      obtain ⟨l, ws, rfl, f2, f3⟩ := rep_tup k1
      refine ⟨l, ws, rfl, by rw [hK]; exact f2, ?_⟩
      rw [reps_len f3, hK]
      refine z _ _ [(.ref l, .tup xs)] r1 (wk_enum fun al dl mu T sg H r => ?_)
      obtain ⟨l', us, e1, e2, e3⟩ := rep_tup (r.tmp (_, _) List.mem_cons_self)
      cases e1
      exact ⟨us, e2, e3⟩
    · rename_i xs
      obtain ⟨v, rfl, k1⟩ := one_of k
      obtain ⟨l, ws, rfl, f2, f3⟩ := rep_ptup k1
      refine ⟨l, ws, rfl, by rw [hK]; exact f2, ?_⟩
      rw [reps_len f3, hK]
      refine z _ _ [(.ref l, .ptup xs)] r1 (wk_enum fun al dl mu T sg H r => ?_)
      obtain ⟨l', us, e1, e2, e3⟩ := rep_ptup (r.tmp (_, _) List.mem_cons_self)
      cases e1
      exact ⟨us, e2, e3⟩
    · exact z.elim
/-- None in a list of None and instances -/
def okNon (cs : List Str) : D → Bool
  | .non => true
  | .obj c _ => cs.contains c
  | _ => false
def isNonD : D → Bool
  | .non => true
  | _ => false
def ninO (cs : List Str) (mu : Mu) (x y : D) : Option (Prop × D) := match x with
  | .non => match asL mu y with
    | some ds => some (ds.all (okNon cs) = true, .bl (ds.any isNonD))
    | none => none
  | _ => none
theorem reps_non {K : PySem.W.Frag} {ca : Str → Addr} {al : Ad} {H : Hp} {cs : List Str} (hc : ∀ c ∈ cs, PySem.W.mroIn K (ca c) (.type "object") = some true ∧ PySem.W.findIn K (.ref (ca c)) "__eq__" = some (some (.builtin "object.__eq__"))) :
    ∀ {ds : List D} {vs : List V}, Reps K ca al H ds vs → ds.all (okNon cs) = true → (∀ z ∈ vs, NoneOr K H z) ∧ vs.any isNon = ds.any isNonD
  | [], vs, h, _ => by
    have e : vs = [] := by simpa only [Reps] using h
    rw [e]
    exact ⟨fun z hz => by simp at hz, rfl⟩
  | d :: ds, vs, h, f => by
    simp only [Reps] at h
    obtain ⟨v, r, rfl, h1, h2⟩ := h
    rw [List.all_cons, Bool.and_eq_true] at f
    obtain ⟨i1, i2⟩ := reps_non hc h2 f.2
    rw [List.any_cons, List.any_cons, i2]
    have key : NoneOr K H v ∧ isNon v = isNonD d := by
      cases d with
      | non => rw [rep_non h1]; exact ⟨.inl rfl, rfl⟩
      | obj c fs =>
        simp only [Rep] at h1
        obtain ⟨a, dx, ws, rfl, e2, _, _⟩ := h1
        obtain ⟨k1, k2⟩ := hc c (by simpa [okNon] using f.1)
        exact ⟨.inr ⟨a, ca c, dx, ws, rfl, e2, k1, k2⟩, rfl⟩
      | _ => cases f.1
    refine ⟨fun z hz => ?_, by rw [key.2]⟩
    rcases List.mem_cons.mp hz with e | hz
    · rw [e]; exact key.1
    · exact i1 z hz
variable {a b : Expr} {ta tb : TEd} {pos : Pos} {k : Nat}
theorem nin_ok {cs : List Str} (hK : X.K = g.K) (hc : ∀ c ∈ cs, PySem.W.mroIn X.K (g.ca c) (.type "object") = some true ∧ PySem.W.findIn X.K (.ref (g.ca c)) "__eq__" = some (some (.builtin "object.__eq__"))) : OpOk g (rNoneIn X.K false) (fOf (ninO cs)) := op_by fun dl mu T sg H v w x y c d Q al q rx ry e hcc z => by
  unfold ninO at e
  split at e
  · split at e
    · rename_i ds e1
      cases e
      obtain ⟨l, vs, rfl, f2, f3⟩ := q.lst ry e1
      rw [hK] at hc ⊢
      obtain ⟨h1, h2⟩ := reps_non hc f3 hcc
      refine ⟨l, vs, rep_non rx, rfl, f2, h1, ?_⟩
      rw [h2]
      exact z _ _ (q.scal rfl)
    · cases e
  · cases e
theorem qt_nin {cs : List Str} (hK : X.K = g.K) (hr : Room k X.A) (hc : ∀ c ∈ cs, PySem.W.mroIn X.K (g.ca c) (.type "object") = some true ∧ PySem.W.findIn X.K (.ref (g.ca c)) "__eq__" = some (some (.builtin "object.__eq__"))) (ha : PD X g a ta) (hb : PD X g b tb) (hmk : lastMarks [.In] [b] = false := by with_unfolding_all rfl) :
    QT X g (.Compare a [.In] [b] pos) (dTest (dBin (fOf (ninO cs)) ta tb)) := test_cmp (op_noneIn (by have := hr.units; omega)) (nin_ok hK hc) fOf_m ha hb hmk
end
end VL

/-! VsRq: what repr shows of data with dicts. -/
namespace VL
open PySem PySem.Spec PyProof.Rows L2
mutual
/-- a value's data, dicts too: none of them is the dict of the modules -/
inductive Rq (h : Heap) : Value → PyData → Prop
  | non : Rq h .none .none
  | bl (b : Bool) : Rq h (.bool b) (.bool b)
  | int (i : Int) (t : Tok) : Rq h (.int i t) (.int i)
  | str (x : Str) (t : Tok) : Rq h (.str x t) (.str x)
  | lst {a : Addr} {o : Obj} {its : Array Value} {n : Nat} {ds : List PyData} (ho : h.get? a = some o) (hc : o.cls = .type "list") (hd : o.data = .seq its n) (r : RqA h its.toList ds) : Rq h (.ref a) (.list ds)
  | tup {a : Addr} {o : Obj} {its : Array Value} {n : Nat} {ds : List PyData} (ho : h.get? a = some o) (hc : o.cls = .type "tuple") (hd : o.data = .seq its n) (r : RqA h its.toList ds) : Rq h (.ref a) (.tuple ds)
  | dct {a : Addr} {o : Obj} {es : Array DictEntry} {n : Nat} {ks : List (PyData × PyData)} (ho : h.get? a = some o) (hc : o.cls = .type "dict") (hd : o.data = .dict es n) (hs : (a == sysModules) = false) (r : RqK h es.toList ks) : Rq h (.ref a) (.dict ks)
inductive RqA (h : Heap) : List Value → List PyData → Prop
  | nil : RqA h [] []
  | cons {v : Value} {vs : List Value} {d : PyData} {ds : List PyData} (r : Rq h v d) (rs : RqA h vs ds) : RqA h (v :: vs) (d :: ds)
inductive RqK (h : Heap) : List DictEntry → List (PyData × PyData) → Prop
  | nil : RqK h [] []
  | cons {e : DictEntry} {es : List DictEntry} {k v : PyData} {ks : List (PyData × PyData)} (rk : Rq h e.key k) (rv : Rq h e.val v) (rs : RqK h es ks) : RqK h (e :: es) ((k, v) :: ks)
end
section
variable {h : Heap}
mutual
theorem Rq.rd : ∀ {v : Value} {d : PyData}, Rq h v d → ∃ as, Reads h v d as
  | _, _, .non => ⟨_, .none⟩
  | _, _, .bl b => ⟨_, .bool b⟩
  | _, _, .int i t => ⟨_, .int i t⟩
  | _, _, .str x t => ⟨_, .str x t⟩
  | _, _, .lst ho hc hd r => let ⟨_, q⟩ := r.rd; ⟨_, .list ho hc hd q⟩
  | _, _, .tup ho hc hd r => let ⟨_, q⟩ := r.rd; ⟨_, .tuple ho hc hd q⟩
  | _, _, .dct ho hc hd _ r => let ⟨_, _, q1, q2⟩ := r.rd; ⟨_, .dict ho hc hd q1 q2⟩
theorem RqA.rd : ∀ {vs : List Value} {ds : List PyData}, RqA h vs ds → ∃ as, ReadsAll h vs ds as
  | _, _, .nil => ⟨_, .nil⟩
  | _, _, .cons r rs => let ⟨_, q1⟩ := r.rd; let ⟨_, q2⟩ := rs.rd; ⟨_, .cons q1 q2⟩
theorem RqK.rd : ∀ {es : List DictEntry} {ks : List (PyData × PyData)}, RqK h es ks → ∃ as bs, ReadsAll h (es.map (·.key)) (ks.map (·.1)) as ∧ ReadsAll h (es.map (·.val)) (ks.map (·.2)) bs
  | _, _, .nil => ⟨_, _, .nil, .nil⟩
  | _, _, .cons rk rv rs => let ⟨_, q1⟩ := rk.rd; let ⟨_, q2⟩ := rv.rd; let ⟨_, _, q3, q4⟩ := rs.rd; ⟨_, _, .cons q1 q3, .cons q2 q4⟩
end
theorem most_of {n m : Nat} {bs cs : List Addr} (x : ReadAtMost h n bs) (y : ReadAtMost h m cs) : ReadAtMost h (max n m) (bs ++ cs) := (x.mono (Nat.le_max_left _ _)).append (y.mono (Nat.le_max_right _ _))
theorem entries_more {P : Program} {w : World} {as as' : List Addr} {d d' : Nat} (hs : ∀ b ∈ as, b ∈ as') (hd : d ≤ d') : ∀ {es : List DictEntry} {ps : List Str}, ReprEntriesK P w as h d es ps → ReprEntriesK P w as' h d' es ps
  | _, _, .nil => .nil
  | _, _, .cons x y z => .cons ((x.more hs).level_le hd) ((y.more hs).level_le hd) (entries_more hs hd z)
theorem kv_len {k v : PyData} {x : Nat} (q : (k.shown ++ ": " ++ v.shown).length ≤ x) : k.shown.length ≤ x ∧ v.shown.length ≤ x := by
  rw [strLen_append, strLen_append] at q
  omega
mutual
theorem Rq.k {P : Program} {w : World} : ∀ {v : Value} {d : PyData}, Rq h v d → d.showable = true → d.shown.length ≤ sizeLine → ∃ bs, ReadAtMost h d.depth bs ∧ ReprK P w bs h d.depth v d.shown
  | _, _, .non, _, _ => ⟨[], (fun _ q => nomatch q), by simp only [PyData.shown]; exact .of_is ReprIs.none _ _ _⟩
  | _, _, .bl b, _, _ => ⟨[], (fun _ q => nomatch q), by simp only [PyData.shown]; exact .of_is (ReprIs.bool b) _ _ _⟩
  | _, _, .int i t, s, _ => ⟨[], (fun _ q => nomatch q), by simp only [PyData.shown]; exact .of_is (ReprIs.int t (by simpa only [PyData.showable, decide_eq_true_eq] using s)) _ _ _⟩
  | _, _, .str x t, _, l => ⟨[], (fun _ q => nomatch q), by simp only [PyData.shown] at l ⊢; exact .of_is (ReprIs.str x t l) _ _ _⟩
  | _, _, .lst (its := its) ho hc hd r, s, l => by
    simp only [PyData.shown, PyData.showable, PyData.depth] at s l ⊢
    obtain ⟨bs, hb, q⟩ := RqA.k (P := P) (w := w) r s fun t ht => Nat.le_trans (listText_mem_le ht) l
    obtain ⟨as, rr⟩ := (Rq.lst ho hc hd r).rd
    have na := not_mem_of_deeper rr (by simp only [PyData.depth]; exact Nat.lt_succ_self _) hb
    refine ⟨_ :: bs, .cons rr (by simp only [PyData.depth]; exact Nat.le_succ _) hb, ?_⟩
    obtain ⟨xs⟩ := its
    cases xs with
    | nil =>
      cases r
      exact .listEmpty ho hc hd
    | cons x xs => exact .list ho hc hd na (by simpa using q.length_eq) fun i y e => q.item i y (by simpa using e)
  | _, _, .tup ho hc hd r, s, l => by
    simp only [PyData.shown, PyData.showable, PyData.depth] at s l ⊢
    obtain ⟨bs, hb, q⟩ := RqA.k (P := P) (w := w) r s fun t ht => Nat.le_trans (tupleText_mem_le ht) l
    obtain ⟨as, rr⟩ := (Rq.tup ho hc hd r).rd
    exact ⟨_ :: bs, .cons rr (by simp only [PyData.depth]; exact Nat.le_succ _) hb, .tuple ho hc hd (not_mem_of_deeper rr (by simp only [PyData.depth]; exact Nat.lt_succ_self _) hb) q⟩
  | _, _, .dct ho hc hd hs r, s, l => by
    simp only [PyData.shown, PyData.showable, PyData.depth] at s l ⊢
    obtain ⟨bs, hb, q⟩ := RqK.k (P := P) (w := w) r s fun t ht => Nat.le_trans (dictText_mem_le ht) l
    obtain ⟨as, rr⟩ := (Rq.dct ho hc hd hs r).rd
    exact ⟨_ :: bs, .cons rr (by simp only [PyData.depth]; exact Nat.le_succ _) hb, .dict ho hc hd hs (not_mem_of_deeper rr (by simp only [PyData.depth]; exact Nat.lt_succ_self _) hb) q⟩
theorem RqA.k {P : Program} {w : World} : ∀ {vs : List Value} {ds : List PyData}, RqA h vs ds → PyData.showableAll ds = true → (∀ t ∈ PyData.shownAll ds, t.length ≤ sizeLine) → ∃ bs, ReadAtMost h (PyData.depthAll ds) bs ∧ ReprAllK P w bs h (PyData.depthAll ds) vs (PyData.shownAll ds)
  | _, _, .nil, _, _ => ⟨[], (fun _ q => nomatch q), by simp only [PyData.shownAll]; exact .nil⟩
  | _, _, .cons r rs, s, l => by
    simp only [PyData.showableAll, Bool.and_eq_true] at s
    simp only [PyData.shownAll, PyData.depthAll] at l ⊢
    obtain ⟨b1, h1, q1⟩ := Rq.k (P := P) (w := w) r s.1 (l _ List.mem_cons_self)
    obtain ⟨b2, h2, q2⟩ := RqA.k (P := P) (w := w) rs s.2 fun t ht => l t (List.mem_cons_of_mem _ ht)
    exact ⟨b1 ++ b2, most_of h1 h2, .cons ((q1.more fun b => List.mem_append_left _).level_le (Nat.le_max_left _ _)) (q2.more_le (fun b => List.mem_append_right _) (Nat.le_max_right _ _))⟩
theorem RqK.k {P : Program} {w : World} : ∀ {es : List DictEntry} {ks : List (PyData × PyData)}, RqK h es ks → PyData.showableKv ks = true → (∀ t ∈ PyData.shownKv ks, t.length ≤ sizeLine) → ∃ bs, ReadAtMost h (PyData.depthKv ks) bs ∧ ReprEntriesK P w bs h (PyData.depthKv ks) es (PyData.shownKv ks)
  | _, _, .nil, _, _ => ⟨[], (fun _ q => nomatch q), by simp only [PyData.shownKv]; exact .nil⟩
  | _, _, .cons rk rv rs, s, l => by
    simp only [PyData.showableKv, Bool.and_eq_true] at s
    simp only [PyData.shownKv, PyData.depthKv] at l ⊢
    have l1 := kv_len (l _ List.mem_cons_self)
    obtain ⟨b1, h1, q1⟩ := Rq.k (P := P) (w := w) rk s.1.1 l1.1
    obtain ⟨b2, h2, q2⟩ := Rq.k (P := P) (w := w) rv s.1.2 l1.2
    obtain ⟨b3, h3, q3⟩ := RqK.k (P := P) (w := w) rs s.2 fun t ht => l t (List.mem_cons_of_mem _ ht)
    refine ⟨(b1 ++ b2) ++ b3, most_of (most_of h1 h2) h3, .cons ((q1.more fun b z => List.mem_append_left _ (List.mem_append_left _ z)).level_le ?_) ((q2.more fun b z => List.mem_append_left _ (List.mem_append_right _ z)).level_le ?_) (entries_more (fun b => List.mem_append_right _) (Nat.le_max_right _ _) q3)⟩
    all_goals omega
end
/-- a shown thing of the heap -/
theorem Rq.by_ {P : Program} {w : World} {a : Addr} {d : PyData} (r : Rq h (.ref a) d) (sh : d.showable = true) (l : d.shown.length ≤ sizeLine) : ∃ T idr, ShowsBy P w h a d T idr := by
  obtain ⟨as, rr⟩ := r.rd
  cases r with
  | @lst _ o its n ds ho hc hd r =>
    simp only [PyData.shown, PyData.showable] at sh l
    obtain ⟨bs, hb, q⟩ := RqA.k (P := P) (w := w) r sh fun t ht => Nat.le_trans (listText_mem_le ht) l
    have na := not_mem_of_deeper rr (by simp only [PyData.depth]; exact Nat.lt_succ_self _) hb
    refine ⟨"list", "list.__repr__", F.slot_list_repr.toG, F.slot_list_str, F.slot_list_format, fun s k => ⟨o, k _ _ ho, hc⟩, fun A E s Q gd u k z => ?_⟩
    simp only [PyData.shown, PyData.depth] at u z
    obtain ⟨xs⟩ := its
    cases xs with
    | nil =>
      cases r
      exact call_list_repr_empty ⟨o, k _ _ ho, hc⟩ (k _ _ ho) hd (z s.heap _ _ fun _ _ e => e)
    | cons x xs => exact call_list_reprK ho hc hd na (by simpa using q.length_eq) (fun i y e => q.item i y (by simpa using e)) gd (fun b _ => Clear.nil b) u k z l
  | @tup _ o its n ds ho hc hd r =>
    simp only [PyData.shown, PyData.showable] at sh l
    obtain ⟨bs, hb, q⟩ := RqA.k (P := P) (w := w) r sh fun t ht => Nat.le_trans (tupleText_mem_le ht) l
    have na := not_mem_of_deeper rr (by simp only [PyData.depth]; exact Nat.lt_succ_self _) hb
    refine ⟨"tuple", "tuple.__repr__", F.slot_tuple_repr, F.slot_tuple_str, F.slot_tuple_format, fun s k => ⟨o, k _ _ ho, hc⟩, fun A E s Q gd u k z => ?_⟩
    simp only [PyData.shown, PyData.depth] at u z
    exact call_tuple_reprK ho hc hd na q gd (fun b _ => Clear.nil b) u k z l
  | @dct _ o es n ks ho hc hd hs r =>
    simp only [PyData.shown, PyData.showable] at sh l
    obtain ⟨bs, hb, q⟩ := RqK.k (P := P) (w := w) r sh fun t ht => Nat.le_trans (dictText_mem_le ht) l
    have na := not_mem_of_deeper rr (by simp only [PyData.depth]; exact Nat.lt_succ_self _) hb
    refine ⟨"dict", "dict.__repr__", F.slot_dict_repr, F.slot_dict_str, F.slot_dict_format, fun s k => ⟨o, k _ _ ho, hc⟩, fun A E s Q gd u k z => ?_⟩
    simp only [PyData.shown, PyData.depth] at u z
    exact call_dict_reprK ho hc hd hs na q gd (fun b _ => Clear.nil b) u k z l
theorem repr_rq {P : Program} {w : World} {A : Around} {E : Value → Shared → Prop} {s : Shared} {Q : Value → Shared → Prop} {a : Addr} {d : PyData} (r : Rq s.heap (.ref a) d) (sh : d.showable = true) (l : d.shown.length ≤ sizeLine) (gd : A.guards = some []) (u : A.units + (d.depth + 1) < cLine)
    (z : ∀ h' t tk, (∀ b o, s.heap.get? b = some o → h'.get? b = some o) → Q (.str d.shown t) { s with heap := h', toks := tk }) : wpAny (model P w) A (call (.builtin "repr") [.ref a]) Q E s := by
  obtain ⟨T, idr, S⟩ := r.by_ (P := P) (w := w) sh l
  refine call_repr_slot (by omega) (S.typeIs s fun _ _ e => e) S.slotRepr (S.call A.in1 E s _ gd ?_ (fun _ _ e => e) fun h' t tk k => ⟨_, _, rfl, z h' t tk k⟩)
  show A.units + 1 + d.depth < cLine
  omega
end
/-! ### the abstract side -/
def keyP : Key → PyData
  | .inl i => .int i
  | .inr x => .str x
mutual
inductive Dq (K : PySem.W.Frag) (H : Hp) : V → PyData → Prop
  | non : Dq K H .non .none
  | bl (b : Bool) : Dq K H (.bl b) (.bool b)
  | int (i : Int) : Dq K H (.int i) (.int i)
  | str (x : Str) : Dq K H (.str x) (.str x)
  | lst {a : Addr} {xs : List V} {ds : List PyData} (h : SqL K H a xs) (r : DqA K H xs ds) : Dq K H (.ref a) (.list ds)
  | tup {a : Addr} {xs : List V} {ds : List PyData} (h : SqT K H a xs) (r : DqA K H xs ds) : Dq K H (.ref a) (.tuple ds)
  | dct {a : Addr} {kvs : List (Key × V)} {ks : List (PyData × PyData)} (h : Rd H a (.dK kvs)) (r : DqK K H kvs ks) : Dq K H (.ref a) (.dict ks)
inductive DqA (K : PySem.W.Frag) (H : Hp) : List V → List PyData → Prop
  | nil : DqA K H [] []
  | cons {v : V} {vs : List V} {d : PyData} {ds : List PyData} (r : Dq K H v d) (rs : DqA K H vs ds) : DqA K H (v :: vs) (d :: ds)
inductive DqK (K : PySem.W.Frag) (H : Hp) : List (Key × V) → List (PyData × PyData) → Prop
  | nil : DqK K H [] []
  | cons {k : Key} {v : V} {vs : List (Key × V)} {d : PyData} {ks : List (PyData × PyData)} (r : Dq K H v d) (rs : DqK K H vs ks) : DqK K H ((k, v) :: vs) ((keyP k, d) :: ks)
end
section
variable {X : Cx} {pins : List (Addr × Obj)} {σ : St} {H : Hp} {s : Shared}
theorem key_rq {h : Heap} {k : Key} {u : Value} (e : keyIs k u = true) : Rq h u (keyP k) := by
  rcases keyIs_shape e with ⟨i, t, rfl, rfl⟩ | ⟨x, t, rfl, rfl⟩
  · exact .int i t
  · exact .str x t
mutual
theorem Dq.rq (I : Inv X pins σ H s) : ∀ {v : V} {d : PyData}, Dq X.K H v d → ∀ (u : Value), RelV v u → Rq s.heap u d
  | _, _, .non, _, r => by
    cases r
    exact .non
  | _, _, .bl b, _, r => by
    cases r
    exact .bl b
  | _, _, .int i, _, r => by
    obtain ⟨t, rfl⟩ := r
    exact .int i t
  | _, _, .str x, _, r => by
    obtain ⟨t, rfl⟩ := r
    exact .str x t
  | _, _, .lst h q, _, r => by
    cases r
    obtain ⟨its, rv, ⟨o, n, ho, hc, _, hd⟩, _⟩ := I.list h
    exact .lst ho hc hd (DqA.rq I q _ rv)
  | _, _, .tup h q, _, r => by
    cases r
    obtain ⟨its, rv, ⟨o, ho, hc, n, hd⟩, _⟩ := I.tuple h
    exact .tup ho hc hd (DqA.rq I q _ rv)
  | _, _, .dct h q, _, r => by
    cases r
    obtain ⟨_, lo, vs, rel, o, es, ep, ho, hx, hd, _, hp, _⟩ := dk_rd I.hok h
    exact .dct ho hx.1 hd lo (DqK.rq I q _ _ rel hp)
theorem DqA.rq (I : Inv X pins σ H s) : ∀ {vs : List V} {ds : List PyData}, DqA X.K H vs ds → ∀ (us : List Value), Vals vs us → RqA s.heap us ds
  | _, _, .nil, _, r => by
    cases r
    exact .nil
  | _, _, .cons q qs, _, r => by
    cases r with
    | cons r1 r2 => exact .cons (Dq.rq I q _ r1) (DqA.rq I qs _ r2)
theorem DqK.rq (I : Inv X pins σ H s) : ∀ {vs : List (Key × V)} {ks : List (PyData × PyData)}, DqK X.K H vs ks → ∀ (us : List (Key × Value)) (es : List DictEntry), KV vs us → Pairs (mixKind X.prog X.w) es us → RqK s.heap es ks
  | _, _, .nil, _, _, r, p => by
    cases r
    cases p
    exact .nil
  | _, _, .cons q qs, _, _, r, p => by
    cases r with
    | cons r1 r2 =>
      cases p with
      | cons p1 p2 p3 =>
        obtain ⟨e1, e2⟩ := r1
        refine .cons (key_rq ?_) ?_ (DqK.rq I qs _ _ r2 p3)
        · simp only at e1
          rw [e1]
          exact p1
        · rw [p2]
          exact Dq.rq I q _ e2
end
end
/-! ### data -/
mutual
def pyR : D → Option PyData
  | .non => some .none
  | .bl b => some (.bool b)
  | .int i => some (.int i)
  | .str x => some (.str x)
  | .tup xs => (pyRs xs).map .tuple
  | .ptup xs => (pyRs xs).map .tuple
  | .lst xs => (pyRs xs).map .list
  | .dct ks => (pyRk ks).map .dict
  | _ => none
def pyRs : List D → Option (List PyData)
  | [] => some []
  | d :: ds => match pyR d, pyRs ds with
    | some e, some es => some (e :: es)
    | _, _ => none
def pyRk : List (Key × D) → Option (List (PyData × PyData))
  | [] => some []
  | (k, d) :: ds => match pyR d, pyRk ds with
    | some e, some es => some ((keyP k, e) :: es)
    | _, _ => none
end
def pyRAt (mu : Mu) : D → Option PyData
  | .loc n => match mu[n]? with
    | some (.lst xs) => (pyRs xs).map .list
    | some (.dct ks) => (pyRk ks).map .dict
    | _ => none
  | d => pyR d
theorem dmap_some {α β : Type} {o : Option α} {f : α → β} {y : β} (h : o.map f = some y) : ∃ x, o = some x ∧ y = f x := by
  cases o with
  | none => cases h
  | some x => exact ⟨x, rfl, (Option.some.inj h).symm⟩
section
variable {al : Ad} {H : Hp} {ca : Str → Addr} {K : PySem.W.Frag}
mutual
theorem dq_of : ∀ (d : D) (v : V) (e : PyData), pyR d = some e → Rep K ca al H d v → Dq K H v e
  | .non, v, e, h, r => by
    simp only [pyR] at h
    cases h
    rw [rep_non r]
    exact .non
  | .bl b, v, e, h, r => by
    simp only [pyR] at h
    cases h
    rw [rep_bl r]
    exact .bl b
  | .int b, v, e, h, r => by
    simp only [pyR] at h
    cases h
    rw [rep_int r]
    exact .int b
  | .str b, v, e, h, r => by
    simp only [pyR] at h
    cases h
    rw [rep_str r]
    exact .str b
  | .tup xs, v, e, h, r => by
    simp only [pyR] at h
    obtain ⟨es, q, rfl⟩ := dmap_some h
    obtain ⟨a, vs, rfl, e2, e3⟩ := rep_tup r
    exact .tup e2 (dqs_of xs vs es q e3)
  | .ptup xs, v, e, h, r => by
    simp only [pyR] at h
    obtain ⟨es, q, rfl⟩ := dmap_some h
    obtain ⟨a, vs, rfl, e2, e3⟩ := rep_ptup r
    exact .tup e2 (dqs_of xs vs es q e3)
  | .lst xs, v, e, h, r => by
    simp only [pyR] at h
    obtain ⟨es, q, rfl⟩ := dmap_some h
    simp only [Rep] at r
    obtain ⟨a, vs, rfl, e2, _, e3⟩ := r
    exact .lst (.of e2) (dqs_of xs vs es q e3)
  | .dct xs, v, e, h, r => by
    simp only [pyR] at h
    obtain ⟨es, q, rfl⟩ := dmap_some h
    simp only [Rep] at r
    obtain ⟨a, vs, rfl, e2, _, e3⟩ := r
    exact .dct e2 (dqk_of xs vs es q e3)
  | .obj _ _, _, _, h, _ => by simp only [pyR] at h; cases h
  | .loc _, _, _, h, _ => by simp only [pyR] at h; cases h
  | .cls _, _, _, h, _ => by simp only [pyR] at h; cases h
  | .scr _, _, _, h, _ => by simp only [pyR] at h; cases h
  | .ty _, _, _, h, _ => by simp only [pyR] at h; cases h
  | .exc _ _, _, _, h, _ => by simp only [pyR] at h; cases h
  | .tab _, _, _, h, _ => by simp only [pyR] at h; cases h
  | .fnv _, _, _, h, _ => by simp only [pyR] at h; cases h
theorem dqs_of : ∀ (ds : List D) (vs : List V) (es : List PyData), pyRs ds = some es → Reps K ca al H ds vs → DqA K H vs es
  | [], vs, es, h, r => by
    simp only [pyRs] at h
    cases h
    have e : vs = [] := by simpa only [Reps] using r
    rw [e]
    exact .nil
  | d :: ds, vs, es, h, r => by
    simp only [pyRs] at h
    simp only [Reps] at r
    obtain ⟨v, ws, rfl, r1, r2⟩ := r
    cases q : pyR d with
    | none => rw [q] at h; cases h
    | some e =>
      cases q2 : pyRs ds with
      | none => rw [q, q2] at h; cases h
      | some es' =>
        rw [q, q2] at h
        cases h
        exact .cons (dq_of d v e q r1) (dqs_of ds ws es' q2 r2)
theorem dqk_of : ∀ (ds : List (Key × D)) (vs : List (Key × V)) (es : List (PyData × PyData)), pyRk ds = some es → RepK K ca al H ds vs → DqK K H vs es
  | [], vs, es, h, r => by
    simp only [pyRk] at h
    cases h
    have e : vs = [] := by simpa only [RepK] using r
    rw [e]
    exact .nil
  | (k, d) :: ds, vs, es, h, r => by
    simp only [pyRk] at h
    simp only [RepK] at r
    obtain ⟨v, ws, rfl, r1, r2⟩ := r
    cases q : pyR d with
    | none => rw [q] at h; cases h
    | some e =>
      cases q2 : pyRk ds with
      | none => rw [q, q2] at h; cases h
      | some es' =>
        rw [q, q2] at h
        cases h
        exact .cons (dq_of d v e q r1) (dqk_of ds ws es' q2 r2)
end
end
theorem dq_at {g : Gm} {dl : Lo} {mu : Mu} {T : List (V × D)} {sg : St} {H : Hp} {al : Ad} (q : RelA g al dl mu T sg H) {d : D} {v : V} {e : PyData} (h : pyRAt mu d = some e) (r : Rep g.K g.ca al H d v) : Dq g.K H v e := by
  cases d with
  | loc n =>
    simp only [pyRAt] at h
    cases em : mu[n]? with
    | none => rw [em] at h; cases h
    | some c =>
      rw [em] at h
      cases c with
      | lst xs =>
        simp only at h
        obtain ⟨es, qq, rfl⟩ := dmap_some h
        obtain ⟨a, vs, rfl, e2, e3⟩ := q.lst r (ds := xs) (by simp only [asL, em])
        exact .lst e2 (dqs_of xs vs es qq e3)
      | dct xs =>
        simp only at h
        obtain ⟨es, qq, rfl⟩ := dmap_some h
        obtain ⟨a, vs, rfl, e2, e3⟩ := q.dct r (kvs := xs) (by simp only [dctOf, em])
        exact .dct e2 (dqk_of xs vs es qq e3)
      | _ => cases h
  | non => exact dq_of _ _ _ h r
  | bl _ => exact dq_of _ _ _ h r
  | int _ => exact dq_of _ _ _ h r
  | str _ => exact dq_of _ _ _ h r
  | tup _ => exact dq_of _ _ _ h r
  | ptup _ => exact dq_of _ _ _ h r
  | lst _ => exact dq_of _ _ _ h r
  | dct _ => exact dq_of _ _ _ h r
  | _ => simp only [pyRAt, pyR] at h; cases h
end VL

/-! VsRep: repr of data. -/
namespace VL
open PySem PySem.Spec PyProof.Rows L2
section
variable {X : Cx} {g : Gm} {a b e : Expr} {ta tb : TEd} {pos p : Pos} {t : TAd} {k : Nat}
def rRepr (K : PySem.W.Frag) : List V → Hp → VK → Prop := fun xs H Q => ∃ v d, xs = [v] ∧ Dq K H v d ∧ d.showable = true ∧ d.depth < 30 ∧ d.shown.length ≤ sizeLine ∧ Q (.str d.shown) H
theorem call_reprD (hg : X.A.guards = some []) (hu : X.A.units + 64 < cLine) : CallR X (.builtin "repr") (rRepr X.K) := by
  intro pins s sg H xs us Q I r h
  obtain ⟨v, d, rfl, hd, hs, hdp, hz, q⟩ := h
  obtain ⟨u, rfl, ru⟩ := vals1 r
  have rd := hd.rq I u ru
  have key : ∀ l : Addr, u = .ref l → wpAny (model X.prog X.w) X.A (call (.builtin "repr") [u]) (EP X pins sg Q) X.xe s := fun l el => by
    subst el
    exact repr_rq rd hs hz hg (by omega) fun h1 t1 tk kp => ⟨.str d.shown, H, I.kept (t' := tk) kp, ⟨_, rfl⟩, q⟩
  cases hd with
  | non =>
    cases ru
    exact PySem.P.repr_of_none ⟨.str _, H, I.tok _, ⟨_, rfl⟩, q⟩
  | bl x =>
    cases ru
    exact PySem.P.repr_of_bool ⟨.str _, H, I.tok _, ⟨_, rfl⟩, q⟩
  | int i =>
    obtain ⟨t1, rfl⟩ := ru
    have hi : i.natAbs.log2 < 1920 := by simpa only [PyData.showable, decide_eq_true_eq] using hs
    exact PySem.P.repr_of_int hi ⟨.str _, H, I.tok _, ⟨_, rfl⟩, q⟩
  | str x =>
    obtain ⟨t1, rfl⟩ := ru
    exact PySem.P.repr_of_str ⟨.str _, H, I.tok _, ⟨_, rfl⟩, q⟩ hz
  | lst h1 h2 =>
    cases ru
    exact key _ rfl
  | tup h1 h2 =>
    cases ru
    exact key _ rfl
  | dct h1 h2 =>
    cases ru
    exact key _ rfl
@[irreducible] def reprD (mu : Mu) : List D → Option (Prop × D)
  | [d] => match pyRAt mu d with
    | some y => some (y.showable = true ∧ y.depth < 30 ∧ y.shown.length ≤ sizeLine, .str y.shown)
    | none => none
  | _ => none
theorem pd_repr (hK : X.K = g.K) (hr : Room k X.A) (hgd : X.A.guards = some []) (hg : Gl X "repr") (hm : X.mg "repr" = none) (ha : QA X g [a] t) (he : starEach [a] X.env = (false, eval a X.env) :: starEach [] X.env := by rfl) : PD X g (.Call (.Name "repr" p) [a] [] pos) (dB (gOf reprD) t) :=
  pd_blt (call_reprD hgd hr.units) (cr_by fun dl mu T sg H vs ds c d Q al q k e hc z => by
    unfold reprD at e
    split at e
    · split at e
      · rename_i y e1
        cases e
        obtain ⟨v, rfl, k1⟩ := one_of k
        exact ⟨v, y, rfl, by rw [hK]; exact dq_at q e1 k1, hc.1, hc.2.1, hc.2.2, z _ _ (q.scal rfl)⟩
      · cases e
    · cases e) gOf_m hg hm (by decide +kernel) ha (by decide) (by decide) he
end
end VL

/-! VsEnd: from the law's promise over data to the law's end. -/
namespace VL
open PySem PySem.Spec PyProof.Rows L2
/-- what the law promises: True, for every script of at most n numbers -/
def LawSp (n : Nat) (S : SpD) : Prop := ∀ ns : List Int, ns.length ≤ n → S [.scr ns] [] (fun d _ => d = .bl true) fun _ _ _ => False
theorem law_sp {K : PySem.W.Frag} {ca : Str → Addr} {n : Nat} {S : SpD} (gs : GoodSp S) (h : LawSp n S) {H : Hp} {a : Addr} {ns : List Int} (hl : ns.length ≤ n) (sq : SqL K H a (ns.map V.int)) : spOf K ca S [.ref a] H (fun v _ => v = .bl true) fun _ _ _ => False := by
  refine ⟨⟨[], []⟩, [.scr ns], [], ⟨List.nodup_nil, rfl, fun _ h => h, fun _ h => (List.not_mem_nil h).elim, fun _ h => (List.not_mem_nil h).elim, fun _ _ _ h => by simp at h⟩, ?_, gs.e _ _ _ _ _ (fun _ _ _ z => z.elim) (gs.q _ _ _ _ _ (fun d m z v H' al' _ _ r => ?_) (h ns hl))⟩
  · simp only [Reps]
    refine ⟨.ref a, [], rfl, ?_, rfl⟩
    simp only [Rep]
    refine ⟨a, rfl, ?_⟩
    rcases sq with sq | sq
    · exact .inl ⟨sq, by simp⟩
    · exact .inr sq
  · rw [z] at r
    exact rep_bl r
section
variable {P : Program} {w : World} {K : PySem.W.Frag} {mg mb : Str → Option Value} {CX : CXT} {k : Nat} {fa a : Addr} {fd : FuncData} {x : Str} {sp : Sp} {st : Shared} {vs : List Value} {ns : List Int}
/-- the abstract heap at the law's call: the script alone, if at all -/
structure AtCall (P : Program) (w : World) (K : PySem.W.Frag) (st : Shared) (a : Addr) (H : Hp) : Prop where
  frz : ∀ b u, H b = some u → b = a ∧ ∃ o xs, u = .frz o (.lst xs)
  off : ∀ u, H a = some u → K.lookup a = none
  hok : HOk P w H st.heap
theorem AtCall.none_of {H : Hp} (t : AtCall P w K st a H) (ha : st.heap.get? a = some { cls := .type "list", data := .seq vs.toArray }) {b : Addr} {o : Obj} (e : st.heap.get? b = some o) (hd : ∀ q n, o.data ≠ .seq q n) : H b = none := by
  cases hb : H b with
  | none => rfl
  | some u =>
    obtain ⟨rfl, _⟩ := t.frz b u hb
    rw [ha] at e
    cases e
    exact absurd rfl (hd _ _)
theorem AtCall.run {H : Hp} (t : AtCall P w K st a H) (ha : st.heap.get? a = some { cls := .type "list", data := .seq vs.toArray }) (kin : K.In st.heap) (gn : st.heap.Ns mainGlobals mg) (bn : st.heap.Ns builtinsNs mb) (bb : ∀ y : Str, y ≠ "__name__" → mb y = bootBuiltins y) (nl : st.heap.NoLimit) (g0 : st.gens = #[])
    (room : Room k callerA) (F : ∀ base : Heap, K.In base → base.Ns mainGlobals mg → FnG P w K mg base CX k fa fd [x] sp) (bind : Binds K fd [x] []) (prom : sp [.ref a] H (fun v _ => v = .bl true) fun _ _ _ => False)
    (nox : ∀ H e s2, CX [] H st (fun _ _ _ => False) e s2 → False) :
    codeAny (model P w) callerA (.call (.ref fa) ⟨[.ref a], []⟩) (fun r s2 => r = .ok (.ret (.bool true)) ∧ OldK st.heap s2.heap ∧ s2.os = st.os ∧ AllBare s2.gens) st := by
  have nsOk : ∀ {b : Addr} {m : Str → Option Value}, st.heap.Ns b m → (hidT st.heap H).Ns b m := by
    rintro b m ⟨o, es, ep, e, d, r⟩
    exact ⟨o, es, ep, hidT_get e (t.none_of ha e fun q n z => by rw [d] at z; cases z), d, r⟩
  have kb : K.In (hidT st.heap H) := fun b o e => by
    refine hidT_get (kin b o e) ?_
    cases hb : H b with
    | none => rfl
    | some u =>
      obtain ⟨rfl, _⟩ := t.frz b u hb
      rw [t.off u hb] at e
      cases e
  obtain ⟨mc, l1, l2⟩ := nl
  have md : Mod K mg (hidT st.heap H) := ⟨kb, nsOk gn, ⟨mb, nsOk bn, bb⟩, mc, nsOk l1, l2⟩
  have env : Env0 P w K mg (hidT st.heap H) callerA [] st H := by
    refine ⟨rfl, md, fun b o e => of_hidT e, Nat.le_of_eq (hidT_size _ _), trivial, fun b hb => ?_, t.hok, .of_eq g0⟩
    exact (List.not_mem_nil (show b ∈ ([] : List Addr) from hb)).elim
  refine codeAny_mono ((F _ kb (nsOk gn)).run callerA [] st H ⟨[.ref a], []⟩ [.ref a] [.ref a] _ _ room rfl env (by simpa using bind st [.ref a] kin rfl) (.cons rfl .nil) prom) fun res s2 out => ?_
  match res, out with
  | .error er, out => exact (nox H er s2 out).elim
  | .ok .next, out => exact out.elim
  | .ok .brk, out => exact out.elim
  | .ok .cont, out => exact out.elim
  | .ok (.ret u), out =>
    obtain ⟨v, H2, os2, bare2, un, hok2, rel, ev⟩ := out
    have ev2 : v = .bl true := ev
    subst ev2
    obtain rfl : u = Value.bool true := rel
    refine ⟨rfl, OldK.of_keep fun b o e => ?_, os2, bare2⟩
    cases hb : H b with
    | none => exact un.keep b o e hb (fun z => (List.not_mem_nil (show b ∈ ([] : List Addr) from z)).elim) (by simp)
    | some y =>
      obtain ⟨_, ob, xs, rfl⟩ := t.frz b y hb
      have old := (t.hok b _ hb).1
      rw [e] at old
      cases old
      exact (hok2 b _ (un.frzs b o _ hb)).1
theorem law_end (ha : st.heap.get? a = some { cls := .type "list", data := .seq vs.toArray }) (hin : IntsAre vs ns) (len : ns.length ≤ sizeLine) (kin : K.In st.heap) (gn : st.heap.Ns mainGlobals mg) (bn : st.heap.Ns builtinsNs mb) (bb : ∀ y : Str, y ≠ "__name__" → mb y = bootBuiltins y) (nl : st.heap.NoLimit) (g0 : st.gens = #[])
    (room : Room k callerA) (F : ∀ base : Heap, K.In base → base.Ns mainGlobals mg → FnG P w K mg base CX k fa fd [x] sp) (bind : Binds K fd [x] []) (prom : ∀ H : Hp, SqL K H a (ns.map V.int) → sp [.ref a] H (fun v _ => v = .bl true) fun _ _ _ => False)
    (nox : ∀ H e s2, CX [] H st (fun _ _ _ => False) e s2 → False) :
    codeAny (model P w) callerA (.call (.ref fa) ⟨[.ref a], []⟩) (fun r s2 => r = .ok (.ret (.bool true)) ∧ OldK st.heap s2.heap ∧ s2.os = st.os ∧ AllBare s2.gens) st := by
  have vals := vals_ints hin
  have size := hin.length
  cases look : K.lookup a with
  | some o =>
    have same := kin a o look
    rw [ha] at same
    cases same
    have t : AtCall P w K st a (fun _ => none) := ⟨fun b u z => (by cases z), fun u z => (by cases z), fun b u z => (by cases z)⟩
    exact t.run ha kin gn bn bb nl g0 room F bind (prom _ (.inr ⟨_, vs.toArray, _, look, rfl, rfl, rfl, by rw [List.size_toArray, size]; exact len, by simpa using vals⟩)) nox
  | none =>
    have t : AtCall P w K st a (upd (fun _ => none) a (.frz { cls := .type "list", data := .seq vs.toArray } (.lst (ns.map V.int)))) := by
      refine ⟨fun b u z => ?_, fun _ _ => look, fun b u z => ?_⟩
      all_goals
        by_cases hb : b = a
        · subst hb
          rw [upd_same] at z
          cases z
          first | exact ⟨rfl, _, _, rfl⟩ | exact ⟨ha, by rw [List.length_map]; exact len, vs, _, vals, ha⟩
        · rw [upd_ne hb] at z
          cases z
    exact t.run ha kin gn bn bb nl g0 room F bind (prom _ (.inl (.inr ⟨_, upd_same⟩))) nox
end
/-- the goal that the head leaves -/
theorem walk_end {l : PySem.W.OpenLaw} {n k : Nat} {q : Program} {loose : List Str} {XP : (Str → Option Value) → Heap → Prop} {YP : World → Heap → Prop} {d : DefRec} {x : Str} {S : SpD}
    (hn : l.most = some n) (hn2 : n ≤ sizeLine) (hdf : d.params.defaults = []) (room : Room k callerA) (gs : GoodSp S) (ls : LawSp n S)
    (F : ∀ (w : World) (mg : Str → Option Value) (fa : Addr) (h : Heap), YP w h → h.Ns mainGlobals mg → mg d.name = some (.ref fa) →
      ∃ (K : PySem.W.Frag) (fd : FuncData) (ca : Str → Addr), K.In h ∧ Binds K fd [x] [] ∧ ∀ base : Heap, K.In base → base.Ns mainGlobals mg → FnG l.prog w K mg base (L2.CX l.prog w) k fa fd [x] (spOf K ca S)) :
    PySem.W.WalkO q loose XP YP l.row.toRowW d [] (fun f vs => PySem.call f vs) := by
  refine Att.attach_call hn hdf fun w s0 s1 mg mb fa o pm cd doc a vs ns G Y ho hd hcd hmg hobj hints hlen hg => ?_
  obtain ⟨K, fd, ca, kin, bind, fin⟩ := F w mg fa _ Y G.T.g hmg
  refine law_end hobj hints (Nat.le_trans hlen hn2) kin G.T.g G.T.b G.T.builtins G.T.nolimit hg room fin bind (fun H sq => law_sp gs ls hlen sq) fun H e s2 z => ?_
  obtain ⟨_, _, _, _, _, _, _, _, _, _, _, _, z⟩ := z
  exact z
/-! ### the head's facts, and one more Bool -/
def obsQ (n : Nat) (fa : List He.Fa) (fn : List He.DefD) (ex : PySem.W.Frag → Bool) (r : Addr → Option Obj) : Bool × He.AlD := (ex (He.frG r (He.asD r n)), He.obsDG n fa fn r)
def hookQ (n : Nat) (fa : List He.Fa) (fn : List He.DefD) (ex : PySem.W.Frag → Bool) : PySem.W.Hook where
  α := Bool × He.AlD
  obs := fun s => obsQ n fa fn ex s.heap.get?
  val := fun _ => (true, He.valD fn)
  says := fun _ h => ∃ K : PySem.W.Frag, K.In h ∧ He.SaysD fa fn K ∧ ex K = true
  of := fun _ _ e => ⟨_, He.frG_in, congrArg Prod.snd e, congrArg Prod.fst e⟩
  keeps := fun _ _ _ ⟨K, hK, c⟩ k => ⟨K, PySem.W.Frag.In.keeps hK k, c⟩
theorem obsQ_eq {n : Nat} {fa : List He.Fa} {fn : List He.DefD} {ex : PySem.W.Frag → Bool} {r : Addr → Option Obj} {s : Shared} (h : ∀ a, r a = s.heap.get? a) : obsQ n fa fn ex r = (hookQ n fa fn ex).obs s := by
  have e : r = s.heap.get? := funext h
  rw [e]
  rfl
theorem fun_at {K : PySem.W.Frag} {x qual : Str} {st : Stmt} {f : Addr} {fd : FuncData} {kws : List (Str × V)} (F : FunD K x qual (defArgs st) (defBody st) (defScope st) [] kws f fd) : Fun K x qual st f fd := by
  obtain ⟨⟨oc, od, dV, kV, doc, pm, an, cdv, ct, osl, e, lk, cd, hd, hk⟩, kp⟩ := F
  rcases hd with ⟨_, h1⟩ | ⟨h1, _⟩
  · subst h1
    exact ⟨⟨oc, od, kV, doc, pm, an, cdv, ct, osl, e, lk, cd⟩, kp⟩
  · exact absurd rfl h1
end VL

/-! VsU: promises by an outcome; promises of a def that draws from a purse. -/
namespace VL
open PySem PySem.Spec PyProof.Rows L2
theorem smallLt {n : Nat} (h : n ≤ 99999) : n < sizeLine := small (show n + 1 ≤ 100000 by omega)
theorem small6 {n : Nat} (h : n ≤ 1000000) : n ≤ sizeLine := Nat.le_trans h (by decide)
theorem small6Lt {n : Nat} (h : n ≤ 999999) : n < sizeLine := small6 (show n + 1 ≤ 1000000 by omega)
theorem log2_small {i : Int} (h0 : 0 ≤ i) (h1 : i ≤ 10 ^ 40) : i.natAbs.log2 < 1920 := by
  by_cases h : i.natAbs = 0
  · rw [h]; decide
  · rw [Nat.log2_lt h]
    have : i.natAbs ≤ 10 ^ 40 := by omega
    exact Nat.lt_of_le_of_lt this (by decide +kernel)
theorem app_len (x y : Str) : (x ++ y).length = x.length + y.length := by
  rw [TL.len_tl, TL.len_tl, TL.len_tl, TL.tl_append, List.length_append]
inductive Out where
  | ok (d : D)
  | err (c : Str) (fs : List (Str × D))
def outK (o : Out) (mu : Mu) (Q : KD) (E : EdF) : Prop := match o with
  | .ok d => Q d mu
  | .err c fs => ∀ ms : Mu, E c fs (mu ++ ms)
theorem outK.mono {o : Out} {mu : Mu} {Q Q' : KD} {E E' : EdF} (hQ : ∀ d m, Q d m → Q' d m) (hE : ∀ c fs m, E c fs m → E' c fs m) (h : outK o mu Q E) : outK o mu Q' E' := by
  cases o with
  | ok d => exact hQ _ _ h
  | err c fs => exact fun ms => hE _ _ _ (h ms)
@[irreducible] def spU (n : Nat) (r : List D → Out → Prop) : SpD := fun ds mu Q E => ds.length = n ∧ ∃ o, r ds o ∧ outK o mu Q E
section
variable {n : Nat} {r : List D → Out → Prop}
theorem spU_good : GoodSp (spU n r) where
  q := fun ds mu Q Q' E w h => by
    unfold spU at h ⊢
    obtain ⟨h1, o, h2, h3⟩ := h
    exact ⟨h1, o, h2, h3.mono w fun _ _ _ z => z⟩
  e := fun ds mu Q E E' w h => by
    unfold spU at h ⊢
    obtain ⟨h1, o, h2, h3⟩ := h
    exact ⟨h1, o, h2, h3.mono (fun _ _ z => z) w⟩
theorem spU_len : ∀ ds mu Q E, spU n r ds mu Q E → ds.length = n := fun ds mu Q E h => by
  unfold spU at h
  exact h.1
theorem spU_of {ds : List D} {mu : Mu} {Q : KD} {E : EdF} (h : spU n r ds mu Q E) : ∃ o, r ds o ∧ outK o mu Q E := by
  unfold spU at h
  exact h.2
theorem spU_at {ds : List D} {mu : Mu} {Q : KD} {E : EdF} {o : Out} (e : r ds o) (hn : ds.length = n) (h : outK o mu Q E) : spU n r ds mu Q E := by
  unfold spU
  exact ⟨hn, o, e, h⟩
end
theorem end_u {o : Out} {d : D} {mu : Mu} {Q : KD} {E : EdF} (h : outK o mu Q E) (e : o = .ok d) : ∃ d' m', Frz mu d m' d' ∧ mu.length ≤ List.length m' ∧ Q d' m' := by
  subst e
  exact end_of (Nat.le_refl _) h
theorem err_u {o : Out} {c : Str} {fs : List (Str × D)} {mu : Mu} {Q : KD} {E : EdF} (h : outK o mu Q E) (e : o = .err c fs) (ms : Mu) : E c fs (mu ++ ms) := by
  subst e
  exact h ms
theorem err_u0 {o : Out} {c : Str} {fs : List (Str × D)} {mu : Mu} {Q : KD} {E : EdF} (h : outK o mu Q E) (e : o = .err c fs) : E c fs mu := by
  have := err_u h e []
  rwa [List.append_nil] at this
/-! ### the purse -/
def isPurse (d : D) : Prop := ∃ x s c : Int, d = .lst [.int x, .int s, .int c] ∧ 0 ≤ x ∧ 0 ≤ s ∧ s < 2147483629
def hasP (p : Nat) (mu : Mu) : Prop := ∃ P, mu[p]? = some P ∧ isPurse P
/-- the purse alone has changed -/
def PP (p : Nat) (mu m : Mu) : Prop := ∃ P, isPurse P ∧ m = mu.set p P
theorem set_get {mu : Mu} {p : Nat} {P P0 : D} (h : mu[p]? = some P0) : (mu.set p P)[p]? = some P := List.getElem?_set_self (List.getElem?_eq_some_iff.mp h).1
theorem hasP.lt {p : Nat} {mu : Mu} (h : hasP p mu) : p < mu.length := let ⟨_, h, _⟩ := h; (List.getElem?_eq_some_iff.mp h).1
theorem PP.has {p : Nat} {mu m : Mu} (h : PP p mu m) (h0 : hasP p mu) : hasP p m := by
  obtain ⟨P, hP, rfl⟩ := h
  obtain ⟨P0, h0, _⟩ := h0
  exact ⟨P, set_get h0, hP⟩
theorem PP.len {p : Nat} {mu m : Mu} (h : PP p mu m) : m.length = mu.length := by
  obtain ⟨P, hP, rfl⟩ := h
  exact List.length_set
theorem PP.le {p : Nat} {mu m : Mu} (h : PP p mu m) : mu.length ≤ m.length := Nat.le_of_eq h.len.symm
theorem PP.trans {p : Nat} {a b c : Mu} (h : PP p a b) (k : PP p b c) : PP p a c := by
  obtain ⟨P, hP, rfl⟩ := h
  obtain ⟨P', hP', rfl⟩ := k
  exact ⟨P', hP', by rw [List.set_set]⟩
theorem PP.refl {p : Nat} {mu : Mu} (h : hasP p mu) : PP p mu mu := by
  obtain ⟨P, h, hP⟩ := h
  refine ⟨P, hP, ?_⟩
  obtain ⟨h1, h2⟩ := List.getElem?_eq_some_iff.mp h
  rw [← h2, List.set_getElem_self]
theorem PP.get {p q : Nat} {mu m : Mu} (h : PP p mu m) (hq : q ≠ p) : m[q]? = mu[q]? := by
  obtain ⟨P, hP, rfl⟩ := h
  exact List.getElem?_set_ne (Ne.symm hq)
theorem hasP.app {p : Nat} {mu ms : Mu} (h : hasP p mu) : hasP p (mu ++ ms) := by
  obtain ⟨P, h, hP⟩ := h
  exact ⟨P, by rw [List.getElem?_append_left (List.getElem?_eq_some_iff.mp h).1]; exact h, hP⟩
theorem PP.app {p : Nat} {mu ms m : Mu} (h0 : hasP p mu) (h : PP p (mu ++ ms) m) : ∃ m', PP p mu m' ∧ m = m' ++ ms := by
  obtain ⟨P, hP, rfl⟩ := h
  exact ⟨mu.set p P, ⟨P, hP, rfl⟩, List.set_append_left _ _ h0.lt⟩
theorem PP.appR {p : Nat} {mu m : Mu} (ms : Mu) (h0 : hasP p mu) (h : PP p mu m) : PP p (mu ++ ms) (m ++ ms) := by
  obtain ⟨P, hP, rfl⟩ := h
  exact ⟨P, hP, (List.set_append_left _ _ h0.lt).symm⟩
theorem PP.low {p : Nat} {mu m : Mu} (h : PP p mu m) (l : lowL mu.length mu = true) : lowL m.length m = true := by
  obtain ⟨P, ⟨x, s, c, rfl, _⟩, rfl⟩ := h
  rw [List.length_set]
  exact lowL_of fun d hd => by
    rcases List.mem_or_eq_of_mem_set hd with z | z
    · exact lowL_mem l d z
    · rw [z]; rfl
/-- a def that draws: the purse is its first argument -/
@[irreducible] def spW (n : Nat) (r : Nat → Mu → List D → (D → Prop) → Prop) : SpD := fun ds mu Q _ => ds.length = n + 1 ∧ ∃ p as R, ds = .loc p :: as ∧ r p mu as R ∧ hasP p mu ∧ ∀ d m, R d → PP p mu m → Q d m
section
variable {n : Nat} {r : Nat → Mu → List D → (D → Prop) → Prop}
theorem spW_good : GoodSp (spW n r) where
  q := fun ds mu Q Q' E w h => by
    unfold spW at h ⊢
    obtain ⟨h1, p, as, R, h2, h3, h4, h5⟩ := h
    exact ⟨h1, p, as, R, h2, h3, h4, fun d m a b => w _ _ (h5 d m a b)⟩
  e := fun ds mu Q E E' w h => by
    unfold spW at h ⊢
    exact h
theorem spW_len : ∀ ds mu Q E, spW n r ds mu Q E → ds.length = n + 1 := fun ds mu Q E h => by
  unfold spW at h
  exact h.1
theorem spW_of {ds : List D} {mu : Mu} {Q : KD} {E : EdF} (h : spW n r ds mu Q E) : ∃ p as R, ds = .loc p :: as ∧ r p mu as R ∧ hasP p mu ∧ ∀ d m, R d → PP p mu m → Q d m := by
  unfold spW at h
  exact h.2
theorem spW_at {as : List D} {p : Nat} {mu m : Mu} {Q : KD} {E : EdF} {R : D → Prop} (e : r p m as R) (hn : as.length = n) (pp : PP p mu m) (hP : hasP p mu) (h : ∀ d m', R d → PP p mu m' → Q d m') : spW n r (.loc p :: as) m Q E := by
  unfold spW
  exact ⟨by rw [List.length_cons, hn], p, as, R, rfl, e, pp.has hP, fun d m' a b => h d m' a (pp.trans b)⟩
end
end VL

/-! VsV: loops and comprehensions by their invariants. -/
namespace VL
open PySem PySem.Spec PyProof.Rows L2
section
variable {k : TGd} {tb : TSd} {alive : Mu → Prop} {A : EndsD}
theorem forS_nil {dl : Lo} {mu : Mu} (h : alive mu ∧ A.nx dl mu) : forS k tb alive A [] dl mu := by
  rw [forS_eq]
  exact h
theorem forS_cons {d : D} {ds : List D} {dl : Lo} {mu : Mu} (h : alive mu ∧ k d dl mu fun dl' mu' => tb (loopE A (forS k tb alive A ds)) dl' mu') : forS k tb alive A (d :: ds) dl mu := by
  rw [forS_eq] at h ⊢
  exact h
theorem forD_by (I : List D → Lo → Mu → Prop) (h0 : ∀ dl mu, I [] dl mu → alive mu ∧ A.nx dl mu)
    (hs : ∀ d ds dl mu, I (d :: ds) dl mu → ∀ n : Lo → Mu → Prop, (∀ dl' mu', I ds dl' mu' → n dl' mu') → alive mu ∧ k d dl mu fun dl' mu' => tb (loopE A n) dl' mu') : ∀ ds dl mu, I ds dl mu → forS k tb alive A ds dl mu
  | [], dl, mu, h => forS_nil (h0 dl mu h)
  | d :: ds, dl, mu, h => forS_cons (hs d ds dl mu h _ fun dl' mu' z => forD_by I h0 hs ds dl' mu' z)
end
section
variable {k : TGd} {tt : TTd} {te : TEd} {alive : Mu → Prop} {dw : Lo} {Q : KD}
theorem lcS_nil {acc : List D} {mu : Mu} (h : alive mu ∧ Q (.lst acc) mu) : lcS k tt te alive dw Q [] acc mu := by
  rw [lcS_eq]
  exact h
theorem lcS_cons {d : D} {ds acc : List D} {mu : Mu} (h : alive mu ∧ acc.length < sizeLine ∧ k d dw mu fun dl' mu' => tt dl' mu' fun b m2 => Br b (te dl' m2 fun y m3 => lcS k tt te alive dw Q ds (acc ++ [y]) m3) (lcS k tt te alive dw Q ds acc m2)) : lcS k tt te alive dw Q (d :: ds) acc mu := by
  rw [lcS_eq] at h ⊢
  exact h
theorem lcD_by (I : List D → List D → Mu → Prop) (h0 : ∀ acc mu, I [] acc mu → alive mu ∧ Q (.lst acc) mu)
    (hs : ∀ d ds acc mu, I (d :: ds) acc mu → ∀ n : List D → Mu → Prop, (∀ acc' mu', I ds acc' mu' → n acc' mu') → alive mu ∧ acc.length < sizeLine ∧ k d dw mu fun dl' mu' => tt dl' mu' fun b m2 => Br b (te dl' m2 fun y m3 => n (acc ++ [y]) m3) (n acc m2)) :
    ∀ ds acc mu, I ds acc mu → lcS k tt te alive dw Q ds acc mu
  | [], acc, mu, h => lcS_nil (h0 acc mu h)
  | d :: ds, acc, mu, h => lcS_cons (hs d ds acc mu h _ fun acc' mu' z => lcD_by I h0 hs ds acc' mu' z)
end
/-- a comprehension over known things, without draws: each element tells whether it is taken, and what is made of it -/
theorem lc_pure {α : Type} {k : TGd} {tt : TTd} {te : TEd} {alive : Mu → Prop} {dw : Lo} {Q : KD} {mu : Mu} (xs : List α) (emb : α → D) (c : α → Bool) (f : α → D) (ha : alive mu) (hl : xs.length ≤ 999999)
    (hs : ∀ x ∈ xs, ∀ (n : D → Mu → Prop) (n2 : Mu → Prop), (c x = true → n (f x) mu) → (c x = false → n2 mu) → k (emb x) dw mu fun dl' mu' => tt dl' mu' fun b m2 => Br b (te dl' m2 n) (n2 m2))
    (hQ : Q (.lst ((xs.filter c).map f)) mu) : lcS k tt te alive dw Q (xs.map emb) [] mu := by
  have key : ∀ (x2 x1 : List α), xs = x1 ++ x2 → lcS k tt te alive dw Q (x2.map emb) ((x1.filter c).map f) mu := by
    intro x2
    induction x2 with
    | nil => intro x1 e; rw [List.append_nil] at e; subst e; exact lcS_nil ⟨ha, hQ⟩
    | cons x r ih =>
      intro x1 e
      refine lcS_cons ⟨ha, ?_, ?_⟩
      · have h1 := List.length_filter_le c x1
        have h2 : xs.length = x1.length + (r.length + 1) := by rw [e, List.length_append, List.length_cons]
        rw [List.length_map]
        exact small6 (show _ + 1 ≤ 1000000 by omega)
      · have e2 : xs = (x1 ++ [x]) ++ r := by rw [e, List.append_assoc]; rfl
        refine hs x (by rw [e]; simp) (fun y m3 => lcS k tt te alive dw Q (r.map emb) ((x1.filter c).map f ++ [y]) m3) (fun m2 => lcS k tt te alive dw Q (r.map emb) ((x1.filter c).map f) m2) (fun hc => ?_) (fun hc => ?_)
        · have h := ih (x1 ++ [x]) e2
          rw [List.filter_append, List.map_append] at h
          simpa only [List.filter, hc, List.map] using h
        · have h := ih (x1 ++ [x]) e2
          rw [List.filter_append, List.map_append] at h
          simpa only [List.filter, hc, List.map, List.append_nil] using h
  exact key xs [] rfl
/-- the same where every element is taken -/
theorem lc_map {α : Type} {k : TGd} {te : TEd} {alive : Mu → Prop} {dw : Lo} {Q : KD} {mu : Mu} (xs : List α) (emb : α → D) (f : α → D) (ha : alive mu) (hl : xs.length ≤ 999999)
    (hs : ∀ x ∈ xs, ∀ (n : D → Mu → Prop), n (f x) mu → k (emb x) dw mu fun dl' mu' => te dl' mu' n)
    (hQ : Q (.lst (xs.map f)) mu) : lcS k dYes te alive dw Q (xs.map emb) [] mu := by
  have key : ∀ (x2 x1 : List α), xs = x1 ++ x2 → lcS k dYes te alive dw Q (x2.map emb) (x1.map f) mu := by
    intro x2
    induction x2 with
    | nil => intro x1 e; rw [List.append_nil] at e; subst e; exact lcS_nil ⟨ha, hQ⟩
    | cons x r ih =>
      intro x1 e
      have e2 : xs = (x1 ++ [x]) ++ r := by rw [e, List.append_assoc]; rfl
      have h2 : xs.length = x1.length + (r.length + 1) := by rw [e, List.length_append, List.length_cons]
      refine lcS_cons ⟨ha, by rw [List.length_map]; exact small6 (show _ + 1 ≤ 1000000 by omega), ?_⟩
      have e3 : ∀ dl' mu' (n : D → Mu → Prop) (n2 : Mu → Prop), (dYes dl' mu' fun b m2 => Br b (te dl' m2 n) (n2 m2)) = te dl' mu' n := fun dl' mu' n n2 => by
        show Br true _ _ = _
        unfold Br
        rfl
      have h := hs x (by rw [e]; simp) (fun y m3 => lcS k dYes te alive dw Q (r.map emb) (x1.map f ++ [y]) m3) (by
        have h := ih (x1 ++ [x]) e2
        rw [List.map_append] at h
        exact h)
      show k (emb x) dw mu fun dl' mu' => dYes dl' mu' fun b m2 => Br b (te dl' m2 fun y m3 => lcS k dYes te alive dw Q (r.map emb) (x1.map f ++ [y]) m3) (lcS k dYes te alive dw Q (r.map emb) (x1.map f) m2)
      simp only [e3]
      exact h
  exact key xs [] rfl
/-- a comprehension whose elements are drawn -/
theorem lc_draw {α : Type} {k : TGd} {te : TEd} {alive : Mu → Prop} {dw : Lo} {Q : KD} {p : Nat} {mu m : Mu} (xs : List D) (emb : α → D) (R : α → Prop) (pp : PP p mu m) (ha : ∀ m', PP p mu m' → alive m') (hl : xs.length ≤ 999999)
    (hs : ∀ x ∈ xs, ∀ (m : Mu) (n : D → Mu → Prop), PP p mu m → (∀ a m', R a → PP p mu m' → n (emb a) m') → k x dw m fun dl' mu' => te dl' mu' n)
    (hQ : ∀ (as : List α) (m' : Mu), as.length = xs.length → (∀ a ∈ as, R a) → PP p mu m' → Q (.lst (as.map emb)) m') : lcS k dYes te alive dw Q xs [] m := by
  have key : ∀ (x2 x1 : List D) (as : List α) (m : Mu), xs = x1 ++ x2 → as.length = x1.length → (∀ a ∈ as, R a) → PP p mu m → lcS k dYes te alive dw Q x2 (as.map emb) m := by
    intro x2
    induction x2 with
    | nil => intro x1 as m e hl hR pp; rw [List.append_nil] at e; subst e; exact lcS_nil ⟨ha m pp, hQ as m hl hR pp⟩
    | cons x r ih =>
      intro x1 as m e hle hR pp
      have e2 : xs = (x1 ++ [x]) ++ r := by rw [e, List.append_assoc]; rfl
      have h2 : xs.length = x1.length + (r.length + 1) := by rw [e, List.length_append, List.length_cons]
      refine lcS_cons ⟨ha m pp, by rw [List.length_map]; exact small6 (show _ + 1 ≤ 1000000 by omega), ?_⟩
      have e3 : ∀ dl' mu' (n : D → Mu → Prop) (n2 : Mu → Prop), (dYes dl' mu' fun b m2 => Br b (te dl' m2 n) (n2 m2)) = te dl' mu' n := fun dl' mu' n n2 => by
        show Br true _ _ = _
        unfold Br
        rfl
      have h := hs x (by rw [e]; simp) m (fun y m3 => lcS k dYes te alive dw Q r (as.map emb ++ [y]) m3) pp (fun a m' ra pp' => by
        have h := ih (x1 ++ [x]) (as ++ [a]) m' e2 (by simp [hle]) (fun b hb => (List.mem_append.mp hb).elim (hR b) (fun z => by rw [List.mem_singleton.mp z]; exact ra)) pp'
        rw [List.map_append] at h
        exact h)
      show k x dw m fun dl' mu' => dYes dl' mu' fun b m2 => Br b (te dl' m2 fun y m3 => lcS k dYes te alive dw Q r (as.map emb ++ [y]) m3) (lcS k dYes te alive dw Q r (as.map emb) m2)
      simp only [e3]
      exact h
  exact key xs [] [] m rfl rfl (fun _ h => by simp at h) pp
end VL

/-! VsX: more methods of texts and lists. -/
namespace VL
open PySem PySem.Spec PyProof.Rows L2
section
variable {X : Cx} {g : Gm} {a b e : Expr} {ta tb : TEd} {pos p : Pos} {t : TAd}
def strsOf : List D → Option (List Str)
  | [] => some []
  | .str b :: r => (strsOf r).map (b :: ·)
  | _ => none
theorem strs_ok {K : PySem.W.Frag} {ca : Str → Addr} {al : Ad} {H : Hp} : ∀ {ds : List D} {vs : List V} {bs : List Str}, Reps K ca al H ds vs → strsOf ds = some bs → vs = bs.map V.str
  | [], vs, bs, h, e => by
    have h0 : vs = [] := by simpa only [Reps] using h
    cases e; exact h0
  | d :: ds, vs, bs, h, e => by
    simp only [Reps] at h
    obtain ⟨v, r, rfl, h1, h2⟩ := h
    cases d with
    | str x =>
      simp only [strsOf] at e
      cases eb : strsOf ds with
      | none => rw [eb] at e; cases e
      | some bb =>
        rw [eb] at e
        cases e
        rw [strs_ok h2 eb, rep_str h1]
        rfl
    | _ => cases e
theorem strsOf_map : ∀ bs : List Str, strsOf (bs.map D.str) = some bs
  | [] => rfl
  | b :: r => by
    show (strsOf (r.map D.str)).map _ = _
    rw [strsOf_map r]
    rfl
/-- a sequence that nobody changes -/
def seq0 : D → Option (List D)
  | .tup xs => some xs
  | .ptup xs => some xs
  | .lst xs => some xs
  | _ => none
def joinD (z : Str) : List D → Option (Prop × D)
  | [d] => match seq0 d with
    | some ds => match strsOf ds with
      | some ys => some ((ys.map (·.length)).sum + ys.length * z.length ≤ 16777216, .str (Txt.join z ys))
      | none => none
    | none => none
  | _ => none
theorem seq0_seq {mu : Mu} {d : D} {xs : List D} (h : seq0 d = some xs) : seqOf mu d = some xs := by
  cases d <;> first | exact h | cases h
theorem pd_join {apos cpos : Pos} (hK : X.K = g.K) (ha : PD X g a ta) (hb : QA X g [b] t) (hm : ∀ {to : TE} {ta : TA} {r : V → List V → Hp → VK → Prop}, MtR X "str.join" r → PE X a to → PA X [b] ta → PE X (.Call (.Attribute a "join" apos) [b] [] cpos) (tBM X.K "str" r to ta)) :
    PD X g (.Call (.Attribute a "join" apos) [b] [] cpos) (dStr joinD ta t) := pd_sm (fun dl mu T sg H vs z ds c d Q al q k e hc w => by
    unfold joinD at e
    split at e
    · split at e
      · split at e
        · rename_i d0 xs e0 _ ys e1
          cases e
          obtain ⟨v, rfl, k1⟩ := one_of k
          rcases q.seq k1 (seq0_seq e0) with ⟨l, us, hw, f2, f3⟩ | ⟨l, us, hw, f2, f3⟩
          · have := strs_ok f3 e1
            subst this hw
            exact ⟨_, l, ys, rfl, rfl, .inr (by rw [hK]; exact f2), hc, w _ _ (q.scal rfl)⟩
          · have := strs_ok f3 e1
            subst this hw
            exact ⟨_, l, ys, rfl, rfl, .inl (by rw [hK]; exact f2), hc, w _ _ (q.scal rfl)⟩
        · cases e
      · cases e
    · cases e) ha hb fun h1 h2 => hm mt_join h1 h2
/-- a method of texts without arguments -/
def dStr0 (o : Str → Option (Prop × D)) (ta : TEd) : TEd := fun dl mu Q => ta dl mu fun x m1 => match x with
  | .str z => match o z with
    | some (c, d) => c ∧ Q d m1
    | none => False
  | _ => False
theorem pd_sm0 {o : Str → Option (Prop × D)} {r : V → List V → Hp → VK → Prop} {name : Str} {apos cpos : Pos}
    (ok : ∀ dl mu T sg H z c d Q al, RelA g al dl mu T sg H → o z = some (c, d) → c → (∀ v' H', Rel g dl mu ((v', d) :: T) sg H' → Q v' H') → r (.str z) [] H Q)
    (ha : PD X g a ta) (hm : ∀ {to : TE}, PE X a to → PE X (.Call (.Attribute a name apos) [] [] cpos) (tBM0 X.K "str" r to)) : PD X g (.Call (.Attribute a name apos) [] [] cpos) (dStr0 o ta) where
  m := fun dl mu Q Q' w z => ha.m dl mu _ _ (fun x m1 z => by
    cases x with
    | str y =>
      show (match o y with | some (c, d) => c ∧ Q' d m1 | none => False)
      have z : (match o y with | some (c, d) => c ∧ Q d m1 | none => False) := z
      cases e : o y with
      | none => rw [e] at z; exact z.elim
      | some pp => rw [e] at z; exact ⟨z.1, w _ _ z.2⟩
    | _ => exact z.elim) z
  pe := PE.of (hm ha.pe) fun sg H Q z => by
    obtain ⟨dl, mu, T, rr, z⟩ := z
    refine ⟨dl, mu, T, rr, ha.m dl mu _ _ (fun x m1 z vo H1 r1 => ?_) z⟩
    cases x with
    | str y =>
      have ev := r1.str
      subst ev
      refine ⟨rfl, ?_⟩
      have z : (match o y with | some (c, d) => c ∧ (∀ v' H', Rel g dl m1 ((v', d) :: T) sg H' → Q v' H') | none => False) := z
      cases e : o y with
      | none => rw [e] at z; exact z.elim
      | some pp =>
        rw [e] at z
        obtain ⟨al, q⟩ := r1.pop
        exact ok dl m1 T sg H1 y pp.1 pp.2 Q al q e z.1 z.2
    | _ => exact z.elim
def isdigitD (z : Str) : Option (Prop × D) := some (True, .bl (Txt.isdigit z))
theorem pd_isdigit {apos cpos : Pos} (ha : PD X g a ta) (hm : ∀ {to : TE} {r : V → List V → Hp → VK → Prop}, MtR X "str.isdigit" r → PE X a to → PE X (.Call (.Attribute a "isdigit" apos) [] [] cpos) (tBM0 X.K "str" r to)) :
    PD X g (.Call (.Attribute a "isdigit" apos) [] [] cpos) (dStr0 isdigitD ta) := pd_sm0 (fun dl mu T sg H z c d Q al q e hc w => by
    cases e
    exact ⟨_, rfl, rfl, trivial, w _ _ (q.scal rfl)⟩) ha fun h1 => hm mt_isdigit h1
/-- the first place of a thing in a list -/
def idxF (x : D) : List D → Nat → Option Nat
  | [], _ => none
  | y :: r, j => if eqF y x = true then some j else idxF x r (j + 1)
theorem idxF_ok {x : D} : ∀ {ds : List D} {k j : Nat}, idxF x ds k = some j → ∃ i y, j = k + i ∧ ds[i]? = some y ∧ eqF y x = true ∧ ∀ m z, m < i → ds[m]? = some z → eqF z x = false
  | [], k, j, h => by cases h
  | y :: r, k, j, h => by
    unfold idxF at h
    by_cases hy : eqF y x = true
    · rw [if_pos hy] at h
      cases h
      exact ⟨0, y, rfl, rfl, hy, fun m z hm => absurd hm (Nat.not_lt_zero m)⟩
    · rw [if_neg hy] at h
      obtain ⟨i, z, e1, e2, e3, e4⟩ := idxF_ok h
      refine ⟨i + 1, z, by omega, e2, e3, fun m w hm e => ?_⟩
      cases m with
      | zero =>
        cases e
        simpa using hy
      | succ m => exact e4 m w (by omega) e
def indexO (m : Mu) (o : D) : List D → Option (Prop × D)
  | [x] => match asL m o with
    | some ds => match idxF x ds 0 with
      | some j => some (flatD x = true ∧ ds.all flatD = true, .int (j : Nat))
      | none => none
    | none => none
  | _ => none
def dIdx (ta : TEd) (t : TAd) : TEd := fun dl mu Q => ta dl mu fun o m1 => (asL m1 o).isSome = true ∧ t dl m1 fun ds m2 => match indexO m2 o ds with
  | some (c, d) => c ∧ Q d m2
  | none => False
theorem pd_index {apos cpos : Pos} (ha : PD X g a ta) (hb : QA X g [b] t) (hK : X.K = g.K)
    (hm : ∀ {to : TE} {ta : TA}, PE X a to → PA X [b] ta → PE X (.Call (.Attribute a "index" apos) [b] [] cpos) (tBM X.K "list" (rIndex X.K) to ta)) : PD X g (.Call (.Attribute a "index" apos) [b] [] cpos) (dIdx ta t) where
  m := fun dl mu Q Q' w z => ha.m dl mu _ _ (fun o m1 z => ⟨z.1, hb.m _ _ _ _ (fun ds m2 z => by
    cases e : indexO m2 o ds with
    | none => rw [e] at z; exact z.elim
    | some m3 => rw [e] at z; exact ⟨z.1, w _ _ z.2⟩) z.2⟩) z
  pe := PE.of (hm ha.pe hb.pa) fun sg H Q z => by
    obtain ⟨dl, mu, T, r, z⟩ := z
    refine ⟨dl, mu, T, r, ha.m dl mu _ _ (fun o m1 z vo H1 r1 => ?_) z⟩
    obtain ⟨hs, z⟩ := z
    refine ⟨?_, dl, m1, _, r1, hb.m _ _ _ _ (fun ds m2 z vs H2 hl r2 => ?_) z⟩
    · obtain ⟨al, q, k⟩ := r1.top
      obtain ⟨xs, e⟩ := Option.isSome_iff_exists.mp hs
      obtain ⟨l, ws, rfl, f2, f3⟩ := q.lst k e
      exact .inl ⟨rfl, ws, by rw [hK]; exact f2⟩
    · cases e : indexO m2 o ds with
      | none => rw [e] at z; exact z.elim
      | some pp =>
        rw [e] at z
        unfold indexO at e
        split at e
        · split at e
          · split at e
            · rename_i x xs e1 _ j e2
              cases e
              obtain ⟨al, q, k⟩ := r2.reps hl
              obtain ⟨v, rfl, k1⟩ := one_of k
              have k2 : Rep g.K g.ca al H2 o vo := q.tmp (vo, o) (by simp)
              obtain ⟨l, ws, rfl, f2, f3⟩ := q.lst k2 e1
              have hv := reps_flat f3 z.1.2
              subst hv
              have hx := flat_rep z.1.1 k1
              obtain ⟨i, y, rfl, e3, e4, e5⟩ := idxF_ok e2
              have hy : flatD y = true := List.all_eq_true.mp z.1.2 y (List.mem_of_getElem? e3)
              refine ⟨l, _, v, i, toV y, rfl, rfl, by rw [hK]; exact f2, by rw [hx]; exact flat_v z.1.1, all_flatV z.1.2, by rw [List.getElem?_map, e3]; rfl, by rw [hx, eqF_v hy z.1.1]; exact e4, fun m z' hm ez => ?_, ?_⟩
              · rw [List.getElem?_map] at ez
                cases em : xs[m]? with
                | none => rw [em] at ez; cases ez
                | some y' =>
                  rw [em] at ez
                  cases ez
                  rw [hx, eqF_v (List.all_eq_true.mp z.1.2 y' (List.mem_of_getElem? em)) z.1.1]
                  exact e5 m y' hm em
              · have q0 : RelA g al dl m2 T sg H2 := q.sub (T' := T) fun p hp => by simp [hp]
                have z2 := z.2
                rw [Nat.zero_add] at z2
                exact z2 _ _ (q0.scal rfl)
            · cases e
          · cases e
        · cases e
end
end VL

/-! VsKw: calls by the names of all parameters. -/
namespace VL
open PySem PySem.Spec PyProof.Rows L2
/-- the named values, in the order of the parameters -/
def pickL {α : Type} (d : α) (l : List α) (perm : List Nat) : List α := perm.map fun i => l.getD i d
structure KB (K : PySem.W.Frag) (fd : FuncData) (ps : List Str) (h : Nat) (ks : List Str) (perm : List Nat) : Prop where
  to : ∀ (s : Shared) (us ws : List Value), us.length = h → ws.length = ks.length → BindsTo s fd ⟨us, ks.zip ws⟩ (ps.zip (us ++ pickL .none ws perm))
  lt : ∀ i ∈ perm, i < ks.length
theorem Fun.kb {K : PySem.W.Frag} {x qual : Str} {st : Stmt} {f : Addr} {fd : FuncData} {ps ks : List Str} {h : Nat} {perm : List Nat} (F : Fun K x qual st f fd) (lt : ∀ i ∈ perm, i < ks.length)
    (hb : ∀ (kV doc pm : Value) (an : Option Addr) (cdv ct : Value) (us ws : List Value), us.length = h → ws.length = ks.length → bindArgs (PySem.W.fnOf x qual (defArgs st) (defBody st) (defScope st) .none kV doc pm an cdv ct) ⟨us, ks.zip ws⟩ = pure (ps.zip (us ++ pickL .none ws perm))) : KB K fd ps h ks perm := by
  obtain ⟨oc, od, kV, doc, pm, an, cdv, ct, osl, rfl, lk, hcd⟩ := F.ex
  exact ⟨fun s us ws h1 h2 => .of_eq (hb kV doc pm an cdv ct us ws h1 h2), lt⟩
theorem vals_pick {vs : List V} {us : List Value} (r : Vals vs us) {perm : List Nat} (lt : ∀ i ∈ perm, i < us.length) : Vals (pickL .non vs perm) (pickL .none us perm) := by
  induction perm with
  | nil => exact .nil
  | cons i r0 ih =>
    refine .cons ?_ (ih fun j hj => lt j (List.mem_cons_of_mem _ hj))
    have hi := lt i (by simp)
    have hv : i < vs.length := by rw [r.length]; exact hi
    obtain ⟨u, e1, e2⟩ := r.get (List.getElem?_eq_getElem hv)
    have e3 : vs.getD i .non = vs[i] := by rw [List.getD_eq_getElem?_getD, List.getElem?_eq_getElem hv]; rfl
    have e4 : us.getD i .none = u := by rw [List.getD_eq_getElem?_getD, e1]; rfl
    dsimp only
    rw [e3, e4]
    exact e2
section
variable {X : Cx} {g : Gm} {CX : CXT} {k : Nat} {o e : Expr} {es : List Expr} {kws : List Keyword} {to te : TEd} {t tk : TAd} {x c m : Str} {ps ks nks : List Str} {S : SpD} {Ed : EdT} {p apos pos kpos : Pos} {sst : Stmt} {nm : Option Str} {perm : List Nat}
structure QK (X : Cx) (g : Gm) (kws : List Keyword) (t : TAd) : Prop where
  m : MonoE t
  pk : PK X kws (upA g t)
theorem PK.of {t t' : TA} (h : PK X kws t) (w : ∀ sg H Q, t' sg H Q → t sg H Q) : PK X kws t' := ⟨fun pos pins s sg H Q I q => h.run pos pins s sg H Q I (w sg H Q q)⟩
theorem qk_nil : QK X g [] dNil where
  m := (qa_nil (X := X) (g := g)).m
  pk := PK.of pk_nil fun sg H Q z => by
    obtain ⟨dl, mu, T, r, z⟩ := z
    exact z [] H rfl r
theorem qk_cons (ha : PD X g e te) (hr : QK X g kws t) : QK X g (⟨nm, e, kpos⟩ :: kws) (dCons te t) where
  m := fun dl mu Q Q' w z => ha.m dl mu _ _ (fun d m1 z => hr.m _ _ _ _ (fun ds m2 z => w _ _ z) z) z
  pk := PK.of (pk_cons ha.pe hr.pk) fun sg H Q z => by
    obtain ⟨dl, mu, T, r, z⟩ := z
    refine ⟨dl, mu, T, r, ha.m dl mu _ _ (fun d m1 z v H1 r1 => ?_) z⟩
    refine ⟨dl, m1, (v, d) :: T, r1, hr.m _ _ _ _ (fun ds m2 z vs H2 hl r2 => ?_) z⟩
    refine z (v :: vs) H2 (by simp only [List.length_cons, hl]) (r2.sub fun p hp => ?_)
    simp only [List.zip_cons_cons, List.cons_append, List.mem_cons, List.mem_append] at hp ⊢
    rcases hp with hp | hp | hp
    · exact .inr (.inl hp)
    · exact .inl hp
    · exact .inr (.inr hp)
theorem zip_pick {vs : List V} {ds : List D} (hl : vs.length = ds.length) {perm : List Nat} (lt : ∀ i ∈ perm, i < ds.length) : ∀ q ∈ (pickL .non vs perm).zip (pickL .non ds perm), q ∈ vs.zip ds := by
  induction perm with
  | nil => intro q hq; cases hq
  | cons i r ih =>
    intro q hq
    have hi := lt i (by simp)
    have hv : i < vs.length := by rw [hl]; exact hi
    rcases List.mem_cons.mp hq with e | h
    · rw [e]
      have e3 : vs.getD i .non = vs[i] := by rw [List.getD_eq_getElem?_getD, List.getElem?_eq_getElem hv]; rfl
      have e4 : ds.getD i .non = ds[i] := by rw [List.getD_eq_getElem?_getD, List.getElem?_eq_getElem hi]; rfl
      dsimp only
      rw [e3, e4]
      have : (vs.zip ds)[i]? = some (vs[i], ds[i]) := by rw [List.getElem?_zip_eq_some]; exact ⟨List.getElem?_eq_getElem hv, List.getElem?_eq_getElem hi⟩
      exact List.mem_of_getElem? this
    · exact ih (fun j hj => lt j (List.mem_cons_of_mem _ hj)) q h
theorem run_fnGk {pins : List (Addr × Obj)} {sg : St} {H : Hp} {s : Shared} {Q : VK} {us ws : List Value} {vs zs : List V} {f : Addr} {fd : FuncData} {sp : Sp} {E : XK} {h : Nat}
    (F : FnG X.prog X.w X.K X.mg X.base CX k f fd ps sp) (hr : Room k X.A) (hgd : X.A.guards = some []) (hb : KB X.K fd ps h ks perm) (hx : PassesAt CX X sg E) (I : Inv X pins sg H s) (r : Vals vs us) (rz : Vals zs ws) (l1 : us.length = h) (l2 : ws.length = ks.length) (q : sp (vs ++ pickL .non zs perm) H Q E) :
    wpAny (model X.prog X.w) X.A (call (.ref f) us (ks.zip ws)) (EP X pins sg Q) X.xe s := by
  have rp : Vals (vs ++ pickL .non zs perm) (us ++ pickL .none ws perm) := r.append (vals_pick rz fun i hi => by rw [l2]; exact hb.lt i hi)
  refine wpAny_call (codeAny_mono (F.run X.A X.stack s H ⟨us, ks.zip ws⟩ _ _ Q E hr hgd I.env0 (hb.to s us ws l1 l2) rp q) fun res s2 hq => ?_)
  match res, hq with
  | .error e, hq => exact hx pins H s e s2 I hq
  | .ok (.ret u), hq => exact I.after hq
  | .ok .next, hq => exact hq.elim
  | .ok .brk, hq => exact hq.elim
  | .ok .cont, hq => exact hq.elim
/-- f(k = v, ..) -/
def dCallK (S : SpD) (Ed : EdT) (n : Nat) (perm : List Nat) (t : TAd) : TEd := fun dl mu Q => t dl mu fun ds m => ds.length = n ∧ S (pickL .non ds perm) m Q (Ed dl)
theorem callK_m {n : Nat} (gs : GoodSp S) (ht : MonoE t) : MonoE (dCallK S Ed n perm t) := fun dl mu Q Q' w z => ht dl mu _ _ (fun ds m z => ⟨z.1, gs.q _ _ _ _ _ w z.2⟩) z
theorem pd_callK (F : Fn X.prog X.w X.K X.mg X.base CX g.ca k x ps S sst) (hkb : ∀ f fd, Fun X.K x x sst f fd → KB X.K fd ps 0 ks perm) (gs : GoodSp S) (hK : X.K = g.K) (hr : Room k X.A) (hgd : X.A.guards = some []) (hg : Gl X x) (hx : Px CX X g Ed) (ha : QK X g kws t)
    (hdb : (x == ("__debug__" : Str)) = false := by decide) (hall : (backToKw pos (keywordEach kws X.env)).all (·.1.isSome) = true := by rfl) (hks : (backToKw pos (keywordEach kws X.env)).filterMap (·.1) = ks := by rfl)
    (hpl : ((backTo pos (starEach [] X.env)).any (·.1) || (backToKw pos (keywordEach kws X.env)).any (·.1.isNone)) = false := by rfl) :
    PD X g (.Call (.Name x p) [] kws pos) (dCallK S Ed ks.length perm t) where
  m := callK_m gs ha.m
  pe := ⟨fun pins s sg H Q I z => by
    obtain ⟨f, fd, hm, hk, hb, G, hf⟩ := F.ex
    have kb := hkb f fd hf
    obtain ⟨dl, mu, T, r, z⟩ := z
    refine wpAny_Call_Name_kw (ld_glob I hg hm ?_ hdb)
    refine PySem.W.callWith_KW0 (h₀ := X.base) I.ok.mod.kin hk hall ?_ hpl
    refine thn (ha.pk.run pos pins s sg H (fun vs H1 => vs.length = ks.length ∧ spOf g.K g.ca S (pickL .non vs perm) H1 Q (fun cls x H => upX g Ed cls x sg H)) I ⟨dl, mu, T, r, ha.m dl mu _ _ (fun ds m z vs H1 hl r1 => ⟨hl.trans z.1, ?_⟩) z⟩) fun us s1 hh => ?_
    · refine call_in (T := T) (by unfold pickL; rw [List.length_map, List.length_map]) (r1.sub fun q hq => ?_) z.2 gs.q gs.e
      rcases List.mem_append.mp hq with h | h
      · exact List.mem_append_left _ (zip_pick hl (fun i hi => by rw [z.1]; exact kb.lt i hi) q h)
      · exact List.mem_append_right _ h
    · obtain ⟨vs, H1, I1, rv, hl, q⟩ := hh
      rw [hK] at G
      rw [hks]
      exact ⟨I1.kIn, run_fnGk (us := []) (vs := []) (by rw [hK]; exact G) hr hgd kb (hx.at_ sg) I1 .nil rv rfl (rv.length.symm.trans hl) q⟩⟩
/-- o.m(k = v, ..) -/
def dMethK (c : Str) (ks : List Str) (S : SpD) (Ed : EdT) (n : Nat) (perm : List Nat) (to : TEd) (t : TAd) : TEd := fun dl mu Q => to dl mu fun d m1 => match objOf m1 d with
  | some (c', fs) => (c' = c ∧ fs.map (·.1) = ks) ∧ t dl m1 fun ds m2 => ds.length = n ∧ S (d :: pickL .non ds perm) m2 Q (Ed dl)
  | none => False
theorem methK_m {n : Nat} (gs : GoodSp S) (ho : MonoE to) (ht : MonoE t) : MonoE (dMethK c ks S Ed n perm to t) := fun dl mu Q Q' w z => ho dl mu _ _ (fun d m1 z => by
  cases eo : objOf m1 d with
  | none => rw [eo] at z; exact z.elim
  | some pp => rw [eo] at z; exact ⟨z.1, ht _ _ _ _ (fun ds m2 z => ⟨z.1, gs.q _ _ _ _ _ w z.2⟩) z.2⟩) z
theorem pd_methK {pl : Sem Bool} (F : Fm X.prog X.w X.K X.mg X.base CX g.ca k c m ps S sst) (hkb : ∀ y f fd, Fun X.K m y sst f fd → KB X.K fd ps 1 nks perm) (gs : GoodSp S) (hK : X.K = g.K) (hr : Room k X.A) (hgd : X.A.guards = some []) (hx : Px CX X g Ed) (ho : PD X g o to) (ha : QK X g kws t) (hn : m ∉ ks := by decide +kernel)
    (hall : (backToKw pos (keywordEach kws X.env)).all (·.1.isSome) = true := by rfl) (hks : (backToKw pos (keywordEach kws X.env)).filterMap (·.1) = nks := by rfl)
    (hpl : ((backTo pos (starEach [] X.env)).any (·.1) || (backToKw pos (keywordEach kws X.env)).any (·.1.isNone)) = false := by rfl)
    (hev : eval (.Call (.Attribute o m apos) [] kws pos) X.env = (do
      let recv ← eval o X.env
      standAt apos.atName
      let (fn, head) ← holding [recv] (getMethod recv m pl)
      callWith pos fn head (backTo pos (starEach [] X.env)) (backToKw pos (keywordEach kws X.env))) := by rfl) :
    PD X g (.Call (.Attribute o m apos) [] kws pos) (dMethK c ks S Ed nks.length perm to t) where
  m := methK_m gs ho.m ha.m
  pe := ⟨fun pins s sg H Q I z => by
    obtain ⟨f, fd, hm, hb, G, y, hf⟩ := F.ex
    have kb := hkb y f fd hf
    obtain ⟨dl, mu, T, r, z⟩ := z
    have h1 : upE g to sg H fun x H1 => ∃ a dx fs, x = .ref a ∧ H1 a = some (.ins (g.ca c) dx fs) ∧ fs.lookup m = none ∧ upA g (fun dl' mu' Q' => t dl' mu' Q') sg H1 fun vs H2 => vs.length = nks.length ∧ spOf g.K g.ca S (x :: pickL .non vs perm) H2 Q (fun cls x H => upX g Ed cls x sg H) := by
      refine ⟨dl, mu, T, r, ho.m dl mu _ _ (fun d m1 z v H1 r1 => ?_) z⟩
      cases eo : objOf m1 d with
      | none => rw [eo] at z; exact z.elim
      | some pp =>
        obtain ⟨c', fs⟩ := pp
        rw [eo] at z
        obtain ⟨⟨ec, hks⟩, zz⟩ := z
        rw [ec] at eo
        obtain ⟨al, q, kk⟩ := r1.top
        obtain ⟨a, dx, vs, rfl, e2, e3⟩ := q.obj kk eo
        refine ⟨a, dx, vs, rfl, e2, repF_none e3 (by rw [hks]; exact hn), dl, m1, _, r1, ha.m _ _ _ _ (fun ds m2 z ws H2 hl r2 => ?_) zz⟩
        refine ⟨hl.trans z.1, ?_⟩
        refine call_in (Ed := Ed) (dl := dl) (T := T) (ds := d :: pickL .non ds perm) (vs := .ref a :: pickL .non ws perm) (by unfold pickL; simp only [List.length_cons, List.length_map]) ?_ z.2 gs.q gs.e
        exact r2.sub fun pq hp => by
          simp only [List.zip_cons_cons, List.cons_append, List.mem_cons, List.mem_append] at hp ⊢
          rcases hp with hp | hp | hp
          · exact .inr (.inl hp)
          · exact .inl (zip_pick hl (fun i hi => by rw [z.1]; exact kb.lt i hi) _ hp)
          · exact .inr (.inr hp)
    refine PySem.W.methodCall_KW (pl := pl) (thn (ho.pe.run pins s sg H _ I h1) fun u s1 hh => ?_) hev
    obtain ⟨x, H1, I1, rx, a, dx, fs, ex, ea, l, q⟩ := hh
    subst ex
    obtain rfl : u = Value.ref a := rx
    have ea' : H1 a = some (.ins (g.ca c) dx fs) := ea
    refine getmeth_ok I1 ea' F.cl hm l ?_
    refine PySem.W.callWith_KW0 (first := [.ref a]) (h₀ := X.base) I.ok.mod.kin hm.kp hall ?_ hpl
    refine thn (ha.pk.run pos pins s1 sg H1 _ I1 q) fun us s2 hh => ?_
    obtain ⟨vs, H2, I2, rv, hl, q2⟩ := hh
    rw [hK] at G
    rw [hks]
    exact ⟨I2.kIn, run_fnGk (us := [.ref a]) (vs := [.ref a]) (by rw [hK]; exact G) hr hgd kb (hx.at_ sg) I2 (.cons rfl .nil) rv rfl (rv.length.symm.trans hl) q2⟩⟩
end
end VL

/-! VsSet: sorted(set(xs)), sorted(xs) of whole numbers. -/
namespace VL
open PySem PySem.Spec PyProof.Rows L2
section
variable {P : Program} {w : World} {A : Around} {E : Value → Shared → Prop} {s : Shared}
abbrev sObj (w : World) : Obj := { cls := .type "set", dict := none, data := .set #[] 0 (.fresh 0 0 (!w.params.followText "set-order")) }
/-- set(xs), xs a list of whole numbers -/
theorem set_of_list {l : Addr} {items : Array Value} (ns : List Int) {Q : Value → Shared → Prop} (hh : A.handled = none) (hl : s.heap.IsList l items) (hit : IntsAre items.toList ns) (hb : ns.length + 1 < scanBound)
    (fin : ∀ (h' : Heap) (tk c : Nat), SetR w h' s.heap.objs.size (fun j => decide (j ∈ ns)) c → c ≤ ns.length → (∀ b o, s.heap.get? b = some o → h'.get? b = some o) → Q (.ref s.heap.objs.size) { s with heap := h', toks := tk }) :
    wpAny (model P w) A (call (.type "set") [.ref l]) Q E s := by
  have len : items.size = ns.length := by simpa using IntsAre.length hit
  let N := s.heap.objs.size
  let h1 := s.heap.push (sObj w)
  obtain ⟨c, tl, hmro⟩ := F.called_set.mro
  have q1 := F.called_set.made
  have q2 := F.called_set.sub
  refine wpAny_call (codeAny_of_tree ?_)
  show wpAny _ _ (callAny (.type "set") _) _ _ _
  refine wpAny_pure ⟨Code.quiet_builtin _ (by decide +kernel), codeAny_builtin F.entry_type_call ?_⟩
  rw [Around.under_plain (weight_type_call_type "set" [.ref l] []) rfl]
  have q3 := F.called_set.notType
  have q4 := F.called_set.canCreate
  have q5 := F.typeCall_set_1 (.ref l)
  repeat (any_goals (first | assumption | wp_step))
  refine codeAny_mono (code_set_led1 (.ref l) (E := E) (Q₁ := fun ob s1 => ob = .ref s.heap.objs.size ∧ s1 = { s with heap := s.heap.push (sObj w) }) ⟨rfl, rfl⟩) fun r s1 hr => ?_
  match r, hr with
  | .error e, hr => exact hr
  | .ok .next, hr => exact hr.elim
  | .ok .brk, hr => exact hr.elim
  | .ok .cont, hr => exact hr.elim
  | .ok (.ret ob), hr =>
    obtain ⟨rfl, rfl⟩ := hr
    have gS : (s.heap.push (sObj w)).get? s.heap.objs.size = some (sObj w) := Heap.get?_push_size _ rfl
    have gT : Shared.TypeIs { s with heap := s.heap.push (sObj w) } (.ref s.heap.objs.size) "set" := ⟨_, gS, rfl⟩
    have q6 := F.called_set.init.lookup
    have q7 := F.called_set.init.bind (.ref s.heap.objs.size)
    repeat (any_goals (first | assumption | wp_step))
    refine codeAny_mono (codeAny_call_builtin (R := wants (fun r s2 => r = .none ∧ ∃ h' tk c, s2 = { s with heap := h', toks := tk } ∧ SetR w h' s.heap.objs.size (fun j => decide (j ∈ ns)) c ∧ c ≤ ns.length ∧ ∀ b o, s.heap.get? b = some o → h'.get? b = some o) E)
      F.called_set.init.plain F.entry_set_init (check_set_init_1 gT ?_)) fun r2 s2 hr2 => ?_
    · obtain ⟨⟨ocls, odict, odata, osl⟩, hol, hcl, nl, hdl⟩ := hl
      dsimp only at hcl hdl
      subst hcl hdl
      have gl : (s.heap.push (sObj w)).get? l = some { cls := .type "list", dict := odict, data := .seq items nl, slots := osl } := Heap.get?_push_of_some _ hol
      have x1 := F.sub_list_set
      have x2 := F.sub_list_frozenset
      have x3 : (Value.type "list" == Value.type "dict") = false := by decide
      have isl : (s.heap.push (sObj w)).IsList l items := ⟨_, gl, rfl, nl, rfl⟩
      have ltl : l < s.heap.objs.size := Heap.lt_size hol
      unfold Builtin.«set.__init__» noKeywords Builtin.Frozenset.updateFrom
      generalize ePI : pyIter = PI
      wp_walk
      subst ePI
      refine wpAny_pyIter_list isl (wpAny_bind (wpAny_runValue ?_))
      have sz : (s.heap.push (sObj w)).objs.size = s.heap.objs.size + 1 := Heap.size_push ..
      have ne1 : l ≠ (s.heap.push (sObj w)).objs.size := by rw [sz]; exact Nat.ne_of_lt (Nat.lt_succ_of_lt ltl)
      have ne2 : s.heap.objs.size ∉ [(s.heap.push (sObj w)).objs.size, l] := by
        rw [sz]
        simp only [List.mem_cons, List.not_mem_nil, or_false, not_or]
        exact ⟨Nat.ne_of_lt (Nat.lt_succ_self _), Nat.ne_of_gt ltl⟩
      have val : ∀ (i : Nat) (v : Value), items[i]? = some v → ∃ k t, ns[i]? = some k ∧ v = .int k t := fun i v hv => by
        have hi : i < ns.length := by rw [← len]; exact (Array.getElem?_eq_some_iff.mp hv).1
        obtain ⟨t, e⟩ := PyProof.Rows.IntsAre.int_at hit i v (by rw [Array.getElem?_toList]; exact hv)
        refine ⟨ns[i], t, List.getElem?_eq_getElem hi, ?_⟩
        rw [e, List.getD_eq_getElem?_getD, List.getElem?_eq_getElem hi] <;> rfl
      refine set_update_ints ((Walks.list (by simp [hh]) _ l ne1 items).toS) s.heap.objs.size ne2 ns len hb val (items.size - 0) 0 _ (by omega) (Nat.zero_le _) ⟨⟨_, Heap.get?_push_size _ rfl, rfl, rfl⟩, (isl.push _)⟩ ⟨0, Nat.le_refl 0, setR_new_at (Heap.get?_push_of_some _ gS)⟩ ?_
      rintro ⟨h', g2, d2, tk2, os2⟩ c2 hm hc2 hS2
      have e1 : g2 = s.gens := hm.gens
      have e2 : d2 = s.drawn := hm.drawn
      have e3 : os2 = s.os := hm.os
      subst e1 e2 e3
      show wpAny _ _ _ _ _ _
      refine wpAny_pure ?_
      show wpAny _ _ (ret Value.none) _ _ _
      rw [len] at hc2
      refine wpAny_pure ⟨rfl, h', tk2, c2, rfl, hS2, hc2, fun b o e => ?_⟩
      have hb0 : b < s.heap.objs.size := Heap.lt_size e
      refine hm.heap b o ?_ (Heap.get?_push_of_some _ (Heap.get?_push_of_some _ e))
      simp only [List.mem_cons, List.not_mem_nil, or_false, not_or]
      exact ⟨Nat.ne_of_lt hb0, by rw [sz]; exact Nat.ne_of_lt (Nat.lt_succ_of_lt hb0)⟩
    · match r2, hr2 with
      | .error e, hr2 => exact hr2
      | .ok .next, hr2 => exact hr2.elim
      | .ok .brk, hr2 => exact hr2.elim
      | .ok .cont, hr2 => exact hr2.elim
      | .ok (.ret r), hr2 =>
        obtain ⟨rfl, h', tk, c', rfl, hS', hc', hk'⟩ := hr2
        repeat (any_goals (first | assumption | wp_step))
        exact fin _ _ _ hS' hc' hk'
end
end VL

/-! VsSetB: sorted(set(xs)), sorted(xs) of whole numbers, as data. -/
namespace VL
open PySem PySem.Spec PyProof.Rows L2
/-! ### ascending lists -/
def insU (x : Int) : List Int → List Int
  | [] => [x]
  | y :: r => if x < y then x :: y :: r else if x = y then y :: r else y :: insU x r
def usort (ns : List Int) : List Int := ns.foldr insU []
theorem insU_mem {x k : Int} : ∀ {l : List Int}, k ∈ insU x l ↔ k = x ∨ k ∈ l
  | [] => by simp [insU]
  | y :: r => by
    unfold insU
    split
    · simp
    · split
      · next h => subst h; simp
      · rw [List.mem_cons, insU_mem, List.mem_cons]
        constructor
        · rintro (h | h | h)
          · exact .inr (.inl h)
          · exact .inl h
          · exact .inr (.inr h)
        · rintro (h | h | h)
          · exact .inr (.inl h)
          · exact .inl h
          · exact .inr (.inr h)
theorem insU_asc {x : Int} : ∀ {l : List Int}, l.Pairwise (· < ·) → (insU x l).Pairwise (· < ·)
  | [], _ => by simp [insU]
  | y :: r, h => by
    unfold insU
    rw [List.pairwise_cons] at h
    split
    · next q =>
      rw [List.pairwise_cons]
      refine ⟨fun z hz => ?_, List.pairwise_cons.mpr h⟩
      rcases List.mem_cons.mp hz with e | hz
      · rw [e]; exact q
      · exact Int.lt_trans q (h.1 z hz)
    · split
      · exact List.pairwise_cons.mpr h
      · next q1 q2 =>
        rw [List.pairwise_cons]
        refine ⟨fun z hz => ?_, insU_asc h.2⟩
        rcases insU_mem.mp hz with e | hz
        · rw [e]; omega
        · exact h.1 z hz
theorem usort_asc : ∀ ns : List Int, (usort ns).Pairwise (· < ·)
  | [] => .nil
  | n :: r => insU_asc (usort_asc r)
theorem usort_mem {k : Int} : ∀ {ns : List Int}, k ∈ usort ns ↔ k ∈ ns
  | [] => Iff.rfl
  | n :: r => by
    show k ∈ insU n (usort r) ↔ _
    rw [insU_mem, usort_mem (ns := r), List.mem_cons]
theorem asc_eq : ∀ {a b : List Int}, a.Pairwise (· < ·) → b.Pairwise (· < ·) → (∀ k, k ∈ a ↔ k ∈ b) → a = b
  | [], [], _, _, _ => rfl
  | [], y :: s, _, _, h => absurd ((h y).mpr (by simp)) (by simp)
  | x :: r, [], _, _, h => absurd ((h x).mp (by simp)) (by simp)
  | x :: r, y :: s, ha, hb, h => by
    rw [List.pairwise_cons] at ha hb
    have e : x = y := by
      rcases List.mem_cons.mp ((h x).mp (by simp)) with e | e
      · exact e
      · rcases List.mem_cons.mp ((h y).mpr (by simp)) with e2 | e2
        · exact e2.symm
        · have := hb.1 x e
          have := ha.1 y e2
          omega
    subst e
    rw [asc_eq ha.2 hb.2 fun k => ?_]
    constructor
    · intro hk
      rcases List.mem_cons.mp ((h k).mp (List.mem_cons_of_mem _ hk)) with q | q
      · have := ha.1 k hk
        omega
      · exact q
    · intro hk
      rcases List.mem_cons.mp ((h k).mpr (List.mem_cons_of_mem _ hk)) with q | q
      · have := hb.1 k hk
        omega
      · exact q
theorem insU_len {x : Int} : ∀ {l : List Int}, (insU x l).length ≤ l.length + 1
  | [] => by simp [insU]
  | y :: r => by
    have := insU_len (x := x) (l := r)
    unfold insU
    split
    · simp
    · split
      · simp
      · simp only [List.length_cons]; omega
theorem usort_len : ∀ ns : List Int, (usort ns).length ≤ ns.length
  | [] => Nat.le_refl 0
  | n :: r => by
    have h1 := insU_len (x := n) (l := usort r)
    have h2 := usort_len r
    show (insU n (usort r)).length ≤ _
    simp only [List.length_cons]
    omega
def insI (x : Int) : List Int → List Int
  | [] => [x]
  | y :: r => if x ≤ y then x :: y :: r else y :: insI x r
def isort (ns : List Int) : List Int := ns.foldr insI []
theorem insI_perm {x : Int} : ∀ {l : List Int}, (insI x l).Perm (x :: l)
  | [] => .refl _
  | y :: r => by
    unfold insI
    split
    · exact .refl _
    · exact ((insI_perm (x := x) (l := r)).cons y).trans (.swap x y r)
theorem isort_perm : ∀ ns : List Int, (isort ns).Perm ns
  | [] => .refl _
  | n :: r => insI_perm.trans ((isort_perm r).cons n)
theorem insI_asc {x : Int} : ∀ {l : List Int}, l.Pairwise (· ≤ ·) → (insI x l).Pairwise (· ≤ ·)
  | [], _ => by simp [insI]
  | y :: r, h => by
    unfold insI
    rw [List.pairwise_cons] at h
    split
    · next q =>
      rw [List.pairwise_cons]
      refine ⟨fun z hz => ?_, List.pairwise_cons.mpr h⟩
      rcases List.mem_cons.mp hz with e | hz
      · rw [e]; exact q
      · exact Int.le_trans q (h.1 z hz)
    · next q =>
      rw [List.pairwise_cons]
      refine ⟨fun z hz => ?_, insI_asc h.2⟩
      rcases List.mem_cons.mp (insI_perm.mem_iff.mp hz) with e | hz
      · rw [e]; omega
      · exact h.1 z hz
theorem isort_asc : ∀ ns : List Int, (isort ns).Pairwise (· ≤ ·)
  | [] => .nil
  | n :: r => insI_asc (isort_asc r)
theorem perm_asc : ∀ {a b : List Int}, a.Perm b → a.Pairwise (· ≤ ·) → b.Pairwise (· ≤ ·) → a = b
  | [], b, p, _, _ => by rw [List.Perm.nil_eq p]
  | x :: r, [], p, _, _ => absurd p.length_eq (by simp)
  | x :: r, y :: s, p, ha, hb => by
    rw [List.pairwise_cons] at ha hb
    have e : x = y := by
      have h1 : x ≤ y := by
        rcases List.mem_cons.mp (p.mem_iff.mpr (show y ∈ y :: s by simp)) with e | e
        · omega
        · exact ha.1 y e
      have h2 : y ≤ x := by
        rcases List.mem_cons.mp (p.mem_iff.mp (show x ∈ x :: r by simp)) with e | e
        · omega
        · exact hb.1 x e
      omega
    subst e
    rw [perm_asc p.cons_inv ha.2 hb.2]
/-! ### as data -/
section
variable {X : Cx} {g : Gm} {a b e : Expr} {ta tb : TEd} {pos p q : Pos} {t : TAd}
def rSetL (K : PySem.W.Frag) (w : World) : List V → Hp → VK → Prop := fun xs H Q => ∃ (l : Addr) (ns : List Int), xs = [.ref l] ∧ SqL K H l (ns.map V.int) ∧ ns.length ≤ 60 ∧
  ∀ p c, H p = none → c ≤ ns.length → Q (.ref p) (upd H p (SetO w p (fun j => decide (j ∈ ns)) c))
theorem cr_setL (hc : X.calm = true) : CallR X (.type "set") (rSetL X.K X.w) := by
  intro pins s sg H xs us Q I r h
  obtain ⟨l, ns, rfl, sq, hl, z⟩ := h
  rw [Vals.ref1 r]
  obtain ⟨its, rv, ⟨o, n, ho, hcl, hdn, hd⟩, hlen⟩ := I.list sq
  refine set_of_list ns (I.ok.hd hc) ⟨o, ho, hcl, n, hd⟩ (ints_of_vals rv) (by unfold scanBound; omega) fun h' tk c R hc' hk => ?_
  have hz : s.heap.objs.size < h'.objs.size := R.lt
  exact ⟨.ref _, upd H s.heap.objs.size (SetO X.w s.heap.objs.size (fun j => decide (j ∈ ns)) c), I.laid (t' := tk) hk (Nat.le_refl _) (setO_new R), rfl, z _ _ (I.hok.fresh (Nat.le_refl _)) hc'⟩
/-- sorted(set(a)) -/
def usortO (m : Mu) (d : D) : Option (Prop × D) := match asL m d with
  | some ds => match intsOf ds with
    | some ns => some (ns.length ≤ 60, .lst ((usort ns).map D.int))
    | none => none
  | none => none
def dUs (ta : TEd) : TEd := fun dl mu Q => ta dl mu fun d m => match usortO m d with
  | some (c, y) => c ∧ Q y m
  | none => False
theorem us_m (ha : MonoE ta) : MonoE (dUs ta) := fun dl mu Q Q' w z => ha dl mu _ _ (fun d m z => by
  show (match usortO m d with | some (c, y) => c ∧ Q' y m | none => False)
  have z : (match usortO m d with | some (c, y) => c ∧ Q y m | none => False) := z
  cases eo : usortO m d with
  | none => rw [eo] at z; exact z.elim
  | some pp => rw [eo] at z; exact ⟨z.1, w _ _ z.2⟩) z
theorem pd_usort {p2 pos2 : Pos} (hK : X.K = g.K) (hc : X.calm = true) (hg : Gl X "sorted") (hm : X.mg "sorted" = none) (hg2 : Gl X "set") (hm2 : X.mg "set" = none) (ha : PD X g a ta)
    (he2 : starEach [a] X.env = (false, eval a X.env) :: starEach [] X.env := by rfl) (he : starEach [.Call (.Name "set" p2) [a] [] pos2] X.env = (false, eval (.Call (.Name "set" p2) [a] [] pos2) X.env) :: starEach [] X.env := by rfl) :
    PD X g (.Call (.Name "sorted" p) [.Call (.Name "set" p2) [a] [] pos2] [] pos) (dUs ta) where
  m := us_m ha.m
  pe := by
    have h1 : PE X (.Call (.Name "set" p2) [a] [] pos2) _ := pe_callTy (cr_setL hc) hg2 hm2 (by decide +kernel) (pa_cons ha.pe pa_nil he2) (by decide) (by decide) he2
    have h2 : PE X (.Call (.Name "sorted" p) [.Call (.Name "set" p2) [a] [] pos2] [] pos) _ := pe_callB (cr_sortedSet hc) hg hm (by decide +kernel) (pa_cons h1 pa_nil he) (by decide) (by decide) he
    refine PE.of h2 fun sg H Q z => ?_
    obtain ⟨dl, mu, T, r, z⟩ := z
    show tCB _ (tCons (tCB _ (tCons (upE g ta) tNil)) tNil) sg H Q
    refine ⟨dl, mu, T, r, ha.m dl mu _ _ (fun d m z v H1 r1 => ?_) z⟩
    have z : (match usortO m d with | some (c, y) => c ∧ (∀ v' H', Rel g dl m ((v', y) :: T) sg H' → Q v' H') | none => False) := z
    cases eo : usortO m d with
    | none => rw [eo] at z; exact z.elim
    | some pp =>
      rw [eo] at z
      unfold usortO at eo
      split at eo
      · split at eo
        · rename_i ds e1 _ ns e2
          cases eo
          obtain ⟨al, qa, k⟩ := r1.top
          obtain ⟨l, vs, rfl, f2, f3⟩ := qa.lst k e1
          have hv := ints_ok f3 e2
          subst hv
          refine ⟨l, ns, rfl, by rw [hK]; exact f2, z.1, fun p c np hcl => ?_⟩
          have qT : RelA g al dl m T sg H1 := qa.sub (T' := T) fun x hx => List.mem_cons_of_mem _ hx
          have q2 : RelA g al dl m T sg (upd H1 p (SetO X.w p (fun j => decide (j ∈ ns)) c)) := qT.new np
          refine ⟨p, _, c, rfl, upd_same, Nat.lt_of_le_of_lt hcl (Nat.lt_of_le_of_lt z.1 (by decide)), fun ms p' hs hmem hlen np' => ?_⟩
          have e3 : ms = usort ns := asc_eq hs (usort_asc ns) fun k => by
            rw [hmem k, decide_eq_true_eq, usort_mem]
          rw [e3]
          refine z.2 _ _ (q2.newLst ?_ np')
          rw [show (usort ns).map V.int = (usort ns).map V.int from rfl]
          exact reps_ints _
        · cases eo
      · cases eo
/-- sorted(a), a list of whole numbers -/
def sortD (m : Mu) : List D → Option (Prop × D)
  | [d] => match asL m d with
    | some ds => match intsOf ds with
      | some ns => some (True, .lst ((isort ns).map D.int))
      | none => none
    | none => none
  | _ => none
theorem pd_sorted (hK : X.K = g.K) (hg : Gl X "sorted") (hm : X.mg "sorted" = none) (ha : QA X g [a] t) (he : starEach [a] X.env = (false, eval a X.env) :: starEach [] X.env := by rfl) : PD X g (.Call (.Name "sorted" p) [a] [] pos) (dB (gOf sortD) t) :=
  pd_blt cr_sortedI (cr_by fun dl mu T sg H vs ds c d Q al q k e hc z => by
    unfold sortD at e
    split at e
    · split at e
      · split at e
        · rename_i d0 xs e1 _ ns e2
          cases e
          obtain ⟨v, rfl, k1⟩ := one_of k
          obtain ⟨l, us, rfl, f2, f3⟩ := q.lst k1 e1
          have hv := ints_ok f3 e2
          subst hv
          refine ⟨l, ns, rfl, by rw [hK]; exact f2, fun ms p' hp hs np => ?_⟩
          rw [perm_asc (hp.trans (isort_perm ns).symm) hs (isort_asc ns)]
          exact z _ _ (q.newLst (reps_ints _) np)
        · cases e
      · cases e
    · cases e) gOf_m hg hm (by decide +kernel) ha (by decide) (by decide) he
/-- a[::-1], a list -/
def dRev (ta : TEd) : TEd := fun dl mu Q => ta dl mu fun d m => match asL m d with
  | some xs => Q (.lst xs.reverse) m
  | none => False
theorem pd_rev {k : _} {p1 p2 p3 : Pos} (hK : X.K = g.K) (ha : PD X g a ta) : PD X g (.Subscript a (.Slice none none (some (.UnaryOp .USub (.Constant (.int 1) k p1) p2)) p3) pos) (dRev ta) where
  m := fun dl mu Q Q' w z => ha.m dl mu _ _ (fun d m z => by
    cases eo : asL m d with
    | none => rw [eo] at z; exact z.elim
    | some pp => rw [eo] at z; exact w _ _ z) z
  pe := PE.of (pe_revL ha.pe) fun sg H Q z => by
    obtain ⟨dl, mu, T, r, z⟩ := z
    refine ⟨dl, mu, T, r, ha.m dl mu _ _ (fun d m z v H1 r1 => ?_) z⟩
    cases eo : asL m d with
    | none => rw [eo] at z; exact z.elim
    | some xs =>
      rw [eo] at z
      obtain ⟨al, q, k⟩ := r1.top
      obtain ⟨l, vs, rfl, f2, f3⟩ := q.lst k eo
      have qT : RelA g al dl m T sg H1 := q.sub (T' := T) fun x hx => List.mem_cons_of_mem _ hx
      exact ⟨l, vs, rfl, by rw [hK]; exact f2, fun p np => z _ _ (qT.newLst (reps_rev f3) np)⟩
end
end VL

/-! VsY: three names stored at once. -/
namespace VL
open PySem PySem.Spec PyProof.Rows L2
section
variable {X : Cx} {g : Gm} {pos : Pos}
def sPar3 (i j l : Nat) (ta : TAd) : TSd := fun A dl mu => ta dl mu fun ds m => match ds with
  | [x, y, w] => A.nx (((dl.set i (some x)).set j (some y)).set l (some w)) m
  | _ => False
theorem qs_par3 {i j l : Nat} {x y w : Str} {a b c : Expr} {ta : TAd} {px py pz pt : Pos} {kt k2 pt2} (ha : QA X g [a, b, c] ta)
    (hp : ∀ {t : TA}, PA X [a, b, c] t → PS X (.Assign [.Tuple [.Name x px, .Name y py, .Name w pz] kt pt] (.Tuple [a, b, c] k2 pt2) pos) (tPar3 i j l t)) :
    QS X g (.Assign [.Tuple [.Name x px, .Name y py, .Name w pz] kt pt] (.Tuple [a, b, c] k2 pt2) pos) (sPar3 i j l ta) where
  m := fun A B h dl mu z => ha.m dl mu _ _ (fun ds m z => by
    match ds, z with
    | [x, y, w], z => exact h.nx _ _ z) z
  ps := PS.of (hp ha.pa) fun E sg H z => by
    obtain ⟨dl, mu, T, A, r, f, z⟩ := z
    refine ⟨dl, mu, T, r, ha.m dl mu _ _ (fun ds m z vs H1 hl r1 => ?_) z⟩
    match ds, vs, hl, z with
    | [x, y, w], [u, v, t], _, z =>
      obtain ⟨al, r1⟩ := r1
      refine ⟨u, v, t, rfl, f.nx _ _ _ _ ⟨al, ?_⟩ z⟩
      have r2 : RelA g al (dl.set i (some x)) m ((v, y) :: (t, w) :: T) (sg.set i (some u)) H1 := r1.set i
      have r3 : RelA g al ((dl.set i (some x)).set j (some y)) m ((t, w) :: T) ((sg.set i (some u)).set j (some v)) H1 := r2.set j
      exact r3.set l
/-- a method of texts that looks at the store -/
def dStrM (o : Mu → Str → List D → Option (Prop × D)) (ta : TEd) (t : TAd) : TEd := fun dl mu Q => ta dl mu fun x m1 => match x with
  | .str z => t dl m1 fun ds m2 => match o m2 z ds with
    | some (c, d) => c ∧ Q d m2
    | none => False
  | _ => False
theorem pd_smM {o : Mu → Str → List D → Option (Prop × D)} {r : V → List V → Hp → VK → Prop} {a : Expr} {ta : TEd} {t : TAd} {es : List Expr} {name : Str} {apos cpos : Pos}
    (ok : ∀ dl mu T sg H vs z ds c d Q al, RelA g al dl mu T sg H → Reps g.K g.ca al H ds vs → o mu z ds = some (c, d) → c → (∀ v' H', Rel g dl mu ((v', d) :: T) sg H' → Q v' H') → r (.str z) vs H Q)
    (ha : PD X g a ta) (hb : QA X g es t) (hm : ∀ {to : TE} {ta : TA}, PE X a to → PA X es ta → PE X (.Call (.Attribute a name apos) es [] cpos) (tBM X.K "str" r to ta)) : PD X g (.Call (.Attribute a name apos) es [] cpos) (dStrM o ta t) where
  m := fun dl mu Q Q' w z => ha.m dl mu _ _ (fun x m1 z => by
    cases x with
    | str y => exact hb.m _ _ _ _ (fun ds m2 z => by
        cases e : o m2 y ds with
        | none => rw [e] at z; exact z.elim
        | some pp => rw [e] at z; exact ⟨z.1, w _ _ z.2⟩) z
    | _ => exact z.elim) z
  pe := PE.of (hm ha.pe hb.pa) fun sg H Q z => by
    obtain ⟨dl, mu, T, rr, z⟩ := z
    refine ⟨dl, mu, T, rr, ha.m dl mu _ _ (fun x m1 z vo H1 r1 => ?_) z⟩
    cases x with
    | str y =>
      have ev := r1.str
      subst ev
      refine ⟨rfl, dl, m1, T, r1.pop, hb.m _ _ _ _ (fun ds m2 z vs H2 hl r2 => ?_) z⟩
      cases e : o m2 y ds with
      | none => rw [e] at z; exact z.elim
      | some pp =>
        rw [e] at z
        obtain ⟨al, q, k⟩ := r2.reps hl
        exact ok dl m2 T sg H2 vs y ds pp.1 pp.2 Q al (q.sub fun _ h => List.mem_append_right _ h) k e z.1 z.2
    | _ => exact z.elim
def joinM (mu : Mu) (z : Str) : List D → Option (Prop × D)
  | [d] => match seqOf mu d with
    | some ds => match strsOf ds with
      | some ys => some ((ys.map (·.length)).sum + ys.length * z.length ≤ 16777216, .str (Txt.join z ys))
      | none => none
    | none => none
  | _ => none
theorem pd_joinM {a b : Expr} {ta : TEd} {t : TAd} {apos cpos : Pos} (hK : X.K = g.K) (ha : PD X g a ta) (hb : QA X g [b] t) (hm : ∀ {to : TE} {ta : TA} {r : V → List V → Hp → VK → Prop}, MtR X "str.join" r → PE X a to → PA X [b] ta → PE X (.Call (.Attribute a "join" apos) [b] [] cpos) (tBM X.K "str" r to ta)) :
    PD X g (.Call (.Attribute a "join" apos) [b] [] cpos) (dStrM joinM ta t) := pd_smM (fun dl mu T sg H vs z ds c d Q al q k e hc w => by
    unfold joinM at e
    split at e
    · split at e
      · split at e
        · rename_i d0 xs e0 _ ys e1
          cases e
          obtain ⟨v, rfl, k1⟩ := one_of k
          rcases q.seq k1 e0 with ⟨l, us, hw, f2, f3⟩ | ⟨l, us, hw, f2, f3⟩
          · have := strs_ok f3 e1
            subst this hw
            exact ⟨_, l, ys, rfl, rfl, .inr (by rw [hK]; exact f2), hc, w _ _ (q.scal rfl)⟩
          · have := strs_ok f3 e1
            subst this hw
            exact ⟨_, l, ys, rfl, rfl, .inl (by rw [hK]; exact f2), hc, w _ _ (q.scal rfl)⟩
        · cases e
      · cases e
    · cases e) ha hb fun h1 h2 => hm mt_join h1 h2
/-- a list of two lists that is changed later -/
def fCatM : F2 := fun x y mu Q => match asL1 mu x, asL1 mu y with
  | some s, some t => s.length + t.length ≤ sizeLine ∧ Q (.loc mu.length) (mu ++ [.lst (s ++ t)])
  | _, _ => False
theorem fCatM_m : MonoF fCatM := fun x y mu Q Q' w h => by
  unfold fCatM at h ⊢
  split at h
  · exact ⟨h.1, w _ _ h.2⟩
  · exact h.elim
theorem fCatM_ok : OpOk g (fun x y H Q => (∃ i j, x = .int i ∧ y = .int j ∧ Q (.int (i + j)) H) ∨ (∃ i j, x = .str i ∧ y = .str j ∧ i.length + j.length ≤ sizeLine ∧ Q (.str (i ++ j)) H) ∨ rCatT X.K x y H Q ∨ rCat x y H Q) fCatM := by
  intro dl mu T sg H v w x y Q r h
  obtain ⟨al, q, rx, ry⟩ := two r
  unfold fCatM at h
  split at h
  · rename_i s t e1 e2
    obtain ⟨l, vs, f1, f2, f3⟩ := q.lst1 rx e1
    obtain ⟨l', ws, f4, f5, f6⟩ := q.lst1 ry e2
    exact .inr (.inr (.inr ⟨l, l', vs, ws, f1, f4, f2, f5, by rw [reps_len f3, reps_len f6]; exact h.1, fun p n => h.2 _ _ (q.newLstL (reps_app f3 f6) n)⟩))
  · exact h.elim
theorem pd_catM {a b : Expr} {ta tb : TEd} (ha : PD X g a ta) (hb : PD X g b tb) : PD X g (.BinOp a .Add b pos) (dBin fCatM ta tb) := pd_bin add_r fCatM_ok fCatM_m ha hb
end
end VL

/-! VsSpc: objects asked by len, str, bool, [], ==, !=, in; properties. -/
namespace VL
open PySem PySem.Spec PyProof.Rows L2
section
variable {X : Cx} {g : Gm} {CX : CXT} {k : Nat}
/-- a def is run, wherever within -/
theorem run_atG {pins : List (Addr × Obj)} {sg : St} {H : Hp} {s : Shared} {Q : VK} {us : List Value} {vs : List V} {f : Addr} {fd : FuncData} {ps : List Str} {sp : Sp} {E : XK} {A' : Around}
    (F : FnG X.prog X.w X.K X.mg X.base CX k f fd ps sp) (hr : Room k A') (hgd : A'.guards = some []) (e0 : Env0 X.prog X.w X.K X.mg X.base A' X.stack s H) (hb : Binds X.K fd ps []) (hx : PassesAt CX X sg E) (I : Inv X pins sg H s) (r : Vals vs us) (h : sp vs H Q E) :
    wpAny (model X.prog X.w) A' (call (.ref f) us) (EP X pins sg Q) X.xe s := by
  have hl1 : us.length = ps.length := r.length.symm.trans (F.len _ _ _ _ h)
  have bnd := hb s us I.kIn (by simpa using hl1)
  rw [List.append_nil] at bnd
  refine wpAny_call (codeAny_mono (F.run A' X.stack s H ⟨us, []⟩ us vs Q E hr hgd e0 bnd r h) fun res s2 hq => ?_)
  match res, hq with
  | .error e, hq => exact hx pins H s e s2 I hq
  | .ok (.ret u), hq => exact I.after hq
  | .ok .next, hq => exact hq.elim
  | .ok .brk, hq => exact hq.elim
  | .ok .cont, hq => exact hq.elim
/-- the object at hand is of the class c -/
def onO (c : Str) (m : Mu) (d : D) (P : Prop) : Prop := match objOf m d with
  | some (c', _) => c' = c ∧ P
  | none => False
theorem onO_imp {c : Str} {m : Mu} {d : D} {P P' : Prop} (h : onO c m d P) (w : P → P') : onO c m d P' := by
  unfold onO at h ⊢
  cases e : objOf m d with
  | none => rw [e] at h; exact h
  | some q => rw [e] at h; exact ⟨h.1, w h.2⟩
theorem obj_sp {c : Str} {S : SpD} {Ed : EdT} {dl : Lo} {m : Mu} {T : List (V × D)} {sg : St} {H : Hp} {v : V} {d : D} {ws : List V} {ds : List D} {Q : VK} {P : Prop} (gs : GoodSp S) (hl : ws.length = ds.length) (r : Rel g dl m ((v :: ws).zip (d :: ds) ++ T) sg H) (o : onO c m d P)
    (z : P → S (d :: ds) m (fun d' mu' => ∀ v' H', Rel g dl mu' ((v', d') :: T) sg H' → Q v' H') (Ed dl)) :
    ∃ a dx vs, v = .ref a ∧ H a = some (.ins (g.ca c) dx vs) ∧ spOf g.K g.ca S (v :: ws) H Q (fun cls x H => upX g Ed cls x sg H) := by
  unfold onO at o
  cases eo : objOf m d with
  | none => rw [eo] at o; exact o.elim
  | some q =>
    obtain ⟨c', fs⟩ := q
    rw [eo] at o
    obtain ⟨rfl, p⟩ := o
    obtain ⟨al, q⟩ := r
    obtain ⟨a, dx, vs, e1, e2, _⟩ := q.obj (q.tmp (v, d) (by simp)) eo
    exact ⟨a, dx, vs, e1, e2, call_in (vs := v :: ws) (ds := d :: ds) (by simp [hl]) ⟨al, q⟩ (z p) gs.q gs.e⟩
theorem inst_of {pins : List (Addr × Obj)} {sg : St} {H : Hp} {s : Shared} {a C dx : Addr} {fs : List (Str × V)} (I : Inv X pins sg H s) (e : H a = some (.ins C dx fs)) : ∃ ox od, PySem.W.InstAt s.heap a ox C od := by
  obtain ⟨mA, O, _⟩ := ins_get I.hok e
  obtain ⟨od, J, _⟩ := O.look
  exact ⟨_, _, J⟩
variable {a b e : Expr} {ta tb : TEd} {t : TAd} {c m : Str} {ps : List Str} {S : SpD} {Ed : EdT} {p pos : Pos} {sst : Stmt}
/-! ### len(o) -/
def lenK (d : D) (P : Int → Prop) : Prop := match d with
  | .int n => (0 ≤ n ∧ n < 2 ^ 63) ∧ P n
  | _ => False
theorem lenK_imp {d : D} {P P' : Int → Prop} (w : ∀ n, P n → P' n) (h : lenK d P) : lenK d P' := by
  cases d <;> first | exact h.elim | exact ⟨h.1, w _ h.2⟩
def dLenO (c : Str) (S : SpD) (Ed : EdT) (ta : TEd) : TEd := fun dl mu Q => ta dl mu fun d m => onO c m d (S [d] m (fun r m2 => lenK r fun n => Q (.int n) m2) (Ed dl))
theorem pd_lenO (F : Fm X.prog X.w X.K X.mg X.base CX g.ca k c "__len__" ps S sst) (gs : GoodSp S) (hK : X.K = g.K) (hr : Room (k + 1) X.A) (hgd : X.A.guards = some []) (hx : Px CX X g Ed) (hg : Gl X "len") (hm : X.mg "len" = none) (ha : PD X g a ta) (he : starEach [a] X.env = (false, eval a X.env) :: starEach [] X.env := by rfl) :
    PD X g (.Call (.Name "len" p) [a] [] pos) (dLenO c S Ed ta) where
  m := fun dl mu Q Q' w z => ha.m dl mu _ _ (fun d m z => onO_imp z (gs.q _ _ _ _ _ fun _ _ z => lenK_imp (fun _ z => w _ _ z) z)) z
  pe := ⟨fun pins s sg H Q I z => by
    obtain ⟨f, fd, hmt, hb, G, _⟩ := F.ex
    obtain ⟨dl, mu, T, r, z⟩ := z
    refine wpAny_Call_Name_kw (ld_blt I hg hm PySem.boot_len ?_ (by decide) (by decide))
    refine PyProof.Rows.callWith_builtin1 ?_ he rfl
    rw [he]
    refine Calls.spliced_cons (thn (ha.pe.run pins s sg H _ I ⟨dl, mu, T, r, ha.m dl mu _ _ (fun d m z v H1 r1 => obj_sp (g := g) (Ed := Ed) (dl := dl) (ws := []) (ds := []) (T := T) (Q := fun v' H' => ∃ n : Int, v' = .int n ∧ 0 ≤ n ∧ n < 2 ^ 63 ∧ Q (.int n) H') gs rfl r1 z (gs.q _ _ _ _ _ fun d' m' z v' H' r' => ?_)) z⟩) fun u s1 hh => ?_)
    · cases d' with
      | int n => exact ⟨n, r'.int, z.1.1, z.1.2, z.2 _ _ (r'.pop.sc rfl)⟩
      | _ => exact z.elim
    obtain ⟨v, H1, I1, rv, a', dx, vs, rfl, e2, hs⟩ := hh
    obtain rfl : u = Value.ref a' := rv
    refine Calls.spliced_nil ?_
    obtain ⟨ox, od, J⟩ := inst_of I1 e2
    obtain ⟨m0, fr⟩ := I1.fr
    rw [hK] at G
    refine PySem.W.len_K fr I1.ok.mod.kin J (by rw [hK]; rw [hK] at hmt; exact hmt.at_) hmt.fn (wpAny_mono (run_atG (us := [.ref a']) (vs := [.ref a']) (by rw [hK]; exact G) hr.in1 hgd I1.env0.in1 hb (hx.at_ sg) I1 (.cons rfl .nil) hs) (fun u' s' hq => ?_) fun _ _ z => z)
    obtain ⟨v', H', I', rv', n, rfl, n0, n1, q⟩ := hq
    obtain ⟨tk, rfl⟩ := (show ∃ t, u' = Value.int n t from rv')
    exact ⟨⟨n0, n1⟩, .int n, H', I'.tok _, ⟨_, rfl⟩, q⟩⟩
/-! ### str(o) -/
def strK (d : D) (P : Str → Prop) : Prop := match d with
  | .str n => P n
  | _ => False
theorem strK_imp {d : D} {P P' : Str → Prop} (w : ∀ n, P n → P' n) (h : strK d P) : strK d P' := by
  cases d <;> first | exact h.elim | exact w _ h
def dStrO (c : Str) (S : SpD) (Ed : EdT) (ta : TEd) : TEd := fun dl mu Q => ta dl mu fun d m => onO c m d (S [d] m (fun r m2 => strK r fun n => Q (.str n) m2) (Ed dl))
theorem pd_strO (F : Fm X.prog X.w X.K X.mg X.base CX g.ca k c "__str__" ps S sst) (gs : GoodSp S) (hK : X.K = g.K) (hr : Room (k + 2) X.A) (hgd : X.A.guards = some []) (hx : Px CX X g Ed) (hg : Gl X "str") (hm : X.mg "str" = none) (ha : PD X g a ta) (he : starEach [a] X.env = (false, eval a X.env) :: starEach [] X.env := by rfl) :
    PD X g (.Call (.Name "str" p) [a] [] pos) (dStrO c S Ed ta) where
  m := fun dl mu Q Q' w z => ha.m dl mu _ _ (fun d m z => onO_imp z (gs.q _ _ _ _ _ fun _ _ z => strK_imp (fun _ z => w _ _ z) z)) z
  pe := ⟨fun pins s sg H Q I z => by
    obtain ⟨f, fd, hmt, hb, G, _⟩ := F.ex
    obtain ⟨dl, mu, T, r, z⟩ := z
    refine wpAny_Call_Name_kw (ld_blt I hg hm (show bootBuiltins "str" = some (.type "str") by decide +kernel) ?_ (by decide) (by decide))
    refine PyProof.Rows.callWith_type1 ?_ he rfl
    rw [he]
    refine Calls.spliced_cons (thn (ha.pe.run pins s sg H _ I ⟨dl, mu, T, r, ha.m dl mu _ _ (fun d m z v H1 r1 => obj_sp (g := g) (Ed := Ed) (dl := dl) (ws := []) (ds := []) (T := T) (Q := fun v' H' => ∃ n : Str, v' = .str n ∧ Q (.str n) H') gs rfl r1 z (gs.q _ _ _ _ _ fun d' m' z v' H' r' => ?_)) z⟩) fun u s1 hh => ?_)
    · cases d' with
      | str n => exact ⟨n, r'.str, z _ _ (r'.pop.sc rfl)⟩
      | _ => exact z.elim
    obtain ⟨v, H1, I1, rv, a', dx, vs, rfl, e2, hs⟩ := hh
    obtain rfl : u = Value.ref a' := rv
    refine Calls.spliced_nil ?_
    obtain ⟨ox, od, J⟩ := inst_of I1 e2
    rw [hK] at G
    refine PySem.W.kso_call hr.in1.in1.units0 I1.kIn J (by rw [hK]; rw [hK] at hmt; exact hmt.at_) hmt.fn (wpAny_mono (run_atG (us := [.ref a']) (vs := [.ref a']) (by rw [hK]; exact G) hr.in1.in1 hgd I1.env0.in1.in1 hb (hx.at_ sg) I1 (.cons rfl .nil) hs) (fun u' s' hq => ?_) fun _ _ z => z)
    obtain ⟨v', H', I', rv', n, rfl, q⟩ := hq
    obtain ⟨tk, rfl⟩ := (show ∃ t, u' = Value.str n t from rv')
    exact ⟨.str n, H', I', ⟨_, rfl⟩, q⟩⟩
/-! ### if o -/
def blK (d : D) (P : Bool → Prop) : Prop := match d with
  | .bl n => P n
  | _ => False
theorem blK_imp {d : D} {P P' : Bool → Prop} (w : ∀ n, P n → P' n) (h : blK d P) : blK d P' := by
  cases d <;> first | exact h.elim | exact w _ h
def dTruO (c : Str) (S : SpD) (Ed : EdT) (ta : TEd) : TTd := fun dl mu Q => ta dl mu fun d m => onO c m d (S [d] m (fun r m2 => blK r fun n => Q n m2) (Ed dl))
theorem qt_truO (F : Fm X.prog X.w X.K X.mg X.base CX g.ca k c "__bool__" ps S sst) (gs : GoodSp S) (hK : X.K = g.K) (hr : Room k X.A) (hgd : X.A.guards = some []) (hx : Px CX X g Ed) (ha : PD X g a ta) (he : ∀ whole, isTrue a X.env whole = (do let v ← whole; standAt a.pos; holding [v] (truthy v)) := by intro _; rfl) :
    QT X g a (dTruO c S Ed ta) where
  m := fun dl mu Q Q' w z => ha.m dl mu _ _ (fun d m z => onO_imp z (gs.q _ _ _ _ _ fun _ _ z => blK_imp (fun _ z => w _ _ z) z)) z
  pt := ⟨fun pins s sg H Q I z => by
    obtain ⟨f, fd, hmt, hb, G, _⟩ := F.ex
    obtain ⟨dl, mu, T, r, z⟩ := z
    refine isTrue_plain (thn (ha.pe.run pins s sg H _ I ⟨dl, mu, T, r, ha.m dl mu _ _ (fun d m z v H1 r1 => obj_sp (g := g) (Ed := Ed) (dl := dl) (ws := []) (ds := []) (T := T) (Q := fun v' H' => ∃ n : Bool, v' = .bl n ∧ Q n H') gs rfl r1 z (gs.q _ _ _ _ _ fun d' m' z v' H' r' => ?_)) z⟩) fun u s1 hh => ?_) (he _)
    · cases d' with
      | bl n => exact ⟨n, r'.bl, z _ r'.pop⟩
      | _ => exact z.elim
    obtain ⟨v, H1, I1, rv, a', dx, vs, rfl, e2, hs⟩ := hh
    obtain rfl : u = Value.ref a' := rv
    obtain ⟨ox, od, J⟩ := inst_of I1 e2
    obtain ⟨m0, fr⟩ := I1.fr
    rw [hK] at G
    refine PySem.W.truthy_K fr I1.ok.mod.kin J (by rw [hK]; rw [hK] at hmt; exact hmt.at_) hmt.fn (wpAny_mono (run_atG (us := [.ref a']) (vs := [.ref a']) (by rw [hK]; exact G) hr hgd I1.env0 hb (hx.at_ sg) I1 (.cons rfl .nil) hs) (fun u' s' hq => ?_) fun _ _ z => z)
    obtain ⟨v', H', I', rv', n, rfl, q⟩ := hq
    obtain rfl := (show u' = Value.bool n from rv')
    exact ⟨H', I', q⟩⟩
/-! ### o[i] -/
def dGetO (c : Str) (S : SpD) (Ed : EdT) (ta tb : TEd) : TEd := fun dl mu Q => ta dl mu fun d m => tb dl m fun i m1 => onO c m1 d (S [d, i] m1 Q (Ed dl))
theorem pd_getO (F : Fm X.prog X.w X.K X.mg X.base CX g.ca k c "__getitem__" ps S sst) (gs : GoodSp S) (fnI : ∀ f fd, Meth X.K (g.ca c) "__getitem__" f → (∃ y, Fun X.K "__getitem__" y sst f fd) → PySem.W.fnIn X.K f = true) (hK : X.K = g.K) (hr : Room (k + 1) X.A) (hgd : X.A.guards = some []) (hx : Px CX X g Ed) (ha : PD X g a ta) (hb : PD X g b tb)
    (hsl : ∀ x i, subscripted b true x i = runValue (.builtin "lifetime.subscript" ⟨[x, i], []⟩) := by intro _ _; with_unfolding_all rfl) :
    PD X g (.Subscript a b pos) (dGetO c S Ed ta tb) where
  m := fun dl mu Q Q' w z => ha.m dl mu _ _ (fun d m z => hb.m _ _ _ _ (fun i m1 z => onO_imp z (gs.q _ _ _ _ _ w)) z) z
  pe := ⟨fun pins s sg H Q I z => by
    obtain ⟨f, fd, hmt, hbd, G, hF⟩ := F.ex
    obtain ⟨dl, mu, T, r, z⟩ := z
    refine Subscript_ (thn (ha.pe.run pins s sg H _ I ⟨dl, mu, T, r, ha.m dl mu _ _ (fun d m z v H1 r1 => (⟨dl, m, _, r1, hb.m dl m _ _ (fun i m1 z w H2 r2 => obj_sp (g := g) (Ed := Ed) (dl := dl) (v := v) (ws := [w]) (ds := [i]) (T := T) (Q := Q) gs rfl (r2.sub fun pq hp => by
      simp only [List.zip_cons_cons, List.zip_nil_left, List.nil_append, List.cons_append, List.mem_cons] at hp ⊢
      rcases hp with hp | hp | hp
      · exact .inr (.inl hp)
      · exact .inl hp
      · exact .inr (.inr hp)) z fun z => z) z⟩ : upE g tb sg H1 _)) z⟩) fun u s1 hh => ?_)
    obtain ⟨v, H1, I1, rv, q1⟩ := hh
    refine thn (hb.pe.run pins s1 sg H1 _ I1 q1) fun u2 s2 hh => ?_
    obtain ⟨w, H2, I2, rw', a', dx, vs, rfl, e2, hs⟩ := hh
    obtain rfl : u = Value.ref a' := rv
    obtain ⟨ox, od, J⟩ := inst_of I2 e2
    obtain ⟨m0, fr⟩ := I2.fr
    have hfn := fnI f fd hmt hF
    rw [hK] at G
    exact PySem.W.sub_K fr I2.ok.mod.kin J (by rw [hK]; rw [hK] at hmt; exact hmt.at_) hfn hmt.fn (run_atG (us := [.ref a', u2]) (vs := [.ref a', w]) (by rw [hK]; exact G) hr.in1 hgd I2.env0.in1 hbd (hx.at_ sg) I2 (.cons rfl (.cons rw' .nil)) hs) (hsl _ _)⟩
end
end VL

/-! VsEqo: == and != of objects with an own __eq__, properties. -/
namespace VL
open PySem PySem.Spec PyProof.Rows L2
section
open PySem.W
variable {prog : Program} {w : World} {A : Around} {E : Value → Shared → Prop} {s : Shared} {K : Frag} {x C f : Addr} {ox : Obj} {od : Option Obj} {b tb : Value}
theorem bind_one : ∀ self : Value, bindSpecial (.builtin "object.__ne__") self = pure (.builtin "object.__ne__", [self]) := fun self => by kernel_rfl
/-- object.__ne__(x, b), x of a class with its own __eq__ -/
theorem one_run {Q : Fin → Shared → Prop} (X : K.In s.heap) (I : InstAt s.heap x ox C od) (hs : findIn K (.ref C) "__eq__" = some (some (.ref f))) (hf : isFn K (.ref f) = true) (hu : A.units < cLine)
    (h : wpAny (model prog w) A (call (.ref f) [.ref x, b]) (fun v s' => ∃ k, v = .bool k ∧ Q (.done (.ret (.bool (!k)))) s') E s) :
    wpAny (model prog w) A (Builtin.«object.__ne__» ⟨[.ref x, b], []⟩) Q E s := by
  unfold Builtin.«object.__ne__»
  refine wpAny_bind (wpAny_pure ?_)
  refine wpAny_bind (wpAny_cRoomFor hu ?_)
  refine wpAny_bind (ifBound_K X I hs hf (wpAny_mono h (fun v s' hv => ?_) fun _ _ z => z))
  obtain ⟨k, rfl, q⟩ := hv
  exact wpAny_bind (wpAny_truthy_bool (wpAny_pure q))
theorem ne_inst {Q : Value → Shared → Prop} (X : K.In s.heap) (I : InstAt s.heap x ox C od) (hob : mroIn K C (.type "object") = some true) (hs : findIn K (.ref C) "__eq__" = some (some (.ref f))) (hf : isFn K (.ref f) = true)
    (hn : findIn K (.ref C) "__ne__" = some (some (.builtin "object.__ne__"))) (hu : A.units + 1 < cLine) (hb : Looks (model prog w) s.heap (typeOf b) tb) (hnf : notFirst K C tb = true)
    (h : wpAny (model prog w) A.in1 (call (.ref f) [.ref x, b]) (fun v s' => ∃ k, v = .bool k ∧ Q (.bool (!k)) s') E s) : wpAny (model prog w) A (compareOp .NotEq (.ref x) b) Q E s := by
  have inner : wpAny (model prog w) A (call (.builtin "object.__ne__") [.ref x, b]) (fun v s' => ∃ k, v = .bool k ∧ Q (.bool k) s') E s := by
    refine wpAny_call (codeAny_call_builtin (by decide +kernel) PySem.F.cmpEntry_ne (check_slot PySem.F.cmpKind_ne PySem.F.cmpSplit_ne (I.type.andThen (looks_mroIn X hob)) (PySem.F.cmpArgs_ne _ _) ?_))
    refine one_run (A := A.in1) X I hs hf (by show A.units + 1 < cLine; exact hu) (wpAny_mono h (fun v s' hv => ?_) fun _ _ z => z)
    obtain ⟨k, e, q⟩ := hv
    exact ⟨k, e, !k, rfl, q⟩
  have tried : wpAny (model prog w) A (tryCompare (.ref x) "__ne__" b) (fun r s' => ∃ v, r = some v ∧ Q v s') E s := by
    unfold tryCompare callSpecialIfBound? bindSpecialIfBound?
    refine wpAny_bind (wpAny_holding (wpAny_bind (wpAny_bind (wpAny_bind (I.type.here ((looks_findIn X hn).here ?_))))))
    refine wpAny_bind (wpAny_askSetting (wpAny_ite ?_))
    split
    · rw [bind_one]
      refine wpAny_bind (wpAny_pure (wpAny_pure ?_))
      refine wpAny_bind (m := call (.builtin "object.__ne__") [.ref x, b]) (wpAny_mono inner (fun v s' hv => ?_) fun _ _ z => z)
      obtain ⟨k, rfl, q⟩ := hv
      exact wpAny_pure (wpAny_pure ⟨_, rfl, q⟩)
    · rw [bind_one]
      refine wpAny_tryCatch (wpAny_bind (wpAny_pure (wpAny_pure ?_)))
      refine wpAny_bind (m := call (.builtin "object.__ne__") [.ref x, b]) (wpAny_mono inner (fun v s' hv => ?_) fun _ _ z => z)
      obtain ⟨k, rfl, q⟩ := hv
      exact wpAny_pure (wpAny_pure ⟨_, rfl, q⟩)
  show wpAny (model prog w) A (richCompare .NotEq (.ref x) b) Q E s
  unfold richCompare
  simp only [oneThing_ref]
  refine wpAny_holding (wpAny_bind (wpAny_cRoomFor (by omega) ?_))
  refine wpAny_bind (I.type.here (wpAny_bind (hb.here ?_)))
  split
  · rename_i q
    have e : subIn K tb (.ref C) = some false := by
      rcases Bool.or_eq_true_iff.mp hnf with e | e
      · rw [beq_iff_eq.mp e] at q; simp at q
      · exact beq_iff_eq.mp e
    refine wpAny_bind ((looks_subIn X e).here ?_)
    simp only [Bool.false_eq_true, ↓reduceIte]
    refine wpAny_bind (wpAny_mono tried (fun r s' z => ?_) fun _ _ z => z)
    obtain ⟨v, rfl, hq⟩ := z
    exact wpAny_pure hq
  · refine wpAny_bind (wpAny_pure ?_)
    simp only [Bool.false_eq_true, ↓reduceIte]
    refine wpAny_bind (wpAny_mono tried (fun r s' z => ?_) fun _ _ z => z)
    obtain ⟨v, rfl, hq⟩ := z
    exact wpAny_pure hq
end
end VL

/-! VsTy: types of data; isinstance of own classes; ==, != by an own __eq__; properties. -/
namespace VL
open PySem PySem.Spec PyProof.Rows L2
/-! ### types -/
def bTys : List String := ["NoneType", "bool", "int", "str", "tuple", "list", "dict"]
def tyB (mu : Mu) : D → Option String
  | .non => some "NoneType"
  | .bl _ => some "bool"
  | .int _ => some "int"
  | .str _ => some "str"
  | .tup _ => some "tuple"
  | .ptup _ => some "tuple"
  | .lst _ => some "list"
  | .scr _ => some "list"
  | .dct _ => some "dict"
  | .loc n => match mu[n]? with
    | some (.lst _) => some "list"
    | some (.dct _) => some "dict"
    | _ => none
  | _ => none
theorem tyB_mem {mu : Mu} {d : D} {t : String} (h : tyB mu d = some t) : t ∈ bTys := by
  unfold tyB at h
  split at h <;> first | (cases h; decide) | cases h | (split at h <;> first | (cases h; decide) | cases h)
theorem tyB_ok {g : Gm} {al : Ad} {dl : Lo} {mu : Mu} {T : List (V × D)} {sg : St} {H : Hp} (q : RelA g al dl mu T sg H) {d : D} {v : V} {t : String} (h : tyB mu d = some t) (r : Rep g.K g.ca al H d v) : TyX g.K H v (.type t) := by
  cases d with
  | non => cases h; rw [rep_non r]; exact .base .non
  | bl x => cases h; rw [rep_bl r]; exact .base (.bl x)
  | int x => cases h; rw [rep_int r]; exact .base (.int x)
  | str x => cases h; rw [rep_str r]; exact .base (.str x)
  | tup xs =>
    cases h
    simp only [Rep] at r
    obtain ⟨l, vs, rfl, n, _⟩ := r
    rcases n with ⟨n | ⟨o, n⟩, _⟩ | ⟨o, its, n, n1, n2, _⟩
    · exact .base (.tup n)
    · exact .fTuple n
    · exact .kTuple n1 n2
  | ptup xs =>
    cases h
    simp only [Rep] at r
    obtain ⟨l, o, vs, rfl, n, _⟩ := r
    exact .fTuple n
  | lst xs =>
    cases h
    simp only [Rep] at r
    obtain ⟨l, vs, rfl, n, _, _⟩ := r
    exact .base (.lst n)
  | scr ns =>
    cases h
    simp only [Rep] at r
    obtain ⟨l, rfl, n⟩ := r
    rcases n with ⟨n | ⟨o, n⟩, _⟩ | ⟨o, its, n, n1, n2, _⟩
    · exact .base (.lst n)
    · exact .base (.frz n)
    · exact .kList n1 n2
  | dct xs =>
    cases h
    simp only [Rep] at r
    obtain ⟨l, vs, rfl, n, _, _⟩ := r
    rcases n with n | ⟨o, n⟩
    · exact .base (.dK n)
    · exact .fDict n
  | loc n =>
    simp only [Rep] at r
    obtain ⟨a, rfl, e⟩ := r
    simp only [tyB] at h
    cases em : mu[n]? with
    | none => rw [em] at h; cases h
    | some c =>
      rw [em] at h
      obtain ⟨a', e', ct⟩ := q.at em
      rw [e] at e'; cases e'
      cases c with
      | lst xs => cases h; obtain ⟨vs, f1, _⟩ := ct; exact .base (.lst f1)
      | dct xs => cases h; obtain ⟨vs, f1, _⟩ := ct; exact .base (.dK f1)
      | _ => cases h
  | _ => cases h
/-- what isinstance asks of a plain own class -/
structure ObC (K : PySem.W.Frag) (C : Addr) : Prop where
  cl : Cls K C
  ha : PySem.W.findIn K (.ref C) "__class__" = some (some (.builtin "object.__class__"))
  hn : PySem.W.specialIn K (.builtin "object.__class__") "__get__" = some (some (.builtin "getset_descriptor.__get__"))
  tk : PySem.W.takesIn K (.builtin "object.__class__") = some true
  hm : PySem.W.mroIn K C (.type "object") = some true
def obCB (K : PySem.W.Frag) (C : Addr) : Bool :=
  He.eqO (PySem.W.findIn K (.ref C) "__class__") (some (some (.builtin "object.__class__"))) && (He.eqO (PySem.W.specialIn K (.builtin "object.__class__") "__get__") (some (some (.builtin "getset_descriptor.__get__"))) && ((PySem.W.takesIn K (.builtin "object.__class__") == some true) && (PySem.W.mroIn K C (.type "object") == some true)))
theorem obCB_ok {K : PySem.W.Frag} {C : Addr} (cl : Cls K C) (h : obCB K C = true) : ObC K C := by
  unfold obCB at h
  obtain ⟨h1, h2⟩ := He.ba h
  obtain ⟨h2, h3⟩ := He.ba h2
  obtain ⟨h3, h4⟩ := He.ba h3
  exact ⟨cl, He.eqO_ok h1, He.eqO_ok h2, eq_of_beq h3, eq_of_beq h4⟩
/-- isinstance(x, c): c an own class, os others -/
structure IsC (K : PySem.W.Frag) (ca : Str → Addr) (c : Str) (os : List Str) : Prop where
  ty : ∀ t ∈ bTys, PySem.W.kitOne K (.type t) (.ref (ca c)) = some false
  sub : ∀ t ∈ bTys, PySem.W.subIn K (.type t) (.ref (ca c)) = some false
  bt : ∀ t ∈ bTys, PySem.W.kitOne K (.ref (ca c)) (.type t) = some false
  self : PySem.W.kitOne K (.ref (ca c)) (.ref (ca c)) = some true
  oth : ∀ o ∈ os, PySem.W.kitOne K (.ref (ca o)) (.ref (ca c)) = some false ∧ ObC K (ca o)
  ob : ObC K (ca c)
def isCB (K : PySem.W.Frag) (C : Addr) (os : List Addr) : Bool :=
  bTys.all (fun t => (PySem.W.kitOne K (.type t) (.ref C) == some false) && ((PySem.W.subIn K (.type t) (.ref C) == some false) && (PySem.W.kitOne K (.ref C) (.type t) == some false))) &&
    ((PySem.W.kitOne K (.ref C) (.ref C) == some true) && (os.all (fun o => PySem.W.kitOne K (.ref o) (.ref C) == some false) && (os.all (obCB K) && obCB K C)))
theorem isCB_ok {K : PySem.W.Frag} {ca : Str → Addr} {c : Str} {os : List Str} (cl : Cls K (ca c)) (cls : ∀ o ∈ os, Cls K (ca o)) (h : isCB K (ca c) (os.map ca) = true) : IsC K ca c os := by
  unfold isCB at h
  obtain ⟨h1, h2⟩ := He.ba h
  obtain ⟨h2, h3⟩ := He.ba h2
  obtain ⟨h3, h4⟩ := He.ba h3
  obtain ⟨h4, h5⟩ := He.ba h4
  have key := fun t ht => He.ba (List.all_eq_true.mp h1 t ht)
  exact ⟨fun t ht => eq_of_beq (key t ht).1, fun t ht => eq_of_beq (He.ba (key t ht).2).1, fun t ht => eq_of_beq (He.ba (key t ht).2).2, eq_of_beq h2,
    fun o ho => ⟨eq_of_beq (List.all_eq_true.mp h3 (ca o) (List.mem_map_of_mem ho)), obCB_ok (cls o ho) (List.all_eq_true.mp h4 (ca o) (List.mem_map_of_mem ho))⟩, obCB_ok cl h5⟩
theorem ObC.ty {K : PySem.W.Frag} {C a dx : Addr} {H : Hp} {fs : List (Str × V)} (o : ObC K C) (e : H a = some (.ins C dx fs)) : TyX K H (.ref a) (.ref C) := .base (.ins e o.cl o.ha o.hn o.tk o.hm)
section
variable {X : Cx} {g : Gm} {CX : CXT} {k : Nat} {a b e : Expr} {ta tb : TEd} {t : TAd} {c m : Str} {ps : List Str} {S : SpD} {Ed : EdT} {p pos : Pos} {sst : Stmt} {os : List Str}
/-! ### isinstance(x, C) -/
def isC (c : Str) (os : List Str) (mu : Mu) (d : D) : Option Bool := match objOf mu d with
  | some (c', _) => if c' = c then some true else if c' ∈ os then some false else none
  | none => match tyB mu d with
    | some _ => some false
    | none => none
theorem isC_ok {al : Ad} {dl : Lo} {mu : Mu} {T : List (V × D)} {sg : St} {H : Hp} (F : IsC g.K g.ca c os) (q : RelA g al dl mu T sg H) {d : D} {v : V} {k : Bool} (h : isC c os mu d = some k) (r : Rep g.K g.ca al H d v) : ∃ t, TyX g.K H v t ∧ PySem.W.kitOne g.K t (.ref (g.ca c)) = some k := by
  unfold isC at h
  cases eo : objOf mu d with
  | some pq =>
    obtain ⟨c', fs⟩ := pq
    rw [eo] at h
    obtain ⟨l, dx, vs, rfl, e2, _⟩ := q.obj r eo
    by_cases h1 : c' = c
    · subst h1
      simp only [↓reduceIte] at h
      cases h
      exact ⟨_, F.ob.ty e2, F.self⟩
    · simp only [h1, ↓reduceIte] at h
      by_cases h2 : c' ∈ os
      · simp only [h2, ↓reduceIte] at h
        cases h
        exact ⟨_, (F.oth c' h2).2.ty e2, (F.oth c' h2).1⟩
      · simp only [h2, ↓reduceIte] at h
        cases h
  | none =>
    rw [eo] at h
    cases et : tyB mu d with
    | none => simp only [et] at h; cases h
    | some t =>
      simp only [et] at h
      cases h
      exact ⟨_, tyB_ok q et r, F.ty t (tyB_mem et)⟩
def dIsc (c : Str) (os : List Str) (ta : TEd) : TEd := fun dl mu Q => ta dl mu fun d m => match isC c os m d with
  | some b => Q (.bl b) m
  | none => False
theorem pd_isc {px : Pos} (F : IsC X.K g.ca c os) (hK : X.K = g.K) (hg : Gl X "isinstance") (hm : X.mg "isinstance" = none) (hgx : Gl X c) (hmx : X.mg c = some (.ref (g.ca c))) (ha : PD X g a ta) (hd : (c == ("__debug__" : Str)) = false := by decide)
    (he : starEach [a, .Name c px] X.env = (false, eval a X.env) :: starEach [.Name c px] X.env := by rfl) (he2 : starEach [.Name c px] X.env = (false, eval (.Name c px) X.env) :: starEach [] X.env := by rfl) (hpl : (backTo pos (starEach [.Name c px] X.env)).any (·.1) = false := by rfl) :
    PD X g (.Call (.Name "isinstance" p) [a, .Name c px] [] pos) (dIsc c os ta) where
  m := fun dl mu Q Q' w z => ha.m dl mu _ _ (fun d m z => by
    cases e : isC c os m d with
    | none => rw [e] at z; exact z.elim
    | some b => rw [e] at z; exact w _ _ z) z
  pe := PE.of (pe_callB call_isi hg hm (show bootBuiltins "isinstance" = some (.builtin "isinstance") by decide +kernel) (pa_cons ha.pe (pa_cons (pe_glob hgx hmx (v := .ref (g.ca c)) rfl hd) pa_nil he2) he) (by decide) (by decide) he hpl) fun sg H Q z => by
    obtain ⟨dl, mu, T, r, z⟩ := z
    refine ⟨dl, mu, T, r, ha.m dl mu _ _ (fun d m z v H1 r1 => ?_) z⟩
    cases e : isC c os m d with
    | none => rw [e] at z; exact z.elim
    | some b =>
      rw [e] at z
      obtain ⟨al, q, rp⟩ := r1.top
      rw [hK] at F
      obtain ⟨t, h1, h2⟩ := isC_ok F q e rp
      exact ⟨v, .ref (g.ca c), t, .ref (g.ca c), b, rfl, .own _, by rw [hK]; exact h1, by rw [hK]; exact h2, z _ _ (r1.pop.sc rfl)⟩
/-! ### o == y, o != y -/
/-- what != asks of the class -/
structure NeC (K : PySem.W.Frag) (C : Addr) : Prop where
  ne : PySem.W.findIn K (.ref C) "__ne__" = some (some (.builtin "object.__ne__"))
def dEqO (c : Str) (neg : Bool) (S : SpD) (Ed : EdT) (ta tb : TEd) : TEd := fun dl mu Q => ta dl mu fun d m => tb dl m fun y m1 => onO c m1 d ((isC c [] m1 y).isSome = true ∧ S [d, y] m1 (fun r m2 => blK r fun b => Q (.bl (if neg then !b else b)) m2) (Ed dl))
theorem eqO_m {neg : Bool} (gs : GoodSp S) (ha : MonoE ta) (hb : MonoE tb) : MonoE (dEqO c neg S Ed ta tb) := fun dl mu Q Q' w z => ha dl mu _ _ (fun d m z => hb _ _ _ _ (fun i m1 z => onO_imp z fun z => ⟨z.1, gs.q _ _ _ _ _ (fun _ _ z => blK_imp (fun _ z => w _ _ z) z) z.2⟩) z) z
theorem eqO_up {neg : Bool} (gs : GoodSp S) (F : IsC g.K g.ca c []) (ha : MonoE ta) (hb : MonoE tb) {sg : St} {H : Hp} {Q : VK} (z : upE g (dEqO c neg S Ed ta tb) sg H Q) :
    upE g ta sg H fun v H1 => upE g tb sg H1 fun w H2 => ∃ a dx vs t, v = .ref a ∧ H2 a = some (.ins (g.ca c) dx vs) ∧ TyX g.K H2 w t ∧ PySem.W.notFirst g.K (g.ca c) t = true ∧
      spOf g.K g.ca S [v, w] H2 (fun v' H' => ∃ n : Bool, v' = .bl n ∧ Q (.bl (if neg then !n else n)) H') (fun cls x H => upX g Ed cls x sg H) := by
  obtain ⟨dl, mu, T, r, z⟩ := z
  refine ⟨dl, mu, T, r, ha dl mu _ _ (fun d m z v H1 r1 => ⟨dl, m, _, r1, hb dl m _ _ (fun y m1 z w H2 r2 => ?_) z⟩) z⟩
  obtain ⟨al2, q2⟩ := r2
  have hr2 := q2.tmp (w, y) (by simp)
  have r3 : Rel g dl m1 ((v :: [w]).zip (d :: [y]) ++ T) sg H2 := ⟨al2, q2.sub fun pq hp => by
      simp only [List.zip_cons_cons, List.zip_nil_left, List.nil_append, List.cons_append, List.mem_cons] at hp ⊢
      rcases hp with hp | hp | hp
      · exact .inr (.inl hp)
      · exact .inl hp
      · exact .inr (.inr hp)⟩
  have hty : (isC c [] m1 y).isSome = true := by
    unfold onO at z
    cases eo : objOf m1 d with
    | none => rw [eo] at z; exact z.elim
    | some q => rw [eo] at z; exact z.2.1
  obtain ⟨a, dx, vs, e1, e2, hs⟩ := obj_sp (g := g) (Ed := Ed) (dl := dl) (ws := [w]) (ds := [y]) (T := T) (Q := fun v' H' => ∃ n : Bool, v' = .bl n ∧ Q (.bl (if neg then !n else n)) H') gs rfl r3 z fun z => gs.q _ _ _ _ _ (fun d' m' z v' H' r' => by
    cases d' with
    | bl n => exact ⟨n, r'.bl, z _ _ (r'.pop.sc rfl)⟩
    | _ => exact z.elim) z.2
  have key : ∃ t, TyX g.K H2 w t ∧ PySem.W.notFirst g.K (g.ca c) t = true := by
    unfold isC at hty
    cases eo : objOf m1 y with
    | some pq =>
      obtain ⟨c', fs⟩ := pq
      simp only [eo] at hty
      obtain ⟨l, dy, ws, rfl, e3, _⟩ := q2.obj hr2 eo
      by_cases h1 : c' = c
      · subst h1
        exact ⟨_, F.ob.ty e3, by unfold PySem.W.notFirst; simp⟩
      · simp [h1] at hty
    | none =>
      simp only [eo] at hty
      cases et : tyB m1 y with
      | none => simp [et] at hty
      | some t => exact ⟨_, tyB_ok q2 et hr2, by unfold PySem.W.notFirst; rw [F.sub t (tyB_mem et)]; simp⟩
  obtain ⟨t, h1, h2⟩ := key
  exact ⟨a, dx, vs, t, e1, e2, h1, h2, hs⟩
theorem eqO_run {pins : List (Addr × Obj)} {sg : St} {H : Hp} {s : Shared} {Q : VK} {a' dx : Addr} {fs : List (Str × V)} {w : V} {u : Value} {t : Value} (F : Fm X.prog X.w X.K X.mg X.base CX g.ca k c "__eq__" ps S sst) (hK : X.K = g.K) (hr : Room (k + 1) X.A) (hgd : X.A.guards = some []) (hx : Px CX X g Ed)
    (I : Inv X pins sg H s) (e2 : H a' = some (.ins (g.ca c) dx fs)) (rw' : RelV w u) (ty : TyX g.K H w t) (nf : PySem.W.notFirst g.K (g.ca c) t = true) (hs : spOf g.K g.ca S [.ref a', w] H (fun v' H' => ∃ n : Bool, v' = .bl n ∧ Q (.bl n) H') (fun cls x H => upX g Ed cls x sg H)) :
    wpAny (model X.prog X.w) X.A (compareOp .Eq (.ref a') u) (EP X pins sg Q) X.xe s := by
  obtain ⟨f, fd, hmt, hbd, G, _⟩ := F.ex
  obtain ⟨ox, od, J⟩ := inst_of I e2
  obtain ⟨m0, fr⟩ := I.fr
  rw [← hK] at ty nf
  obtain ⟨P, Z, hp, _⟩ := kit_of I rw' ty
  rw [hK] at G
  refine PySem.W.cmp_K (op := .Eq) (tb := t) hr.units0 fr I.ok.mod.kin J (Z.ty _ _ I.kIn hp) nf hmt.at_ hmt.fn ?_
  refine wpAny_mono (run_atG (us := [.ref a', u]) (vs := [.ref a', w]) (by rw [hK]; exact G) (hr.mono (Nat.le_succ _)) hgd I.env0 hbd (hx.at_ sg) I (.cons rfl (.cons rw' .nil)) hs) (fun u' s' hq => ?_) fun _ _ z => z
  obtain ⟨v', H', I', rv', n, rfl, q⟩ := hq
  obtain rfl := (show u' = Value.bool n from rv')
  exact ⟨.bl n, H', I', rfl, q⟩
theorem neO_run {pins : List (Addr × Obj)} {sg : St} {H : Hp} {s : Shared} {Q : VK} {a' dx : Addr} {fs : List (Str × V)} {w : V} {u : Value} {t : Value} (F : Fm X.prog X.w X.K X.mg X.base CX g.ca k c "__eq__" ps S sst) (N : NeC X.K (g.ca c)) (O : IsC X.K g.ca c []) (hK : X.K = g.K) (hr : Room (k + 1) X.A) (hgd : X.A.guards = some []) (hx : Px CX X g Ed)
    (I : Inv X pins sg H s) (e2 : H a' = some (.ins (g.ca c) dx fs)) (rw' : RelV w u) (ty : TyX g.K H w t) (nf : PySem.W.notFirst g.K (g.ca c) t = true) (hs : spOf g.K g.ca S [.ref a', w] H (fun v' H' => ∃ n : Bool, v' = .bl n ∧ Q (.bl (!n)) H') (fun cls x H => upX g Ed cls x sg H)) :
    wpAny (model X.prog X.w) X.A (compareOp .NotEq (.ref a') u) (EP X pins sg Q) X.xe s := by
  obtain ⟨f, fd, hmt, hbd, G, _⟩ := F.ex
  obtain ⟨ox, od, J⟩ := inst_of I e2
  rw [← hK] at ty nf
  obtain ⟨P, Z, hp, _⟩ := kit_of I rw' ty
  rw [hK] at G
  refine ne_inst (tb := t) I.kIn J O.ob.hm hmt.at_ hmt.fn N.ne (by have := hr.in1.units0; exact this) (Z.ty _ _ I.kIn hp) nf ?_
  refine wpAny_mono (run_atG (us := [.ref a', u]) (vs := [.ref a', w]) (by rw [hK]; exact G) hr.in1 hgd I.env0.in1 hbd (hx.at_ sg) I (.cons rfl (.cons rw' .nil)) hs) (fun u' s' hq => ?_) fun _ _ z => z
  obtain ⟨v', H', I', rv', n, rfl, q⟩ := hq
  obtain rfl := (show u' = Value.bool n from rv')
  exact ⟨n, rfl, .bl (!n), H', I', rfl, q⟩
theorem pd_eqO (F : Fm X.prog X.w X.K X.mg X.base CX g.ca k c "__eq__" ps S sst) (gs : GoodSp S) (O : IsC X.K g.ca c []) (hK : X.K = g.K) (hr : Room (k + 1) X.A) (hgd : X.A.guards = some []) (hx : Px CX X g Ed) (ha : PD X g a ta) (hb : PD X g b tb) : PD X g (.Compare a [.Eq] [b] pos) (dEqO c false S Ed ta tb) where
  m := eqO_m gs ha.m hb.m
  pe := ⟨fun pins s sg H Q I z => by
    refine wpAny_Compare1 (binT ha.pe hb.pe I (eqO_up gs (by rw [← hK]; exact O) ha.m hb.m z) fun v u s2 x y H2 I2 rx ry q => ?_) (nomark _)
    obtain ⟨a', dx, vs, t, rfl, e2, h1, h2, hs⟩ := q
    obtain rfl : v = Value.ref a' := rx
    exact eqO_run F hK hr hgd hx I2 e2 ry h1 h2 hs⟩
theorem pd_neO (F : Fm X.prog X.w X.K X.mg X.base CX g.ca k c "__eq__" ps S sst) (gs : GoodSp S) (N : NeC X.K (g.ca c)) (O : IsC X.K g.ca c []) (hK : X.K = g.K) (hr : Room (k + 1) X.A) (hgd : X.A.guards = some []) (hx : Px CX X g Ed) (ha : PD X g a ta) (hb : PD X g b tb) : PD X g (.Compare a [.NotEq] [b] pos) (dEqO c true S Ed ta tb) where
  m := eqO_m gs ha.m hb.m
  pe := ⟨fun pins s sg H Q I z => by
    refine wpAny_Compare1 (binT ha.pe hb.pe I (eqO_up gs (by rw [← hK]; exact O) ha.m hb.m z) fun v u s2 x y H2 I2 rx ry q => ?_) (nomark _)
    obtain ⟨a', dx, vs, t, rfl, e2, h1, h2, hs⟩ := q
    obtain rfl : v = Value.ref a' := rx
    exact neO_run F N O hK hr hgd hx I2 e2 ry h1 h2 hs⟩
theorem qt_eqO (F : Fm X.prog X.w X.K X.mg X.base CX g.ca k c "__eq__" ps S sst) (gs : GoodSp S) (O : IsC X.K g.ca c []) (hK : X.K = g.K) (hr : Room (k + 1) X.A) (hgd : X.A.guards = some []) (hx : Px CX X g Ed) (ha : PD X g a ta) (hb : PD X g b tb) : QT X g (.Compare a [.Eq] [b] pos) (dTest (dEqO c false S Ed ta tb)) where
  m := fun dl mu Q Q' w z => eqO_m gs ha.m hb.m dl mu _ _ (fun d m z => by cases d <;> first | exact z.elim | exact w _ _ z) z
  pt := ⟨fun pins s sg H Q I z => by
    have z' : upE g (dEqO c false S Ed ta tb) sg H fun v H' => ∃ k, v = .bl k ∧ Q k H' := by
      obtain ⟨dl, mu, T, r, z⟩ := z
      refine ⟨dl, mu, T, r, eqO_m gs ha.m hb.m dl mu _ _ (fun d m z v H1 r1 => ?_) z⟩
      cases d with
      | bl n => exact ⟨n, r1.bl, z _ r1.pop⟩
      | _ => exact z.elim
    refine wpAny_isTrue_Compare1 (binT ha.pe hb.pe I (eqO_up gs (by rw [← hK]; exact O) ha.m hb.m z') fun v u s2 x y H2 I2 rx ry q => ?_) (nomark _)
    obtain ⟨a', dx, vs, t, rfl, e2, h1, h2, hs⟩ := q
    obtain rfl : v = Value.ref a' := rx
    refine thn (eqO_run (Q := fun v H' => ∃ k, v = .bl k ∧ Q k H') F hK hr hgd hx I2 e2 ry h1 h2 hs) fun u' s' hq => ?_
    obtain ⟨v', H', I', rv', n, rfl, q⟩ := hq
    obtain rfl := (show u' = Value.bool n from rv')
    exact wpAny_truthy_bool ⟨H', I', q⟩⟩
theorem qt_neO (F : Fm X.prog X.w X.K X.mg X.base CX g.ca k c "__eq__" ps S sst) (gs : GoodSp S) (N : NeC X.K (g.ca c)) (O : IsC X.K g.ca c []) (hK : X.K = g.K) (hr : Room (k + 1) X.A) (hgd : X.A.guards = some []) (hx : Px CX X g Ed) (ha : PD X g a ta) (hb : PD X g b tb) : QT X g (.Compare a [.NotEq] [b] pos) (dTest (dEqO c true S Ed ta tb)) where
  m := fun dl mu Q Q' w z => eqO_m gs ha.m hb.m dl mu _ _ (fun d m z => by cases d <;> first | exact z.elim | exact w _ _ z) z
  pt := ⟨fun pins s sg H Q I z => by
    have z' : upE g (dEqO c true S Ed ta tb) sg H fun v H' => ∃ k, v = .bl k ∧ Q k H' := by
      obtain ⟨dl, mu, T, r, z⟩ := z
      refine ⟨dl, mu, T, r, eqO_m gs ha.m hb.m dl mu _ _ (fun d m z v H1 r1 => ?_) z⟩
      cases d with
      | bl n => exact ⟨n, r1.bl, z _ r1.pop⟩
      | _ => exact z.elim
    refine wpAny_isTrue_Compare1 (binT ha.pe hb.pe I (eqO_up gs (by rw [← hK]; exact O) ha.m hb.m z') fun v u s2 x y H2 I2 rx ry q => ?_) (nomark _)
    obtain ⟨a', dx, vs, t, rfl, e2, h1, h2, hs⟩ := q
    obtain rfl : v = Value.ref a' := rx
    refine thn (neO_run (Q := fun v H' => ∃ k, v = .bl k ∧ Q k H') F N O hK hr hgd hx I2 e2 ry h1 h2 hs) fun u' s' hq => ?_
    obtain ⟨v', H', I', rv', n, rfl, q⟩ := hq
    obtain rfl := (show u' = Value.bool n from rv')
    exact wpAny_truthy_bool ⟨H', I', q⟩⟩
end
end VL

/-! VsCls: properties, class methods, classes called with keywords or through a local name, methods without arguments. -/
namespace VL
open PySem PySem.Spec PyProof.Rows L2
/-- a property of the class c -/
structure Fp (P : Program) (w : World) (K : PySem.W.Frag) (mg : Str → Option Value) (base : Heap) (CX : CXT) (ca : Str → Addr) (k : Nat) (c m : Str) (ps : List Str) (S : SpD) (st : Stmt) : Prop where
  cl : Cls K (ca c)
  ex : ∃ (f p : Addr) (fd : FuncData), PropOf K (ca c) m p f ∧ Binds K fd ps [] ∧ FnG P w K mg base CX k f fd ps (spOf K ca S) ∧ ∃ y, Fun K m y st f fd
/-- a class method of the class c -/
structure Fk (P : Program) (w : World) (K : PySem.W.Frag) (mg : Str → Option Value) (base : Heap) (CX : CXT) (ca : Str → Addr) (k : Nat) (c m : Str) (ps : List Str) (S : SpD) (st : Stmt) : Prop where
  gl : mg c = some (.ref (ca c))
  rd : ClX.CRead K (ca c) (.type "type")
  ex : ∃ (f p : Addr) (fd : FuncData), ClX.CMet K (ca c) (.type "type") m p f ∧ Binds K fd ps [] ∧ FnG P w K mg base CX k f fd ps (spOf K ca S) ∧ ∃ y, Fun K m y st f fd
section
variable {X : Cx} {g : Gm} {CX : CXT} {k : Nat} {o a b e : Expr} {es : List Expr} {to ta tb : TEd} {t : TAd} {c m : Str} {ps ks : List Str} {S : SpD} {Ed : EdT} {p apos pos : Pos} {sst : Stmt}
/-! ### o.m, m a property -/
def dProp (c : Str) (S : SpD) (ta : TEd) : TEd := fun dl mu Q => ta dl mu fun d m => onO c m d (S [d] m Q fun _ _ _ => False)
theorem pd_prop (F : Fp X.prog X.w X.K X.mg X.base (L2.CX X.prog X.w) g.ca k c m ps S sst) (gs : GoodSp S) (hK : X.K = g.K) (hr : Room (k + 1) X.A) (hgd : X.A.guards = some []) (ha : PD X g a ta) (hab : attributeBase a m X.env (eval a X.env) = eval a X.env := by rfl) :
    PD X g (.Attribute a m pos) (dProp c S ta) where
  m := fun dl mu Q Q' w z => ha.m dl mu _ _ (fun d m z => onO_imp z (gs.q _ _ _ _ _ w)) z
  pe := ⟨fun pins s sg H Q I z => by
    obtain ⟨f, pa, fd, hp, hb, G, _⟩ := F.ex
    obtain ⟨dl, mu, T, r, z⟩ := z
    refine attr_of hab (thn (ha.pe.run pins s sg H _ I ⟨dl, mu, T, r, ha.m dl mu _ _ (fun d m z v H1 r1 => obj_sp (g := g) (Ed := fun _ _ _ _ => False) (dl := dl) (ws := []) (ds := []) (T := T) (Q := Q) gs rfl r1 z fun z => z) z⟩) fun u s1 hh => ?_)
    obtain ⟨v, H1, I1, rv, a', dx, vs, rfl, e2, hs⟩ := hh
    obtain rfl : u = Value.ref a' := rv
    obtain ⟨mA, O, _⟩ := ins_get I1.hok e2
    obtain ⟨od, J, _⟩ := O.look
    obtain ⟨rest, hrec⟩ := hp.rec_
    have I2 := I1.tok (s1.toks + 1)
    have hsome : (PySem.W.clsIn X.K (g.ca c)).isSome = true := by
      obtain ⟨cd, hc, _⟩ := PySem.W.any_some F.cl.hd
      rw [hc]; rfl
    rw [hK] at G
    have hl1 : [Value.ref a'].length = ps.length := (G.len _ _ _ _ hs)
    have bnd := hb { s1 with toks := s1.toks + 1 } [.ref a'] I2.kIn (by simpa using hl1)
    rw [List.append_nil] at bnd
    refine PySem.W.get_bind I1.kIn J (PySem.W.plainGet_of (F.cl.get m)).1 (PySem.W.findObj_data hsome hp.at_ hp.get hp.tak) (PySem.W.plainGet_of (F.cl.get m)).2 (wpAny_call (PySem.W.prop_get (s := { s1 with toks := s1.toks + 1 }) I1.kIn hrec ?_))
    have G' : FnG X.prog X.w X.K X.mg X.base (L2.CX X.prog X.w) k f fd ps (spOf g.K g.ca S) := by rw [hK]; exact G
    refine codeAny_mono (G'.run X.A.in1 X.stack { s1 with toks := s1.toks + 1 } H1 ⟨[.ref a'], []⟩ [.ref a'] [.ref a'] Q _ hr.in1 hgd I2.env0.in1 bnd (.cons rfl .nil) hs) fun res s2 hq => ?_
    match res, hq with
    | .error er, hq =>
      obtain ⟨_, _, _, _, _, _, _, _, _, _, _, _, ⟨_, _, _, _, _, _, _, _, hq⟩⟩ := hq
      exact hq.elim
    | .ok (.ret u), hq =>
      obtain ⟨v3, H3, I3, rv3, q3⟩ := I2.after hq
      show wpAny _ _ (handedOut u) _ _ _
      rw [PySem.W.handedOut_of (handed_of rv3)]
      exact wpAny_pure ⟨v3, H3, I3, rv3, q3⟩
    | .ok .next, hq => exact hq.elim
    | .ok .brk, hq => exact hq.elim
    | .ok .cont, hq => exact hq.elim⟩
/-! ### o.m() -/
theorem pd_meth0 {pl : Sem Bool} (F : Fm X.prog X.w X.K X.mg X.base CX g.ca k c m ps S sst) (gs : GoodSp S) (hK : X.K = g.K) (hr : Room k X.A) (hgd : X.A.guards = some []) (hx : Px CX X g Ed) (ho : PD X g o to) (hn : m ∉ ks := by decide +kernel)
    (hev : eval (.Call (.Attribute o m apos) [] [] pos) X.env = (do
      let recv ← eval o X.env
      standAt apos.atName
      let (fn, head) ← holding [recv] (getMethod recv m pl)
      callWith pos fn head (backTo pos (starEach [] X.env)) (backToKw pos (keywordEach [] X.env))) := by rfl) :
    PD X g (.Call (.Attribute o m apos) [] [] pos) (dMeth c ks S Ed to dNil) where
  m := meth_m gs ho.m fun _ _ _ _ w z => w _ _ z
  pe := ⟨fun pins s sg H Q I z => by
    obtain ⟨f, fd, hm, hb, G, _⟩ := F.ex
    obtain ⟨dl, mu, T, r, z⟩ := z
    have h1 : upE g to sg H fun x H1 => ∃ a dx fs, x = .ref a ∧ H1 a = some (.ins (g.ca c) dx fs) ∧ fs.lookup m = none ∧ spOf g.K g.ca S [x] H1 Q (fun cls x H => upX g Ed cls x sg H) := by
      refine ⟨dl, mu, T, r, ho.m dl mu _ _ (fun d m1 z v H1 r1 => ?_) z⟩
      cases eo : objOf m1 d with
      | none => rw [eo] at z; exact z.elim
      | some pp =>
        obtain ⟨c', fs⟩ := pp
        rw [eo] at z
        obtain ⟨⟨ec, hks⟩, zz⟩ := z
        rw [ec] at eo
        obtain ⟨al, q, kk⟩ := r1.top
        obtain ⟨a, dx, vs, rfl, e2, e3⟩ := q.obj kk eo
        exact ⟨a, dx, vs, rfl, e2, repF_none e3 (by rw [hks]; exact hn), call_in (Ed := Ed) (dl := dl) (T := T) (ds := [d]) (vs := [.ref a]) rfl r1 zz gs.q gs.e⟩
    refine PySem.W.methodCall_KW (pl := pl) (thn (ho.pe.run pins s sg H _ I h1) fun u s1 hh => ?_) hev
    obtain ⟨x, H1, I1, rx, a, dx, fs, ex, ea, l, q⟩ := hh
    subst ex
    obtain rfl : u = Value.ref a := rx
    refine getmeth_ok I1 ea F.cl hm l ?_
    refine PySem.W.callWith_K0 (first := [.ref a]) I1.kIn hm.kp ?_
    rw [hK] at G
    exact run_fnG (us := [.ref a]) (vs := [.ref a]) (by rw [hK]; exact G) hr hgd hb (hx.at_ sg) I1 (.cons rfl .nil) q⟩
/-! ### C.m(..), m a class method -/
theorem run_cmG {pins : List (Addr × Obj)} {sg : St} {H : Hp} {s : Shared} {Q : VK} {us : List Value} {f q C : Addr} {fd : FuncData} {sp : Sp} {E : XK} {kw : List (Str × Value)} {ws : List Value} {zs : List V}
    (F : FnG X.prog X.w X.K X.mg X.base CX k f fd ps sp) (hr : Room k X.A) (hgd : X.A.guards = some []) (hx : PassesAt CX X sg E) (I : Inv X ((q, PySem.W.methodObj (.ref f) (.ref C)) :: pins) sg H s)
    (bnd : BindsTo s fd ⟨.ref C :: us, kw⟩ (ps.zip (.ref C :: ws))) (r : Vals zs ws) (h : sp (.ref C :: zs) H Q E) : wpAny (model X.prog X.w) X.A (call (.ref q) us kw) (EP X pins sg Q) X.xe s := by
  refine wpAny_call (PySem.W.method_call (ClX.pin_at I) (codeAny_mono (F.run X.A X.stack s H ⟨.ref C :: us, kw⟩ (.ref C :: ws) (.ref C :: zs) Q E hr hgd I.env0 bnd (.cons rfl r) h) fun res s2 hq => ?_))
  match res, hq with
  | .error e, hq => exact hx _ H s e s2 I hq
  | .ok (.ret u), hq => exact ClX.unpinE (I.after hq)
  | .ok .next, hq => exact hq.elim
  | .ok .brk, hq => exact hq.elim
  | .ok .cont, hq => exact hq.elim
def dCm (c : Str) (S : SpD) (Ed : EdT) (t : TAd) : TEd := fun dl mu Q => t dl mu fun ds m => S (.cls c :: ds) m Q (Ed dl)
theorem cls_in {dl : Lo} {m : Mu} {T : List (V × D)} {sg : St} {H : Hp} {vs : List V} {ds : List D} (r : Rel g dl m (vs.zip ds ++ T) sg H) : Rel g dl m ((V.ref (g.ca c) :: vs).zip (D.cls c :: ds) ++ T) sg H := by
  obtain ⟨al, q⟩ := r
  exact ⟨al, q.push (v := .ref (g.ca c)) (d := .cls c) (by simp only [Rep])⟩
theorem pd_cm {p1 : Pos} {pl : Sem Bool} (F : Fk X.prog X.w X.K X.mg X.base CX g.ca k c m ps S sst) (gs : GoodSp S) (hK : X.K = g.K) (hr : Room k X.A) (hgd : X.A.guards = some []) (hg : Gl X c) (hx : Px CX X g Ed) (ha : QA X g (e :: es) t)
    (hdb : (c == ("__debug__" : Str)) = false := by decide) (he : starEach (e :: es) X.env = (false, eval e X.env) :: starEach es X.env := by rfl) (hpl : (backTo pos (starEach es X.env)).any (·.1) = false := by rfl)
    (hev : eval (.Call (.Attribute (.Name c p1) m apos) (e :: es) [] pos) X.env = (do
      let recv ← eval (.Name c p1) X.env
      standAt apos.atName
      let (fn, head) ← holding [recv] (getMethod recv m pl)
      callWith pos fn head (backTo pos (starEach (e :: es) X.env)) (backToKw pos (keywordEach [] X.env))) := by rfl) :
    PD X g (.Call (.Attribute (.Name c p1) m apos) (e :: es) [] pos) (dCm c S Ed t) where
  m := fun dl mu Q Q' w z => ha.m dl mu _ _ (fun ds m z => gs.q _ _ _ _ _ w z) z
  pe := ⟨fun pins s sg H Q I z => by
    obtain ⟨f, pa, fd, hm, hb, G, _⟩ := F.ex
    obtain ⟨dl, mu, T, r, z⟩ := z
    refine PySem.W.methodCall_KW (pl := pl) (ld_glob I hg F.gl ?_ hdb) hev
    refine ClX.getmethcm_ok I F.rd hm fun s2 I2 => ?_
    refine ClX.callwith_cm I2 (ClX.base_none I (Nat.le_refl _)) hm.fi ?_ he hpl
    refine thn (ha.pa.run pos _ s2 sg H (fun vs H1 => spOf g.K g.ca S (.ref (g.ca c) :: vs) H1 Q (fun cls x H => upX g Ed cls x sg H)) I2 ⟨dl, mu, T, r, ha.m dl mu _ _ (fun ds m z vs H1 hl r1 => call_in (vs := .ref (g.ca c) :: vs) (ds := .cls c :: ds) (by simp [hl]) (cls_in r1) z gs.q gs.e) z⟩) fun us s3 hh => ?_
    obtain ⟨vs, H2, I3, rv, q2⟩ := hh
    rw [hK] at G
    have hl1 : (Value.ref (g.ca c) :: us).length = ps.length := by
      rw [← G.len _ _ _ _ q2]
      simp [rv.length]
    have bnd := hb s3 (.ref (g.ca c) :: us) I3.kIn (by simpa using hl1)
    rw [List.append_nil] at bnd
    exact ⟨⟨ClX.pin_at I3, I3.kIn⟩, run_cmG (by rw [hK]; exact G) hr hgd (hx.at_ sg) I3 bnd rv q2⟩⟩
def dCmK (c : Str) (S : SpD) (Ed : EdT) (n : Nat) (perm : List Nat) (t : TAd) : TEd := fun dl mu Q => t dl mu fun ds m => ds.length = n ∧ S (.cls c :: pickL .non ds perm) m Q (Ed dl)
theorem pd_cmK {p1 : Pos} {pl : Sem Bool} {kws : List Keyword} {nks : List Str} {perm : List Nat} (F : Fk X.prog X.w X.K X.mg X.base CX g.ca k c m ps S sst) (hkb : ∀ y f fd, Fun X.K m y sst f fd → KB X.K fd ps 1 nks perm) (gs : GoodSp S) (hK : X.K = g.K) (hr : Room k X.A) (hgd : X.A.guards = some []) (hg : Gl X c) (hx : Px CX X g Ed) (ha : QK X g kws t)
    (hdb : (c == ("__debug__" : Str)) = false := by decide) (hall : (backToKw pos (keywordEach kws X.env)).all (·.1.isSome) = true := by rfl) (hks : (backToKw pos (keywordEach kws X.env)).filterMap (·.1) = nks := by rfl)
    (hpl : ((backTo pos (starEach [] X.env)).any (·.1) || (backToKw pos (keywordEach kws X.env)).any (·.1.isNone)) = false := by rfl)
    (hev : eval (.Call (.Attribute (.Name c p1) m apos) [] kws pos) X.env = (do
      let recv ← eval (.Name c p1) X.env
      standAt apos.atName
      let (fn, head) ← holding [recv] (getMethod recv m pl)
      callWith pos fn head (backTo pos (starEach [] X.env)) (backToKw pos (keywordEach kws X.env))) := by rfl) :
    PD X g (.Call (.Attribute (.Name c p1) m apos) [] kws pos) (dCmK c S Ed nks.length perm t) where
  m := fun dl mu Q Q' w z => ha.m dl mu _ _ (fun ds m z => ⟨z.1, gs.q _ _ _ _ _ w z.2⟩) z
  pe := ⟨fun pins s sg H Q I z => by
    obtain ⟨f, pa, fd, hm, hb, G, y, hf⟩ := F.ex
    have kb := hkb y f fd hf
    obtain ⟨dl, mu, T, r, z⟩ := z
    refine PySem.W.methodCall_KW (pl := pl) (ld_glob I hg F.gl ?_ hdb) hev
    refine ClX.getmethcm_ok I F.rd hm fun s2 I2 => ?_
    refine PySem.W.callWith_of (P := PySem.W.MethP X.K s.heap.objs.size f (.ref (g.ca c))) hpl (PySem.W.keeps_M hm.fi) (evalArgs_kw2_nil hall ?_)
    refine thn (ha.pk.run pos _ s2 sg H (fun vs H1 => vs.length = nks.length ∧ spOf g.K g.ca S (.ref (g.ca c) :: pickL .non vs perm) H1 Q (fun cls x H => upX g Ed cls x sg H)) I2 ⟨dl, mu, T, r, ha.m dl mu _ _ (fun ds m z vs H1 hl r1 => ⟨hl.trans z.1, ?_⟩) z⟩) fun us s3 hh => ?_
    · refine call_in (T := T) (vs := .ref (g.ca c) :: pickL .non vs perm) (ds := .cls c :: pickL .non ds perm) (by simp [pickL]) (cls_in (r1.sub fun q hq => ?_)) z.2 gs.q gs.e
      rcases List.mem_append.mp hq with h | h
      · exact List.mem_append_left _ (zip_pick hl (fun i hi => by rw [z.1]; exact kb.lt i hi) q h)
      · exact List.mem_append_right _ h
    · obtain ⟨vs, H2, I3, rv, hl, q2⟩ := hh
      rw [hK] at G
      rw [hks]
      refine ⟨⟨ClX.pin_at I3, I3.kIn⟩, run_cmG (us := []) (by rw [hK]; exact G) hr hgd (hx.at_ sg) I3 ?_ (vals_pick rv fun i hi => by rw [← rv.length, hl]; exact kb.lt i hi) q2⟩
      exact kb.to s3 [.ref (g.ca c)] us rfl (rv.length.symm.trans hl)⟩
/-! ### C(k = v, ..) -/
theorem run_makeGk {pins : List (Addr × Obj)} {sg : St} {H : Hp} {s : Shared} {Q : VK} {us ws : List Value} {vs : List V} {C f : Addr} {fd : FuncData} {sp : Sp} {E : XK} {kw : List (Str × Value)} (M : L2.Mk X.K C f) (F : FnG X.prog X.w X.K X.mg X.base CX k f fd ps sp) (hr : Room (k + 1) X.A) (hgd : X.A.guards = some [])
    (hb : ∀ (s : Shared) (x : Addr), BindsTo s fd ⟨.ref x :: us, kw⟩ (ps.zip (.ref x :: ws))) (hx : PassesAt CX X sg E) (I : Inv X pins sg H s) (rv : Vals vs ws)
    (prom : ∀ x dx, H x = none → H dx = none → dx ≠ x → sp (.ref x :: vs) (upd (upd H dx (.own x)) x (.ins C dx [])) (fun v H2 => v = .non ∧ Q (.ref x) H2) E) :
    wpAny (model X.prog X.w) X.A (call (.ref C) us kw) (EP X pins sg Q) X.xe s := by
  have hp := prom (s.heap.objs.size + 1) s.heap.objs.size (I.hok.fresh (Nat.le_succ _)) (I.hok.fresh (Nat.le_refl _)) (Nat.ne_of_lt (Nat.lt_succ_self _))
  have J := Inv.made (C := C) I
  have rw2 : Vals (V.ref (s.heap.objs.size + 1) :: vs) (Value.ref (s.heap.objs.size + 1) :: ws) := .cons rfl rv
  refine wpAny_call (make_map (f := f) I.kIn M.makes M.init (beq_iff_eq.mp M.fn) (codeAny_mono (F.run _ X.stack _ _ ⟨Value.ref (s.heap.objs.size + 1) :: us, kw⟩ _ _ _ E (hr.make C us kw) ?_ (J.env0.make C us kw) (hb _ _) rw2 hp) fun res s2 hq => ?_))
  · first | exact hgd | (simpa [Around.under] using hgd)
  · match res, hq with
    | .error er, hq => exact hx pins _ _ er s2 J hq
    | .ok (.ret u), hq =>
      obtain ⟨v, H3, J3, rv3, ev, q3⟩ := J.after hq
      subst ev
      exact ⟨rv3, ⟨V.ref (s.heap.objs.size + 1), H3, J3, rfl, q3⟩⟩
    | .ok .next, hq => exact hq.elim
    | .ok .brk, hq => exact hq.elim
    | .ok .cont, hq => exact hq.elim
def dMakeK (c : Str) (S : SpD) (Ed : EdT) (n : Nat) (perm : List Nat) (t : TAd) : TEd := fun dl mu Q => t dl mu fun ds m => ds.length = n ∧ S (.loc m.length :: pickL .non ds perm) (m ++ [.obj c []]) (fun d m2 => d = .non ∧ ∃ d' m', Frz m2 (.loc m.length) m' d' ∧ m.length ≤ m'.length ∧ Q d' m') (Ed dl)
theorem pd_makeK {kws : List Keyword} {nks : List Str} {perm : List Nat} (F : Fc X.prog X.w X.K X.mg X.base CX g.ca k c ps S sst) (hkb : ∀ y f fd, Fun X.K "__init__" y sst f fd → KB X.K fd ps 1 nks perm) (gs : GoodSp S) (hK : X.K = g.K) (hr : Room (k + 1) X.A) (hgd : X.A.guards = some []) (hg : Gl X c) (hx : Px CX X g Ed) (ha : QK X g kws t)
    (hdb : (c == ("__debug__" : Str)) = false := by decide) (hall : (backToKw pos (keywordEach kws X.env)).all (·.1.isSome) = true := by rfl) (hks : (backToKw pos (keywordEach kws X.env)).filterMap (·.1) = nks := by rfl)
    (hpl : ((backTo pos (starEach [] X.env)).any (·.1) || (backToKw pos (keywordEach kws X.env)).any (·.1.isNone)) = false := by rfl) :
    PD X g (.Call (.Name c p) [] kws pos) (dMakeK c S Ed nks.length perm t) where
  m := fun dl mu Q Q' w z => ha.m dl mu _ _ (fun ds m z => ⟨z.1, gs.q _ _ _ _ _ (fun d m2 z => by
    obtain ⟨h1, d', m', h2, h3, h4⟩ := z
    exact ⟨h1, d', m', h2, h3, w _ _ h4⟩) z.2⟩) z
  pe := ⟨fun pins s sg H Q I z => by
    obtain ⟨f, fd, M, hb, G, y, hf⟩ := F.ex
    have kb := hkb y f fd hf
    obtain ⟨dl, mu, T, r, z⟩ := z
    refine wpAny_Call_Name_kw (ld_glob I hg F.gl ?_ hdb)
    refine PySem.W.callWith_KW0 (h₀ := X.base) I.ok.mod.kin M.kp hall ?_ hpl
    refine thn (ha.pk.run pos pins s sg H (fun vs H1 => vs.length = nks.length ∧ ∀ x dx, H1 x = none → H1 dx = none → dx ≠ x → spOf g.K g.ca S (.ref x :: pickL .non vs perm) (upd (upd H1 dx (.own x)) x (.ins (g.ca c) dx [])) (fun v H2 => v = .non ∧ Q (.ref x) H2) (fun cls y H => upX g Ed cls y sg H)) I
      ⟨dl, mu, T, r, ha.m dl mu _ _ (fun ds m z vs H1 hl r1 => ⟨hl.trans z.1, fun x dx nx nd ne => make_in gs (by simp [pickL]) (r1.sub fun q hq => ?_) nx nd ne z.2⟩) z⟩) fun us s1 hh => ?_
    · rcases List.mem_append.mp hq with h | h
      · exact List.mem_append_left _ (zip_pick hl (fun i hi => by rw [z.1]; exact kb.lt i hi) q h)
      · exact List.mem_append_right _ h
    · obtain ⟨vs, H1, I1, rv, hl, q⟩ := hh
      rw [hK] at G
      rw [hks]
      exact ⟨I1.kIn, run_makeGk (us := []) M (by rw [hK]; exact G) hr hgd (fun s x => kb.to s [.ref x] us rfl (rv.length.symm.trans hl)) (hx.at_ sg) I1 (vals_pick rv fun i hi => by rw [← rv.length, hl]; exact kb.lt i hi) q⟩⟩
/-! ### x(..), x a local name that holds the class c -/
def dMakeL (i : Nat) (c : Str) (S : SpD) (Ed : EdT) (t : TAd) : TEd := fun dl mu Q => dVar i dl mu fun d m0 => d = .cls c ∧ dMake c S Ed t dl m0 Q
theorem pd_makeL {i : Nat} {x : Str} (F : Fc X.prog X.w X.K X.mg X.base CX g.ca k c ps S sst) (gs : GoodSp S) (hK : X.K = g.K) (hr : Room (k + 1) X.A) (hgd : X.A.guards = some []) (hx : Px CX X g Ed) (ha : QA X g (e :: es) t) (hv : PD X g (.Name x p) (dVar i))
    (he : starEach (e :: es) X.env = (false, eval e X.env) :: starEach es X.env := by rfl) (hpl : (backTo pos (starEach es X.env)).any (·.1) = false := by rfl) :
    PD X g (.Call (.Name x p) (e :: es) [] pos) (dMakeL i c S Ed t) where
  m := fun dl mu Q Q' w z => hv.m dl mu _ _ (fun d m z => ⟨z.1, make_m gs ha.m dl m _ _ w z.2⟩) z
  pe := ⟨fun pins s sg H Q I z => by
    obtain ⟨f, fd, M, hb, G, _⟩ := F.ex
    obtain ⟨dl, mu, T, r, z⟩ := z
    refine wpAny_Call_Name_kw (thn (hv.pe.run pins s sg H (fun v H1 => v = .ref (g.ca c) ∧ ∃ m0, Rel g dl m0 T sg H1 ∧ dMake c S Ed t dl m0 fun d m => ∀ v H', Rel g dl m ((v, d) :: T) sg H' → Q v H') I ⟨dl, mu, T, r, hv.m dl mu _ _ (fun d m z v H1 r1 => ?_) z⟩) fun u s1 hh => ?_)
    · obtain ⟨rfl, z⟩ := z
      obtain ⟨al, q, rp⟩ := r1.top
      simp only [Rep] at rp
      exact ⟨rp, m, r1.pop, z⟩
    obtain ⟨v, H1, I1, rv, rfl, m0, r1, z⟩ := hh
    obtain rfl : u = Value.ref (g.ca c) := rv
    refine PySem.W.callWith_K (h₀ := X.base) I1.ok.mod.kin M.kp ?_ he hpl
    refine thn (ha.pa.run pos pins s1 sg H1 (fun vs H1 => ∀ x dx, H1 x = none → H1 dx = none → dx ≠ x → spOf g.K g.ca S (.ref x :: vs) (upd (upd H1 dx (.own x)) x (.ins (g.ca c) dx [])) (fun v H2 => v = .non ∧ Q (.ref x) H2) (fun cls y H => upX g Ed cls y sg H)) I1
      ⟨dl, m0, T, r1, ha.m dl m0 _ _ (fun ds m z vs H1 hl r1 x dx nx nd ne => make_in gs hl r1 nx nd ne z) z⟩) fun us s2 hh => ?_
    obtain ⟨vs, H2, I2, rv, q⟩ := hh
    rw [hK] at G
    exact ⟨I2.kIn, run_makeG M (by rw [hK]; exact G) hr hgd hb (hx.at_ sg) I2 rv q⟩⟩
end
end VL

/-! VsStar: *e in displays; a, *b = a list. -/
namespace VL
open PySem PySem.Spec PyProof.Rows L2
section
variable {X : Cx} {g : Gm} {e : Expr} {es : List Expr} {te : TEd} {tr : TAd} {p pos : Pos}
/-! ### *e in a display -/
def dStar (te : TEd) (tr : TAd) : TAd := fun dl mu Q => te dl mu fun d m => match seqOf m d with
  | some xs => tr dl m fun ds m2 => Q (xs ++ ds) m2
  | none => False
theorem qa_star (hK : X.K = g.K) (he : PD X g e te) (hr : QA X g es tr) (hs : starEach (.Starred e p :: es) X.env = (true, eval e X.env) :: starEach es X.env := by rfl) : QA X g (.Starred e p :: es) (dStar te tr) where
  m := fun dl mu Q Q' w z => he.m dl mu _ _ (fun d m z => by
    cases eo : seqOf m d with
    | none => rw [eo] at z; exact z.elim
    | some xs => rw [eo] at z; exact hr.m dl m _ _ (fun ds m2 z => w _ _ z) z) z
  pa := PA.of (StX.pa_star he.pe hr.pa hs) fun sg H Q z => by
    obtain ⟨dl, mu, T, r, z⟩ := z
    refine ⟨dl, mu, T, r, he.m dl mu _ _ (fun d m z v H1 r1 => ?_) z⟩
    cases eo : seqOf m d with
    | none => rw [eo] at z; exact z.elim
    | some xs =>
      rw [eo] at z
      obtain ⟨al, q, rp⟩ := r1.top
      have key : ∃ a vs, v = .ref a ∧ (SqT g.K H1 a vs ∨ SqL g.K H1 a vs) ∧ Reps g.K g.ca al H1 xs vs := by
        rcases q.seq rp eo with ⟨a, vs, h1, h2, h3⟩ | ⟨a, vs, h1, h2, h3⟩
        · exact ⟨a, vs, h1, .inl h2, h3⟩
        · exact ⟨a, vs, h1, .inr h2, h3⟩
      obtain ⟨a, vs, rfl, h2, h3⟩ := key
      have hlv := reps_len h3
      refine ⟨a, vs, rfl, by rw [hK]; exact h2, dl, m, vs.zip xs ++ T, ⟨al, (q.sub fun _ h => List.mem_cons_of_mem _ h).zip h3⟩, hr.m dl m _ _ (fun ds m2 z us H2 hl r2 => ?_) z⟩
      refine z (vs ++ us) H2 (by simp [hlv, hl]) (r2.sub fun pq hp => ?_)
      rw [List.zip_append hlv, List.append_assoc] at hp
      rcases List.mem_append.mp hp with h | h
      · exact List.mem_append_right _ (List.mem_append_left _ h)
      · rcases List.mem_append.mp h with h | h
        · exact List.mem_append_left _ h
        · exact List.mem_append_right _ (List.mem_append_right _ h)
end
section
open PySem.W
variable {prog : Program} {w : World} {A : Around} {E : Value → Shared → Prop} {s : Shared}
/-- a list is unpacked: the first one, and a new list of the others -/
theorem unpack_first {l : Addr} {items : Array Value} {Q : List Value → Shared → Prop} {x : Value} {xs : List Value} (hl : s.heap.IsList l items) (hh : A.handled = none) (hi : items.toList = x :: xs) (hz : xs.length ≤ 16000)
    (h : ∀ (D : Addr) (h' : Heap) (tk : Nat), (∀ b o, s.heap.get? b = some o → h'.get? b = some o) → s.heap.get? D = none → h'.get? D = some { cls := .type "list", data := .seq xs.toArray } → Q [x, .ref D] { s with heap := h', toks := tk }) :
    wpAny (model prog w) A (unpackItems (.ref l) 2 (some 1)) Q E s := by
  have hsz : items.size = xs.length + 1 := by rw [← Array.length_toList, hi]; rfl
  obtain ⟨o0, ho0, q0⟩ := hl
  have lt0 := Heap.lt_size ho0
  have hl : s.heap.IsList l items := ⟨o0, ho0, q0⟩
  have hne : l ≠ s.heap.objs.size := Nat.ne_of_lt lt0
  unfold unpackItems notIterableAtAll
  refine wpAny_bind (wpAny_bind (wpAny_specialOf hl.typeIs PySem.F.slot_list_iter.lookup (wpAny_pure ?_)))
  simp only [Bool.false_eq_true, ↓reduceIte]
  refine wpAny_bind (wpAny_holding (wpAny_pyIter_list hl (wpAny_bind (wpAny_holding (kun_draw hne 1 0 _ _ ⟨_, Heap.get?_push_size _ rfl, rfl, rfl⟩ (hl.push _) (by omega) fun h1 it1 same1 => ?_)))))
  have hl1 : h1.IsList l items := (hl.push _).extBut same1.extBut hne
  have it1' : h1.IsListIter s.heap.objs.size l 1 := it1
  obtain ⟨oi, hoi, _⟩ := id it1'
  obtain ⟨ol, hol, _⟩ := id hl1
  have t1 : (items.toList.drop 0).take 1 = [x] := by rw [hi]; rfl
  rw [t1]
  simp only [List.length_singleton, Nat.lt_irrefl, ↓reduceIte]
  refine wpAny_bind (wpAny_holding (kun_collect (s := { s with heap := h1 }) (T := "list_iterator") (.inr (.inr (.inl rfl))) (Walks.list (A := A.in1) hh s.heap.objs.size l hne items) (fun j u st => st.1.typeIs) (k := 1) (by omega) ⟨it1', hl1⟩ (Heap.lt_size hoi) (Heap.lt_size hol) (fun h2 tk k2 => ?_) (by rw [sizeLine_eq]; omega)))
  have t2 : items.toList.drop 1 = xs := by rw [hi]; rfl
  rw [t2]
  simp only [Nat.reduceSub, Nat.not_lt_zero, ↓reduceIte, Nat.sub_zero, List.take_length, List.drop_length, List.append_nil]
  refine wpAny_bind (wpAny_newList (s := { s with heap := h2, toks := tk }) (wpAny_pure ?_) (by rw [sizeLine_eq]; omega))
  have keep : ∀ b o, s.heap.get? b = some o → h2.get? b = some o := fun b o eb => by
    have nb : b ≠ s.heap.objs.size := Nat.ne_of_lt (Heap.lt_size eb)
    exact k2 b o nb (same1.extBut b o nb (Heap.get?_push_of_some _ eb))
  refine h h2.objs.size (h2.push _) tk (fun b o eb => Heap.get?_push_of_some _ (keep b o eb)) ?_ (Heap.get?_push_size _ rfl)
  cases hd : s.heap.get? h2.objs.size with
  | none => rfl
  | some o => exact absurd (Heap.lt_size (keep _ _ hd)) (Nat.lt_irrefl _)
end
section
variable {X : Cx} {g : Gm} {pos sp : Pos}
theorem hok_there {P : Program} {w : World} {H : Hp} {h : Heap} {a : Addr} {o : HO} (x : HOk P w H h) (e : H a = some o) : ∃ ob, h.get? a = some ob := by
  have y := x a o e
  cases o with
  | lst xs => obtain ⟨_, _, _, _, q⟩ := y; exact ⟨_, q⟩
  | tup xs => obtain ⟨_, _, _, _, q, _⟩ := y; exact ⟨_, q⟩
  | dK kvs => obtain ⟨_, _, _, _, _, _, _, q, _⟩ := y; exact ⟨_, q⟩
  | dT kvs => obtain ⟨_, _, _, _, _, _, _, q, _⟩ := y; exact ⟨_, q⟩
  | set S n => obtain ⟨_, _, _, _, q, _⟩ := y; exact ⟨_, q⟩
  | ins C dx fs => obtain ⟨_, _, _, q, _⟩ := y; exact ⟨_, q⟩
  | own b => obtain ⟨_, q⟩ := y; exact ⟨_, q⟩
  | xd fs => obtain ⟨_, ⟨_, _, _, q, _⟩, _⟩ := y; exact ⟨_, q⟩
  | rng lo hi => obtain ⟨_, _, _, q⟩ := y; exact ⟨_, q⟩
  | frz ob u => obtain ⟨q, _⟩ := y; exact ⟨_, q⟩
  | tbl ps => exact ⟨_, y⟩
  | met f b => exact ⟨_, y⟩
  | ext φ => obtain ⟨_, ⟨_, q⟩, _⟩ := y; exact ⟨_, q⟩
/-! ### a, *b = a list -/
def kStar (k1 k2 : TGd) : TGd := fun d dl mu Q => match asL mu d with
  | some (x :: xs) => xs.length ≤ 16000 ∧ k1 x dl mu fun dl' mu' => k2 (.lst xs) dl' mu' Q
  | _ => False
theorem star_mono {k1 k2 : TGd} (h1 : MonoG k1) (h2 : MonoG k2) : MonoG (kStar k1 k2) := fun d dl mu Q Q' w z => by
  unfold kStar at z ⊢
  cases e : asL mu d with
  | none => rw [e] at z; exact z.elim
  | some l =>
    rw [e] at z
    cases l with
    | nil => exact z.elim
    | cons x xs => exact ⟨z.1, h1 _ _ _ _ _ (fun _ _ z => h2 _ _ _ _ _ w z) z.2⟩
theorem qg_star {e1 e2 : Expr} {kt : Nat} {k1 k2 : TGd} {w1 w2 : List Nat} (hK : X.K = g.K) (hc : X.calm = true) (h1 : QG X g e1 w1 k1) (h2 : QG X g e2 w2 k2)
    (hn : (assignEach [e1, .Starred e2 sp] X.env).length = 2 := by rfl) (hst : (assignEach [e1, .Starred e2 sp] X.env).findIdx? (·.1) = some 1 := by rfl) (hs : (assignEach [e1, .Starred e2 sp] X.env).map (·.2) = [assign e1 X.env, assign e2 X.env] := by rfl) :
    QG X g (.Tuple [e1, .Starred e2 sp] kt pos) (w1 ++ w2) (kStar k1 k2) where
  m := star_mono h1.m h2.m
  pg := ⟨fun pins s sg H v u Q I r z => by
    obtain ⟨dl, mu, T, d, rl, z⟩ := z
    unfold kStar at z
    cases e : asL mu d with
    | none => rw [e] at z; exact z.elim
    | some l =>
      rw [e] at z
      cases l with
      | nil => exact z.elim
      | cons x xs =>
        obtain ⟨hz, z⟩ := z
        obtain ⟨al, q, rp⟩ := rl.top
        obtain ⟨a, vs, rfl, sq, reps⟩ := q.lst rp e
        obtain rfl : u = Value.ref a := r
        simp only [Reps] at reps
        obtain ⟨v0, vr, rfl, rx, rxs⟩ := reps
        rw [← hK] at sq
        obtain ⟨its, rv, pl, _⟩ := I.list sq
        cases rv with
        | @cons _ u0 _ ur ru0 rur =>
          have hlu : ur.length ≤ 16000 := by rw [← rur.length, reps_len rxs]; exact hz
          have isl : s.heap.IsList a (u0 :: ur).toArray := pl.isList
          show wpAny (model X.prog X.w) X.A (assign (.Tuple [e1, .Starred e2 sp] kt pos) X.env (.ref a)) _ _ s
          rw [assign_Tuple]
          refine wpAny_bind (wpAny_standAt ?_)
          unfold unpack
          rw [hn, hst]
          refine wpAny_bind (wpAny_holding (unpack_first (x := u0) (xs := ur) isl (I.ok.hd hc) (by simp) hlu fun D h' tk keep nD hD => ?_))
          rw [hs]
          have nH : H D = none := by
            cases hb : H D with
            | none => rfl
            | some o =>
              obtain ⟨ob, hob⟩ := hok_there I.hok hb
              rw [nD] at hob; cases hob
          have I1 : Inv X pins sg (upd H D (.lst vr)) { s with heap := h', toks := tk } := I.laidN keep nD nH ⟨by rw [rur.length, sizeLine_eq]; omega, ur, 0, rur, hD⟩
          have q0 : RelA g al dl mu T sg H := q.sub fun _ h => List.mem_cons_of_mem _ h
          have r2 : Rel g dl mu ((v0, x) :: (.ref D, .lst xs) :: T) sg (upd H D (.lst vr)) := by
            obtain ⟨al2, q2⟩ := (q0.push rx).newLst (T := (v0, x) :: T) rxs nH
            exact ⟨al2, q2.sub fun p hp => by
              simp only [List.mem_cons] at hp ⊢
              rcases hp with h | h | h
              · exact .inr (.inl h)
              · exact .inl h
              · exact .inr (.inr h)⟩
          refine assignInOrder_cons (thn (h1.pg.run pins _ sg _ _ _ (fun sg1 H1 => ∃ dl1 mu1, Tch w1 sg sg1 ∧ Rel g dl1 mu1 ((.ref D, .lst xs) :: T) sg1 H1 ∧ k2 (.lst xs) dl1 mu1 fun dl' mu' => ∀ sg' H', Tch (w1 ++ w2) sg sg' → Rel g dl' mu' T sg' H' → Q sg' H') I1 ru0 ⟨dl, mu, _, x, r2, h1.m _ _ _ _ _ (fun dl1 mu1 z sg1 H1 tc r1 => ⟨dl1, mu1, tc, r1, z⟩) z⟩) fun _ s1 hh => ?_)
          obtain ⟨sg1, H1, J1, dl1, mu1, tc, r1, z⟩ := hh
          refine assignInOrder_cons (thn (h2.pg.run pins s1 sg1 H1 (.ref D) (.ref D) Q J1 rfl ⟨dl1, mu1, T, .lst xs, r1, h2.m _ _ _ _ _ (fun dl2 mu2 z sg2 H2 tc2 r2 => z sg2 H2 (tc.trans tc2) r2) z⟩) fun _ s2 hh => ?_)
          obtain ⟨sg2, H2, J2, q2⟩ := hh
          exact assignInOrder_nil ⟨sg2, H2, J2, q2⟩⟩
end
end VL

/-! VsEnd2: the head's facts with defs at any address; a try that runs through. -/
namespace VL
open PySem PySem.Spec PyProof.Rows L2
def obsW (n : Nat) (fa : List He.Fa) (fn : List He5.DefA) (ex : PySem.W.Frag → Bool) (r : Addr → Option Obj) : Bool × He.AlD := (ex (He.frG r (He5.asA r n)), He5.obsAG n fa fn r)
def hookW (n : Nat) (fa : List He.Fa) (fn : List He5.DefA) (ex : PySem.W.Frag → Bool) : PySem.W.Hook where
  α := Bool × He.AlD
  obs := fun s => obsW n fa fn ex s.heap.get?
  val := fun _ => (true, He5.valA fn)
  says := fun _ h => ∃ K : PySem.W.Frag, K.In h ∧ He5.SaysA fa fn K ∧ ex K = true
  of := fun _ _ e => ⟨_, He.frG_in, congrArg Prod.snd e, congrArg Prod.fst e⟩
  keeps := fun _ _ _ ⟨K, hK, c⟩ k => ⟨K, PySem.W.Frag.In.keeps hK k, c⟩
theorem obsW_eq {n : Nat} {fa : List He.Fa} {fn : List He5.DefA} {ex : PySem.W.Frag → Bool} {r : Addr → Option Obj} {s : Shared} (h : ∀ a, r a = s.heap.get? a) : obsW n fa fn ex r = (hookW n fa fn ex).obs s := by
  have e : r = s.heap.get? := funext h
  rw [e]
  rfl
theorem Fun.fnIn {K : PySem.W.Frag} {x y : Str} {st : Stmt} {f : Addr} {fd : FuncData} (F : Fun K x y st f fd) : PySem.W.fnIn K f = true := by
  obtain ⟨oc, od, kV, doc, pm, an, cdv, ct, osl, _, lk, _⟩ := F.ex
  unfold PySem.W.fnIn
  rw [lk]
/-- a property's facts, by a look -/
def propB (K : PySem.W.Frag) (C : Addr) (m : Str) : Bool :=
  He.eqO (PySem.W.findIn K (.ref C) m) (some (some (.ref (He.ma K C m)))) && (He.eqO (PySem.W.specialIn K (.ref (He.ma K C m)) "__get__") (some (some (.builtin "property.__get__"))) && ((PySem.W.takesIn K (.ref (He.ma K C m)) == some true) && (match PySem.W.recIn K (He.ma K C m) "property" with
    | some (.ref _ :: _) => true
    | _ => false)))
theorem propB_ok {K : PySem.W.Frag} {C : Addr} {m : Str} (h : propB K C m = true) : PropOf K C m (He.ma K C m) (He5.wf K C "property" m) := by
  unfold propB at h
  obtain ⟨h1, h⟩ := He.ba h
  obtain ⟨h2, h⟩ := He.ba h
  obtain ⟨h3, h4⟩ := He.ba h
  refine ⟨He.eqO_ok h1, He.eqO_ok h2, eq_of_beq h3, ?_⟩
  unfold He5.wf
  split at h4
  · rename_i f r e
    exact ⟨r, by rw [e]⟩
  · cases h4
/-- a class's attributes are read as usual -/
def creadB (K : PySem.W.Frag) (C : Addr) : Bool := PySem.W.readsIn K C (.type "type") && He.eqO (PySem.W.specialIn K (.ref C) "__getattribute__") (some (some (.builtin "type.__getattribute__")))
theorem creadB_ok {K : PySem.W.Frag} {C : Addr} (h : creadB K C = true) : ClX.CRead K C (.type "type") := by
  obtain ⟨h1, h2⟩ := He.ba h
  exact ⟨h1, He.eqO_ok h2⟩
def neB (K : PySem.W.Frag) (C : Addr) : Bool := He.eqO (PySem.W.findIn K (.ref C) "__ne__") (some (some (.builtin "object.__ne__")))
theorem neB_ok {K : PySem.W.Frag} {C : Addr} (h : neB K C = true) : NeC K C := ⟨He.eqO_ok h⟩
section
variable {X : Cx} {g : Gm} {body : List Stmt} {t : TSd} {pos : Pos}
theorem qss_eq {sts : List Stmt} {t' : TSd} (e : t' = t) (h : QSs X g sts t) : QSs X g sts t' := by
  rw [e]
  exact h
theorem qs_thru {h0 : ExceptHandler} {hs : List ExceptHandler} (hb : QSs X.nox g body t) : QS X g (.Try body (h0 :: hs) [] [] pos) t := ⟨hb.m, ps_try_thru0 hb.ps⟩
end
end VL

/-! VsDg: dict(a list of pairs), d.get(k, x). -/
namespace VL
open PySem PySem.Spec PyProof.Rows L2
section
variable {X : Cx} {g : Gm} {a b c e : Expr} {ta tb tc : TEd} {pos p apos : Pos} {t : TAd} {k : Nat}
def dictL (mu : Mu) : List D → Option (Prop × D)
  | [.lst ds] => match pairsD ds with
    | some kvs => some (True, .dct (mergeD [] kvs))
    | none => none
  | _ => none
theorem pd_dictL (hK : X.K = g.K) (hc : X.calm = true) (hg : Gl X "dict") (hm : X.mg "dict" = none) (ha : QA X g [a] t) (he : starEach [a] X.env = (false, eval a X.env) :: starEach [] X.env := by rfl) : PD X g (.Call (.Name "dict" p) [a] [] pos) (dB (gOf dictL) t) :=
  pd_bty (call_dictP hc) (cr_by fun dl mu T sg H vs ds c d Q al q k e hc z => by
    unfold dictL at e
    split at e
    · split at e
      · rename_i kvs e1
        cases e
        obtain ⟨v, rfl, k1⟩ := one_of k
        simp only [Rep] at k1
        obtain ⟨l, ws, rfl, f1, f3, f4⟩ := k1
        obtain ⟨ps, kvs', rfl, h3, h4⟩ := pairs_rep f4 e1
        exact ⟨l, ps, kvs', rfl, .of f1, by rw [hK]; exact h3, fun p' n => z _ _ (q.newDct (repK_merge h4 (by simp only [RepK])) n)⟩
      · cases e
    · cases e) gOf_m hg hm (by decide +kernel) ha (by decide) (by decide) he
/-- d.get(k, x) -/
def dGet2 (ta tb tc : TEd) : TEd := fun dl mu Q => ta dl mu fun d m => (dctOf m d).isSome = true ∧ tb dl m fun y m1 => tc dl m1 fun z m2 => match dctOf m2 d, keyD y with
  | some kvs, some k => Q ((valD kvs k).getD z) m2
  | _, _ => False
theorem pd_dget2 (hr : Room k X.A) (ha : PD X g a ta) (hb : PD X g b tb) (hc : PD X g c tc) (m : M2 X a "get" apos b c pos) : PD X g (.Call (.Attribute a "get" apos) [b, c] [] pos) (dGet2 ta tb tc) where
  m := fun dl mu Q Q' w z => ha.m dl mu _ _ (fun d m z => ⟨z.1, hb.m _ _ _ _ (fun y m1 z => hc.m _ _ _ _ (fun x m2 z => by
    cases e1 : dctOf m2 d with
    | none => rw [e1] at z; exact z.elim
    | some kvs =>
      cases e2 : keyD y with
      | none => rw [e1, e2] at z; exact z.elim
      | some k => rw [e1, e2] at z; exact w _ _ z) z) z.2⟩) z
  pe := PE.of (pe_dget2 (by have := hr.units; omega) ha.pe hb.pe hc.pe m) fun sg H Q z => by
    obtain ⟨dl, mu, T, r, z⟩ := z
    refine ⟨dl, mu, T, r, ha.m dl mu _ _ (fun d m z v H1 r1 => ?_) z⟩
    obtain ⟨al, q, rp⟩ := r1.top
    cases e0 : dctOf m d with
    | none => rw [e0] at z; cases z.1
    | some kv0 =>
      obtain ⟨l, vs0, rfl, rd0, _⟩ := q.dct rp e0
      refine ⟨l, rfl, .inl ⟨_, rd0⟩, dl, m, _, r1, hb.m _ _ _ _ (fun y m1 z w H2 r2 => ⟨dl, m1, _, r2, hc.m _ _ _ _ (fun x m2 z w3 H3 r3 => ?_) z⟩) z.2⟩
      cases e1 : dctOf m2 d with
      | none => rw [e1] at z; exact z.elim
      | some kvs =>
        cases e2 : keyD y with
        | none => rw [e1, e2] at z; exact z.elim
        | some k =>
          rw [e1, e2] at z
          obtain ⟨al3, q3⟩ := r3
          have hx : Rep g.K g.ca al3 H3 x w3 := q3.tmp (w3, x) (by simp)
          have hy : Rep g.K g.ca al3 H3 y w := q3.tmp (w, y) (by simp)
          have hd : Rep g.K g.ca al3 H3 d (.ref l) := q3.tmp (.ref l, d) (by simp)
          dsimp only at z
          obtain ⟨l', vs, e4, rd, rk⟩ := q3.dct hd e1
          cases e4
          have hw := key_rep e2 hy
          refine ⟨valV vs k, .inl ⟨vs, k, rd, hw, rfl⟩, ?_⟩
          have q0 : RelA g al3 dl m2 T sg H3 := q3.sub fun _ h => by simp [h]
          cases ev : valD kvs k with
          | none =>
            rw [ev] at z
            rw [repK_non rk ev]
            exact z _ _ ⟨al3, q0.push hx⟩
          | some d' =>
            rw [ev] at z
            obtain ⟨v', e5, r5⟩ := repK_some rk ev
            rw [e5]
            exact z _ _ ⟨al3, q0.push r5⟩
end
end VL

/-! VsExc: own exceptions with one field or none, over ValueError, LookupError, ArithmeticError: raised. -/
namespace VL
open PySem PySem.Spec PyProof.Rows L2
section
open PySem.W PySem.HandSPX Builtin Builtin.ObjectAttr
/-- own classes, then a built-in one's line -/
def refsT (tail : List Value) : List Value → Bool
  | .ref _ :: r => refsT tail r
  | l => l == tail
theorem refsT_cases {tail : List Value} (l : List Value) (h : refsT tail l = true) : (∃ c r, l = .ref c :: r ∧ refsT tail r = true) ∨ l = tail := by
  unfold refsT at h
  split at h
  · exact .inl ⟨_, _, rfl, h⟩
  · exact .inr (beq_iff_eq.mp h)
structure ExBase (tail : List Value) (B newId initId : String) : Prop where
  bf : ExcBaseFacts B newId initId tail
  ps : ∀ self, refuseLoop self "__setattr__" tail = pure ()
  ob : tail.contains (.type "object") = true
abbrev lnOf (B : String) : List Value := [.type B, .type "Exception", .type "BaseException", .type "object"]
theorem exVE : ExBase (lnOf "ValueError") "ValueError" "ValueError.__new__" "ValueError.__init__" := ⟨PySem.F.excBase_ValueError, fun self => PySem.F.store_ValueError.passes self, by decide +kernel⟩
theorem exLE : ExBase (lnOf "LookupError") "LookupError" "LookupError.__new__" "LookupError.__init__" := ⟨PySem.F.excBase_LookupError, fun self => by kernel_rfl, by decide +kernel⟩
theorem exAE : ExBase (lnOf "ArithmeticError") "ArithmeticError" "ArithmeticError.__new__" "ArithmeticError.__init__" := ⟨PySem.F.excBase_ArithmeticError, fun self => by kernel_rfl, by decide +kernel⟩
variable {tail : List Value} {B newId initId : String}
theorem ExBase.pass (b : ExBase tail B newId initId) (self : Value) : ∀ l : List Value, refsT tail l = true → refuseLoop self "__setattr__" l = pure ()
  | [], h => by
    rcases refsT_cases [] h with ⟨_, _, q, _⟩ | q
    · cases q
    · rw [q]; exact b.ps self
  | a :: r, h => by
    rcases refsT_cases (a :: r) h with ⟨c, r', q, k⟩ | q
    · cases q
      rw [refuseLoop_ref]
      exact b.pass self r k
    · rw [q]; exact b.ps self
theorem refsT_contains (Y : String) : ∀ l : List Value, refsT tail l = true → l.contains (.type Y) = tail.contains (.type Y)
  | [], h => by
    rcases refsT_cases [] h with ⟨_, _, q, _⟩ | q
    · cases q
    · rw [q]
  | a :: r, h => by
    rcases refsT_cases (a :: r) h with ⟨c, r', q, k⟩ | q
    · cases q
      rw [List.contains_cons, refsT_contains Y r k]
      rfl
    · rw [q]
end
section
open PySem.W PySem.HandSPX Builtin Builtin.ObjectAttr
variable {tail : List Value} {B newId initId : String} {prog : Program} {w : World} {A : Around} {E : Value → Shared → Prop} {R : Result → Shared → Prop} {hp : Heap} {g : Array GenState} {d : Drawn} {t : Nat} {os : OsState}
/-- the first field of a new exception -/
theorem xset {K : Frag} {name : Str} {tk : Tok} {v : Value} {x C : Addr} {fv : Array Value} {cd : ClassData} (b : ExBase tail B newId initId)
    (X : K.In hp) (hx : hp.get? x = some { cls := .ref C, data := .fields fv }) (hcd : clsIn K C = some cd) (hm : refsT tail cd.mro = true) (hh : cd.hasDict = true) (ha : findIn K (.ref C) name = some none)
    (hq : ∀ h' tk' dx, (∀ b o, b ≠ x → hp.get? b = some o → h'.get? b = some o) → hp.objs.size ≤ dx → dx ≠ x → h'.get? x = some { cls := .ref C, dict := some dx, data := .fields fv } →
      h'.Ns1 dx (fun y => if y = name then some v else none) → R (.ok (.ret .none)) ⟨h', g, d, tk', os⟩) :
    codeAny (model prog w) A (.call (.builtin "object.__setattr__") ⟨[.ref x, .str name tk, v], []⟩) R ⟨hp, g, d, t, os⟩ := by
  have inst : InstAt hp x { cls := .ref C, data := .fields fv } C none := ⟨hx, rfl, rfl, trivial⟩
  have sf := PySem.F.store_object
  have hob : cd.mro.contains (.type "object") = true := (refsT_contains "object" _ hm).trans b.ob
  have hem : cd.mro.isEmpty = false := by
    cases e : cd.mro with
    | nil => rw [e] at hob; cases hob
    | cons _ _ => rfl
  have hxs : x ≠ hp.objs.size := Nat.ne_of_lt (Heap.lt_size hx)
  have isO : Looks (model prog w) hp (isInstance (.ref x) (.type "object")) true := inst.type.andThen (looks_mroIn X (by unfold mroIn; rw [hcd, Option.bind_some, if_neg (by rw [hem]; decide), hob]))
  refine codeAny_call_builtin sf.slot.plain sf.entry (@check_slot (model prog w) _ _ ⟨hp, g, d, t, os⟩ "object.__setattr__" "object" "__setattr__" (.ref x) [.str name tk, v] [] _ sf.kind sf.split isO (sf.args (.ref x) (.str name tk) v) ?_)
  have lm : Looks (model prog w) hp (mroOf (.ref C)) cd.mro := (looks_clsIn X hcd).andThen .now
  have ls : Looks (model prog w) hp (storeTaker? none) none := .now
  have lc : Looks (model prog w) hp (classData C) cd := looks_clsIn X hcd
  rw [osa_eq, refuse_eq]
  refine wpAny_bind (wpAny_bind (inst.type.at (wpAny_bind (lm.at ?_))))
  rw [b.pass _ _ hm]
  refine wpAny_pure (wpAny_bind (inst.type.at (wpAny_bind ((looks_findIn X ha).at (wpAny_bind (ls.at ?_))))))
  show wpAny _ _ (storeInOwnDict (.ref x) (.ref C) (.str name tk) name v false) _ _ _
  obtain ⟨nm, bs, mro, ns, qn, hd, sn, sb, ab, col, del⟩ := cd
  dsimp only at hh
  subst hh
  unfold storeInOwnDict ownDictForStores
  repeat (first | with_reducible refine store_in_new ?_ ?_ | with_reducible refine wpAny_loadPart_at hx ?_ | with_reducible refine lc.at ?_ | wp_step)
  · exact ⟨_, #[], _, (Heap.get?_update_ne _ _ _ _ hxs.symm).trans (Heap.get?_push_at rfl rfl), rfl, fun e he => absurd he (by simp), fun _ => rfl⟩
  · intro h2 tk2 hn2 hs2
    have hx1 : (hp.push { cls := .type "dict", data := .dict #[] }).get? x = some { cls := .ref C, data := .fields fv } := Heap.get?_push_of_some _ hx
    refine hq h2 tk2 hp.objs.size (fun b o hb ho => ?_) (Nat.le_refl _) hxs.symm ?_ hn2
    · exact (hs2.2 b (Nat.ne_of_lt (Heap.lt_size ho))).trans ((Heap.get?_update_ne _ _ _ _ hb).trans (Heap.get?_push_of_some _ ho))
    · exact (hs2.2 x hxs).trans (Heap.get?_update_self _ hx1 rfl)
/-- what the written part says of an own exception class -/
structure OeC (K : Frag) (C : Addr) (tail : List Value) (newId : String) : Prop where
  cls : ∃ nm q N bs bm sn sub ab col dd k0 k1 k2 k3 k5, K.lookup C = some (excClassObj nm q C N bs bm true sn sub ab col dd k0 k1 k2 k3 k5 newId) ∧ refsT tail bm = true
  sa : findIn K (.ref C) "__setattr__" = some (some (.builtin "object.__setattr__"))
  exC : subIn K (.ref C) (.type "BaseException") = some true
  tyC : typeIn K (.ref C) = some (.type "type")
  kC : keepIn K (.ref C) = true
/-- how its __init__ is written: it keeps what it gets under its own name -/
structure IniT (st : Stmt) (f : Str) : Prop where
  body : ∃ q1 q2 q3 q4, defBody st = [.Assign [.Attribute (.Name "self" q1) f q2] (.Name f q3) q4]
  bind : ∀ (y : Str) (kV doc pm : Value) (an : Option Addr) (cdv ct x v : Value), bindArgs (fnOf "__init__" y (defArgs st) (defBody st) (defScope st) .none kV doc pm an cdv ct) ⟨[x, v], []⟩ = pure [(("self" : Str), x), (f, v)]
  ls : (defScope st).names.lookup ("self" : Str) = some .local
  lf : (defScope st).names.lookup f = some .local
  ne : f ≠ "self"
  dbg : (f == ("__debug__" : Str)) = false
  co : (defScope st).isCoroutine = false
  gen : (defScope st).isGenerator = false
  kind : (defScope st).kind = .function
structure XMade (h h' : Heap) (e C d : Addr) (f : Str) (v : Value) : Prop where
  keep : ∀ b o, h.get? b = some o → h'.get? b = some o
  new : h.objs.size ≤ e
  obj : ∃ oe vs, h'.get? e = some oe ∧ oe.cls = .ref C ∧ oe.dict = some d ∧ oe.data = .fields vs ∧ vs[1]? = some .none ∧ vs[2]? = some .none ∧ vs.size = 6
  dbig : h.objs.size ≤ d
  dne : d ≠ e
  ns : h'.Ns1 d (fun y => if y = f then some v else none)
end
section
open PySem.W PySem.HandSPX PySem.Calls
variable {tail : List Value} {B newId initId : String} {prog : Program} {w : World} {A : Around} {E : Value → Shared → Prop} {R : Result → Shared → Prop} {s : Shared} {K : Frag} {C fI : Addr} {f y : Str} {st : Stmt} {fd : FuncData}
theorem ld_name {M : Model} {s : Shared} {q : Str} {scope : Scope} {L a : Addr} {cd : Value} {m : Str → Option Value} {x : Str} {pos : Pos} {v : Value} {Q : Value → Shared → Prop} {A : Around} {E : Value → Shared → Prop} (hn : s.heap.Ns L m) (hv : m x = some v) (h : Q v s)
    (hk : scope.kind = .function) (hl : scope.names.lookup x = some .local) (hd : (x == ("__debug__" : Str)) = false) : wpAny M A (eval (.Name x pos) (envOfC q scope L a cd)) Q E s := wpAny_Name (wpAny_loadName_local hk hl hn hv h) hd
theorem xinit (b : ExBase tail B newId initId) (T : OeC K C tail newId) (F : Fun K "__init__" y st fI fd) (I : IniT st f) (hno : findIn K (.ref C) f = some none) {x t0 : Addr} {v : Value} (X : K.In s.heap) (hlim : s.heap.NoLimit) (hx : s.heap.get? x = some (excO C t0)) (room : A.depth < recursionLimit)
    (hq : ∀ h' tk dx, (∀ b o, b ≠ x → s.heap.get? b = some o → h'.get? b = some o) → s.heap.objs.size ≤ dx → dx ≠ x → h'.get? x = some { cls := .ref C, dict := some dx, data := .fields #[.ref t0, .none, .none, .none, .bool false, .none] } → h'.Ns1 dx (fun y => if y = f then some v else none) → R (.ok (.ret .none)) { s with heap := h', toks := tk }) :
    codeAny (model prog w) A (.call (.ref fI) ⟨[.ref x, v], []⟩) R s := by
  obtain ⟨oc, od, kV, doc, pm, an, cdv, ct, osl, rfl, lk, hcd⟩ := F.ex
  obtain ⟨nm, q, N, bs, bm, sn, sub, ab, col, dd, k0, k1, k2, k3, k5, hC, hbm⟩ := T.cls
  obtain ⟨q1, q2, q3, q4, hB⟩ := I.body
  have hcl : clsIn K C = some { name := nm, bases := bs, mro := .ref C :: bm, ns := N, qualname := q, hasDict := true, slotNames := sn, subclasses := sub, abstract := ab, collection := col, hasDel := false } := by
    unfold clsIn
    rw [hC]
  refine Att.call_fn (binds := [(("self" : Str), .ref x), (f, v)]) X hlim lk hcd room (BindsTo.of_eq (I.bind y kV doc pm an cdv ct (.ref x) v)) ?_ (fun s1 ic => ?_) I.co I.gen I.kind
  · simp [I.ls, I.lf]
  · obtain ⟨h1, tk1, rfl⟩ := ic.toInCall.same
    have k : ∀ b o, s.heap.get? b = some o → h1.get? b = some o := ic.toInCall.keep
    have hn := ic.toInCall.ns
    have e1 : bindL (envOfC y (defScope st) s.heap.objs.size fI cdv).kindOf [(("self" : Str), .ref x), (f, v)] (fun _ => none) "self" = some (.ref x) := by
      have ks : (envOfC y (defScope st) s.heap.objs.size fI cdv).kindOf "self" = some .local := I.ls
      have kf : (envOfC y (defScope st) s.heap.objs.size fI cdv).kindOf f = some .local := I.lf
      simp [bindL, ks, kf, I.ne]
      intro e
      exact absurd e.symm I.ne
    have e2 : bindL (envOfC y (defScope st) s.heap.objs.size fI cdv).kindOf [(("self" : Str), .ref x), (f, v)] (fun _ => none) f = some v := by
      have ks : (envOfC y (defScope st) s.heap.objs.size fI cdv).kindOf "self" = some .local := I.ls
      have kf : (envOfC y (defScope st) s.heap.objs.size fI cdv).kindOf f = some .local := I.lf
      simp [bindL, ks, kf, I.ne]
    rw [hB]
    refine wpAny_execs_cons (plainObj_wpAny_Assign_Attribute ?_)
    refine ld_name (v := v) hn e2 (ld_name (v := .ref x) hn e1 ?_ I.kind I.ls (by decide)) I.kind I.lf I.dbg
    refine set_plain (X.keeps k) (ox := excO C t0) (od := none) ⟨k _ _ hx, rfl, rfl, trivial⟩ T.sa ?_
    refine xset b (X.keeps k) (k _ _ hx) hcl (show refsT tail (.ref C :: bm) = true from hbm) rfl hno (fun h3 tk3 dx k3 dn dne hx3 hn3 => ?_)
    have lt : s.heap.objs.size < h1.objs.size := hn.lt
    exact wpAny_execs_nil (hq h3 tk3 dx (fun b o hb e => k3 b o hb (k b o e)) (Nat.le_of_lt (Nat.lt_of_lt_of_le lt dn)) dne hx3 hn3)
theorem xmade (b : ExBase tail B newId initId) (T : OeC K C tail newId) (F : Fun K "__init__" y st fI fd) (I : IniT st f) (hno : findIn K (.ref C) f = some none) (iC : findIn K (.ref C) "__init__" = some (some (.ref fI))) (tI : typeIn K (.ref fI) = some (.type "function")) {v : Value} (X : K.In s.heap) (hlim : s.heap.NoLimit) (room : A.depth + 1 < recursionLimit)
    (hq : ∀ h' tk e d, XMade s.heap h' e C d f v → R (.ok (.ret (.ref e))) { s with heap := h', toks := tk }) : codeAny (model prog w) A (.call (.ref C) ⟨[v], []⟩) R s := by
  obtain ⟨nm, q, N, bs, bm, sn, sub, ab, col, dd, k0, k1, k2, k3, k5, hC, hbm⟩ := T.cls
  obtain ⟨hp, g, dr, tk, os⟩ := s
  have k : ∀ b o, hp.get? b = some o → ((hp.push (kdv_tup [v])).push (excO C hp.objs.size)).get? b = some o := fun b o e => Heap.get?_push_of_some _ (Heap.get?_push_of_some _ e)
  have hget : ((hp.push (kdv_tup [v])).push (excO C hp.objs.size)).get? (hp.objs.size + 1) = some (excO C hp.objs.size) := by heap_get
  refine call_own b.bf (fun Y => refsT_contains Y bm hbm) (X _ _ hC) (looks_findIn X iC) (fun self => bind_fn X self tI) (show [v].length ≤ sizeLine by rw [sizeLine_eq]; exact (by decide : 1 ≤ 16777216)) ?_
  refine xinit (s := ⟨(hp.push (kdv_tup [v])).push (excO C hp.objs.size), g, dr, tk, os⟩) b T F I hno (X.keeps k) (hlim.keeps k) hget ?_ fun h2 tk2 dx k2 dn dne hx2 hns => ?_
  · show A.depth + 1 < recursionLimit
    exact room
  · have sz : hp.objs.size + 1 + 1 ≤ dx := by
      have q := dn
      simpa only [Heap.size_push] using q
    refine ⟨rfl, hq h2 tk2 (hp.objs.size + 1) dx ⟨fun b o e => k2 b o (Nat.ne_of_lt (Nat.lt_succ_of_lt (Heap.lt_size e))) (k b o e), Nat.le_succ _, ⟨_, _, hx2, rfl, rfl, rfl, rfl, rfl, rfl⟩, (by show hp.objs.size ≤ dx; omega), dne, hns⟩⟩
end
end VL

/-! VsRai: raise over data. -/
namespace VL
open PySem PySem.Spec PyProof.Rows L2
section
open PySem.W
def oeB (K : Frag) (C : Addr) (tail : List Value) (newId : String) : Bool := (match K.lookup C with
  | some ⟨.type "type", _, .cls cd, sl⟩ => (match cd.mro, sl.toList with
    | .ref C' :: bm, [_, _, _, _, some (.builtin n), _] => decide (C' = C) && (decide (n = newId) && (!cd.hasDel && (cd.hasDict && refsT tail bm)))
    | _, _ => false)
  | _ => false) && (He.eqO (findIn K (.ref C) "__setattr__") (some (some (.builtin "object.__setattr__"))) && (decide (subIn K (.ref C) (.type "BaseException") = some true) && (decide (typeIn K (.ref C) = some (.type "type")) && keepIn K (.ref C))))
theorem oeB_ok {K : Frag} {C : Addr} {tail : List Value} {newId : String} (h : oeB K C tail newId = true) : OeC K C tail newId := by
  unfold oeB at h
  obtain ⟨h1, h⟩ := He.ba h
  obtain ⟨h2, h⟩ := He.ba h
  obtain ⟨h3, h⟩ := He.ba h
  obtain ⟨h4, h5⟩ := He.ba h
  refine ⟨?_, He.eqO_ok h2, of_decide_eq_true h3, of_decide_eq_true h4, h5⟩
  split at h1
  · rename_i dd cd sl e
    split at h1
    · rename_i C' bm x0 x1 x2 x3 n x5 e1 e2
      obtain ⟨a1, h1⟩ := He.ba h1
      obtain ⟨a2, h1⟩ := He.ba h1
      obtain ⟨a3, h1⟩ := He.ba h1
      obtain ⟨a4, a5⟩ := He.ba h1
      have b1 := of_decide_eq_true a1
      have b2 := of_decide_eq_true a2
      subst b1 b2
      obtain ⟨nm, bs, mro, ns, qn, hd, sn, sb, ab, col, del⟩ := cd
      dsimp only at e1 a3 a4
      have hsl : sl = #[x0, x1, x2, x3, some (.builtin n), x5] := by
        apply Array.ext'
        rw [e2]
      have hdel : del = false := by simpa using a3
      subst e1 a4 hdel hsl
      exact ⟨nm, qn, ns, bs, bm, sn, sb, ab, col, dd, x0, x1, x2, x3, x5, e, a5⟩
    · cases h1
  · cases h1
end
/-- an own exception class c that keeps one value under the name f -/
structure Xc (K : PySem.W.Frag) (mg : Str → Option Value) (ca : Str → Addr) (c f : Str) : Prop where
  gl : mg c = some (.ref (ca c))
  no : PySem.W.findIn K (.ref (ca c)) f = some none
  ex : ∃ (tail : List Value) (B newId initId : String) (fI : Addr) (fd : FuncData) (y : Str) (st : Stmt), ExBase tail B newId initId ∧ OeC K (ca c) tail newId ∧ Fun K "__init__" y st fI fd ∧ IniT st f ∧ PySem.W.findIn K (.ref (ca c)) "__init__" = some (some (.ref fI)) ∧ PySem.W.typeIn K (.ref fI) = some (.type "function")
section
variable {X : Cx} {g : Gm} {a : Expr} {t : TAd} {ta : TEd} {c f : Str} {Ed : EdT} {k : Nat} {p pos pos2 : Pos}
theorem relO_one {v : V} {u : Value} (r : RelV v u) (f z : Str) : RelO (List.lookup z [(f, v)]) (if z = f then some u else none) := by
  by_cases h : z = f
  · subst h
    simp only [List.lookup, beq_self_eq_true, ↓reduceIte]
    exact r
  · have e : (z == f) = false := by simpa using h
    simp only [List.lookup, e, h, ↓reduceIte]
    trivial
/-- c(e): an exception is made -/
def tMkX (C : Addr) (f : Str) (ta : TA) : St → Hp → XK → Prop := fun σ H Q => ta σ H fun vs H1 => ∃ v, vs = [v] ∧ ∀ d, H1 d = none → Q (.ref C) (some d) (upd H1 d (.xd [(f, v)]))
theorem pmk_x {ca : Str → Addr} {ta : TA} (T : Xc X.K X.mg ca c f) (hr : Room k X.A) (hg : Gl X c) (ha : PA X [a] ta) (hdb : (c == ("__debug__" : Str)) = false := by decide)
    (he : starEach [a] X.env = (false, eval a X.env) :: starEach [] X.env := by rfl) : PMk X (.Call (.Name c p) [a] [] pos) (tMkX (ca c) f ta) := by
  intro pins s σ H Q I h
  obtain ⟨tail, B, newId, initId, fI, fd, y, st, hb, ho, hF, hI, iC, tI⟩ := T.ex
  refine wpAny_Call_Name_kw (ld_glob I hg T.gl ?_ hdb)
  refine PySem.W.callWith_K (h₀ := X.base) I.ok.mod.kin ho.kC (thn (ha.run pos pins s σ H _ I h) fun us s1 hh => ?_) he rfl
  obtain ⟨vs, H1, I1, r1, v, rfl, q⟩ := hh
  refine ⟨I1.kIn, ?_⟩
  cases r1 with
  | @cons _ u _ ur rv rn =>
    cases rn
    show wpAny _ _ (call (.ref (ca c)) [u]) _ _ _
    have lim := I1.nolimit
    obtain ⟨hp, gs, dr, tk, os⟩ := s1
    refine wpAny_call (xmade hb ho hF hI T.no iC tI I1.kIn lim (by have := hr.dp; omega) fun h2 tk2 e d M => ?_)
    show MkP X pins σ Q (.ref e) ⟨h2, gs, dr, tk2, os⟩
    obtain ⟨oe, fv, hoe, hc, hd, hdat, h1, h3, h4⟩ := M.obj
    have hns := M.ns
    obtain ⟨G, g1, g2⟩ := restrict h2 fun b => decide (b ≠ e)
    have gk : ∀ b, b ≠ e → G.get? b = h2.get? b := fun b hb => g1 b (decide_eq_true hb)
    have ge : G.get? e = none := g2 e (by simp)
    have old : ∀ b o, hp.get? b = some o → G.get? b = some o := fun b o q => (gk b (Nat.ne_of_lt (Nat.lt_of_lt_of_le (Heap.lt_size q) M.new))).trans (M.keep b o q)
    have ob : ObjOk X.prog X.w (upd H1 d (.xd [(f, v)])) G d (.xd [(f, v)]) := ⟨_, hns.at (fun o q => (gk d M.dne).trans q), fun z => relO_one rv f z⟩
    have J : Inv X pins σ (upd H1 d (.xd [(f, v)])) ⟨G, gs, dr, tk2, os⟩ := I1.laid (t' := tk2) old M.dbig ob
    refine ⟨e, oe, fv, ⟨G, gs, dr, tk2, os⟩, _, .ref (ca c), some d, rfl, J, fun b o q => ?_, ge, hoe, ⟨hc, hd⟩, hdat, h1, ?_, rfl, I1.bare, raises_own ho.exC ho.tyC, q d (I1.hok.fresh M.dbig)⟩
    · by_cases hb : b = e
      · have q' : G.get? b = some o := q
        rw [hb, ge] at q'
        cases q'
      · exact (gk b hb).symm.trans q
    · rw [upd_ne (Ne.symm M.dne)]
      exact I1.hok.fresh M.new
/-- what is made, over data -/
theorem mk_x {ta : TEd} (ha : MonoE ta) (hK : X.K = g.K) {dl : Lo} {mu : Mu} {T : List (V × D)} {sg : St} {H : Hp} (r : Rel g dl mu T sg H) (z : ta dl mu fun d m => Ed dl c [(f, d)] m) :
    upE g ta sg H fun v H1 => ∀ d, H1 d = none → upX g Ed (.ref (g.ca c)) (some d) sg (upd H1 d (.xd [(f, v)])) :=
  ⟨dl, mu, T, r, ha dl mu _ _ (fun d m z v H1 r1 dd nd => by
    obtain ⟨al, q, rp⟩ := r1.top
    have q2 := q.new (p := dd) (o := .xd [(f, v)]) nd
    refine ⟨dl, m, T, c, [(f, d)], al, q2.sub fun _ h => List.mem_cons_of_mem _ h, ⟨rfl, [(f, v)], upd_same, q.st.fresh nd, ?_⟩, z⟩
    simp only [RepF]
    exact ⟨v, [], rfl, Rep.grow (stp_new (g := g) nd).toGrow _ _ rp, rfl⟩) z⟩
def sRaise (c f : Str) (te : TEd) (Ed : EdT) : TSd := fun _ dl mu => te dl mu fun d m => Ed dl c [(f, d)] m
theorem qs_raise {CX : CXT} (T : Xc X.K X.mg g.ca c f) (hK : X.K = g.K) (hc : X.calm = true) (hr : Room k X.A) (hg : Gl X c) (hx : Px CX X g Ed) (ha : PD X g a ta) (hdb : (c == ("__debug__" : Str)) = false := by decide)
    (he : starEach [a] X.env = (false, eval a X.env) :: starEach [] X.env := by rfl) : QS X g (.Raise (some (.Call (.Name c p) [a] [] pos)) none pos2) (sRaise c f ta Ed) where
  m := fun A B h dl mu z => z
  ps := PS.of (ps_raise hc hx.tk (pmk_x T hr hg (pa_cons ha.pe pa_nil he) hdb he)) fun E sg H z => by
    obtain ⟨dl, mu, T', A, r, f', z⟩ := z
    obtain ⟨dl', mu', T'', r', z'⟩ := mk_x (c := c) (f := f) (Ed := Ed) ha.m hK r z
    exact ⟨dl', mu', T'', r', ha.m _ _ _ _ (fun d m z v H1 r1 => ⟨v, rfl, z v H1 r1⟩) z'⟩
end
end VL

/-! VsTry: try with any except clauses; the caught exception is a value. -/
namespace VL
open PySem PySem.Spec PyProof.Rows L2
section
variable {X : Cx} {pins : List (Addr × Obj)} {σ : St} {H : Hp} {s : Shared}
/-- the object at a, new since the entry, is tracked from now on -/
theorem inv_track {a : Addr} {oe : Obj} {fv : Array Value} (I : Inv X pins σ H s) (na : H a = none) (h0 : X.s_0.heap.get? a = none) (ha : s.heap.get? a = some oe) (hd : oe.data = .fields fv) (nL : a ≠ X.env.locals) (np : ∀ p ∈ X.pn ++ pins, p.1 ≠ a) : Inv X pins σ (upd H a (XA a oe)) s := by
  have old : ∀ b o, X.s_0.heap.get? b = some o → b ≠ a := fun b o e z => by
    rw [z, h0] at e
    cases e
  have new : ObjOk X.prog X.w (upd H a (XA a oe)) s.heap a (XA a oe) := ⟨ha, ⟨oe, ha⟩, fun _ _ z k => k _ z⟩
  have cne : ∀ x c, X.env.cells.lookup x = some c → c ≠ a := fun x c e z => by
    obtain ⟨v, o, q, d⟩ := I.cell x c e
    rw [z, ha] at q
    cases q
    rw [hd] at d
    cases d
  exact {
    ok := I.ok
    os := I.os
    bare := I.bare
    base := {
      keep := I.base.keep
      slot := I.base.slot
      free := fun b o e n hx => (upd_ne (old b o e)).trans (I.base.free b o e n hx)
      there := I.base.there
      tups := fun b xs e => (upd_ne (ne_of_none (I.base.tups b xs e) na)).trans (I.base.tups b xs e)
      frzs := fun b o xs e => (upd_ne (ne_of_none (I.base.frzs b o xs e) na)).trans (I.base.frzs b o xs e)
      tbls := fun b ps e => by
        obtain ⟨more, q⟩ := I.base.tbls b ps e
        exact ⟨more, (upd_ne (ne_of_none q na)).trans q⟩ }
    loc := I.loc
    cell := I.cell
    free := (upd_ne (Ne.symm nL)).trans I.free
    freeC := fun x c e => (upd_ne (cne x c e)).trans (I.freeC x c e)
    pin := fun p hp => by
      obtain ⟨q1, q2, q3⟩ := I.pin p hp
      exact ⟨q1, (upd_ne (np p hp)).trans q2, q3⟩
    hok := I.hok.laidN (fun _ _ e => e) na new
    len := I.len }
theorem inv_in {a : Addr} (I : Inv X pins σ H s) : Inv (X.suite a (X.pn ++ pins)) [] σ H s :=
  { I with ok := I.ok.suite _ _, pin := fun p hp => I.pin p (by simpa using hp) }
theorem inv_out {a : Addr} (ok : X.Ok) (I : Inv (X.suite a (X.pn ++ pins)) [] σ H s) : Inv X pins σ H s :=
  { I with ok := ok, pin := fun p hp => I.pin p (List.mem_append_left _ hp) }
theorem fly_keeps {B h h' : Heap} {l : List Env} {a : Addr} {Z : Obj → Prop} (fl : HandSPX.FlyingZ B l a Z h) (k : ∀ b o, h.get? b = some o → h'.get? b = some o) : HandSPX.FlyingZ B l a Z h' := by
  obtain ⟨f1, f2, f3, oe, vs, T, oT, us, e1, e2, e3, e4, e5, e6, e7, e8, e9⟩ := fl
  exact ⟨fun b o e => k b o (f1 b o e), f2, f3.of_keeps fun b o e _ => ⟨o, k b o e, rfl⟩, oe, vs, T, oT, us, k _ _ e1, e2, e3, e4, e5, e6, k _ _ e7, e8, e9⟩
end
/-! ### the test of a clause -/
/-- the test t asks for the classes cs -/
def Tst (X : Cx) (t : Expr) (cs : List Value) : Prop :=
  ∀ (a : Addr) (oe : Obj) (pn : List (Addr × Obj)) (s : Shared) (σ : St) (H : Hp) (b : Bool) (Q : Bool → Shared → Prop) (E : Value → Shared → Prop), Inv (X.suite a pn) [] σ H s → s.heap.get? a = some oe → PySem.W.exmAny X.K oe.cls cs = some b →
    (∀ (h' : Heap) (tk : Nat), (∀ c o, s.heap.get? c = some o → h'.get? c = some o) → Q b { s with heap := h', toks := tk }) →
    wpAny (model X.prog X.w) (X.A.mark (some (.ref a))) (eval t X.env) (fun c s1 => wpAny (model X.prog X.w) (X.A.mark (some (.ref a))) (excMatches (.ref a) c) Q E s1) E s
section
variable {X : Cx}
theorem ld_names {a : Addr} {pn : List (Addr × Obj)} {s : Shared} {σ : St} {H : Hp} {x : Str} {c : Value} {np : Pos} {Q : Value → Shared → Prop} {E : Value → Shared → Prop} (hc : Names X x c) (I : Inv (X.suite a pn) [] σ H s) (q : Q c s) : wpAny (model X.prog X.w) (X.A.mark (some (.ref a))) (eval (.Name x np) X.env) Q E s := by
  obtain ⟨hg, hd, hm | ⟨hm, hv, hn⟩⟩ := hc
  · exact ld_glob (X := X.suite a pn) I hg hm q hd
  · exact ld_blt (X := X.suite a pn) I hg hm hv q hn hd
theorem looks_cls {M : Model} {h : Heap} {a : Addr} {oe : Obj} (e : h.get? a = some oe) : PySem.W.Looks M h (typeOf (.ref a)) oe.cls := fun _ _ _ _ k q => wpAny_typeOf_ref (k _ _ e) q
theorem tst_one {x : Str} {c : Value} {np : Pos} (hc : Names X x c) : Tst X (.Name x np) [c] := by
  intro a oe pn s σ H b Q E I ha hb k
  obtain ⟨b1, d1, e1, e2, rfl⟩ := PySem.W.exmAny_cons hb
  cases (show some false = some d1 from e2)
  rw [Bool.or_false] at k
  exact ld_names hc I ((PySem.W.exm_one (M := model X.prog X.w) (b := b1) I.kIn (looks_cls ha) e1).here (k s.heap s.toks fun _ _ e => e))
theorem tst_two {x y : Str} {c d : Value} {p1 p2 p3 : Pos} {kd} (hc : Names X x c) (hd : Names X y d) : Tst X (.Tuple [.Name x p1, .Name y p2] kd p3) [c, d] := by
  intro a oe pn s σ H b Q E I ha hb k
  refine wpAny_Tuple_spliced (Calls.spliced_cons (ld_names hc I (Calls.spliced_cons (ld_names hd I (Calls.spliced_nil ⟨by show _ ≤ 16777216; simp, ?_⟩)))))
  have kp : ∀ u o, s.heap.get? u = some o → (s.heap.push { cls := .type "tuple", data := .seq [c, d].toArray }).get? u = some o := fun u o e => Heap.get?_push_of_some _ e
  exact (PySem.W.exm_tup2 (M := model X.prog X.w) (I.kIn.keeps kp) (looks_cls (kp _ _ ha)) (Heap.get?_push_size _ rfl) hb).here (k _ _ kp)
theorem tst_three {x y z : Str} {c d e : Value} {p1 p2 p3 p4 : Pos} {kd} (hc : Names X x c) (hd : Names X y d) (he : Names X z e) : Tst X (.Tuple [.Name x p1, .Name y p2, .Name z p4] kd p3) [c, d, e] := by
  intro a oe pn s σ H b Q E I ha hb k
  refine wpAny_Tuple_spliced (Calls.spliced_cons (ld_names hc I (Calls.spliced_cons (ld_names hd I (Calls.spliced_cons (ld_names he I (Calls.spliced_nil ⟨by show _ ≤ 16777216; simp, ?_⟩)))))))
  have kp : ∀ u o, s.heap.get? u = some o → (s.heap.push { cls := .type "tuple", data := .seq [c, d, e].toArray }).get? u = some o := fun u o e => Heap.get?_push_of_some _ e
  exact (PySem.W.exm_tup3 (M := model X.prog X.w) (I.kIn.keeps kp) (looks_cls (kp _ _ ha)) (Heap.get?_push_size _ rfl) hb).here (k _ _ kp)
end
/-! ### the clauses -/
structure Clz where
  cs : List Value
  sl : Option Nat
  ts : Addr → Obj → TS
def slSet (i : Option Nat) (v : Option V) (σ : St) : St := match i with
  | some i => σ.set i v
  | none => σ
def slEnd (i : Option Nat) (E : Ends) : Ends := { nx := fun σ H => E.nx (slSet i none σ) H, rt := E.rt, bk := fun σ H => E.bk (slSet i none σ) H, ct := fun σ H => E.ct (slSet i none σ) H }
def wCl (K : PySem.W.Frag) (Wout : WX) (E : Ends) : List Clz → WX
  | [] => Wout
  | c :: r => fun cls d σ H => ∃ b, PySem.W.exmAny K cls c.cs = some b ∧ (b = true → ∀ a oe fv, H a = none → Zc cls d oe → oe.data = .fields fv → c.ts a oe (slEnd c.sl E) (slSet c.sl (some (.ref a)) σ) (upd H a (XA a oe))) ∧ (b = false → wCl K Wout E r cls d σ H)
inductive HdOk (X : Cx) : List ExceptHandler → List Clz → Prop
  | nil : HdOk X [] []
  | bare {t : Expr} {cs : List Value} {ts : Addr → Obj → TS} {b0 : Stmt} {suite : List Stmt} {p : Pos} {hds : List ExceptHandler} {l : List Clz} (tst : Tst X t cs) (su : ∀ a oe pn, PSs (X.suite a pn) (b0 :: suite) (ts a oe)) (r : HdOk X hds l) :
      HdOk X (.ExceptHandler (some t) none (b0 :: suite) p :: hds) (⟨cs, none, ts⟩ :: l)
  | named {t : Expr} {cs : List Value} {ts : Addr → Obj → TS} {n : Str} {i : Nat} {b0 : Stmt} {suite : List Stmt} {p : Pos} {hds : List ExceptHandler} {l : List Clz} (tst : Tst X t cs) (nd : X.N.Nodup) (at_ : X.N[i]? = some n) (lc : X.env.kindOf n = some .local)
      (su : ∀ a oe pn, PSs (X.suite a pn) (b0 :: suite) (ts a oe)) (r : HdOk X hds l) : HdOk X (.ExceptHandler (some t) (some n) (b0 :: suite) p :: hds) (⟨cs, some i, ts⟩ :: l)
section
variable {X : Cx} {body : List Stmt} {hd0 : ExceptHandler} {hds : List ExceptHandler} {l : List Clz} {pos : Pos} {tb : WX → TS} {Wout : WX}
theorem ps_clauses (st : X.stack = X.env :: X.outer) (fr : X.env.frame = some X.env.locals) (hx : X.ex = []) (tk : Takes X Wout) (hb : ∀ (W : WX) (pn : List (Addr × Obj)) (xe : Value → Shared → Prop), Takes (X.tr pn xe) W → PSs (X.tr pn xe) body (tb W))
    (hh : HdOk X (hd0 :: hds) l) : PS X (.Try body (hd0 :: hds) [] [] pos) (fun E σ H => tb (wCl X.K Wout E l) E σ H) := by
  refine ⟨fun pins s σ H E I z => wpAny_Try_except ?_⟩
  have ok := I.ok
  have frs0 : X.A.frames = some (X.env :: X.outer) := ok.frames.trans (congrArg some st)
  have key : ∀ u s1, XE (X.tr (X.pn ++ pins) fun _ _ => True) (wCl X.K Wout E l) u s1 → wpAny (model X.prog X.w) X.A (noteFrame u X.env) (fun _ s2 => wpAny (model X.prog X.w) X.A (setFlight u none) (fun _ s3 => wpAny (model X.prog X.w) X.A (handleBy u X.env (hd0 :: hds)) (SP X pins E) X.xe s3) X.xe s2) X.xe s1 := by
    rintro u s1 ⟨a, B, sI, pins1, σ1, H1, cls, d, rfl, J1, nb, up, sky, na, os, ag, w⟩
    have J : Inv X pins σ1 H1 sI := J1.ofTry ok
    have sky1 : Sky B (X.env :: X.outer) a (Zc cls d) X.env.locals s1.heap := st ▸ sky
    refine Sky.land Zc.steady frs0 fr sky1 fun h3 fl3 up3 => ?_
    have gone : sI.heap.get? a = none := by
      cases e : sI.heap.get? a with
      | none => rfl
      | some o =>
        by_cases hm : a ∈ frs X.stack
        · obtain ⟨oe, vs, e1, _, e3⟩ := fl3.there
          rw [st] at hm
          obtain ⟨_, o2, e4, e5⟩ := fl3.2.2.1.mem hm
          rw [e1] at e4
          cases e4
          exact absurd e3 (e5 vs)
        · have q := nb a o e hm
          rw [fl3.2.1] at q
          cases q
    have gone0 : X.s_0.heap.get? a = none := by
      cases e : X.s_0.heap.get? a with
      | none => rfl
      | some o =>
        obtain ⟨o2, q⟩ := J.base.there a o e (by rw [hx]; simp)
        rw [gone] at q
        cases q
    have neL : a ≠ X.env.locals := fun q => by
      obtain ⟨m, ⟨o, _, _, e, _⟩, _⟩ := J.loc
      rw [← q, gone] at e
      cases e
    have neP : ∀ p ∈ X.pn ++ pins, p.1 ≠ a := fun p hp q => by
      have e := (J.pin p hp).1
      rw [q, gone] at e
      cases e
    have walk : ∀ {hs : List ExceptHandler} {cl : List Clz}, HdOk X hs cl → ∀ (h : Heap) (t : Nat), HandSPX.FlyingZ B (X.env :: X.outer) a (Zc cls d) h → sI.heap.UpToSlots h → wCl X.K Wout E cl cls d σ1 H1 →
        wpAny (model X.prog X.w) X.A (handleBy (.ref a) X.env hs) (SP X pins E) X.xe { s1 with heap := h, toks := t } := by
      intro hs cl hk
      have caught : ∀ {t : Nat} {h : Heap}, HandSPX.FlyingZ B (X.env :: X.outer) a (Zc cls d) h → sI.heap.UpToSlots h → ∃ oe fv, h.get? a = some oe ∧ Zc cls d oe ∧ oe.data = .fields fv ∧ Inv X pins σ1 (upd H1 a (XA a oe)) { s1 with heap := h, toks := t } := fun {t h} fl u => by
        obtain ⟨oe, fv, e1, e2, e3⟩ := fl.there
        have G : Inv X pins σ1 H1 { s1 with heap := h, toks := t } := J.landed nb fl.1 u os ag
        exact ⟨oe, fv, e1, e2, e3, inv_track G na gone0 e1 e3 neL neP⟩
      induction hk with
      | nil =>
        intro h t fl u w
        refine wpAny_handleBy_nil ?_
        obtain ⟨f1, f2, f3, oe, fv, T, oT, us, e1, e2, e3, e4, _⟩ := id fl
        unfold PySem.passOn
        refine wpAny_bind (wpAny_field e1 e3 e4 ?_)
        rw [if_neg (show ¬ ((Value.ref T == Value.none) = true) from by simp)]
        have last : wpAny (model X.prog X.w) X.A (setFlight (.ref a) X.env.frame) (fun _ s4 => wpAny (model X.prog X.w) X.A (throw (.ref a) : Sem Flow) (SP X pins E) X.xe s4) X.xe { s1 with heap := h, toks := t } := by
          rw [fr]
          refine HandSPX.setFlight_upZ fl fun h4 held u4 => wpAny_throw (tk _ _ ⟨a, B, sI, pins, σ1, H1, cls, d, rfl, J, nb, u.trans u4, .inr (.inr ?_), na, os, ag, w⟩)
          rw [st]
          exact held
        first
          | exact wpAny_bind (wpAny_pure (wpAny_bind last))
          | exact wpAny_bind last
      | @bare t0 cs ts b0 suite p hs2 l2 tst su r ih =>
        intro h t fl u w
        obtain ⟨b, e, yes, no⟩ := w
        obtain ⟨oe, fv, q1, q2, q3, G⟩ := caught (t := t) fl u
        refine wpAny_handleBy_cons (codeAny_handlers_test (tst a oe (X.pn ++ pins) _ _ _ b _ _ (inv_in G) q1 (by rw [q2.1]; exact e) fun h5 t5 k5 => ?_)) (by intro q; cases q)
        have fl5 := fly_keeps fl k5
        have u5 := u.trans (Heap.UpToSlots.of_keeps k5)
        cases b with
        | false => exact ih h5 t5 fl5 u5 (no rfl)
        | true =>
          refine codeAny_handlers_suite (HandSPX.lands_againZ fl5 fun h6 fl6 u6 => ?_)
          obtain ⟨oe6, fv6, z1, z2, z3, G6⟩ := caught (t := t5) fl6 (u5.trans u6)
          refine wpAny_mono ((su a oe6 (X.pn ++ pins)).run [] _ _ _ _ (inv_in G6) (yes rfl a oe6 fv6 na z2 z3)) (fun f s7 out => ?_) (fun _ _ q => q.elim)
          match f, out with
          | .next, ⟨σ7, H7, I7, q7⟩ => exact ⟨σ7, H7, inv_out ok I7, q7⟩
          | .brk, ⟨σ7, H7, I7, q7⟩ => exact ⟨σ7, H7, inv_out ok I7, q7⟩
          | .cont, ⟨σ7, H7, I7, q7⟩ => exact ⟨σ7, H7, inv_out ok I7, q7⟩
          | .ret _, ⟨v7, σ7, H7, I7, r7, q7⟩ => exact ⟨v7, σ7, H7, inv_out ok I7, r7, q7⟩
      | @named t0 cs ts n i b0 suite p hs2 l2 tst nd at_ lc su r ih =>
        intro h t fl u w
        obtain ⟨b, e, yes, no⟩ := w
        obtain ⟨oe, fv, q1, q2, q3, G⟩ := caught (t := t) fl u
        refine wpAny_handleBy_cons (codeAny_handlers_test (tst a oe (X.pn ++ pins) _ _ _ b _ _ (inv_in G) q1 (by rw [q2.1]; exact e) fun h5 t5 k5 => ?_)) (by intro q; cases q)
        have fl5 := fly_keeps fl k5
        have u5 := u.trans (Heap.UpToSlots.of_keeps k5)
        cases b with
        | false => exact ih h5 t5 fl5 u5 (no rfl)
        | true =>
          refine codeAny_handlers_suite_as (HandSPX.lands_againZ fl5 fun h6 fl6 u6 => ?_)
          obtain ⟨oe6, fv6, z1, z2, z3, G6⟩ := caught (t := t5) fl6 (u5.trans u6)
          refine store_ok (X := X.suite a (X.pn ++ pins)) (v := .ref a) (inv_in G6) nd at_ (.inl lc) rfl (fun s7 I7 => ?_) (.inr lc)
          refine wpAny_mono ((su a oe6 (X.pn ++ pins)).run [] s7 _ _ _ I7 (yes rfl a oe6 fv6 na z2 z3)) (fun f s8 out => ?_) (fun _ _ q => q.elim)
          match f, out with
          | .next, ⟨σ8, H8, I8, q8⟩ => exact gone_ok (inv_out ok I8) nd at_ lc fun s9 I9 => ⟨_, H8, I9, q8⟩
          | .brk, ⟨σ8, H8, I8, q8⟩ => exact gone_ok (inv_out ok I8) nd at_ lc fun s9 I9 => ⟨_, H8, I9, q8⟩
          | .cont, ⟨σ8, H8, I8, q8⟩ => exact gone_ok (inv_out ok I8) nd at_ lc fun s9 I9 => ⟨_, H8, I9, q8⟩
          | .ret _, ⟨v8, σ8, H8, I8, r8, q8⟩ => exact gone_ok (inv_out ok I8) nd at_ lc fun s9 I9 => ⟨v8, _, H8, I9, r8, q8⟩
    exact walk hh h3 s1.toks fl3 (up.trans up3) w
  refine wpAny_mono ((hb (wCl X.K Wout E l) (X.pn ++ pins) _ fun u s1 xx => key u s1 ?_).run [] s σ H E (I.toTry _) z) (fun f s1 out => ?_) (fun u s1 q => q)
  · obtain ⟨a, B, sI, pins1, σ1, H1, cls, d, e, J1, rest⟩ := xx
    exact ⟨a, B, sI, pins1, σ1, H1, cls, d, e, { J1 with ok := J1.ok.ofTry.toTry _ _ }, rest⟩
  · match f, out with
    | .next, ⟨σ7, H7, I7, q7⟩ => exact wpAny_execs_nil ⟨σ7, H7, I7.ofTry ok, q7⟩
    | .brk, ⟨σ7, H7, I7, q7⟩ => exact ⟨σ7, H7, I7.ofTry ok, q7⟩
    | .cont, ⟨σ7, H7, I7, q7⟩ => exact ⟨σ7, H7, I7.ofTry ok, q7⟩
    | .ret _, ⟨v7, σ7, H7, I7, r7, q7⟩ => exact ⟨v7, σ7, H7, I7.ofTry ok, r7, q7⟩
end
end VL

/-! VsXv: caught exceptions as data: try, isinstance, fields. -/
namespace VL
open PySem PySem.Spec PyProof.Rows L2
/-! ### what is known of the exceptions' classes -/
abbrev MtT := Str → Str → Option Bool
/-- tab: a class that is raised, and those of the classes asked for that it is of -/
def mtOf (tab : List (Str × List Str)) (tests : List Str) : MtT := fun c C => match tab.lookup c with
  | some l => if tests.contains C then some (l.contains C) else none
  | none => none
def mtAny (mt : MtT) (c : Str) : List Str → Option Bool
  | [] => some false
  | C :: r => match mt c C, mtAny mt c r with
    | some a, some b => some (a || b)
    | _, _ => none
/-- what a name of a class stands for -/
def cvl (mg : Str → Option Value) (C : Str) : Value := match mg C with
  | some v => v
  | none => (bootBuiltins C).getD .none
structure XT (K : PySem.W.Frag) (mg : Str → Option Value) (ca : Str → Addr) (tab : List (Str × List Str)) (tests flds : List Str) : Prop where
  m : ∀ c l, tab.lookup c = some l → ∀ C ∈ tests, PySem.W.exmOne K (.ref (ca c)) (cvl mg C) = some (l.contains C) ∧ PySem.W.kitOne K (.ref (ca c)) (cvl mg C) = some (l.contains C)
  e : ∀ c l, tab.lookup c = some l → ExcC K (ca c)
  f : ∀ c l, tab.lookup c = some l → ∀ f ∈ flds, PySem.W.findIn K (.ref (ca c)) f = some none
section
variable {K : PySem.W.Frag} {mg : Str → Option Value} {ca : Str → Addr} {tab : List (Str × List Str)} {tests flds : List Str}
theorem XT.one (T : XT K mg ca tab tests flds) {c C : Str} {b : Bool} (h : mtOf tab tests c C = some b) : PySem.W.exmOne K (.ref (ca c)) (cvl mg C) = some b ∧ PySem.W.kitOne K (.ref (ca c)) (cvl mg C) = some b ∧ ExcC K (ca c) := by
  unfold mtOf at h
  cases e : tab.lookup c with
  | none => rw [e] at h; cases h
  | some l =>
    rw [e] at h
    by_cases hC : tests.contains C = true
    · have h2 : some (l.contains C) = some b := (if_pos hC).symm.trans h
      cases h2
      have q := T.m c l e C (by simpa using hC)
      exact ⟨q.1, q.2, T.e c l e⟩
    · have h2 : (none : Option Bool) = some b := (if_neg hC).symm.trans h
      cases h2
theorem XT.any (T : XT K mg ca tab tests flds) {c : Str} : ∀ {cs : List Str} {b : Bool}, mtAny (mtOf tab tests) c cs = some b → PySem.W.exmAny K (.ref (ca c)) (cs.map (cvl mg)) = some b
  | [], b, h => h
  | C :: r, b, h => by
    unfold mtAny at h
    cases e1 : mtOf tab tests c C with
    | none => rw [e1] at h; cases h
    | some x =>
      cases e2 : mtAny (mtOf tab tests) c r with
      | none => rw [e1, e2] at h; cases h
      | some y =>
        rw [e1, e2] at h
        cases h
        show PySem.W.exmAny K _ (cvl mg C :: r.map (cvl mg)) = _
        unfold PySem.W.exmAny
        rw [(T.one e1).1, T.any e2]
def xtB (K : PySem.W.Frag) (own : List Str) (tab : List (Str × List Str)) (tests flds : List Str) : Bool :=
  tab.all fun p => (tests.all fun C => (match own.contains C with
      | true => (PySem.W.exmOne K (.ref (He.ga K p.1)) (.ref (He.ga K C)) == some (p.2.contains C)) && (PySem.W.kitOne K (.ref (He.ga K p.1)) (.ref (He.ga K C)) == some (p.2.contains C))
      | false => (PySem.W.exmOne K (.ref (He.ga K p.1)) ((bootBuiltins C).getD .none) == some (p.2.contains C)) && (PySem.W.kitOne K (.ref (He.ga K p.1)) ((bootBuiltins C).getD .none) == some (p.2.contains C)))) &&
    ((flds.all fun f => He.eqO (PySem.W.findIn K (.ref (He.ga K p.1)) f) (some none)) && (He.eqO (PySem.W.findIn K (.ref (He.ga K p.1)) "__getattribute__") (some (some (.builtin "BaseException.__getattribute__"))) && (He.eqO (PySem.W.findIn K (.ref (He.ga K p.1)) "__getattr__") (some none) &&
      ((PySem.W.subIn K (.ref (He.ga K p.1)) (.type "BaseException") == some true) && (PySem.W.hasDictIn K (He.ga K p.1) && (He.eqO (PySem.W.findIn K (.ref (He.ga K p.1)) "__class__") (some (some (.builtin "object.__class__"))) &&
        (He.eqO (PySem.W.specialIn K (.builtin "object.__class__") "__get__") (some (some (.builtin "getset_descriptor.__get__"))) && ((PySem.W.takesIn K (.builtin "object.__class__") == some true) && (PySem.W.mroIn K (He.ga K p.1) (.type "object") == some true)))))))))
theorem lookup_mem {α : Type} {c : Str} {l : α} : ∀ {t : List (Str × α)}, t.lookup c = some l → (c, l) ∈ t
  | [], h => by cases h
  | (d, x) :: r, h => by
    simp only [List.lookup] at h
    split at h
    · rename_i q
      cases h
      rw [beq_iff_eq.mp q]
      exact List.mem_cons_self
    · exact List.mem_cons_of_mem _ (lookup_mem h)
theorem xtB_ok {own : List Str} (h : xtB K own tab tests flds = true) (ho : ∀ C ∈ own, mg C = some (.ref (He.ga K C))) (hb : ∀ C ∈ tests, C ∉ own → mg C = none) : XT K mg (He.ga K) tab tests flds := by
  have key := fun c l (e : tab.lookup c = some l) => He.ba (List.all_eq_true.mp h (c, l) (lookup_mem e))
  refine ⟨fun c l e C hC => ?_, fun c l e => ?_, fun c l e f hf => He.eqO_ok (List.all_eq_true.mp (He.ba (key c l e).2).1 f hf)⟩
  · have z := List.all_eq_true.mp (key c l e).1 C hC
    unfold cvl
    cases q : own.contains C with
    | true =>
      simp only [q] at z
      rw [ho C (by simpa using q)]
      exact ⟨eq_of_beq (He.ba z).1, eq_of_beq (He.ba z).2⟩
    | false =>
      simp only [q] at z
      rw [hb C hC (by simpa using q)]
      exact ⟨eq_of_beq (He.ba z).1, eq_of_beq (He.ba z).2⟩
  · obtain ⟨z1, z⟩ := He.ba (He.ba (key c l e).2).2
    obtain ⟨z2, z⟩ := He.ba z
    obtain ⟨z3, z⟩ := He.ba z
    obtain ⟨z4, z⟩ := He.ba z
    obtain ⟨z5, z⟩ := He.ba z
    obtain ⟨z6, z⟩ := He.ba z
    obtain ⟨z7, z8⟩ := He.ba z
    exact ⟨He.eqO_ok z1, He.eqO_ok z2, eq_of_beq z3, z4, He.eqO_ok z5, He.eqO_ok z6, eq_of_beq z7, eq_of_beq z8⟩
end
/-! ### the state of a try's body, seen from outside -/
section
variable {g : Gm} {al al' : Ad} {dl dl' : Lo} {mu mu' : Mu} {T T' : List (V × D)} {sg sg' : St} {H H' : Hp}
theorem RelA.enterT (q : RelA g al dl mu T sg H) : RelA ⟨g.K, g.ca, H, al⟩ al dl mu T sg H :=
  ⟨q.st, List.prefix_rfl, fun _ h => h, q.st.dom, fun _ _ e _ => e, fun _ h1 h2 => absurd h1 h2, fun _ h1 h2 => absurd h1 h2, q.loc, q.tmp, q.len⟩
theorem RelA.backOf (q : RelA g al dl mu T sg H) (r : RelA ⟨g.K, g.ca, H, al⟩ al' dl' mu' T' sg' H') : Back al al' H H' :=
  ⟨⟨r.pre, fun b o e n => r.frm b o e fun z => n (q.st.sub b z), r.fre, r.frp⟩, r.frm, r.exs⟩
theorem RelA.outer (q : RelA g al dl mu T sg H) (r : RelA ⟨g.K, g.ca, H, al⟩ al' dl' mu' T' sg' H') : RelA g al' dl' mu' (T' ++ T) sg' H' :=
  have s := q.step (q.back (q.backOf r)) r.st
  { s with
    loc := r.loc
    tmp := fun p hp => (List.mem_append.mp hp).elim (r.tmp p) (s.tmp p)
    len := r.len }
end
/-! ### try over data -/
def loSet (i : Option Nat) (d : Option D) (dl : Lo) : Lo := match i with
  | some i => dl.set i d
  | none => dl
def EndsD.as (A : EndsD) (i : Option Nat) : EndsD := { nx := fun dl m => A.nx (loSet i none dl) m, rt := A.rt, bk := fun dl m => A.bk (loSet i none dl) m, ct := fun dl m => A.ct (loSet i none dl) m }
/-- a clause: the classes' names, the slot of its name, its suite -/
structure Clx where
  cs : List Str
  sl : Option Nat
  t : TSd
def hdl (mt : MtT) (A : EndsD) (Ed : EdT) : List Clx → EdT
  | [] => Ed
  | c :: r => fun dl x fs m => ∃ b, mtAny mt x c.cs = some b ∧ Br b (c.t (A.as c.sl) (loSet c.sl (some (.exc x fs)) dl) m) (hdl mt A Ed r dl x fs m)
def sTry (mt : MtT) (tb : EdT → TSd) (cl : List Clx) (Ed : EdT) : TSd := fun A dl mu => ∃ A0 : EndsD, A0.Le A ∧ tb (hdl mt A0 Ed cl) A0 dl mu
theorem sTry_by {mt : MtT} {tb : EdT → TSd} {cl : List Clx} {Ed : EdT} {A : EndsD} {dl : Lo} {mu : Mu} (h : tb (hdl mt A Ed cl) A dl mu) : sTry mt tb cl Ed A dl mu := ⟨A, .refl A, h⟩
theorem EndsD.Le.trans {A B C : EndsD} (h : A.Le B) (k : B.Le C) : A.Le C := ⟨fun _ _ z => k.nx _ _ (h.nx _ _ z), fun _ _ z => k.rt _ _ (h.rt _ _ z), fun _ _ z => k.bk _ _ (h.bk _ _ z), fun _ _ z => k.ct _ _ (h.ct _ _ z)⟩
theorem Fits.le {g : Gm} {T : List (V × D)} {A B : EndsD} {E : Ends} (f : Fits g T B E) (h : A.Le B) : Fits g T A E := ⟨fun _ _ _ _ r z => f.nx _ _ _ _ r (h.nx _ _ z), fun _ _ _ _ _ _ r z => f.rt _ _ _ _ _ _ r (h.rt _ _ z), fun _ _ _ _ r z => f.bk _ _ _ _ r (h.bk _ _ z), fun _ _ _ _ r z => f.ct _ _ _ _ r (h.ct _ _ z)⟩
/-- the clauses, as they are written -/
inductive HdD (X : Cx) (g : Gm) : List ExceptHandler → List Clx → Prop
  | nil : HdD X g [] []
  | bare {t : Expr} {cs : List Str} {ts : TSd} {b0 : Stmt} {suite : List Stmt} {p : Pos} {hds : List ExceptHandler} {l : List Clx} (tst : Tst X t (cs.map (cvl X.mg))) (su : ∀ a pn, QSs (X.suite a pn) g (b0 :: suite) ts) (r : HdD X g hds l) :
      HdD X g (.ExceptHandler (some t) none (b0 :: suite) p :: hds) (⟨cs, none, ts⟩ :: l)
  | named {t : Expr} {cs : List Str} {ts : TSd} {n : Str} {i : Nat} {b0 : Stmt} {suite : List Stmt} {p : Pos} {hds : List ExceptHandler} {l : List Clx} (tst : Tst X t (cs.map (cvl X.mg))) (nd : X.N.Nodup) (at_ : X.N[i]? = some n) (lc : X.env.kindOf n = some .local)
      (su : ∀ a pn, QSs (X.suite a pn) g (b0 :: suite) ts) (r : HdD X g hds l) : HdD X g (.ExceptHandler (some t) (some n) (b0 :: suite) p :: hds) (⟨cs, some i, ts⟩ :: l)
section
variable {X : Cx} {g : Gm} {body : List Stmt} {hd0 : ExceptHandler} {hds : List ExceptHandler} {cl : List Clx} {pos : Pos} {tb : EdT → TSd} {Ed : EdT} {tab : List (Str × List Str)} {tests flds : List Str}
def clz (g : Gm) (mg : Str → Option Value) (c : Clx) : Clz := ⟨c.cs.map (cvl mg), c.sl, fun _ _ => upS g c.t⟩
theorem HdD.ok : ∀ {hs : List ExceptHandler} {cl : List Clx}, HdD X g hs cl → HdOk X hs (cl.map (clz g X.mg))
  | _, _, .nil => .nil
  | _, _, .bare tst su r => .bare tst (fun a _ pn => (su a pn).ps) r.ok
  | _, _, .named tst nd at_ lc su r => .named tst nd at_ lc (fun a _ pn => (su a pn).ps) r.ok
theorem RelA.loSet {al : Ad} {dl : Lo} {mu : Mu} {T : List (V × D)} {sg : St} {H : Hp} {v : V} {d : D} (q : RelA g al dl mu ((v, d) :: T) sg H) (i : Option Nat) : RelA g al (VL.loSet i (some d) dl) mu T (slSet i (some v) sg) H := by
  cases i with
  | none => exact q.sub fun _ h => List.mem_cons_of_mem _ h
  | some i => exact q.set i
theorem RelA.wipe1 {al : Ad} {dl : Lo} {mu : Mu} {T : List (V × D)} {sg : St} {H : Hp} (q : RelA g al dl mu T sg H) (i : Option Nat) : RelA g al (VL.loSet i none dl) mu T (slSet i none sg) H := by
  cases i with
  | none => exact q
  | some i =>
    refine { q with loc := fun j d e => ?_, len := by show (sg.set i none).length = (dl.set i none).length; rw [List.length_set, List.length_set]; exact q.len }
    have e : (dl.set i none)[j]? = some (some d) := e
    by_cases hj : j = i
    · subst hj
      by_cases hl : j < dl.length
      · rw [List.getElem?_set_self hl] at e
        cases e
      · rw [List.getElem?_eq_none (by simpa using hl)] at e
        cases e
    · rw [List.getElem?_set_ne (Ne.symm hj)] at e
      obtain ⟨v, e1, e2⟩ := q.loc j d e
      exact ⟨v, by show (sg.set i none)[j]? = _; rw [List.getElem?_set_ne (Ne.symm hj)]; exact e1, e2⟩
theorem Fits.as {T : List (V × D)} {A : EndsD} {E : Ends} (f : Fits g T A E) (i : Option Nat) : Fits g T (A.as i) (slEnd i E) where
  nx := fun _ _ _ _ r z => let ⟨al, q⟩ := r; f.nx _ _ _ _ ⟨al, q.wipe1 i⟩ z
  rt := f.rt
  bk := fun _ _ _ _ r z => let ⟨al, q⟩ := r; f.bk _ _ _ _ ⟨al, q.wipe1 i⟩ z
  ct := fun _ _ _ _ r z => let ⟨al, q⟩ := r; f.ct _ _ _ _ ⟨al, q.wipe1 i⟩ z
theorem RepX.grow {K : PySem.W.Frag} {ca : Str → Addr} {al al' : Ad} {H H' : Hp} {c : Str} {fs : List (Str × D)} {cls : Value} {x : Option Addr} (gr : Grow al al' H H') (r : RepX K ca al H c fs cls x) : RepX K ca al' H' c fs cls x := by
  obtain ⟨e, r⟩ := r
  refine ⟨e, ?_⟩
  cases x with
  | none => exact r
  | some d =>
    obtain ⟨vs, r1, r2, r3⟩ := r
    exact ⟨vs, gr.keep _ _ r1 r2, gr.out r1 r2, RepF.grow gr fs vs r3⟩
/-- the caught exception as data -/
theorem rep_exc {K : PySem.W.Frag} {ca : Str → Addr} {al : Ad} {H : Hp} {c : Str} {fs : List (Str × D)} {cls : Value} {x : Option Addr} {a : Addr} {oe : Obj} {fv : Array Value} (ha : H a = some (XA a oe)) (na : a ∉ al.ex) (hz : Zc cls x oe) (hd : oe.data = .fields fv) (r : RepX K ca al H c fs cls x) : Rep K ca al H (.exc c fs) (.ref a) := by
  obtain ⟨e, r⟩ := r
  simp only [Rep]
  cases x with
  | none =>
    cases fs with
    | nil => exact ⟨a, oe, fv, [], rfl, ha, na, hz.1.trans e, hd, by rw [hz.2]; rfl, by simp only [RepF]⟩
    | cons p q => cases r
  | some d =>
    obtain ⟨vs, r1, r2, r3⟩ := r
    exact ⟨a, oe, fv, vs, rfl, ha, na, hz.1.trans e, hd, by rw [hz.2]; exact ⟨r1, r2⟩, r3⟩
theorem hdl_up (F : XT X.K X.mg g.ca tab tests flds) {A : EndsD} {E : Ends} {T : List (V × D)} (f : Fits g T A E) {al : Ad} {dl : Lo} {mu : Mu} {T1 : List (V × D)} {sg : St} {H : Hp} {c : Str} {fs : List (Str × D)} {cls : Value} {x : Option Addr}
    (q : RelA g al dl mu (T1 ++ T) sg H) (rx : RepX g.K g.ca al H c fs cls x) : ∀ {cl : List Clx}, hdl (mtOf tab tests) A Ed cl dl c fs mu → wCl X.K (upX g Ed) E (cl.map (clz g X.mg)) cls x sg H
  | [], z => ⟨dl, mu, _, c, fs, al, q, rx, z⟩
  | k :: r, z => by
    obtain ⟨b, e, z⟩ := z
    refine ⟨b, by rw [rx.1]; exact F.any e, fun hb a oe fv na hz hd => ?_, fun hb => ?_⟩
    · subst hb
      have gr := (stp_new (g := g) (al := al) (o := XA a oe) na).toGrow
      have q2 : RelA g al dl mu T sg (upd H a (XA a oe)) := (q.new na).sub fun _ h => List.mem_append_right _ h
      have rp := rep_exc (upd_same (H := H) (o := XA a oe)) (q.st.fresh na) hz hd (rx.grow gr)
      simp only [Br] at z
      exact ⟨_, mu, T, A.as k.sl, ⟨al, (q2.push rp).loSet k.sl⟩, f.as k.sl, z⟩
    · subst hb
      simp only [Br] at z
      exact hdl_up F f q rx z
theorem qs_try {CX : CXT} (F : XT X.K X.mg g.ca tab tests flds) (st : X.stack = X.env :: X.outer) (fr : X.env.frame = some X.env.locals) (ex0 : X.ex = []) (hx : Px CX X g Ed)
    (hb : ∀ (g' : Gm) (Ed' : EdT) (pn : List (Addr × Obj)) (xe : Value → Shared → Prop), g'.K = g.K → g'.ca = g.ca → (∀ a ∈ g'.al0.pl, a ∈ g'.al0.ex) → ((∀ a ∈ g.al0.pl, a ∈ g.al0.ex) → Back g.al0 g'.al0 g.H0 g'.H0) → Px (L2.CX X.prog X.w) (X.tr pn xe) g' Ed' → QSs (X.tr pn xe) g' body (tb Ed')) (hh : HdD X g (hd0 :: hds) cl) :
    QS X g (.Try body (hd0 :: hds) [] [] pos) (sTry (mtOf tab tests) tb cl Ed) where
  m := fun A B h dl mu ⟨A0, h0, z⟩ => ⟨A0, h0.trans h, z⟩
  ps := PS.of (ps_clauses (tb := fun W E σ H => ∃ (g' : Gm) (Ed' : EdT), g'.K = g.K ∧ g'.ca = g.ca ∧ (∀ a ∈ g'.al0.pl, a ∈ g'.al0.ex) ∧ ((∀ a ∈ g.al0.pl, a ∈ g.al0.ex) → Back g.al0 g'.al0 g.H0 g'.H0) ∧ (∀ cls x σ H, upX g' Ed' cls x σ H → W cls x σ H) ∧ upS g' (tb Ed') E σ H) st fr ex0 hx.tk (fun W pn xe tk => ⟨fun pins s σ H E I z => by
      obtain ⟨g', Ed', e1, e2, e3, e4, hW, z⟩ := z
      have tk2 : Takes (X.tr pn xe) (fun cls x sg H => upX g' Ed' cls x sg H) := tk.imp fun _ _ _ _ q => hW _ _ _ _ q
      exact (hb g' Ed' pn xe e1 e2 e3 e4 ⟨fun sg => passAt tk2 sg, tk2⟩).ps.run pins s σ H E I z⟩) hh.ok) fun E sg H z => by
    obtain ⟨dl, mu, T, A, ⟨al, q⟩, f, A0, hA, z⟩ := z
    have f0 := f.le hA
    refine ⟨⟨g.K, g.ca, H, al⟩, _, rfl, rfl, q.st.sub, fun sub => RelA.toBack (K := g.K) (ca := g.ca) (al := g.al0) (H := g.H0) q sub, fun cls x sg1 H1 w => ?_, dl, mu, T, A0, ⟨al, q.enterT⟩, ?_, z⟩
    · obtain ⟨dl1, mu1, T1, c, fs, al1, r, rx, w⟩ := w
      exact hdl_up F f0 (q.outer r) rx w
    · exact ⟨fun _ _ _ _ ⟨al1, r⟩ z => f0.nx _ _ _ _ ⟨al1, (q.outer r).sub fun _ h => List.mem_append_right _ h⟩ z, fun _ _ _ _ v d ⟨al1, r⟩ z => f0.rt _ _ _ _ _ _ ⟨al1, (q.outer r).sub fun p hp => (List.mem_cons.mp hp).elim (fun e => List.mem_append_left _ (by rw [e]; exact List.mem_cons_self)) (fun h => List.mem_append_right _ h)⟩ z,
        fun _ _ _ _ ⟨al1, r⟩ z => f0.bk _ _ _ _ ⟨al1, (q.outer r).sub fun _ h => List.mem_append_right _ h⟩ z, fun _ _ _ _ ⟨al1, r⟩ z => f0.ct _ _ _ _ ⟨al1, (q.outer r).sub fun _ h => List.mem_append_right _ h⟩ z⟩
end
end VL

/-! VsXr: isinstance and fields of a caught exception, list.count. -/
namespace VL
open PySem PySem.Spec PyProof.Rows L2
section
variable {X : Cx} {g : Gm} {a b : Expr} {ta : TEd} {t : TAd} {p pos px : Pos} {c f : Str} {tab : List (Str × List Str)} {tests flds : List Str}
/-- an exception at hand -/
structure XHas (K : PySem.W.Frag) (H : Hp) (a C : Addr) (vs : List (Str × V)) : Prop where
  ex : ∃ oe fv, H a = some (XA a oe) ∧ oe.cls = .ref C ∧ oe.data = .fields fv ∧ (match oe.dict with
    | some d => H d = some (.xd vs)
    | none => vs = [])
theorem xhas {al : Ad} {H : Hp} {fs : List (Str × D)} {v : V} (r : Rep g.K g.ca al H (.exc c fs) v) : ∃ a vs, v = .ref a ∧ XHas g.K H a (g.ca c) vs ∧ RepF g.K g.ca al H fs vs := by
  simp only [Rep] at r
  obtain ⟨a, oe, fv, vs, e, h1, _, h2, h3, h4, h5⟩ := r
  refine ⟨a, vs, e, ⟨oe, fv, h1, h2, h3, ?_⟩, h5⟩
  cases q : oe.dict with
  | none => rw [q] at h4; exact h4
  | some d => rw [q] at h4; exact h4.1
theorem XHas.inst {pins : List (Addr × Obj)} {σ : St} {H : Hp} {s : Shared} {x C : Addr} {vs : List (Str × V)} (I : Inv X pins σ H s) (h : XHas X.K H x C vs) : ∃ ox od, PySem.W.InstAt s.heap x ox C od ∧ ∀ (n : Str) (v : V), vs.lookup n = some v → ∃ o u, od = some o ∧ PySem.W.lookIn n o = some (some u) ∧ RelV v u := by
  obtain ⟨oe, fv, h1, h2, h3, h4⟩ := h.ex
  have hg : s.heap.get? x = some oe := (I.hok x _ h1).1
  have nc : PySem.W.notCls oe = true := by
    unfold PySem.W.notCls
    rw [h3]
  cases q : oe.dict with
  | none =>
    rw [q] at h4
    subst h4
    exact ⟨oe, none, ⟨hg, h2, nc, by rw [q]; trivial⟩, fun n v e => by cases e⟩
  | some d =>
    rw [q] at h4
    have hx : ObjOk X.prog X.w H s.heap d (.xd vs) := I.hok d _ h4
    obtain ⟨mA, hns, hr⟩ := hx
    obtain ⟨od, ho, hl⟩ := lookIn_ns hns
    refine ⟨oe, some od, ⟨hg, h2, nc, by rw [q]; exact ho⟩, fun n v e => ?_⟩
    obtain ⟨u, hu, ru⟩ := RelO.some_of (v := v) (o := mA n) (by rw [← e]; exact hr n)
    exact ⟨od, u, rfl, by rw [hl, hu], ru⟩
/-! ### isinstance -/
def rIsX (K : PySem.W.Frag) : List V → Hp → VK → Prop := fun xs H Q => ∃ (x C : Addr) (vs : List (Str × V)) (w : V) (cv : Value) (r : Bool), xs = [.ref x, w] ∧ XHas K H x C vs ∧ ExcC K C ∧ (∀ u, RelV w u → u = cv) ∧ PySem.W.kitOne K (.ref C) cv = some r ∧ Q (.bl r) H
theorem call_isX : CallR X (.builtin "isinstance") (rIsX X.K) := by
  intro pins s σ H xs us Q I r h
  obtain ⟨x, C, vs, w, cv, b, rfl, hx, ec, hw, e, q⟩ := h
  cases r with
  | cons rx rr =>
    cases rr with
    | cons rt rn =>
      cases rn
      cases rx
      obtain rfl := hw _ rt
      obtain ⟨ox, od, J, _⟩ := hx.inst I
      obtain ⟨cd, hc, _⟩ := PySem.W.any_some ec.hd
      exact PySem.W.kia_one (PySem.W.kitx_exc (by rw [hc]; rfl) ec.hg ec.hk ec.hs ec.ha ec.hn ec.ht ec.hm) I.kIn J e (fun z => nomatch z) fun tk => ⟨.bl b, H, I.kept (t' := tk) fun _ _ z => z, rfl, q⟩
/-! .. which nobody evaluates on the way -/
theorem mtAt_ex : ∃ f : MtT → Str → Str → Option Bool, f = fun mt c C => mt c C := ⟨_, rfl⟩
noncomputable def mtAt : MtT → Str → Str → Option Bool := Classical.choose mtAt_ex
theorem mtAt_eq (mt : MtT) (c C : Str) : mtAt mt c C = mt c C := congrFun (congrFun (congrFun (Classical.choose_spec mtAt_ex) mt) c) C
theorem xfld_ex : ∃ f : List (Str × D) → Str → Option D, f = fun fs n => fs.lookup n := ⟨_, rfl⟩
noncomputable def xfld : List (Str × D) → Str → Option D := Classical.choose xfld_ex
theorem xfld_eq (fs : List (Str × D)) (f : Str) : xfld fs f = fs.lookup f := congrFun (congrFun (Classical.choose_spec xfld_ex) fs) f
theorem xfld_one (f : Str) (d : D) : xfld [(f, d)] f = some d := by
  rw [xfld_eq]
  simp [List.lookup]
@[irreducible] def dIsx (mt : MtT) (C : Str) (ta : TEd) : TEd := fun dl mu Q => ta dl mu fun d m => match d with
  | .exc c _ => match mtAt mt c C with
    | some r => Q (.bl r) m
    | none => False
  | _ => False
theorem isx_go {mt : MtT} {C c : Str} {b : Bool} {i : Nat} {dl : Lo} {mu : Mu} {Q : KD} (h : mtAt mt c C = some b) (e : ∃ fs, dl[i]? = some (some (.exc c fs))) (k : Q (.bl b) mu) : dIsx mt C (dVar i) dl mu Q := by
  obtain ⟨fs, e⟩ := e
  unfold dIsx dVar
  rw [e]
  show (match mtAt mt c C with | some r => Q (.bl r) mu | none => False)
  rw [h]
  exact k
theorem isx_m {mt : MtT} {C : Str} (h : MonoE ta) : MonoE (dIsx mt C ta) := fun dl mu Q Q' w z => by
 unfold dIsx at z ⊢
 exact h dl mu _ _ (fun d m z => by
  cases d with
  | exc c fs =>
    have z : (match mtAt mt c C with | some r => Q (.bl r) m | none => False) := z
    show (match mtAt mt c C with | some r => Q' (.bl r) m | none => False)
    cases e : mtAt mt c C with
    | none => rw [e] at z; exact z.elim
    | some r => rw [e] at z; exact w _ _ z
  | _ => exact z.elim) z
theorem isx_up {C : Str} (F : XT X.K X.mg g.ca tab tests flds) (hK : X.K = g.K) (hm : MonoE ta) {w : V} {sg : St} {H : Hp} {Q : VK} (hw : ∀ u, RelV w u → u = cvl X.mg C) (z : upE g (dIsx (mtOf tab tests) C ta) sg H Q) :
    upE g ta sg H fun v H1 => rIsX X.K [v, w] H1 Q := by
  obtain ⟨dl, mu, T, r, z⟩ := z
  unfold dIsx at z
  refine ⟨dl, mu, T, r, hm dl mu _ _ (fun d m z v H1 r1 => ?_) z⟩
  cases d with
  | exc c fs =>
    have z : (match mtAt (mtOf tab tests) c C with | some r => _ | none => False) := z
    cases e0 : mtAt (mtOf tab tests) c C with
    | none => rw [e0] at z; exact z.elim
    | some b =>
      rw [e0] at z
      have e := (mtAt_eq _ _ _).symm.trans e0
      obtain ⟨al, q, rp⟩ := r1.top
      obtain ⟨x, vs, rfl, hx, _⟩ := xhas rp
      obtain ⟨k1, k2, k3⟩ := F.one e
      exact ⟨x, g.ca c, vs, w, _, b, rfl, by rw [hK]; exact hx, k3, hw, k2, z _ _ (r1.pop.sc rfl)⟩
  | _ => exact z.elim
theorem cvl_own {mg : Str → Option Value} {C : Str} {v : Value} (h : mg C = some v) : cvl mg C = v := by
  unfold cvl
  rw [h]
theorem cvl_blt {mg : Str → Option Value} {C : Str} {v : Value} (h : mg C = none) (hv : bootBuiltins C = some v) : cvl mg C = v := by
  unfold cvl
  rw [h, hv]
  rfl
theorem nm_own {x : Str} {v : Value} (hg : Gl X x) (hm : X.mg x = some v) (hd : (x == ("__debug__" : Str)) = false := by decide) : Names X x (cvl X.mg x) := ⟨hg, hd, .inl (by rw [cvl_own hm]; exact hm)⟩
theorem nm_blt {x : Str} {v : Value} (hg : Gl X x) (hm : X.mg x = none) (hv : bootBuiltins x = some v) (hn : x ≠ "__name__" := by decide) (hd : (x == ("__debug__" : Str)) = false := by decide) : Names X x (cvl X.mg x) := ⟨hg, hd, .inr ⟨hm, by rw [cvl_blt hm hv]; exact hv, hn⟩⟩
theorem pd_isx {C : Str} (F : XT X.K X.mg g.ca tab tests flds) (hK : X.K = g.K) (hg : Gl X "isinstance") (hm : X.mg "isinstance" = none) (hgx : Gl X C) (hmx : X.mg C = some (.ref (g.ca C))) (ha : PD X g a ta) (hd : (C == ("__debug__" : Str)) = false := by decide)
    (he : starEach [a, .Name C px] X.env = (false, eval a X.env) :: starEach [.Name C px] X.env := by rfl) (he2 : starEach [.Name C px] X.env = (false, eval (.Name C px) X.env) :: starEach [] X.env := by rfl) (hpl : (backTo pos (starEach [.Name C px] X.env)).any (·.1) = false := by rfl) :
    PD X g (.Call (.Name "isinstance" p) [a, .Name C px] [] pos) (dIsx (mtOf tab tests) C ta) where
  m := isx_m ha.m
  pe := PE.of (pe_callB call_isX hg hm (show bootBuiltins "isinstance" = some (.builtin "isinstance") by decide +kernel) (pa_cons ha.pe (pa_cons (pe_glob hgx hmx (v := .ref (g.ca C)) rfl hd) pa_nil he2) he) (by decide) (by decide) he hpl) fun sg H Q z =>
    isx_up F hK ha.m (w := .ref (g.ca C)) (fun u ru => by rw [cvl_own hmx]; exact ru) z
theorem pd_isxB {C : Str} {n : String} (F : XT X.K X.mg g.ca tab tests flds) (hK : X.K = g.K) (hg : Gl X "isinstance") (hm : X.mg "isinstance" = none) (hgx : Gl X C) (hmx : X.mg C = none) (hv : bootBuiltins C = some (.type n)) (ha : PD X g a ta) (hn : C ≠ "__name__" := by decide) (hd : (C == ("__debug__" : Str)) = false := by decide)
    (he : starEach [a, .Name C px] X.env = (false, eval a X.env) :: starEach [.Name C px] X.env := by rfl) (he2 : starEach [.Name C px] X.env = (false, eval (.Name C px) X.env) :: starEach [] X.env := by rfl) (hpl : (backTo pos (starEach [.Name C px] X.env)).any (·.1) = false := by rfl) :
    PD X g (.Call (.Name "isinstance" p) [a, .Name C px] [] pos) (dIsx (mtOf tab tests) C ta) where
  m := isx_m ha.m
  pe := PE.of (pe_callB call_isX hg hm (show bootBuiltins "isinstance" = some (.builtin "isinstance") by decide +kernel) (pa_cons ha.pe (pa_cons (pe_bltn hgx hmx hv (v := .ty n) rfl hn hd) pa_nil he2) he) (by decide) (by decide) he hpl) fun sg H Q z =>
    isx_up F hK ha.m (w := .ty n) (fun u ru => by rw [cvl_blt hmx hv]; exact ru) z
/-! ### fields -/
theorem repF_look {K : PySem.W.Frag} {ca : Str → Addr} {al : Ad} {H : Hp} {n : Str} {d : D} : ∀ {fs : List (Str × D)} {vs : List (Str × V)}, RepF K ca al H fs vs → fs.lookup n = some d → ∃ v, vs.lookup n = some v ∧ Rep K ca al H d v
  | [], vs, _, h => by cases h
  | (k, e) :: r, vs, q, h => by
    simp only [RepF] at q
    obtain ⟨v, us, rfl, q1, q2⟩ := q
    simp only [List.lookup] at h ⊢
    cases hk : n == k with
    | true =>
      rw [hk] at h
      cases h
      exact ⟨v, rfl, q1⟩
    | false =>
      rw [hk] at h
      exact repF_look q2 h
theorem xin_ex : ∃ f : List (Str × List Str) → Str → Bool, f = fun t c => (t.lookup c).isSome := ⟨_, rfl⟩
noncomputable def xin : List (Str × List Str) → Str → Bool := Classical.choose xin_ex
theorem xin_eq (tab : List (Str × List Str)) (c : Str) : xin tab c = (tab.lookup c).isSome := congrFun (congrFun (Classical.choose_spec xin_ex) tab) c
def dXat (tab : List (Str × List Str)) (f : Str) (ta : TEd) : TEd := fun dl mu Q => ta dl mu fun d m => match d with
  | .exc c fs => xin tab c = true ∧ (match xfld fs f with
    | some y => Q y m
    | none => False)
  | _ => False
theorem pd_xat (F : XT X.K X.mg g.ca tab tests flds) (hK : X.K = g.K) (hf : f ∈ flds) (ha : PD X g a ta) (hb : attributeBase a f X.env (eval a X.env) = eval a X.env := by rfl) : PD X g (.Attribute a f pos) (dXat tab f ta) where
  m := fun dl mu Q Q' w z => ha.m dl mu _ _ (fun d m z => by
    cases d with
    | exc c fs =>
      refine ⟨z.1, ?_⟩
      have z := z.2
      show (match xfld fs f with | some y => Q' y m | none => False)
      cases e : xfld fs f with
      | none => rw [e] at z; exact z.elim
      | some y => rw [e] at z; exact w _ _ z
    | _ => exact z.elim) z
  pe := ⟨fun pins s sg H Q I z => by
    obtain ⟨dl, mu, T, r, z⟩ := z
    have go : wpAny (model X.prog X.w) X.A (eval a X.env) (EP X pins sg _) X.xe s := ha.pe.run pins s sg H (fun v H1 => ∃ x vs c fs y dl m T al w, v = .ref x ∧ XHas X.K H1 x (g.ca c) vs ∧ (tab.lookup c).isSome = true ∧ vs.lookup f = some w ∧ RelA g al dl m T sg H1 ∧ Rep g.K g.ca al H1 y w ∧ (∀ v H', Rel g dl m ((v, y) :: T) sg H' → Q v H')) I ⟨dl, mu, T, r, ha.m dl mu _ _ (fun d m z v H1 r1 => by
      cases d with
      | exc c fs =>
        obtain ⟨z1, z2⟩ := z
        cases e0 : xfld fs f with
        | none => rw [e0] at z2; exact z2.elim
        | some y =>
          rw [e0] at z2
          have e := (xfld_eq _ _).symm.trans e0
          obtain ⟨al, q, rp⟩ := r1.top
          obtain ⟨x, vs, rfl, hx, rf⟩ := xhas rp
          obtain ⟨w, e2, rw_⟩ := repF_look rf e
          exact ⟨x, vs, c, fs, y, dl, m, T, al, w, rfl, by rw [hK]; exact hx, (xin_eq _ _).symm.trans z1, e2, q.sub (fun _ h => List.mem_cons_of_mem _ h), rw_, z2⟩
      | _ => exact z.elim) z⟩
    refine attr_of hb (thn go fun u s1 hh => ?_)
    · obtain ⟨v, H1, I1, rv, x, vs, c, fs, y, dl1, m, T1, al, w, rfl, hx, hc, e, q, rp, k⟩ := hh
      obtain rfl : u = Value.ref x := rv
      obtain ⟨ox, od, J, hl⟩ := hx.inst I1
      obtain ⟨o, u, rfl, e3, ru⟩ := hl f w e
      obtain ⟨l, el⟩ := Option.isSome_iff_exists.mp hc
      have ec := F.e c l el
      exact HandSPX.exc_get I1.kIn J ec.hg ec.hk ec.hs (PySem.W.findObj_own ec.hd (F.f c l el f hf) rfl e3) (handed_of ru) ⟨w, H1, I1.tok _, ru, k w H1 ⟨al, q.push rp⟩⟩⟩
/-! ### list.count -/
def rCntF (K : PySem.W.Frag) : V → List V → Hp → VK → Prop := fun x xs H Q => ∃ (l : Addr) (ys : List V) (y : V), x = .ref l ∧ xs = [y] ∧ SqL K H l ys ∧ flatV y = true ∧ ys.all flatV = true ∧ Q (.int (ys.countP fun z => eqV z y : Nat)) H
theorem cnt_vals {y : V} : ∀ {ys : List V} {us : List Value}, Vals ys us → ys.all flatV = true → us.countP (eqU y) = ys.countP fun z => eqV z y
  | _, _, .nil, _ => rfl
  | _, _, .cons r rs, h => by
    simp only [List.all_cons, Bool.and_eq_true] at h
    rw [List.countP_cons, List.countP_cons, cnt_vals rs h.2, eqU_of r h.1]
theorem mt_cntF : MtR X "list.count" (rCntF X.K) := by
  intro pins s σ H x xs v us Q I rx rxs h
  obtain ⟨l, ys, y, rfl, rfl, hs, fy, fys, q⟩ := h
  cases rx
  obtain ⟨u, rfl, ru⟩ := rxs.one
  obtain ⟨its, rv, ⟨⟨cls, dd, data, sl⟩, n, ho, hc, hdn, hd⟩, hlen⟩ := I.list hs
  dsimp only at hc hd
  subst hc hd
  refine call_meets PySem.F.slot_list_count ⟨_, ho, rfl⟩ PySem.F.entry_list_count (PySem.F.args_list_count_2 _ _) (SeqAt.list_countAt l its.toArray n dd sl u (eqU y)) ⟨ho, fun z hz => mem_eqAt ru fy rv fys z (by simpa using hz), ?_⟩
  refine ⟨.int (ys.countP (fun z => eqV z y) : Nat), H, I.tok _, ⟨s.toks, ?_⟩, q⟩
  rw [← cnt_vals rv fys]
def countO (m : Mu) (o : D) : List D → Option (Prop × D)
  | [x] => match asL m o with
    | some ds => some (flatD x = true ∧ ds.all flatD = true, .int (ds.countP fun z => eqF z x : Nat))
    | none => none
  | _ => none
def dCnt (ta : TEd) (t : TAd) : TEd := fun dl mu Q => ta dl mu fun o m1 => (asL m1 o).isSome = true ∧ t dl m1 fun ds m2 => match countO m2 o ds with
  | some (c, d) => c ∧ Q d m2
  | none => False
theorem cnt_map {x : D} (hx : flatD x = true) : ∀ {ds : List D}, ds.all flatD = true → (ds.map toV).countP (fun z => eqV z (toV x)) = ds.countP fun z => eqF z x
  | [], _ => rfl
  | d :: ds, h => by
    simp only [List.all_cons, Bool.and_eq_true] at h
    rw [List.map_cons, List.countP_cons, List.countP_cons, cnt_map hx h.2, eqF_v h.1 hx]
theorem pd_count {apos cpos : Pos} (ha : PD X g a ta) (hb : QA X g [b] t) (hK : X.K = g.K)
    (hm : ∀ {to : TE} {ta : TA}, PE X a to → PA X [b] ta → PE X (.Call (.Attribute a "count" apos) [b] [] cpos) (tBM X.K "list" (rCntF X.K) to ta)) : PD X g (.Call (.Attribute a "count" apos) [b] [] cpos) (dCnt ta t) where
  m := fun dl mu Q Q' w z => ha.m dl mu _ _ (fun o m1 z => ⟨z.1, hb.m _ _ _ _ (fun ds m2 z => by
    cases e : countO m2 o ds with
    | none => rw [e] at z; exact z.elim
    | some m3 => rw [e] at z; exact ⟨z.1, w _ _ z.2⟩) z.2⟩) z
  pe := PE.of (hm ha.pe hb.pa) fun sg H Q z => by
    obtain ⟨dl, mu, T, r, z⟩ := z
    refine ⟨dl, mu, T, r, ha.m dl mu _ _ (fun o m1 z vo H1 r1 => ?_) z⟩
    obtain ⟨hs, z⟩ := z
    refine ⟨?_, dl, m1, _, r1, hb.m _ _ _ _ (fun ds m2 z vs H2 hl r2 => ?_) z⟩
    · obtain ⟨al, q, k⟩ := r1.top
      obtain ⟨xs, e⟩ := Option.isSome_iff_exists.mp hs
      obtain ⟨l, ws, rfl, f2, f3⟩ := q.lst k e
      exact .inl ⟨rfl, ws, by rw [hK]; exact f2⟩
    · cases e : countO m2 o ds with
      | none => rw [e] at z; exact z.elim
      | some pp =>
        rw [e] at z
        unfold countO at e
        split at e
        · split at e
          · rename_i x xs e1
            cases e
            obtain ⟨al, q, k⟩ := r2.reps hl
            obtain ⟨v, rfl, k1⟩ := one_of k
            have k2 : Rep g.K g.ca al H2 o vo := q.tmp (vo, o) (by simp)
            obtain ⟨l, ws, rfl, f2, f3⟩ := q.lst k2 e1
            have hv := reps_flat f3 z.1.2
            subst hv
            have hx := flat_rep z.1.1 k1
            subst hx
            have q0 : RelA g al dl m2 T sg H2 := q.sub (T' := T) fun p hp => by simp [hp]
            refine ⟨l, _, _, rfl, rfl, by rw [hK]; exact f2, flat_v z.1.1, all_flatV z.1.2, ?_⟩
            rw [cnt_map z.1.1 z.1.2]
            exact z.2 _ _ (q0.scal rfl)
          · cases e
        · cases e
end
end VL

/-! VsHot: defs called while an exception is handled. -/
namespace VL
open PySem PySem.Spec PyProof.Rows L2
theorem _root_.L2H.RoomH.units {k : Nat} {A : Around} (r : L2H.RoomH k A) : A.units + 64 < cLine := by
  have := r.un
  omega
theorem hotRoom {k : Nat} {A : Around} {e : Option Value} (r : Room k A) : L2H.RoomH k (A.mark e) := ⟨r.dp, r.un⟩
/-- a def keeps a promise, whatever is handled -/
structure FnHo (P : Program) (w : World) (K : PySem.W.Frag) (mg : Str → Option Value) (base : Heap) (CX : CXT) (k : Nat) (f : Addr) (fd : FuncData) (ps : List Str) (sp : Sp) : Prop where
  len : ∀ vs H Q E, sp vs H Q E → vs.length = ps.length
  run : ∀ (A : Around) (outer : List Env) (s : Shared) (H : Hp) (args : Args) (us : List Value) (vs : List V) (Q : VK) (E : XK), L2H.RoomH k A → A.guards = some [] → Env0 P w K mg base A outer s H → BindsTo s fd args (ps.zip us) →
    Vals vs us → sp vs H Q E → codeAny (model P w) A (.call (.ref f) args) (CR CX outer P w H s Q E) s
/-- .. by its name -/
structure Fh (P : Program) (w : World) (K : PySem.W.Frag) (mg : Str → Option Value) (base : Heap) (CX : CXT) (ca : Str → Addr) (k : Nat) (x : Str) (ps : List Str) (S : SpD) (st : Stmt) : Prop where
  ex : ∃ (f : Addr) (fd : FuncData), mg x = some (.ref f) ∧ PySem.W.keepIn K (.ref f) = true ∧ Binds K fd ps [] ∧ FnHo P w K mg base CX k f fd ps (spOf K ca S) ∧ Fun K x x st f fd
section
variable {P : Program} {w : World} {K : PySem.W.Frag} {mg : Str → Option Value} {base : Heap} {CX : CXT}
theorem fnHo_of {k : Nat} {f : Addr} {name qual : Str} {params : Arguments} {body : List Stmt} {scope : Scope} {dV kV doc pm cdv ct oc : Value} {an od : Option Addr} {osl : Array (Option Value)} {N ps : List Str} {sp : Sp}
    (look : K.lookup f = some ⟨oc, od, .func (PySem.W.fnOf name qual params body scope dV kV doc pm an cdv ct), osl⟩) (code : PySem.W.codeIn K cdv qual = true) (S : FnScope N ps scope) (len : ∀ vs H Q E, sp vs H Q E → vs.length = ps.length)
    (hbody : ∀ (A : Around) (outer : List Env) (s : Shared) (H : Hp) (vs : List V) (Q : VK) (E : XK) (pn : Addr × Obj), L2H.RoomH k (A.deeper (envOfC qual scope s.heap.objs.size f cdv)) → A.guards = some [] → sp vs H Q E →
      ∃ t, PSs (L2H.cxH CX P w K mg base N qual scope f cdv A outer s H E pn) body t ∧ t { nx := fun _ H' => Q .non H', rt := Q } (start N vs) H) :
    FnHo P w K mg base CX (k + 1) f (PySem.W.fnOf name qual params body scope dV kV doc pm an cdv ct) ps sp where
  len := len
  run := fun A outer s H args us vs Q E room gd e0 bind rel prom => by
    have stays : ∀ b o, base.get? b = some o → s.heap.get? b = some o := fun b o z => (e0.bs b o z).1
    have kin : K.In s.heap := e0.mod.kin.keeps stays
    have pin : L2H.PinOk outer H s (f, ⟨oc, od, .func (PySem.W.fnOf name qual params body scope dV kV doc pm an cdv ct), osl⟩) := {
      get := kin _ _ look
      free := (e0.bs _ _ (e0.mod.kin _ _ look)).2
      nofs := fun hm => by
        have q := (e0.funs.mem hm).1
        rw [e0.mod.kin _ _ look] at q
        cases q
      nocell := fun v z => by cases z }
    have par : ∀ y ∈ ps.zip us, scope.names.lookup y.1 = some .local ∨ (scope.names.lookup y.1 = some .cell ∧ ((cellsFrom (s.heap.objs.size + 1) scope.names []).lookup y.1).isSome = true) := by
      rintro ⟨n, v⟩ hy
      exact (S.par n (List.of_mem_zip hy).1).imp id fun q => ⟨q, PySem.W.cellsFrom_some _ _ _ (.inl q)⟩
    refine codeAny_call_function room.depth (kin _ _ look) rfl S.co S.gen rfl (PySem.W.codeRec_of kin code) (bind _ _ _ _ (wpAny_newFunctionEnv_cells S.kind par fun env ee s1 inc => ?_))
    subst ee
    refine ⟨(e0.mod.nolimit.keeps stays).keeps inc.toInCall.keep, codeAny_func ?_⟩
    obtain ⟨t, der, red⟩ := hbody A outer s H vs Q E (f, ⟨oc, od, .func (PySem.W.fnOf name qual params body scope dV kV doc pm an cdv ct), osl⟩) (room.deeper _) gd prom
    have inv := L2H.inv_startH (CX := CX) (E := E) S pin e0 (len _ _ _ _ prom) rel inc
    refine wpAny_mono (der.run [] s1 _ H _ inv red) (fun fl s2 out => ?_) fun _ _ z => z
    match fl, out with
    | .ret u, ⟨v, sg, H2, J, rv, q⟩ => exact ⟨v, H2, J.os, J.bare, J.base, J.hok, rv, q⟩
    | .next, ⟨sg, H2, J, q⟩ => exact ⟨V.non, H2, J.os, J.bare, J.base, J.hok, rfl, q⟩
    | .brk, ⟨_, _, _, q⟩ => exact q.elim
    | .cont, ⟨_, _, _, q⟩ => exact q.elim
theorem px_fnH {N : List Str} {qual : Str} {scope : Scope} {f : Addr} {cdv : Value} {A : Around} {outer : List Env} {s : Shared} {H : Hp} {E : XK} {pn : Addr × Obj} {g : Gm} {Ed : EdT} (hE : ∀ cls x sg H', upX g Ed cls x sg H' → E cls x H') :
    Px (L2.CX P w) (L2H.cxH (L2.CX P w) P w K mg base N qual scope f cdv A outer s H E pn) g Ed :=
  have tk : Takes (L2H.cxH (L2.CX P w) P w K mg base N qual scope f cdv A outer s H E pn) (fun cls x sg H => upX g Ed cls x sg H) := Takes.imp (takes_of (E := E) rfl rfl rfl rfl) fun _ _ _ _ z => hE _ _ _ _ z
  ⟨fun sg => passAt tk sg, tk⟩
theorem Fh.of {ca : Str → Addr} {x : Str} {st : Stmt} {f : Addr} {fd : FuncData} {N ps : List Str} {k : Nat} {S : SpD} {t : EdT → TSd} (F : Fun K x x st f fd) (hm : mg x = some (.ref f)) (b : Binds K fd ps []) (sc : FnScope N ps (defScope st)) (len : ∀ ds mu Q E, S ds mu Q E → ds.length = ps.length)
    (der : ∀ (cdv : Value) (A : Around) (outer : List Env) (s : Shared) (H : Hp) (E : XK) (g : Gm) (Ed : EdT) (pn : Addr × Obj), L2H.RoomH k (A.deeper (envOfC x (defScope st) s.heap.objs.size f cdv)) → A.guards = some [] → g.K = K → g.ca = ca → Px (L2.CX P w) (L2H.cxH (L2.CX P w) P w K mg base N x (defScope st) f cdv A outer s H E pn) g Ed →
      QSs (L2H.cxH (L2.CX P w) P w K mg base N x (defScope st) f cdv A outer s H E pn) g (defBody st) (t Ed))
    (red : ∀ ds mu Q E, lowL mu.length mu = true → lowL mu.length ds = true → S ds mu Q E → t (fun _ c fs m => E c fs m) (endD mu.length Q) (startD N ds) mu) :
    Fh P w K mg base (L2.CX P w) ca (k + 1) x ps S st where
  ex := by
    refine ⟨f, fd, hm, F.kp, b, ?_, F⟩
    obtain ⟨oc, od, kV, doc, pm, an, cdv, ct, osl, rfl, lk, hcd⟩ := F.ex
    refine fnHo_of lk hcd sc (fun vs H Q E h => ?_) fun A outer s H vs Q E pn hr gd h => ?_
    · obtain ⟨al, ds, mu, _, k, h⟩ := h
      rw [reps_len k]
      exact len _ _ _ _ h
    · obtain ⟨g, Ed, e1, e2, hE, q⟩ := body_in (N := N) (t := t) h red
      exact ⟨_, (der cdv A outer s H E g Ed pn hr gd e1 e2 (px_fnH hE)).ps, q⟩
end
section
variable {X : Cx} {g : Gm} {CX : CXT} {k : Nat} {e : Expr} {es : List Expr} {t : TAd} {x : Str} {ps : List Str} {S : SpD} {Ed : EdT} {p pos : Pos} {sst : Stmt} {a : Expr}
theorem pd_callh (F : Fh X.prog X.w X.K X.mg X.base CX g.ca k x ps S sst) (gs : GoodSp S) (hK : X.K = g.K) (hr : L2H.RoomH k X.A) (hgd : X.A.guards = some []) (hg : Gl X x) (hx : Px CX X g Ed) (ha : QA X g (e :: es) t)
    (hdb : (x == ("__debug__" : Str)) = false := by decide) (he : starEach (e :: es) X.env = (false, eval e X.env) :: starEach es X.env := by rfl) (hpl : (backTo pos (starEach es X.env)).any (·.1) = false := by rfl) :
    PD X g (.Call (.Name x p) (e :: es) [] pos) (dCall S Ed t) where
  m := call_m gs ha.m
  pe := ⟨fun pins s sg H Q I z => by
    obtain ⟨f, fd, hm, hk, hb, G, _⟩ := F.ex
    obtain ⟨dl, mu, T, r, z⟩ := z
    refine wpAny_Call_Name_kw (ld_glob I hg hm ?_ hdb)
    refine PySem.W.callWith_K (h₀ := X.base) I.ok.mod.kin hk ?_ he hpl
    refine thn (ha.pa.run pos pins s sg H (fun vs H1 => spOf g.K g.ca S vs H1 Q (fun cls x H => upX g Ed cls x sg H)) I ⟨dl, mu, T, r, ha.m dl mu _ _ (fun ds m z vs H1 hl r1 => call_in hl r1 z gs.q gs.e) z⟩) fun us s1 hh => ?_
    obtain ⟨vs, H1, I1, rv, q⟩ := hh
    refine ⟨I1.kIn, ?_⟩
    rw [← hK] at q
    have hlen : us.length = ps.length := rv.length.symm.trans (G.len _ _ _ _ q)
    have bind := hb s1 us I1.kIn (by simpa using hlen)
    rw [List.append_nil] at bind
    refine wpAny_call (codeAny_mono (G.run X.A X.stack s1 H1 ⟨us, []⟩ us vs Q _ hr hgd I1.env0 bind rv q) fun res s2 hq => ?_)
    match res, hq with
    | .error e, hq => exact hx.at_ sg pins H1 s1 e s2 I1 hq
    | .ok (.ret u), hq => exact I1.after hq
    | .ok .next, hq => exact hq.elim
    | .ok .brk, hq => exact hq.elim
    | .ok .cont, hq => exact hq.elim⟩
theorem pd_reprU (hK : X.K = g.K) (hu : X.A.units + 64 < cLine) (hgd : X.A.guards = some []) (hg : Gl X "repr") (hm : X.mg "repr" = none) (ha : QA X g [a] t) (he : starEach [a] X.env = (false, eval a X.env) :: starEach [] X.env := by rfl) : PD X g (.Call (.Name "repr" p) [a] [] pos) (dB (gOf reprD) t) :=
  pd_blt (call_reprD hgd hu) (cr_by fun dl mu T sg H vs ds c d Q al q k e hc z => by
    unfold reprD at e
    split at e
    · split at e
      · rename_i y e1
        cases e
        obtain ⟨v, rfl, k1⟩ := one_of k
        exact ⟨v, y, rfl, by rw [hK]; exact dq_at q e1 k1, hc.1, hc.2.1, hc.2.2, z _ _ (q.scal rfl)⟩
      · cases e
    · cases e) gOf_m hg hm (by decide +kernel) ha (by decide) (by decide) he
end
end VL

/-! VsLam: a lambda without parameters handed to a def that calls it. -/
namespace VL
open PySem PySem.Spec PyProof.Rows L2
/-- what is called without arguments at fv keeps the promise S in all states behind al0, H0 -/
def ActRun (P : Program) (w : World) (K : PySem.W.Frag) (mg : Str → Option Value) (base : Heap) (ca : Str → Addr) (k : Nat) (fv : Addr) (S : SpD) (out0 : List Env) (s0 : Shared) (H0 : Hp) (al0 : Ad) : Prop :=
  ∀ (A : Around) (outer : List Env) (s : Shared) (H : Hp) (Q : VK) (E : XK) (al : Ad) (mu : Mu), Room k A → A.guards = some [] → Env0 P w K mg base A outer s H → Un (frs out0) [] H0 H s0.heap s.heap → Back al0 al H0 H → Store K ca al mu H →
    S [] mu (fun d mu' => ∀ v H' al', Back al al' H H' → Store K ca al' mu' H' → Rep K ca al' H' d v → Q v H') (fun c fs mu' => ∀ cls x H' al', Back al al' H H' → Store K ca al' mu' H' → RepX K ca al' H' c fs cls x → E cls x H') →
    codeAny (model P w) A (.call (.ref fv) ⟨[], []⟩) (CR (L2.CX P w) outer P w H s Q E) s
/-- .. seen from a def that got it -/
structure Act (Z : Cx) (g : Gm) (k : Nat) (fv : Addr) (S : SpD) : Prop where
  fn : PySem.W.FnAt fv Z.s_0.heap
  free : Z.H_0 fv = none
  nof : fv ∉ Z.fs
  sub : ∀ a ∈ g.al0.pl, a ∈ g.al0.ex
  run : ∃ (al0 : Ad), Back al0 g.al0 Z.H_0 g.H0 ∧ ActRun Z.prog Z.w Z.K Z.mg Z.base g.ca k fv S Z.outer Z.s_0 Z.H_0 al0
theorem Act.into {Z : Cx} {g g' : Gm} {k : Nat} {fv : Addr} {S : SpD} {pn : List (Addr × Obj)} {xe : Value → Shared → Prop} (h : Act Z g k fv S) (hc : g'.ca = g.ca) (s : ∀ a ∈ g'.al0.pl, a ∈ g'.al0.ex) (b : (∀ a ∈ g.al0.pl, a ∈ g.al0.ex) → Back g.al0 g'.al0 g.H0 g'.H0) : Act (Z.tr pn xe) g' k fv S :=
  ⟨h.fn, h.free, h.nof, s, let ⟨al0, h1, h2⟩ := h.run; ⟨al0, h1.trans (b h.sub), by rw [hc]; exact h2⟩⟩
section
variable {X : Cx} {g : Gm} {k i : Nat} {fv : Addr} {S : SpD} {Ed : EdT} {a : Str} {p1 p2 : Pos}
def dAct (fv : Addr) (i : Nat) (S : SpD) (Ed : EdT) : TEd := fun dl mu Q => dl[i]? = some (some (.fnv fv)) ∧ S [] mu Q (Ed dl)
theorem pd_act (hA : Act X g k fv S) (gs : GoodSp S) (hK : X.K = g.K) (hex : X.ex = []) (hr : Room k X.A) (hgd : X.A.guards = some []) (hx : Px (L2.CX X.prog X.w) X g Ed) (hN : X.N[i]? = some a) (hv : Vis X.env.scope a) (hd : (a == ("__debug__" : Str)) = false := by decide) (hcd : (a == ("__classdict__" : Str)) = false := by decide) :
    PD X g (.Call (.Name a p1) [] [] p2) (dAct fv i S Ed) where
  m := fun dl mu Q Q' w z => ⟨z.1, gs.q _ _ _ _ _ w z.2⟩
  pe := ⟨fun pins s sg H Q I z => by
    obtain ⟨dl, mu, T, ⟨al, q⟩, hs, z⟩ := z
    obtain ⟨v, e1, e2⟩ := q.loc i _ hs
    have e2 : v = .ref fv := by simpa only [Rep] using e2
    subst e2
    refine wpAny_Call_Name_kw (thn ((pe_var (pos := p1) (i := i) hN hv hd hcd).run pins s sg H (fun v H1 => v = .ref fv ∧ H1 = H) I ⟨.ref fv, e1, rfl, rfl⟩) fun u s1 hh => ?_)
    obtain ⟨v, H1, I1, r1, ev, eH⟩ := hh
    subst ev
    rw [eH] at I1
    obtain rfl : u = Value.ref fv := r1
    obtain ⟨al0, b0, run⟩ := hA.run
    have un : Un (frs X.outer) [] X.H_0 H X.s_0.heap s1.heap := by
      have b := I1.base
      rw [hex] at b
      exact b
    have fnat : PySem.W.FnAt fv s1.heap := by
      obtain ⟨oc, od, fd, osl, e⟩ := hA.fn
      exact ⟨oc, od, fd, osl, un.keep _ _ e hA.free hA.nof (by simp)⟩
    refine PySem.W.callWith_F0 fnat ?_
    have bk := b0.trans (RelA.toBack (K := g.K) (ca := g.ca) (al := g.al0) (H := g.H0) q hA.sub)
    have rc := run X.A X.stack s1 H Q (fun cls x H => upX g Ed cls x sg H) al mu hr hgd I1.env0 un bk (by rw [hK]; exact q.st) (gs.e _ _ _ _ _ (fun c fs m z cls x H' al' gr st rx => ?_) (gs.q _ _ _ _ _ (fun d m z v H' al' gr st rp => ?_) z))
    · refine wpAny_call (codeAny_mono rc fun res s2 hq => ?_)
      match res, hq with
      | .error e, hq => exact hx.at_ sg pins H s1 e s2 I1 hq
      | .ok (.ret u), hq => exact I1.after hq
      | .ok .next, hq => exact hq.elim
      | .ok .brk, hq => exact hq.elim
      | .ok .cont, hq => exact hq.elim
    · exact ⟨dl, m, T, c, fs, al', q.step (q.back gr) (by rw [← hK]; exact st), by rw [← hK]; exact rx, z⟩
    · exact z v H' ⟨al', (q.step (q.back gr) (by rw [← hK]; exact st)).push (by rw [← hK]; exact rp)⟩⟩
end
/-! ### a def that gets it -/
abbrev SpL := SpD → Mu → KD → EdF → Prop
structure GoodSL (SC : SpL) : Prop where
  q : ∀ S, GoodSp S → ∀ mu (Q Q' : KD) (E : EdF), (∀ d m, Q d m → Q' d m) → SC S mu Q E → SC S mu Q' E
  e : ∀ S, GoodSp S → ∀ mu Q (E E' : EdF), (∀ c fs m, E c fs m → E' c fs m) → SC S mu Q E → SC S mu Q E'
structure FnL (P : Program) (w : World) (K : PySem.W.Frag) (mg : Str → Option Value) (base : Heap) (ca : Str → Addr) (k : Nat) (x : Str) (SC : SpL) (sst : Stmt) : Prop where
  ex : ∃ (f : Addr) (fd : FuncData) (a : Str), mg x = some (.ref f) ∧ PySem.W.keepIn K (.ref f) = true ∧ Binds K fd [a] [] ∧
    ∀ (j : Nat) (A : Around) (outer : List Env) (s : Shared) (H : Hp) (args : Args) (fv : Addr) (S : SpD) (Q : VK) (E : XK) (al : Ad) (mu : Mu), Room (k + j) A → A.guards = some [] → Env0 P w K mg base A outer s H → BindsTo s fd args [(a, .ref fv)] → GoodSp S → Store K ca al mu H →
      PySem.W.FnAt fv s.heap → H fv = none → fv ∉ frs outer → ActRun P w K mg base ca j fv S outer s H al →
      SC S mu (fun d mu' => ∀ v H' al', Back al al' H H' → Store K ca al' mu' H' → Rep K ca al' H' d v → Q v H') (fun c fs mu' => ∀ cls x H' al', Back al al' H H' → Store K ca al' mu' H' → RepX K ca al' H' c fs cls x → E cls x H') →
      codeAny (model P w) A (.call (.ref f) args) (CR (L2.CX P w) outer P w H s Q E) s
theorem Back.refl (al : Ad) (H : Hp) : Back al al H H := ⟨⟨List.prefix_rfl, fun _ _ e _ => e, fun _ h1 h2 => absurd h1 h2, fun _ h1 h2 => absurd h1 h2⟩, fun _ _ e _ => e, fun _ h => h⟩
section
variable {P : Program} {w : World} {K : PySem.W.Frag} {mg : Str → Option Value} {base : Heap}
theorem FnL.of {ca : Str → Addr} {x a : Str} {st : Stmt} {f : Addr} {fd : FuncData} {N : List Str} {k : Nat} {SC : SpL} {t : Addr → SpD → EdT → TSd} (F : Fun K x x st f fd) (hm : mg x = some (.ref f)) (b : Binds K fd [a] []) (sc : FnScope N [a] (defScope st))
    (der : ∀ (j : Nat) (fv : Addr) (S : SpD) (cdv : Value) (A : Around) (outer : List Env) (s : Shared) (H : Hp) (E : XK) (g : Gm) (Ed : EdT), Room (k + j) (A.deeper (envOfC x (defScope st) s.heap.objs.size f cdv)) → A.guards = some [] → g.K = K → g.ca = ca → GoodSp S →
      Act (cxOf (L2.CX P w) P w K mg base N x (defScope st) f cdv A outer s H E) g j fv S → Px (L2.CX P w) (cxOf (L2.CX P w) P w K mg base N x (defScope st) f cdv A outer s H E) g Ed →
      QSs (cxOf (L2.CX P w) P w K mg base N x (defScope st) f cdv A outer s H E) g (defBody st) (t fv S Ed))
    (red : ∀ fv S mu Q E, lowL mu.length mu = true → GoodSp S → SC S mu Q E → t fv S (fun _ c fs m => E c fs m) (endD mu.length Q) (startD N [.fnv fv]) mu) :
    FnL P w K mg base ca (k + 1) x SC st where
  ex := by
    refine ⟨f, fd, a, hm, F.kp, b, fun j A outer s H args fv S Q E al mu room gd e0 bind gs stt fn free nof act prom => ?_⟩
    obtain ⟨oc, od, kV, doc, pm, an, cdv, ct, osl, rfl, lk, hcd⟩ := F.ex
    refine LamX.run_ofS (k := k + j) (N := N) (ps := [a]) (us := [.ref fv]) (vs := [.ref fv]) lk hcd sc (room.mono (by omega)) e0 bind (.cons rfl .nil) rfl fun hr => ?_
    obtain ⟨Ed, h1, h2⟩ := body_at (K := K) (N := N) (t := t fv S) (Q := Q) (E := E) (vs := [.ref fv]) (ds := [.fnv fv]) stt (by simp only [Reps]; exact ⟨.ref fv, [], rfl, by simp only [Rep], rfl⟩) (red fv S mu _ _ stt.lowOf gs prom)
    exact ⟨_, (der j fv S cdv A outer s H E ⟨K, ca, H, al⟩ Ed hr gd rfl rfl gs ⟨fn, free, nof, stt.sub, al, Back.refl al H, act⟩ (px_fn h1)).ps, h2⟩
end
end VL

/-! VsLam2: x(lambda: body). -/
namespace VL
open PySem PySem.Spec PyProof.Rows L2
section
variable {X : Cx} {pins : List (Addr × Obj)} {σ : St} {H : Hp} {s : Shared}
theorem upd_comm {H : Hp} {a b : Addr} {x y : HO} (h : a ≠ b) : upd (upd H a x) b y = upd (upd H b y) a x := by
  funext c
  by_cases h1 : c = a
  · subst h1
    rw [upd_ne h, upd_same, upd_same]
  · by_cases h2 : c = b
    · subst h2
      rw [upd_same, upd_ne h1, upd_same]
    · rw [upd_ne h2, upd_ne h1, upd_ne h1, upd_ne h2]
/-- a lambda is made: its code object is found, or new -/
theorem lam_new {c P : Addr} {params : Arguments} {body : Expr} {scope : Scope} {pos : Pos} {qn : Str} {ps : Array Value} {E : Value → Shared → Prop} {Q : Value → Shared → Prop} (I : Inv X pins σ H s) (TB : LamX.TabB X.base X.mg c P) (hcode : X.env.code = .ref c) (hq : X.env.qual ++ "<lambda>" = qn)
    (hP : H P = some (.tbl ps)) (ht : TriplesOk ps.toList) (hcs : ∀ p cv, codeAmong p ps.toList = some cv → ∃ d, cv = .ref d ∧ H d = some (LamX.CodeO d qn)) (hdef : defaultsOf params X.env = ([], [])) (hfree : ∀ y ∈ scope.names, y.2 = .free → ∃ d, X.env.cells.lookup y.1 = some d)
    (h : ∀ (f d : Addr) (pm ctv : Value) (H1 : Hp) (s1 : Shared), Inv X pins σ H1 s1 → (H1 = H ∨ (H d = none ∧ ∃ more : Array Value, TriplesOk (ps ++ more).toList ∧ (∀ p cv, codeAmong p (ps ++ more).toList = some cv → codeAmong p ps.toList = some cv ∨ cv = .ref d) ∧ H1 = upd (upd H d (LamX.CodeO d qn)) P (.tbl (ps ++ more)))) →
      H1 d = some (LamX.CodeO d qn) → s1.heap.get? f = some (PySem.W.kla_obj "<lambda>" qn params body scope (cloFrom X.env.cells scope.names []) pm d ctv) → H1 f = none → f ∉ frs X.stack → Q (.ref f) s1) :
    wpAny (model X.prog X.w) X.A (eval (.Lambda params body scope pos) X.env) Q E s := by
  subst hq
  refine PySem.W.kla_eval hdef ?_
  have tabAt : s.heap.get? P = some { cls := .none, data := .fields ps } := I.hok P _ hP
  have above : ∀ f, s.heap.objs.size ≤ f → f ∉ frs X.stack := fun f hf z => by
    rcases List.mem_cons.mp (I.stkSub _ z) with e | e
    · have z := I.lt
      rw [← e] at z
      exact Nat.lt_irrefl _ (Nat.lt_of_lt_of_le z hf)
    · exact I.nofs hf e
  cases found : codeAmong pos ps.toList with
  | some cv =>
    obtain ⟨d, rfl, hd⟩ := hcs pos cv found
    refine PySem.W.kla_makeFunctionHit (mg := X.mg) (c := c) (P := P) (ps := ps) (closure_ok hfree) I.ok.glob (I.mod.glob.keeps I.bk) hcode (TB.code.keeps I.bk) tabAt ht found (TB.bm.keeps I.bk) fun ctv h2 tk kp sz => ?_
    exact h h2.objs.size d _ ctv H _ (I.kept (t' := tk) fun b o e => Heap.get?_push_of_some _ (kp b o e)) (.inl rfl) hd (Heap.get?_push_size _ rfl) (I.hok.fresh sz) (above _ sz)
  | none =>
    refine PySem.W.kla_makeFunction (mg := X.mg) (c := c) (P := P) (ps := ps) (closure_ok hfree) I.ok.glob (I.mod.glob.keeps I.bk) hcode (TB.code.keeps I.bk) tabAt ht found TB.gP (TB.bm.keeps I.bk) fun d ctv h2 tk kp ge lt rec_ tb => ?_
    obtain ⟨d2, oc, vs, t, ed, hoc, hdat, hv⟩ := rec_
    cases ed
    have sz : s.heap.objs.size ≤ h2.objs.size := Nat.le_trans ge (Nat.le_of_lt lt)
    have nd : H d = none := I.hok.fresh ge
    have neP : d ≠ P := fun z => by
      rw [z, hP] at nd
      cases nd
    have J := LamX.inv_table (t' := tk) (more := #[rawInt pos.line, rawInt pos.col, .ref d]) (h' := h2.push (PySem.W.kla_obj "<lambda>" (X.env.qual ++ "<lambda>") params body scope (cloFrom X.env.cells scope.names []) ((X.mg "__name__").getD .none) d ctv)) I hP
      (fun b o hb e => Heap.get?_push_of_some _ (kp b o hb e)) (Heap.get?_push_of_some _ tb) ge ⟨oc, vs, t, Heap.get?_push_of_some _ hoc, hdat, hv⟩
    rw [upd_comm (Ne.symm neP)] at J
    have lst : (ps ++ #[rawInt pos.line, rawInt pos.col, .ref d]).toList = ps.toList ++ [rawInt pos.line, rawInt pos.col, .ref d] := by simp
    refine h h2.objs.size d _ ctv _ _ J (.inr ⟨nd, _, ?_, fun p cv hc => ?_, rfl⟩) ?_ (Heap.get?_push_size _ rfl) ?_ (above _ sz)
    · rw [lst]
      exact PySem.TriplesOk_snoc _ _ _ _ ht
    · rw [lst] at hc
      exact LamX.among_app _ ht hc
    · rw [upd_ne neP, upd_same]
    · have n1 : h2.objs.size ≠ d := Nat.ne_of_gt lt
      have n2 : h2.objs.size ≠ P := Nat.ne_of_gt (Nat.lt_of_lt_of_le (Heap.lt_size tabAt) sz)
      rw [upd_ne n2, upd_ne n1]
      exact I.hok.fresh sz
end
/-! ### over data -/
def lamS (tl : EdT → TEd) (dl : Lo) : SpD := fun ds m Q E => ds = [] ∧ ∃ (Q0 : KD) (E0 : EdF), (∀ d m, Q0 d m → Q d m) ∧ (∀ c fs m, E0 c fs m → E c fs m) ∧ tl (fun _ c fs m => E0 c fs m) dl m Q0
theorem lamS_good (tl : EdT → TEd) (dl : Lo) : GoodSp (lamS tl dl) where
  q := fun ds mu Q Q' E w ⟨e, Q0, E0, h1, h0, z⟩ => ⟨e, Q0, E0, fun d m k => w d m (h1 d m k), h0, z⟩
  e := fun ds mu Q E E' w ⟨e, Q0, E0, h1, h0, z⟩ => ⟨e, Q0, E0, h1, fun c fs m k => w c fs m (h0 c fs m k), z⟩
theorem lamS_by {tl : EdT → TEd} {dl : Lo} {m : Mu} {Q : KD} {E : EdF} (z : tl (fun _ c fs m => E c fs m) dl m Q) : lamS tl dl [] m Q E := ⟨rfl, Q, E, fun _ _ k => k, fun _ _ _ k => k, z⟩
def dLam (q : Str × Option Str) (SC : SpL) (tl : EdT → TEd) (Ed : EdT) : TEd := fun dl mu Q => .tab q ∈ mu ∧ SC (lamS tl dl) mu Q (Ed dl)
section
variable {X : Cx} {g : Gm} {k j : Nat} {x : Str} {SC : SpL} {tl : EdT → TEd} {Ed : EdT} {sst : Stmt} {qd : Str × Option Str} {params : Arguments} {body : Expr} {scope : Scope} {p lpos pos : Pos}
theorem pd_lam (F : FnL X.prog X.w X.K X.mg X.base g.ca k x SC sst) (gl : GoodSL SC) (hK : X.K = g.K) (hr : Room (k + (j + 1)) X.A) (hgd : X.A.guards = some []) (hg : Gl X x) (hx : Px (L2.CX X.prog X.w) X g Ed)
    (TB : LamX.TabB X.base X.mg (He.cT X.K qd).1 (He.cT X.K qd).2) (hcode : X.env.code = .ref (He.cT X.K qd).1) (hqu : X.env.qual = qnOf qd ++ ".<locals>.") (L : LamX.LamS X.env.scope scope) (hdef : defaultsOf params X.env = ([], []))
    (hbind : ∀ (q : Str) (cl : List (Str × Addr)) (pm cv ctv : Value), bindArgs (PySem.W.kla_fn "<lambda>" q params body scope cl pm cv ctv) ⟨[], []⟩ = pure [])
    (hbody : ∀ (A : Around) (outer : List Env) (s : Shared) (H : Hp) (E : XK) (f d : Addr) (g' : Gm) (Ed' : EdT), g'.K = g.K → g'.ca = g.ca → Room j (A.deeper (LamX.lamEnv X scope s.heap.objs.size f d)) → A.guards = some [] → Px (L2.CX X.prog X.w) (LamX.lamCx X A outer s H E scope f d) g' Ed' →
      PD (LamX.lamCx X A outer s H E scope f d) g' body (tl Ed')) (hdb : (x == ("__debug__" : Str)) = false := by decide) :
    PD X g (.Call (.Name x p) [.Lambda params body scope lpos] [] pos) (dLam qd SC tl Ed) where
  m := fun dl mu Q Q' w z => ⟨z.1, gl.q _ (lamS_good tl dl) _ _ _ _ w z.2⟩
  pe := ⟨fun pins s sg H Q I z => by
    obtain ⟨dl, mu, T, ⟨al, q⟩, hmem, z⟩ := z
    obtain ⟨n, hn, en⟩ := List.mem_iff_getElem.mp hmem
    have em : mu[n]? = some (.tab qd) := by rw [List.getElem?_eq_getElem hn, en]
    obtain ⟨P, hp, eP, ps, hT, ht, hcs⟩ := q.at em
    have eP' : P = (He.cT X.K qd).2 := by rw [hK]; exact eP
    have eqn : qnOf qd ++ ".<locals>." ++ "<lambda>" = X.env.qual ++ "<lambda>" := by rw [hqu]
    rw [eqn] at hcs
    obtain ⟨fc, fd, an, hm, hk, hb, run⟩ := F.ex
    refine wpAny_Call_Name_kw (ld_glob I hg hm ?_ hdb)
    refine PySem.W.callWith_K (h₀ := X.base) I.ok.mod.kin hk ?_ (by rfl) (by rfl)
    show wpAny _ _ (spliced ((false, eval (.Lambda params body scope lpos) X.env) :: backTo pos (starEach [] X.env))) _ _ s
    refine Calls.spliced_cons (lam_new I (eP' ▸ TB) hcode rfl hT ht (fun p cv hc => let ⟨d, h1, h2, _⟩ := hcs p cv hc; ⟨d, h1, h2⟩) hdef (L.has I.ok) fun f d pm ctv H1 s1 I1 hH hco hf hfn hfr => ?_)
    refine Calls.spliced_nil ⟨I1.kIn, ?_⟩
    have q1 : RelA g al dl mu T sg H1 := by
      rcases hH with e | ⟨nd, more, t2, c2, e⟩
      · rw [e]; exact q
      · have neP : d ≠ P := fun z => by
          rw [z, hT] at nd
          cases nd
        have codes : ∀ (p : Pos) (cv : Value), codeAmong p (ps ++ more).toList = some cv → ∃ e, cv = .ref e ∧ upd (upd H d (LamX.CodeO d (X.env.qual ++ "<lambda>"))) P (.tbl (ps ++ more)) e = some (LamX.CodeO e (X.env.qual ++ "<lambda>")) ∧ e ∉ al.ex := fun p cv hc => by
          rcases c2 p cv hc with z | z
          · obtain ⟨d0, h1, h2, h3⟩ := hcs p cv z
            refine ⟨d0, h1, ?_, h3⟩
            rw [upd_ne (fun z => by rw [z, hT] at h2; cases h2), upd_ne (ne_of_none h2 nd)]
            exact h2
          · exact ⟨d, z, by rw [upd_ne neP, upd_same], q.st.fresh nd⟩
        rw [← eqn] at codes
        have q3 := (q.new (p := d) (o := LamX.CodeO d (qnOf qd ++ ".<locals>." ++ "<lambda>")) nd).put (n := n) (a := P) (o := .tbl (ps ++ more)) (d := .tab qd) hp ⟨eP, _, upd_same, t2, codes⟩
        have es : mu.set n (.tab qd) = mu := by
          apply List.ext_getElem?
          intro i
          by_cases hi : i = n
          · subst hi
            rw [List.getElem?_set_self hn, em]
          · rw [List.getElem?_set_ne (Ne.symm hi)]
        rw [es, eqn] at q3
        rw [e]
        exact q3
    have dout : d ∉ al.pl := fun z => q1.st.nx d (q1.st.sub d z) _ hco
    have bind := hb s1 [.ref f] I1.kIn rfl
    have act : ActRun X.prog X.w X.K X.mg X.base g.ca (j + 1) f (lamS tl dl) X.stack s1 H1 al := by
      intro A outer s2 H2 Q2 E2 al2 mu2 room gd e0 un bk st2 z2
      obtain ⟨_, Q0, E0, hQ, hE, z3⟩ := z2
      have of2 := un.keep f _ hf hfn hfr (by simp)
      obtain ⟨⟨oc, vs, t, hoc, hdc, hvc⟩, _, _⟩ := e0.hok d _ (bk.all d _ hco dout)
      refine PySem.W.kla_callFunE room.depth of2 rfl L.co L.gen rfl ⟨d, oc, vs, t, rfl, hoc, hdc, hvc⟩ ?_
      rw [hbind]
      have lim := e0.mod.nolimit.keeps fun b o z => (e0.bs b o z).1
      refine wpAny_pure (wpAny_newFunctionEnv (fun y hy => (L.own y hy).2) (fun y hy => absurd hy (by simp)) (fun h3 hns hsb => ⟨lim.fresh _ hsb, ?_⟩) L.kind)
      have kp : ∀ b o, s2.heap.get? b = some o → h3.get? b = some o := fun b o e => hsb.extBut b o (Nat.ne_of_lt (Heap.lt_size e)) (Heap.get?_push_of_some _ e)
      show codeAny _ _ (.expr body (LamX.lamEnv X scope s2.heap.objs.size f d)) _ _
      have J : Inv (LamX.lamCx X A outer s2 H2 E2 scope f d) [] sg H2 { s2 with heap := h3, toks := s2.toks + ([] : List (Str × Value)).length } := LamX.lam_start2 I1 L e0 room.hd un hns kp
      have st2' : Store g.K g.ca al2 mu2 H2 := by rw [← hK]; exact st2
      have r2 : RelA ⟨g.K, g.ca, H2, al2⟩ al2 dl mu2 T sg H2 := (q1.step (q1.back bk) st2').enter
      have px : Px (L2.CX X.prog X.w) (LamX.lamCx X A outer s2 H2 E2 scope f d) ⟨g.K, g.ca, H2, al2⟩ (fun _ c fs m => E0 c fs m) :=
        have tk : Takes (LamX.lamCx X A outer s2 H2 E2 scope f d) (fun cls y sg H => upX ⟨g.K, g.ca, H2, al2⟩ (fun _ c fs m => E0 c fs m) cls y sg H) := Takes.imp (takes_of (E := E2) rfl rfl rfl rfl) fun cls y _ H' w => by
          obtain ⟨dl', m', T', c, fs, al', r, rx, w⟩ := w
          exact hE c fs m' w cls y H' al' (r.toBack st2.sub) (by rw [hK]; exact r.st) (by rw [hK]; exact rx)
        ⟨fun sg => passAt tk sg, tk⟩
      have pd := hbody A outer s2 H2 E2 f d ⟨g.K, g.ca, H2, al2⟩ (fun _ c fs m => E0 c fs m) rfl rfl (room.deeper _) gd px
      have go := pd.pe.run [] _ sg H2 Q2 J ⟨dl, mu2, T, ⟨al2, r2⟩, pd.m _ _ _ _ (fun y m z v H' r => by
        obtain ⟨al', r⟩ := r
        exact hQ y m z v H' al' (r.toBack st2.sub) (by rw [hK]; exact r.st) (by rw [hK]; exact r.tmp (v, y) List.mem_cons_self)) z3⟩
      refine PySem.W.kla_codeExpr (wpAny_mono go (fun v s3 hq => ?_) fun _ _ hq => hq)
      obtain ⟨w', H', J', rv, q'⟩ := hq
      exact ⟨w', H', J'.os, J'.bare, J'.base, J'.hok, rv, q'⟩
    have rc := run (j + 1) X.A X.stack s1 H1 ⟨[.ref f], []⟩ f (lamS tl dl) Q (fun cls x H => upX g Ed cls x sg H) al mu hr hgd I1.env0 (by simpa using bind) (lamS_good tl dl) (by rw [hK]; exact q1.st) ⟨_, _, _, _, hf⟩ hfn hfr act
      (gl.e _ (lamS_good tl dl) _ _ _ _ (fun c fs m z cls x H' al' gr st rx => ⟨dl, m, T, c, fs, al', q1.step (q1.back gr) (by rw [← hK]; exact st), by rw [← hK]; exact rx, z⟩) (gl.q _ (lamS_good tl dl) _ _ _ _ (fun y m z v H' al' gr st rp => z v H' ⟨al', (q1.step (q1.back gr) (by rw [← hK]; exact st)).push (by rw [← hK]; exact rp)⟩) z))
    refine wpAny_call (codeAny_mono rc fun res s2 hq => ?_)
    match res, hq with
    | .error e, hq => exact hx.at_ sg pins H1 s1 e s2 I1 hq
    | .ok (.ret u), hq => exact I1.after hq
    | .ok .next, hq => exact hq.elim
    | .ok .brk, hq => exact hq.elim
    | .ok .cont, hq => exact hq.elim⟩
end
end VL

/-! VsEnd3: the law's end where lambdas are made: tables of code objects. -/
namespace VL
open PySem PySem.Spec PyProof.Rows L2
abbrev tabsOf (K : PySem.W.Frag) (tf : List He.Defn) : List Addr := tf.map fun p => (He.cT K p).2
/-- the tables at the law's call -/
structure TabsOk (tf : List He.Defn) (K : PySem.W.Frag) (h : Heap) : Prop where
  hd : ∀ p ∈ tf, PySem.W.codeHdIn K (He.cT K p).1 (He.cT K p).2 = true
  out : ∀ p ∈ tf, K.lookup (He.cT K p).2 = none
  emp : ∀ p ∈ tf, h.get? (He.cT K p).2 = some { cls := .none, data := .fields #[] }
  nd : (tabsOf K tf).Nodup
/-! ### the head's facts -/
def obsV (n : Nat) (fa : List He.Fa) (fn : List He5.DefA) (ex : PySem.W.Frag → Bool) (tf : List He.Defn) (r : Addr → Option Obj) : Bool × He.AlD :=
  (ex (He.frT r (He5.asA r n)) && (He.tabsB r tf (He.frT r (He5.asA r n)) && decide (tabsOf (He.frT r (He5.asA r n)) tf).Nodup), He5.obsA fa fn (He.frT r (He5.asA r n)))
theorem tabs_of {n : Nat} {tf : List He.Defn} {h : Heap} (e : He.tabsB h.get? tf (He.frT h.get? (He5.asA h.get? n)) = true) (d : decide (tabsOf (He.frT h.get? (He5.asA h.get? n)) tf).Nodup = true) : TabsOk tf (He.frT h.get? (He5.asA h.get? n)) h := by
  have key : ∀ p ∈ tf, PySem.W.codeHdIn (He.frT h.get? (He5.asA h.get? n)) (He.cT (He.frT h.get? (He5.asA h.get? n)) p).1 (He.cT (He.frT h.get? (He5.asA h.get? n)) p).2 = true ∧ ∃ o, h.get? (He.cT (He.frT h.get? (He5.asA h.get? n)) p).2 = some o ∧ He.emptyTab o = true := fun p hp => by
    obtain ⟨k1, k2⟩ := He.ba (List.all_eq_true.mp e p hp)
    refine ⟨k1, ?_⟩
    split at k2
    · rename_i o q
      exact ⟨o, q, k2⟩
    · cases k2
  exact {
    hd := fun p hp => (key p hp).1
    out := fun p hp => let ⟨_, _, q, z⟩ := key p hp; He.frT_none q z
    emp := fun p hp => by
      obtain ⟨_, o, q, z⟩ := key p hp
      rw [q, He.emptyTab_eq z]
    nd := of_decide_eq_true d }
def hookV (n : Nat) (fa : List He.Fa) (fn : List He5.DefA) (ex : PySem.W.Frag → Bool) (tf : List He.Defn) : PySem.W.Hook where
  α := Bool × He.AlD
  obs := fun s => obsV n fa fn ex tf s.heap.get?
  val := fun _ => (true, He5.valA fn)
  says := fun _ h => ∃ K : PySem.W.Frag, K.In h ∧ He5.SaysA fa fn K ∧ ex K = true ∧ TabsOk tf K h
  of := fun _ _ e => by
    obtain ⟨k1, k2⟩ := He.ba (congrArg Prod.fst e)
    obtain ⟨k2, k3⟩ := He.ba k2
    exact ⟨_, He.frT_in, congrArg Prod.snd e, k1, tabs_of k2 k3⟩
  keeps := fun _ _ _ ⟨K, hK, c, x, t⟩ k => ⟨K, PySem.W.Frag.In.keeps hK k, c, x, ⟨t.hd, t.out, fun p hp => k _ _ (t.emp p hp), t.nd⟩⟩
theorem obsV_eq {n : Nat} {fa : List He.Fa} {fn : List He5.DefA} {ex : PySem.W.Frag → Bool} {tf : List He.Defn} {r : Addr → Option Obj} {s : Shared} (h : ∀ a, r a = s.heap.get? a) : obsV n fa fn ex tf r = (hookV n fa fn ex tf).obs s := by
  have e : r = s.heap.get? := funext h
  rw [e]
  rfl
/-! ### the law's promise -/
def LawSpT (n : Nat) (tf : List He.Defn) (S : SpD) : Prop := ∀ ns : List Int, ns.length ≤ n → S [.scr ns] (tf.map D.tab) (fun d _ => d = .bl true) fun _ _ _ => False
theorem law_spT {K : PySem.W.Frag} {ca : Str → Addr} {n : Nat} {tf : List He.Defn} {S : SpD} (gs : GoodSp S) (h : LawSpT n tf S) {H : Hp} {a : Addr} {ns : List Int} (hl : ns.length ≤ n) (sq : SqL K H a (ns.map V.int)) (nd : (tabsOf K tf).Nodup) (hT : ∀ p ∈ tf, H (He.cT K p).2 = some (.tbl #[])) (ha : a ∉ tabsOf K tf) :
    spOf K ca S [.ref a] H (fun v _ => v = .bl true) fun _ _ _ => False := by
  have at_ : ∀ b ∈ tabsOf K tf, H b = some (.tbl #[]) := fun b hb => by
    obtain ⟨p, hp, e⟩ := List.mem_map.mp hb
    rw [← e]
    exact hT p hp
  refine ⟨⟨tabsOf K tf, tabsOf K tf⟩, [.scr ns], tf.map D.tab, ?_, ?_, gs.e _ _ _ _ _ (fun _ _ _ z => z.elim) (gs.q _ _ _ _ _ (fun d m z v H' al' _ _ r => ?_) (h ns hl))⟩
  · exact {
      nd := nd
      len := by simp
      sub := fun _ h => h
      dom := fun b hb => ⟨_, at_ b hb⟩
      nx := fun b hb φ z => by
        have q : H b = some (.tbl #[]) := at_ b hb
        rw [q] at z
        cases z
      has := fun i b d e1 e2 => by
        have e1 : (tf.map fun p => (He.cT K p).2)[i]? = some b := e1
        rw [List.getElem?_map] at e1 e2
        cases q : tf[i]? with
        | none => rw [q] at e1; cases e1
        | some p =>
          rw [q] at e1 e2
          cases e1
          cases e2
          refine ⟨rfl, #[], hT p (List.mem_of_getElem? q), trivial, fun pos cv hc => ?_⟩
          have hc : codeAmong pos [] = some cv := hc
          simp [codeAmong] at hc }
  · simp only [Reps]
    refine ⟨.ref a, [], rfl, ?_, rfl⟩
    simp only [Rep]
    exact ⟨a, rfl, sq.imp (fun z => ⟨z, ha⟩) id⟩
  · rw [z] at r
    exact rep_bl r
section
variable {P : Program} {w : World} {K : PySem.W.Frag} {mg mb : Str → Option Value} {CX : CXT} {k : Nat} {fa a : Addr} {fd : FuncData} {x : Str} {sp : Sp} {st : Shared} {vs : List Value} {ns : List Int} {tf : List He.Defn}
/-- the abstract heap at the law's call: the script, if at all, and the tables -/
structure AtCallT (P : Program) (w : World) (K : PySem.W.Frag) (tf : List He.Defn) (st : Shared) (a : Addr) (H : Hp) : Prop where
  frz : ∀ b u, H b = some u → (b = a ∧ ∃ o xs, u = .frz o (.lst xs)) ∨ (b ∈ tabsOf K tf ∧ u = .tbl #[])
  off : ∀ b u, H b = some u → K.lookup b = none
  tab : ∀ p ∈ tf, H (He.cT K p).2 = some (.tbl #[])
  hok : HOk P w H st.heap
theorem TabsOk.at (t : TabsOk tf K st.heap) {b : Addr} (hb : b ∈ tabsOf K tf) : st.heap.get? b = some { cls := .none, data := .fields #[] } := by
  obtain ⟨p, hp, e⟩ := List.mem_map.mp hb
  rw [← e]
  exact t.emp p hp
theorem AtCallT.none_of {H : Hp} (t : AtCallT P w K tf st a H) (tb : TabsOk tf K st.heap) (ha : st.heap.get? a = some { cls := .type "list", data := .seq vs.toArray }) {b : Addr} {o : Obj} (e : st.heap.get? b = some o) (hd : ∀ q n, o.data ≠ .seq q n) (hf : o.data ≠ .fields #[]) : H b = none := by
  cases hb : H b with
  | none => rfl
  | some u =>
    rcases t.frz b u hb with ⟨rfl, _⟩ | ⟨z, _⟩
    · rw [ha] at e
      cases e
      exact absurd rfl (hd _ _)
    · rw [tb.at z] at e
      cases e
      exact absurd rfl hf
theorem AtCallT.run {H : Hp} (t : AtCallT P w K tf st a H) (tb : TabsOk tf K st.heap) (ha : st.heap.get? a = some { cls := .type "list", data := .seq vs.toArray }) (kin : K.In st.heap) (gn : st.heap.Ns mainGlobals mg) (bn : st.heap.Ns builtinsNs mb) (bb : ∀ y : Str, y ≠ "__name__" → mb y = bootBuiltins y) (nl : st.heap.NoLimit) (g0 : st.gens = #[])
    (hbm : ∃ (bm : Addr) (ob : Obj), mg "__builtins__" = some (.ref bm) ∧ bm ≠ builtinsNs ∧ st.heap.get? bm = some ob ∧ ob.cls = .type "module" ∧ ob.dict = some builtinsNs ∧ ob.data = .plain) (room : Room k callerA)
    (F : ∀ base : Heap, K.In base → base.Ns mainGlobals mg → (∀ p ∈ tf, LamX.TabB base mg (He.cT K p).1 (He.cT K p).2) → FnG P w K mg base CX k fa fd [x] sp) (bind : Binds K fd [x] []) (prom : sp [.ref a] H (fun v _ => v = .bl true) fun _ _ _ => False)
    (nox : ∀ H e s2, CX [] H st (fun _ _ _ => False) e s2 → False) :
    codeAny (model P w) callerA (.call (.ref fa) ⟨[.ref a], []⟩) (fun r s2 => r = .ok (.ret (.bool true)) ∧ OldK st.heap s2.heap ∧ s2.os = st.os ∧ AllBare s2.gens) st := by
  have nsOk : ∀ {b : Addr} {m : Str → Option Value}, st.heap.Ns b m → (hidT st.heap H).Ns b m := by
    rintro b m ⟨o, es, ep, e, d, r⟩
    exact ⟨o, es, ep, hidT_get e (t.none_of tb ha e (fun q n z => by rw [d] at z; cases z) fun z => by rw [d] at z; cases z), d, r⟩
  have kb : K.In (hidT st.heap H) := fun b o e => by
    refine hidT_get (kin b o e) ?_
    cases hb : H b with
    | none => rfl
    | some u =>
      rw [t.off b u hb] at e
      cases e
  have gt : ∀ p ∈ tf, mainGlobals ≠ (He.cT K p).2 := fun p hp z => by
    obtain ⟨o, es, ep, e, d, _⟩ := gn
    rw [z, tb.emp p hp] at e
    cases e
    cases d
  have TB : ∀ p ∈ tf, LamX.TabB (hidT st.heap H) mg (He.cT K p).1 (He.cT K p).2 := fun p hp => by
    refine ⟨PySem.W.codeHd_of_K kb (tb.hd p hp), ?_, gt p hp⟩
    obtain ⟨bm, ob, b1, b2, b3, b4, b5, b6⟩ := hbm
    have nG : bm ≠ mainGlobals := fun z => by
      obtain ⟨o, es, ep, e, d, _⟩ := gn
      rw [z, e] at b3
      cases b3
      rw [d] at b6
      cases b6
    have nP : bm ≠ (He.cT K p).2 := fun z => by
      rw [z, tb.emp p hp] at b3
      cases b3
      cases b6
    exact ⟨bm, ob, b1, b2, nG, nP, hidT_get b3 (t.none_of tb ha b3 (fun q n z => by rw [b6] at z; cases z) fun z => by rw [b6] at z; cases z), b4, b5, b6⟩
  obtain ⟨mc, l1, l2⟩ := nl
  have md : Mod K mg (hidT st.heap H) := ⟨kb, nsOk gn, ⟨mb, nsOk bn, bb⟩, mc, nsOk l1, l2⟩
  have env : Env0 P w K mg (hidT st.heap H) callerA [] st H := by
    refine ⟨rfl, md, fun b o e => of_hidT e, Nat.le_of_eq (hidT_size _ _), trivial, fun b hb => ?_, t.hok, .of_eq g0⟩
    exact (List.not_mem_nil (show b ∈ ([] : List Addr) from hb)).elim
  refine codeAny_mono ((F _ kb (nsOk gn) TB).run callerA [] st H ⟨[.ref a], []⟩ [.ref a] [.ref a] _ _ room rfl env (by simpa using bind st [.ref a] kin rfl) (.cons rfl .nil) prom) fun res s2 out => ?_
  match res, out with
  | .error er, out => exact (nox H er s2 out).elim
  | .ok .next, out => exact out.elim
  | .ok .brk, out => exact out.elim
  | .ok .cont, out => exact out.elim
  | .ok (.ret u), out =>
    obtain ⟨v, H2, os2, bare2, un, hok2, rel, ev⟩ := out
    have ev2 : v = .bl true := ev
    subst ev2
    obtain rfl : u = Value.bool true := rel
    have grown : ∀ p ∈ tf, ∃ more : Array Value, s2.heap.get? (He.cT K p).2 = some { cls := .none, data := .fields more } := fun p hp => by
      obtain ⟨more, z⟩ := un.tbls _ #[] (t.tab p hp)
      exact ⟨_, hok2 _ _ z⟩
    have stays : ∀ b o, b ∉ tabsOf K tf → st.heap.get? b = some o → s2.heap.get? b = some o := fun b o nb e => by
      cases hb : H b with
      | none => exact un.keep b o e hb (fun z => (List.not_mem_nil (show b ∈ ([] : List Addr) from z)).elim) (by simp)
      | some y =>
        rcases t.frz b y hb with ⟨_, ob, xs, rfl⟩ | ⟨z, _⟩
        · have old := (t.hok b _ hb).1
          rw [e] at old
          cases old
          exact (hok2 b _ (un.frzs b o _ hb)).1
        · exact absurd z nb
    refine ⟨rfl, ⟨fun b o e => ?_, fun b o e => ?_⟩, os2, bare2⟩
    · by_cases hb : b ∈ tabsOf K tf
      · obtain ⟨p, hp, rfl⟩ := List.mem_map.mp hb
        obtain ⟨more, hm⟩ := grown p hp
        have e0 := tb.emp p hp
        rw [e] at e0
        cases e0
        exact .inr (.inl ⟨((PySem.W.codeHd_of_K kin (tb.hd p hp)).tab (tb.emp p hp)).isCodeTable, rfl, #[], more, rfl, by rw [Array.empty_append]; exact hm⟩)
      · exact .inl (stays b o hb e)
    · by_cases hb : b ∈ tabsOf K tf
      · obtain ⟨p, hp, rfl⟩ := List.mem_map.mp hb
        obtain ⟨more, hm⟩ := grown p hp
        exact ⟨_, hm⟩
      · exact ⟨o, stays b o hb e⟩
theorem law_endT (tb : TabsOk tf K st.heap) (ha : st.heap.get? a = some { cls := .type "list", data := .seq vs.toArray }) (hin : IntsAre vs ns) (len : ns.length ≤ sizeLine) (kin : K.In st.heap) (gn : st.heap.Ns mainGlobals mg) (bn : st.heap.Ns builtinsNs mb) (bb : ∀ y : Str, y ≠ "__name__" → mb y = bootBuiltins y) (nl : st.heap.NoLimit) (g0 : st.gens = #[])
    (hbm : ∃ (bm : Addr) (ob : Obj), mg "__builtins__" = some (.ref bm) ∧ bm ≠ builtinsNs ∧ st.heap.get? bm = some ob ∧ ob.cls = .type "module" ∧ ob.dict = some builtinsNs ∧ ob.data = .plain) (room : Room k callerA)
    (F : ∀ base : Heap, K.In base → base.Ns mainGlobals mg → (∀ p ∈ tf, LamX.TabB base mg (He.cT K p).1 (He.cT K p).2) → FnG P w K mg base CX k fa fd [x] sp) (bind : Binds K fd [x] [])
    (prom : ∀ H : Hp, SqL K H a (ns.map V.int) → (∀ p ∈ tf, H (He.cT K p).2 = some (.tbl #[])) → a ∉ tabsOf K tf → sp [.ref a] H (fun v _ => v = .bl true) fun _ _ _ => False)
    (nox : ∀ H e s2, CX [] H st (fun _ _ _ => False) e s2 → False) :
    codeAny (model P w) callerA (.call (.ref fa) ⟨[.ref a], []⟩) (fun r s2 => r = .ok (.ret (.bool true)) ∧ OldK st.heap s2.heap ∧ s2.os = st.os ∧ AllBare s2.gens) st := by
  have vals := vals_ints hin
  have size := hin.length
  have aT : a ∉ tabsOf K tf := fun z => by
    have q := tb.at z
    rw [ha] at q
    have q2 : Data.seq vs.toArray _ = Data.fields #[] := congrArg Obj.data (Option.some.inj q)
    cases q2
  have mem : ∀ p ∈ tf, (He.cT K p).2 ∈ tabsOf K tf := fun p hp => List.mem_map.mpr ⟨p, hp, rfl⟩
  have offT : ∀ b ∈ tabsOf K tf, K.lookup b = none := fun b hb => by
    obtain ⟨p, hp, rfl⟩ := List.mem_map.mp hb
    exact tb.out p hp
  obtain ⟨HT, hHT⟩ : ∃ HT : Hp, HT = fun b => if b ∈ tabsOf K tf then some (.tbl #[]) else none := ⟨_, rfl⟩
  have in_ : ∀ b, b ∈ tabsOf K tf → HT b = some (.tbl #[]) := fun b hb => by rw [hHT]; exact if_pos hb
  have of_ : ∀ b u, HT b = some u → b ∈ tabsOf K tf ∧ u = .tbl #[] := fun b u e => by
    rw [hHT] at e
    by_cases hb : b ∈ tabsOf K tf
    · have e2 := (if_pos hb).symm.trans e
      cases e2
      exact ⟨hb, rfl⟩
    · have e2 := (if_neg hb).symm.trans e
      cases e2
  cases look : K.lookup a with
  | some o =>
    have same := kin a o look
    rw [ha] at same
    cases same
    have t : AtCallT P w K tf st a HT := ⟨fun b u z => .inr (of_ b u z), fun b u z => offT b (of_ b u z).1, fun p hp => in_ _ (mem p hp), fun b u z => by
      obtain ⟨h1, rfl⟩ := of_ b u z
      exact tb.at h1⟩
    exact t.run tb ha kin gn bn bb nl g0 hbm room F bind (prom _ (.inr ⟨_, vs.toArray, _, look, rfl, rfl, rfl, by rw [List.size_toArray, size]; exact len, by simpa using vals⟩) t.tab aT) nox
  | none =>
    have t : AtCallT P w K tf st a (upd HT a (.frz { cls := .type "list", data := .seq vs.toArray } (.lst (ns.map V.int)))) := by
      refine ⟨fun b u z => ?_, fun b u z => ?_, fun p hp => ?_, fun b u z => ?_⟩
      rotate_left 2
      · rw [upd_ne (fun z => aT (by rw [← z]; exact mem p hp))]
        exact in_ _ (mem p hp)
      all_goals
        by_cases hb : b = a
        · subst hb
          rw [upd_same] at z
          cases z
          first | exact .inl ⟨rfl, _, _, rfl⟩ | exact look | exact ⟨ha, by rw [List.length_map]; exact len, vs, _, vals, ha⟩
        · rw [upd_ne hb] at z
          obtain ⟨h1, rfl⟩ := of_ b u z
          first | exact .inr ⟨h1, rfl⟩ | exact offT b h1 | exact tb.at h1
    exact t.run tb ha kin gn bn bb nl g0 hbm room F bind (prom _ (.inl (.inr ⟨_, upd_same⟩)) t.tab aT) nox
end
/-- the goal that the head leaves -/
theorem walk_endT {l : PySem.W.OpenLaw} {n k : Nat} {q : Program} {loose : List Str} {XP : (Str → Option Value) → Heap → Prop} {YP : World → Heap → Prop} {d : DefRec} {x : Str} {S : SpD} {tf : List He.Defn}
    (hn : l.most = some n) (hn2 : n ≤ sizeLine) (hdf : d.params.defaults = []) (room : Room k callerA) (gs : GoodSp S) (ls : LawSpT n tf S)
    (F : ∀ (w : World) (mg : Str → Option Value) (fa : Addr) (h : Heap), YP w h → h.Ns mainGlobals mg → mg d.name = some (.ref fa) →
      ∃ (K : PySem.W.Frag) (fd : FuncData) (ca : Str → Addr), K.In h ∧ TabsOk tf K h ∧ Binds K fd [x] [] ∧ ∀ base : Heap, K.In base → base.Ns mainGlobals mg → (∀ p ∈ tf, LamX.TabB base mg (He.cT K p).1 (He.cT K p).2) → FnG l.prog w K mg base (L2.CX l.prog w) k fa fd [x] (spOf K ca S)) :
    PySem.W.WalkO q loose XP YP l.row.toRowW d [] (fun f vs => PySem.call f vs) := by
  refine Att.attach_call hn hdf fun w s0 s1 mg mb fa o pm cd doc a vs ns G Y ho hd hcd hmg hobj hints hlen hg => ?_
  obtain ⟨K, fd, ca, kin, tb, bind, fin⟩ := F w mg fa _ Y G.T.g hmg
  refine law_endT tb hobj hints (Nat.le_trans hlen hn2) kin G.T.g G.T.b G.T.builtins G.T.nolimit hg G.T.bmain room fin bind (fun H sq hT ha => law_spT gs ls hlen sq tb.nd hT ha) fun H e s2 z => ?_
  obtain ⟨_, _, _, _, _, _, _, _, _, _, _, _, z⟩ := z
  exact z
end VL

/-! VsFnT: a def that makes lambdas: its own code object is known. -/
namespace VL
open PySem PySem.Spec PyProof.Rows L2
section
variable {P : Program} {w : World} {K : PySem.W.Frag} {mg : Str → Option Value} {base : Heap}
theorem Fn.ofT {ca : Str → Addr} {x : Str} {st : Stmt} {f : Addr} {fd : FuncData} {N ps : List Str} {k : Nat} {S : SpD} {t : EdT → TSd} (F : Fun K x x st f fd) (hf : f = He.fAd K (x, none)) (hm : mg x = some (.ref f)) (b : Binds K fd ps []) (sc : FnScope N ps (defScope st)) (len : ∀ ds mu Q E, S ds mu Q E → ds.length = ps.length)
    (der : ∀ (cdv : Value) (A : Around) (outer : List Env) (s : Shared) (H : Hp) (E : XK) (g : Gm) (Ed : EdT), cdv = .ref (He.cT K (x, none)).1 → Room k (A.deeper (envOfC x (defScope st) s.heap.objs.size f cdv)) → A.guards = some [] → g.K = K → g.ca = ca → Px (L2.CX P w) (cxOf (L2.CX P w) P w K mg base N x (defScope st) f cdv A outer s H E) g Ed →
      QSs (cxOf (L2.CX P w) P w K mg base N x (defScope st) f cdv A outer s H E) g (defBody st) (t Ed))
    (red : ∀ ds mu Q E, lowL mu.length mu = true → lowL mu.length ds = true → S ds mu Q E → t (fun _ c fs m => E c fs m) (endD mu.length Q) (startD N ds) mu) :
    Fn P w K mg base (L2.CX P w) ca (k + 1) x ps S st where
  ex := by
    refine ⟨f, fd, hm, F.kp, b, ?_, F⟩
    obtain ⟨oc, od, kV, doc, pm, an, cdv, ct, osl, rfl, lk, hcd⟩ := F.ex
    have hc : cdv = .ref (He.cT K (x, none)).1 := by
      obtain ⟨c, e⟩ := He.codeIn_ref hcd
      rw [hf] at lk
      rw [e]
      exact congrArg Value.ref (He.codeOf_eq lk e).symm
    refine fnG_of lk hcd sc (fun vs H Q E h => ?_) fun A outer s H vs Q E hr gd h => ?_
    · obtain ⟨al, ds, mu, _, k, h⟩ := h
      rw [reps_len k]
      exact len _ _ _ _ h
    · obtain ⟨g, Ed, e1, e2, hE, q⟩ := body_in (N := N) (t := t) h red
      exact ⟨_, (der cdv A outer s H E g Ed hc hr gd e1 e2 (px_fn hE)).ps, q⟩
end
theorem px_no {CX : CXT} {X : Cx} {g : Gm} (h : CX = L2.CX X.prog X.w := by rfl) : Px CX X g noE := by
  subst h
  exact px_none
end VL

/-! VsUp: str.upper. -/
namespace VL
open PySem PySem.Spec PyProof.Rows L2
section
variable {X : Cx} {g : Gm} {a : Expr} {ta : TEd}
def upperD (z : Str) : Option (Prop × D) := some (z.length ≤ 5592405, .str (Txt.upper z))
theorem pd_upper {apos cpos : Pos} (ha : PD X g a ta) (hm : ∀ {to : TE} {r : V → List V → Hp → VK → Prop}, MtR X "str.upper" r → PE X a to → PE X (.Call (.Attribute a "upper" apos) [] [] cpos) (tBM0 X.K "str" r to)) :
    PD X g (.Call (.Attribute a "upper" apos) [] [] cpos) (dStr0 upperD ta) := pd_sm0 (fun dl mu T sg H z c d Q al q e hc w => by
    cases e
    exact ⟨_, rfl, rfl, hc, w _ _ (q.scal rfl)⟩) ha fun h1 => hm mt_upper h1
/-- list(x) that will be changed -/
def listM : F1 := fun ds mu Q => match ds with
  | [d] => match seqOf mu d with
    | some xs => Q (.loc mu.length) (mu ++ [.lst xs])
    | none => False
  | _ => False
theorem listM_m : MonoB listM := fun ds mu Q Q' w h => by
  unfold listM at h ⊢
  split at h
  · split at h
    · exact w _ _ h
    · exact h.elim
  · exact h.elim
theorem pd_listM {t : TAd} {p pos : Pos} (hK : X.K = g.K) (hg : Gl X "list") (hm : X.mg "list" = none) (ha : QA X g [a] t) (he : starEach [a] X.env = (false, eval a X.env) :: starEach [] X.env := by rfl) : PD X g (.Call (.Name "list" p) [a] [] pos) (dB listM t) :=
  pd_bty call_list_of (fun dl mu T sg H vs ds Q hl ⟨al, q, k⟩ z => by
    unfold listM at z
    split at z
    · split at z
      · rename_i ds e1
        obtain ⟨v, rfl, k1⟩ := one_of k
        rcases q.seq k1 e1 with ⟨l, ws, rfl, f2, f3⟩ | ⟨l, ws, rfl, f2, f3⟩
        · exact ⟨l, ws, rfl, .inr (by rw [hK]; exact f2), fun p' n => z _ _ (q.newLstL f3 n)⟩
        · exact ⟨l, ws, rfl, .inl (by rw [hK]; exact f2), fun p' n => z _ _ (q.newLstL f3 n)⟩
      · exact z.elim
    · exact z.elim) listM_m hg hm (by decide +kernel) ha (by decide) (by decide) he
theorem all_no {α : Type} {P : α → Prop} : ∀ x ∈ ([] : List α), P x := fun x hx => by simp at hx
theorem all_in {α : Type} {P : α → Prop} {a : α} {r : List α} (h : P a) (k : ∀ x ∈ r, P x) : ∀ x ∈ a :: r, P x := fun x hx => by
  rcases List.mem_cons.mp hx with e | hx
  · rw [e]
    exact h
  · exact k x hx
theorem lit_l {z w : Str} (h : z.length ≤ 1000) (k : w.length ≤ 1000) : z.length + w.length ≤ sizeLine := Nat.le_trans (Nat.add_le_add h k) (by decide)
end
end VL

namespace VL
open PySem PySem.Spec PyProof.Rows L2
def topS (i : Nat) : Stmt := PySem.Challenge.pw_classcurves_k03_grades_refused.main.body.getD i (.Pass ⟨0, 0, 0, 0⟩)
def clsB : Stmt → List Stmt
  | .ClassDef _ _ _ b _ _ _ _ _ _ _ => b
  | _ => []
def mthS (i j : Nat) : Stmt := (clsB (topS i)).getD j (.Pass ⟨0, 0, 0, 0⟩)
end VL

namespace VL
open PySem PySem.Spec PyProof.Rows L2
abbrev xtab : List (Str × List Str) := [("InvalidText", ["InvalidText", "BadValue", "ValueError"]), ("InvalidPoints", ["InvalidPoints", "BadValue", "ValueError"]), ("InvalidChange", ["InvalidChange", "BadValue", "ValueError"]), ("InvalidGrades", ["InvalidGrades", "BadValue", "ValueError"]), ("InvalidRows", ["InvalidRows", "BadValue", "ValueError"]), ("InvalidGroup", ["InvalidGroup", "BadValue", "ValueError"]), ("UnknownName", ["UnknownName", "BadName", "LookupError"])]
abbrev xtst : List Str := ["InvalidText", "InvalidPoints", "InvalidChange", "InvalidGrades", "InvalidRows", "InvalidGroup", "UnknownName", "BadValue", "ValueError", "BadName", "LookupError"]
abbrev mtX : MtT := mtOf xtab xtst
abbrev tfX : List (Str × Option Str) := [("_law_right", none)]
end VL

namespace Hd
open PySem PySem.Spec PyProof.Rows L2 VL
def fn : List He5.DefA := [⟨(fun K => He.fAd K ("_law_draw", none)), "_law_draw", "_law_draw", defArgs (topS 46), defBody (topS 46), defScope (topS 46), [], []⟩,
  ⟨(fun K => He.fAd K ("_law_pick", none)), "_law_pick", "_law_pick", defArgs (topS 47), defBody (topS 47), defScope (topS 47), [], []⟩,
  ⟨(fun K => He.fAd K ("_law_purse", none)), "_law_purse", "_law_purse", defArgs (topS 45), defBody (topS 45), defScope (topS 45), [], []⟩,
  ⟨(fun K => He.fAd K ("_law_label", none)), "_law_label", "_law_label", defArgs (topS 48), defBody (topS 48), defScope (topS 48), [], []⟩,
  ⟨(fun K => He.fAd K ("_law_labels", none)), "_law_labels", "_law_labels", defArgs (topS 49), defBody (topS 49), defScope (topS 49), [], []⟩,
  ⟨(fun K => He.fAd K ("is_integer", none)), "is_integer", "is_integer", defArgs (topS 11), defBody (topS 11), defScope (topS 11), [], []⟩,
  ⟨(fun K => He.fAd K ("is_number", none)), "is_number", "is_number", defArgs (topS 14), defBody (topS 14), defScope (topS 14), [], []⟩,
  ⟨(fun K => He.fAd K ("are_points", none)), "are_points", "are_points", defArgs (topS 15), defBody (topS 15), defScope (topS 15), [], []⟩,
  ⟨(fun K => He.fAd K ("number", none)), "number", "number", defArgs (topS 22), defBody (topS 22), defScope (topS 22), [], []⟩,
  ⟨(fun K => He.fAd K ("is_name", none)), "is_name", "is_name", defArgs (topS 12), defBody (topS 12), defScope (topS 12), [], []⟩,
  ⟨(fun K => He.fAd K ("member_of", none)), "member_of", "member_of", defArgs (topS 42), defBody (topS 42), defScope (topS 42), [], []⟩,
  ⟨(fun K => He.fAd K ("Condition", some "__init__")), "__init__", "Condition.__init__", defArgs (mthS 20 0), defBody (mthS 20 0), defScope (mthS 20 0), [], []⟩,
  ⟨(fun K => He.fAd K ("Row", some "__init__")), "__init__", "Row.__init__", defArgs (mthS 21 0), defBody (mthS 21 0), defScope (mthS 21 0), [], []⟩,
  ⟨(fun K => He.fAd K ("Condition", some "holds")), "holds", "Condition.holds", defArgs (mthS 20 2), defBody (mthS 20 2), defScope (mthS 20 2), [], []⟩,
  ⟨(fun K => He.fAd K ("Row", some "holds")), "holds", "Row.holds", defArgs (mthS 21 1), defBody (mthS 21 1), defScope (mthS 21 1), [], []⟩,
  ⟨(fun K => He.fAd K ("Rule", some "grade_of")), "grade_of", "Rule.grade_of", defArgs (mthS 43 10), defBody (mthS 43 10), defScope (mthS 43 10), [], []⟩,
  ⟨(fun K => He.fAd K ("written", none)), "written", "written", defArgs (topS 13), defBody (topS 13), defScope (topS 13), [], []⟩,
  ⟨(fun K => He.fAd K ("parsed_base", none)), "parsed_base", "parsed_base", defArgs (topS 23), defBody (topS 23), defScope (topS 23), [], []⟩,
  ⟨(fun K => He.fAd K ("parsed_word", none)), "parsed_word", "parsed_word", defArgs (topS 24), defBody (topS 24), defScope (topS 24), [], []⟩,
  ⟨(fun K => He.fAd K ("parsed_condition", none)), "parsed_condition", "parsed_condition", defArgs (topS 25), defBody (topS 25), defScope (topS 25), [], []⟩,
  ⟨(fun K => He.fAd K ("parsed_row", none)), "parsed_row", "parsed_row", defArgs (topS 26), defBody (topS 26), defScope (topS 26), [], []⟩,
  ⟨(fun K => He.fAd K ("check_rows", none)), "check_rows", "check_rows", defArgs (topS 39), defBody (topS 39), defScope (topS 39), [], []⟩,
  ⟨(fun K => He.fAd K ("check_grades", none)), "check_grades", "check_grades", defArgs (topS 38), defBody (topS 38), defScope (topS 38), [], []⟩,
  ⟨(fun K => He.fAd K ("Rule", some "__init__")), "__init__", "Rule.__init__", defArgs (mthS 43 0), defBody (mthS 43 0), defScope (mthS 43 0), [], []⟩,
  ⟨(fun K => He5.wf K (He.ga K "Rule") "property" "grades"), "grades", "Rule.grades", defArgs (mthS 43 2), defBody (mthS 43 2), defScope (mthS 43 2), [], []⟩,
  ⟨(fun K => He5.wf K (He.ga K "Rule") "property" "rows"), "rows", "Rule.rows", defArgs (mthS 43 3), defBody (mthS 43 3), defScope (mthS 43 3), [], []⟩,
  ⟨(fun K => He.fAd K ("Rule", some "__bool__")), "__bool__", "Rule.__bool__", defArgs (mthS 43 6), defBody (mthS 43 6), defScope (mthS 43 6), [], []⟩,
  ⟨(fun K => He.fAd K ("Rule", some "__len__")), "__len__", "Rule.__len__", defArgs (mthS 43 5), defBody (mthS 43 5), defScope (mthS 43 5), [], []⟩,
  ⟨(fun K => He.fAd K ("_law_shown", none)), "_law_shown", "_law_shown", defArgs (topS 51), defBody (topS 51), defScope (topS 51), [], []⟩,
  ⟨(fun K => He.fAd K ("_law_caught", none)), "_law_caught", "_law_caught", defArgs (topS 52), defBody (topS 52), defScope (topS 52), [], []⟩,
  ⟨(fun K => He.fAd K ("_law_bent", none)), "_law_bent", "_law_bent", defArgs (topS 54), defBody (topS 54), defScope (topS 54), [], []⟩,
  ⟨(fun K => He.fAd K ("_law_value", none)), "_law_value", "_law_value", defArgs (topS 55), defBody (topS 55), defScope (topS 55), [], []⟩,
  ⟨(fun K => He.fAd K ("_law_is_name", none)), "_law_is_name", "_law_is_name", defArgs (topS 50), defBody (topS 50), defScope (topS 50), [], []⟩,
  ⟨(fun K => He.fAd K ("_law_wrong", none)), "_law_wrong", "_law_wrong", defArgs (topS 53), defBody (topS 53), defScope (topS 53), [], []⟩,
  ⟨(fun K => He.fAd K ("_law_right", none)), "_law_right", "_law_right", defArgs (topS 56), defBody (topS 56), defScope (topS 56), [], []⟩,
  ⟨(fun K => He.fAd K ("law", none)), "law", "law", defArgs (topS 57), defBody (topS 57), defScope (topS 57), [], []⟩,
  ⟨(fun K => He.fAd K ("InvalidRows", some "__init__")), "__init__", "InvalidRows.__init__", defArgs (mthS 34 0), defBody (mthS 34 0), defScope (mthS 34 0), [], []⟩,
  ⟨(fun K => He.fAd K ("InvalidGrades", some "__init__")), "__init__", "InvalidGrades.__init__", defArgs (mthS 33 0), defBody (mthS 33 0), defScope (mthS 33 0), [], []⟩]
def fa : List He.Fa := [.glo "_law_draw", .free "int", .free "divmod", .glo "_law_pick", .free "len", .glo "_law_purse", .free "abs", .glo "_law_label", .free "range", .glo "_law_labels", .free "str", .glo "is_integer", .free "isinstance", .free "bool", .glo "is_number", .int "MOST_NUMBER" (1000000000000000), .glo "are_points", .glo "number", .int "TEN" (10), .glo "is_name", .free "all", .str "LETTERS" "abcdefghijklmnopqrstuvwxyz", .str "DIGITS" "0123456789", .int "LONGEST_NAME" (8), .glo "member_of", .free "sum", .free "dict", .mkr "Condition", .glo "Condition", .cls "Condition", .noat "Condition" "word", .noat "Condition" "is_at_most", .noat "Condition" "quantity", .mkr "Row", .glo "Row", .cls "Row", .noat "Row" "told", .noat "Row" "conditions", .meth "Condition" "holds", .meth "Row" "holds", .meth "Rule" "grade_of", .cls "Rule", .noat "Rule" "parsed", .glo "written", .int "MOST_WRITTEN" (1000000000000), .int "LONGEST_WRITTEN" (13), .glo "parsed_base", .glo "parsed_word", .glo "parsed_condition", .glo "parsed_row", .int "MOST_CONDITIONS" (2), .glo "check_rows", .free "enumerate", .free "tuple", .int "MOST_ROWS" (5), .glo "InvalidRows", .glo "check_grades", .int "MOST_GRADES" (4), .glo "InvalidGrades", .mkr "Rule", .glo "Rule", .noat "Rule" "held_rows", .noat "Rule" "held_grades", .meth "Rule" "__bool__", .meth "Rule" "__len__", .glo "_law_shown", .free "repr", .free "LookupError", .free "ValueError", .glo "BadName", .glo "BadValue", .glo "UnknownName", .glo "InvalidGroup", .glo "InvalidChange", .glo "InvalidPoints", .glo "InvalidText", .glo "_law_caught", .glo "_law_bent", .glo "_law_value", .free "list", .glo "_law_is_name", .glo "_law_wrong", .glo "_law_right", .glo "law", .free "min", .free "max"]
def exs (K : PySem.W.Frag) : List Bool := [(PySem.W.mroIn K (He.ga K "Condition") (.type "object") == some true) && He.eqO (PySem.W.findIn K (.ref (He.ga K "Condition")) "__eq__") (some (some (.builtin "object.__eq__"))), He.eqO (PySem.W.findIn K (.ref (He.ga K "InvalidRows")) "index") (some none), oeB K (He.ga K "InvalidRows") (lnOf "ValueError") "ValueError.__new__", He.eqO (PySem.W.findIn K (.ref (He.ga K "InvalidRows")) "__init__") (some (some (.ref (He.fAd K ("InvalidRows", some "__init__"))))), PySem.W.typeIn K (.ref (He.fAd K ("InvalidRows", some "__init__"))) == some (.type "function"), He.eqO (PySem.W.findIn K (.ref (He.ga K "InvalidGrades")) "index") (some none), oeB K (He.ga K "InvalidGrades") (lnOf "ValueError") "ValueError.__new__", He.eqO (PySem.W.findIn K (.ref (He.ga K "InvalidGrades")) "__init__") (some (some (.ref (He.fAd K ("InvalidGrades", some "__init__"))))), PySem.W.typeIn K (.ref (He.fAd K ("InvalidGrades", some "__init__"))) == some (.type "function"), propB K (He.ga K "Rule") "grades", propB K (He.ga K "Rule") "rows", xtB K ["InvalidText", "InvalidPoints", "InvalidChange", "InvalidGrades", "InvalidRows", "InvalidGroup", "UnknownName", "BadValue", "BadName"] xtab xtst ["given", "index"]]
def ex (K : PySem.W.Frag) : Bool := (exs K).all id
def nm0 : List PySem.Str := ["_wall", "MOST_GRADES", "MOST_ROWS", "MOST_CONDITIONS", "MOST_WRITTEN", "MOST_NUMBER", "LETTERS", "DIGITS", "LONGEST_NAME", "LONGEST_WRITTEN", "is_integer", "is_name", "written", "is_number", "are_points", "is_pair", "wrong_pair", "TEN", "Condition", "Row", "number", "parsed_base", "parsed_word", "parsed_condition", "parsed_row", "BadValue", "BadName", "InvalidText", "InvalidPoints", "InvalidChange"]
def nm1 : List PySem.Str := ["InvalidGrades", "InvalidRows", "InvalidGroup", "UnknownName", "check_grades", "check_rows", "check_group", "has_points", "member_of", "Rule", "_law_purse", "_law_draw", "_law_pick", "_law_label", "_law_labels", "_law_is_name", "_law_shown", "_law_caught", "_law_wrong", "_law_bent", "_law_value", "_law_right"]
def loose : List PySem.Str := nm0 ++ nm1
abbrev R : PySem.W.OpenRow := PySem.W.OpenLaw.row PySem.Challenge.rw_classcurves_k03_grades_refused
abbrev hk : PySem.W.Hook := hookV 6 fa fn ex tfX
def ob (s : PySem.W.SharedT) : Bool × He.AlD := obsV 6 fa fn ex tfX (HandSHeadRun.getT s)
theorem ob_eq (s : PySem.W.SharedT) : ob s = hk.obs s.abs := obsV_eq (HandSHeadRun.getT_eq s)
theorem run (w : World) : HandSHeadRun.RunEq R (PySem.W.view R.prog [57]) hk ob 20000 loose w := by
  intro os
  kernel_rfl
end Hd

namespace VL
open PySem PySem.Spec PyProof.Rows L2
local macro_rules
  | `(tactic| wtm_at "r") => `(tactic| first
    | (with_reducible refine And.intro True.intro ?_)
    | (with_reducible refine brT ?_) | (with_reducible refine brF ?_)
    | ((with_reducible refine brIf true ?_ ?_); · exact rfl) | ((with_reducible refine brIf false ?_ ?_); · exact rfl)
    | ((with_reducible refine And.intro ?_ ?_); · (first | exact True.intro | ((with_reducible refine small6 ?_); first | decide | omega | (simp only [app_len]; omega) | (simp; done) | (simp; omega)) | ((with_reducible refine small6Lt ?_); first | decide | omega | (simp; done) | (simp; omega)) | ((with_reducible refine log2_small ?_ ?_) <;> omega) | ((refine ⟨by decide +kernel, ?_⟩); (try dsimp only); (with_reducible refine small6 ?_); omega) | exact rfl | exact ⟨rfl, rfl⟩ | exact ⟨rfl, rfl, rfl⟩ | omega | (refine Or.inl ⟨?_, ?_⟩ <;> omega) | (refine Or.inr ⟨?_, ?_⟩ <;> omega) | (dsimp only; omega) | exact Nat.le_of_ble_eq_true rfl | exact lit_l (by omega) (by decide +kernel) | exact lit_l (by decide +kernel) (by omega) | (unfold CDiv; omega) | (unfold CPow; omega))))
local macro_rules
  | `(tactic| wtm_at "s") => `(tactic| first | wtm_at "r" | ((conv => whnf); wtm_at "r"))

theorem ixL {mu : Mu} {n : Nat} {xs : List D} {i : Int} {d : D} (h : mu[n]? = some (.lst xs)) (e : atI xs i = some d) : ixD mu (.loc n) (.int i) = some (True, d) := by
  simp only [ixD, seqOf, h, e]
theorem putL {m : Mu} {n : Nat} {xs : List D} {k : Int} {j : Nat} {d : D} (h : m[n]? = some (.lst xs)) (e : ixN xs.length k = some j) : putO m (.loc n) (.int k) d = some (m.set n (.lst (xs.set j d))) := by
  simp only [putO, h, e]
def s_law_draw : SpD := spW 1 fun p m as_ R_ => ∃ (n : Int), as_ = [.int n] ∧ (0 < n) ∧ (n < 1073741824) ∧ R_ = (fun d_ => ∃ (k : Int), d_ = .int k ∧ (0 ≤ k) ∧ (k < n))
theorem call_law_draw {n : Int} {p : Nat} {mu m : Mu} {Q : KD} {E : EdF} (pp : PP p mu m) (hP : hasP p mu) (h3 : 0 < n) (h4 : n < 1073741824) (kk_ : ∀ (k : Int) m', (0 ≤ k) → (k < n) → PP p mu m' → Q (.int k) m') : s_law_draw (.loc p :: [.int n]) m Q E := spW_at ⟨_, rfl, h3, h4, rfl⟩ rfl pp hP (fun d_ m' ⟨k, e_, a, b⟩ pp => by rw [e_]; exact kk_ k m' a b pp)
def t_law_draw (Ed : EdT) : TSd :=
  sSeq (sPar 2 3 (dCons (dBin fIx (dVar 0) (dC (.int 1))) (dCons (dBin fAdd (dBin fMod (dB (gOf intD) (dCons (dBin fIx (dVar 0) (dC (.int 1))) (dNil))) (dC (.int 40009))) (dC (.int 20021))) (dNil)))) (sSeq (sAsg (dBin fAdd (dBin fIx (dVar 0) (dC (.int 2))) (dC (.int 1))) (putD (dVar 0) (dC (.int 2)))) (sSeq (sAsg (dBin fMod (dB (gOf intD) (dCons (dBin fAdd (dBin fAdd (dBin fMul (dVar 2) (dVar 3)) (dBin fMul (dC (.int 60013)) (dBin fIx (dVar 0) (dC (.int 2))))) (dC (.int 11))) (dNil))) (dC (.int 2147483629))) (putD (dVar 0) (dC (.int 1)))) (sSeq (sIf (dTest (dBin fGt (dBin fIx (dVar 0) (dC (.int 0))) (dC (.int 0)))) (sSeq (sAsg (dB (gOf divmodD) (dCons (dBin fIx (dVar 0) (dC (.int 0))) (dCons (dVar 1) (dNil)))) (kSeq 2 (kCons (putD (dVar 0) (dC (.int 0))) (kCons (kName 4) (kNil))))) (sRet (dVar 4))) (sNext)) (sRet (dBin fMod (dB (gOf intD) (dCons (dBin fFdiv (dBin fIx (dVar 0) (dC (.int 1))) (dC (.int 89))) (dNil))) (dVar 1))))))
abbrev N_law_draw : List Str := ["_law_purse_here", "_law_size", "_law_seed", "_law_by", "_law_digit"]
theorem gs_law_draw : GoodSp s_law_draw := spW_good
theorem len_law_draw : ∀ ds mu Q E, s_law_draw ds mu Q E → ds.length = 2 := spW_len
theorem p_law_draw : ∀ ds mu Q E, lowL mu.length mu = true → lowL mu.length ds = true → s_law_draw ds mu Q E → t_law_draw (fun _ c fs m => E c fs m) (endD mu.length Q) (startD N_law_draw ds) mu := by
  intro ds mu Q E l1 l2 h
  obtain ⟨p, _, _, rfl, ⟨n, rfl, h3, h4, rfl⟩, hP, hR0⟩ := spW_of h
  have hR : ∀ (k : Int) m, (0 ≤ k) → (k < n) → PP p mu m → Q (.int k) m := fun k m a b pp => hR0 _ m ⟨k, rfl, a, b⟩ pp
  have pp := PP.refl hP
  obtain ⟨P, hp, x, s, c, rfl, h0, h1, h2⟩ := hP
  have hg1 : ∀ P', (mu.set p P')[p]? = some P' := fun P' => set_get hp
  have hs1 : 0 ≤ s % 40009 := Int.emod_nonneg _ (by decide)
  ((repeat (first | rw [ixL hp rfl] | rw [ixL (hg1 _) rfl] | rw [putL hp rfl] | rw [putL (hg1 _) rfl] | rw [List.set_set] | wtm_at "r" | ((conv => whnf); first | rw [ixL hp rfl] | rw [ixL (hg1 _) rfl] | rw [putL hp rfl] | rw [putL (hg1 _) rfl] | rw [List.set_set] | wtm_at "r"))); (try conv => whnf))
  generalize hw : s * (s % 40009 + 20021) + 60013 * (c + 1) + 11 = W
  have hW0 : 0 ≤ W % 2147483629 := Int.emod_nonneg _ (by decide)
  have hW1 : W % 2147483629 < 2147483629 := Int.emod_lt_of_pos _ (by decide)
  refine Br.by (fun hb => ?_) (fun hb => ?_)
  · have hb' : 0 < x := of_decide_eq_true hb
    have hx0 : 0 ≤ x / n := Int.ediv_nonneg h0 (by omega)
    ((repeat (first | rw [ixL (hg1 _) rfl] | rw [putL (hg1 _) rfl] | rw [List.set_set] | wtm_at "r" | ((conv => whnf); first | rw [ixL (hg1 _) rfl] | rw [putL (hg1 _) rfl] | rw [List.set_set] | wtm_at "r"))); (try conv => whnf))
    refine end_of (by rw [List.length_set]; exact Nat.le_refl _) (hR _ _ (Int.emod_nonneg _ (by omega)) (Int.emod_lt_of_pos _ h3) ?_)
    exact ⟨_, ⟨_, _, _, rfl, hx0, hW0, hW1⟩, rfl⟩
  · have hx0 : x = 0 := by
      have := of_decide_eq_false hb
      omega
    ((repeat (first | rw [ixL (hg1 _) rfl] | rw [putL (hg1 _) rfl] | rw [List.set_set] | wtm_at "r" | ((conv => whnf); first | rw [ixL (hg1 _) rfl] | rw [putL (hg1 _) rfl] | rw [List.set_set] | wtm_at "r"))); (try conv => whnf))
    refine end_of (by rw [List.length_set]; exact Nat.le_refl _) (hR _ _ (Int.emod_nonneg _ (by omega)) (Int.emod_lt_of_pos _ h3) ?_)
    exact ⟨_, ⟨_, _, _, rfl, h0, hW0, hW1⟩, rfl⟩
theorem lenS {mu : Mu} {d : D} {xs : List D} (h : seqOf mu d = some xs) : lenD mu [d] = some (True, .int xs.length) := by
  cases d <;> first | (simp only [lenD, h]; done) | (simp only [seqOf] at h; cases h)
theorem ixS {mu : Mu} {d y : D} {xs : List D} {i : Int} (h : seqOf mu d = some xs) (e : atI xs i = some y) : ixD mu d (.int i) = some (True, y) := by
  cases d <;> first | (simp only [ixD, h, e]; done) | (simp only [seqOf] at h; cases h)
theorem atI_nat {α : Type} {xs : List α} {i : Int} (h0 : 0 ≤ i) (h1 : i < xs.length) : ∃ y, atI xs i = some y ∧ y ∈ xs ∧ xs[i.toNat]? = some y := by
  have hn : i.toNat < xs.length := by omega
  refine ⟨xs[i.toNat], ?_, List.getElem_mem hn, List.getElem?_eq_getElem hn⟩
  unfold atI ixN
  rw [if_pos h0, if_pos h1]
  exact List.getElem?_eq_getElem hn
def s_law_pick : SpD := spW 1 fun p m as_ R_ => ∃ (l : D) (xs : List D), as_ = [l] ∧ (∀ m1, PP p m m1 → seqOf m1 l = some xs) ∧ (xs ≠ []) ∧ (xs.length < 1000000) ∧ R_ = (fun d_ => ∃ (d : D), d_ = d ∧ (d ∈ xs))
theorem call_law_pick {l : D} {xs : List D} {p : Nat} {mu m : Mu} {Q : KD} {E : EdF} (pp : PP p mu m) (hP : hasP p mu) (hl : ∀ m1, PP p m m1 → seqOf m1 l = some xs) (h1 : xs ≠ []) (h2 : xs.length < 1000000) (kk_ : ∀ (d : D) m', (d ∈ xs) → PP p mu m' → Q (d) m') : s_law_pick (.loc p :: [l]) m Q E := spW_at ⟨_, _, rfl, hl, h1, h2, rfl⟩ rfl pp hP (fun d_ m' ⟨d, e_, a⟩ pp => by rw [e_]; exact kk_ d m' a pp)
def t_law_pick (Ed : EdT) : TSd :=
  sRet (dBin fIx (dVar 1) (dCall s_law_draw Ed (dCons (dVar 0) (dCons (dB (gOf lenD) (dCons (dVar 1) (dNil))) (dNil)))))
abbrev N_law_pick : List Str := ["_law_purse_here", "_law_menu"]
theorem gs_law_pick : GoodSp s_law_pick := spW_good
theorem len_law_pick : ∀ ds mu Q E, s_law_pick ds mu Q E → ds.length = 2 := spW_len
theorem p_law_pick : ∀ ds mu Q E, lowL mu.length mu = true → lowL mu.length ds = true → s_law_pick ds mu Q E → t_law_pick (fun _ c fs m => E c fs m) (endD mu.length Q) (startD N_law_pick ds) mu := by
  intro ds mu Q E l1 l2 h
  obtain ⟨p, _, _, rfl, ⟨l, xs, rfl, hl, h1, h2, rfl⟩, hP, hR0⟩ := spW_of h
  have hR : ∀ (d : D) m, (d ∈ xs) → PP p mu m → Q (d) m := fun d m a pp => hR0 _ m ⟨d, rfl, a⟩ pp
  have pp := PP.refl hP
  have hpos : 0 < xs.length := List.length_pos_iff.mpr h1
  ((repeat wtm_at "s"); (try conv => whnf))
  rw [lenS (hl mu pp)]
  ((repeat wtm_at "s"); (try conv => whnf))
  refine call_law_draw pp hP (by omega) (by omega) fun k m k0 k1 pp => ?_
  obtain ⟨y, e1, e2, _⟩ := atI_nat k0 k1
  ((repeat (first | rw [ixS (hl m pp) e1] | wtm_at "r" | ((conv => whnf); first | rw [ixS (hl m pp) e1] | wtm_at "r"))); (try conv => whnf))
  exact end_of pp.le (hR _ _ e2 pp)
theorem pick_fix {p : Nat} {m : Mu} {l : D} {xs : List D} (h : ∀ m1, seqOf m1 l = some xs) : ∀ m1, PP p m m1 → seqOf m1 l = some xs := fun m1 _ => h m1
def s_law_purse : SpD := spR 2 fun ds mu R => ∃ ns k, ds = [.scr ns, .int k] ∧ 0 ≤ k ∧ k < 100 ∧ R = fun d m => d = .loc mu.length ∧ ∃ P, isPurse P ∧ m = mu ++ [P]
def t_law_purse (Ed : EdT) : TSd :=
  sSeq (sIf (dTest (dBin fLt (dVar 1) (dB (gOf lenD) (dCons (dVar 0) (dNil))))) (sSeq (sAsg (dBin fIx (dVar 0) (dVar 1)) (kName 2)) (sSeq (sAsg (dIf (dOr (dTest (dBin fLt (dVar 2) (dC (.int 0)))) (dTest (dBin fGe (dVar 2) (dBin fPow (dC (.int 10)) (dC (.int 18)))))) (dB (gOf absD) (dCons (dVar 2) (dNil))) (dC (.int 0))) (kName 3)) (sRet (dLstM (dCons (dVar 3) (dCons (dBin fMod (dB (gOf intD) (dCons (dBin fAdd (dBin fAdd (dBin fMul (dVar 2) (dC (.int 39373))) (dBin fMul (dC (.int 104723)) (dVar 1))) (dC (.int 17))) (dNil))) (dC (.int 2147483629))) (dCons (dC (.int 0)) (dNil)))))))) (sNext)) (sSeq (sAsg (dBin fAdd (dBin fMul (dC (.int 86243)) (dVar 1)) (dC (.int 131))) (kName 4)) (sSeq (sFor (iSeq (dSl (dVar 0) (oNo) (oPart (dC (.int 4))))) (kName 2) (sAsg (dBin fMod (dB (gOf intD) (dCons (dBin fAdd (dBin fMul (dVar 4) (dC (.int 48271))) (dVar 2)) (dNil))) (dC (.int 2147483587))) (kName 4))) (sRet (dLstM (dCons (dC (.int 0)) (dCons (dVar 4) (dCons (dC (.int 0)) (dNil))))))))
abbrev N_law_purse : List Str := ["_law_script", "_law_k", "_law_cell", "_law_digits", "_law_seed"]
theorem gs_law_purse : GoodSp s_law_purse := spR_good
theorem len_law_purse : ∀ ds mu Q E, s_law_purse ds mu Q E → ds.length = 2 := spR_len
theorem p_law_purse : ∀ ds mu Q E, lowL mu.length mu = true → lowL mu.length ds = true → s_law_purse ds mu Q E → t_law_purse (fun _ c fs m => E c fs m) (endD mu.length Q) (startD N_law_purse ds) mu := by
  intro ds mu Q E l1 l2 h
  obtain ⟨R, ⟨ns, k, rfl, h0, h1, rfl⟩, hR⟩ := spR_of h
  have hR2 : ∀ x s c, 0 ≤ x → 0 ≤ s → s < 2147483629 → Q (.loc mu.length) (mu ++ [.lst [.int x, .int s, .int c]]) := fun x s c a b e => hR _ _ ⟨rfl, _, ⟨x, s, c, rfl, a, b, e⟩, rfl⟩
  ((repeat wtm_at "s"); (try conv => whnf))
  refine Br.by (fun hb => ?_) (fun hb => ?_)
  · have hb2 : k < ((ns.map D.int).length : Nat) := of_decide_eq_true hb
    obtain ⟨y, e1, e2, _⟩ := atI_nat h0 hb2
    obtain ⟨c, _, rfl⟩ := List.mem_map.mp e2
    ((repeat (first | rw [ixS (d := .scr ns) (xs := ns.map D.int) rfl e1] | wtm_at "r" | ((conv => whnf); first | rw [ixS (d := .scr ns) (xs := ns.map D.int) rfl e1] | wtm_at "r"))); (try conv => whnf))
    have hw0 : 0 ≤ (c * 39373 + 104723 * k + 17) % 2147483629 := Int.emod_nonneg _ (by decide)
    have hw1 : (c * 39373 + 104723 * k + 17) % 2147483629 < 2147483629 := Int.emod_lt_of_pos _ (by decide)
    have fin : ∀ x, 0 ≤ x → ∃ d' m', Frz (mu ++ [.lst [.int x, .int ((c * 39373 + 104723 * k + 17) % 2147483629), .int 0]]) (.loc mu.length) m' d' ∧ mu.length ≤ List.length m' ∧ Q d' m' := fun x hx => end_of (by simp) (hR2 x _ 0 hx hw0 hw1)
    refine Br.by (fun hc => ?_) (fun hc => ?_)
    · have hc2 : c < 0 := of_decide_eq_true hc
      ((repeat wtm_at "s"); (try conv => whnf))
      exact fin (if c < 0 then -c else c) (by split <;> omega)
    · ((repeat wtm_at "s"); (try conv => whnf))
      refine Br.by (fun hd => ?_) (fun hd => ?_)
      · ((repeat wtm_at "s"); (try conv => whnf))
        exact fin (if c < 0 then -c else c) (by split <;> omega)
      · ((repeat wtm_at "s"); (try conv => whnf))
        exact fin 0 (by decide)
  · ((repeat wtm_at "s"); (try conv => whnf))
    refine forD_by (fun ds dl m => m = mu ∧ (∀ d ∈ ds, ∃ i, d = .int i) ∧ ∃ c s, dl = [some (.scr ns), some (.int k), c, none, some (.int s)] ∧ 0 ≤ s ∧ s < 2147483629) ?_ ?_ _ _ _ ⟨rfl, fun d hd => ?_, none, 86243 * k + 131, rfl, by omega, by omega⟩
    · rintro dl m ⟨rfl, _, c, s, rfl, a, b⟩
      refine ⟨rfl, ?_⟩
      ((repeat wtm_at "s"); (try conv => whnf))
      exact end_of (by simp) (hR2 0 s 0 (by decide) a b)
    · rintro d ds dl m ⟨rfl, hd, c, s, rfl, a, b⟩ n hn
      obtain ⟨i, rfl⟩ := hd d (by simp)
      refine ⟨rfl, ?_⟩
      ((repeat wtm_at "s"); (try conv => whnf))
      have hw := Int.emod_lt_of_pos (s * 48271 + i) (show (0 : Int) < 2147483587 by decide)
      exact hn _ _ ⟨rfl, fun d h => hd d (List.mem_cons_of_mem _ h), _, _, rfl, Int.emod_nonneg _ (by decide), by omega⟩
    · unfold cutD at hd
      obtain ⟨i, _, e⟩ := List.mem_map.mp (List.mem_of_mem_drop (List.mem_of_mem_take hd))
      exact ⟨i, e.symm⟩
theorem call_law_purse {ns : List Int} {k : Int} {mu : Mu} {Q : KD} {E : EdF} (h0 : 0 ≤ k) (h1 : k < 100) (h : ∀ P, isPurse P → Q (.loc mu.length) (mu ++ [P])) : s_law_purse [.scr ns, .int k] mu Q E :=
  spR_at ⟨ns, k, rfl, h0, h1, rfl⟩ rfl fun d m ⟨e, P, hP, em⟩ => by
    rw [e, em]
    exact h P hP
open TL
/-! ### names -/
def letB (c : Nat) : Bool := decide (97 ≤ c) && decide (c ≤ 122)
def digB (c : Nat) : Bool := decide (48 ≤ c) && decide (c ≤ 57)
def alnB (c : Nat) : Bool := letB c || digB c
def labL : List Nat → Bool
  | [] => false
  | c :: r => letB c && (r.all alnB && decide (r.length ≤ 7))
def labB (z : Str) : Bool := labL (tl z)
def labD : D → Bool
  | .str z => labB z
  | _ => false
theorem labL_len : ∀ {l : List Nat}, labL l = true → l.length ≤ 8
  | [], _ => by simp
  | c :: r, h => by
    simp only [labL, Bool.and_eq_true, decide_eq_true_eq] at h
    simp only [List.length_cons]
    omega
theorem lab_len {z : Str} (h : labB z = true) : z.length ≤ 8 := by
  rw [len_tl]
  exact labL_len h
theorem labL_aln : ∀ {l : List Nat}, labL l = true → ∀ c ∈ l, alnB c = true
  | [], _, c, hc => by simp at hc
  | a :: r, h, c, hc => by
    simp only [labL, Bool.and_eq_true, decide_eq_true_eq, List.all_eq_true] at h
    rcases List.mem_cons.mp hc with e | hc
    · rw [e]; unfold alnB; rw [h.1]; rfl
    · exact h.2.1 c hc
theorem labL_take {l s : List Nat} {n : Nat} (h : labL l = true) (hs : ∀ c ∈ s, alnB c = true) (h0 : 1 ≤ n) (hn : n ≤ 8) : labL ((l ++ s).take n) = true := by
  cases l with
  | nil => cases h
  | cons a r =>
    cases n with
    | zero => omega
    | succ n =>
      simp only [labL, List.cons_append, List.take_succ_cons, Bool.and_eq_true, decide_eq_true_eq, List.all_eq_true] at h ⊢
      refine ⟨h.1, fun c hc => ?_, ?_⟩
      · rcases List.mem_append.mp (List.mem_of_mem_take hc) with z | z
        · exact h.2.1 c z
        · exact hs c z
      · have := List.length_take_le n (r ++ s)
        omega
theorem labL_app {l s : List Nat} (h : labL l = true) (hs : ∀ c ∈ s, alnB c = true) (hl : l.length + s.length ≤ 8) : labL (l ++ s) = true := by
  have h1 := labL_take (n := 8) h hs (by decide) (by decide)
  rwa [List.take_of_length_le (by rw [List.length_append]; exact hl)] at h1
theorem tl_one (c : Nat) : tl ⟨#[c]⟩ = [c] := rfl
theorem ixT {mu : Mu} {z : Str} {i : Int} {c : Nat} (e : atI z.cps.toList i = some c) : ixD mu (.str z) (.int i) = some (z.length ≤ sizeLine, .str ⟨#[c]⟩) := by
  simp only [ixD, e]
abbrev abcS : Str := "abcdefghijklmnopqrstuvwxyz"
abbrev alnS : Str := "abcdefghijklmnopqrstuvwxyz" ++ "0123456789"
theorem abc_let : ∀ c ∈ abcS.cps.toList, letB c = true := by decide +kernel
theorem aln_let : ∀ c ∈ alnS.cps.toList, alnB c = true := by decide +kernel
theorem abc_len : abcS.cps.toList.length = 26 := by decide +kernel
theorem aln_len : alnS.cps.toList.length = 36 := by decide +kernel
def wordsD : List D := [.str "and", .str "grades", .str "points", .str "better", .str "upto", .str "members", .str "all", .str "a", .str "an", .str "andand"]
theorem words_lab : ∀ d ∈ wordsD, labD d = true := by
  intro d hd
  have h : wordsD.all labD = true := by decide +kernel
  exact List.all_eq_true.mp h d hd
def s_law_label : SpD := spW 0 fun p m as_ R_ => as_ = [] ∧ R_ = (fun d_ => ∃ (z : Str), d_ = .str z ∧ (labB z = true))
theorem call_law_label  {p : Nat} {mu m : Mu} {Q : KD} {E : EdF} (pp : PP p mu m) (hP : hasP p mu) (kk_ : ∀ (z : Str) m', (labB z = true) → PP p mu m' → Q (.str z) m') : s_law_label (.loc p :: []) m Q E := spW_at ⟨rfl, rfl⟩ rfl pp hP (fun d_ m' ⟨z, e_, a⟩ pp => by rw [e_]; exact kk_ z m' a pp)
def t_law_label (Ed : EdT) : TSd :=
  sSeq (sIf (dTest (dBin fEq (dCall s_law_draw Ed (dCons (dVar 0) (dCons (dC (.int 5)) (dNil)))) (dC (.int 0)))) (sRet (dCall s_law_pick Ed (dCons (dVar 0) (dCons (dLst (dCons (dC (.str "and")) (dCons (dC (.str "grades")) (dCons (dC (.str "points")) (dCons (dC (.str "better")) (dCons (dC (.str "upto")) (dCons (dC (.str "members")) (dCons (dC (.str "all")) (dCons (dC (.str "a")) (dCons (dC (.str "an")) (dCons (dC (.str "andand")) (dNil)))))))))))) (dNil))))) (sNext)) (sSeq (sAsg (dC (.str "abcdefghijklmnopqrstuvwxyz")) (kName 1)) (sSeq (sAsg (dBin fIx (dVar 1) (dCall s_law_draw Ed (dCons (dVar 0) (dCons (dC (.int 26)) (dNil))))) (kName 2)) (sSeq (sFor (iRng1 (dCons (dCall s_law_draw Ed (dCons (dVar 0) (dCons (dC (.int 8)) (dNil)))) (dNil))) (kName 3) (sAsg (dBin fAdd (dVar 2) (dBin fIx (dBin fAdd (dVar 1) (dC (.str "0123456789"))) (dCall s_law_draw Ed (dCons (dVar 0) (dCons (dC (.int 36)) (dNil)))))) (kName 2))) (sRet (dVar 2)))))
abbrev N_law_label : List Str := ["_law_purse_here", "_law_letters", "_law_found", "_law_k"]
theorem gs_law_label : GoodSp s_law_label := spW_good
theorem len_law_label : ∀ ds mu Q E, s_law_label ds mu Q E → ds.length = 1 := spW_len
theorem p_law_label : ∀ ds mu Q E, lowL mu.length mu = true → lowL mu.length ds = true → s_law_label ds mu Q E → t_law_label (fun _ c fs m => E c fs m) (endD mu.length Q) (startD N_law_label ds) mu := by
  intro ds mu Q E l1 l2 h
  obtain ⟨p, _, _, rfl, ⟨rfl, rfl⟩, hP, hR0⟩ := spW_of h
  have hR : ∀ (z : Str) m, (labB z = true) → PP p mu m → Q (.str z) m := fun z m a pp => hR0 _ m ⟨z, rfl, a⟩ pp
  have pp := PP.refl hP
  ((repeat wtm_at "s"); (try conv => whnf))
  refine call_law_draw (n := 5) pp hP (by decide) (by decide) fun k1 m1 a1 b1 pp => ?_
  ((repeat wtm_at "s"); (try conv => whnf))
  refine Br.by (fun hb => ?_) (fun hb => ?_)
  · ((repeat wtm_at "s"); (try conv => whnf))
    refine call_law_pick (xs := wordsD) pp hP (fun _ _ => rfl) (by decide) (by decide) fun d m2 hd pp => ?_
    have hl := words_lab d hd
    cases d with
    | str z => exact end_of pp.le (hR z m2 hl pp)
    | _ => cases hl
  · ((repeat wtm_at "s"); (try conv => whnf))
    refine call_law_draw (n := 26) pp hP (by decide) (by decide) fun k2 m2 a2 b2 pp => ?_
    obtain ⟨c, e1, e2, _⟩ := atI_nat (xs := abcS.cps.toList) a2 (by rw [abc_len]; exact b2)
    ((repeat (first | rw [ixT e1] | wtm_at "r" | ((conv => whnf); first | rw [ixT e1] | wtm_at "r"))); (try conv => whnf))
    refine call_law_draw (n := 8) pp hP (by decide) (by decide) fun k3 m3 a3 b3 pp => ?_
    ((repeat wtm_at "s"); (try conv => whnf))
    refine forD_by (fun ds dl m => PP p mu m ∧ ∃ z kk, dl = [some (.loc p), some (.str abcS), some (.str z), kk] ∧ labB z = true ∧ z.length + ds.length ≤ 8) ?_ ?_ _ _ _ ⟨pp, ⟨#[c]⟩, none, rfl, ?_, ?_⟩
    · rintro dl m ⟨pp, z, kk, rfl, hz, _⟩
      refine ⟨trivial, ?_⟩
      ((repeat wtm_at "s"); (try conv => whnf))
      exact end_of pp.le (hR z m hz pp)
    · rintro d ds dl m ⟨pp, z, kk, rfl, hz, hl⟩ n hn
      rw [List.length_cons] at hl
      refine ⟨trivial, ?_⟩
      ((repeat wtm_at "s"); (try conv => whnf))
      refine call_law_draw (n := 36) pp hP (by decide) (by decide) fun k4 m4 a4 b4 pp => ?_
      obtain ⟨c4, f1, f2, _⟩ := atI_nat (xs := alnS.cps.toList) a4 (by rw [aln_len]; exact b4)
      ((repeat (first | rw [ixT f1] | wtm_at "r" | ((conv => whnf); first | rw [ixT f1] | wtm_at "r"))); (try conv => whnf))
      refine And.intro (small (by show z.length + 1 ≤ 100000; omega)) ?_
      ((repeat wtm_at "s"); (try conv => whnf))
      refine hn _ _ ⟨pp, z ++ ⟨#[c4]⟩, _, rfl, ?_, ?_⟩
      · unfold labB
        rw [tl_append]
        exact labL_app hz (fun q hq => by rw [List.mem_singleton.mp hq]; exact aln_let c4 f2) (by rw [← len_tl]; show z.length + 1 ≤ 8; omega)
      · rw [app_len]
        show z.length + 1 + _ ≤ 8
        omega
    · show labL [c] = true
      simp only [labL, List.all_nil, List.length_nil, abc_let c e2]
      rfl
    · have e : (rngD 0 k3.toNat).length = k3.toNat := by simp [rngD]
      show 1 + _ ≤ 8
      omega
open TL
def strsD (zs : List Str) : List D := zs.map D.str
theorem flat_strs : ∀ zs : List Str, (strsD zs).all flatD = true
  | [] => rfl
  | z :: r => by
    show (true && _) = true
    rw [Bool.true_and]
    exact flat_strs r
theorem any_strs (z : Str) : ∀ zs : List Str, ((strsD zs).any fun y => eqF y (.str z)) = decide (z ∈ zs)
  | [] => rfl
  | a :: r => by
    have ih := any_strs z r
    show (decide (a = z) || ((strsD r).any fun y => eqF y (.str z))) = _
    rw [ih]
    by_cases h : a = z
    · rw [decide_eq_true h, Bool.true_or, decide_eq_true (by rw [h]; exact List.mem_cons_self)]
    · rw [decide_eq_false h, Bool.false_or]
      by_cases h2 : z ∈ r
      · rw [decide_eq_true h2, decide_eq_true (List.mem_cons_of_mem _ h2)]
      · rw [decide_eq_false h2, decide_eq_false (fun q => (List.mem_cons.mp q).elim (fun e => h e.symm) h2)]
theorem inD_strs {mu : Mu} {z : Str} {d : D} {zs : List Str} (h : seqOf mu d = some (strsD zs)) : inD mu (.str z) d = some (True, decide (z ∈ zs)) := by
  rw [← any_strs, ← eq_true (show flatD (.str z) = true ∧ (strsD zs).all flatD = true from ⟨rfl, flat_strs zs⟩)]
  unfold inD
  cases d <;> first | (simp only [h]; done) | (simp only [seqOf] at h; cases h)
theorem in_strs {mu : Mu} {z : Str} {d : D} {zs : List Str} (h : seqOf mu d = some (strsD zs)) : inO0 mu (.str z) d = some (True, .bl (decide (z ∈ zs))) := by
  unfold inO0
  rw [inD_strs h]
theorem nin_strs {mu : Mu} {z : Str} {d : D} {zs : List Str} (h : seqOf mu d = some (strsD zs)) : inO1 mu (.str z) d = some (True, .bl (!decide (z ∈ zs))) := by
  unfold inO1
  rw [inD_strs h]
theorem strs_mem {zs : List Str} {d : D} (h : d ∈ strsD zs) : ∃ z ∈ zs, d = .str z := by
  obtain ⟨z, h1, h2⟩ := List.mem_map.mp h
  exact ⟨z, h1, h2.symm⟩
theorem nodup_le {α : Type} [DecidableEq α] : ∀ (xs ys : List α), xs.Nodup → (∀ x ∈ xs, x ∈ ys) → xs.length ≤ ys.length
  | [], ys, _, _ => Nat.zero_le _
  | x :: r, ys, nd, h => by
    rw [List.nodup_cons] at nd
    have hx : x ∈ ys := h x (by simp)
    have h1 := nodup_le r (ys.erase x) nd.2 fun y hy => (List.mem_erase_of_ne (fun e => nd.1 (by rw [← e]; exact hy))).mpr (h y (by simp [hy]))
    have h2 := List.length_erase_of_mem hx
    have h3 : 0 < ys.length := List.length_pos_of_mem hx
    rw [List.length_cons]
    omega
abbrev numS (n : Nat) : Str := Str.ofString (toString ((n : Nat) : Int))
theorem numL_aln (n : Nat) : ∀ c ∈ numL n, alnB c = true := fun c hc => by
  have h := numL_digits n c hc
  unfold alnB digB
  rw [decide_eq_true h.1, decide_eq_true h.2]
  simp
theorem cut_tl (z : Str) (n : Nat) : tl (cutS z none (some ((n : Nat) : Int))) = (tl z).take n := by
  unfold cutS
  rw [tl_mk, HT.sIx_none, HT.sIx_nat, List.drop_zero, Nat.sub_zero]
  rw [len_tl, List.take_eq_take_iff, Nat.min_assoc, Nat.min_self]
/-- what stands in for a name that is taken -/
def spareS (z : Str) (j : Nat) : Str := cutS z none (some 6) ++ numS (10 + j)
theorem spare_lab {z : Str} {j : Nat} (h : labB z = true) (hj : j < 90) : labB (spareS z j) = true := by
  unfold labB spareS
  rw [tl_append, show (some (6 : Int)) = some ((6 : Nat) : Int) from rfl, cut_tl, tl_num]
  have h1 := labL_take (s := []) (n := 6) h (fun _ q => by simp at q) (by decide) (by decide)
  rw [List.append_nil] at h1
  refine labL_app h1 (numL_aln _) ?_
  have h2 := numL_len (n := 10 + j) (k := 2) (by decide) (by omega)
  have h3 := List.length_take_le 6 (tl z)
  omega
theorem spare_inj {z : Str} {i j : Nat} (h : spareS z i = spareS z j) : i = j := by
  unfold spareS at h
  have h1 := congrArg tl h
  rw [tl_append, tl_append, tl_num, tl_num] at h1
  have h2 := numL_inj (List.append_cancel_left h1)
  omega
def spareL (z : Str) (n : Nat) : List Str := z :: (List.range n).map (spareS z)
theorem spare_nodup (z : Str) (n : Nat) : ((List.range n).map (spareS z)).Nodup := by
  rw [List.Nodup, List.pairwise_map]
  exact List.Pairwise.imp (fun h e => h (spare_inj e)) List.nodup_range
theorem spare_free {z : Str} {n : Nat} {zs : List Str} (h : zs.length < n) : ∃ y r, (spareL z n).filter (fun x => !decide (x ∈ zs)) = y :: r := by
  cases e : (spareL z n).filter (fun x => !decide (x ∈ zs)) with
  | cons y r => exact ⟨y, r, rfl⟩
  | nil =>
    exfalso
    rw [List.filter_eq_nil_iff] at e
    have h1 := nodup_le _ zs (spare_nodup z n) fun x hx => by
      have := e x (List.mem_cons_of_mem _ hx)
      simpa using this
    rw [List.length_map, List.length_range] at h1
    omega
theorem spare_all {z : Str} {n : Nat} (h : labB z = true) (hn : n ≤ 90) : ∀ x ∈ spareL z n, labB x = true := by
  intro x hx
  rcases List.mem_cons.mp hx with e | hx
  · rw [e]; exact h
  · obtain ⟨j, hj, rfl⟩ := List.mem_map.mp hx
    exact spare_lab h (by have := List.mem_range.mp hj; omega)
theorem app_get (mu : Mu) (d : D) : (mu ++ [d])[mu.length]? = some d := by simp
theorem app_set (mu : Mu) (d e : D) : (mu ++ [d]).set mu.length e = mu ++ [e] := by simp
theorem at_zero {x : D} {r : List D} : atI (x :: r) 0 = some x := by
  unfold atI ixN
  rw [if_pos (by decide), if_pos (by simp only [List.length_cons]; omega)]
  rfl
theorem asL_seq {m : Mu} {n : Nat} {xs : List D} (h : m[n]? = some (.lst xs)) : seqOf m (.loc n) = some xs := by simp only [seqOf, h]
theorem low_strs (n : Nat) : ∀ zs : List Str, lowL n (strsD zs) = true
  | [] => rfl
  | z :: r => by
    show (true && _) = true
    rw [Bool.true_and]
    exact low_strs n r
theorem rng_cons (lo : Int) (n : Nat) : rngD lo (n + 1) = .int lo :: rngD (lo + 1) n := by
  unfold rngD
  rw [List.range_succ_eq_map, List.map_cons, List.map_map]
  congr 1
  · simp
  · apply List.map_congr_left
    intro a _
    show D.int _ = D.int _
    congr 1
    show lo + ((a + 1 : Nat) : Int) = _
    omega
theorem tails_ok : ∀ d ∈ [D.str "x", D.str "0", D.str "b", D.str "9z"], ∃ w, d = .str w ∧ w.length ≤ 2 ∧ ∀ c ∈ tl w, alnB c = true := by
  intro d hd
  simp only [List.mem_cons, List.not_mem_nil, or_false] at hd
  rcases hd with rfl | rfl | rfl | rfl
  all_goals exact ⟨_, rfl, by decide +kernel, by decide +kernel⟩
theorem join2 {α β : Type} {G : Prop} {C : α → β → Prop} (K : α → β → Prop) (main : (∀ a b, C a b → K a b) → G) (rest : ∀ a b, C a b → K a b) : G := main rest
def s_law_labels : SpD := spW 1 fun p m as_ R_ => ∃ (n : Nat), as_ = [.int n] ∧ (1 ≤ n) ∧ (n ≤ 6) ∧ R_ = (fun d_ => ∃ (zs : List Str), d_ = .lst (strsD zs) ∧ (zs.length = n) ∧ (∀ z ∈ zs, labB z = true) ∧ (zs.Nodup))
theorem call_law_labels {n : Nat} {p : Nat} {mu m : Mu} {Q : KD} {E : EdF} (pp : PP p mu m) (hP : hasP p mu) (h0 : 1 ≤ n) (h1 : n ≤ 6) (kk_ : ∀ (zs : List Str) m', (zs.length = n) → (∀ z ∈ zs, labB z = true) → (zs.Nodup) → PP p mu m' → Q (.lst (strsD zs)) m') : s_law_labels (.loc p :: [.int n]) m Q E := spW_at ⟨_, rfl, h0, h1, rfl⟩ rfl pp hP (fun d_ m' ⟨zs, e_, a, b, c⟩ pp => by rw [e_]; exact kk_ zs m' a b c pp)
def t_law_labels (Ed : EdT) : TSd :=
  sSeq (sAsg (dLstM (dNil)) (kName 2)) (sSeq (sFor (iRng1 (dCons (dVar 1) (dNil))) (kName 3) (sSeq (sAsg (dCall s_law_label Ed (dCons (dVar 0) (dNil))) (kName 4)) (sSeq (sIf (dAnd (dTest (dBin fGt (dVar 3) (dC (.int 0)))) (dTest (dBin fEq (dCall s_law_draw Ed (dCons (dVar 0) (dCons (dC (.int 3)) (dNil)))) (dC (.int 0))))) (sAsg (dSl (dBin fAdd (dCall s_law_pick Ed (dCons (dVar 0) (dCons (dVar 2) (dNil)))) (dCall s_law_pick Ed (dCons (dVar 0) (dCons (dLst (dCons (dC (.str "x")) (dCons (dC (.str "0")) (dCons (dC (.str "b")) (dCons (dC (.str "9z")) (dNil)))))) (dNil))))) (oNo) (oPart (dC (.int 8)))) (kName 4)) (sNext)) (sSeq (sAsg (dBin fAdd (dLst (dCons (dVar 4) (dNil))) (dLc (iRng1 (dCons (dVar 1) (dNil))) (kName 6) (dYes) (dBin fAdd (dSl (dVar 4) (oNo) (oPart (dC (.int 6)))) (dB (gOf strD) (dCons (dBin fAdd (dC (.int 10)) (dVar 6)) (dNil)))) [6])) (kName 5)) (sExpr (dApp (dVar 2) (dCons (dBin fIx (dLc (iSeq (dVar 5)) (kName 7) (dTest (dBin (fIn true) (dVar 7) (dVar 2))) (dVar 7) [7]) (dC (.int 0))) (dNil)))))))) (sRet (dVar 2)))
abbrev N_law_labels : List Str := ["_law_purse_here", "_law_many", "_law_found", "_law_k", "_law_label_here", "_law_spare", "_law_j", "_law_each"]
theorem gs_law_labels : GoodSp s_law_labels := spW_good
theorem len_law_labels : ∀ ds mu Q E, s_law_labels ds mu Q E → ds.length = 2 := spW_len
theorem p_law_labels : ∀ ds mu Q E, lowL mu.length mu = true → lowL mu.length ds = true → s_law_labels ds mu Q E → t_law_labels (fun _ c fs m => E c fs m) (endD mu.length Q) (startD N_law_labels ds) mu := by
  intro ds mu Q E l1 l2 h
  obtain ⟨p, _, _, rfl, ⟨n, rfl, h0, h1, rfl⟩, hP, hR0⟩ := spW_of h
  have hR : ∀ (zs : List Str) m, (zs.length = n) → (∀ z ∈ zs, labB z = true) → (zs.Nodup) → PP p mu m → Q (.lst (strsD zs)) m := fun zs m a b c pp => hR0 _ m ⟨zs, rfl, a, b, c⟩ pp
  have pp := PP.refl hP
  ((repeat wtm_at "s"); (try conv => whnf))
  have hlt := hP.lt
  rw [show (((n : Nat) : Int)).toNat = n from rfl]
  refine forD_by (fun ds dl m => ∃ zs kk lh sp, PP p (mu ++ [.lst (strsD zs)]) m ∧ dl = [some (.loc p), some (.int n), some (.loc mu.length), kk, lh, sp, none, none] ∧ ds = rngD zs.length (n - zs.length) ∧ zs.length ≤ n ∧ (∀ z ∈ zs, labB z = true) ∧ zs.Nodup) ?_ ?_ _ _ _ ⟨[], none, none, none, PP.refl hP.app, rfl, rfl, Nat.zero_le _, by simp, by simp⟩
  · rintro dl m ⟨zs, kk, lh, sp, pp, rfl, hd, hle, hl, hn⟩
    refine ⟨trivial, ?_⟩
    obtain ⟨m', pp', rfl⟩ := pp.app hP
    have hz : zs.length = n := by
      have h2 := congrArg List.length hd
      simp [rngD] at h2
      omega
    ((repeat wtm_at "s"); (try conv => whnf))
    refine ⟨.lst (strsD zs), m', ?_, pp'.le, hR _ _ hz hl hn pp'⟩
    rw [← pp'.len]
    refine Frz.lst ?_ (low_strs _ _)
    obtain ⟨P, ⟨x, s, c, rfl, _⟩, rfl⟩ := pp'
    rw [List.length_set]
    exact lowL_of fun d hd => by
      rcases List.mem_or_eq_of_mem_set hd with z | z
      · exact lowL_mem l1 d z
      · rw [z]; rfl
  · rintro d ds dl m ⟨zs, kk, lh, sp, pp, rfl, hd, hle, hl, hn⟩ nx hnx
    have hlt2 : zs.length < n := by
      have h2 := congrArg List.length hd
      simp [rngD] at h2
      omega
    rw [show n - zs.length = (n - (zs.length + 1)) + 1 by omega, rng_cons] at hd
    obtain ⟨rfl, rfl⟩ := List.cons.inj hd
    have hP2 : hasP p (mu ++ [.lst (strsD zs)]) := hP.app
    refine ⟨trivial, ?_⟩
    refine' join2 (C := fun (z : Str) (m : Mu) => labB z = true ∧ PP p (mu ++ [.lst (strsD zs)]) m) _ (fun rest => ?_) ?_
    rotate_left
    · ((repeat wtm_at "s"); (try conv => whnf))
      refine call_law_label pp hP2 fun z m2 hz pp => ?_
      ((repeat wtm_at "s"); (try conv => whnf))
      refine Br.by (fun hb => ?_) (fun hb => ?_)
      rotate_left
      · ((repeat wtm_at "s"); (try conv => whnf))
        exact rest z m2 ⟨hz, pp⟩
      · ((repeat wtm_at "s"); (try conv => whnf))
        refine call_law_draw (n := 3) pp hP2 (by decide) (by decide) fun k3 m3 a3 b3 pp => ?_
        ((repeat wtm_at "s"); (try conv => whnf))
        refine Br.by (fun hc => ?_) (fun hc => ?_)
        rotate_left
        · ((repeat wtm_at "s"); (try conv => whnf))
          exact rest z m3 ⟨hz, pp⟩
        · ((repeat wtm_at "s"); (try conv => whnf))
          refine call_law_pick (xs := strsD zs) pp hP2 (fun m4 pp4 => asL_seq ?_) ?_ ?_ fun d m4 hd pp => ?_
          · rw [(pp.trans pp4).get (by omega)]
            exact app_get _ _
          · intro e
            have : zs = [] := by simpa [strsD] using e
            rw [this] at hb
            cases hb
          · simp only [strsD, List.length_map]
            omega
          · obtain ⟨y, hy, rfl⟩ := strs_mem hd
            ((repeat wtm_at "s"); (try conv => whnf))
            refine call_law_pick (xs := [.str "x", .str "0", .str "b", .str "9z"]) pp hP2 (fun _ _ => rfl) (by decide) (by decide) fun d m5 hd5 pp => ?_
            obtain ⟨w, rfl, hw1, hw2⟩ := tails_ok d hd5
            have hy8 := lab_len (hl y hy)
            ((repeat wtm_at "s"); (try conv => whnf))
            refine rest _ m5 ⟨?_, pp⟩
            show labL (tl (cutS (y ++ w) none (some ((8 : Nat) : Int)))) = true
            rw [cut_tl, tl_append]
            exact labL_take (hl y hy) hw2 (by decide) (by decide)
    · rintro z m ⟨hz, pp⟩
      have hz8 := lab_len hz
      have hm : m[mu.length]? = some (.lst (strsD zs)) := by
        rw [pp.get (by omega)]
        exact app_get _ _
      have ha : asL1 m (.loc mu.length) = some (strsD zs) := by simp only [asL1, hm]
      have hzl : (strsD zs).length = zs.length := by simp [strsD]
      refine lc_map (List.range n) (fun i => .int (0 + (i : Nat))) (fun j => .str (spareS z j)) trivial (by rw [List.length_range]; omega) (fun j hj nn hn => ?_) ?_
      · have hj2 := List.mem_range.mp hj
        have h6 : (cutS z none (some 6)).length ≤ z.length := cutS_length z none (some 6)
        have e : (10 + (0 + (j : Int))) = ((10 + j : Nat) : Int) := by omega
        have h2 := numL_len (n := 10 + j) (k := 2) (by decide) (by omega)
        have h3 : (Str.ofString (toString ((10 + j : Nat) : Int))).length = (numL (10 + j)).length := by rw [len_tl, tl_num]
        ((repeat (first | rw [e] | wtm_at "r" | ((conv => whnf); first | rw [e] | wtm_at "r"))); (try conv => whnf))
        exact hn
      · have e5 : [D.str z] ++ List.map (fun j => D.str (spareS z j)) (List.range n) = strsD (spareL z n) := by
          simp [spareL, strsD, Function.comp_def]
        ((repeat (first | rw [ha] | rw [e5] | wtm_at "r" | ((conv => whnf); first | rw [ha] | rw [e5] | wtm_at "r"))); (try conv => whnf))
        refine lc_pure (spareL z n) D.str (fun x => !decide (x ∈ zs)) D.str rfl (by simp [spareL]; omega) (fun x hx nn n2 hn hn2 => ?_) ?_
        · ((repeat (first | rw [nin_strs (asL_seq hm)] | wtm_at "r" | ((conv => whnf); first | rw [nin_strs (asL_seq hm)] | wtm_at "r"))); (try conv => whnf))
          refine Br.by (fun hb => ?_) (fun hb => ?_)
          · ((repeat wtm_at "s"); (try conv => whnf))
            exact hn hb
          · exact hn2 hb
        · obtain ⟨y, r, e⟩ := spare_free (z := z) hlt2
          have hy : y ∈ (spareL z n).filter (fun x => !decide (x ∈ zs)) := by rw [e]; simp
          have hy2 := List.mem_filter.mp hy
          have hny : y ∉ zs := by simpa using hy2.2
          rw [e]
          have happ : appO m (.loc mu.length) [.str y] = some ((strsD zs).length < sizeLine, m.set mu.length (.lst (strsD zs ++ [.str y]))) := by simp only [appO, hm]
          ((repeat (first | rw [ixS (xs := D.str y :: List.map D.str r) rfl at_zero] | rw [happ] | wtm_at "r" | ((conv => whnf); first | rw [ixS (xs := D.str y :: List.map D.str r) rfl at_zero] | rw [happ] | wtm_at "r"))); (try conv => whnf))
          obtain ⟨m', pp', rfl⟩ := pp.app hP
          refine hnx _ _ ⟨zs ++ [y], _, _, _, ?_, rfl, ?_, ?_, ?_, ?_⟩
          · rw [← pp'.len, app_set]
            have := PP.appR [D.lst (strsD (zs ++ [y]))] hP pp'
            unfold strsD at this ⊢
            rw [List.map_append] at this ⊢
            exact this
          · rw [List.length_append]
            rfl
          · rw [List.length_append]
            exact hlt2
          · intro q hq
            rcases List.mem_append.mp hq with h | h
            · exact hl q h
            · rw [List.mem_singleton.mp h]
              exact spare_all hz (by omega) y hy2.1
          · rw [List.nodup_append]
            refine ⟨hn, by simp, fun a ha b hb => ?_⟩
            rw [List.mem_singleton.mp hb]
            exact fun e => hny (by rw [← e]; exact ha)
open TL
def plainB : D → Bool
  | .non => true
  | .bl _ => true
  | .int _ => true
  | .str _ => true
  | .tup _ => true
  | .ptup _ => true
  | .lst _ => true
  | .dct _ => true
  | _ => false
def intB : D → Bool
  | .int _ => true
  | _ => false
def prD (x : Int × Int) : D := .tup [.int x.1, .int x.2]
def sis_integer : SpD := spU 1 fun ds_ o_ => ∃ (d : D), ds_ = [d] ∧ (plainB d = true) ∧ o_ = .ok (.bl (intB d))
theorem call_is_integer {d : D} {mu : Mu} {Q : KD} {E : EdF} (h1 : plainB d = true) (kk_ : outK (.ok (.bl (intB d))) mu Q E) : sis_integer [d] mu Q E := spU_at ⟨_, rfl, h1, rfl⟩ rfl kk_
def tis_integer (Ed : EdT) : TSd :=
  sRet (dAndV (dIsi .int (dVar 0)) (dNotV (dIsi .bool (dVar 0))))
abbrev Nis_integer : List Str := ["value"]
theorem gsis_integer : GoodSp sis_integer := spU_good
theorem lenis_integer : ∀ ds mu Q E, sis_integer ds mu Q E → ds.length = 1 := spU_len
theorem pis_integer : ∀ ds mu Q E, lowL mu.length mu = true → lowL mu.length ds = true → sis_integer ds mu Q E → tis_integer (fun _ c fs m => E c fs m) (endD mu.length Q) (startD Nis_integer ds) mu := by
  intro ds mu Q E l1 l2 h
  obtain ⟨o_, ⟨d, rfl, h1, rfl⟩, hR⟩ := spU_of h
  cases d <;> first | (cases h1; done) | skip
  all_goals
    ((repeat wtm_at "s"); (try conv => whnf))
    exact end_u hR rfl
def numB : D → Bool
  | .int i => decide (1 ≤ i) && decide (i ≤ 10 ^ 15)
  | _ => false
def ptsB : D → Bool
  | .int i => decide (0 ≤ i)
  | _ => false
def sis_number : SpD := spU 1 fun ds_ o_ => ∃ (d : D), ds_ = [d] ∧ (plainB d = true) ∧ o_ = .ok (.bl (numB d))
theorem call_is_number {d : D} {mu : Mu} {Q : KD} {E : EdF} (h1 : plainB d = true) (kk_ : outK (.ok (.bl (numB d))) mu Q E) : sis_number [d] mu Q E := spU_at ⟨_, rfl, h1, rfl⟩ rfl kk_
def tis_number (Ed : EdT) : TSd :=
  sRet (dAndV (dCall sis_integer Ed (dCons (dVar 0) (dNil))) (dChain fLe fLe (dC (.int 1)) (dVar 0) (dC (.int (1000000000000000)))))
abbrev Nis_number : List Str := ["value"]
theorem gsis_number : GoodSp sis_number := spU_good
theorem lenis_number : ∀ ds mu Q E, sis_number ds mu Q E → ds.length = 1 := spU_len
theorem pis_number : ∀ ds mu Q E, lowL mu.length mu = true → lowL mu.length ds = true → sis_number ds mu Q E → tis_number (fun _ c fs m => E c fs m) (endD mu.length Q) (startD Nis_number ds) mu := by
  intro ds mu Q E l1 l2 h
  obtain ⟨o_, ⟨d, rfl, h1, rfl⟩, hR⟩ := spU_of h
  ((repeat wtm_at "s"); (try conv => whnf))
  refine call_is_integer h1 ?_
  cases d <;> first | (cases h1; done) | skip
  case int i =>
    ((repeat wtm_at "s"); (try conv => whnf))
    refine Br.by (fun hb => ?_) (fun hb => ?_)
    · ((repeat wtm_at "s"); (try conv => whnf))
      refine end_u hR ?_
      show Out.ok (.bl (decide (1 ≤ i) && decide (i ≤ 10 ^ 15))) = _
      rw [hb]; rfl
    · refine end_u hR ?_
      show Out.ok (.bl (decide (1 ≤ i) && decide (i ≤ 10 ^ 15))) = _
      rw [hb]; rfl
  all_goals
    ((repeat wtm_at "s"); (try conv => whnf))
    exact end_u hR rfl
def sare_points : SpD := spU 1 fun ds_ o_ => ∃ (d : D), ds_ = [d] ∧ (plainB d = true) ∧ o_ = .ok (.bl (ptsB d))
theorem call_are_points {d : D} {mu : Mu} {Q : KD} {E : EdF} (h1 : plainB d = true) (kk_ : outK (.ok (.bl (ptsB d))) mu Q E) : sare_points [d] mu Q E := spU_at ⟨_, rfl, h1, rfl⟩ rfl kk_
def tare_points (Ed : EdT) : TSd :=
  sRet (dAndV (dCall sis_integer Ed (dCons (dVar 0) (dNil))) (dBin fGe (dVar 0) (dC (.int 0))))
abbrev Nare_points : List Str := ["value"]
theorem gsare_points : GoodSp sare_points := spU_good
theorem lenare_points : ∀ ds mu Q E, sare_points ds mu Q E → ds.length = 1 := spU_len
theorem pare_points : ∀ ds mu Q E, lowL mu.length mu = true → lowL mu.length ds = true → sare_points ds mu Q E → tare_points (fun _ c fs m => E c fs m) (endD mu.length Q) (startD Nare_points ds) mu := by
  intro ds mu Q E l1 l2 h
  obtain ⟨o_, ⟨d, rfl, h1, rfl⟩, hR⟩ := spU_of h
  ((repeat wtm_at "s"); (try conv => whnf))
  refine call_is_integer h1 ?_
  cases d <;> first | (cases h1; done) | skip
  all_goals
    ((repeat wtm_at "s"); (try conv => whnf))
    exact end_u hR rfl
def ahB (x : Int) : D → Bool
  | .int a => decide (x < a)
  | _ => true
/-- a right group: points fall -/
def grpOk : D → List (Int × Int) → Prop
  | _, [] => True
  | ah, (x, n) :: r => 0 ≤ x ∧ 1 ≤ n ∧ n ≤ 10 ^ 15 ∧ ahB x ah = true ∧ grpOk (.int x) r
def enumF : Nat → List D → List D
  | _, [] => []
  | j, x :: r => .tup [.int (j : Nat), x] :: enumF (j + 1) r
theorem enumF_get : ∀ (xs : List D) (j i : Nat), (enumF j xs)[i]? = xs[i]?.map fun x => .tup [.int ((j + i : Nat) : Int), x]
  | [], j, i => by simp [enumF]
  | x :: r, j, 0 => by simp [enumF]
  | x :: r, j, i + 1 => by
    simp only [enumF, List.getElem?_cons_succ]
    rw [enumF_get r (j + 1) i, show j + 1 + i = j + (i + 1) by omega]
theorem enumF_len : ∀ (xs : List D) (j : Nat), (enumF j xs).length = xs.length
  | [], _ => rfl
  | x :: r, j => by simp only [enumF, List.length_cons, enumF_len r]
theorem enumD_eq (xs : List D) : enumD xs = enumF 0 xs := by
  apply List.ext_getElem?
  intro i
  rw [enumF_get]
  by_cases hi : i < xs.length
  · have h1 : (enumD xs)[i]? = some ((enumD xs)[i]'(by simpa [enumD] using hi)) := List.getElem?_eq_getElem _
    obtain ⟨x, e1, e2⟩ := enum_get h1
    rw [h1, e2, e1]
    simp
  · rw [List.getElem?_eq_none (by simp [enumD]; omega), List.getElem?_eq_none (by omega)]
    rfl
def snumber : SpD := spU 2 fun ds_ o_ => ∃ (a b n : Int), ds_ = [.tup [.int a, .int b], .int n] ∧ (0 ≤ a) ∧ (a ≤ 10) ∧ o_ = .ok (.int (a * n / 10 + b))
theorem call_number {a b n : Int} {mu : Mu} {Q : KD} {E : EdF} (h0 : 0 ≤ a) (h1 : a ≤ 10) (kk_ : outK (.ok (.int (a * n / 10 + b))) mu Q E) : snumber [.tup [.int a, .int b], .int n] mu Q E := spU_at ⟨_, _, _, rfl, h0, h1, rfl⟩ rfl kk_
def tnumber (Ed : EdT) : TSd :=
  sRet (dBin fAdd (dBin fFdiv (dBin fMul (dBin fIx (dVar 0) (dC (.int 0))) (dVar 1)) (dC (.int (10)))) (dBin fIx (dVar 0) (dC (.int 1))))
abbrev Nnumber : List Str := ["word", "members"]
theorem gsnumber : GoodSp snumber := spU_good
theorem lennumber : ∀ ds mu Q E, snumber ds mu Q E → ds.length = 2 := spU_len
theorem pnumber : ∀ ds mu Q E, lowL mu.length mu = true → lowL mu.length ds = true → snumber ds mu Q E → tnumber (fun _ c fs m => E c fs m) (endD mu.length Q) (startD Nnumber ds) mu := by
  intro ds mu Q E l1 l2 h
  obtain ⟨o_, ⟨a, b, n, rfl, h0, h1, rfl⟩, hR⟩ := spU_of h
  ((repeat wtm_at "s"); (try conv => whnf))
  exact end_u hR rfl
/-! ### texts -/
abbrev digS : Str := "0123456789"
theorem abc_eq : abcS.cps.toList = List.range' 97 26 := by decide +kernel
theorem aln_eq : alnS.cps.toList = List.range' 97 26 ++ List.range' 48 10 := by decide +kernel
theorem dig_eq : digS.cps.toList = List.range' 48 10 := by decide +kernel
theorem abc_mem (c : Nat) : decide (c ∈ abcS.cps.toList) = letB c := by
  rw [abc_eq]
  unfold letB
  rw [← Bool.decide_and, decide_eq_decide, List.mem_range'_1]
  omega
theorem dig_mem (c : Nat) : decide (c ∈ digS.cps.toList) = digB c := by
  rw [dig_eq]
  unfold digB
  rw [← Bool.decide_and, decide_eq_decide, List.mem_range'_1]
  omega
theorem aln_mem (c : Nat) : decide (c ∈ alnS.cps.toList) = alnB c := by
  unfold alnB
  rw [← abc_mem, ← dig_mem, ← Bool.decide_or, decide_eq_decide, aln_eq, abc_eq, dig_eq, List.mem_append]
theorem all_bl {mu : Mu} (bs : List Bool) : allD mu [.lst (bs.map D.bl)] = some (True, .bl (bs.all id)) := by
  simp only [allD, asL, blsOf_map]
theorem all_map {α : Type} {mu : Mu} (xs : List α) (f : α → Bool) : allD mu [.lst (xs.map fun x => .bl (f x))] = some (True, .bl (xs.all f)) := by
  have := all_bl (mu := mu) (xs.map f)
  rw [List.map_map] at this
  rw [show (xs.map fun x => D.bl (f x)) = xs.map (D.bl ∘ f) from rfl, this, List.all_map]
  rfl
theorem atI0 {α : Type} {x : α} {r : List α} : atI (x :: r) 0 = some x := by
  unfold atI ixN
  rw [if_pos (by decide), if_pos (by simp only [List.length_cons]; omega)]
  rfl
def nameD : D → Bool
  | .str z => labB z
  | _ => false
def fitD : D → Bool
  | .str z => decide (z.length ≤ 100000)
  | _ => true
theorem labL_eq (c : Nat) (r : List Nat) : labL (c :: r) = (letB c && ((c :: r).all alnB && decide ((c :: r).length ≤ 8))) := by
  show (letB c && (r.all alnB && decide (r.length ≤ 7))) = _
  rw [List.all_cons, List.length_cons, show decide (r.length ≤ 7) = decide (r.length + 1 ≤ 8) by rw [decide_eq_decide]; omega]
  cases h : letB c with
  | false => rfl
  | true => rw [show alnB c = true by unfold alnB; rw [h]; rfl, Bool.true_and, Bool.true_and, Bool.true_and]
def sis_name : SpD := spU 1 fun ds_ o_ => ∃ (d : D), ds_ = [d] ∧ (plainB d = true) ∧ (fitD d = true) ∧ o_ = .ok (.bl (nameD d))
theorem call_is_name {d : D} {mu : Mu} {Q : KD} {E : EdF} (h1 : plainB d = true) (h2 : fitD d = true) (kk_ : outK (.ok (.bl (nameD d))) mu Q E) : sis_name [d] mu Q E := spU_at ⟨_, rfl, h1, h2, rfl⟩ rfl kk_
def tis_name (Ed : EdT) : TSd :=
  sSeq (sIf (dOr (dNot (dTest (dIsi .str (dVar 0)))) (dNot (dTest (dChain fLe fLe (dC (.int 1)) (dB (gOf lenD) (dCons (dVar 0) (dNil))) (dC (.int (8))))))) (sRet (dC (.bl false))) (sNext)) (sRet (dAndV (dBin (fIn false) (dBin fIx (dVar 0) (dC (.int 0))) (dC (.str "abcdefghijklmnopqrstuvwxyz"))) (dB (gOf allD) (dCons (dLc (iStr (dVar 0)) (kName 1) (dYes) (dBin (fIn false) (dVar 1) (dBin fAdd (dC (.str "abcdefghijklmnopqrstuvwxyz")) (dC (.str "0123456789")))) [1]) (dNil)))))
abbrev Nis_name : List Str := ["value", "sign"]
theorem gsis_name : GoodSp sis_name := spU_good
theorem lenis_name : ∀ ds mu Q E, sis_name ds mu Q E → ds.length = 1 := spU_len
theorem pis_name : ∀ ds mu Q E, lowL mu.length mu = true → lowL mu.length ds = true → sis_name ds mu Q E → tis_name (fun _ c fs m => E c fs m) (endD mu.length Q) (startD Nis_name ds) mu := by
  intro ds mu Q E l1 l2 h
  obtain ⟨o_, ⟨d, rfl, h1, h2, rfl⟩, hR⟩ := spU_of h
  cases d <;> first | (cases h1; done) | skip
  case str z =>
    have hz : z.length ≤ 100000 := of_decide_eq_true h2
    have hlen := len_tl z
    have hsz : z.length ≤ sizeLine := small hz
    have fin : ∀ b, labL (tl z) = b → ∃ d' m', Frz mu (.bl b) m' d' ∧ mu.length ≤ List.length m' ∧ Q d' m' := fun b e => end_u hR (by rw [← e]; rfl)
    ((repeat wtm_at "s"); (try conv => whnf))
    refine Br.by (fun hb => ?_) (fun hb => ?_)
    · have hb2 := of_decide_eq_true hb
      ((repeat wtm_at "s"); (try conv => whnf))
      rcases hc : tl z with _ | ⟨c, r⟩
      · rw [hc] at hlen
        rw [hlen] at hb2
        exact absurd hb2 (by decide)
      · have hat : atI z.cps.toList 0 = some c := by rw [show z.cps.toList = c :: r from hc]; exact atI0
        rw [hc, labL_eq] at fin
        rw [hc] at hlen
        refine Br.by (fun hd => ?_) (fun hd => ?_)
        · ((repeat wtm_at "s"); (try conv => whnf))
          refine fin _ ?_
          have : ¬ (c :: r).length ≤ 8 := by
            rw [← hlen]
            intro q
            rw [decide_eq_true (by omega : ((z.length : Nat) : Int) ≤ 8)] at hd
            cases hd
          rw [decide_eq_false this, Bool.and_false, Bool.and_false]
        · have h8 : (c :: r).length ≤ 8 := by
            rw [← hlen]
            cases hq : decide (((z.length : Nat) : Int) ≤ 8) with
            | true => have := of_decide_eq_true hq; omega
            | false => rw [hq] at hd; cases hd
          rw [decide_eq_true h8, Bool.and_true] at fin
          ((repeat (first | rw [ixT hat] | wtm_at "r" | ((conv => whnf); first | rw [ixT hat] | wtm_at "r"))); (try conv => whnf))
          rw [abc_mem]
          refine Br.by (fun he => ?_) (fun he => ?_)
          · have he : letB c = true := he
            rw [he, Bool.true_and] at fin
            ((repeat wtm_at "s"); (try conv => whnf))
            refine lc_map z.cps.toList (fun c => .str ⟨#[c]⟩) (fun c => .bl (alnB c)) trivial (by rw [← len_tl]; omega) (fun c _ n hn => ?_) ?_
            · rw [← aln_mem] at hn
              ((repeat wtm_at "s"); (try conv => whnf))
              exact hn
            · ((repeat (first | rw [all_map] | wtm_at "r" | ((conv => whnf); first | rw [all_map] | wtm_at "r"))); (try conv => whnf))
              refine fin _ ?_
              rw [show z.cps.toList = c :: r from hc]
          · have he : letB c = false := he
            rw [he, Bool.false_and] at fin
            ((repeat wtm_at "s"); (try conv => whnf))
            exact fin _ rfl
    · have hb2 := of_decide_eq_false hb
      ((repeat wtm_at "s"); (try conv => whnf))
      refine fin _ ?_
      rw [List.length_eq_zero_iff.mp (show (tl z).length = 0 by omega)]
      rfl
  all_goals
    ((repeat wtm_at "s"); (try conv => whnf))
    exact end_u hR rfl
open TL
/-! ### dicts of a group -/
theorem has_nil (k : Key) : hasKD [] k = false := rfl
theorem valD_app {k j : Key} {d : D} : ∀ (kvs : List (Key × D)), hasKD kvs k = false → valD (kvs ++ [(k, d)]) j = if k = j then some d else valD kvs j
  | [], _ => by simp only [List.nil_append, valD]
  | (a, x) :: r, h => by
    unfold hasKD at h
    rw [List.any_cons, Bool.or_eq_false_iff] at h
    have ha : ¬ a = k := of_decide_eq_false h.1
    have ih := valD_app (j := j) (d := d) r h.2
    simp only [List.cons_append, valD]
    by_cases hj : a = j
    · rw [if_pos hj, if_pos hj, if_neg (fun z => ha (hj.trans z.symm))]
    · rw [if_neg hj, if_neg hj]
      exact ih
def kvG (g : List (Int × Int)) : List (Key × D) := g.map fun q => (.inl q.1, .int q.2)
theorem pairs_g : ∀ g : List (Int × Int), pairsD (g.map prD) = some (kvG g)
  | [] => rfl
  | (x, n) :: r => by
    have ih := pairs_g r
    show (match keyD (D.int x), pairsD (r.map prD) with
      | some k, some ps => some ((k, D.int n) :: ps)
      | _, _ => none) = _
    rw [ih]
    rfl
theorem has_kv {g : List (Int × Int)} {x : Int} : hasKD (kvG g) (.inl x) = decide (x ∈ g.map (·.1)) := by
  unfold hasKD kvG
  induction g with
  | nil => rfl
  | cons q r ih =>
    rw [List.map_cons, List.any_cons, ih, List.map_cons]
    by_cases h : q.1 = x
    · simp [h]
    · have h2 : ¬ x = q.1 := fun z => h z.symm
      simp [h, h2]
theorem merge_g : ∀ (g a : List (Int × Int)), ((a ++ g).map (·.1)).Nodup → mergeD (kvG a) (kvG g) = kvG (a ++ g)
  | [], a, _ => by rw [List.append_nil]; rfl
  | (x, n) :: r, a, h => by
    have hx : x ∉ a.map (·.1) := by
      rw [List.map_append, List.nodup_append] at h
      intro z
      exact h.2.2 x z x (by simp) rfl
    have e : putKD (kvG a) (.inl x) (.int n) = kvG (a ++ [(x, n)]) := by
      unfold putKD
      rw [has_kv, decide_eq_false hx]
      simp [kvG]
    show mergeD (putKD (kvG a) (.inl x) (.int n)) (kvG r) = _
    rw [e, merge_g r (a ++ [(x, n)]) (by rw [List.append_assoc]; exact h), List.append_assoc]
    rfl
theorem grp_nodup : ∀ {g : List (Int × Int)} {ah : D}, grpOk ah g → (∀ q ∈ g, ahB q.1 ah = true) ∧ (g.map (·.1)).Nodup
  | [], _, _ => ⟨fun q h => by simp at h, by simp⟩
  | (x, n) :: r, ah, h => by
    obtain ⟨h1, h2, h3, h4, h5⟩ := h
    obtain ⟨i1, i2⟩ := grp_nodup h5
    refine ⟨fun q hq => ?_, ?_⟩
    · rcases List.mem_cons.mp hq with e | hq
      · rw [e]; exact h4
      · have z := of_decide_eq_true (i1 q hq)
        cases ah with
        | int a =>
          have w : x < a := of_decide_eq_true h4
          exact decide_eq_true (by omega)
        | _ => rfl
    · rw [List.map_cons, List.nodup_cons]
      refine ⟨fun z => ?_, i2⟩
      obtain ⟨q, hq, e⟩ := List.mem_map.mp z
      have w := of_decide_eq_true (i1 q hq)
      omega
theorem dict_g {g : List (Int × Int)} (h : grpOk .non g) (mu : Mu) : dictD mu [.ptup (g.map prD)] = some (True, .dct (kvG g)) := by
  have e := merge_g g [] (grp_nodup h).2
  simp only [dictD, pairs_g]
  rw [show mergeD [] (kvG g) = kvG g from e]
theorem val_g : ∀ {g : List (Int × Int)} {x n : Int}, (g.map (·.1)).Nodup → (x, n) ∈ g → valD (kvG g) (.inl x) = some (.int n)
  | [], _, _, _, h => by simp at h
  | (y, k) :: r, x, n, nd, h => by
    rw [List.map_cons, List.nodup_cons] at nd
    simp only [kvG, List.map_cons, valD]
    rcases List.mem_cons.mp h with e | h
    · cases e
      rw [if_pos rfl]
    · have hy : ¬ (Sum.inl y : Key) = .inl x := fun z => nd.1 (by
        injection z with z
        rw [z]
        exact List.mem_map.mpr ⟨_, h, rfl⟩)
      rw [if_neg hy]
      exact val_g nd.2 h
def betG (g : List (Int × Int)) (x : Int) : Int := ((g.filter fun q => decide (x < q.1)).map (·.2)).sum
def totG (g : List (Int × Int)) : Int := (g.map (·.2)).sum
def memD (x b u t : Int) : D := .dct [(.inr "points", .int x), (.inr "better", .int b), (.inr "upto", .int u), (.inr "members", .int t)]
theorem mem_merge (x b u t : D) : mergeD [] [(.inr "points", x), (.inr "better", b), (.inr "upto", u), (.inr "members", t)] = [(.inr "points", x), (.inr "better", b), (.inr "upto", u), (.inr "members", t)] := by
  rfl
theorem sum_g (l : List (Int × Int)) (mu : Mu) : sumD mu [.lst (l.map fun q => .int q.2)] = some (True, .int ((l.map (·.2)).sum)) := by
  have e : intsOf (l.map fun q => D.int q.2) = some (l.map (·.2)) := by
    rw [show (l.map fun q => D.int q.2) = (l.map (·.2)).map D.int by rw [List.map_map]; rfl]
    exact intsOf_map _
  simp only [sumD, asL, e]
structure Mem where
  x : Int
  b : Int
  u : Int
  t : Int
def Mem.d (m : Mem) : D := memD m.x m.b m.u m.t
def memG (g : List (Int × Int)) (x n : Int) : Mem := ⟨x, betG g x, betG g x + n, totG g⟩
def smember_of : SpD := spU 2 fun ds_ o_ => ∃ (g : List (Int × Int)) (x n : Int), ds_ = [.ptup (g.map prD), .int x] ∧ (grpOk .non g) ∧ (g.length ≤ 1000) ∧ ((x, n) ∈ g) ∧ o_ = .ok (Mem.d (memG g x n))
theorem call_member_of {g : List (Int × Int)} {x n : Int} {mu : Mu} {Q : KD} {E : EdF} (h0 : grpOk .non g) (hl : g.length ≤ 1000) (h1 : (x, n) ∈ g) (kk_ : outK (.ok (Mem.d (memG g x n))) mu Q E) : smember_of [.ptup (g.map prD), .int x] mu Q E := spU_at ⟨_, _, _, rfl, h0, hl, h1, rfl⟩ rfl kk_
def tmember_of (Ed : EdT) : TSd :=
  sSeq (sAsg (dB (gOf sumD) (dCons (dLc (iSeq (dVar 0)) (kSeq 2 (kCons (kName 3) (kCons (kName 4) (kNil)))) (dTest (dBin fGt (dVar 3) (dVar 1))) (dVar 4) [3, 4]) (dNil))) (kName 2)) (sRet (dDisp [(dC (.str "points"), dVar 1), (dC (.str "better"), dVar 2), (dC (.str "upto"), dBin fAdd (dVar 2) (dBin fGet (dB (gOf dictD) (dCons (dVar 0) (dNil))) (dVar 1))), (dC (.str "members"), dB (gOf sumD) (dCons (dLc (iSeq (dVar 0)) (kSeq 2 (kCons (kName 3) (kCons (kName 4) (kNil)))) (dYes) (dVar 4) [3, 4]) (dNil)))]))
abbrev Nmember_of : List Str := ["group", "points", "better", "other", "members"]
theorem gsmember_of : GoodSp smember_of := spU_good
theorem lenmember_of : ∀ ds mu Q E, smember_of ds mu Q E → ds.length = 2 := spU_len
theorem pmember_of : ∀ ds mu Q E, lowL mu.length mu = true → lowL mu.length ds = true → smember_of ds mu Q E → tmember_of (fun _ c fs m => E c fs m) (endD mu.length Q) (startD Nmember_of ds) mu := by
  intro ds mu Q E l1 l2 h
  obtain ⟨o_, ⟨g, x, n, rfl, h0, hl, h1, rfl⟩, hR⟩ := spU_of h
  have hv : ∀ m, getO m (.dct (kvG g)) (.int x) = some (True, .int n) := fun m => by
    simp only [getO, dctOf, keyD, val_g (grp_nodup h0).2 h1]
  ((repeat wtm_at "s"); (try conv => whnf))
  refine lc_pure g prD (fun q => decide (x < q.1)) (fun q => .int q.2) rfl (by omega) (fun q hq nn n2 hn hn2 => ?_) ?_
  · ((repeat wtm_at "s"); (try conv => whnf))
    refine Br.by (fun hb => ?_) (fun hb => ?_)
    · ((repeat wtm_at "s"); (try conv => whnf))
      exact hn hb
    · exact hn2 hb
  · ((repeat (first | rw [sum_g] | rw [dict_g h0] | rw [hv] | wtm_at "r" | ((conv => whnf); first | rw [sum_g] | rw [dict_g h0] | rw [hv] | wtm_at "r"))); (try conv => whnf))
    refine lc_map g prD (fun q => .int q.2) rfl (by omega) (fun q hq nn hn => ?_) ?_
    · ((repeat wtm_at "s"); (try conv => whnf))
      exact hn
    · ((repeat (first | rw [sum_g] | rw [mem_merge] | wtm_at "r" | ((conv => whnf); first | rw [sum_g] | rw [mem_merge] | wtm_at "r"))); (try conv => whnf))
      try refine ⟨by show 4 ≤ 15; decide, ?_⟩
      exact end_u hR rfl
abbrev ksCondition : List Str := ["quantity", "is_at_most", "word"]
abbrev ksRow : List Str := ["conditions", "told"]
abbrev ksRule : List Str := ["parsed", "held_grades", "held_rows"]
/-- a condition, a row as data -/
def cndD (q : Str) (b : Bool) (t k : Int) : D := .obj "Condition" [("quantity", .str q), ("is_at_most", .bl b), ("word", .tup [.int t, .int k])]
def sCondition_init : SpD := spR 4 fun ds mu R => ∃ n q b t k, ds = [.loc n, .str q, .bl b, .tup [.int t, .int k]] ∧ mu[n]? = some (.obj "Condition" []) ∧ R = fun y m => y = .non ∧ m = mu.set n (cndD q b t k)
def tCondition_init (Ed : EdT) : TSd :=
  sSeq (sNew "Condition" [] "quantity" (dVar 0) (dVar 1)) (sSeq (sNew "Condition" ["quantity"] "is_at_most" (dVar 0) (dVar 2)) (sNew "Condition" ["quantity", "is_at_most"] "word" (dVar 0) (dVar 3)))
abbrev NCondition_init : List Str := ["self", "quantity", "is_at_most", "word"]
theorem gsCondition_init : GoodSp sCondition_init := spR_good
theorem lenCondition_init : ∀ ds mu Q E, sCondition_init ds mu Q E → ds.length = 4 := spR_len
theorem pCondition_init : ∀ ds mu Q E, lowL mu.length mu = true → lowL mu.length ds = true → sCondition_init ds mu Q E → tCondition_init (fun _ c fs m => E c fs m) (endD mu.length Q) (startD NCondition_init ds) mu := by
  intro ds mu Q E l1 l2 h
  obtain ⟨R, ⟨n, q, b, t, k, rfl, h0, rfl⟩, hR⟩ := spR_of h
  have hg : ∀ P', (mu.set n P')[n]? = some P' := fun P' => set_get h0
  ((repeat wtm_at "s"); (try conv => whnf))
  refine at_new h0 rfl ?_
  ((repeat wtm_at "s"); (try conv => whnf))
  refine at_new (hg _) rfl ?_
  rw [List.set_set]
  ((repeat wtm_at "s"); (try conv => whnf))
  refine at_new (hg _) rfl ?_
  rw [List.set_set]
  exact end_of (by simp) (hR _ _ ⟨rfl, rfl⟩)
def sRow_init : SpD := spR 3 fun ds mu R => ∃ n cs t, ds = [.loc n, .lst cs, .str t] ∧ mu[n]? = some (.obj "Row" []) ∧ R = fun y m => y = .non ∧ m = mu.set n (.obj "Row" [("conditions", .lst cs), ("told", .str t)])
def tRow_init (Ed : EdT) : TSd :=
  sSeq (sNew "Row" [] "conditions" (dVar 0) (dVar 1)) (sNew "Row" ["conditions"] "told" (dVar 0) (dVar 2))
abbrev NRow_init : List Str := ["self", "conditions", "told"]
theorem gsRow_init : GoodSp sRow_init := spR_good
theorem lenRow_init : ∀ ds mu Q E, sRow_init ds mu Q E → ds.length = 3 := spR_len
theorem pRow_init : ∀ ds mu Q E, lowL mu.length mu = true → lowL mu.length ds = true → sRow_init ds mu Q E → tRow_init (fun _ c fs m => E c fs m) (endD mu.length Q) (startD NRow_init ds) mu := by
  intro ds mu Q E l1 l2 h
  obtain ⟨R, ⟨n, cs, t, rfl, h0, rfl⟩, hR⟩ := spR_of h
  have hg : ∀ P', (mu.set n P')[n]? = some P' := fun P' => set_get h0
  ((repeat wtm_at "s"); (try conv => whnf))
  refine at_new h0 rfl ?_
  ((repeat wtm_at "s"); (try conv => whnf))
  refine at_new (hg _) rfl ?_
  rw [List.set_set]
  exact end_of (by simp) (hR _ _ ⟨rfl, rfl⟩)
theorem call_cond_init {k : Nat} {q : Str} {b : Bool} {t v : Int} {mu : Mu} {Q : KD} {E : EdF} (h0 : mu[k]? = some (.obj "Condition" [])) (h : Q .non (mu.set k (cndD q b t v))) : sCondition_init [.loc k, .str q, .bl b, .tup [.int t, .int v]] mu Q E :=
  spR_at ⟨k, q, b, t, v, rfl, h0, rfl⟩ rfl fun y m ⟨e, em⟩ => by
    rw [e, em]
    exact h
theorem call_row_init {k : Nat} {cs : List D} {t : Str} {mu : Mu} {Q : KD} {E : EdF} (h0 : mu[k]? = some (.obj "Row" [])) (h : Q .non (mu.set k (.obj "Row" [("conditions", .lst cs), ("told", .str t)]))) : sRow_init [.loc k, .lst cs, .str t] mu Q E :=
  spR_at ⟨k, cs, t, rfl, h0, rfl⟩ rfl fun y m ⟨e, em⟩ => by
    rw [e, em]
    exact h
/-! ### conditions and rows over a member -/
def qtyV (x b u t : Int) : Str → Option Int := fun q => if q = "points" then some x else if q = "better" then some b else if q = "upto" then some u else if q = "members" then some t else none
theorem mem_val {x b u t v : Int} {q : Str} (h : qtyV x b u t q = some v) : valD [(.inr "points", .int x), (.inr "better", .int b), (.inr "upto", .int u), (.inr "members", .int t)] (.inr q) = some (.int v) := by
  have ne : ∀ {a : Str}, ¬ q = a → ¬ (Sum.inr a : Key) = .inr q := fun n z => n (by injection z with z; exact z.symm)
  unfold qtyV at h
  simp only [valD]
  by_cases h1 : q = "points"
  · rw [if_pos h1] at h; cases h
    rw [if_pos (by rw [h1])]
  · rw [if_neg h1] at h
    rw [if_neg (ne h1)]
    by_cases h2 : q = "better"
    · rw [if_pos h2] at h; cases h
      rw [if_pos (by rw [h2])]
    · rw [if_neg h2] at h
      rw [if_neg (ne h2)]
      by_cases h3 : q = "upto"
      · rw [if_pos h3] at h; cases h
        rw [if_pos (by rw [h3])]
      · rw [if_neg h3] at h
        rw [if_neg (ne h3)]
        by_cases h4 : q = "members"
        · rw [if_pos h4] at h; cases h
          rw [if_pos (by rw [h4])]
        · rw [if_neg h4] at h; cases h
structure Cnd where
  q : Str
  b : Bool
  t : Int
  k : Int
def Cnd.d (c : Cnd) : D := cndD c.q c.b c.t c.k
def Cnd.ok (c : Cnd) : Prop := (c.q = "points" ∨ c.q = "better" ∨ c.q = "upto" ∨ c.q = "members") ∧ 0 ≤ c.t ∧ c.t ≤ 10
def Mem.at (m : Mem) (q : Str) : Int := (qtyV m.x m.b m.u m.t q).getD 0
def Cnd.holds (m : Mem) (c : Cnd) : Bool := decide (decide (m.at c.q ≤ c.t * m.t / 10 + c.k) = c.b)
theorem Cnd.ok.at {c : Cnd} (h : c.ok) (m : Mem) : qtyV m.x m.b m.u m.t c.q = some (m.at c.q) := by
  obtain ⟨h, _, _⟩ := h
  unfold Mem.at
  rcases h with h | h | h | h
  all_goals
    rw [h]
    unfold qtyV
    rw [if_pos rfl]; rfl
def sCondition_holds : SpD := spU 2 fun ds_ o_ => ∃ (c : Cnd) (m : Mem), ds_ = [c.d, m.d] ∧ (c.ok) ∧ o_ = .ok (.bl (c.holds m))
theorem call_Condition_holds {c : Cnd} {m : Mem} {mu : Mu} {Q : KD} {E : EdF} (h0 : c.ok) (kk_ : outK (.ok (.bl (c.holds m))) mu Q E) : sCondition_holds [c.d, m.d] mu Q E := spU_at ⟨_, _, rfl, h0, rfl⟩ rfl kk_
def tCondition_holds (Ed : EdT) : TSd :=
  sRet (dBin fEq (dBin fLe (dBin fGet (dVar 1) (dAt "Condition" ksCondition 0 (dVar 0))) (dCall snumber Ed (dCons (dAt "Condition" ksCondition 2 (dVar 0)) (dCons (dBin fGet (dVar 1) (dC (.str "members"))) (dNil))))) (dAt "Condition" ksCondition 1 (dVar 0)))
abbrev NCondition_holds : List Str := ["self", "member"]
theorem gsCondition_holds : GoodSp sCondition_holds := spU_good
theorem lenCondition_holds : ∀ ds mu Q E, sCondition_holds ds mu Q E → ds.length = 2 := spU_len
theorem pCondition_holds : ∀ ds mu Q E, lowL mu.length mu = true → lowL mu.length ds = true → sCondition_holds ds mu Q E → tCondition_holds (fun _ c fs m => E c fs m) (endD mu.length Q) (startD NCondition_holds ds) mu := by
  intro ds mu Q E l1 l2 h
  obtain ⟨o_, ⟨c, m, rfl, h0, rfl⟩, hR⟩ := spU_of h
  have hv : ∀ mu', getO mu' m.d (.str c.q) = some (True, .int (m.at c.q)) := fun mu' => by
    simp only [getO, Mem.d, memD, dctOf, keyD, mem_val (h0.at m)]
  have hm : ∀ mu', getO mu' m.d (.str "members") = some (True, .int m.t) := fun mu' => by
    simp only [getO, Mem.d, memD, dctOf, keyD]
    rw [mem_val (q := "members") (v := m.t) (by unfold qtyV; rw [if_neg (by decide +kernel), if_neg (by decide +kernel), if_neg (by decide +kernel), if_pos rfl])]
  ((repeat (first | rw [hv] | rw [hm] | wtm_at "r" | ((conv => whnf); first | rw [hv] | rw [hm] | wtm_at "r"))); (try conv => whnf))
  refine call_number h0.2.1 h0.2.2 ?_
  ((repeat wtm_at "s"); (try conv => whnf))
  exact end_u hR rfl
structure Rw where
  cs : List Cnd
  told : Str
def Rw.d (r : Rw) : D := .obj "Row" [("conditions", .lst (r.cs.map Cnd.d)), ("told", .str r.told)]
def Rw.holds (m : Mem) (r : Rw) : Bool := r.cs.all (Cnd.holds m)
def sRow_holds : SpD := spU 2 fun ds_ o_ => ∃ (r : Rw) (m : Mem), ds_ = [r.d, m.d] ∧ (∀ c ∈ r.cs, c.ok) ∧ (r.cs.length ≤ 1000) ∧ o_ = .ok (.bl (r.holds m))
theorem call_Row_holds {r : Rw} {m : Mem} {mu : Mu} {Q : KD} {E : EdF} (h0 : ∀ c ∈ r.cs, c.ok) (h1 : r.cs.length ≤ 1000) (kk_ : outK (.ok (.bl (r.holds m))) mu Q E) : sRow_holds [r.d, m.d] mu Q E := spU_at ⟨_, _, rfl, h0, h1, rfl⟩ rfl kk_
def tRow_holds (Ed : EdT) : TSd :=
  sRet (dB (gOf allD) (dCons (dLc (iSeq (dAt "Row" ksRow 0 (dVar 0))) (kName 2) (dYes) (dMeth "Condition" ksCondition sCondition_holds noE (dVar 2) (dCons (dVar 1) (dNil))) [2]) (dNil)))
abbrev NRow_holds : List Str := ["self", "member", "condition"]
theorem gsRow_holds : GoodSp sRow_holds := spU_good
theorem lenRow_holds : ∀ ds mu Q E, sRow_holds ds mu Q E → ds.length = 2 := spU_len
theorem pRow_holds : ∀ ds mu Q E, lowL mu.length mu = true → lowL mu.length ds = true → sRow_holds ds mu Q E → tRow_holds (fun _ c fs m => E c fs m) (endD mu.length Q) (startD NRow_holds ds) mu := by
  intro ds mu Q E l1 l2 h
  obtain ⟨o_, ⟨r, m, rfl, h0, h1, rfl⟩, hR⟩ := spU_of h
  obtain ⟨cs, told⟩ := r
  ((repeat wtm_at "s"); (try conv => whnf))
  refine lc_map cs Cnd.d (fun c => .bl (c.holds m)) rfl (by show cs.length ≤ _; have : cs.length ≤ 1000 := h1; omega) (fun c hc nn hn => ?_) ?_
  · ((repeat wtm_at "s"); (try conv => whnf))
    refine call_Condition_holds (h0 c hc) ?_
    exact hn
  · ((repeat (first | rw [all_map] | wtm_at "r" | ((conv => whnf); first | rw [all_map] | wtm_at "r"))); (try conv => whnf))
    exact end_u hR rfl
def rulD (rs : List Rw) (gs ro : D) : D := .obj "Rule" [("parsed", .lst (rs.map Rw.d)), ("held_grades", gs), ("held_rows", ro)]
def told (rs : List Rw) (m : Mem) : List Str := (rs.filter (Rw.holds m)).map (·.told)
def rowsOk (rs : List Rw) : Prop := rs.length ≤ 1000 ∧ ∀ r ∈ rs, (∀ c ∈ r.cs, c.ok) ∧ r.cs.length ≤ 1000
def sRule_grade_of : SpD := spU 2 fun ds_ o_ => ∃ (rs : List Rw) (gs ro : D) (m : Mem) (z : Str) (t : List Str), ds_ = [rulD rs gs ro, m.d] ∧ (rowsOk rs) ∧ (told rs m = z :: t) ∧ o_ = .ok (.str z)
theorem call_Rule_grade_of {rs : List Rw} {gs ro : D} {m : Mem} {z : Str} {t : List Str} {mu : Mu} {Q : KD} {E : EdF} (h0 : rowsOk rs) (h2 : told rs m = z :: t) (kk_ : outK (.ok (.str z)) mu Q E) : sRule_grade_of [rulD rs gs ro, m.d] mu Q E := spU_at ⟨_, _, _, _, _, _, rfl, h0, h2, rfl⟩ rfl kk_
def tRule_grade_of (Ed : EdT) : TSd :=
  sRet (dBin fIx (dLc (iSeq (dAt "Rule" ksRule 0 (dVar 0))) (kName 2) (dTest (dMeth "Row" ksRow sRow_holds noE (dVar 2) (dCons (dVar 1) (dNil)))) (dAt "Row" ksRow 1 (dVar 2)) [2]) (dC (.int 0)))
abbrev NRule_grade_of : List Str := ["self", "member", "row"]
theorem gsRule_grade_of : GoodSp sRule_grade_of := spU_good
theorem lenRule_grade_of : ∀ ds mu Q E, sRule_grade_of ds mu Q E → ds.length = 2 := spU_len
theorem pRule_grade_of : ∀ ds mu Q E, lowL mu.length mu = true → lowL mu.length ds = true → sRule_grade_of ds mu Q E → tRule_grade_of (fun _ c fs m => E c fs m) (endD mu.length Q) (startD NRule_grade_of ds) mu := by
  intro ds mu Q E l1 l2 h
  obtain ⟨o_, ⟨rs, gs, ro, m, z, t, rfl, h0, h2, rfl⟩, hR⟩ := spU_of h
  ((repeat wtm_at "s"); (try conv => whnf))
  refine lc_pure rs Rw.d (Rw.holds m) (fun r => .str r.told) rfl (by have := h0.1; omega) (fun r hr nn n2 hn hn2 => ?_) ?_
  · ((repeat wtm_at "s"); (try conv => whnf))
    refine call_Row_holds (h0.2 r hr).1 (h0.2 r hr).2 ?_
    ((repeat wtm_at "s"); (try conv => whnf))
    refine Br.by (fun hb => ?_) (fun hb => ?_)
    · ((repeat wtm_at "s"); (try conv => whnf))
      exact hn hb
    · exact hn2 hb
  · have e : (rs.filter (Rw.holds m)).map (fun r => D.str r.told) = D.str z :: strsD t := by
      have := congrArg (List.map D.str) h2
      unfold told at this
      rw [List.map_map] at this
      exact this
    rw [e]
    ((repeat (first | rw [ixS (xs := D.str z :: strsD t) rfl at_zero] | wtm_at "r" | ((conv => whnf); first | rw [ixS (xs := D.str z :: strsD t) rfl at_zero] | wtm_at "r"))); (try conv => whnf))
    exact end_u hR rfl
open TL
/-! ### integers in texts -/
def wrtL (l : List Nat) : Option Nat := if 1 ≤ l.length ∧ l.length ≤ 13 ∧ l.all digB = true ∧ ¬ (l.head? = some 48 ∧ 1 < l.length) ∧ NumText.digitsVal l ≤ 10 ^ 12 then some (NumText.digitsVal l) else none
def optI : Option Nat → D
  | some n => .int n
  | none => .non
theorem digs_all {l : List Nat} (h : l.all digB = true) : NumText.AllDigits l := fun c hc => by
  have := List.all_eq_true.mp h c hc
  simp only [digB, Bool.and_eq_true, decide_eq_true_eq] at this
  exact this
theorem one_eq {c d : Nat} {z : Str} (hz : tl z = [d]) : ((⟨#[c]⟩ : Str) = z) ↔ c = d := by
  constructor
  · intro e
    have := congrArg tl e
    rw [hz] at this
    exact (List.cons.inj this).1
  · intro e
    exact ext_tl (by rw [hz, e])
theorem int_digs {z : Str} (h : (tl z).all digB = true) (h1 : tl z ≠ []) (h2 : z.length ≤ 100) (mu : Mu) : intD mu [.str z] = some (True, .int (NumText.digitsVal (tl z))) := by
  have e := intText_digits (x := z) (digs_all h) h1 (by omega)
  simp only [intD, e]
  rw [eq_true (show z.length ≤ 640 by omega)]
theorem wrt_no {l : List Nat} (h : ¬ (1 ≤ l.length ∧ l.length ≤ 13 ∧ l.all digB = true ∧ ¬ (l.head? = some 48 ∧ 1 < l.length) ∧ NumText.digitsVal l ≤ 10 ^ 12)) : wrtL l = none := if_neg h
theorem wrt_yes {l : List Nat} (h : 1 ≤ l.length ∧ l.length ≤ 13 ∧ l.all digB = true ∧ ¬ (l.head? = some 48 ∧ 1 < l.length) ∧ NumText.digitsVal l ≤ 10 ^ 12) : wrtL l = some (NumText.digitsVal l) := if_pos h
def swritten : SpD := spU 1 fun ds_ o_ => ∃ (z : Str), ds_ = [.str z] ∧ (z.length ≤ 100000) ∧ o_ = .ok (optI (wrtL (tl z)))
theorem call_written {z : Str} {mu : Mu} {Q : KD} {E : EdF} (h0 : z.length ≤ 100000) (kk_ : outK (.ok (optI (wrtL (tl z)))) mu Q E) : swritten [.str z] mu Q E := spU_at ⟨_, rfl, h0, rfl⟩ rfl kk_
def twritten (Ed : EdT) : TSd :=
  sSeq (sIf (dOr (dNot (dTest (dChain fLe fLe (dC (.int 1)) (dB (gOf lenD) (dCons (dVar 0) (dNil))) (dC (.int (13)))))) (dNot (dTest (dB (gOf allD) (dCons (dLc (iStr (dVar 0)) (kName 1) (dYes) (dBin (fIn false) (dVar 1) (dC (.str "0123456789"))) [1]) (dNil)))))) (sRet (dC .non)) (sNext)) (sSeq (sIf (dOr (dAnd (dTest (dBin fEq (dBin fIx (dVar 0) (dC (.int 0))) (dC (.str "0")))) (dTest (dBin fGt (dB (gOf lenD) (dCons (dVar 0) (dNil))) (dC (.int 1))))) (dTest (dBin fGt (dB (gOf intD) (dCons (dVar 0) (dNil))) (dC (.int (1000000000000)))))) (sRet (dC .non)) (sNext)) (sRet (dB (gOf intD) (dCons (dVar 0) (dNil)))))
abbrev Nwritten : List Str := ["text", "sign"]
theorem gswritten : GoodSp swritten := spU_good
theorem lenwritten : ∀ ds mu Q E, swritten ds mu Q E → ds.length = 1 := spU_len
theorem pwritten : ∀ ds mu Q E, lowL mu.length mu = true → lowL mu.length ds = true → swritten ds mu Q E → twritten (fun _ c fs m => E c fs m) (endD mu.length Q) (startD Nwritten ds) mu := by
  intro ds mu Q E l1 l2 h
  obtain ⟨o_, ⟨z, rfl, h0, rfl⟩, hR⟩ := spU_of h
  have hlen := len_tl z
  have no : wrtL (tl z) = none → ∃ d' m', Frz mu .non m' d' ∧ mu.length ≤ List.length m' ∧ Q d' m' := fun e => end_u hR (by rw [e]; rfl)
  ((repeat wtm_at "s"); (try conv => whnf))
  refine Br.by (fun hb => ?_) (fun hb => ?_)
  · have hb2 := of_decide_eq_true hb
    ((repeat wtm_at "s"); (try conv => whnf))
    refine Br.by (fun hd => ?_) (fun hd => ?_)
    · ((repeat wtm_at "s"); (try conv => whnf))
      refine no (wrt_no fun q => ?_)
      rw [decide_eq_true (by omega : ((z.length : Nat) : Int) ≤ 13)] at hd
      cases hd
    · have h13 : z.length ≤ 13 := by
        cases hq : decide (((z.length : Nat) : Int) ≤ 13) with
        | true => have := of_decide_eq_true hq; omega
        | false => rw [hq] at hd; cases hd
      ((repeat wtm_at "s"); (try conv => whnf))
      refine lc_map z.cps.toList (fun c => .str ⟨#[c]⟩) (fun c => .bl (digB c)) trivial (by rw [← len_tl]; omega) (fun c _ n hn => ?_) ?_
      · rw [← dig_mem] at hn
        ((repeat wtm_at "s"); (try conv => whnf))
        exact hn
      · ((repeat (first | rw [all_map] | wtm_at "r" | ((conv => whnf); first | rw [all_map] | wtm_at "r"))); (try conv => whnf))
        refine Br.by (fun he => ?_) (fun he => ?_)
        · ((repeat wtm_at "s"); (try conv => whnf))
          refine no (wrt_no fun q => ?_)
          rw [show z.cps.toList = tl z from rfl, q.2.2.1] at he
          cases he
        · have hall : (tl z).all digB = true := by
            cases hq : (tl z).all digB with
            | true => rfl
            | false => rw [show z.cps.toList = tl z from rfl, hq] at he; cases he
          rcases hc : tl z with _ | ⟨c, r⟩
          · rw [hc] at hlen
            rw [hlen] at hb2
            exact absurd hb2 (by decide)
          · have hat : atI z.cps.toList 0 = some c := by rw [show z.cps.toList = c :: r from hc]; exact atI0
            have hint := fun m => int_digs (z := z) hall (by rw [hc]; simp) (by omega) m
            have hh : (tl z).head? = some c := by rw [hc]; rfl
            have last : ¬ (c = 48 ∧ 1 < z.length) → ∀ hi : Bool, decide ((1000000000000 : Int) < ((NumText.digitsVal (tl z) : Nat) : Int)) = hi → (hi = true → wrtL (tl z) = none) ∧ (hi = false → wrtL (tl z) = some (NumText.digitsVal (tl z))) := fun h1 hi e => by
              constructor
              · intro ht
                rw [ht] at e
                have e2 := of_decide_eq_true e
                refine wrt_no fun q => ?_
                have := q.2.2.2.2
                omega
              · intro ht
                rw [ht] at e
                have e2 := of_decide_eq_false e
                refine wrt_yes ⟨by omega, by omega, hall, fun q => h1 ⟨?_, by omega⟩, by omega⟩
                rw [hh] at q
                exact Option.some.inj q.1
            ((repeat (first | rw [ixT hat] | wtm_at "r" | ((conv => whnf); first | rw [ixT hat] | wtm_at "r"))); (try conv => whnf))
            refine Br.by (fun hf => ?_) (fun hf => ?_)
            · have hc48 : c = 48 := (one_eq (d := 48) (by decide +kernel)).mp (of_decide_eq_true hf)
              ((repeat wtm_at "s"); (try conv => whnf))
              refine Br.by (fun hg => ?_) (fun hg => ?_)
              · have hg2 := of_decide_eq_true hg
                ((repeat wtm_at "s"); (try conv => whnf))
                refine no (wrt_no fun q => q.2.2.2.1 ⟨by rw [hh, hc48], by omega⟩)
              · have hg2 := of_decide_eq_false hg
                ((repeat (first | rw [hint] | wtm_at "r" | ((conv => whnf); first | rw [hint] | wtm_at "r"))); (try conv => whnf))
                have hl := last (fun q => hg2 (by omega)) _ rfl
                refine Br.by (fun hi => ?_) (fun hi => ?_)
                · ((repeat wtm_at "s"); (try conv => whnf))
                  exact no (hl.1 hi)
                · ((repeat (first | rw [hint] | wtm_at "r" | ((conv => whnf); first | rw [hint] | wtm_at "r"))); (try conv => whnf))
                  exact end_u hR (by rw [hl.2 hi]; rfl)
            · have hc48 : ¬ c = 48 := fun q => of_decide_eq_false hf ((one_eq (d := 48) (by decide +kernel)).mpr q)
              ((repeat (first | rw [hint] | wtm_at "r" | ((conv => whnf); first | rw [hint] | wtm_at "r"))); (try conv => whnf))
              have hl := last (fun q => hc48 q.1) _ rfl
              refine Br.by (fun hi => ?_) (fun hi => ?_)
              · ((repeat wtm_at "s"); (try conv => whnf))
                exact no (hl.1 hi)
              · ((repeat (first | rw [hint] | wtm_at "r" | ((conv => whnf); first | rw [hint] | wtm_at "r"))); (try conv => whnf))
                exact end_u hR (by rw [hl.2 hi]; rfl)
  · have hb2 := of_decide_eq_false hb
    ((repeat wtm_at "s"); (try conv => whnf))
    exact no (wrt_no fun q => by omega)
open TL
/-! ### words -/
def pbL (l : List Nat) : Option Nat := if l = [97, 108, 108] then some 10 else match par [47] [] l with
  | some ([c], b) => if 49 ≤ c ∧ c ≤ 57 ∧ b = [49, 48] then some (c - 48) else none
  | _ => none
theorem eq_tl (x y : Str) : x = y ↔ tl x = tl y := ⟨fun e => by rw [e], ext_tl⟩
theorem all_tl : tl ("all" : Str) = [97, 108, 108] := by decide +kernel
theorem sl_tl : tl ("/" : Str) = [47] := by decide +kernel
theorem ten_tl : tl ("10" : Str) = [49, 48] := by decide +kernel
theorem pl_tl : tl ("+" : Str) = [43] := by decide +kernel
theorem mi_tl : tl ("-" : Str) = [45] := by decide +kernel
theorem nine_mem (c : Nat) : decide (c ∈ ("123456789" : Str).cps.toList) = decide (49 ≤ c ∧ c ≤ 57) := by
  rw [show ("123456789" : Str).cps.toList = List.range' 49 9 by decide +kernel, decide_eq_decide, List.mem_range'_1]
  omega
theorem empty_tl : tl Str.empty = [] := rfl
/-- what partition at one sign gives -/
theorem part_none {z y : Str} {s : Nat} (hy : tl y = [s]) (h : par [s] [] (tl z) = none) : Txt.partition z y = (z, Str.empty, Str.empty) := by
  rw [partition_par z y (by rw [hy]; simp), hy, h]
theorem part_some {z y : Str} {s : Nat} {a b : List Nat} (hy : tl y = [s]) (h : par [s] [] (tl z) = some (a, b)) : Txt.partition z y = (⟨a.toArray⟩, y, ⟨b.toArray⟩) := by
  rw [partition_par z y (by rw [hy]; simp), hy, h]
theorem par_len {S : List Nat} : ∀ {l acc a b : List Nat}, par S acc l = some (a, b) → a.length ≤ acc.length + l.length ∧ b.length ≤ l.length
  | [], acc, a, b, h => by cases h
  | c :: r, acc, a, b, h => by
    by_cases hp : pre S (c :: r) = true
    · rw [par_hit hp] at h
      cases h
      exact ⟨by omega, by rw [List.length_drop]; omega⟩
    · rw [par_miss (by simpa using hp)] at h
      have := par_len h
      rw [List.length_append] at this
      simp only [List.length_cons, List.length_nil] at this ⊢
      omega
theorem mk_len (l : List Nat) : (⟨l.toArray⟩ : Str).length = l.length := by rw [len_tl]
def sparsed_base : SpD := spU 1 fun ds_ o_ => ∃ (z : Str), ds_ = [.str z] ∧ (z.length ≤ 100000) ∧ o_ = .ok (optI (pbL (tl z)))
theorem call_parsed_base {z : Str} {mu : Mu} {Q : KD} {E : EdF} (h0 : z.length ≤ 100000) (kk_ : outK (.ok (optI (pbL (tl z)))) mu Q E) : sparsed_base [.str z] mu Q E := spU_at ⟨_, rfl, h0, rfl⟩ rfl kk_
def tparsed_base (Ed : EdT) : TSd :=
  sSeq (sIf (dTest (dBin fEq (dVar 0) (dC (.str "all")))) (sRet (dC (.int (10)))) (sNext)) (sSeq (sAsg (dStr partD (dVar 0) (dCons (dC (.str "/")) (dNil))) (kSeq 3 (kCons (kName 1) (kCons (kName 2) (kCons (kName 3) (kNil)))))) (sSeq (sIf (dAnd (dTest (dBin fEq (dB (gOf lenD) (dCons (dVar 1) (dNil))) (dC (.int 1)))) (dAnd (dTest (dBin (fIn false) (dVar 1) (dC (.str "123456789")))) (dAnd (dTest (dBin fEq (dVar 2) (dC (.str "/")))) (dTest (dBin fEq (dVar 3) (dC (.str "10"))))))) (sRet (dB (gOf intD) (dCons (dVar 1) (dNil)))) (sNext)) (sRet (dC .non))))
abbrev Nparsed_base : List Str := ["text", "tenths", "slash", "ten"]
theorem gsparsed_base : GoodSp sparsed_base := spU_good
theorem lenparsed_base : ∀ ds mu Q E, sparsed_base ds mu Q E → ds.length = 1 := spU_len
theorem pparsed_base : ∀ ds mu Q E, lowL mu.length mu = true → lowL mu.length ds = true → sparsed_base ds mu Q E → tparsed_base (fun _ c fs m => E c fs m) (endD mu.length Q) (startD Nparsed_base ds) mu := by
  intro ds mu Q E l1 l2 h
  obtain ⟨o_, ⟨z, rfl, h0, rfl⟩, hR⟩ := spU_of h
  have no : pbL (tl z) = none → ∃ d' m', Frz mu .non m' d' ∧ mu.length ≤ List.length m' ∧ Q d' m' := fun e => end_u hR (by rw [e]; rfl)
  ((repeat wtm_at "s"); (try conv => whnf))
  refine Br.by (fun hb => ?_) (fun hb => ?_)
  · have hb2 := (eq_tl _ _).mp (of_decide_eq_true hb)
    rw [all_tl] at hb2
    ((repeat wtm_at "s"); (try conv => whnf))
    exact end_u hR (by rw [show pbL (tl z) = some 10 from if_pos hb2]; rfl)
  · have hb2 : ¬ tl z = [97, 108, 108] := fun e => of_decide_eq_false hb ((eq_tl _ _).mpr (e.trans all_tl.symm))
    ((repeat wtm_at "s"); (try conv => whnf))
    cases hp : par [47] [] (tl z) with
    | none =>
      have hno : pbL (tl z) = none := by unfold pbL; rw [if_neg hb2, hp]
      rw [part_none sl_tl hp]
      ((repeat wtm_at "s"); (try conv => whnf))
      refine Br.by (fun hc => ?_) (fun hc => ?_)
      · have hl : (tl z).length = 1 := by
          have h7 := of_decide_eq_true hc
          have h8 := len_tl z
          have h9 : ((z.length : Nat) : Int) = 1 := h7
          omega
        obtain ⟨c, hl⟩ := List.length_eq_one_iff.mp hl
        have ez : z = ⟨#[c]⟩ := ext_tl hl
        rw [ez]
        ((repeat wtm_at "s"); (try conv => whnf))
        refine Br.by (fun hd => ?_) (fun hd => ?_)
        · ((repeat wtm_at "s"); (try conv => whnf))
          exact no hno
        · ((repeat wtm_at "s"); (try conv => whnf))
          exact no hno
      · ((repeat wtm_at "s"); (try conv => whnf))
        exact no hno
    | some ab =>
      obtain ⟨a, b⟩ := ab
      have hla := par_len hp
      rw [← len_tl] at hla
      rw [part_some sl_tl hp]
      have hsz : (⟨a.toArray⟩ : Str).length ≤ 100000 := by rw [mk_len]; simp only [List.length_nil] at hla; omega
      ((repeat wtm_at "s"); (try conv => whnf))
      refine Br.by (fun hc => ?_) (fun hc => ?_)
      · have hl : a.length = 1 := by
          have := of_decide_eq_true hc
          rw [mk_len] at this
          omega
        obtain ⟨c, rfl⟩ := List.length_eq_one_iff.mp hl
        ((repeat wtm_at "s"); (try conv => whnf))
        rw [nine_mem]
        refine Br.by (fun hd => ?_) (fun hd => ?_)
        · have hd2 : 49 ≤ c ∧ c ≤ 57 := of_decide_eq_true (show decide (49 ≤ c ∧ c ≤ 57) = true from hd)
          ((repeat wtm_at "s"); (try conv => whnf))
          refine Br.by (fun he => ?_) (fun he => ?_)
          · have he2 : b = [49, 48] := by
              have := (eq_tl _ _).mp (of_decide_eq_true he)
              rwa [ten_tl, tl_mk] at this
            have hi : ∀ m, intD m [.str ⟨[c].toArray⟩] = some (True, .int (c - 48 : Nat)) := fun m => by
              rw [int_digs (z := ⟨[c].toArray⟩) (by rw [tl_mk]; simp [digB]; omega) (by rw [tl_mk]; simp) (by rw [mk_len]; simp) m, tl_mk]
              simp [NumText.digitsVal]
            ((repeat (first | rw [hi] | wtm_at "r" | ((conv => whnf); first | rw [hi] | wtm_at "r"))); (try conv => whnf))
            refine end_u hR ?_
            have : pbL (tl z) = some (c - 48) := by unfold pbL; rw [if_neg hb2, hp]; exact if_pos ⟨hd2.1, hd2.2, he2⟩
            rw [this]
            rfl
          · have he2 : ¬ b = [49, 48] := fun e => of_decide_eq_false he ((eq_tl _ _).mpr (by rw [ten_tl, tl_mk, e]))
            ((repeat wtm_at "s"); (try conv => whnf))
            refine no ?_
            unfold pbL; rw [if_neg hb2, hp]; exact if_neg fun q => he2 q.2.2
        · have hd2 : ¬ (49 ≤ c ∧ c ≤ 57) := of_decide_eq_false (show decide (49 ≤ c ∧ c ≤ 57) = false from hd)
          ((repeat wtm_at "s"); (try conv => whnf))
          refine no ?_
          unfold pbL; rw [if_neg hb2, hp]; exact if_neg fun q => hd2 ⟨q.1, q.2.1⟩
      · have hc2 := of_decide_eq_false hc
        ((repeat wtm_at "s"); (try conv => whnf))
        refine no ?_
        unfold pbL; rw [if_neg hb2, hp]
        split
        · next c b' e =>
          cases e
          exact absurd rfl hc2
        · rfl
def pwS (s : Nat) (l : List Nat) : Option (Nat × Nat) := match par [s] [] l with
  | some (a, b) => match pbL a, wrtL b with
    | some t, some n => some (t, n)
    | _, _ => none
  | none => none
def pwM (l : List Nat) : Option (Int × Int) := match pwS 45 l with
  | some (t, n) => some (t, -n)
  | none => none
def pwP (l : List Nat) : Option (Int × Int) := match pwS 43 l with
  | some (t, n) => if t < 10 then some (t, n) else pwM l
  | none => pwM l
def pwL (l : List Nat) : Option (Int × Int) := match wrtL l with
  | some n => some (0, n)
  | none => match pbL l with
    | some t => some (t, 0)
    | none => pwP l
def optP : Option (Int × Int) → D
  | some p => .tup [.int p.1, .int p.2]
  | none => .non
theorem optI_non {o : Option Nat} : (o = none ∧ optI o = .non) ∨ ∃ n, o = some n ∧ optI o = .int n := by
  cases o with
  | none => exact .inl ⟨rfl, rfl⟩
  | some n => exact .inr ⟨n, rfl, rfl⟩
theorem wrt_nil : wrtL [] = none := by decide
theorem wrt_small {l : List Nat} {n : Nat} (h : wrtL l = some n) : n ≤ 10 ^ 12 := by
  unfold wrtL at h
  split at h
  · next q => cases h; exact q.2.2.2.2
  · cases h
theorem pb_small {l : List Nat} {n : Nat} (h : pbL l = some n) : n ≤ 10 := by
  unfold pbL at h
  split at h
  · cases h; decide
  · split at h
    · split at h
      · cases h; omega
      · cases h
    · cases h
def sparsed_word : SpD := spU 1 fun ds_ o_ => ∃ (z : Str), ds_ = [.str z] ∧ (z.length ≤ 100000) ∧ o_ = .ok (optP (pwL (tl z)))
theorem call_parsed_word {z : Str} {mu : Mu} {Q : KD} {E : EdF} (h0 : z.length ≤ 100000) (kk_ : outK (.ok (optP (pwL (tl z)))) mu Q E) : sparsed_word [.str z] mu Q E := spU_at ⟨_, rfl, h0, rfl⟩ rfl kk_
def tparsed_word (Ed : EdT) : TSd :=
  sSeq (sAsg (dCall swritten Ed (dCons (dVar 0) (dNil))) (kName 1)) (sSeq (sIf (dTest (dBin (fIsN true) (dVar 1) (dC .non))) (sRet (dTup (dCons (dC (.int 0)) (dCons (dVar 1) (dNil))))) (sNext)) (sSeq (sIf (dTest (dBin (fIsN true) (dCall sparsed_base Ed (dCons (dVar 0) (dNil))) (dC .non))) (sRet (dTup (dCons (dCall sparsed_base Ed (dCons (dVar 0) (dNil))) (dCons (dC (.int 0)) (dNil))))) (sNext)) (sSeq (sFor (iSeq (dTup (dCons (dTup (dCons (dC (.str "+")) (dCons (dC (.int 1)) (dNil)))) (dCons (dTup (dCons (dC (.str "-")) (dCons (dUn fNeg (dC (.int 1))) (dNil)))) (dNil))))) (kSeq 2 (kCons (kName 2) (kCons (kName 3) (kNil)))) (sSeq (sAsg (dStr partD (dVar 0) (dCons (dVar 2) (dNil))) (kSeq 3 (kCons (kName 4) (kCons (kName 5) (kCons (kName 6) (kNil)))))) (sSeq (sPar 7 1 (dCons (dCall sparsed_base Ed (dCons (dVar 4) (dNil))) (dCons (dCall swritten Ed (dCons (dVar 6) (dNil))) (dNil)))) (sIf (dAnd (dTest (dBin fEq (dVar 5) (dVar 2))) (dAnd (dTest (dBin (fIsN true) (dVar 7) (dC .non))) (dAnd (dTest (dBin (fIsN true) (dVar 1) (dC .non))) (dOr (dTest (dBin fEq (dVar 2) (dC (.str "-")))) (dTest (dBin fLt (dVar 7) (dC (.int (10))))))))) (sRet (dTup (dCons (dVar 7) (dCons (dBin fMul (dVar 3) (dVar 1)) (dNil))))) (sNext))))) (sRet (dC .non)))))
abbrev Nparsed_word : List Str := ["text", "plain", "sign", "factor", "base", "found", "shift", "tenths"]
theorem gsparsed_word : GoodSp sparsed_word := spU_good
theorem lenparsed_word : ∀ ds mu Q E, sparsed_word ds mu Q E → ds.length = 1 := spU_len
theorem pparsed_word : ∀ ds mu Q E, lowL mu.length mu = true → lowL mu.length ds = true → sparsed_word ds mu Q E → tparsed_word (fun _ c fs m => E c fs m) (endD mu.length Q) (startD Nparsed_word ds) mu := by
  intro ds mu Q E l1 l2 h
  obtain ⟨o_, ⟨z, rfl, h0, rfl⟩, hR⟩ := spU_of h
  ((repeat wtm_at "s"); (try conv => whnf))
  refine call_written h0 ?_
  rcases optI_non (o := wrtL (tl z)) with ⟨e1, e2⟩ | ⟨n, e1, e2⟩
  rotate_left
  · rw [e2]
    ((repeat wtm_at "s"); (try conv => whnf))
    exact end_u hR (by unfold pwL; rw [e1]; rfl)
  rw [e2]
  ((repeat wtm_at "s"); (try conv => whnf))
  refine call_parsed_base h0 ?_
  rcases optI_non (o := pbL (tl z)) with ⟨f1, f2⟩ | ⟨n, f1, f2⟩
  rotate_left
  · rw [f2]
    ((repeat wtm_at "s"); (try conv => whnf))
    refine call_parsed_base h0 ?_
    rw [f2]
    ((repeat wtm_at "s"); (try conv => whnf))
    exact end_u hR (by unfold pwL; rw [e1, f1]; rfl)
  rw [f2]
  have hw : pwL (tl z) = pwP (tl z) := by unfold pwL; rw [e1, f1]
  rw [hw] at hR
  ((repeat wtm_at "s"); (try conv => whnf))
  refine forD_by (fun ds dl m => m = mu ∧ (∃ l1 l2 l3 l4 l5 l6 l7, dl = [some (.str z), l1, l2, l3, l4, l5, l6, l7]) ∧ ∃ r, outK (.ok (optP r)) mu Q E ∧ ((ds = [] ∧ r = none) ∨ (ds = [.tup [.str "-", .int (-1)]] ∧ r = pwM (tl z)) ∨ (ds = [.tup [.str "+", .int 1], .tup [.str "-", .int (-1)]] ∧ r = pwP (tl z)))) ?_ ?_ _ _ _ ⟨rfl, ⟨_, _, _, _, _, _, _, rfl⟩, _, hR, .inr (.inr ⟨rfl, rfl⟩)⟩
  · rintro dl m ⟨rfl, ⟨l1, l2, l3, l4, l5, l6, l7, rfl⟩, r, hR, ⟨_, rfl⟩ | ⟨e, _⟩ | ⟨e, _⟩⟩
    · refine ⟨rfl, ?_⟩
      ((repeat wtm_at "s"); (try conv => whnf))
      exact end_u hR rfl
    · cases e
    · cases e
  · rintro d ds dl m ⟨rfl, ⟨l1, l2, l3, l4, l5, l6, l7, rfl⟩, r, hR, ⟨e, _⟩ | ⟨e, rfl⟩ | ⟨e, rfl⟩⟩ nx hn
    · cases e
    · cases e
      have hn : ∀ dl', (∃ l1 l2 l3 l4 l5 l6 l7, dl' = [some (.str z), l1, l2, l3, l4, l5, l6, l7]) → pwM (tl z) = none → nx dl' m := fun dl' a b => hn _ _ ⟨rfl, a, none, by rw [b] at hR; exact hR, .inl ⟨rfl, rfl⟩⟩
      refine ⟨rfl, ?_⟩
      ((repeat wtm_at "s"); (try conv => whnf))
      cases hp : par [45] [] (tl z) with
      | none =>
        rw [part_none mi_tl hp]
        ((repeat wtm_at "s"); (try conv => whnf))
        refine call_parsed_base h0 ?_
        ((repeat wtm_at "s"); (try conv => whnf))
        refine call_written (by show Str.empty.length ≤ 100000; decide) ?_
        ((repeat wtm_at "s"); (try conv => whnf))
        exact hn _ ⟨_, _, _, _, _, _, _, rfl⟩ (by unfold pwM pwS; rw [hp])
      | some ab =>
        obtain ⟨a, b⟩ := ab
        have hla := par_len hp
        rw [← len_tl] at hla
        simp only [List.length_nil] at hla
        rw [part_some mi_tl hp]
        ((repeat wtm_at "s"); (try conv => whnf))
        refine call_parsed_base (by rw [mk_len]; omega) ?_
        ((repeat wtm_at "s"); (try conv => whnf))
        refine call_written (by rw [mk_len]; omega) ?_
        rw [tl_mk, tl_mk]
        have hm : pwM (tl z) = match pbL a, wrtL b with | some t, some n => some ((t : Int), -(n : Int)) | _, _ => none := by
          unfold pwM pwS
          rw [hp]
          dsimp only
          cases pbL a <;> cases wrtL b <;> rfl
        rcases optI_non (o := pbL a) with ⟨f1, f2⟩ | ⟨t, f1, f2⟩
        · rw [f2]
          ((repeat wtm_at "s"); (try conv => whnf))
          exact hn _ ⟨_, _, _, _, _, _, _, rfl⟩ (by rw [hm, f1])
        · rw [f2]
          rcases optI_non (o := wrtL b) with ⟨g1, g2⟩ | ⟨n, g1, g2⟩
          · rw [g2]
            ((repeat wtm_at "s"); (try conv => whnf))
            exact hn _ ⟨_, _, _, _, _, _, _, rfl⟩ (by rw [hm, f1, g1])
          · rw [g2]
            ((repeat wtm_at "s"); (try conv => whnf))
            refine end_u hR ?_
            rw [hm, f1, g1]
            show Out.ok (.tup [.int _, .int _]) = Out.ok (.tup [.int _, .int _])
            rw [show (-1 : Int) * (n : Int) = -(n : Int) by omega]
    · cases e
      have hn : ∀ dl', (∃ l1 l2 l3 l4 l5 l6 l7, dl' = [some (.str z), l1, l2, l3, l4, l5, l6, l7]) → pwP (tl z) = pwM (tl z) → nx dl' m := fun dl' a b => hn _ _ ⟨rfl, a, _, hR, .inr (.inl ⟨rfl, b⟩)⟩
      refine ⟨rfl, ?_⟩
      ((repeat wtm_at "s"); (try conv => whnf))
      cases hp : par [43] [] (tl z) with
      | none =>
        rw [part_none pl_tl hp]
        ((repeat wtm_at "s"); (try conv => whnf))
        refine call_parsed_base h0 ?_
        ((repeat wtm_at "s"); (try conv => whnf))
        refine call_written (by show Str.empty.length ≤ 100000; decide) ?_
        ((repeat wtm_at "s"); (try conv => whnf))
        exact hn _ ⟨_, _, _, _, _, _, _, rfl⟩ (by unfold pwP pwS; rw [hp])
      | some ab =>
        obtain ⟨a, b⟩ := ab
        have hla := par_len hp
        rw [← len_tl] at hla
        simp only [List.length_nil] at hla
        rw [part_some pl_tl hp]
        ((repeat wtm_at "s"); (try conv => whnf))
        refine call_parsed_base (by rw [mk_len]; omega) ?_
        ((repeat wtm_at "s"); (try conv => whnf))
        refine call_written (by rw [mk_len]; omega) ?_
        rw [tl_mk, tl_mk]
        have hm : pwP (tl z) = match pbL a, wrtL b with | some t, some n => if t < 10 then some ((t : Int), (n : Int)) else pwM (tl z) | _, _ => pwM (tl z) := by
          unfold pwP pwS
          rw [hp]
          dsimp only
          cases pbL a <;> cases wrtL b <;> rfl
        rcases optI_non (o := pbL a) with ⟨f1, f2⟩ | ⟨t, f1, f2⟩
        · rw [f2]
          ((repeat wtm_at "s"); (try conv => whnf))
          exact hn _ ⟨_, _, _, _, _, _, _, rfl⟩ (by rw [hm, f1])
        · rw [f2]
          rcases optI_non (o := wrtL b) with ⟨g1, g2⟩ | ⟨n, g1, g2⟩
          · rw [g2]
            ((repeat wtm_at "s"); (try conv => whnf))
            exact hn _ ⟨_, _, _, _, _, _, _, rfl⟩ (by rw [hm, f1, g1])
          · rw [g2]
            ((repeat wtm_at "s"); (try conv => whnf))
            refine Br.by (fun hb => ?_) (fun hb => ?_)
            · have hb2 : ((t : Nat) : Int) < 10 := of_decide_eq_true hb
              ((repeat wtm_at "s"); (try conv => whnf))
              refine end_u hR ?_
              rw [hm, f1, g1]
              show Out.ok (optP (if t < 10 then _ else _)) = _
              rw [if_pos (by omega)]
              show Out.ok (.tup [.int _, .int _]) = Out.ok (.tup [.int _, .int _])
              rw [show (1 : Int) * (n : Int) = (n : Int) by omega]
            · have hb2 : ¬ ((t : Nat) : Int) < 10 := of_decide_eq_false hb
              ((repeat wtm_at "s"); (try conv => whnf))
              refine hn _ ⟨_, _, _, _, _, _, _, rfl⟩ ?_
              rw [hm, f1, g1]
              show (if t < 10 then _ else _) = _
              rw [if_neg (by omega)]
open TL
/-! ### conditions and rows in texts -/
abbrev spS : Str := " "
abbrev andS : Str := " and "
abbrev colS : Str := ": "
theorem sp_tl : tl spS = [32] := by decide +kernel
theorem and_tl : tl andS = [32, 97, 110, 100, 32] := by decide +kernel
theorem col_tl : tl colS = [58, 32] := by decide +kernel
theorem spl_part_len (S : List Nat) : ∀ (l acc : List Nat) (k : Nat), ∀ p ∈ spl S k acc l, p.length ≤ acc.length + l.length
  | [], acc, k, p, h => by
    rw [spl_nil] at h
    rw [List.mem_singleton.mp h]
    simp
  | c :: r, acc, 0, p, h => by
    by_cases hp : pre S (c :: r) = true
    · rw [spl_hit hp] at h
      rcases List.mem_cons.mp h with e | h
      · rw [e]; omega
      · have := spl_part_len S r [] _ p h
        simp only [List.length_nil, List.length_cons] at this ⊢
        omega
    · rw [spl_miss (by simpa using hp)] at h
      have := spl_part_len S r _ _ p h
      rw [List.length_append] at this
      simp only [List.length_cons, List.length_nil] at this ⊢
      omega
  | c :: r, acc, k + 1, p, h => by
    have := spl_part_len S r acc k p h
    simp only [List.length_cons]
    omega
theorem spl_len (S : List Nat) : ∀ (l acc : List Nat) (k : Nat), (spl S k acc l).length ≤ l.length + 1
  | [], acc, k => by rw [spl_nil]; simp
  | c :: r, acc, 0 => by
    by_cases hp : pre S (c :: r) = true
    · rw [spl_hit hp]
      have := spl_len S r [] (S.length - 1)
      simp only [List.length_cons]
      omega
    · rw [spl_miss (by simpa using hp)]
      have := spl_len S r (acc ++ [c]) 0
      simp only [List.length_cons]
      omega
  | c :: r, acc, k + 1 => by
    have := spl_len S r acc k
    show (spl S k acc r).length ≤ _
    simp only [List.length_cons]
    omega
theorem split_part_len {z y : Str} (hy : tl y ≠ []) (hk : y.cps.all (· < 256) = true) {p : Str} (h : p ∈ Txt.split z y) : p.length ≤ z.length := by
  have e := split_spl z y hy (kind_ok hk)
  have h1 : tl p ∈ (Txt.split z y).map tl := List.mem_map.mpr ⟨p, h, rfl⟩
  rw [e] at h1
  have := spl_part_len _ _ _ _ _ h1
  rw [← len_tl, ← len_tl] at this
  simpa using this
theorem split_len {z y : Str} (hy : tl y ≠ []) (hk : y.cps.all (· < 256) = true) : (Txt.split z y).length ≤ z.length + 1 := by
  have e := congrArg List.length (split_spl z y hy (kind_ok hk))
  rw [List.length_map] at e
  rw [e, len_tl z]
  exact spl_len _ _ _ _
def pcO (z : Str) : Option Cnd := match Txt.split z spS with
  | [q, s, w] => if q ∈ [("points" : Str), "members"] then
      if s ∈ [(">=" : Str), "<"] then (wrtL (tl w)).map fun (n : Nat) => Cnd.mk q (decide (s = "<")) 0 ((n : Int) - 1) else none
    else if q ∈ [("better" : Str), "upto"] ∧ s ∈ [("<=" : Str), ">"] then (pwL (tl w)).map fun (p : Int × Int) => Cnd.mk q (decide (s = "<=")) p.1 p.2 else none
  | _ => none
def optC : Option Cnd → D
  | some c => c.d
  | none => .non
theorem len_three {α : Type} {l : List α} (h : l.length = 3) : ∃ a b c, l = [a, b, c] := by
  match l, h with
  | [a, b, c], _ => exact ⟨a, b, c, rfl⟩
def sparsed_condition : SpD := spU 1 fun ds_ o_ => ∃ (z : Str), ds_ = [.str z] ∧ (z.length ≤ 100000) ∧ o_ = .ok (optC (pcO z))
theorem call_parsed_condition {z : Str} {mu : Mu} {Q : KD} {E : EdF} (h0 : z.length ≤ 100000) (kk_ : outK (.ok (optC (pcO z))) mu Q E) : sparsed_condition [.str z] mu Q E := spU_at ⟨_, rfl, h0, rfl⟩ rfl kk_
def tparsed_condition (Ed : EdT) : TSd :=
  sSeq (sAsg (dStr splitD (dVar 0) (dCons (dC (.str " ")) (dNil))) (kName 1)) (sSeq (sIf (dTest (dBin fNe (dB (gOf lenD) (dCons (dVar 1) (dNil))) (dC (.int 3)))) (sRet (dC .non)) (sNext)) (sSeq (sAsg (dVar 1) (kSeq 3 (kCons (kName 2) (kCons (kName 3) (kCons (kName 4) (kNil)))))) (sSeq (sIf (dTest (dBin (fIn false) (dVar 2) (dTup (dCons (dC (.str "points")) (dCons (dC (.str "members")) (dNil)))))) (sSeq (sAsg (dCall swritten Ed (dCons (dVar 4) (dNil))) (kName 5)) (sSeq (sIf (dOr (dTest (dBin (fIn true) (dVar 3) (dTup (dCons (dC (.str ">=")) (dCons (dC (.str "<")) (dNil)))))) (dTest (dBin (fIsN false) (dVar 5) (dC .non)))) (sRet (dC .non)) (sNext)) (sRet (dMake "Condition" sCondition_init Ed (dCons (dVar 2) (dCons (dBin fEq (dVar 3) (dC (.str "<"))) (dCons (dTup (dCons (dC (.int 0)) (dCons (dBin fSub (dVar 5) (dC (.int 1))) (dNil)))) (dNil)))))))) (sNext)) (sSeq (sIf (dOr (dTest (dBin (fIn true) (dVar 2) (dTup (dCons (dC (.str "better")) (dCons (dC (.str "upto")) (dNil)))))) (dOr (dTest (dBin (fIn true) (dVar 3) (dTup (dCons (dC (.str "<=")) (dCons (dC (.str ">")) (dNil)))))) (dTest (dBin (fIsN false) (dCall sparsed_word Ed (dCons (dVar 4) (dNil))) (dC .non))))) (sRet (dC .non)) (sNext)) (sRet (dMake "Condition" sCondition_init Ed (dCons (dVar 2) (dCons (dBin fEq (dVar 3) (dC (.str "<="))) (dCons (dCall sparsed_word Ed (dCons (dVar 4) (dNil))) (dNil))))))))))
abbrev Nparsed_condition : List Str := ["text", "parts", "quantity", "sign", "word", "plain"]
theorem gsparsed_condition : GoodSp sparsed_condition := spU_good
theorem lenparsed_condition : ∀ ds mu Q E, sparsed_condition ds mu Q E → ds.length = 1 := spU_len
theorem pparsed_condition : ∀ ds mu Q E, lowL mu.length mu = true → lowL mu.length ds = true → sparsed_condition ds mu Q E → tparsed_condition (fun _ c fs m => E c fs m) (endD mu.length Q) (startD Nparsed_condition ds) mu := by
  intro ds mu Q E l1 l2 h
  obtain ⟨o_, ⟨z, rfl, h0, rfl⟩, hR⟩ := spU_of h
  have no : pcO z = none → ∃ d' m', Frz mu .non m' d' ∧ mu.length ≤ List.length m' ∧ Q d' m' := fun e => end_u hR (by rw [e]; rfl)
  have hpl : ∀ p ∈ Txt.split z spS, p.length ≤ 100000 := fun p hp => Nat.le_trans (split_part_len (by rw [sp_tl]; simp) (by decide +kernel) hp) h0
  have hpo : pcO z = match Txt.split z spS with | [q, s, w] => if q ∈ [("points" : Str), "members"] then if s ∈ [(">=" : Str), "<"] then (wrtL (tl w)).map fun (n : Nat) => Cnd.mk q (decide (s = "<")) 0 ((n : Int) - 1) else none else if q ∈ [("better" : Str), "upto"] ∧ s ∈ [("<=" : Str), ">"] then (pwL (tl w)).map fun (p : Int × Int) => Cnd.mk q (decide (s = "<=")) p.1 p.2 else none | _ => none := rfl
  ((repeat wtm_at "s"); (try conv => whnf))
  generalize Txt.split z spS = ps at *
  rw [List.length_map]
  refine Br.by (fun hb => ?_) (fun hb => ?_)
  · have hb2 : ¬ ps.length = 3 := fun e => by
      rw [decide_eq_true (by omega : ((ps.length : Nat) : Int) = 3)] at hb
      cases hb
    ((repeat wtm_at "s"); (try conv => whnf))
    refine no ?_
    rw [hpo]
    split
    · exact absurd rfl hb2
    · rfl
  · have hb2 : ps.length = 3 := by
      cases hq : decide (((ps.length : Nat) : Int) = 3) with
      | true => have := of_decide_eq_true hq; omega
      | false => rw [hq] at hb; cases hb
    obtain ⟨q, s, w, rfl⟩ := len_three hb2
    have hw : w.length ≤ 100000 := hpl w (by simp)
    dsimp only at hpo
    ((repeat wtm_at "s"); (try conv => whnf))
    have i1 := any_strs q ["points", "members"]
    have i2 := any_strs q ["better", "upto"]
    have i3 := any_strs s [">=", "<"]
    have i4 := any_strs s ["<=", ">"]
    simp only [strsD, List.map_cons, List.map_nil] at i1 i2 i3 i4
    rw [i1]
    refine Br.by (fun hc => ?_) (fun hc => ?_)
    · have hc2 := of_decide_eq_true hc
      rw [if_pos hc2] at hpo
      ((repeat wtm_at "s"); (try conv => whnf))
      refine call_written hw ?_
      ((repeat wtm_at "s"); (try conv => whnf))
      rw [i3]
      refine Br.by (fun hd => ?_) (fun hd => ?_)
      · have hd2 : ¬ s ∈ [(">=" : Str), "<"] := fun e => by
          rw [decide_eq_true e] at hd
          cases hd
        ((repeat wtm_at "s"); (try conv => whnf))
        exact no (by rw [hpo, if_neg hd2])
      · have hd2 : s ∈ [(">=" : Str), "<"] := by
          cases hq : decide (s ∈ [(">=" : Str), "<"]) with
          | true => exact of_decide_eq_true hq
          | false => rw [hq] at hd; cases hd
        rw [if_pos hd2] at hpo
        rcases optI_non (o := wrtL (tl w)) with ⟨g1, g2⟩ | ⟨n, g1, g2⟩
        · rw [g2]
          ((repeat wtm_at "s"); (try conv => whnf))
          exact no (by rw [hpo, g1]; rfl)
        · rw [g2]
          ((repeat wtm_at "s"); (try conv => whnf))
          refine call_cond_init (app_get _ _) ?_
          rw [app_set]
          refine ⟨rfl, _, _, Frz.obj l1 (by simp only [lowF, lowD, lowL]; rfl), Nat.le_refl _, ?_⟩
          exact end_u hR (by rw [hpo, g1]; rfl)
    · have hc2 := of_decide_eq_false hc
      rw [if_neg hc2] at hpo
      ((repeat wtm_at "s"); (try conv => whnf))
      rw [i2]
      refine Br.by (fun hd => ?_) (fun hd => ?_)
      · have hd2 : ¬ q ∈ [("better" : Str), "upto"] := fun e => by
          rw [decide_eq_true e] at hd
          cases hd
        ((repeat wtm_at "s"); (try conv => whnf))
        exact no (by rw [hpo, if_neg fun z => hd2 z.1])
      · have hd2 : q ∈ [("better" : Str), "upto"] := by
          cases hq : decide (q ∈ [("better" : Str), "upto"]) with
          | true => exact of_decide_eq_true hq
          | false => rw [hq] at hd; cases hd
        ((repeat wtm_at "s"); (try conv => whnf))
        rw [i4]
        refine Br.by (fun he => ?_) (fun he => ?_)
        · have he2 : ¬ s ∈ [("<=" : Str), ">"] := fun e => by
            rw [decide_eq_true e] at he
            cases he
          ((repeat wtm_at "s"); (try conv => whnf))
          exact no (by rw [hpo, if_neg fun z => he2 z.2])
        · have he2 : s ∈ [("<=" : Str), ">"] := by
            cases hq : decide (s ∈ [("<=" : Str), ">"]) with
            | true => exact of_decide_eq_true hq
            | false => rw [hq] at he; cases he
          rw [if_pos ⟨hd2, he2⟩] at hpo
          ((repeat wtm_at "s"); (try conv => whnf))
          refine call_parsed_word hw ?_
          cases hp : pwL (tl w) with
          | none =>
            rw [hp] at hpo
            ((repeat wtm_at "s"); (try conv => whnf))
            exact no hpo
          | some p =>
            rw [hp] at hpo
            ((repeat wtm_at "s"); (try conv => whnf))
            refine call_parsed_word hw ?_
            rw [hp]
            ((repeat wtm_at "s"); (try conv => whnf))
            refine call_cond_init (app_get _ _) ?_
            rw [app_set]
            refine ⟨rfl, _, _, Frz.obj l1 (by simp only [lowF, lowD, lowL]; rfl), Nat.le_refl _, ?_⟩
            exact end_u hR (by rw [hpo]; rfl)
open TL
def prO (d : D) (gs : List Str) (last : Bool) : Option Rw := match d with
  | .str z => if last = true then (if z ∈ gs then some ⟨[], z⟩ else none)
    else if (Txt.rpartition z colS).2.1 = Str.ofString "" ∨ (Txt.rpartition z colS).2.2 ∉ gs ∨ ((Txt.split (Txt.rpartition z colS).1 andS).map pcO).any Option.isNone = true ∨ 2 < (Txt.split (Txt.rpartition z colS).1 andS).length then none
      else some ⟨((Txt.split (Txt.rpartition z colS).1 andS).map pcO).filterMap id, (Txt.rpartition z colS).2.2⟩
  | _ => none
def optR : Option Rw → D
  | some r => r.d
  | none => .non
theorem cnd_low (n : Nat) (c : Cnd) : lowD n c.d = true := by
  simp only [Cnd.d, cndD, lowD, lowF, lowL]
  rfl
theorem cnds_low (n : Nat) : ∀ cs : List Cnd, lowL n (cs.map Cnd.d) = true
  | [] => rfl
  | c :: r => by
    show (lowD n c.d && lowL n (r.map Cnd.d)) = true
    rw [cnd_low, cnds_low]
    rfl
theorem row_low (n : Nat) (r : Rw) : lowD n r.d = true := by
  show (lowL n (r.cs.map Cnd.d) && (_ && _)) = true
  rw [cnds_low]
  rfl
theorem rows_low (n : Nat) : ∀ cs : List Rw, lowL n (cs.map Rw.d) = true
  | [] => rfl
  | c :: r => by
    show (lowD n c.d && lowL n (r.map Rw.d)) = true
    rw [row_low, rows_low]
    rfl
theorem optC_ok : ∀ os : List (Option Cnd), (os.map optC).all (okNon ["Condition"]) = true
  | [] => rfl
  | none :: r => by
    show (true && _) = true
    rw [Bool.true_and]
    exact optC_ok r
  | some c :: r => by
    show (([("Condition" : Str)]).contains (Str.ofString "Condition") && _) = true
    rw [show ([("Condition" : Str)]).contains (Str.ofString "Condition") = true by decide +kernel, Bool.true_and]
    exact optC_ok r
theorem optC_any : ∀ os : List (Option Cnd), (os.map optC).any isNonD = os.any Option.isNone
  | [] => rfl
  | none :: r => by
    show (true || _) = (true || _)
    rw [Bool.true_or, Bool.true_or]
  | some c :: r => by
    show (false || _) = (false || _)
    rw [Bool.false_or, Bool.false_or, optC_any r]
theorem nin_cnds {mu : Mu} (os : List (Option Cnd)) : ninO ["Condition"] mu .non (.lst (os.map optC)) = some (True, .bl (os.any Option.isNone)) := by
  simp only [ninO, asL]
  rw [optC_any, ← eq_true (optC_ok os)]
theorem optC_some : ∀ {os : List (Option Cnd)}, os.any Option.isNone = false → os.map optC = (os.filterMap id).map Cnd.d
  | [], _ => rfl
  | none :: r, h => by cases h
  | some c :: r, h => by
    rw [List.map_cons, optC_some (os := r) h]
    rfl
def sparsed_row : SpD := spU 3 fun ds_ o_ => ∃ (d gd : D) (gs : List Str) (last : Bool), ds_ = [d, gd, .bl last] ∧ (plainB d = true) ∧ (fitD d = true) ∧ (∀ m, seqOf m gd = some (strsD gs)) ∧ o_ = .ok (optR (prO d gs last))
theorem call_parsed_row {d gd : D} {gs : List Str} {last : Bool} {mu : Mu} {Q : KD} {E : EdF} (h1 : plainB d = true) (h2 : fitD d = true) (hg : ∀ m, seqOf m gd = some (strsD gs)) (kk_ : outK (.ok (optR (prO d gs last))) mu Q E) : sparsed_row [d, gd, .bl last] mu Q E := spU_at ⟨_, _, _, _, rfl, h1, h2, hg, rfl⟩ rfl kk_
def tparsed_row (Ed : EdT) : TSd :=
  sSeq (sIf (dNot (dTest (dIsi .str (dVar 0)))) (sRet (dC .non)) (sNext)) (sSeq (sIf (dTest (dVar 2)) (sRet (dIf (dTest (dBin (fIn false) (dVar 0) (dVar 1))) (dMake "Row" sRow_init Ed (dCons (dLst (dNil)) (dCons (dVar 0) (dNil)))) (dC .non))) (sNext)) (sSeq (sAsg (dStr rpartD (dVar 0) (dCons (dC (.str ": ")) (dNil))) (kSeq 3 (kCons (kName 3) (kCons (kName 4) (kCons (kName 5) (kNil)))))) (sSeq (sAsg (dLc (iSeq (dStr splitD (dVar 3) (dCons (dC (.str " and ")) (dNil)))) (kName 7) (dYes) (dCall sparsed_condition noE (dCons (dVar 7) (dNil))) [7]) (kName 6)) (sSeq (sIf (dOr (dTest (dBin fEq (dVar 4) (dC (.str "")))) (dOr (dTest (dBin (fIn true) (dVar 5) (dVar 1))) (dOr (dTest (dBin (fOf (ninO ["Condition"])) (dC .non) (dVar 6))) (dTest (dBin fGt (dB (gOf lenD) (dCons (dVar 6) (dNil))) (dC (.int (2)))))))) (sRet (dC .non)) (sNext)) (sRet (dMake "Row" sRow_init Ed (dCons (dVar 6) (dCons (dVar 5) (dNil)))))))))
abbrev Nparsed_row : List Str := ["text", "grades", "is_last", "left", "colon", "grade", "conditions", "part"]
theorem gsparsed_row : GoodSp sparsed_row := spU_good
theorem lenparsed_row : ∀ ds mu Q E, sparsed_row ds mu Q E → ds.length = 3 := spU_len
theorem pparsed_row : ∀ ds mu Q E, lowL mu.length mu = true → lowL mu.length ds = true → sparsed_row ds mu Q E → tparsed_row (fun _ c fs m => E c fs m) (endD mu.length Q) (startD Nparsed_row ds) mu := by
  intro ds mu Q E l1 l2 h
  obtain ⟨o_, ⟨d, gd, gs, last, rfl, h1, h2, hg, rfl⟩, hR⟩ := spU_of h
  cases d <;> first | (cases h1; done) | skip
  case str z =>
    have hz : z.length ≤ 100000 := of_decide_eq_true h2
    have no : prO (.str z) gs last = none → ∃ d' m', Frz mu .non m' d' ∧ mu.length ≤ List.length m' ∧ Q d' m' := fun e => end_u hR (by rw [e]; rfl)
    cases last with
    | true =>
      have hpo : prO (.str z) gs true = if z ∈ gs then some ⟨[], z⟩ else none := rfl
      ((repeat (first | rw [in_strs (hg mu)] | wtm_at "r" | ((conv => whnf); first | rw [in_strs (hg mu)] | wtm_at "r"))); (try conv => whnf))
      refine Br.by (fun hb => ?_) (fun hb => ?_)
      · have hb2 : z ∈ gs := of_decide_eq_true (show decide (z ∈ gs) = true from hb)
        ((repeat wtm_at "s"); (try conv => whnf))
        refine call_row_init (app_get _ _) ?_
        rw [app_set]
        refine ⟨rfl, _, _, Frz.obj l1 (by simp only [lowF, lowD, lowL]; rfl), Nat.le_refl _, ?_⟩
        exact end_u hR (by rw [hpo, if_pos hb2]; rfl)
      · have hb2 : ¬ z ∈ gs := of_decide_eq_false (show decide (z ∈ gs) = false from hb)
        ((repeat wtm_at "s"); (try conv => whnf))
        exact no (by rw [hpo, if_neg hb2])
    | false =>
      have hpo : prO (.str z) gs false = if (Txt.rpartition z colS).2.1 = Str.ofString "" ∨ (Txt.rpartition z colS).2.2 ∉ gs ∨ ((Txt.split (Txt.rpartition z colS).1 andS).map pcO).any Option.isNone = true ∨ 2 < (Txt.split (Txt.rpartition z colS).1 andS).length then none else some ⟨((Txt.split (Txt.rpartition z colS).1 andS).map pcO).filterMap id, (Txt.rpartition z colS).2.2⟩ := rfl
      have hf := fact_rpartition z colS
      ((repeat wtm_at "s"); (try conv => whnf))
      generalize Txt.rpartition z colS = P at *
      obtain ⟨L, c, g⟩ := P
      dsimp only at hpo hf
      ((repeat wtm_at "s"); (try conv => whnf))
      have hsp : (Txt.split L andS).length ≤ 100001 := Nat.le_trans (split_len (by rw [and_tl]; simp) (by decide +kernel)) (by omega)
      have hpl : ∀ p ∈ Txt.split L andS, p.length ≤ 100000 := fun p hp => Nat.le_trans (split_part_len (by rw [and_tl]; simp) (by decide +kernel) hp) (by omega)
      generalize Txt.split L andS = ps at *
      refine lc_map ps D.str (fun p => optC (pcO p)) rfl (by omega) (fun p hp nn hn => ?_) ?_
      · ((repeat wtm_at "s"); (try conv => whnf))
        refine call_parsed_condition (hpl p hp) ?_
        exact hn
      · rw [show (ps.map fun p => optC (pcO p)) = (ps.map pcO).map optC by rw [List.map_map]; rfl]
        have hlm : ((ps.map pcO).map optC).length = ps.length := by rw [List.length_map, List.length_map]
        ((repeat wtm_at "s"); (try conv => whnf))
        refine Br.by (fun hb => ?_) (fun hb => ?_)
        · have hb2 := of_decide_eq_true hb
          ((repeat wtm_at "s"); (try conv => whnf))
          exact no (by rw [hpo, if_pos (.inl hb2)])
        · have hb2 := of_decide_eq_false hb
          ((repeat (first | rw [nin_strs (hg mu)] | wtm_at "r" | ((conv => whnf); first | rw [nin_strs (hg mu)] | wtm_at "r"))); (try conv => whnf))
          refine Br.by (fun hc => ?_) (fun hc => ?_)
          · have hc2 : ¬ g ∈ gs := fun e => by
              rw [decide_eq_true e] at hc
              cases hc
            ((repeat wtm_at "s"); (try conv => whnf))
            exact no (by rw [hpo, if_pos (.inr (.inl hc2))])
          · have hc2 : g ∈ gs := by
              cases hq : decide (g ∈ gs) with
              | true => exact of_decide_eq_true hq
              | false => rw [hq] at hc; cases hc
            ((repeat wtm_at "s"); (try conv => whnf))
            refine ⟨optC_ok _, ?_⟩
            rw [optC_any]
            ((repeat wtm_at "s"); (try conv => whnf))
            refine Br.by (fun hd => ?_) (fun hd => ?_)
            · have hd2 : (ps.map pcO).any Option.isNone = true := hd
              ((repeat wtm_at "s"); (try conv => whnf))
              exact no (by rw [hpo, if_pos (.inr (.inr (.inl hd2)))])
            · have hd2 : (ps.map pcO).any Option.isNone = false := hd
              ((repeat wtm_at "s"); (try conv => whnf))
              rw [hlm]
              refine Br.by (fun he => ?_) (fun he => ?_)
              · have he2 := of_decide_eq_true he
                ((repeat wtm_at "s"); (try conv => whnf))
                exact no (by rw [hpo, if_pos (.inr (.inr (.inr (by omega))))])
              · have he2 := of_decide_eq_false he
                ((repeat wtm_at "s"); (try conv => whnf))
                refine call_row_init (app_get _ _) ?_
                rw [app_set, optC_some hd2]
                refine ⟨rfl, _, _, Frz.obj l1 ?_, Nat.le_refl _, ?_⟩
                · show (lowL _ _ && (_ && _)) = true
                  rw [cnds_low]
                  rfl
                · refine end_u hR ?_
                  rw [hpo, if_neg fun q => ?_]
                  · rfl
                  · rcases q with q | q | q | q
                    · exact hb2 q
                    · exact q hc2
                    · rw [hd2] at q; cases q
                    · omega
  all_goals
    ((repeat wtm_at "s"); (try conv => whnf))
    exact end_u hR rfl
/-- the rows of a rule -/
def rwsO (gs : List Str) : List D → Option (List Rw)
  | [] => some []
  | [x] => (prO x gs true).map fun r => [r]
  | x :: y :: r => match prO x gs false, rwsO gs (y :: r) with
    | some a, some b => some (a :: b)
    | _, _ => none
theorem rws_cons {gs : List Str} {x : D} {xs : List D} {rs : List Rw} (h : rwsO gs (x :: xs) = some rs) : ∃ a b, rs = a :: b ∧ prO x gs (decide (xs = [])) = some a ∧ rwsO gs xs = some b := by
  cases xs with
  | nil =>
    cases e : prO x gs true with
    | none => rw [rwsO, e] at h; cases h
    | some a =>
      rw [rwsO, e] at h
      cases h
      exact ⟨a, [], rfl, e, rfl⟩
  | cons y r =>
    rw [rwsO] at h
    cases e : prO x gs false with
    | none => rw [e] at h; cases h
    | some a =>
      cases e2 : rwsO gs (y :: r) with
      | none => rw [e, e2] at h; cases h
      | some b =>
        rw [e, e2] at h
        cases h
        exact ⟨a, b, rfl, e, rfl⟩
theorem set_same {mu : Mu} {n : Nat} {d e : D} : (mu.set n d).set n e = mu.set n e := by rw [List.set_set]
theorem cut_to {xs : List D} {j : Nat} (h : j ≤ xs.length) : cutD xs none (some ((j : Nat) : Int)) = xs.take j := by
  unfold cutD
  rw [HT.sIx_none, HT.sIx_nat, List.drop_zero, Nat.sub_zero, Nat.min_eq_left h]
def grdOk (zs : List Str) : Prop := 2 ≤ zs.length ∧ zs.length ≤ 4 ∧ (∀ z ∈ zs, labB z = true) ∧ zs.Nodup
def scheck_rows : SpD := spU 2 fun ds_ o_ => ∃ (gd vd : D) (gs : List Str) (xs : List D) (rs : List Rw), ds_ = [gd, vd] ∧ (∀ m, seqOf m gd = some (strsD gs)) ∧ (vd = .tup xs ∨ vd = .ptup xs) ∧ (∀ x ∈ xs, plainB x = true ∧ fitD x = true) ∧ (rwsO gs xs = some rs) ∧ (xs ≠ []) ∧ (xs.length ≤ 5) ∧ o_ = .ok (.lst (rs.map Rw.d))
theorem call_check_rows {gd vd : D} {gs : List Str} {xs : List D} {rs : List Rw} {mu : Mu} {Q : KD} {E : EdF} (hg : ∀ m, seqOf m gd = some (strsD gs)) (hv : vd = .tup xs ∨ vd = .ptup xs) (hx : ∀ x ∈ xs, plainB x = true ∧ fitD x = true) (hr : rwsO gs xs = some rs) (hn : xs ≠ []) (hl : xs.length ≤ 5) (kk_ : outK (.ok (.lst (rs.map Rw.d))) mu Q E) : scheck_rows [gd, vd] mu Q E := spU_at ⟨_, _, _, _, _, rfl, hg, hv, hx, hr, hn, hl, rfl⟩ rfl kk_
def tcheck_rows (Ed : EdT) : TSd :=
  sSeq (sIf (dOr (dNot (dTest (dIsi .tuple (dVar 1)))) (dTest (dBin fEq (dB (gOf lenD) (dCons (dVar 1) (dNil))) (dC (.int 0))))) (sRaise "InvalidRows" "index" (dC .non) Ed) (sNext)) (sSeq (sAsg (dLstM (dNil)) (kName 2)) (sSeq (sFor (iEnu (dCons (dVar 1) (dNil))) (kSeq 2 (kCons (kName 3) (kCons (kName 4) (kNil)))) (sSeq (sAsg (dIf (dTest (dBin fLt (dVar 3) (dC (.int (5))))) (dCall sparsed_row Ed (dCons (dVar 4) (dCons (dVar 0) (dCons (dBin fEq (dVar 3) (dBin fSub (dB (gOf lenD) (dCons (dVar 1) (dNil))) (dC (.int 1)))) (dNil))))) (dC .non)) (kName 5)) (sSeq (sIf (dTest (dBin (fIsN false) (dVar 5) (dC .non))) (sRaise "InvalidRows" "index" (dVar 3) Ed) (sNext)) (sExpr (dApp (dVar 2) (dCons (dVar 5) (dNil))))))) (sRet (dVar 2))))
abbrev Ncheck_rows : List Str := ["grades", "value", "found", "index", "text", "row"]
theorem gscheck_rows : GoodSp scheck_rows := spU_good
theorem lencheck_rows : ∀ ds mu Q E, scheck_rows ds mu Q E → ds.length = 2 := spU_len
theorem pcheck_rows : ∀ ds mu Q E, lowL mu.length mu = true → lowL mu.length ds = true → scheck_rows ds mu Q E → tcheck_rows (fun _ c fs m => E c fs m) (endD mu.length Q) (startD Ncheck_rows ds) mu := by
  intro ds mu Q E l1 l2 h
  obtain ⟨o_, ⟨gd, vd, gs, xs, rs, rfl, hg, hv, hx, hr, hn, hl, rfl⟩, hR⟩ := spU_of h
  obtain ⟨V, hV⟩ : ∃ V, V = vd := ⟨_, rfl⟩
  have hvs : ∀ m, seqOf m V = some xs := fun m => by
    rw [hV]
    rcases hv with rfl | rfl <;> rfl
  have hlast : ∀ d dn re, xs = dn ++ d :: re → (decide (((dn.length : Nat) : Int) = ((xs.length : Nat) : Int) - 1)) = decide (re = []) := fun d dn re e => by
    rw [decide_eq_decide, e, List.length_append, List.length_cons, ← List.length_eq_zero_iff]
    omega
  obtain ⟨x0, r0, e0⟩ := List.exists_cons_of_ne_nil hn
  rcases hv with rfl | rfl
  all_goals
    rw [e0] at hV
    rw [e0]
    ((repeat wtm_at "s"); (try conv => whnf))
    rw [enumD_eq, ← e0]
    refine forD_by (fun ds dl m => ∃ dn re rd rr i1 i2 i3, xs = dn ++ re ∧ ds = enumF dn.length re ∧ m = mu ++ [.lst (rd.map Rw.d)] ∧ dl = [some gd, some V, some (.loc mu.length), i1, i2, i3] ∧ rs = rd ++ rr ∧ rwsO gs re = some rr ∧ rd.length = dn.length) ?_ ?_ _ _ _ ⟨[], xs, [], rs, none, none, none, rfl, rfl, rfl, by rw [hV, ← e0]; rfl, rfl, hr, rfl⟩
    · rintro dl m ⟨dn, re, rd, rr, i1, i2, i3, e1, e2, rfl, rfl, e3, e4, e5⟩
      have er : re = [] := by
        cases re with
        | nil => rfl
        | cons a b => cases e2
      subst er
      cases e4
      rw [List.append_nil] at e3
      subst e3
      refine ⟨trivial, ?_⟩
      ((repeat wtm_at "s"); (try conv => whnf))
      exact ⟨_, _, Frz.lst l1 (rows_low _ _), Nat.le_refl _, hR⟩
    · rintro d ds dl m ⟨dn, re, rd, rr, i1, i2, i3, e1, e2, rfl, rfl, e3, e4, e5⟩ nx hnx
      cases re with
      | nil => cases e2
      | cons x re =>
        cases e2
        obtain ⟨a, b, rfl, e6, e7⟩ := rws_cons e4
        have hx1 := hx x (by rw [e1]; simp)
        have hj : dn.length + (re.length + 1) = xs.length := by rw [e1, List.length_append, List.length_cons]
        have hrd : (rd.map Rw.d).length = rd.length := List.length_map _
        refine ⟨trivial, ?_⟩
        ((repeat wtm_at "s"); (try conv => whnf))
        rw [show decide (((dn.length : Nat) : Int) < 5) = true from decide_eq_true (by omega)]
        ((repeat (first | rw [lenS (hvs _)] | wtm_at "r" | ((conv => whnf); first | rw [lenS (hvs _)] | wtm_at "r"))); (try conv => whnf))
        rw [hlast x dn re e1]
        refine call_parsed_row (last := decide (re = [])) hx1.1 hx1.2 hg ?_
        rw [e6, show optR (some a) = a.d from rfl]
        have e8 : (dn ++ [x]).length = dn.length + 1 := by simp
        have happ : appO (mu ++ [.lst (rd.map Rw.d)]) (.loc mu.length) [a.d] = some ((rd.map Rw.d).length < sizeLine, mu ++ [.lst (rd.map Rw.d ++ [a.d])]) := by
          simp only [appO, app_get, app_set]
        have has : asL1 (mu ++ [.lst (rd.map Rw.d)]) (.loc mu.length) = some (rd.map Rw.d) := by simp only [asL1, app_get]
        ((repeat (first | rw [has] | rw [happ] | wtm_at "r" | ((conv => whnf); first | rw [has] | rw [happ] | wtm_at "r"))); (try conv => whnf))
        refine hnx _ _ ⟨dn ++ [x], re, rd ++ [a], b, _, _, _, by rw [e1, List.append_assoc]; rfl, by rw [e8], by rw [List.map_append]; rfl, rfl, by rw [e3, List.append_assoc]; rfl, e7, by rw [List.length_append, List.length_append, e5]; rfl⟩
/-! ### wrong grades -/
def tupL : D → Option (List D)
  | .tup xs => some xs
  | .ptup xs => some xs
  | _ => none
theorem tupL_seq {d : D} {xs : List D} (h : tupL d = some xs) (m : Mu) : seqOf m d = some xs := by
  cases d <;> first | (cases h; rfl) | cases h
theorem isi_tup {d : D} (h : plainB d = true) : isiB .tuple d = some (tupL d).isSome := by
  cases d <;> first | rfl | cases h
theorem tupL_sl {d : D} {xs : List D} (h : tupL d = some xs) (m : Mu) (n : Nat) (hn : n ≤ xs.length) : slD m d none (some ((n : Nat) : Int)) = some (True, .tup (xs.take n)) := by
  have e : cutD xs none (some ((n : Nat) : Int)) = xs.take n := cut_to hn
  cases d <;> first | (cases h; done) | skip
  all_goals
    cases h
    show some (True, D.tup (cutD xs none (some ((n : Nat) : Int)))) = _
    rw [e]
/-- the first grade that is not right, those ahead of it at hand -/
def wrongG : List Str → List D → Option Nat
  | _, [] => none
  | seen, .str z :: r => if seen.length = 4 ∨ ¬ (labB z = true) ∨ z ∈ seen then some seen.length else wrongG (seen ++ [z]) r
  | seen, _ :: _ => some seen.length
def gradesL (xs : List D) : Out := if xs.length < 2 then .err "InvalidGrades" [("index", .non)] else match wrongG [] xs with
  | none => .ok .non
  | some j => .err "InvalidGrades" [("index", .int ((j : Nat) : Int))]
def gradesO (d : D) : Out := match tupL d with
  | some xs => gradesL xs
  | none => .err "InvalidGrades" [("index", .non)]
def grdE (d : D) : Prop := plainB d = true ∧ ∀ xs, tupL d = some xs → ∀ x ∈ xs, plainB x = true ∧ fitD x = true
theorem wrongG_no {seen : List Str} {d : D} {r : List D} (h : nameD d = false) : wrongG seen (d :: r) = some seen.length := by
  cases d <;> first | rfl | skip
  rename_i z
  have h : labB z = false := h
  show (if seen.length = 4 ∨ ¬ (labB z = true) ∨ z ∈ seen then some seen.length else _) = _
  rw [if_pos (.inr (.inl (by rw [h]; decide)))]
theorem wrongG_four {seen : List Str} {d : D} {r : List D} (h : seen.length = 4) : wrongG seen (d :: r) = some seen.length := by
  cases d <;> first | rfl | skip
  rename_i z
  show (if seen.length = 4 ∨ ¬ (labB z = true) ∨ z ∈ seen then some seen.length else _) = _
  rw [if_pos (.inl h)]
theorem name_of {d : D} (h : nameD d = true) : ∃ z, d = .str z ∧ labB z = true := by
  cases d <;> first | (cases h; done) | exact ⟨_, rfl, h⟩
theorem take_seen {seen : List Str} {r : List D} : (strsD seen ++ r).take seen.length = strsD seen := List.take_left' (by simp [strsD])
def scheck_grades : SpD := spU 1 fun ds_ o_ => ∃ (d : D), ds_ = [d] ∧ (grdE d) ∧ o_ = gradesO d
theorem call_check_grades {d : D} {mu : Mu} {Q : KD} {E : EdF} (h : grdE d) (kk_ : outK (gradesO d) mu Q E) : scheck_grades [d] mu Q E := spU_at ⟨_, rfl, h, rfl⟩ rfl kk_
def tcheck_grades (Ed : EdT) : TSd :=
  sSeq (sIf (dOr (dNot (dTest (dIsi .tuple (dVar 0)))) (dTest (dBin fLt (dB (gOf lenD) (dCons (dVar 0) (dNil))) (dC (.int 2))))) (sRaise "InvalidGrades" "index" (dC .non) Ed) (sNext)) (sFor (iEnu (dCons (dVar 0) (dNil))) (kSeq 2 (kCons (kName 1) (kCons (kName 2) (kNil)))) (sIf (dOr (dTest (dBin fEq (dVar 1) (dC (.int (4))))) (dOr (dNot (dTest (dCall sis_name Ed (dCons (dVar 2) (dNil))))) (dTest (dBin (fIn false) (dVar 2) (dSl (dVar 0) (oNo) (oPart (dVar 1))))))) (sRaise "InvalidGrades" "index" (dVar 1) Ed) (sNext)))
abbrev Ncheck_grades : List Str := ["value", "index", "grade"]
theorem gscheck_grades : GoodSp scheck_grades := spU_good
theorem lencheck_grades : ∀ ds mu Q E, scheck_grades ds mu Q E → ds.length = 1 := spU_len
theorem pcheck_grades : ∀ ds mu Q E, lowL mu.length mu = true → lowL mu.length ds = true → scheck_grades ds mu Q E → tcheck_grades (fun _ c fs m => E c fs m) (endD mu.length Q) (startD Ncheck_grades ds) mu := by
  intro ds mu Q E l1 l2 h
  obtain ⟨o_, ⟨d, rfl, h, rfl⟩, hR⟩ := spU_of h
  obtain ⟨h1, h2⟩ := h
  ((repeat wtm_at "s"); (try conv => whnf))
  rw [isi_tup h1]
  cases e : tupL d with
  | none =>
    unfold gradesO at hR
    rw [e] at hR
    ((repeat wtm_at "s"); (try conv => whnf))
    exact err_u0 hR rfl
  | some xs =>
    have hO : gradesO d = gradesL xs := by
      unfold gradesO
      rw [e]
    rw [hO] at hR
    have hx := h2 xs e
    ((repeat (first | rw [lenS (tupL_seq e mu)] | wtm_at "r" | ((conv => whnf); first | rw [lenS (tupL_seq e mu)] | wtm_at "r"))); (try conv => whnf))
    refine Br.by (fun hb => ?_) (fun hb => ?_)
    · have hb2 : xs.length < 2 := by
        have := of_decide_eq_true hb
        omega
      ((repeat wtm_at "s"); (try conv => whnf))
      exact err_u0 hR (if_pos hb2)
    · have hb2 : ¬ xs.length < 2 := by
        have := of_decide_eq_false hb
        omega
      have hL : gradesL xs = match wrongG [] xs with
        | none => .ok .non
        | some j => .err "InvalidGrades" [("index", .int ((j : Nat) : Int))] := if_neg hb2
      rw [hL] at hR
      have bad : ∀ j, wrongG [] xs = some j → E "InvalidGrades" [("index", .int ((j : Nat) : Int))] mu := fun j e2 => by
        rw [e2] at hR
        exact err_u0 hR rfl
      obtain ⟨V, hV⟩ : ∃ V, V = d := ⟨_, rfl⟩
      have eV : tupL V = some xs := by
        rw [hV]
        exact e
      have hd : d = .tup xs ∨ d = .ptup xs := by
        cases d <;> first | (cases e; exact .inl rfl) | (cases e; exact .inr rfl) | (cases e; done)
      rcases hd with rfl | rfl
      all_goals
        ((repeat wtm_at "s"); (try conv => whnf))
        rw [enumD_eq]
        refine forD_by (fun ds dl m => m = mu ∧ ∃ seen r i1 i2, xs = strsD seen ++ r ∧ (∀ x ∈ r, plainB x = true ∧ fitD x = true) ∧ seen.length ≤ 4 ∧ ds = enumF seen.length r ∧ dl = [some V, i1, i2] ∧ wrongG seen r = wrongG [] xs) ?_ ?_ _ _ _ ⟨rfl, [], xs, none, none, rfl, hx, by decide, rfl, by rw [hV]; rfl, rfl⟩
        · rintro dl m ⟨rfl, seen, r, i1, i2, e1, _, _, e2, rfl, hw⟩
          cases r with
          | cons x r => cases e2
          | nil =>
            refine ⟨trivial, ?_⟩
            ((repeat wtm_at "s"); (try conv => whnf))
            rw [← hw] at hR
            exact end_u hR rfl
        · rintro q ds dl m ⟨rfl, seen, r, i1, i2, e1, hr, h4, e2, rfl, hw⟩ n hn
          cases r with
          | nil => cases e2
          | cons x r =>
            cases e2
            have hxr := hr x (by simp)
            refine ⟨trivial, ?_⟩
            ((repeat wtm_at "s"); (try conv => whnf))
            by_cases h5 : seen.length = 4
            · rw [show decide (((seen.length : Nat) : Int) = 4) = true from decide_eq_true (by omega)]
              ((repeat wtm_at "s"); (try conv => whnf))
              exact bad _ (hw.symm.trans (wrongG_four h5))
            · rw [show decide (((seen.length : Nat) : Int) = 4) = false from decide_eq_false (by omega)]
              ((repeat wtm_at "s"); (try conv => whnf))
              refine call_is_name hxr.1 hxr.2 ?_
              cases hn2 : nameD x with
              | false =>
                ((repeat wtm_at "s"); (try conv => whnf))
                exact bad _ (hw.symm.trans (wrongG_no hn2))
              | true =>
                obtain ⟨z, rfl, hz⟩ := name_of hn2
                have hsl : ∀ m, slD m V none (some ((seen.length : Nat) : Int)) = some (True, .tup (strsD seen)) := fun m => by
                  rw [tupL_sl eV m _ (by rw [e1, List.length_append]; simp [strsD]), e1, take_seen]
                have hst : wrongG seen (.str z :: r) = if seen.length = 4 ∨ ¬ (labB z = true) ∨ z ∈ seen then some seen.length else wrongG (seen ++ [z]) r := rfl
                ((repeat (first | rw [hsl] | wtm_at "r" | ((conv => whnf); first | rw [hsl] | wtm_at "r"))); (try conv => whnf))
                refine ⟨⟨rfl, flat_strs seen⟩, ?_⟩
                rw [any_strs]
                refine Br.by (fun hin => ?_) (fun hin => ?_)
                · ((repeat wtm_at "s"); (try conv => whnf))
                  rw [if_pos (.inr (.inr (of_decide_eq_true hin)))] at hst
                  exact bad _ (hw.symm.trans hst)
                · ((repeat wtm_at "s"); (try conv => whnf))
                  rw [if_neg (fun q => q.elim h5 fun q => q.elim (fun q => q hz) (of_decide_eq_false hin))] at hst
                  refine hn _ _ ⟨rfl, seen ++ [z], r, _, _, ?_, fun y hy => hr y (List.mem_cons_of_mem _ hy), by rw [List.length_append]; show seen.length + 1 ≤ 4; omega, by rw [List.length_append]; rfl, rfl, by rw [← hw, hst]⟩
                  rw [e1]
                  unfold strsD
                  rw [List.map_append, List.append_assoc]
                  rfl
/-- promises that tell of errors, too -/
@[irreducible] def spE (n : Nat) (r : List D → Mu → (D → Mu → Prop) → (Str → List (Str × D) → Prop) → Prop) : SpD := fun ds mu Q E => ds.length = n ∧ ∃ R W, r ds mu R W ∧ (∀ d m, R d m → Q d m) ∧ ∀ c fs, W c fs → ∀ ms : Mu, E c fs (mu ++ ms)
section
variable {n : Nat} {r : List D → Mu → (D → Mu → Prop) → (Str → List (Str × D) → Prop) → Prop}
theorem spE_good : GoodSp (spE n r) where
  q := fun ds mu Q Q' E w h => by
    unfold spE at h ⊢
    obtain ⟨h1, R, W, h2, h3, h4⟩ := h
    exact ⟨h1, R, W, h2, fun d m z => w _ _ (h3 d m z), h4⟩
  e := fun ds mu Q E E' w h => by
    unfold spE at h ⊢
    obtain ⟨h1, R, W, h2, h3, h4⟩ := h
    exact ⟨h1, R, W, h2, h3, fun c fs z ms => w _ _ _ (h4 c fs z ms)⟩
theorem spE_len : ∀ ds mu Q E, spE n r ds mu Q E → ds.length = n := fun ds mu Q E h => by
  unfold spE at h
  exact h.1
theorem spE_of {ds : List D} {mu : Mu} {Q : KD} {E : EdF} (h : spE n r ds mu Q E) : ∃ R W, r ds mu R W ∧ (∀ d m, R d m → Q d m) ∧ ∀ c fs, W c fs → ∀ ms : Mu, E c fs (mu ++ ms) := by
  unfold spE at h
  exact h.2
theorem spE_at {ds : List D} {mu : Mu} {Q : KD} {E : EdF} {R : D → Mu → Prop} {W : Str → List (Str × D) → Prop} (e : r ds mu R W) (hn : ds.length = n) (h : ∀ d m, R d m → Q d m) (k : ∀ c fs, W c fs → ∀ ms : Mu, E c fs (mu ++ ms)) : spE n r ds mu Q E := by
  unfold spE
  exact ⟨hn, R, W, e, h, k⟩
end
theorem grades_right {gd : D} {zs : List Str} (h : gd = .tup (strsD zs) ∨ gd = .ptup (strsD zs)) (k : grdOk zs) : grdE gd ∧ gradesO gd = .ok .non := by
  obtain ⟨k1, k2, k3, k4⟩ := k
  have hw : ∀ (r seen : List Str), (seen ++ r).Nodup → (seen ++ r).length ≤ 4 → (∀ z ∈ r, labB z = true) → wrongG seen (strsD r) = none := by
    intro r
    induction r with
    | nil => intro seen _ _ _; rfl
    | cons z r ih =>
      intro seen nd hl hb
      show (if seen.length = 4 ∨ ¬ (labB z = true) ∨ z ∈ seen then some seen.length else wrongG (seen ++ [z]) (strsD r)) = none
      have h1 : ¬ (seen.length = 4 ∨ ¬ (labB z = true) ∨ z ∈ seen) := fun q => by
        rcases q with q | q | q
        · rw [List.length_append, List.length_cons] at hl
          omega
        · exact q (hb z (by simp))
        · rw [List.nodup_append] at nd
          exact nd.2.2 z q z (by simp) rfl
      rw [if_neg h1]
      exact ih _ (by rw [List.append_assoc]; exact nd) (by rw [List.append_assoc]; exact hl) fun y hy => hb y (List.mem_cons_of_mem _ hy)
  have hx : ∀ x ∈ strsD zs, plainB x = true ∧ fitD x = true := fun x hx => by
    obtain ⟨z, hz, rfl⟩ := strs_mem hx
    exact ⟨rfl, decide_eq_true (Nat.le_trans (lab_len (k3 z hz)) (by decide))⟩
  have hg : gradesL (strsD zs) = .ok .non := by
    have hl : ¬ (strsD zs).length < 2 := by
      have : (strsD zs).length = zs.length := by simp [strsD]
      omega
    have := hw zs [] k4 k2 k3
    unfold gradesL
    rw [if_neg hl, this]
  rcases h with rfl | rfl
  all_goals exact ⟨⟨rfl, fun xs e => by cases e; exact hx⟩, hg⟩
def sRule_init : SpD := spE 3 fun ds mu R W => (∃ n gd vd gs xs rs, ds = [.loc n, gd, vd] ∧ mu[n]? = some (.obj "Rule" []) ∧ (gd = .tup (strsD gs) ∨ gd = .ptup (strsD gs)) ∧ grdOk gs ∧ (vd = .tup xs ∨ vd = .ptup xs) ∧ (∀ x ∈ xs, plainB x = true ∧ fitD x = true) ∧ rwsO gs xs = some rs ∧ xs ≠ [] ∧ xs.length ≤ 5 ∧ (R = fun y m => y = .non ∧ m = mu.set n (rulD rs gd vd)) ∧ W = fun _ _ => False) ∨ ∃ n gd vd c fs, ds = [.loc n, gd, vd] ∧ grdE gd ∧ gradesO gd = .err c fs ∧ (R = fun _ _ => False) ∧ W = fun c' fs' => c' = c ∧ fs' = fs
def tRule_init (Ed : EdT) : TSd :=
  sSeq (sExpr (dCall scheck_grades Ed (dCons (dVar 1) (dNil)))) (sSeq (sNew "Rule" [] "parsed" (dVar 0) (dCall scheck_rows Ed (dCons (dVar 1) (dCons (dVar 2) (dNil))))) (sSeq (sNew "Rule" ["parsed"] "held_grades" (dVar 0) (dVar 1)) (sNew "Rule" ["parsed", "held_grades"] "held_rows" (dVar 0) (dVar 2))))
abbrev NRule_init : List Str := ["self", "grades", "rows"]
theorem gsRule_init : GoodSp sRule_init := spE_good
theorem lenRule_init : ∀ ds mu Q E, sRule_init ds mu Q E → ds.length = 3 := spE_len
theorem pRule_init : ∀ ds mu Q E, lowL mu.length mu = true → lowL mu.length ds = true → sRule_init ds mu Q E → tRule_init (fun _ c fs m => E c fs m) (endD mu.length Q) (startD NRule_init ds) mu := by
  intro ds mu Q E l1 l2 h
  obtain ⟨R, W, h, hR, hW⟩ := spE_of h
  rcases h with ⟨n, gd, vd, gs, xs, rs, rfl, h0, h1, h2, h3, h4, h5, h6, h7, rfl, rfl⟩ | ⟨n, gd, vd, c, fs, rfl, h1, h2, rfl, rfl⟩
  · have hg : ∀ P', (mu.set n P')[n]? = some P' := fun P' => set_get h0
    have hgs : ∀ m, seqOf m gd = some (strsD gs) := fun m => by rcases h1 with rfl | rfl <;> rfl
    have hok := grades_right h1 h2
    ((repeat wtm_at "s"); (try conv => whnf))
    refine call_check_grades hok.1 ?_
    rw [hok.2]
    ((repeat wtm_at "s"); (try conv => whnf))
    refine call_check_rows hgs h3 h4 h5 h6 h7 ?_
    ((repeat wtm_at "s"); (try conv => whnf))
    refine at_new h0 rfl ?_
    ((repeat wtm_at "s"); (try conv => whnf))
    refine at_new (hg _) rfl ?_
    rw [List.set_set]
    ((repeat wtm_at "s"); (try conv => whnf))
    refine at_new (hg _) rfl ?_
    rw [List.set_set]
    exact end_of (by simp) (hR _ _ ⟨rfl, rfl⟩)
  · ((repeat wtm_at "s"); (try conv => whnf))
    refine call_check_grades h1 ?_
    rw [h2]
    exact fun ms => hW _ _ ⟨rfl, rfl⟩ ms
theorem rule_low {n : Nat} {rs : List Rw} {gd vd : D} (h1 : lowD n gd = true) (h2 : lowD n vd = true) : lowF n [("parsed", .lst (rs.map Rw.d)), ("held_grades", gd), ("held_rows", vd)] = true := by
  show (lowL n (rs.map Rw.d) && (lowD n gd && (lowD n vd && true))) = true
  rw [rows_low, h1, h2]
  rfl
/-- a rule is made -/
theorem make_rule {gd vd : D} {gs : List Str} {xs : List D} {rs : List Rw} {mu : Mu} {Q : KD} {E : EdF} (l1 : lowL mu.length mu = true) (h1 : gd = .tup (strsD gs) ∨ gd = .ptup (strsD gs)) (h2 : grdOk gs) (h3 : vd = .tup xs ∨ vd = .ptup xs) (h4 : ∀ x ∈ xs, plainB x = true ∧ fitD x = true) (h5 : rwsO gs xs = some rs) (h6 : xs ≠ []) (h7 : xs.length ≤ 5)
    (lx : lowL mu.length xs = true) (h : Q (rulD rs gd vd) mu) : sRule_init [.loc mu.length, gd, vd] (mu ++ [.obj "Rule" []]) (fun d m2 => d = .non ∧ ∃ d' m', Frz m2 (.loc mu.length) m' d' ∧ mu.length ≤ List.length m' ∧ Q d' m') E := by
  refine spE_at (.inl ⟨_, gd, vd, gs, xs, rs, rfl, app_get _ _, h1, h2, h3, h4, h5, h6, h7, rfl, rfl⟩) rfl (fun y m ⟨e, em⟩ => ?_) fun _ _ z => z.elim
  rw [e, em, app_set]
  refine ⟨rfl, _, _, Frz.obj l1 (rule_low ?_ ?_), Nat.le_refl _, h⟩
  · rcases h1 with rfl | rfl <;> exact low_strs _ _
  · rcases h3 with rfl | rfl <;> exact lx
open TL
/-! ### words, conditions and rows as they are written -/
theorem numL_wrt {n : Nat} (h : n ≤ 10 ^ 12) : wrtL (numL n) = some n := by
  have hd := numL_digits n
  have h1 : (numL n).length ≤ 13 := numL_len (by decide) (by omega)
  have h0 : 0 < (numL n).length := List.length_pos_iff.mpr (numL_ne n)
  rw [wrt_yes ⟨h0, h1, ?_, ?_, ?_⟩, numL_val]
  · rw [List.all_eq_true]
    intro c hc
    have := hd c hc
    simp only [digB, this, decide_true, Bool.and_self]
  · rintro ⟨e, hl⟩
    have hz : n = 0 := by
      clear h h0 h1 hl hd
      induction n using Nat.strongRecOn with
      | _ n ih =>
        by_cases h1 : n < 10
        · rw [numL_lt h1] at e
          have := Option.some.inj e
          omega
        · rw [numL_step (by omega)] at e
          have h2 : (numL (n / 10)).head? = some 48 := by
            cases q : numL (n / 10) with
            | nil => exact absurd q (numL_ne _)
            | cons a r => rw [q] at e; exact e
          have := ih (n / 10) (by omega) h2
          omega
    rw [hz] at hl
    exact absurd hl (by decide)
  · rw [numL_val]
    exact h
theorem numL_dig (n : Nat) : ∀ c ∈ numL n, digB c = true := fun c hc => by
  have := numL_digits n c hc
  simp only [digB, this, decide_true, Bool.and_self]
inductive Wd where
  | k (n : Nat)
  | t (t : Nat)
  | tp (t n : Nat)
  | tm (t n : Nat)
  | al
  | am (n : Nat)
def Wd.L : Wd → List Nat
  | .k n => numL n
  | .t a => [48 + a, 47, 49, 48]
  | .tp a n => (48 + a) :: 47 :: 49 :: 48 :: 43 :: numL n
  | .tm a n => (48 + a) :: 47 :: 49 :: 48 :: 45 :: numL n
  | .al => [97, 108, 108]
  | .am n => 97 :: 108 :: 108 :: 45 :: numL n
def Wd.ok : Wd → Prop
  | .k n => n ≤ 10 ^ 12
  | .t a => 1 ≤ a ∧ a ≤ 9
  | .tp a n => 1 ≤ a ∧ a ≤ 9 ∧ n ≤ 10 ^ 12
  | .tm a n => 1 ≤ a ∧ a ≤ 9 ∧ n ≤ 10 ^ 12
  | .al => True
  | .am n => n ≤ 10 ^ 12
def Wd.pair : Wd → Int × Int
  | .k n => (0, n)
  | .t a => (a, 0)
  | .tp a n => (a, n)
  | .tm a n => (a, -n)
  | .al => (10, 0)
  | .am n => (10, -n)
theorem wrt_bad {l : List Nat} {c : Nat} (h : c ∈ l) (hc : digB c = false) : wrtL l = none := by
  refine wrt_no fun q => ?_
  have := List.all_eq_true.mp q.2.2.1 c h
  rw [hc] at this
  cases this
theorem pb_t {t : Nat} (h : 1 ≤ t ∧ t ≤ 9) : pbL [48 + t, 47, 49, 48] = some t := by
  unfold pbL
  rw [if_neg (by simp)]
  have : par [47] [] [48 + t, 47, 49, 48] = some ([48 + t], [49, 48]) := by
    have e := par_part1 (s := 47) (S := []) (p := [48 + t]) (rest := [49, 48]) (acc := []) (by simp; omega)
    exact e
  rw [this]
  show (if _ then _ else _) = _
  rw [if_pos ⟨by omega, by omega, rfl⟩, Nat.add_sub_cancel_left]
theorem pb_all : pbL [97, 108, 108] = some 10 := if_pos rfl
theorem pb_par {l : List Nat} {n : Nat} (h : pbL l = some n) : l = [97, 108, 108] ∨ ∃ c, par [47] [] l = some ([c], [49, 48]) := by
  unfold pbL at h
  split at h
  · next e => exact .inl e
  · split at h
    · next c b e =>
      split at h
      · next q => exact .inr ⟨c, by rw [e, q.2.2]⟩
      · cases h
    · cases h
theorem par_sum {S : List Nat} : ∀ {l acc a b : List Nat}, par S acc l = some (a, b) → acc ++ l = a ++ (S ++ b)
  | [], acc, a, b, h => by cases h
  | c :: r, acc, a, b, h => by
    by_cases hp : pre S (c :: r) = true
    · rw [par_hit hp] at h
      cases h
      have e : (c :: r).take S.length = S := by simpa [pre] using hp
      conv => lhs; rw [← List.take_append_drop S.length (c :: r), e]
    · rw [par_miss (by simpa using hp)] at h
      have := par_sum h
      rw [List.append_assoc] at this
      exact this
/-- the texts of bases -/
theorem pb_iff {l : List Nat} {n : Nat} (h : pbL l = some n) : (l = [97, 108, 108] ∧ n = 10) ∨ ∃ t, 1 ≤ t ∧ t ≤ 9 ∧ l = [48 + t, 47, 49, 48] ∧ n = t := by
  rcases pb_par h with e | ⟨c, e⟩
  · rw [e, pb_all] at h
    exact .inl ⟨e, (Option.some.inj h).symm⟩
  · have e2 := par_sum e
    rw [List.nil_append] at e2
    unfold pbL at h
    rw [if_neg (by rw [e2]; simp), e] at h
    simp only at h
    split at h
    · next q =>
      refine .inr ⟨c - 48, by omega, by omega, ?_, (Option.some.inj h).symm⟩
      rw [e2, show 48 + (c - 48) = c by omega]
      rfl
    · cases h
theorem Wd.pw : ∀ {w : Wd}, w.ok → pwL w.L = some w.pair
  | .k n, h => by
    unfold pwL Wd.L
    rw [numL_wrt h]
    rfl
  | .t a, h => by
    unfold pwL Wd.L
    rw [wrt_bad (c := 47) (by simp) rfl, pb_t h]
    rfl
  | .al, _ => by
    unfold pwL Wd.L
    rw [wrt_bad (c := 97) (by simp) rfl, pb_all]
    rfl
  | .tp a n, h => by
    obtain ⟨h1, h2, h3⟩ := h
    have hb : pbL (Wd.tp a n).L = none := by
      cases e : pbL (Wd.tp a n).L with
      | none => rfl
      | some k =>
        rcases pb_iff e with ⟨q, _⟩ | ⟨t', _, _, q, _⟩
        · simp [Wd.L] at q
        · simp [Wd.L] at q
    have hp : par [43] [] (Wd.tp a n).L = some ([48 + a, 47, 49, 48], numL n) := par_part1 (s := 43) (S := []) (p := [48 + a, 47, 49, 48]) (rest := numL n) (acc := []) (by simp; omega)
    unfold pwL
    rw [wrt_bad (c := 47) (by simp [Wd.L]) rfl, hb]
    unfold pwP pwS
    rw [hp]
    simp only [pb_t ⟨h1, h2⟩, numL_wrt h3]
    rw [if_pos (by omega)]
    rfl
  | .tm a n, h => by
    obtain ⟨h1, h2, h3⟩ := h
    have hb : pbL (Wd.tm a n).L = none := by
      cases e : pbL (Wd.tm a n).L with
      | none => rfl
      | some k =>
        rcases pb_iff e with ⟨q, _⟩ | ⟨t', _, _, q, _⟩
        · simp [Wd.L] at q
        · simp [Wd.L] at q
    have hp : par [45] [] (Wd.tm a n).L = some ([48 + a, 47, 49, 48], numL n) := par_part1 (s := 45) (S := []) (p := [48 + a, 47, 49, 48]) (rest := numL n) (acc := []) (by simp; omega)
    have hq : par [43] [] (Wd.tm a n).L = none := par_none1 (s := 43) (S := []) (by
      have := numL_free (n := n) (s := 43) (.inl (by decide))
      simp [Wd.L, this]
      omega)
    unfold pwL
    rw [wrt_bad (c := 47) (by simp [Wd.L]) rfl, hb]
    unfold pwP pwM pwS
    rw [hp, hq]
    simp only [pb_t ⟨h1, h2⟩, numL_wrt h3]
    rfl
  | .am n, h => by
    have hb : pbL (Wd.am n).L = none := by
      cases e : pbL (Wd.am n).L with
      | none => rfl
      | some k =>
        rcases pb_iff e with ⟨q, _⟩ | ⟨t', _, _, q, _⟩
        · simp [Wd.L] at q
        · simp [Wd.L] at q
    have hp : par [45] [] (Wd.am n).L = some ([97, 108, 108], numL n) := par_part1 (s := 45) (S := []) (p := [97, 108, 108]) (rest := numL n) (acc := []) (by simp)
    have hq : par [43] [] (Wd.am n).L = none := par_none1 (s := 43) (S := []) (by
      have := numL_free (n := n) (s := 43) (.inl (by decide))
      simp [Wd.L, this])
    unfold pwL
    rw [wrt_bad (c := 97) (by simp [Wd.L]) rfl, hb]
    unfold pwP pwM pwS
    rw [hp, hq]
    simp only [pb_all, numL_wrt h]
    rfl
theorem Wd.free {w : Wd} {s : Nat} (h1 : s < 43 ∨ 57 < s) (h2 : s ≠ 97) (h3 : s ≠ 108) (hok : w.ok) : s ∉ w.L := by
  have hn : ∀ n, s ∉ numL n := fun n => numL_free (by omega)
  cases w with
  | k n => exact hn n
  | t a => have := hok.1; have := hok.2; simp [Wd.L]; omega
  | tp a n => have := hok.1; have := hok.2.1; simp [Wd.L, hn]; omega
  | tm a n => have := hok.1; have := hok.2.1; simp [Wd.L, hn]; omega
  | al => simp [Wd.L, h2, h3]
  | am n => simp [Wd.L, hn, h2, h3]; omega
/-! conditions -/
inductive Cn where
  | pt (ge : Bool) (n : Nat)
  | mb (ge : Bool) (n : Nat)
  | be (le : Bool) (w : Wd)
  | up (le : Bool) (w : Wd)
def geS (b : Bool) : Str := if b then ">=" else "<"
def leS (b : Bool) : Str := if b then "<=" else ">"
def Cn.q : Cn → Str
  | .pt _ _ => "points"
  | .mb _ _ => "members"
  | .be _ _ => "better"
  | .up _ _ => "upto"
def Cn.s : Cn → Str
  | .pt b _ => geS b
  | .mb b _ => geS b
  | .be b _ => leS b
  | .up b _ => leS b
def Cn.w : Cn → List Nat
  | .pt _ n => numL n
  | .mb _ n => numL n
  | .be _ w => w.L
  | .up _ w => w.L
def Cn.ok : Cn → Prop
  | .pt _ n => n ≤ 10 ^ 12
  | .mb _ n => n ≤ 10 ^ 12
  | .be _ w => w.ok
  | .up _ w => w.ok
def Cn.cnd : Cn → Cnd
  | .pt b n => ⟨"points", !b, 0, (n : Int) - 1⟩
  | .mb b n => ⟨"members", !b, 0, (n : Int) - 1⟩
  | .be b w => ⟨"better", b, w.pair.1, w.pair.2⟩
  | .up b w => ⟨"upto", b, w.pair.1, w.pair.2⟩
def Cn.L (c : Cn) : List Nat := tl c.q ++ 32 :: (tl c.s ++ 32 :: c.w)
theorem pts_tl : tl ("points" : Str) = [112, 111, 105, 110, 116, 115] := by decide +kernel
theorem mem_tl : tl ("members" : Str) = [109, 101, 109, 98, 101, 114, 115] := by decide +kernel
theorem bet_tl : tl ("better" : Str) = [98, 101, 116, 116, 101, 114] := by decide +kernel
theorem upt_tl : tl ("upto" : Str) = [117, 112, 116, 111] := by decide +kernel
theorem ge_tl : tl (">=" : Str) = [62, 61] := by decide +kernel
theorem lt_tl : tl ("<" : Str) = [60] := by decide +kernel
theorem le_tl : tl ("<=" : Str) = [60, 61] := by decide +kernel
theorem gt_tl : tl (">" : Str) = [62] := by decide +kernel
theorem Cn.q_tl (c : Cn) : tl c.q = [112, 111, 105, 110, 116, 115] ∨ tl c.q = [109, 101, 109, 98, 101, 114, 115] ∨ tl c.q = [98, 101, 116, 116, 101, 114] ∨ tl c.q = [117, 112, 116, 111] := by
  cases c with
  | pt => exact .inl pts_tl
  | mb => exact .inr (.inl mem_tl)
  | be => exact .inr (.inr (.inl bet_tl))
  | up => exact .inr (.inr (.inr upt_tl))
theorem geS_tl (b : Bool) : tl (geS b) = [62, 61] ∨ tl (geS b) = [60] := by
  cases b with
  | true => exact .inl ge_tl
  | false => exact .inr lt_tl
theorem leS_tl (b : Bool) : tl (leS b) = [60, 61] ∨ tl (leS b) = [62] := by
  cases b with
  | true => exact .inl le_tl
  | false => exact .inr gt_tl
theorem Cn.s_tl (c : Cn) : tl c.s = [62, 61] ∨ tl c.s = [60] ∨ tl c.s = [60, 61] ∨ tl c.s = [62] := by
  cases c with
  | pt b => exact (geS_tl b).elim .inl fun h => .inr (.inl h)
  | mb b => exact (geS_tl b).elim .inl fun h => .inr (.inl h)
  | be b => exact (leS_tl b).elim (fun h => .inr (.inr (.inl h))) fun h => .inr (.inr (.inr h))
  | up b => exact (leS_tl b).elim (fun h => .inr (.inr (.inl h))) fun h => .inr (.inr (.inr h))
theorem Cn.w_free {c : Cn} {s : Nat} (h1 : s < 43 ∨ 57 < s) (h2 : s ≠ 97) (h3 : s ≠ 108) (hok : c.ok) : s ∉ c.w := by
  cases c with
  | pt b n => exact numL_free (by omega)
  | mb b n => exact numL_free (by omega)
  | be b w => exact Wd.free (w := w) h1 h2 h3 hok
  | up b w => exact Wd.free (w := w) h1 h2 h3 hok
theorem Cn.q_free (c : Cn) {s : Nat} (h : s < 97) : s ∉ tl c.q := by
  rcases c.q_tl with e | e | e | e <;> (rw [e]; simp; omega)
theorem Cn.s_free (c : Cn) {s : Nat} (h : s < 60 ∨ 62 < s) : s ∉ tl c.s := by
  rcases c.s_tl with e | e | e | e <;> (rw [e]; simp; omega)
theorem Cn.split {c : Cn} {z : Str} (hok : c.ok) (hz : tl z = c.L) : Txt.split z spS = [c.q, c.s, ⟨c.w.toArray⟩] := by
  refine map_tl_inj ?_
  rw [split_spl _ _ (by rw [sp_tl]; simp) (kind_ok (by decide +kernel)), sp_tl, hz]
  show spl [32] 0 [] (tl c.q ++ ([32] ++ (tl c.s ++ ([32] ++ c.w)))) = [tl c.q, tl c.s, c.w]
  rw [spl_part1 (s := 32) (S := []) (c.q_free (by decide)), spl_part1 (s := 32) (S := []) (c.s_free (by decide)), spl_last1 (s := 32) (S := []) (Cn.w_free (by decide) (by decide) (by decide) hok)]
  rfl
theorem pc_ge {z q s w : Str} (h : Txt.split z spS = [q, s, w]) (hq : q ∈ [("points" : Str), "members"]) (hs : s ∈ [(">=" : Str), "<"]) : pcO z = (wrtL (tl w)).map fun (n : Nat) => Cnd.mk q (decide (s = "<")) 0 ((n : Int) - 1) := by
  unfold pcO
  rw [h]
  simp only [if_pos hq, if_pos hs]
theorem pc_le {z q s w : Str} (h : Txt.split z spS = [q, s, w]) (hq' : q ∉ [("points" : Str), "members"]) (hq : q ∈ [("better" : Str), "upto"]) (hs : s ∈ [("<=" : Str), ">"]) : pcO z = (pwL (tl w)).map fun (p : Int × Int) => Cnd.mk q (decide (s = "<=")) p.1 p.2 := by
  unfold pcO
  rw [h]
  simp only [if_neg hq']
  exact if_pos ⟨hq, hs⟩
theorem geS_mem (b : Bool) : geS b ∈ [(">=" : Str), "<"] := by cases b <;> decide +kernel
theorem leS_mem (b : Bool) : leS b ∈ [("<=" : Str), ">"] := by cases b <;> decide +kernel
theorem geS_lt (b : Bool) : decide (geS b = "<") = !b := by cases b <;> decide +kernel
theorem leS_le (b : Bool) : decide (leS b = "<=") = b := by cases b <;> decide +kernel
theorem Cn.pc {c : Cn} {z : Str} (hok : c.ok) (hz : tl z = c.L) : pcO z = some c.cnd := by
  have hs := Cn.split hok hz
  cases c with
  | pt b n =>
    rw [pc_ge hs (show ("points" : Str) ∈ _ by decide +kernel) (geS_mem b), tl_mk, Cn.w, numL_wrt hok]
    show some (Cnd.mk _ (decide (geS b = "<")) _ _) = _
    rw [geS_lt]; rfl
  | mb b n =>
    rw [pc_ge hs (show ("members" : Str) ∈ _ by decide +kernel) (geS_mem b), tl_mk, Cn.w, numL_wrt hok]
    show some (Cnd.mk _ (decide (geS b = "<")) _ _) = _
    rw [geS_lt]; rfl
  | be b w =>
    rw [pc_le hs (show ("better" : Str) ∉ _ by decide +kernel) (show ("better" : Str) ∈ _ by decide +kernel) (leS_mem b), tl_mk, Cn.w, Wd.pw (w := w) hok]
    show some (Cnd.mk _ (decide (leS b = "<=")) _ _) = _
    rw [leS_le]; rfl
  | up b w =>
    rw [pc_le hs (show ("upto" : Str) ∉ _ by decide +kernel) (show ("upto" : Str) ∈ _ by decide +kernel) (leS_mem b), tl_mk, Cn.w, Wd.pw (w := w) hok]
    show some (Cnd.mk _ (decide (leS b = "<=")) _ _) = _
    rw [leS_le]; rfl
theorem Wd.pair_ok {w : Wd} (h : w.ok) : 0 ≤ w.pair.1 ∧ w.pair.1 ≤ 10 := by
  cases w with
  | k n => exact ⟨Int.le_refl 0, by show (0 : Int) ≤ 10; decide⟩
  | t a => have := h.2; simp only [Wd.pair]; omega
  | tp a n => have := h.2.1; simp only [Wd.pair]; omega
  | tm a n => have := h.2.1; simp only [Wd.pair]; omega
  | al => simp only [Wd.pair]; omega
  | am n => simp only [Wd.pair]; omega
theorem Cn.cnd_ok {c : Cn} (h : c.ok) : c.cnd.ok := by
  cases c with
  | pt b n => exact ⟨.inl rfl, Int.le_refl 0, by show (0 : Int) ≤ 10; decide⟩
  | mb b n => exact ⟨.inr (.inr (.inr rfl)), Int.le_refl 0, by show (0 : Int) ≤ 10; decide⟩
  | be b w => exact ⟨.inr (.inl rfl), Wd.pair_ok (w := w) h⟩
  | up b w => exact ⟨.inr (.inr (.inl rfl)), Wd.pair_ok (w := w) h⟩
/-! rows: conditions joined by " and " -/
def noA : List Nat → Bool
  | [] => true
  | [c] => decide (c ≠ 32)
  | [c, d] => (decide (c ≠ 32) || decide (d ≠ 97)) && decide (d ≠ 32)
  | c :: d :: e :: r => (decide (c ≠ 32) || decide (d ≠ 97) || decide (e ≠ 110)) && noA (d :: e :: r)
theorem noA_drop : ∀ (p : List Nat) (X : List Nat) (i : Nat), noA p = true → i < p.length → pre [32, 97, 110, 100, 32] ((p ++ X).drop i) = false
  | [], X, i, _, hi => by simp at hi
  | [c], X, 0, h, _ => by
    have hc : c ≠ 32 := of_decide_eq_true h
    simp [pre, hc]
  | [c], X, i + 1, _, hi => by simp at hi
  | [c, d], X, 0, h, _ => by
    simp only [noA, Bool.and_eq_true, Bool.or_eq_true, decide_eq_true_eq] at h
    rcases h.1 with h | h <;> simp [pre, h]
  | [c, d], X, 1, h, _ => by
    simp only [noA, Bool.and_eq_true, Bool.or_eq_true, decide_eq_true_eq] at h
    simp [pre, h.2]
  | [c, d], X, i + 2, _, hi => by simp only [List.length_cons, List.length_nil] at hi; omega
  | c :: d :: e :: r, X, 0, h, _ => by
    simp only [noA, Bool.and_eq_true, Bool.or_eq_true, decide_eq_true_eq] at h
    rcases h.1 with (h | h) | h <;> simp [pre, h]
  | c :: d :: e :: r, X, i + 1, h, hi => by
    simp only [noA, Bool.and_eq_true] at h
    have := noA_drop (d :: e :: r) X i h.2 (by simpa using hi)
    simpa using this
theorem noA_plain : ∀ l : List Nat, (32 ∉ l) → noA l = true
  | [], _ => rfl
  | [c], h => decide_eq_true (fun e => h (by simp [e]))
  | [c, d], h => by
    simp only [List.mem_cons, List.not_mem_nil, or_false, not_or] at h
    simp only [noA, Bool.and_eq_true, Bool.or_eq_true, decide_eq_true_eq]
    exact ⟨.inl fun e => h.1 e.symm, fun e => h.2 e.symm⟩
  | c :: d :: e :: r, h => by
    have h1 : c ≠ 32 := fun q => h (by simp [q])
    simp only [noA, Bool.and_eq_true, Bool.or_eq_true, decide_eq_true_eq]
    exact ⟨.inl (.inl h1), noA_plain (d :: e :: r) fun q => h (List.mem_cons_of_mem _ q)⟩
theorem noA_sp {w : List Nat} (h : 32 ∉ w) (hne : w ≠ []) (h2 : ∀ r, w ≠ 97 :: 110 :: r) (h3 : w ≠ [97]) : noA (32 :: w) = true := by
  have hp := noA_plain w h
  match w, h, hne, h2, h3, hp with
  | [d], h, _, _, h3, hp =>
    simp only [noA, Bool.and_eq_true, Bool.or_eq_true, decide_eq_true_eq] at hp ⊢
    exact ⟨.inr fun e => h3 (by rw [e]), hp⟩
  | d :: e :: r, h, _, h2, _, hp =>
    simp only [noA, Bool.and_eq_true, Bool.or_eq_true, decide_eq_true_eq]
    refine ⟨?_, hp⟩
    by_cases q : d = 97
    · by_cases q2 : e = 110
      · exact absurd (by rw [q, q2]) (h2 r)
      · exact .inr q2
    · exact .inl (.inr q)
theorem Wd.head {w : Wd} (h : w.ok) : w.L ≠ [] ∧ (∀ r, w.L ≠ 97 :: 110 :: r) ∧ w.L ≠ [97] := by
  have hn : ∀ n, numL n ≠ [] ∧ (∀ r, numL n ≠ 97 :: 110 :: r) ∧ numL n ≠ [97] := fun n => by
    have hd := numL_digits n
    refine ⟨numL_ne n, fun r e => ?_, fun e => ?_⟩ <;> (have := hd 97 (by rw [e]; simp); omega)
  cases w with
  | k n => exact hn n
  | t a => have := h.1; have := h.2; refine ⟨by simp [Wd.L], fun r => ?_, by simp [Wd.L]⟩; simp [Wd.L]
  | tp a n => have := h.1; have := h.2.1; refine ⟨by simp [Wd.L], fun r => ?_, by simp [Wd.L]⟩; simp [Wd.L]
  | tm a n => have := h.1; have := h.2.1; refine ⟨by simp [Wd.L], fun r => ?_, by simp [Wd.L]⟩; simp [Wd.L]
  | al => simp [Wd.L]
  | am n => simp [Wd.L]
theorem Cn.w_head {c : Cn} (h : c.ok) : c.w ≠ [] ∧ (∀ r, c.w ≠ 97 :: 110 :: r) ∧ c.w ≠ [97] := by
  cases c with
  | pt b n => exact Wd.head (w := .k n) h
  | mb b n => exact Wd.head (w := .k n) h
  | be b w => exact Wd.head (w := w) h
  | up b w => exact Wd.head (w := w) h
theorem Cn.noA {c : Cn} (h : c.ok) : noA c.L = true := by
  have hw := Cn.w_head h
  have h1 := noA_sp (Cn.w_free (s := 32) (by decide) (by decide) (by decide) h) hw.1 hw.2.1 hw.2.2
  obtain ⟨d, r, ew⟩ := List.exists_cons_of_ne_nil hw.1
  unfold Cn.L
  rw [ew] at h1 ⊢
  rcases c.q_tl with e | e | e | e <;> rcases c.s_tl with e' | e' | e' | e' <;> (rw [e, e']; simp only [List.cons_append, List.nil_append, VL.noA, h1]; simp)
theorem Cn.free58 {c : Cn} (h : c.ok) : 58 ∉ c.L := by
  unfold Cn.L
  have h1 := Cn.w_free (s := 58) (by decide) (by decide) (by decide) h
  have h2 := c.q_free (s := 58) (by decide)
  have h3 := c.s_free (s := 58) (by decide)
  simp [h1, h2, h3]
/-- a row as it is written -/
structure Rx where
  cs : List Cn
  g : Str
abbrev andL : List Nat := [32, 97, 110, 100, 32]
def Rx.left (r : Rx) : List Nat := joinL andL (r.cs.map Cn.L)
def Rx.L (r : Rx) : List Nat := r.left ++ ([58, 32] ++ tl r.g)
def Rx.ok (r : Rx) : Prop := (∀ c ∈ r.cs, c.ok) ∧ (r.cs.length = 1 ∨ r.cs.length = 2) ∧ labB r.g = true
def Rx.rw (r : Rx) : Rw := ⟨r.cs.map Cn.cnd, r.g⟩
theorem lab_free {z : Str} (h : labB z = true) {s : Nat} (hs : s < 48 ∨ (57 < s ∧ s < 97) ∨ 122 < s) : s ∉ tl z := fun q => by
  have := labL_aln h s q
  simp only [alnB, letB, digB, Bool.or_eq_true, Bool.and_eq_true, decide_eq_true_eq] at this
  omega
theorem join_free {S : List Nat} {s : Nat} (hS : s ∉ S) : ∀ {ps : List (List Nat)}, (∀ p ∈ ps, s ∉ p) → s ∉ joinL S ps
  | [], _ => by simp [joinL]
  | [p], h => h p (by simp)
  | p :: q :: r, h => by
    simp only [joinL, List.mem_append, not_or]
    exact ⟨h p (by simp), hS, join_free hS fun x hx => h x (List.mem_cons_of_mem _ hx)⟩
theorem Rx.free58 {r : Rx} (h : r.ok) : 58 ∉ r.left := by
  refine join_free (by decide) fun p hp => ?_
  obtain ⟨c, hc, rfl⟩ := List.mem_map.mp hp
  exact Cn.free58 (h.1 c hc)
theorem spl_and : ∀ (cs : List Cn), cs ≠ [] → (∀ c ∈ cs, c.ok) → spl andL 0 [] (joinL andL (cs.map Cn.L)) = cs.map Cn.L
  | [], h, _ => absurd rfl h
  | [c], _, h => by
    show spl andL 0 [] c.L = [c.L]
    rw [spl_last fun i hi => ?_]
    · rfl
    · have := noA_drop c.L [] i (Cn.noA (h c (by simp))) hi
      rwa [List.append_nil] at this
  | c :: d :: r, _, h => by
    show spl andL 0 [] (c.L ++ (andL ++ joinL andL ((d :: r).map Cn.L))) = _
    rw [spl_part (by simp) fun i hi => noA_drop _ _ i (Cn.noA (h c (by simp))) hi, spl_and (d :: r) (by simp) fun x hx => h x (List.mem_cons_of_mem _ hx)]
    rfl
theorem rpart_app {z : Str} {L : List Nat} {g : Str} (hz : tl z = L ++ ([58, 32] ++ tl g)) (hg : 58 ∉ tl g) : Txt.rpartition z colS = (⟨L.toArray⟩, colS, g) := by
  have hy : tl colS ≠ [] := by rw [col_tl]; simp
  have hl : colS.length = 2 := by decide +kernel
  have at0 : StrLaws.At z colS z.length L.length := by
    rw [at_iff hy, col_tl, hz, List.drop_left' rfl]
    exact pre_self _ _
  have after : ∀ k, L.length < k → ¬ StrLaws.At z colS z.length k := fun k hk q => by
    rw [at_iff hy, col_tl, hz] at q
    obtain ⟨j, rfl⟩ : ∃ j, k = L.length + (j + 1) := ⟨k - L.length - 1, by omega⟩
    rw [List.drop_append, List.drop_eq_nil_of_le (by omega), List.nil_append, Nat.add_sub_cancel_left] at q
    have e : ([58, 32] ++ tl g).drop (j + 1) = (32 :: tl g).drop j := rfl
    rw [e] at q
    cases hd : (32 :: tl g).drop j with
    | nil => rw [hd] at q; exact absurd q (by decide)
    | cons a r =>
      rw [hd] at q
      have ha : a = 58 := by
        by_cases h58 : a = 58
        · exact h58
        · rw [pre_of_head _ _ h58] at q; cases q
      have hm : a ∈ 32 :: tl g := List.mem_of_mem_drop (by rw [hd]; simp)
      rcases List.mem_cons.mp hm with e | e
      · omega
      · exact hg (by rw [← ha]; exact e)
  unfold Txt.rpartition
  rcases StrLaws.last_spec z colS with ⟨_, hn⟩ | ⟨i, h0, hi, hn⟩
  · exact absurd at0 (hn _)
  · have hi2 : i = L.length := by
      rcases Nat.lt_trichotomy i L.length with q | q | q
      · exact absurd at0 (hn _ q)
      · exact q
      · exact absurd hi (after i q)
    rw [h0, hi2, hl]
    have e1 : Builtin.Str.strSub z 0 L.length = ⟨L.toArray⟩ := ext_tl (by rw [tl_strSub, hz]; simp)
    have e2 : Builtin.Str.strSub z (L.length + 2) z.length = g := ext_tl (by
      rw [tl_strSub_end, hz, List.drop_append, List.drop_eq_nil_of_le (by omega), List.nil_append, Nat.add_sub_cancel_left]
      rfl)
    simp only [e1, e2]
theorem Rx.pr {r : Rx} {z : Str} {gs : List Str} (h : r.ok) (hz : tl z = r.L) (hg : r.g ∈ gs) : prO (.str z) gs false = some r.rw := by
  have hp : Txt.rpartition z colS = (⟨r.left.toArray⟩, colS, r.g) := rpart_app hz (lab_free h.2.2 (by decide))
  have hne : r.cs ≠ [] := fun e => by
    have := h.2.1
    rw [e] at this
    simp at this
  have hs : Txt.split ⟨r.left.toArray⟩ andS = r.cs.map fun c => ⟨c.L.toArray⟩ := by
    refine map_tl_inj ?_
    rw [split_spl _ _ (by rw [and_tl]; simp) (kind_ok (by decide +kernel)), and_tl, tl_mk]
    show spl andL 0 [] (joinL andL _) = _
    rw [spl_and _ hne h.1, List.map_map]
    rfl
  have hc : (r.cs.map fun c => (⟨c.L.toArray⟩ : Str)).map pcO = r.cs.map fun c => some c.cnd := by
    rw [List.map_map]
    refine List.map_congr_left fun c hc => ?_
    exact Cn.pc (h.1 c hc) rfl
  have hf : (r.cs.map fun c => some c.cnd).filterMap id = r.cs.map Cn.cnd := by
    rw [List.filterMap_map]
    show r.cs.filterMap (some ∘ Cn.cnd) = _
    rw [List.filterMap_eq_map]
  have hn : (r.cs.map fun c => some c.cnd).any Option.isNone = false := by
    rw [List.any_map]
    simp
  have hno : ¬ ((Txt.rpartition z colS).2.1 = Str.ofString "" ∨ (Txt.rpartition z colS).2.2 ∉ gs ∨ ((Txt.split (Txt.rpartition z colS).1 andS).map pcO).any Option.isNone = true ∨ 2 < (Txt.split (Txt.rpartition z colS).1 andS).length) := by
    rw [hp]
    dsimp only
    rw [hs, hc, hn, List.length_map]
    rintro (q | q | q | q)
    · exact absurd q (by decide +kernel)
    · exact q hg
    · cases q
    · rcases h.2.1 with e | e <;> omega
  have e : prO (.str z) gs false = some ⟨((Txt.split (Txt.rpartition z colS).1 andS).map pcO).filterMap id, (Txt.rpartition z colS).2.2⟩ := if_neg hno
  rw [e, hp]
  dsimp only
  rw [hs, hc, hf]
  rfl
theorem Rx.rw_ok {r : Rx} (h : r.ok) : (∀ c ∈ r.rw.cs, c.ok) ∧ r.rw.cs.length ≤ 1000 := by
  refine ⟨fun c hc => ?_, ?_⟩
  · obtain ⟨x, hx, rfl⟩ := List.mem_map.mp hc
    exact Cn.cnd_ok (h.1 x hx)
  · show (r.cs.map Cn.cnd).length ≤ _
    rw [List.length_map]
    rcases h.2.1 with e | e <;> omega
theorem prO_last {gs : List Str} {z : Str} (h : z ∈ gs) : prO (.str z) gs true = some ⟨[], z⟩ := if_pos h
theorem rws_of {gs : List Str} {last : Str} (hl : last ∈ gs) : ∀ (rx : List Rx) (zs : List Str), zs.map tl = rx.map Rx.L → (∀ r ∈ rx, r.ok ∧ r.g ∈ gs) → rwsO gs (strsD zs ++ [.str last]) = some (rx.map Rx.rw ++ [⟨[], last⟩])
  | [], zs, e, _ => by
    have : zs = [] := by simpa using e
    subst this
    show (prO (.str last) gs true).map _ = _
    rw [prO_last hl]
    rfl
  | r :: rx, zs, e, h => by
    cases zs with
    | nil => cases e
    | cons z zs =>
      obtain ⟨e1, e2⟩ := List.cons.inj e
      have ih := rws_of hl rx zs e2 fun q hq => h q (List.mem_cons_of_mem _ hq)
      have h1 := Rx.pr (h r (by simp)).1 e1 (h r (by simp)).2
      obtain ⟨y, ys, ey⟩ : ∃ y ys, strsD zs ++ [.str last] = y :: ys := by
        cases zs with
        | nil => exact ⟨_, _, rfl⟩
        | cons a b => exact ⟨_, _, rfl⟩
      show rwsO gs (.str z :: (strsD zs ++ [.str last])) = _
      rw [ey] at ih ⊢
      rw [rwsO, h1, ih]
      rfl
theorem rows_rx {rx : List Rx} {last : Str} (h : ∀ r ∈ rx, r.ok) (hl : rx.length ≤ 900) : rowsOk (rx.map Rx.rw ++ [⟨[], last⟩]) := by
  refine ⟨by rw [List.length_append, List.length_map]; simp; omega, fun r hr => ?_⟩
  rcases List.mem_append.mp hr with h1 | h1
  · obtain ⟨q, hq, rfl⟩ := List.mem_map.mp h1
    exact Rx.rw_ok (h q hq)
  · rw [List.mem_singleton.mp h1]
    exact ⟨fun c hc => by simp at hc, by simp⟩
open TL
/-! ### common things of the laws -/
theorem repr_str {mu : Mu} {z : Str} (h1 : ∀ c ∈ tl z, c < 128) (h2 : z.length ≤ 100000) : reprD mu [.str z] = some (True, .str (reprText z)) := by
  have hl := StrLaws.reprText_len z fun c hc => Nat.lt_trans (h1 c hc) (by decide)
  unfold reprD
  show some ((PyData.str z).showable = true ∧ (PyData.str z).depth < 30 ∧ (PyData.str z).shown.length ≤ sizeLine, D.str (PyData.str z).shown) = _
  have e : ((PyData.str z).showable = true ∧ (PyData.str z).depth < 30 ∧ (PyData.str z).shown.length ≤ sizeLine) = True := eq_true ⟨by simp only [PyData.showable], by simp only [PyData.depth]; decide, by simp only [PyData.shown]; exact Nat.le_trans hl (Nat.le_trans (show 10 * z.length + 2 ≤ 10 * 100000 + 2 by omega) (by decide))⟩
  rw [e]
  simp only [PyData.shown]
theorem lab_128 {z : Str} (h : labB z = true) : ∀ c ∈ tl z, c < 128 := fun c hc => by
  have := labL_aln h c hc
  simp only [alnB, letB, digB, Bool.or_eq_true, Bool.and_eq_true, decide_eq_true_eq] at this
  omega
theorem repr_lab {mu : Mu} {z : Str} (h : labB z = true) : reprD mu [.str z] = some (True, .str (reprText z)) := repr_str (lab_128 h) (Nat.le_trans (lab_len h) (by decide))
/-- a member's condition on points, on members -/
theorem holds_pt {m : Mem} {b : Bool} {n : Nat} : (Cn.pt b n).cnd.holds m = decide (decide ((n : Int) ≤ m.x) = b) := by
  show decide (decide (m.at "points" ≤ 0 * m.t / 10 + ((n : Int) - 1)) = !b) = _
  have e : m.at "points" = m.x := by unfold Mem.at qtyV; rw [if_pos rfl]; rfl
  rw [e, Int.zero_mul, Int.zero_ediv, Int.zero_add]
  by_cases h : (n : Int) ≤ m.x
  · rw [decide_eq_true h, decide_eq_false (by omega : ¬ m.x ≤ (n : Int) - 1)]
    cases b <;> rfl
  · rw [decide_eq_false h, decide_eq_true (by omega : m.x ≤ (n : Int) - 1)]
    cases b <;> rfl
theorem holds_mb {m : Mem} {b : Bool} {n : Nat} : (Cn.mb b n).cnd.holds m = decide (decide ((n : Int) ≤ m.t) = b) := by
  show decide (decide (m.at "members" ≤ 0 * m.t / 10 + ((n : Int) - 1)) = !b) = _
  have e : m.at "members" = m.t := by unfold Mem.at qtyV; rw [if_neg (by decide +kernel), if_neg (by decide +kernel), if_neg (by decide +kernel), if_pos rfl]; rfl
  rw [e, Int.zero_mul, Int.zero_ediv, Int.zero_add]
  by_cases h : (n : Int) ≤ m.t
  · rw [decide_eq_true h, decide_eq_false (by omega : ¬ m.t ≤ (n : Int) - 1)]
    cases b <;> rfl
  · rw [decide_eq_false h, decide_eq_true (by omega : m.t ≤ (n : Int) - 1)]
    cases b <;> rfl
theorem numS_tl (n : Nat) : tl (numS n) = numL n := tl_num n
theorem numS_len {n : Nat} (h : n ≤ 10 ^ 12) : (Str.ofString (toString ((n : Nat) : Int))).length ≤ 13 := by
  rw [len_tl, tl_num]
  exact numL_len (by decide) (by omega)
theorem geS_ge (b : Bool) : decide (geS b = ">=") = b := by cases b <;> decide +kernel
theorem geS_len (b : Bool) : (geS b).length ≤ 2 := by cases b <;> decide +kernel
theorem leS_len (b : Bool) : (leS b).length ≤ 2 := by cases b <;> decide +kernel
theorem rng_mem {lo : Int} {n : Nat} {d : D} (h : d ∈ rngD lo n) : ∃ j : Nat, j < n ∧ d = .int (lo + j) := by
  obtain ⟨j, hj, e⟩ := List.mem_map.mp h
  exact ⟨j, List.mem_range.mp hj, e.symm⟩
theorem rng_len (lo : Int) (n : Nat) : (rngD lo n).length = n := by simp [rngD]
theorem row_one {z : Str} {c : Cn} (g : Str) (h : tl z = c.L) : tl (z ++ ": " ++ g) = (Rx.mk [c] g).L := by
  rw [tl_append, tl_append, h, show tl (": " : Str) = [58, 32] from col_tl, List.append_assoc]
  rfl
theorem row_two {z z' : Str} {c c' : Cn} (g : Str) (h : tl z = c.L) (h' : tl z' = c'.L) : tl (z ++ " and " ++ z' ++ ": " ++ g) = (Rx.mk [c, c'] g).L := by
  rw [tl_append, tl_append, tl_append, tl_append, h, h', show tl (": " : Str) = [58, 32] from col_tl, show tl (" and " : Str) = andL from and_tl]
  show _ = (c.L ++ (andL ++ c'.L)) ++ ([58, 32] ++ tl g)
  simp
open TL
/-! ### drawn words, conditions, rows -/
theorem uni_dig : ∀ c, c < 128 → Unicode.isDigit c = digB c := by
  intro c hc
  have h : (List.range 128).all (fun c => Unicode.isDigit c == digB c) = true := by decide +kernel
  exact eq_of_beq (List.all_eq_true.mp h c (List.mem_range.mpr hc))
theorem isdigit_eq {z : Str} (h : ∀ c ∈ tl z, c < 128) : Txt.isdigit z = (decide (0 < (tl z).length) && (tl z).all digB) := by
  unfold Txt.isdigit
  rw [← len_tl]
  congr 1
  rw [← Array.all_toList]
  show (tl z).all _ = (tl z).all _
  rw [List.all_eq]
  simp only [List.all_eq]
  congr 1
  apply propext
  constructor
  · intro q c hc; rw [← uni_dig c (h c hc)]; exact q c hc
  · intro q c hc; rw [uni_dig c (h c hc)]; exact q c hc
theorem numL_128 (n : Nat) : ∀ c ∈ numL n, c < 128 := fun c hc => by
  have := numL_digits n c hc
  omega
theorem Wd.c128 {w : Wd} (h : w.ok) : ∀ c ∈ w.L, c < 128 := by
  intro c hc
  cases w with
  | k n => exact numL_128 n c hc
  | t a => have := h.2; simp [Wd.L] at hc; omega
  | tp a n =>
    have := h.2.1
    simp only [Wd.L, List.mem_cons] at hc
    rcases hc with q | q | q | q | q | q
    · omega
    · omega
    · omega
    · omega
    · omega
    · exact numL_128 n c q
  | tm a n =>
    have := h.2.1
    simp only [Wd.L, List.mem_cons] at hc
    rcases hc with q | q | q | q | q | q
    · omega
    · omega
    · omega
    · omega
    · omega
    · exact numL_128 n c q
  | al => simp [Wd.L] at hc; omega
  | am n =>
    simp only [Wd.L, List.mem_cons] at hc
    rcases hc with q | q | q | q | q
    · omega
    · omega
    · omega
    · omega
    · exact numL_128 n c q
theorem Wd.len {w : Wd} (h : w.ok) : w.L.length ≤ 18 := by
  have hn : ∀ n, n ≤ 10 ^ 12 → (numL n).length ≤ 13 := fun n q => numL_len (by decide) (by omega)
  cases w with
  | k n => have := hn n h; show (numL n).length ≤ 18; omega
  | t a => simp [Wd.L]
  | tp a n => have := hn n h.2.2; simp [Wd.L]; omega
  | tm a n => have := hn n h.2.2; simp [Wd.L]; omega
  | al => simp [Wd.L]
  | am n => have := hn n h; simp [Wd.L]; omega
theorem Cn.c128 {c : Cn} (h : c.ok) : ∀ x ∈ c.L, x < 128 := by
  intro x hx
  unfold Cn.L at hx
  simp only [List.mem_append, List.mem_cons] at hx
  rcases hx with q | q | q | q | q
  · rcases c.q_tl with e | e | e | e <;> (rw [e] at q; simp at q; omega)
  · omega
  · rcases c.s_tl with e | e | e | e <;> (rw [e] at q; simp at q; omega)
  · omega
  · cases c with
    | pt b n => exact numL_128 n x q
    | mb b n => exact numL_128 n x q
    | be b w => exact Wd.c128 (w := w) h x q
    | up b w => exact Wd.c128 (w := w) h x q
theorem Cn.len {c : Cn} (h : c.ok) : c.L.length ≤ 29 := by
  have h1 : (tl c.q).length ≤ 7 := by rcases c.q_tl with e | e | e | e <;> (rw [e]; decide)
  have h2 : (tl c.s).length ≤ 2 := by rcases c.s_tl with e | e | e | e <;> (rw [e]; decide)
  have h3 : c.w.length ≤ 18 := by
    cases c with
    | pt b n => exact Wd.len (w := .k n) h
    | mb b n => exact Wd.len (w := .k n) h
    | be b w => exact Wd.len (w := w) h
    | up b w => exact Wd.len (w := w) h
  unfold Cn.L
  simp only [List.length_append, List.length_cons]
  omega
theorem Rx.len {r : Rx} (h : r.ok) : r.L.length ≤ 80 := by
  have hg := labL_len h.2.2
  have hc : r.left.length ≤ 63 := by
    obtain ⟨cs, g⟩ := r
    rcases h.2.1 with e | e
    · match cs, e with
      | [a], _ => have := Cn.len (h.1 a (by simp)); show (joinL andL [a.L]).length ≤ 63; simp only [joinL]; omega
    · match cs, e with
      | [a, b], _ =>
        have h1 := Cn.len (h.1 a (by simp))
        have h2 := Cn.len (h.1 b (by simp))
        show (joinL andL [a.L, b.L]).length ≤ 63
        simp only [joinL, List.length_append, List.length_cons, List.length_nil]
        omega
  unfold Rx.L
  simp only [List.length_append, List.length_cons, List.length_nil]
  omega
theorem Rx.c128 {r : Rx} (h : r.ok) : ∀ x ∈ r.L, x < 128 := by
  intro x hx
  unfold Rx.L at hx
  rcases List.mem_append.mp hx with q | q
  · have : ∀ (cs : List Cn), (∀ c ∈ cs, c.ok) → x ∈ joinL andL (cs.map Cn.L) → x < 128 := by
      intro cs
      induction cs with
      | nil => intro _ q; simp [joinL] at q
      | cons c r ih =>
        intro hok q
        cases r with
        | nil => exact Cn.c128 (hok c (by simp)) x q
        | cons d r =>
          simp only [List.map_cons, joinL, List.mem_append] at q
          rcases q with q | q | q
          · exact Cn.c128 (hok c (by simp)) x q
          · simp at q; omega
          · exact ih (fun y hy => hok y (List.mem_cons_of_mem _ hy)) q
    exact this r.cs h.1 q
  · rcases List.mem_append.mp q with q | q
    · simp at q; omega
    · have := labL_aln h.2.2 x q
      simp only [alnB, letB, digB, Bool.or_eq_true, Bool.and_eq_true, decide_eq_true_eq] at this
      omega
theorem ge_pick {d : D} (h : d ∈ [D.str ">=", D.str "<"]) : ∃ b, d = .str (geS b) := by
  simp only [List.mem_cons, List.not_mem_nil, or_false] at h
  rcases h with rfl | rfl
  · exact ⟨true, rfl⟩
  · exact ⟨false, rfl⟩
theorem le_pick {d : D} (h : d ∈ [D.str "<=", D.str ">"]) : ∃ b, d = .str (leS b) := by
  simp only [List.mem_cons, List.not_mem_nil, or_false] at h
  rcases h with rfl | rfl
  · exact ⟨true, rfl⟩
  · exact ⟨false, rfl⟩
/-- points at most so great -/
def Cn.cap (k : Int) : Cn → Prop
  | .pt _ n => (n : Int) ≤ k
  | _ => True
open TL
theorem strsOf_strs (zs : List Str) : strsOf (strsD zs) = some zs := strsOf_map zs
theorem join_len_sum : ∀ (zs : List Str) (b : Nat), (∀ z ∈ zs, z.length ≤ b) → (zs.map (·.length)).sum ≤ zs.length * b
  | [], b, _ => by simp
  | z :: r, b, h => by
    have h1 := join_len_sum r b fun x hx => h x (List.mem_cons_of_mem _ hx)
    have h2 := h z (by simp)
    simp only [List.map_cons, List.sum_cons, List.length_cons]
    rw [Nat.add_mul]
    omega
theorem tl_joinT (y : Str) (zs : List Str) : tl (Txt.join y zs) = joinL (tl y) (zs.map tl) := by rw [join_eq, tl_join]
theorem marks_low {ms : List Str} (h : ∀ z ∈ ms, labB z = true) {g : Str} (hg : g ∈ ms) : g.length ≤ 8 := lab_len (h g hg)
open TL
open TL
/-! ### repr of nested things -/
def asc (z : Str) : Prop := ∀ c ∈ tl z, c < 128
theorem asc_app {x y : Str} (h : asc x) (k : asc y) : asc (x ++ y) := fun c hc => by
  rw [tl_append] at hc
  exact (List.mem_append.mp hc).elim (h c) (k c)
theorem asc_of {z : Str} (h : ((tl z).all fun c => decide (c < 128)) = true) : asc z := fun c hc => of_decide_eq_true (List.all_eq_true.mp h c hc)
theorem quote_two (z : Str) : reprQuote z = 39 ∨ reprQuote z = 34 := by
  unfold reprQuote
  split
  · exact .inr rfl
  · exact .inl rfl
theorem char_asc {q c : Nat} (hq : q = 39 ∨ q = 34) (hc : c < 128) : ∀ x ∈ PySem.Builtin.Str.reprChar q c, x < 128 := by
  have h : (List.range 128).all (fun c => ((PySem.Builtin.Str.reprChar 39 c).all fun x => decide (x < 128)) && ((PySem.Builtin.Str.reprChar 34 c).all fun x => decide (x < 128))) = true := by decide +kernel
  have h1 := List.all_eq_true.mp h c (List.mem_range.mpr hc)
  simp only [Bool.and_eq_true, List.all_eq_true, decide_eq_true_eq] at h1
  intro x hx
  rcases hq with rfl | rfl
  · exact h1.1 x hx
  · exact h1.2 x hx
theorem fold_asc {q : Nat} (hq : q = 39 ∨ q = 34) : ∀ (l : List Nat) (acc : Array Nat), (∀ c ∈ l, c < 128) → (∀ c ∈ acc.toList, c < 128) → ∀ c ∈ (l.foldl (fun out c => out ++ (PySem.Builtin.Str.reprChar q c).toArray) acc).toList, c < 128
  | [], acc, _, ha => ha
  | x :: r, acc, hl, ha => by
    rw [List.foldl_cons]
    refine fold_asc hq r _ (fun c hc => hl c (List.mem_cons_of_mem _ hc)) fun c hc => ?_
    have hc : c ∈ acc.toList ++ PySem.Builtin.Str.reprChar q x := by simpa using hc
    exact (List.mem_append.mp hc).elim (ha c) (char_asc hq (hl x (by simp)) c)
theorem repr_asc {z : Str} (h : asc z) : asc (reprText z) := by
  intro c hc
  unfold reprText at hc
  have hq := quote_two z
  have hc : c ∈ ((z.cps.foldl (fun out c => out ++ (PySem.Builtin.Str.reprChar (reprQuote z) c).toArray) #[reprQuote z]).push (reprQuote z)).toList := hc
  rw [Array.toList_push, ← Array.foldl_toList] at hc
  have q2 : reprQuote z < 128 := by rcases hq with e | e <;> omega
  rcases List.mem_append.mp hc with hc | hc
  · exact fold_asc hq z.cps.toList #[reprQuote z] h (fun c hc => by
      have : c = reprQuote z := by simpa using hc
      omega) c hc
  · rw [List.mem_singleton.mp hc]
    exact q2
theorem asc_num (n : Nat) : asc (Str.ofString (toString ((n : Nat) : Int))) := fun c hc => by
  rw [tl_num] at hc
  have := numL_digits n c hc
  omega
theorem asc_int (i : Int) : asc (Str.ofString (toString i)) := by
  cases i with
  | ofNat n => exact asc_num n
  | negSucc n =>
    have e : (toString (Int.negSucc n)) = "-" ++ toString (((n + 1 : Nat) : Int)) := rfl
    intro c hc
    rw [e, tl_ofString, String.toList_append, List.map_append] at hc
    rcases List.mem_append.mp hc with hc | hc
    · have : c = 45 := by simpa using hc
      omega
    · rw [← tl_ofString] at hc
      exact asc_num _ c hc
theorem asc_join {y : Str} (hy : asc y) : ∀ {ts : List Str}, (∀ t ∈ ts, asc t) → asc (Str.join y ts)
  | [], _ => fun c hc => by simp [Str.join, Str.empty, tl] at hc
  | [x], h => h x (by simp)
  | x :: z :: r, h => by
    show asc (x ++ y ++ Str.join y (z :: r))
    exact asc_app (asc_app (h x (by simp)) hy) (asc_join hy fun t ht => h t (List.mem_cons_of_mem _ ht))
theorem asc_tup {ts : List Str} (h : ∀ t ∈ ts, asc t) : asc (tupleText ts) := by
  unfold tupleText
  refine asc_app (asc_app (asc_of (by decide +kernel)) (asc_join (asc_of (by decide +kernel)) h)) ?_
  split <;> exact asc_of (by decide +kernel)
theorem asc_from : ∀ {ts : List Str} (k : Nat) (acc : Str), asc acc → (∀ t ∈ ts, asc t) → asc (textFrom k acc ts)
  | [], k, acc, ha, _ => ha
  | t :: ts, k, acc, ha, h => by
    show asc (textFrom (k + 1) _ ts)
    refine asc_from (k + 1) _ (asc_app (asc_app ha ?_) (h t (by simp))) fun x hx => h x (List.mem_cons_of_mem _ hx)
    split <;> exact asc_of (by decide +kernel)
theorem asc_lst {ts : List Str} (h : ∀ t ∈ ts, asc t) : asc (listText ts) := by
  unfold listText
  exact asc_app (asc_from 0 _ (asc_of (by decide +kernel)) h) (asc_of (by decide +kernel))
structure RO (y : PyData) (b k : Nat) : Prop where
  sh : y.showable = true
  dp : y.depth ≤ k
  ln : y.shown.length ≤ b
  asc : VL.asc y.shown
theorem RO.mono {y : PyData} {b k b' k' : Nat} (h : RO y b k) (hb : b ≤ b') (hk : k ≤ k') : RO y b' k' := ⟨h.sh, Nat.le_trans h.dp hk, Nat.le_trans h.ln hb, h.asc⟩
theorem RO.str {z : Str} (h1 : ∀ c ∈ tl z, c < 128) : RO (.str z) (10 * z.length + 2) 0 := by
  have hl := StrLaws.reprText_len z fun c hc => Nat.lt_trans (h1 c hc) (by decide)
  exact ⟨by simp only [PyData.showable], by simp only [PyData.depth]; exact Nat.le_refl 0, by simp only [PyData.shown]; exact hl, by simp only [PyData.shown]; exact repr_asc h1⟩
theorem RO.int {i : Int} (h : i.natAbs ≤ 10 ^ 60) : RO (.int i) 62 0 := by
  have hlog : i.natAbs.log2 < 1920 := by
    by_cases h0 : i.natAbs = 0
    · rw [h0]; decide
    · rw [Nat.log2_lt h0]
      exact Nat.lt_of_le_of_lt h (by decide +kernel)
  refine ⟨by simp only [PyData.showable]; exact decide_eq_true hlog, by simp only [PyData.depth]; exact Nat.le_refl 0, ?_, by simp only [PyData.shown]; exact asc_int i⟩
  simp only [PyData.shown]
  have h1 := int_text_length_le10 (a := i) (k := 61) (by decide) (Nat.lt_of_le_of_lt h (by decide +kernel))
  rw [len_tl, tl_ofString, List.length_map]
  rw [String.length_toList]
  exact h1
theorem RO.bool {b : Bool} : RO (.bool b) 5 0 := by
  refine ⟨by simp only [PyData.showable], by simp only [PyData.depth]; exact Nat.le_refl 0, ?_, ?_⟩
  · cases b <;> simp only [PyData.shown] <;> decide +kernel
  · cases b <;> simp only [PyData.shown] <;> exact asc_of (by decide +kernel)
theorem RO.none : RO .none 4 0 := by
  refine ⟨by simp only [PyData.showable], by simp only [PyData.depth]; exact Nat.le_refl 0, ?_, ?_⟩
  · simp only [PyData.shown]
    decide +kernel
  · simp only [PyData.shown]
    exact asc_of (by decide +kernel)
theorem ro_all {b k : Nat} : ∀ {xs : List PyData}, (∀ x ∈ xs, RO x b k) → PyData.showableAll xs = true ∧ PyData.depthAll xs ≤ k ∧ (∀ t ∈ PyData.shownAll xs, t.length ≤ b) ∧ (PyData.shownAll xs).length = xs.length ∧ ∀ t ∈ PyData.shownAll xs, asc t
  | [], _ => ⟨by simp only [PyData.showableAll], by simp only [PyData.depthAll]; omega, by simp only [PyData.shownAll]; simp, by simp only [PyData.shownAll, List.length_nil], by simp only [PyData.shownAll]; simp⟩
  | x :: xs, h => by
    obtain ⟨h1, h3, h4, h5, h6⟩ := ro_all (xs := xs) fun y hy => h y (List.mem_cons_of_mem _ hy)
    have hx := h x (by simp)
    refine ⟨?_, ?_, ?_, ?_, ?_⟩
    · simp only [PyData.showableAll, hx.sh, h1, Bool.and_self]
    · simp only [PyData.depthAll]
      have := hx.dp
      omega
    · simp only [PyData.shownAll]
      intro t ht
      rcases List.mem_cons.mp ht with e | ht
      · rw [e]; exact hx.ln
      · exact h4 t ht
    · simp only [PyData.shownAll, List.length_cons, h5]
    · simp only [PyData.shownAll]
      intro t ht
      rcases List.mem_cons.mp ht with e | ht
      · rw [e]; exact hx.asc
      · exact h6 t ht
theorem piled_le {b : Nat} : ∀ {ts : List Str}, (∀ t ∈ ts, t.length ≤ b) → piled ts ≤ ts.length * (b + 2)
  | [], _ => by rw [piled_nil]; exact Nat.zero_le _
  | t :: ts, h => by
    have h1 := piled_le (ts := ts) fun x hx => h x (List.mem_cons_of_mem _ hx)
    have h2 := h t (by simp)
    rw [piled_cons, List.length_cons, Nat.add_mul]
    omega
theorem tup_len {b : Nat} {ts : List Str} (h : ∀ t ∈ ts, t.length ≤ b) : (tupleText ts).length ≤ ts.length * (b + 2) + 4 := by
  unfold tupleText
  rw [app_len, app_len]
  have e1 : (("(" : String) : Str).length = 1 := by decide +kernel
  have e3 : (((if ts.length == 1 then ",)" else ")" : String) : Str)).length ≤ 2 := by split <;> decide +kernel
  have hj : (Str.join ", " ts).length ≤ ts.length * (b + 2) := by
    cases ts with
    | nil => exact Nat.zero_le _
    | cons t r =>
      have := join_length_add (t :: r) (by simp)
      have := piled_le h
      omega
  omega
theorem from_len {b : Nat} : ∀ {ts : List Str} (k : Nat) (acc : Str), (∀ t ∈ ts, t.length ≤ b) → (textFrom k acc ts).length ≤ acc.length + ts.length * (b + 2)
  | [], k, acc, _ => by show acc.length ≤ _; omega
  | t :: ts, k, acc, h => by
    have h1 := from_len (ts := ts) (k + 1) (acc ++ ((if k > 0 then ", " else "" : String) : Str) ++ t) fun x hx => h x (List.mem_cons_of_mem _ hx)
    have h2 := h t (by simp)
    rw [app_len, app_len] at h1
    have e : (((if k > 0 then ", " else "" : String) : Str)).length ≤ 2 := by split <;> decide +kernel
    show (textFrom (k + 1) _ ts).length ≤ _
    rw [List.length_cons, Nat.add_mul]
    omega
theorem lst_len {b : Nat} {ts : List Str} (h : ∀ t ∈ ts, t.length ≤ b) : (listText ts).length ≤ ts.length * (b + 2) + 4 := by
  unfold listText
  rw [app_len]
  have h1 := from_len 0 ("[" : Str) h
  have e1 : (("[" : String) : Str).length = 1 := by decide +kernel
  have e2 : (("]" : String) : Str).length = 1 := by decide +kernel
  omega
theorem RO.tup {b k : Nat} {xs : List PyData} (h : ∀ x ∈ xs, RO x b k) : RO (.tuple xs) (xs.length * (b + 2) + 4) (k + 1) := by
  obtain ⟨h1, h3, h4, h5, h6⟩ := ro_all h
  refine ⟨by simp only [PyData.showable, h1], by simp only [PyData.depth]; omega, ?_, by simp only [PyData.shown]; exact asc_tup h6⟩
  simp only [PyData.shown]
  have := tup_len h4
  rw [h5] at this
  exact this
theorem RO.lst {b k : Nat} {xs : List PyData} (h : ∀ x ∈ xs, RO x b k) : RO (.list xs) (xs.length * (b + 2) + 4) (k + 1) := by
  obtain ⟨h1, h3, h4, h5, h6⟩ := ro_all h
  refine ⟨by simp only [PyData.showable, h1], by simp only [PyData.depth]; omega, ?_, by simp only [PyData.shown]; exact asc_lst h6⟩
  simp only [PyData.shown]
  have := lst_len h4
  rw [h5] at this
  exact this
theorem repr_of {mu : Mu} {d : D} {y : PyData} {b k : Nat} (e : pyRAt mu d = some y) (h : RO y b k) (hb : b ≤ 16000000) (hk : k < 30) : reprD mu [d] = some (True, .str y.shown) := by
  unfold reprD
  simp only [e]
  rw [eq_true (⟨h.sh, Nat.lt_of_le_of_lt h.dp hk, Nat.le_trans h.ln (Nat.le_trans hb (by decide))⟩ : y.showable = true ∧ y.depth < 30 ∧ y.shown.length ≤ sizeLine)]
theorem py_map {α : Type} (f : α → D) (y : α → PyData) (h : ∀ a, pyR (f a) = some (y a)) : ∀ xs : List α, pyRs (xs.map f) = some (xs.map y)
  | [] => by simp only [List.map_nil, pyRs]
  | a :: r => by simp only [List.map_cons, pyRs, h a, py_map f y h r]
/-- repr of a tuple of names -/
theorem repr_names {α : Type} {mu : Mu} (xs : List α) (f : α → Str) (h : ∀ a ∈ xs, labB (f a) = true) (hl : xs.length ≤ 10000) : reprD mu [.ptup (xs.map fun a => .str (f a))] = some (True, .str (PyData.tuple (xs.map fun a => .str (f a))).shown) := by
  refine repr_of (b := xs.length * 84 + 4) (k := 1) ?_ ?_ (by omega) (by decide)
  · show (pyRs (xs.map fun a => D.str (f a))).map PyData.tuple = _
    rw [py_map (fun a => D.str (f a)) (fun a => PyData.str (f a)) (fun a => rfl) xs]
    rfl
  · have := RO.tup (b := 82) (k := 0) (xs := xs.map fun a => PyData.str (f a)) fun x hx => by
      obtain ⟨a, ha, rfl⟩ := List.mem_map.mp hx
      have hz := h a ha
      exact (RO.str (lab_128 hz)).mono (by have := lab_len hz; omega) (Nat.le_refl _)
    rw [List.length_map] at this
    exact this
open TL
/-! ### what repr shows -/
def shw (d : D) : Str := match pyR d with
  | some y => y.shown
  | none => Str.empty
def RD (d : D) (b k : Nat) : Prop := ∃ y, pyR d = some y ∧ RO y b k
theorem RD.mono {d : D} {b k b' k' : Nat} (h : RD d b k) (hb : b ≤ b') (hk : k ≤ k') : RD d b' k' := let ⟨y, e, r⟩ := h; ⟨y, e, r.mono hb hk⟩
theorem RD.str {z : Str} {n : Nat} (h1 : ∀ c ∈ tl z, c < 128) (h : z.length ≤ n) : RD (.str z) (10 * n + 2) 0 := ⟨.str z, rfl, (RO.str h1).mono (by omega) (Nat.le_refl _)⟩
theorem RD.lab {z : Str} (h : labB z = true) : RD (.str z) 82 0 := RD.str (lab_128 h) (lab_len h)
theorem RD.int {i : Int} (h : i.natAbs ≤ 10 ^ 60) : RD (.int i) 62 0 := ⟨.int i, rfl, RO.int h⟩
theorem RD.bl {b : Bool} : RD (.bl b) 5 0 := ⟨.bool b, rfl, RO.bool⟩
theorem RD.non : RD .non 4 0 := ⟨.none, rfl, RO.none⟩
theorem rd_all {b k : Nat} : ∀ {xs : List D}, (∀ x ∈ xs, RD x b k) → ∃ ys, pyRs xs = some ys ∧ ys.length = xs.length ∧ ∀ y ∈ ys, RO y b k
  | [], _ => ⟨[], by simp only [pyRs], rfl, fun y hy => by simp at hy⟩
  | x :: xs, h => by
    obtain ⟨y, e, r⟩ := h x (by simp)
    obtain ⟨ys, e2, l, r2⟩ := rd_all (xs := xs) fun z hz => h z (List.mem_cons_of_mem _ hz)
    refine ⟨y :: ys, by simp only [pyRs, e, e2], by simp [l], fun z hz => ?_⟩
    rcases List.mem_cons.mp hz with rfl | hz
    · exact r
    · exact r2 z hz
theorem RD.lst {xs : List D} {b k : Nat} (h : ∀ x ∈ xs, RD x b k) : RD (.lst xs) (xs.length * (b + 2) + 4) (k + 1) := by
  obtain ⟨ys, e, l, r⟩ := rd_all h
  exact ⟨.list ys, by simp only [pyR, e, Option.map_some], by rw [← l]; exact RO.lst r⟩
theorem RD.tup {xs : List D} {b k : Nat} (h : ∀ x ∈ xs, RD x b k) : RD (.tup xs) (xs.length * (b + 2) + 4) (k + 1) := by
  obtain ⟨ys, e, l, r⟩ := rd_all h
  exact ⟨.tuple ys, by simp only [pyR, e, Option.map_some], by rw [← l]; exact RO.tup r⟩
theorem RD.ptup {xs : List D} {b k : Nat} (h : ∀ x ∈ xs, RD x b k) : RD (.ptup xs) (xs.length * (b + 2) + 4) (k + 1) := by
  obtain ⟨ys, e, l, r⟩ := rd_all h
  exact ⟨.tuple ys, by simp only [pyR, e, Option.map_some], by rw [← l]; exact RO.tup r⟩
theorem dict_len {b : Nat} {ts : List Str} (h : ∀ t ∈ ts, t.length ≤ b) : (dictText ts).length ≤ ts.length * (b + 2) + 4 := by
  unfold dictText
  rw [app_len, app_len]
  have e1 : (("{" : String) : Str).length = 1 := by decide +kernel
  have e2 : (("}" : String) : Str).length = 1 := by decide +kernel
  have hj : (Str.join ", " ts).length ≤ ts.length * (b + 2) := by
    cases ts with
    | nil => exact Nat.zero_le _
    | cons t r =>
      have := join_length_add (t :: r) (by simp)
      have := piled_le h
      omega
  omega
def keyOk : Key → Prop
  | .inl i => i.natAbs ≤ 10 ^ 60
  | .inr z => (∀ c ∈ tl z, c < 128) ∧ z.length ≤ 100
theorem key_ro {k : Key} (h : keyOk k) : RO (keyP k) 1002 0 := by
  cases k with
  | inl i => exact (RO.int h).mono (by decide) (Nat.le_refl _)
  | inr z => exact (RO.str h.1).mono (by have := h.2; omega) (Nat.le_refl _)
theorem rk_all {b k : Nat} (hb : 1002 ≤ b) : ∀ {xs : List (Key × D)}, (∀ x ∈ xs, keyOk x.1 ∧ RD x.2 b k) → ∃ ys, pyRk xs = some ys ∧ PyData.showableKv ys = true ∧ PyData.depthKv ys ≤ k ∧ (∀ t ∈ PyData.shownKv ys, t.length ≤ 2 * b + 2) ∧ (PyData.shownKv ys).length = xs.length ∧ ∀ t ∈ PyData.shownKv ys, asc t
  | [], _ => ⟨[], by simp only [pyRk], by simp only [PyData.showableKv], by simp only [PyData.depthKv]; omega, by simp only [PyData.shownKv]; simp, by simp only [PyData.shownKv, List.length_nil], by simp only [PyData.shownKv]; simp⟩
  | (q, x) :: xs, h => by
    obtain ⟨ys, e, h1, h2, h3, h4, h5⟩ := rk_all hb (xs := xs) fun z hz => h z (List.mem_cons_of_mem _ hz)
    obtain ⟨hq, y, e2, r⟩ := h (q, x) (by simp)
    have rq : RO (keyP q) 1002 0 := key_ro (k := q) hq
    have e0 : ((": " : String) : Str).length = 2 := by decide +kernel
    refine ⟨(keyP q, y) :: ys, by simp only [pyRk, e, e2], by simp only [PyData.showableKv, rq.sh, r.sh, h1, Bool.and_self], ?_, ?_, by simp only [PyData.shownKv, List.length_cons, h4], ?_⟩
    · simp only [PyData.depthKv]
      have := rq.dp
      have := r.dp
      omega
    · simp only [PyData.shownKv]
      intro t ht
      rcases List.mem_cons.mp ht with e | ht
      · rw [e, app_len, app_len, e0]
        have := rq.ln
        have := r.ln
        omega
      · exact h3 t ht
    · simp only [PyData.shownKv]
      intro t ht
      rcases List.mem_cons.mp ht with e | ht
      · rw [e]
        exact asc_app (asc_app rq.asc (asc_of (by decide +kernel))) r.asc
      · exact h5 t ht
theorem RD.dct {xs : List (Key × D)} {b k : Nat} (hb : 1002 ≤ b) (h : ∀ x ∈ xs, keyOk x.1 ∧ RD x.2 b k) : RD (.dct xs) (xs.length * (2 * b + 4) + 4) (k + 1) := by
  obtain ⟨ys, e, h1, h2, h3, h4, h5⟩ := rk_all hb h
  refine ⟨.dict ys, by simp only [pyR, e, Option.map_some], by simp only [PyData.showable, h1], by simp only [PyData.depth]; omega, ?_, by simp only [PyData.shown]; exact asc_app (asc_app (asc_of (by decide +kernel)) (asc_join (asc_of (by decide +kernel)) h5)) (asc_of (by decide +kernel))⟩
  simp only [PyData.shown]
  have := dict_len h3
  rw [h4] at this
  exact this
theorem repr_rd {mu : Mu} {d : D} {b k : Nat} (h : RD d b k) (hb : b ≤ 16000000) (hk : k < 30) : reprD mu [d] = some (True, .str (shw d)) := by
  obtain ⟨y, e, r⟩ := h
  have e2 : pyRAt mu d = some y := by
    cases d <;> first | exact e | (simp only [pyR] at e; cases e)
  rw [repr_of e2 r hb hk]
  unfold shw
  rw [e]
theorem RD.strs {zs : List Str} {n : Nat} (h : ∀ z ∈ zs, (∀ c ∈ tl z, c < 128) ∧ z.length ≤ n) : ∀ x ∈ strsD zs, RD x (10 * n + 2) 0 := fun x hx => by
  obtain ⟨z, hz, rfl⟩ := strs_mem hx
  exact RD.str (h z hz).1 (h z hz).2
/-! by levels -/
def bnd : Nat → Nat
  | 0 => 1002
  | k + 1 => 16 * bnd k + 36
def RL (k : Nat) (d : D) : Prop := RD d (bnd k) k
theorem bnd_up : ∀ k, 1002 ≤ bnd k
  | 0 => Nat.le_refl _
  | k + 1 => by
    have := bnd_up k
    show 1002 ≤ 16 * bnd k + 36
    omega
theorem RL.up {k : Nat} {d : D} (h : RL k d) : RL (k + 1) d := RD.mono h (by show bnd k ≤ 16 * bnd k + 36; omega) (Nat.le_succ _)
theorem RL.str {k : Nat} {z : Str} (h1 : asc z) (h : z.length ≤ 100) : RL k (.str z) := RD.mono (RD.str h1 h) (by have := bnd_up k; omega) (Nat.zero_le _)
theorem RL.int {k : Nat} {i : Int} (h : i.natAbs ≤ 10 ^ 60) : RL k (.int i) := RD.mono (RD.int h) (by have := bnd_up k; omega) (Nat.zero_le _)
theorem RL.bl {k : Nat} {b : Bool} : RL k (.bl b) := RD.mono RD.bl (by have := bnd_up k; omega) (Nat.zero_le _)
theorem RL.non {k : Nat} : RL k .non := RD.mono RD.non (by have := bnd_up k; omega) (Nat.zero_le _)
theorem seq_bnd {n k : Nat} (h : n ≤ 15) : n * (bnd k + 2) + 4 ≤ bnd (k + 1) := by
  show n * (bnd k + 2) + 4 ≤ 16 * bnd k + 36
  have : n * (bnd k + 2) ≤ 15 * (bnd k + 2) := Nat.mul_le_mul_right _ h
  omega
theorem RL.tup {k : Nat} {xs : List D} (hl : xs.length ≤ 15) (h : ∀ x ∈ xs, RL k x) : RL (k + 1) (.tup xs) := RD.mono (RD.tup h) (seq_bnd hl) (Nat.le_refl _)
theorem RL.ptup {k : Nat} {xs : List D} (hl : xs.length ≤ 15) (h : ∀ x ∈ xs, RL k x) : RL (k + 1) (.ptup xs) := RD.mono (RD.ptup h) (seq_bnd hl) (Nat.le_refl _)
theorem RL.lst {k : Nat} {xs : List D} (hl : xs.length ≤ 15) (h : ∀ x ∈ xs, RL k x) : RL (k + 1) (.lst xs) := RD.mono (RD.lst h) (seq_bnd hl) (Nat.le_refl _)
theorem RL.dct {k : Nat} {xs : List (Key × D)} (hl : xs.length ≤ 7) (h : ∀ x ∈ xs, keyOk x.1 ∧ RL k x.2) : RL (k + 1) (.dct xs) := RD.mono (RD.dct (bnd_up k) h) (by
  show xs.length * (2 * bnd k + 4) + 4 ≤ 16 * bnd k + 36
  have : xs.length * (2 * bnd k + 4) ≤ 7 * (2 * bnd k + 4) := Nat.mul_le_mul_right _ hl
  omega) (Nat.le_refl _)
theorem bnd3 : bnd 3 ≤ 16000000 := by decide
theorem repr_rl {mu : Mu} {d : D} (h : RL 3 d) : reprD mu [d] = some (True, .str (shw d)) := repr_rd h bnd3 (by decide)
theorem RD.asc {d : D} {b k : Nat} (h : RD d b k) : VL.asc (shw d) ∧ (shw d).length ≤ b := by
  obtain ⟨y, e, r⟩ := h
  unfold shw
  rw [e]
  exact ⟨r.asc, r.ln⟩
open TL
theorem cut_last {xs : List D} {y : D} : cutD (xs ++ [y]) (some (-1)) none = [y] := by
  unfold cutD
  rw [HT.sIx_none]
  have e : HT.sIx (xs ++ [y]).length 0 (some (-1)) = xs.length := by
    rw [List.length_append]
    unfold HT.sIx
    simp
    omega
  rw [e, List.drop_left' rfl]
  simp
theorem strs_rev (zs : List Str) : (strsD zs).reverse = strsD zs.reverse := by
  unfold strsD
  rw [List.map_reverse]
theorem strs_lab {zs : List Str} {n : Nat} (h : ∀ z ∈ zs, z.length ≤ n) (hn : n ≤ 100000) : ∀ x ∈ strsD zs, plainB x = true ∧ fitD x = true := fun x hx => by
  obtain ⟨z, hz, rfl⟩ := strs_mem hx
  exact ⟨rfl, decide_eq_true (Nat.le_trans (h z hz) hn)⟩
theorem rows_fit {zs : List Str} {rx : List Rx} {last : Str} (h1 : zs.map tl = rx.map Rx.L) (h2 : ∀ r ∈ rx, r.ok) (h3 : labB last = true) : ∀ x ∈ strsD zs ++ [D.str last], plainB x = true ∧ fitD x = true := fun x hx => by
  rcases List.mem_append.mp hx with h | h
  · refine strs_lab (n := 80) (fun z hz => ?_) (by decide) x h
    have : tl z ∈ rx.map Rx.L := by rw [← h1]; exact List.mem_map.mpr ⟨z, hz, rfl⟩
    obtain ⟨r, hr, e⟩ := List.mem_map.mp this
    rw [len_tl, ← e]
    exact Rx.len (h2 r hr)
  · rw [List.mem_singleton.mp h]
    exact ⟨rfl, decide_eq_true (Nat.le_trans (lab_len h3) (by decide))⟩
theorem rows_lowL {zs : List Str} {last : Str} (n : Nat) : lowL n (strsD zs ++ [D.str last]) = true := by
  have : strsD zs ++ [D.str last] = strsD (zs ++ [last]) := by unfold strsD; rw [List.map_append]; rfl
  rw [this]
  exact low_strs _ _
theorem lines_len {zs : List Str} {rx : List Rx} (h1 : zs.map tl = rx.map Rx.L) : zs.length = rx.length := by
  have := congrArg List.length h1
  rwa [List.length_map, List.length_map] at this
/-- a drawn rule is made -/
theorem make_drawn {gd vd : D} {ms : List Str} {zs : List Str} {rx : List Rx} {last : Str} {mu : Mu} {Q : KD} {E : EdF} (l1 : lowL mu.length mu = true) (hgd : gd = .tup (strsD ms) ∨ gd = .ptup (strsD ms)) (hvd : vd = .tup (strsD zs ++ [.str last]) ∨ vd = .ptup (strsD zs ++ [.str last])) (hm : grdOk ms) (h1 : zs.map tl = rx.map Rx.L) (h2 : ∀ r ∈ rx, r.ok ∧ r.g ∈ ms) (h3 : last ∈ ms) (h4 : rx.length < 5)
    (h : Q (rulD (rx.map Rx.rw ++ [⟨[], last⟩]) gd vd) mu) : sRule_init [.loc mu.length, gd, vd] (mu ++ [.obj "Rule" []]) (fun d m2 => d = .non ∧ ∃ d' m', Frz m2 (.loc mu.length) m' d' ∧ mu.length ≤ List.length m' ∧ Q d' m') E :=
  make_rule l1 hgd hm hvd (rows_fit h1 (fun r hr => (h2 r hr).1) (hm.2.2.1 last h3)) (rws_of h3 rx zs h1 h2) (by simp) (by have := lines_len h1; simp [strsD]; omega) (rows_lowL _) h
theorem rev_ok {ms : List Str} (h : grdOk ms) : grdOk ms.reverse := ⟨by rw [List.length_reverse]; exact h.1, by rw [List.length_reverse]; exact h.2.1, fun z hz => h.2.2.1 z (List.mem_reverse.mp hz), by rw [List.Nodup, List.pairwise_reverse]; exact h.2.2.2.imp fun q => Ne.symm q⟩
theorem int_menu {d : D} {ns : List Int} (h : d ∈ ns.map D.int) : ∃ i ∈ ns, d = .int i := by
  obtain ⟨i, hi, e⟩ := List.mem_map.mp h
  exact ⟨i, hi, e.symm⟩
def Cn.S (c : Cn) : Str := ⟨c.L.toArray⟩
def Rx.S (r : Rx) : Str := ⟨r.L.toArray⟩
theorem Cn.S_tl (c : Cn) : tl c.S = c.L := tl_mk _
theorem Rx.S_tl (r : Rx) : tl r.S = r.L := tl_mk _
theorem Cn.S_of {c : Cn} {z : Str} (h : tl z = c.L) : z = c.S := ext_tl (h.trans c.S_tl.symm)
theorem Rx.S_of {r : Rx} {z : Str} (h : tl z = r.L) : z = r.S := ext_tl (h.trans r.S_tl.symm)
theorem S_one (c : Cn) (g : Str) : c.S ++ ": " ++ g = (Rx.mk [c] g).S := Rx.S_of (row_one g c.S_tl)
theorem S_two (c c' : Cn) (g : Str) : c.S ++ " and " ++ c'.S ++ ": " ++ g = (Rx.mk [c, c'] g).S := Rx.S_of (row_two g c.S_tl c'.S_tl)
theorem Cn.S_len {c : Cn} (h : c.ok) : c.S.length ≤ 29 := by rw [len_tl, Cn.S_tl]; exact Cn.len h
theorem asL1_app (mu : Mu) (xs : List D) : asL1 (mu ++ [.lst xs]) (.loc mu.length) = some xs := by simp only [asL1, app_get]
theorem appO_app (mu : Mu) (xs : List D) (d : D) : appO (mu ++ [.lst xs]) (.loc mu.length) [d] = some (xs.length < sizeLine, mu ++ [.lst (xs ++ [d])]) := by simp only [appO, app_get, app_set]
theorem addD_app (mu : Mu) (xs ys : List D) : addD (mu ++ [.lst xs]) (.loc mu.length) (.lst ys) = some (xs.length + ys.length ≤ sizeLine, .lst (xs ++ ys)) := by
  show (match asL1 (mu ++ [.lst xs]) (.loc mu.length), asL1 (mu ++ [.lst xs]) (.lst ys) with | some s, some t => some (s.length + t.length ≤ sizeLine, D.lst (s ++ t)) | _, _ => none) = _
  rw [asL1_app]
  rfl
/-- rows and the last one -/
def altD (a : List Rx × Str) : D := .lst (strsD (a.1.map Rx.S) ++ [.str a.2])
def altOk (ms : List Str) (a : List Rx × Str) : Prop := (∀ r ∈ a.1, r.ok ∧ r.g ∈ ms) ∧ a.2 ∈ ms ∧ a.1.length < 5
theorem rx1_ok {c : Cn} {g : Str} (h : c.ok) (hg : labB g = true) : (Rx.mk [c] g).ok := ⟨fun x hx => by rw [List.mem_singleton.mp hx]; exact h, .inl rfl, hg⟩
theorem rx2_ok {c c' : Cn} {g : Str} (h : c.ok) (h' : c'.ok) (hg : labB g = true) : (Rx.mk [c, c'] g).ok := ⟨fun x hx => by
  simp only [List.mem_cons, List.not_mem_nil, or_false] at hx
  rcases hx with rfl | rfl
  · exact h
  · exact h', .inr rfl, hg⟩
theorem alt_map (a : List Rx × Str) : (a.1.map Rx.S).map tl = a.1.map Rx.L := by
  rw [List.map_map]
  exact List.map_congr_left fun r _ => r.S_tl
theorem altD_low (n : Nat) (a : List Rx × Str) : lowD n (altD a) = true := rows_lowL n
def altRul (ms : List Str) (a : List Rx × Str) : D := rulD (a.1.map Rx.rw ++ [⟨[], a.2⟩]) (.ptup (strsD ms)) (.ptup (strsD (a.1.map Rx.S) ++ [.str a.2]))
theorem lines_S {zs : List Str} {rx : List Rx} (h : zs.map tl = rx.map Rx.L) : zs = rx.map Rx.S := by
  refine map_tl_inj ?_
  rw [h, List.map_map]
  exact List.map_congr_left fun r _ => r.S_tl.symm
inductive Ln where
  | row (r : Rx)
  | end_ (s : Str)
def lnD : Ln → D
  | .row r => .str r.S
  | .end_ s => .str s
theorem ln_rows (rx : List Rx) (last : Str) : strsD (rx.map Rx.S) ++ [.str last] = (rx.map Ln.row ++ [Ln.end_ last]).map lnD := by
  unfold strsD
  rw [List.map_append, List.map_map, List.map_map]
  rfl
theorem Rx.S_len {r : Rx} (h : r.ok) : r.S.length ≤ 80 := by rw [len_tl, Rx.S_tl]; exact Rx.len h
/-- repr of two equal tuples of names in a list -/
theorem repr_pair {α : Type} {mu : Mu} (xs : List α) (f : α → Str) (h : ∀ a ∈ xs, labB (f a) = true) (hl : xs.length ≤ 10000) : reprD mu [.lst [.ptup (xs.map fun a => .str (f a)), .ptup (xs.map fun a => .str (f a))]] = some (True, .str (PyData.list [.tuple (xs.map fun a => .str (f a)), .tuple (xs.map fun a => .str (f a))]).shown) := by
  have hp : pyRs (xs.map fun a => D.str (f a)) = some (xs.map fun a => PyData.str (f a)) := py_map (fun a => D.str (f a)) (fun a => PyData.str (f a)) (fun a => rfl) xs
  have ht : RO (.tuple (xs.map fun a => PyData.str (f a))) (xs.length * 84 + 4) 1 := by
    have := RO.tup (b := 82) (k := 0) (xs := xs.map fun a => PyData.str (f a)) fun x hx => by
      obtain ⟨a, ha, rfl⟩ := List.mem_map.mp hx
      have hz := h a ha
      exact (RO.str (lab_128 hz)).mono (by have := lab_len hz; omega) (Nat.le_refl _)
    rw [List.length_map] at this
    exact this
  refine repr_of (b := 2 * (xs.length * 84 + 4 + 2) + 4) (k := 2) ?_ (RO.lst fun x hx => ?_) (by omega) (by decide)
  · show (pyRs [D.ptup _, D.ptup _]).map PyData.list = _
    simp only [pyRs, pyR, hp, Option.map_some]
  · simp only [List.mem_cons, List.not_mem_nil, or_false, or_self] at hx
    rw [hx]
    exact ht
def sRule_grades : SpD := spU 1 fun ds_ o_ => ∃ (rs : List Rw) (gs ro : D), ds_ = [rulD rs gs ro] ∧ o_ = .ok gs
theorem call_Rule_grades {rs : List Rw} {gs ro : D} {mu : Mu} {Q : KD} {E : EdF} (kk_ : outK (.ok gs) mu Q E) : sRule_grades [rulD rs gs ro] mu Q E := spU_at ⟨_, _, _, rfl, rfl⟩ rfl kk_
def tRule_grades (Ed : EdT) : TSd :=
  sRet (dAt "Rule" ksRule 1 (dVar 0))
abbrev NRule_grades : List Str := ["self"]
theorem gsRule_grades : GoodSp sRule_grades := spU_good
theorem lenRule_grades : ∀ ds mu Q E, sRule_grades ds mu Q E → ds.length = 1 := spU_len
theorem pRule_grades : ∀ ds mu Q E, lowL mu.length mu = true → lowL mu.length ds = true → sRule_grades ds mu Q E → tRule_grades (fun _ c fs m => E c fs m) (endD mu.length Q) (startD NRule_grades ds) mu := by
  intro ds mu Q E l1 l2 h
  obtain ⟨o_, ⟨rs, gs, ro, rfl, rfl⟩, hR⟩ := spU_of h
  ((repeat wtm_at "s"); (try conv => whnf))
  exact end_u hR rfl
def sRule_rows : SpD := spU 1 fun ds_ o_ => ∃ (rs : List Rw) (gs ro : D), ds_ = [rulD rs gs ro] ∧ o_ = .ok ro
theorem call_Rule_rows {rs : List Rw} {gs ro : D} {mu : Mu} {Q : KD} {E : EdF} (kk_ : outK (.ok ro) mu Q E) : sRule_rows [rulD rs gs ro] mu Q E := spU_at ⟨_, _, _, rfl, rfl⟩ rfl kk_
def tRule_rows (Ed : EdT) : TSd :=
  sRet (dAt "Rule" ksRule 2 (dVar 0))
abbrev NRule_rows : List Str := ["self"]
theorem gsRule_rows : GoodSp sRule_rows := spU_good
theorem lenRule_rows : ∀ ds mu Q E, sRule_rows ds mu Q E → ds.length = 1 := spU_len
theorem pRule_rows : ∀ ds mu Q E, lowL mu.length mu = true → lowL mu.length ds = true → sRule_rows ds mu Q E → tRule_rows (fun _ c fs m => E c fs m) (endD mu.length Q) (startD NRule_rows ds) mu := by
  intro ds mu Q E l1 l2 h
  obtain ⟨o_, ⟨rs, gs, ro, rfl, rfl⟩, hR⟩ := spU_of h
  ((repeat wtm_at "s"); (try conv => whnf))
  exact end_u hR rfl
def sRule___bool__ : SpD := spU 1 fun ds_ o_ => ∃ (d : D), ds_ = [d] ∧ o_ = .ok (.bl true)
theorem call_Rule___bool__ {d : D} {mu : Mu} {Q : KD} {E : EdF} (kk_ : outK (.ok (.bl true)) mu Q E) : sRule___bool__ [d] mu Q E := spU_at ⟨_, rfl, rfl⟩ rfl kk_
def tRule___bool__ (Ed : EdT) : TSd :=
  sRet (dC (.bl true))
abbrev NRule___bool__ : List Str := ["self"]
theorem gsRule___bool__ : GoodSp sRule___bool__ := spU_good
theorem lenRule___bool__ : ∀ ds mu Q E, sRule___bool__ ds mu Q E → ds.length = 1 := spU_len
theorem pRule___bool__ : ∀ ds mu Q E, lowL mu.length mu = true → lowL mu.length ds = true → sRule___bool__ ds mu Q E → tRule___bool__ (fun _ c fs m => E c fs m) (endD mu.length Q) (startD NRule___bool__ ds) mu := by
  intro ds mu Q E l1 l2 h
  obtain ⟨o_, ⟨d, rfl, rfl⟩, hR⟩ := spU_of h
  ((repeat wtm_at "s"); (try conv => whnf))
  exact end_u hR rfl
def sRule___len__ : SpD := spU 1 fun ds_ o_ => ∃ (rs : List Rw) (gs ro : D) (xs : List D), ds_ = [rulD rs gs ro] ∧ (ro = .tup xs ∨ ro = .ptup xs) ∧ o_ = .ok (.int xs.length)
theorem call_Rule___len__ {rs : List Rw} {gs ro : D} {xs : List D} {mu : Mu} {Q : KD} {E : EdF} (h : ro = .tup xs ∨ ro = .ptup xs) (kk_ : outK (.ok (.int xs.length)) mu Q E) : sRule___len__ [rulD rs gs ro] mu Q E := spU_at ⟨_, _, _, _, rfl, h, rfl⟩ rfl kk_
def tRule___len__ (Ed : EdT) : TSd :=
  sRet (dB (gOf lenD) (dCons (dAt "Rule" ksRule 2 (dVar 0)) (dNil)))
abbrev NRule___len__ : List Str := ["self"]
theorem gsRule___len__ : GoodSp sRule___len__ := spU_good
theorem lenRule___len__ : ∀ ds mu Q E, sRule___len__ ds mu Q E → ds.length = 1 := spU_len
theorem pRule___len__ : ∀ ds mu Q E, lowL mu.length mu = true → lowL mu.length ds = true → sRule___len__ ds mu Q E → tRule___len__ (fun _ c fs m => E c fs m) (endD mu.length Q) (startD NRule___len__ ds) mu := by
  intro ds mu Q E l1 l2 h
  obtain ⟨o_, ⟨rs, gs, ro, xs, rfl, h, rfl⟩, hR⟩ := spU_of h
  rcases h with rfl | rfl
  all_goals
    ((repeat wtm_at "s"); (try conv => whnf))
    exact end_u hR rfl
theorem mx_InvalidText_InvalidText : mtAt mtX "InvalidText" "InvalidText" = some true := by
  rw [mtAt_eq]
  decide +kernel
theorem mx_InvalidText_InvalidPoints : mtAt mtX "InvalidText" "InvalidPoints" = some false := by
  rw [mtAt_eq]
  decide +kernel
theorem mx_InvalidText_InvalidChange : mtAt mtX "InvalidText" "InvalidChange" = some false := by
  rw [mtAt_eq]
  decide +kernel
theorem mx_InvalidText_InvalidGrades : mtAt mtX "InvalidText" "InvalidGrades" = some false := by
  rw [mtAt_eq]
  decide +kernel
theorem mx_InvalidText_InvalidRows : mtAt mtX "InvalidText" "InvalidRows" = some false := by
  rw [mtAt_eq]
  decide +kernel
theorem mx_InvalidText_InvalidGroup : mtAt mtX "InvalidText" "InvalidGroup" = some false := by
  rw [mtAt_eq]
  decide +kernel
theorem mx_InvalidText_UnknownName : mtAt mtX "InvalidText" "UnknownName" = some false := by
  rw [mtAt_eq]
  decide +kernel
theorem mx_InvalidText_BadValue : mtAt mtX "InvalidText" "BadValue" = some true := by
  rw [mtAt_eq]
  decide +kernel
theorem mx_InvalidText_ValueError : mtAt mtX "InvalidText" "ValueError" = some true := by
  rw [mtAt_eq]
  decide +kernel
theorem mx_InvalidText_BadName : mtAt mtX "InvalidText" "BadName" = some false := by
  rw [mtAt_eq]
  decide +kernel
theorem mx_InvalidText_LookupError : mtAt mtX "InvalidText" "LookupError" = some false := by
  rw [mtAt_eq]
  decide +kernel
theorem xl_InvalidText : xin xtab "InvalidText" = true := by
  rw [xin_eq]
  decide +kernel
theorem mx_InvalidPoints_InvalidText : mtAt mtX "InvalidPoints" "InvalidText" = some false := by
  rw [mtAt_eq]
  decide +kernel
theorem mx_InvalidPoints_InvalidPoints : mtAt mtX "InvalidPoints" "InvalidPoints" = some true := by
  rw [mtAt_eq]
  decide +kernel
theorem mx_InvalidPoints_InvalidChange : mtAt mtX "InvalidPoints" "InvalidChange" = some false := by
  rw [mtAt_eq]
  decide +kernel
theorem mx_InvalidPoints_InvalidGrades : mtAt mtX "InvalidPoints" "InvalidGrades" = some false := by
  rw [mtAt_eq]
  decide +kernel
theorem mx_InvalidPoints_InvalidRows : mtAt mtX "InvalidPoints" "InvalidRows" = some false := by
  rw [mtAt_eq]
  decide +kernel
theorem mx_InvalidPoints_InvalidGroup : mtAt mtX "InvalidPoints" "InvalidGroup" = some false := by
  rw [mtAt_eq]
  decide +kernel
theorem mx_InvalidPoints_UnknownName : mtAt mtX "InvalidPoints" "UnknownName" = some false := by
  rw [mtAt_eq]
  decide +kernel
theorem mx_InvalidPoints_BadValue : mtAt mtX "InvalidPoints" "BadValue" = some true := by
  rw [mtAt_eq]
  decide +kernel
theorem mx_InvalidPoints_ValueError : mtAt mtX "InvalidPoints" "ValueError" = some true := by
  rw [mtAt_eq]
  decide +kernel
theorem mx_InvalidPoints_BadName : mtAt mtX "InvalidPoints" "BadName" = some false := by
  rw [mtAt_eq]
  decide +kernel
theorem mx_InvalidPoints_LookupError : mtAt mtX "InvalidPoints" "LookupError" = some false := by
  rw [mtAt_eq]
  decide +kernel
theorem xl_InvalidPoints : xin xtab "InvalidPoints" = true := by
  rw [xin_eq]
  decide +kernel
theorem mx_InvalidChange_InvalidText : mtAt mtX "InvalidChange" "InvalidText" = some false := by
  rw [mtAt_eq]
  decide +kernel
theorem mx_InvalidChange_InvalidPoints : mtAt mtX "InvalidChange" "InvalidPoints" = some false := by
  rw [mtAt_eq]
  decide +kernel
theorem mx_InvalidChange_InvalidChange : mtAt mtX "InvalidChange" "InvalidChange" = some true := by
  rw [mtAt_eq]
  decide +kernel
theorem mx_InvalidChange_InvalidGrades : mtAt mtX "InvalidChange" "InvalidGrades" = some false := by
  rw [mtAt_eq]
  decide +kernel
theorem mx_InvalidChange_InvalidRows : mtAt mtX "InvalidChange" "InvalidRows" = some false := by
  rw [mtAt_eq]
  decide +kernel
theorem mx_InvalidChange_InvalidGroup : mtAt mtX "InvalidChange" "InvalidGroup" = some false := by
  rw [mtAt_eq]
  decide +kernel
theorem mx_InvalidChange_UnknownName : mtAt mtX "InvalidChange" "UnknownName" = some false := by
  rw [mtAt_eq]
  decide +kernel
theorem mx_InvalidChange_BadValue : mtAt mtX "InvalidChange" "BadValue" = some true := by
  rw [mtAt_eq]
  decide +kernel
theorem mx_InvalidChange_ValueError : mtAt mtX "InvalidChange" "ValueError" = some true := by
  rw [mtAt_eq]
  decide +kernel
theorem mx_InvalidChange_BadName : mtAt mtX "InvalidChange" "BadName" = some false := by
  rw [mtAt_eq]
  decide +kernel
theorem mx_InvalidChange_LookupError : mtAt mtX "InvalidChange" "LookupError" = some false := by
  rw [mtAt_eq]
  decide +kernel
theorem xl_InvalidChange : xin xtab "InvalidChange" = true := by
  rw [xin_eq]
  decide +kernel
theorem mx_InvalidGrades_InvalidText : mtAt mtX "InvalidGrades" "InvalidText" = some false := by
  rw [mtAt_eq]
  decide +kernel
theorem mx_InvalidGrades_InvalidPoints : mtAt mtX "InvalidGrades" "InvalidPoints" = some false := by
  rw [mtAt_eq]
  decide +kernel
theorem mx_InvalidGrades_InvalidChange : mtAt mtX "InvalidGrades" "InvalidChange" = some false := by
  rw [mtAt_eq]
  decide +kernel
theorem mx_InvalidGrades_InvalidGrades : mtAt mtX "InvalidGrades" "InvalidGrades" = some true := by
  rw [mtAt_eq]
  decide +kernel
theorem mx_InvalidGrades_InvalidRows : mtAt mtX "InvalidGrades" "InvalidRows" = some false := by
  rw [mtAt_eq]
  decide +kernel
theorem mx_InvalidGrades_InvalidGroup : mtAt mtX "InvalidGrades" "InvalidGroup" = some false := by
  rw [mtAt_eq]
  decide +kernel
theorem mx_InvalidGrades_UnknownName : mtAt mtX "InvalidGrades" "UnknownName" = some false := by
  rw [mtAt_eq]
  decide +kernel
theorem mx_InvalidGrades_BadValue : mtAt mtX "InvalidGrades" "BadValue" = some true := by
  rw [mtAt_eq]
  decide +kernel
theorem mx_InvalidGrades_ValueError : mtAt mtX "InvalidGrades" "ValueError" = some true := by
  rw [mtAt_eq]
  decide +kernel
theorem mx_InvalidGrades_BadName : mtAt mtX "InvalidGrades" "BadName" = some false := by
  rw [mtAt_eq]
  decide +kernel
theorem mx_InvalidGrades_LookupError : mtAt mtX "InvalidGrades" "LookupError" = some false := by
  rw [mtAt_eq]
  decide +kernel
theorem xl_InvalidGrades : xin xtab "InvalidGrades" = true := by
  rw [xin_eq]
  decide +kernel
theorem mx_InvalidRows_InvalidText : mtAt mtX "InvalidRows" "InvalidText" = some false := by
  rw [mtAt_eq]
  decide +kernel
theorem mx_InvalidRows_InvalidPoints : mtAt mtX "InvalidRows" "InvalidPoints" = some false := by
  rw [mtAt_eq]
  decide +kernel
theorem mx_InvalidRows_InvalidChange : mtAt mtX "InvalidRows" "InvalidChange" = some false := by
  rw [mtAt_eq]
  decide +kernel
theorem mx_InvalidRows_InvalidGrades : mtAt mtX "InvalidRows" "InvalidGrades" = some false := by
  rw [mtAt_eq]
  decide +kernel
theorem mx_InvalidRows_InvalidRows : mtAt mtX "InvalidRows" "InvalidRows" = some true := by
  rw [mtAt_eq]
  decide +kernel
theorem mx_InvalidRows_InvalidGroup : mtAt mtX "InvalidRows" "InvalidGroup" = some false := by
  rw [mtAt_eq]
  decide +kernel
theorem mx_InvalidRows_UnknownName : mtAt mtX "InvalidRows" "UnknownName" = some false := by
  rw [mtAt_eq]
  decide +kernel
theorem mx_InvalidRows_BadValue : mtAt mtX "InvalidRows" "BadValue" = some true := by
  rw [mtAt_eq]
  decide +kernel
theorem mx_InvalidRows_ValueError : mtAt mtX "InvalidRows" "ValueError" = some true := by
  rw [mtAt_eq]
  decide +kernel
theorem mx_InvalidRows_BadName : mtAt mtX "InvalidRows" "BadName" = some false := by
  rw [mtAt_eq]
  decide +kernel
theorem mx_InvalidRows_LookupError : mtAt mtX "InvalidRows" "LookupError" = some false := by
  rw [mtAt_eq]
  decide +kernel
theorem xl_InvalidRows : xin xtab "InvalidRows" = true := by
  rw [xin_eq]
  decide +kernel
theorem mx_InvalidGroup_InvalidText : mtAt mtX "InvalidGroup" "InvalidText" = some false := by
  rw [mtAt_eq]
  decide +kernel
theorem mx_InvalidGroup_InvalidPoints : mtAt mtX "InvalidGroup" "InvalidPoints" = some false := by
  rw [mtAt_eq]
  decide +kernel
theorem mx_InvalidGroup_InvalidChange : mtAt mtX "InvalidGroup" "InvalidChange" = some false := by
  rw [mtAt_eq]
  decide +kernel
theorem mx_InvalidGroup_InvalidGrades : mtAt mtX "InvalidGroup" "InvalidGrades" = some false := by
  rw [mtAt_eq]
  decide +kernel
theorem mx_InvalidGroup_InvalidRows : mtAt mtX "InvalidGroup" "InvalidRows" = some false := by
  rw [mtAt_eq]
  decide +kernel
theorem mx_InvalidGroup_InvalidGroup : mtAt mtX "InvalidGroup" "InvalidGroup" = some true := by
  rw [mtAt_eq]
  decide +kernel
theorem mx_InvalidGroup_UnknownName : mtAt mtX "InvalidGroup" "UnknownName" = some false := by
  rw [mtAt_eq]
  decide +kernel
theorem mx_InvalidGroup_BadValue : mtAt mtX "InvalidGroup" "BadValue" = some true := by
  rw [mtAt_eq]
  decide +kernel
theorem mx_InvalidGroup_ValueError : mtAt mtX "InvalidGroup" "ValueError" = some true := by
  rw [mtAt_eq]
  decide +kernel
theorem mx_InvalidGroup_BadName : mtAt mtX "InvalidGroup" "BadName" = some false := by
  rw [mtAt_eq]
  decide +kernel
theorem mx_InvalidGroup_LookupError : mtAt mtX "InvalidGroup" "LookupError" = some false := by
  rw [mtAt_eq]
  decide +kernel
theorem xl_InvalidGroup : xin xtab "InvalidGroup" = true := by
  rw [xin_eq]
  decide +kernel
theorem mx_UnknownName_InvalidText : mtAt mtX "UnknownName" "InvalidText" = some false := by
  rw [mtAt_eq]
  decide +kernel
theorem mx_UnknownName_InvalidPoints : mtAt mtX "UnknownName" "InvalidPoints" = some false := by
  rw [mtAt_eq]
  decide +kernel
theorem mx_UnknownName_InvalidChange : mtAt mtX "UnknownName" "InvalidChange" = some false := by
  rw [mtAt_eq]
  decide +kernel
theorem mx_UnknownName_InvalidGrades : mtAt mtX "UnknownName" "InvalidGrades" = some false := by
  rw [mtAt_eq]
  decide +kernel
theorem mx_UnknownName_InvalidRows : mtAt mtX "UnknownName" "InvalidRows" = some false := by
  rw [mtAt_eq]
  decide +kernel
theorem mx_UnknownName_InvalidGroup : mtAt mtX "UnknownName" "InvalidGroup" = some false := by
  rw [mtAt_eq]
  decide +kernel
theorem mx_UnknownName_UnknownName : mtAt mtX "UnknownName" "UnknownName" = some true := by
  rw [mtAt_eq]
  decide +kernel
theorem mx_UnknownName_BadValue : mtAt mtX "UnknownName" "BadValue" = some false := by
  rw [mtAt_eq]
  decide +kernel
theorem mx_UnknownName_ValueError : mtAt mtX "UnknownName" "ValueError" = some false := by
  rw [mtAt_eq]
  decide +kernel
theorem mx_UnknownName_BadName : mtAt mtX "UnknownName" "BadName" = some true := by
  rw [mtAt_eq]
  decide +kernel
theorem mx_UnknownName_LookupError : mtAt mtX "UnknownName" "LookupError" = some true := by
  rw [mtAt_eq]
  decide +kernel
theorem xl_UnknownName : xin xtab "UnknownName" = true := by
  rw [xin_eq]
  decide +kernel
open TL
/-- the classes that are told: the field, the word -/
def shownT : List (Str × Str × Str) := [("InvalidText", "given", "text"), ("InvalidPoints", "given", "points"), ("InvalidChange", "given", "change"), ("InvalidGrades", "index", "grades"), ("InvalidRows", "index", "rows"), ("InvalidGroup", "index", "group"), ("UnknownName", "given", "name")]
theorem shown_of {P : Str → Str → Str → Prop} (h1 : P "InvalidText" "given" "text") (h2 : P "InvalidPoints" "given" "points") (h3 : P "InvalidChange" "given" "change") (h4 : P "InvalidGrades" "index" "grades") (h5 : P "InvalidRows" "index" "rows") (h6 : P "InvalidGroup" "index" "group") (h7 : P "UnknownName" "given" "name") {c f w : Str} (h : (c, f, w) ∈ shownT) : P c f w := by
  simp only [shownT, List.mem_cons, Prod.mk.injEq, List.not_mem_nil, or_false] at h
  rcases h with ⟨rfl, rfl, rfl⟩ | ⟨rfl, rfl, rfl⟩ | ⟨rfl, rfl, rfl⟩ | ⟨rfl, rfl, rfl⟩ | ⟨rfl, rfl, rfl⟩ | ⟨rfl, rfl, rfl⟩ | ⟨rfl, rfl, rfl⟩
  · exact h1
  · exact h2
  · exact h3
  · exact h4
  · exact h5
  · exact h6
  · exact h7
def s_law_shown : SpD := spU 1 fun ds_ o_ => ∃ (c f w : Str) (d : D), ds_ = [.exc c [(f, d)]] ∧ ((c, f, w) ∈ shownT) ∧ (RL 3 d) ∧ o_ = .ok (.lst [.str w, .str (shw d)])
theorem call_law_shown {c f w : Str} {d : D} {mu : Mu} {Q : KD} {E : EdF} (h : (c, f, w) ∈ shownT) (hd : RL 3 d) (kk_ : outK (.ok (.lst [.str w, .str (shw d)])) mu Q E) : s_law_shown [.exc c [(f, d)]] mu Q E := spU_at ⟨_, _, _, _, rfl, h, hd, rfl⟩ rfl kk_
def t_law_shown (Ed : EdT) : TSd :=
  sSeq (sAsg (dLst (dCons (dIsx mtX "InvalidText" (dVar 0)) (dCons (dIsx mtX "InvalidPoints" (dVar 0)) (dCons (dIsx mtX "InvalidChange" (dVar 0)) (dNil))))) (kName 1)) (sSeq (sAsg (dBin fAdd (dVar 1) (dLst (dCons (dIsx mtX "InvalidGrades" (dVar 0)) (dCons (dIsx mtX "InvalidRows" (dVar 0)) (dCons (dIsx mtX "InvalidGroup" (dVar 0)) (dNil)))))) (kName 1)) (sSeq (sAsg (dBin fAdd (dVar 1) (dLst (dCons (dIsx mtX "UnknownName" (dVar 0)) (dNil)))) (kName 1)) (sSeq (sAsg (dLst (dCons (dAndV (dIsx mtX "BadValue" (dVar 0)) (dIsx mtX "ValueError" (dVar 0))) (dNil))) (kName 2)) (sSeq (sAsg (dBin fAdd (dVar 2) (dLst (dCons (dAndV (dIsx mtX "BadName" (dVar 0)) (dIsx mtX "LookupError" (dVar 0))) (dNil)))) (kName 2)) (sSeq (sAsg (dIf (dTest (dBin fEq (dCnt (dVar 1) (dCons (dC (.bl true)) (dNil))) (dC (.int 1)))) (dIdx (dVar 1) (dCons (dC (.bl true)) (dNil))) (dC (.int 7))) (kName 3)) (sSeq (sIf (dOr (dTest (dBin fEq (dVar 3) (dC (.int 7)))) (dTest (dBin fNe (dVar 2) (dLst (dCons (dBin fLt (dVar 3) (dC (.int 6))) (dCons (dBin fEq (dVar 3) (dC (.int 6))) (dNil))))))) (sRet (dLst (dCons (dC (.str "none")) (dCons (dC (.str "")) (dNil))))) (sNext)) (sSeq (sAsg (dBin fIx (dLst (dCons (dC (.str "text")) (dCons (dC (.str "points")) (dCons (dC (.str "change")) (dCons (dC (.str "grades")) (dCons (dC (.str "rows")) (dCons (dC (.str "group")) (dCons (dC (.str "name")) (dNil))))))))) (dVar 3)) (kName 4)) (sRet (dLst (dCons (dVar 4) (dCons (dIf (dTest (dChain fLt fLt (dC (.int 2)) (dVar 3) (dC (.int 6)))) (dB (gOf reprD) (dCons (dXat xtab "index" (dVar 0)) (dNil))) (dB (gOf reprD) (dCons (dXat xtab "given" (dVar 0)) (dNil)))) (dNil))))))))))))
abbrev N_law_shown : List Str := ["_law_e", "_law_sorts", "_law_bases", "_law_at", "_law_word"]
theorem gs_law_shown : GoodSp s_law_shown := spU_good
theorem len_law_shown : ∀ ds mu Q E, s_law_shown ds mu Q E → ds.length = 1 := spU_len
theorem p_law_shown : ∀ ds mu Q E, lowL mu.length mu = true → lowL mu.length ds = true → s_law_shown ds mu Q E → t_law_shown (fun _ c fs m => E c fs m) (endD mu.length Q) (startD N_law_shown ds) mu := by
  intro ds mu Q E l1 l2 h
  obtain ⟨o_, ⟨c, f, w, d, rfl, h, hd, rfl⟩, hR⟩ := spU_of h
  have hr := fun m => repr_rl (mu := m) hd
  simp only [shownT, List.mem_cons, Prod.mk.injEq, List.not_mem_nil, or_false] at h
  rcases h with ⟨rfl, rfl, rfl⟩ | ⟨rfl, rfl, rfl⟩ | ⟨rfl, rfl, rfl⟩ | ⟨rfl, rfl, rfl⟩ | ⟨rfl, rfl, rfl⟩ | ⟨rfl, rfl, rfl⟩ | ⟨rfl, rfl, rfl⟩
  · ((repeat wtm_at "s"); (try conv => whnf)); refine isx_go mx_InvalidText_InvalidText ⟨_, rfl⟩ ?_
    ((repeat wtm_at "s"); (try conv => whnf)); refine isx_go mx_InvalidText_InvalidPoints ⟨_, rfl⟩ ?_
    ((repeat wtm_at "s"); (try conv => whnf)); refine isx_go mx_InvalidText_InvalidChange ⟨_, rfl⟩ ?_
    ((repeat wtm_at "s"); (try conv => whnf)); refine isx_go mx_InvalidText_InvalidGrades ⟨_, rfl⟩ ?_
    ((repeat wtm_at "s"); (try conv => whnf)); refine isx_go mx_InvalidText_InvalidRows ⟨_, rfl⟩ ?_
    ((repeat wtm_at "s"); (try conv => whnf)); refine isx_go mx_InvalidText_InvalidGroup ⟨_, rfl⟩ ?_
    ((repeat wtm_at "s"); (try conv => whnf)); refine isx_go mx_InvalidText_UnknownName ⟨_, rfl⟩ ?_
    ((repeat wtm_at "s"); (try conv => whnf)); refine isx_go mx_InvalidText_BadValue ⟨_, rfl⟩ ?_
    ((repeat wtm_at "s"); (try conv => whnf)); refine isx_go mx_InvalidText_ValueError ⟨_, rfl⟩ ?_
    ((repeat wtm_at "s"); (try conv => whnf)); refine isx_go mx_InvalidText_BadName ⟨_, rfl⟩ ?_
    ((repeat (first | rw [hr] | rw [xfld_one] | rw [xl_InvalidText] | wtm_at "r" | ((conv => whnf); first | rw [hr] | rw [xfld_one] | rw [xl_InvalidText] | wtm_at "r"))); (try conv => whnf))
    exact end_u hR rfl
  · ((repeat wtm_at "s"); (try conv => whnf)); refine isx_go mx_InvalidPoints_InvalidText ⟨_, rfl⟩ ?_
    ((repeat wtm_at "s"); (try conv => whnf)); refine isx_go mx_InvalidPoints_InvalidPoints ⟨_, rfl⟩ ?_
    ((repeat wtm_at "s"); (try conv => whnf)); refine isx_go mx_InvalidPoints_InvalidChange ⟨_, rfl⟩ ?_
    ((repeat wtm_at "s"); (try conv => whnf)); refine isx_go mx_InvalidPoints_InvalidGrades ⟨_, rfl⟩ ?_
    ((repeat wtm_at "s"); (try conv => whnf)); refine isx_go mx_InvalidPoints_InvalidRows ⟨_, rfl⟩ ?_
    ((repeat wtm_at "s"); (try conv => whnf)); refine isx_go mx_InvalidPoints_InvalidGroup ⟨_, rfl⟩ ?_
    ((repeat wtm_at "s"); (try conv => whnf)); refine isx_go mx_InvalidPoints_UnknownName ⟨_, rfl⟩ ?_
    ((repeat wtm_at "s"); (try conv => whnf)); refine isx_go mx_InvalidPoints_BadValue ⟨_, rfl⟩ ?_
    ((repeat wtm_at "s"); (try conv => whnf)); refine isx_go mx_InvalidPoints_ValueError ⟨_, rfl⟩ ?_
    ((repeat wtm_at "s"); (try conv => whnf)); refine isx_go mx_InvalidPoints_BadName ⟨_, rfl⟩ ?_
    ((repeat (first | rw [hr] | rw [xfld_one] | rw [xl_InvalidPoints] | wtm_at "r" | ((conv => whnf); first | rw [hr] | rw [xfld_one] | rw [xl_InvalidPoints] | wtm_at "r"))); (try conv => whnf))
    exact end_u hR rfl
  · ((repeat wtm_at "s"); (try conv => whnf)); refine isx_go mx_InvalidChange_InvalidText ⟨_, rfl⟩ ?_
    ((repeat wtm_at "s"); (try conv => whnf)); refine isx_go mx_InvalidChange_InvalidPoints ⟨_, rfl⟩ ?_
    ((repeat wtm_at "s"); (try conv => whnf)); refine isx_go mx_InvalidChange_InvalidChange ⟨_, rfl⟩ ?_
    ((repeat wtm_at "s"); (try conv => whnf)); refine isx_go mx_InvalidChange_InvalidGrades ⟨_, rfl⟩ ?_
    ((repeat wtm_at "s"); (try conv => whnf)); refine isx_go mx_InvalidChange_InvalidRows ⟨_, rfl⟩ ?_
    ((repeat wtm_at "s"); (try conv => whnf)); refine isx_go mx_InvalidChange_InvalidGroup ⟨_, rfl⟩ ?_
    ((repeat wtm_at "s"); (try conv => whnf)); refine isx_go mx_InvalidChange_UnknownName ⟨_, rfl⟩ ?_
    ((repeat wtm_at "s"); (try conv => whnf)); refine isx_go mx_InvalidChange_BadValue ⟨_, rfl⟩ ?_
    ((repeat wtm_at "s"); (try conv => whnf)); refine isx_go mx_InvalidChange_ValueError ⟨_, rfl⟩ ?_
    ((repeat wtm_at "s"); (try conv => whnf)); refine isx_go mx_InvalidChange_BadName ⟨_, rfl⟩ ?_
    ((repeat (first | rw [hr] | rw [xfld_one] | rw [xl_InvalidChange] | wtm_at "r" | ((conv => whnf); first | rw [hr] | rw [xfld_one] | rw [xl_InvalidChange] | wtm_at "r"))); (try conv => whnf))
    exact end_u hR rfl
  · ((repeat wtm_at "s"); (try conv => whnf)); refine isx_go mx_InvalidGrades_InvalidText ⟨_, rfl⟩ ?_
    ((repeat wtm_at "s"); (try conv => whnf)); refine isx_go mx_InvalidGrades_InvalidPoints ⟨_, rfl⟩ ?_
    ((repeat wtm_at "s"); (try conv => whnf)); refine isx_go mx_InvalidGrades_InvalidChange ⟨_, rfl⟩ ?_
    ((repeat wtm_at "s"); (try conv => whnf)); refine isx_go mx_InvalidGrades_InvalidGrades ⟨_, rfl⟩ ?_
    ((repeat wtm_at "s"); (try conv => whnf)); refine isx_go mx_InvalidGrades_InvalidRows ⟨_, rfl⟩ ?_
    ((repeat wtm_at "s"); (try conv => whnf)); refine isx_go mx_InvalidGrades_InvalidGroup ⟨_, rfl⟩ ?_
    ((repeat wtm_at "s"); (try conv => whnf)); refine isx_go mx_InvalidGrades_UnknownName ⟨_, rfl⟩ ?_
    ((repeat wtm_at "s"); (try conv => whnf)); refine isx_go mx_InvalidGrades_BadValue ⟨_, rfl⟩ ?_
    ((repeat wtm_at "s"); (try conv => whnf)); refine isx_go mx_InvalidGrades_ValueError ⟨_, rfl⟩ ?_
    ((repeat wtm_at "s"); (try conv => whnf)); refine isx_go mx_InvalidGrades_BadName ⟨_, rfl⟩ ?_
    ((repeat (first | rw [hr] | rw [xfld_one] | rw [xl_InvalidGrades] | wtm_at "r" | ((conv => whnf); first | rw [hr] | rw [xfld_one] | rw [xl_InvalidGrades] | wtm_at "r"))); (try conv => whnf))
    exact end_u hR rfl
  · ((repeat wtm_at "s"); (try conv => whnf)); refine isx_go mx_InvalidRows_InvalidText ⟨_, rfl⟩ ?_
    ((repeat wtm_at "s"); (try conv => whnf)); refine isx_go mx_InvalidRows_InvalidPoints ⟨_, rfl⟩ ?_
    ((repeat wtm_at "s"); (try conv => whnf)); refine isx_go mx_InvalidRows_InvalidChange ⟨_, rfl⟩ ?_
    ((repeat wtm_at "s"); (try conv => whnf)); refine isx_go mx_InvalidRows_InvalidGrades ⟨_, rfl⟩ ?_
    ((repeat wtm_at "s"); (try conv => whnf)); refine isx_go mx_InvalidRows_InvalidRows ⟨_, rfl⟩ ?_
    ((repeat wtm_at "s"); (try conv => whnf)); refine isx_go mx_InvalidRows_InvalidGroup ⟨_, rfl⟩ ?_
    ((repeat wtm_at "s"); (try conv => whnf)); refine isx_go mx_InvalidRows_UnknownName ⟨_, rfl⟩ ?_
    ((repeat wtm_at "s"); (try conv => whnf)); refine isx_go mx_InvalidRows_BadValue ⟨_, rfl⟩ ?_
    ((repeat wtm_at "s"); (try conv => whnf)); refine isx_go mx_InvalidRows_ValueError ⟨_, rfl⟩ ?_
    ((repeat wtm_at "s"); (try conv => whnf)); refine isx_go mx_InvalidRows_BadName ⟨_, rfl⟩ ?_
    ((repeat (first | rw [hr] | rw [xfld_one] | rw [xl_InvalidRows] | wtm_at "r" | ((conv => whnf); first | rw [hr] | rw [xfld_one] | rw [xl_InvalidRows] | wtm_at "r"))); (try conv => whnf))
    exact end_u hR rfl
  · ((repeat wtm_at "s"); (try conv => whnf)); refine isx_go mx_InvalidGroup_InvalidText ⟨_, rfl⟩ ?_
    ((repeat wtm_at "s"); (try conv => whnf)); refine isx_go mx_InvalidGroup_InvalidPoints ⟨_, rfl⟩ ?_
    ((repeat wtm_at "s"); (try conv => whnf)); refine isx_go mx_InvalidGroup_InvalidChange ⟨_, rfl⟩ ?_
    ((repeat wtm_at "s"); (try conv => whnf)); refine isx_go mx_InvalidGroup_InvalidGrades ⟨_, rfl⟩ ?_
    ((repeat wtm_at "s"); (try conv => whnf)); refine isx_go mx_InvalidGroup_InvalidRows ⟨_, rfl⟩ ?_
    ((repeat wtm_at "s"); (try conv => whnf)); refine isx_go mx_InvalidGroup_InvalidGroup ⟨_, rfl⟩ ?_
    ((repeat wtm_at "s"); (try conv => whnf)); refine isx_go mx_InvalidGroup_UnknownName ⟨_, rfl⟩ ?_
    ((repeat wtm_at "s"); (try conv => whnf)); refine isx_go mx_InvalidGroup_BadValue ⟨_, rfl⟩ ?_
    ((repeat wtm_at "s"); (try conv => whnf)); refine isx_go mx_InvalidGroup_ValueError ⟨_, rfl⟩ ?_
    ((repeat wtm_at "s"); (try conv => whnf)); refine isx_go mx_InvalidGroup_BadName ⟨_, rfl⟩ ?_
    ((repeat (first | rw [hr] | rw [xfld_one] | rw [xl_InvalidGroup] | wtm_at "r" | ((conv => whnf); first | rw [hr] | rw [xfld_one] | rw [xl_InvalidGroup] | wtm_at "r"))); (try conv => whnf))
    exact end_u hR rfl
  · ((repeat wtm_at "s"); (try conv => whnf)); refine isx_go mx_UnknownName_InvalidText ⟨_, rfl⟩ ?_
    ((repeat wtm_at "s"); (try conv => whnf)); refine isx_go mx_UnknownName_InvalidPoints ⟨_, rfl⟩ ?_
    ((repeat wtm_at "s"); (try conv => whnf)); refine isx_go mx_UnknownName_InvalidChange ⟨_, rfl⟩ ?_
    ((repeat wtm_at "s"); (try conv => whnf)); refine isx_go mx_UnknownName_InvalidGrades ⟨_, rfl⟩ ?_
    ((repeat wtm_at "s"); (try conv => whnf)); refine isx_go mx_UnknownName_InvalidRows ⟨_, rfl⟩ ?_
    ((repeat wtm_at "s"); (try conv => whnf)); refine isx_go mx_UnknownName_InvalidGroup ⟨_, rfl⟩ ?_
    ((repeat wtm_at "s"); (try conv => whnf)); refine isx_go mx_UnknownName_UnknownName ⟨_, rfl⟩ ?_
    ((repeat wtm_at "s"); (try conv => whnf)); refine isx_go mx_UnknownName_BadValue ⟨_, rfl⟩ ?_
    ((repeat wtm_at "s"); (try conv => whnf)); refine isx_go mx_UnknownName_BadName ⟨_, rfl⟩ ?_
    ((repeat wtm_at "s"); (try conv => whnf)); refine isx_go mx_UnknownName_LookupError ⟨_, rfl⟩ ?_
    ((repeat (first | rw [hr] | rw [xfld_one] | rw [xl_UnknownName] | wtm_at "r" | ((conv => whnf); first | rw [hr] | rw [xfld_one] | rw [xl_UnknownName] | wtm_at "r"))); (try conv => whnf))
    exact end_u hR rfl
/-- what comes of an error -/
structure XOk (mu : Mu) (Q : KD) (c : Str) (fs : List (Str × D)) (m : Mu) : Prop where
  ex : ∃ (m' ms : Mu) (f w : Str) (d : D), m = m' ++ ms ∧ lowL m'.length m' = true ∧ mu.length ≤ m'.length ∧ fs = [(f, d)] ∧ (c, f, w) ∈ shownT ∧ RL 3 d ∧ Q (.lst [.str w, .str (shw d)]) m'
theorem caught_in {c f w : Str} (h : (c, f, w) ∈ shownT) : mtAny mtX c ["BadValue", "BadName"] = some true :=
  shown_of (P := fun c _ _ => mtAny mtX c ["BadValue", "BadName"] = some true) (by decide +kernel) (by decide +kernel) (by decide +kernel) (by decide +kernel) (by decide +kernel) (by decide +kernel) (by decide +kernel) h
def s_law_caught : SpL := fun S mu Q E => S [] mu (fun d m => mu.length ≤ m.length ∧ Q (.lst [.str "told", d]) m) (fun c fs m => XOk mu Q c fs m)
theorem gs_law_caught : GoodSL s_law_caught where
  q := fun S gS mu Q Q' E w h => gS.e _ _ _ _ _ (fun c fs m ⟨z⟩ => by
    obtain ⟨m', ms, f, w', d, e1, e2, e3, e4, e5, e6, e7⟩ := z
    exact ⟨m', ms, f, w', d, e1, e2, e3, e4, e5, e6, w _ _ e7⟩) (gS.q _ _ _ _ _ (fun d m z => ⟨z.1, w _ _ z.2⟩) h)
  e := fun S gS mu Q E E' w h => h
def t_law_caught (fv : Addr) (S_ : SpD) (Ed : EdT) : TSd :=
  sSeq (sTry mtX (fun Ed' => sAsg (dAct fv 0 S_ Ed') (kName 1)) [⟨["BadValue", "BadName"], some 2, sRet (dCall s_law_shown noE (dCons (dVar 2) (dNil)))⟩] Ed) (sRet (dLst (dCons (dC (.str "told")) (dCons (dVar 1) (dNil)))))
abbrev N_law_caught : List Str := ["_law_act", "_law_told", "_law_e"]
theorem p_law_caught : ∀ fv S mu Q E, lowL mu.length mu = true → GoodSp S → s_law_caught S mu Q E → t_law_caught fv S (fun _ c fs m => E c fs m) (endD mu.length Q) (startD N_law_caught [.fnv fv]) mu := by
  intro fv S mu Q E l1 gS h
  ((repeat wtm_at "s"); (try conv => whnf))
  refine ⟨_, .refl _, ?_⟩
  ((repeat wtm_at "s"); (try conv => whnf))
  refine gS.e _ _ _ _ _ (fun c fs m z => ?_) (gS.q _ _ _ _ _ (fun d m z => ?_) h)
  · obtain ⟨m', ms, f, w, d, rfl, e2, e3, rfl, e5, e6, e7⟩ := z.ex
    refine ⟨true, caught_in e5, ?_⟩
    ((repeat wtm_at "s"); (try conv => whnf))
    refine call_law_shown e5 e6 ?_
    ((repeat wtm_at "s"); (try conv => whnf))
    exact ⟨_, m', Frz.drop e2 rfl, e3, e7⟩
  · ((repeat wtm_at "s"); (try conv => whnf))
    exact ⟨_, m, Frz.refl _ _, z.1, z.2⟩
theorem PP.mem {p : Nat} {mu m : Mu} {q : Str × Option Str} (pp : PP p mu m) (hP : hasP p mu) (h : D.tab q ∈ mu) : D.tab q ∈ m := by
  obtain ⟨P, hP2, rfl⟩ := pp
  obtain ⟨P0, e0, x, s, c, rfl, _⟩ := hP
  obtain ⟨n, hn, en⟩ := List.mem_iff_getElem.mp h
  have hne : n ≠ p := fun z => by
    subst z
    rw [List.getElem?_eq_getElem hn, en] at e0
    cases e0
  refine List.mem_iff_getElem.mpr ⟨n, by rw [List.length_set]; exact hn, ?_⟩
  rw [List.getElem_set_ne (Ne.symm hne)]
  exact en
theorem dlam_by {q : Str × Option Str} {SC : SpL} {tl : EdT → TEd} {Ed : EdT} {dl : Lo} {mu : Mu} {Q : KD} (h : D.tab q ∈ mu) (k : SC (lamS tl dl) mu Q (Ed dl)) : dLam q SC tl Ed dl mu Q := ⟨h, k⟩
/-- .. of one of the promises -/
theorem xok_of {mu : Mu} {Q : KD} {c f w : Str} {d : D} {ms : Mu} (l : lowL mu.length mu = true) (h : (c, f, w) ∈ shownT) (hd : RL 3 d) (q : Q (.lst [.str w, .str (shw d)]) mu) : XOk mu Q c [(f, d)] (mu ++ ms) := ⟨mu, ms, f, w, d, rfl, l, Nat.le_refl _, rfl, h, hd, q⟩
open TL
/-- what is due of an outcome -/
def dueOf : Out → D → Prop
  | .ok x, due => due = .lst [.str "told", x]
  | .err c fs, due => ∃ f w d, fs = [(f, d)] ∧ (c, f, w) ∈ shownT ∧ RL 3 d ∧ due = .lst [.str w, .str (shw d)]
theorem caught_o {o : Out} {due : D} {m : Mu} {Q K : KD} {X : EdF} (ho : dueOf o due) (lm : lowL m.length m = true) (hX : ∀ c fs m', XOk m Q c fs m' → X c fs m') (hK : ∀ x m', m.length ≤ m'.length ∧ Q (.lst [.str "told", x]) m' → K x m') (h : Q due m) : outK o m K X := by
  cases o with
  | ok x =>
    have e : due = .lst [.str "told", x] := ho
    subst e
    exact hK x m ⟨Nat.le_refl _, h⟩
  | err c fs =>
    obtain ⟨f, w, d, rfl, h1, h2, rfl⟩ := ho
    exact fun ms => hX _ _ _ (xok_of lm h1 h2 h)
theorem mem_one {α : Type} {P : α → Prop} {a : α} (h : P a) : ∀ x ∈ [a], P x := fun x hx => by
  rw [List.mem_singleton.mp hx]
  exact h
theorem mem_two {α : Type} {P : α → Prop} {a b : α} (h : P a) (k : P b) : ∀ x ∈ [a, b], P x := fun x hx => by
  rcases List.mem_cons.mp hx with e | hx
  · rw [e]; exact h
  · rw [List.mem_singleton.mp hx]; exact k
theorem mem_none {α : Type} {P : α → Prop} : ∀ x ∈ ([] : List α), P x := fun x hx => by simp at hx
theorem pl_and {d : D} {k : Nat} (h : plainB d = true) (r : RL k d) : plainB d = true ∧ RL k d := ⟨h, r⟩
theorem low_snoc {mu : Mu} {xs : List D} (l : lowL mu.length mu = true) (h : lowL mu.length xs = true) : lowL (mu ++ [D.lst xs]).length (mu ++ [D.lst xs]) = true := by
  refine lowL_of fun d hd => ?_
  rcases List.mem_append.mp hd with z | z
  · exact lowD_le (by simp) d (lowL_mem l d z)
  · rw [List.mem_singleton.mp z]
    exact lowD_le (n := mu.length) (by simp) _ (by simp only [lowD]; exact h)
/-- two words -/
def dueL (w s : Str) : D := .lst [.str w, .str s]
theorem dueL_low (n : Nat) (w s : Str) : lowD n (dueL w s) = true := rfl
theorem due_rd {w s : Str} {b : Nat} (hw : asc w ∧ w.length ≤ 100) (hs : asc s ∧ s.length ≤ b) (hb : 100 ≤ b) : RD (dueL w s) (20 * b + 12) 1 := (RD.lst (b := 10 * b + 2) (k := 0) (mem_two ((RD.str hw.1 hw.2).mono (by omega) (Nat.le_refl _)) (RD.str hs.1 hs.2))).mono (by show 2 * (10 * b + 2 + 2) + 4 ≤ _; omega) (Nat.le_refl _)
theorem pair_rd {d : D} {b k : Nat} (h : RD d b k) : RD (.lst [d, d]) (2 * b + 8) (k + 1) := (RD.lst (mem_two h h)).mono (by show 2 * (b + 2) + 4 ≤ _; omega) (Nat.le_refl _)
theorem repr_loc {m : Mu} {n : Nat} {xs : List D} (h : m[n]? = some (.lst xs)) : reprD m [.loc n] = reprD m [.lst xs] := by
  unfold reprD
  have e : pyRAt m (.loc n) = pyRAt m (.lst xs) := by
    simp only [pyRAt, h, pyR]
  simp only [e]
open TL
theorem upper_asc {z : Str} (h : asc z) : asc (Txt.upper z) := fun c hc => by
  have hc : c ∈ (PySem.placed z fun _ c => Unicode.upperOf c).toList := hc
  unfold PySem.placed at hc
  have hc : ∃ l, (∃ a, (∃ i, ∃ h : i < z.cps.size, (Unicode.upperOf z.cps[i]).toArray = a) ∧ a.toList = l) ∧ c ∈ l := by simpa using hc
  obtain ⟨l, ⟨a, ⟨i, hi, rfl⟩, rfl⟩, hca⟩ := hc
  have hx : z.cps[i] < 128 := h _ (by show z.cps[i] ∈ z.cps.toList; simp)
  have all : (List.range 128).all (fun c => (Unicode.upperOf c).all fun x => decide (x < 128)) = true := by decide +kernel
  have h1 := List.all_eq_true.mp all _ (List.mem_range.mpr hx)
  simp only [List.all_eq_true, decide_eq_true_eq] at h1
  exact h1 c (by simpa using hca)
/-- something in a tuple -/
def elm (d : D) : Prop := plainB d = true ∧ fitD d = true ∧ RL 1 d
theorem elS {z : Str} (h : asc z) (l : z.length ≤ 100) : elm (.str z) := ⟨rfl, decide_eq_true (Nat.le_trans l (by decide)), RL.str h l⟩
theorem elC {z : Str} (h : ((tl z).all fun c => decide (c < 128)) = true) (l : z.length ≤ 100) : elm (.str z) := elS (asc_of h) l
theorem elL {z w : Str} (hz : labB z = true) (h : ((tl w).all fun c => decide (c < 128)) = true) (l : w.length ≤ 20) : elm (.str (z ++ w)) := elS (asc_app (lab_128 hz) (asc_of h)) (by rw [app_len]; have := lab_len hz; omega)
theorem elR {z w : Str} (hz : labB z = true) (h : ((tl w).all fun c => decide (c < 128)) = true) (l : w.length ≤ 20) : elm (.str (w ++ z)) := elS (asc_app (asc_of h) (lab_128 hz)) (by rw [app_len]; have := lab_len hz; omega)
theorem el1 {z : Str} (hz : labB z = true) : elm (.str z) := elS (lab_128 hz) (Nat.le_trans (lab_len hz) (by decide))
theorem el4 {z : Str} (hz : labB z = true) : elm (.str (z ++ z ++ z ++ z)) := elS (asc_app (asc_app (asc_app (lab_128 hz) (lab_128 hz)) (lab_128 hz)) (lab_128 hz)) (by rw [app_len, app_len, app_len]; have := lab_len hz; omega)
theorem elU {z : Str} (hz : labB z = true) : elm (.str (Txt.upper z)) := elS (upper_asc (lab_128 hz)) (by have := len_upper z; have := lab_len hz; omega)
theorem elK {z : Str} (hz : labB z = true) : elm (.str (cutS z none (some 1))) := by
  have e : tl (cutS z none (some ((1 : Nat) : Int))) = (tl z).take 1 := cut_tl z 1
  refine elS (fun c hc => ?_) ?_
  · have hc : c ∈ tl (cutS z none (some ((1 : Nat) : Int))) := hc
    rw [e] at hc
    exact lab_128 hz c (List.mem_of_mem_take hc)
  · have h6 : (cutS z none (some 1)).length ≤ z.length := cutS_length z none (some 1)
    have := lab_len hz
    omega
theorem lab_key {z : Str} (hz : labB z = true) : keyOk (.inr z) := ⟨lab_128 hz, Nat.le_trans (lab_len hz) (by decide)⟩
theorem lab_rl {z : Str} {k : Nat} (hz : labB z = true) : RL k (.str z) := RL.str (lab_128 hz) (Nat.le_trans (lab_len hz) (by decide))
theorem el_mk {d : D} (h1 : plainB d = true) (h2 : fitD d = true) (h3 : RL 1 d) : elm d := ⟨h1, h2, h3⟩
def s_law_bent : SpD := spW 2 fun p m as_ R_ => ∃ (z f : Str), as_ = [.str z, .str f] ∧ (labB z = true) ∧ (labB f = true) ∧ R_ = (fun d_ => ∃ (d : D), d_ = d ∧ (elm d))
theorem call_law_bent {z f : Str} {p : Nat} {mu m : Mu} {Q : KD} {E : EdF} (pp : PP p mu m) (hP : hasP p mu) (hz : labB z = true) (hf : labB f = true) (kk_ : ∀ (d : D) m', (elm d) → PP p mu m' → Q (d) m') : s_law_bent (.loc p :: [.str z, .str f]) m Q E := spW_at ⟨_, _, rfl, hz, hf, rfl⟩ rfl pp hP (fun d_ m' ⟨d, e_, a⟩ pp => by rw [e_]; exact kk_ d m' a pp)
def t_law_bent (Ed : EdT) : TSd :=
  sSeq (sAsg (dLst (dCons (dC (.str "")) (dCons (dC (.str "A")) (dCons (dBin fAdd (dVar 1) (dC (.str "_"))) (dCons (dBin fAdd (dC (.str "9")) (dVar 1)) (dCons (dBin fAdd (dVar 1) (dC (.str " "))) (dCons (dStr0 upperD (dVar 1)) (dCons (dC (.str "abcdefghi")) (dCons (dBin fAdd (dVar 1) (dC (.str "\n"))) (dCons (dBin fAdd (dC (.str " ")) (dVar 1)) (dNil))))))))))) (kName 3)) (sSeq (sAsg (dBin fAdd (dVar 3) (dLst (dCons (dC .non) (dCons (dC (.bl true)) (dCons (dC (.int 0)) (dCons (dC (.int 3)) (dCons (dTup (dNil)) (dCons (dTup (dCons (dVar 1) (dNil))) (dCons (dLst (dCons (dVar 1) (dNil))) (dCons (dC (.dct [])) (dCons (dDisp [(dVar 1, dC (.int 1))]) (dCons (dTup (dCons (dVar 1) (dCons (dVar 2) (dNil)))) (dCons (dVar 2) (dCons (dVar 2) (dCons (dVar 2) (dNil)))))))))))))))) (kName 3)) (sSeq (sAsg (dBin fAdd (dVar 3) (dLst (dCons (dC (.str "a b")) (dCons (dC (.str "a-b")) (dCons (dC (.str "a.b")) (dCons (dC (.str "_a")) (dCons (dC (.str "z99999999")) (dCons (dBin fAdd (dVar 1) (dC (.str ":"))) (dCons (dC (.str "/")) (dCons (dC (.str "all-1")) (dCons (dBin fAdd (dBin fAdd (dBin fAdd (dVar 1) (dVar 1)) (dVar 1)) (dVar 1)) (dNil)))))))))))) (kName 3)) (sRet (dCall s_law_pick Ed (dCons (dVar 0) (dCons (dBin fAdd (dVar 3) (dLst (dCons (dVar 1) (dCons (dC (.str "abcdefgh")) (dCons (dC (.str "z")) (dCons (dC (.str "a0")) (dCons (dSl (dVar 1) (oNo) (oPart (dC (.int 1)))) (dCons (dC (.str "grades")) (dCons (dC (.str "and")) (dCons (dC (.str "z9999999")) (dCons (dC (.str "points")) (dNil)))))))))))) (dNil)))))))
abbrev N_law_bent : List Str := ["_law_purse_here", "_law_label_here", "_law_fellow", "_law_menu"]
theorem gs_law_bent : GoodSp s_law_bent := spW_good
theorem len_law_bent : ∀ ds mu Q E, s_law_bent ds mu Q E → ds.length = 3 := spW_len
theorem p_law_bent : ∀ ds mu Q E, lowL mu.length mu = true → lowL mu.length ds = true → s_law_bent ds mu Q E → t_law_bent (fun _ c fs m => E c fs m) (endD mu.length Q) (startD N_law_bent ds) mu := by
  intro ds mu Q E l1 l2 h
  obtain ⟨p, _, _, rfl, ⟨z, f, rfl, hz, hf, rfl⟩, hP, hR0⟩ := spW_of h
  have hR : ∀ (d : D) m, (elm d) → PP p mu m → Q (d) m := fun d m a pp => hR0 _ m ⟨d, rfl, a⟩ pp
  have pp := PP.refl hP
  have hz8 := lab_len hz
  have hf8 := lab_len hf
  ((repeat wtm_at "s"); (try conv => whnf))
  refine call_law_pick pp hP (fun _ _ => rfl) (by simp) (by simp) fun d m2 hd pp => ?_
  have hd2 : elm d := by
    simp only [List.mem_append, List.mem_cons, List.not_mem_nil, or_false] at hd
    rcases hd with (((rfl | rfl | rfl | rfl | rfl | rfl | rfl | rfl | rfl) | rfl | rfl | rfl | rfl | rfl | rfl | rfl | rfl | rfl | rfl | rfl | rfl | rfl) | rfl | rfl | rfl | rfl | rfl | rfl | rfl | rfl | rfl) | rfl | rfl | rfl | rfl | rfl | rfl | rfl | rfl | rfl
    all_goals first
      | exact el1 hz
      | exact el1 hf
      | exact elU hz
      | exact el4 hz
      | exact elK hz
      | exact el_mk rfl rfl RL.non
      | exact el_mk rfl rfl RL.bl
      | exact el_mk rfl rfl (RL.int (by decide))
      | exact el_mk rfl rfl (RL.tup (by simp) mem_none)
      | exact el_mk rfl rfl (RL.tup (by simp) (mem_one (lab_rl hz)))
      | exact el_mk rfl rfl (RL.lst (by simp) (mem_one (lab_rl hz)))
      | exact el_mk rfl rfl (RL.dct (by simp) mem_none)
      | exact el_mk rfl rfl (RL.dct (xs := [(.inr z, .int 1)]) (by simp) (mem_one ⟨lab_key hz, RL.int (by decide)⟩))
      | exact el_mk rfl rfl (RL.tup (by simp) (mem_two (lab_rl hz) (lab_rl hf)))
      | exact elC (by decide +kernel) (by decide +kernel)
      | exact elL hz (by decide +kernel) (by decide +kernel)
      | exact elR hz (by decide +kernel) (by decide +kernel)
  exact end_of pp.le (hR d m2 hd2 pp)
/-- a value in the place of grades -/
def grdV (d : D) : Prop := grdE d ∧ RL 2 d ∧ ∀ xs, tupL d = some xs → xs.length ≤ 15
theorem gv_no {d : D} (h : tupL d = none) (h1 : plainB d = true) (r : RL 2 d) : grdV d := ⟨⟨h1, fun xs e => by rw [h] at e; cases e⟩, r, fun xs e => by rw [h] at e; cases e⟩
theorem gv_tup {xs : List D} (hl : xs.length ≤ 15) (h : ∀ x ∈ xs, elm x) : grdV (.tup xs) := ⟨⟨rfl, fun ys e => by cases e; exact fun x hx => ⟨(h x hx).1, (h x hx).2.1⟩⟩, RL.tup hl fun x hx => (h x hx).2.2, fun ys e => by cases e; exact hl⟩
theorem gv_ptup {xs : List D} (hl : xs.length ≤ 15) (h : ∀ x ∈ xs, elm x) : grdV (.ptup xs) := ⟨⟨rfl, fun ys e => by cases e; exact fun x hx => ⟨(h x hx).1, (h x hx).2.1⟩⟩, RL.ptup hl fun x hx => (h x hx).2.2, fun ys e => by cases e; exact hl⟩
theorem strs_rl {zs : List Str} {k : Nat} (h : ∀ z ∈ zs, labB z = true) : ∀ x ∈ strsD zs, RL k x := fun x hx => by
  obtain ⟨z, hz, rfl⟩ := strs_mem hx
  exact lab_rl (h z hz)
theorem merge_two {a : Str} {x y : D} (b : Str) (ha : keyOk (.inr a)) (hb : keyOk (.inr b)) (hx : RL 1 x) (hy : RL 1 y) : RL 2 (.dct (mergeD [] [(.inr a, x), (.inr b, y)])) := by
  have e : mergeD [] [(.inr a, x), (.inr b, y)] = putKD [(.inr a, x)] (.inr b) y := rfl
  rw [e]
  unfold putKD
  cases hh : hasKD [((.inr a : Key), x)] (.inr b) with
  | true =>
    refine RL.dct (by simp) ?_
    show ∀ q ∈ [if (Sum.inr a : Key) = Sum.inr b then ((Sum.inr a : Key), y) else (Sum.inr a, x)], _
    refine mem_one ?_
    split
    · exact ⟨ha, hy⟩
    · exact ⟨ha, hx⟩
  | false => exact RL.dct (xs := [(.inr a, x), (.inr b, y)]) (by simp) (mem_two ⟨ha, hx⟩ ⟨hb, hy⟩)
open TL
mutual
theorem py_low (n : Nat) : ∀ (d : D) (y : PyData), pyR d = some y → lowD n d = true
  | .non, _, _ => by simp only [lowD]
  | .bl _, _, _ => by simp only [lowD]
  | .int _, _, _ => by simp only [lowD]
  | .str _, _, _ => by simp only [lowD]
  | .tup xs, _, h => by
    simp only [pyR] at h
    obtain ⟨es, q, _⟩ := dmap_some h
    simp only [lowD]
    exact pys_low n xs es q
  | .ptup xs, _, h => by
    simp only [pyR] at h
    obtain ⟨es, q, _⟩ := dmap_some h
    simp only [lowD]
    exact pys_low n xs es q
  | .lst xs, _, h => by
    simp only [pyR] at h
    obtain ⟨es, q, _⟩ := dmap_some h
    simp only [lowD]
    exact pys_low n xs es q
  | .dct xs, _, h => by
    simp only [pyR] at h
    obtain ⟨es, q, _⟩ := dmap_some h
    simp only [lowD]
    exact pyk_low n xs es q
  | .obj _ _, _, h => by simp only [pyR] at h; cases h
  | .loc _, _, h => by simp only [pyR] at h; cases h
  | .cls _, _, h => by simp only [pyR] at h; cases h
  | .scr _, _, h => by simp only [pyR] at h; cases h
  | .ty _, _, h => by simp only [pyR] at h; cases h
  | .exc _ _, _, h => by simp only [pyR] at h; cases h
  | .tab _, _, h => by simp only [pyR] at h; cases h
  | .fnv _, _, h => by simp only [pyR] at h; cases h
theorem pys_low (n : Nat) : ∀ (ds : List D) (ys : List PyData), pyRs ds = some ys → lowL n ds = true
  | [], _, _ => by simp only [lowL]
  | d :: ds, ys, h => by
    simp only [pyRs] at h
    cases q : pyR d with
    | none => rw [q] at h; cases h
    | some e =>
      cases q2 : pyRs ds with
      | none => rw [q, q2] at h; cases h
      | some es =>
        simp only [lowL, py_low n d e q, pys_low n ds es q2, Bool.and_self]
theorem pyk_low (n : Nat) : ∀ (ds : List (Key × D)) (ys : List (PyData × PyData)), pyRk ds = some ys → lowK n ds = true
  | [], _, _ => by simp only [lowK]
  | (k, d) :: ds, ys, h => by
    simp only [pyRk] at h
    cases q : pyR d with
    | none => rw [q] at h; cases h
    | some e =>
      cases q2 : pyRk ds with
      | none => rw [q, q2] at h; cases h
      | some es =>
        simp only [lowK, py_low n d e q, pyk_low n ds es q2, Bool.and_self]
end
theorem RL.low {k : Nat} {d : D} (h : RL k d) (n : Nat) : lowD n d = true := let ⟨y, e, _⟩ := h; py_low n d y e
theorem elm_low {xs : List D} (h : ∀ x ∈ xs, elm x) (n : Nat) : lowL n xs = true := lowL_of fun d hd => (h d hd).2.2.low n
theorem ix_nat {xs : List D} {k : Int} (h0 : 0 ≤ k) (h1 : k < xs.length) : ixN xs.length k = some k.toNat := by
  unfold ixN
  rw [if_pos h0, if_pos h1]
def s_law_value : SpD := spW 0 fun p m as_ R_ => as_ = [] ∧ R_ = (fun d_ => ∃ (d : D), d_ = d ∧ (grdV d))
theorem call_law_value  {p : Nat} {mu m : Mu} {Q : KD} {E : EdF} (pp : PP p mu m) (hP : hasP p mu) (kk_ : ∀ (d : D) m', (grdV d) → PP p mu m' → Q (d) m') : s_law_value (.loc p :: []) m Q E := spW_at ⟨rfl, rfl⟩ rfl pp hP (fun d_ m' ⟨d, e_, a⟩ pp => by rw [e_]; exact kk_ d m' a pp)
def t_law_value (Ed : EdT) : TSd :=
  sSeq (sAsg (dCall s_law_labels Ed (dCons (dVar 0) (dCons (dCall s_law_pick Ed (dCons (dVar 0) (dCons (dLst (dCons (dC (.int 1)) (dCons (dC (.int 2)) (dCons (dC (.int 2)) (dCons (dC (.int 3)) (dCons (dC (.int 3)) (dCons (dC (.int 4)) (dCons (dC (.int 4)) (dCons (dC (.int 5)) (dCons (dC (.int 6)) (dNil))))))))))) (dNil)))) (dNil)))) (kName 1)) (sSeq (sIf (dTest (dBin fEq (dCall s_law_draw Ed (dCons (dVar 0) (dCons (dC (.int 7)) (dNil)))) (dC (.int 0)))) (sSeq (sAsg (dLst (dCons (dVar 1) (dCons (dTup (dNil)) (dCons (dLst (dNil)) (dCons (dC .non) (dCons (dC (.bl true)) (dCons (dC (.int 2)) (dCons (dBin fIx (dVar 1) (dC (.int 0))) (dCons (dC (.str "ab")) (dCons (dC (.str "")) (dCons (dC (.dct [])) (dCons (dDisp [(dBin fIx (dVar 1) (dC (.int 0)), dC (.int 1)), (dC (.str "b2"), dC (.int 2))]) (dCons (dTup (dCons (dTup (dNil)) (dNil))) (dCons (dTup (dCons (dB (gOf tupleD) (dCons (dVar 1) (dNil))) (dNil))) (dNil))))))))))))))) (kName 2)) (sRet (dCall s_law_pick Ed (dCons (dVar 0) (dCons (dBin fAdd (dVar 2) (dLst (dCons (dTup (dCons (dB (gOf tupleD) (dCons (dVar 1) (dNil))) (dCons (dB (gOf tupleD) (dCons (dVar 1) (dNil))) (dNil)))) (dCons (dTup (dCons (dVar 1) (dCons (dBin fIx (dVar 1) (dC (.int 0))) (dNil)))) (dCons (dTup (dCons (dC (.str "a")) (dCons (dC (.str "a")) (dNil)))) (dCons (dTup (dCons (dC .non) (dCons (dC (.str "a")) (dNil)))) (dCons (dTup (dCons (dC (.str "a")) (dCons (dC (.int 1)) (dNil)))) (dNil)))))))) (dNil)))))) (sNext)) (sSeq (sAsg (dB listM (dCons (dVar 1) (dNil))) (kName 3)) (sSeq (sFor (iRng1 (dCons (dCall s_law_pick Ed (dCons (dVar 0) (dCons (dLst (dCons (dC (.int 0)) (dCons (dC (.int 1)) (dCons (dC (.int 1)) (dCons (dC (.int 2)) (dNil)))))) (dNil)))) (dNil))) (kName 4) (sAsg (dCall s_law_bent Ed (dCons (dVar 0) (dCons (dCall s_law_pick Ed (dCons (dVar 0) (dCons (dVar 1) (dNil)))) (dCons (dCall s_law_pick Ed (dCons (dVar 0) (dCons (dVar 1) (dNil)))) (dNil))))) (putD (dVar 3) (dCall s_law_draw Ed (dCons (dVar 0) (dCons (dB (gOf lenD) (dCons (dVar 1) (dNil))) (dNil))))))) (sRet (dB (gOf tupleD) (dCons (dVar 3) (dNil)))))))
abbrev N_law_value : List Str := ["_law_purse_here", "_law_tags", "_law_menu", "_law_some", "_law_turn"]
theorem gs_law_value : GoodSp s_law_value := spW_good
theorem len_law_value : ∀ ds mu Q E, s_law_value ds mu Q E → ds.length = 1 := spW_len
theorem p_law_value : ∀ ds mu Q E, lowL mu.length mu = true → lowL mu.length ds = true → s_law_value ds mu Q E → t_law_value (fun _ c fs m => E c fs m) (endD mu.length Q) (startD N_law_value ds) mu := by
  intro ds mu Q E l1 l2 h
  obtain ⟨p, _, _, rfl, ⟨rfl, rfl⟩, hP, hR0⟩ := spW_of h
  have hR : ∀ (d : D) m, (grdV d) → PP p mu m → Q (d) m := fun d m a pp => hR0 _ m ⟨d, rfl, a⟩ pp
  have pp := PP.refl hP
  ((repeat wtm_at "s"); (try conv => whnf))
  refine call_law_pick (xs := [1, 2, 2, 3, 3, 4, 4, 5, 6].map D.int) pp hP (fun _ _ => rfl) (by simp) (by simp) fun d m0 hd pp => ?_
  obtain ⟨n, hn, rfl⟩ := int_menu hd
  have hn2 : 1 ≤ n ∧ n ≤ 6 := by simp at hn; omega
  obtain ⟨k, rfl⟩ := Int.eq_ofNat_of_zero_le (show 0 ≤ n by omega)
  ((repeat wtm_at "s"); (try conv => whnf))
  refine call_law_labels (n := k) pp hP (by omega) (by omega) fun ms m1 hz1 hz2 hz3 pp => ?_
  have hne : ms ≠ [] := fun e => by rw [e] at hz1; simp at hz1; omega
  have hml : (strsD ms).length = ms.length := by simp [strsD]
  obtain ⟨y0, r0, rfl⟩ := List.exists_cons_of_ne_nil hne
  have hy0 : labB y0 = true := hz2 y0 (by simp)
  have hS : ∀ {k}, ∀ x ∈ strsD (y0 :: r0), RL k x := fun {k} => strs_rl hz2
  have hE : ∀ x ∈ strsD (y0 :: r0), elm x := fun x hx => by
    obtain ⟨z, hz, rfl⟩ := strs_mem hx
    exact el1 (hz2 z hz)
  have hL : (strsD (y0 :: r0)).length ≤ 15 := by rw [hml]; omega
  ((repeat wtm_at "s"); (try conv => whnf))
  refine call_law_draw (n := 7) pp hP (by decide) (by decide) fun k1 m2 a1 b1 pp => ?_
  ((repeat wtm_at "s"); (try conv => whnf))
  refine Br.by (fun hb => ?_) (fun hb => ?_)
  · ((repeat (first | rw [ixS (d := .lst (strsD (y0 :: r0))) (xs := strsD (y0 :: r0)) rfl at_zero] | wtm_at "r" | ((conv => whnf); first | rw [ixS (d := .lst (strsD (y0 :: r0))) (xs := strsD (y0 :: r0)) rfl at_zero] | wtm_at "r"))); (try conv => whnf))
    refine call_law_pick pp hP (fun _ _ => rfl) (by simp) (by simp) fun d m3 hd pp => ?_
    have hd2 : grdV d := by
      simp only [List.mem_append, List.mem_cons, List.not_mem_nil, or_false] at hd
      rcases hd with (rfl | rfl | rfl | rfl | rfl | rfl | rfl | rfl | rfl | rfl | rfl | rfl | rfl) | rfl | rfl | rfl | rfl | rfl
      all_goals first
        | exact gv_no rfl rfl (RL.lst hL hS)
        | exact gv_tup (by simp) mem_none
        | exact gv_no rfl rfl (RL.lst (by simp) mem_none)
        | exact gv_no rfl rfl RL.non
        | exact gv_no rfl rfl RL.bl
        | exact gv_no rfl rfl (RL.int (by decide))
        | exact gv_no rfl rfl (lab_rl hy0)
        | exact gv_no rfl rfl (RL.str (asc_of (by decide +kernel)) (by decide +kernel))
        | exact gv_no rfl rfl (RL.dct (by simp) mem_none)
        | exact gv_no rfl rfl (merge_two "b2" (lab_key hy0) ⟨asc_of (by decide +kernel), by decide +kernel⟩ (RL.int (by decide)) (RL.int (by decide)))
        | exact gv_tup (by simp) (mem_one (el_mk rfl rfl (RL.tup (by simp) mem_none)))
        | exact gv_tup (by simp) (mem_one (el_mk rfl rfl (RL.ptup hL hS)))
        | exact gv_tup (by simp) (mem_two (el_mk rfl rfl (RL.ptup hL hS)) (el_mk rfl rfl (RL.ptup hL hS)))
        | exact gv_tup (by simp) (mem_two (el_mk rfl rfl (RL.lst hL hS)) (el1 hy0))
        | exact gv_tup (by simp) (mem_two (elC (by decide +kernel) (by decide +kernel)) (elC (by decide +kernel) (by decide +kernel)))
        | exact gv_tup (by simp) (mem_two (el_mk rfl rfl RL.non) (elC (by decide +kernel) (by decide +kernel)))
        | exact gv_tup (by simp) (mem_two (elC (by decide +kernel) (by decide +kernel)) (el_mk rfl rfl (RL.int (by decide))))
    exact end_of pp.le (hR d m3 hd2 pp)
  · ((repeat wtm_at "s"); (try conv => whnf))
    have hl2 : m2.length = mu.length := pp.len
    have hlt := hP.lt
    rw [hl2]
    have hPA : ∀ xs : List D, hasP p (mu ++ [.lst xs]) := fun _ => hP.app
    refine call_law_pick (xs := [0, 1, 1, 2].map D.int) (PP.appR [D.lst (strsD (y0 :: r0))] hP pp) (hPA _) (fun _ _ => rfl) (by simp) (by simp) fun d m3 hd pp => ?_
    obtain ⟨tn, hn, rfl⟩ := int_menu hd
    have hn3 : 0 ≤ tn ∧ tn ≤ 2 := by simp at hn; omega
    ((repeat wtm_at "s"); (try conv => whnf))
    refine forD_by (fun ds dl m => ∃ (xs : List D) (tu : Option D), PP p (mu ++ [.lst xs]) m ∧ xs.length = (y0 :: r0).length ∧ (∀ x ∈ xs, elm x) ∧ dl = [some (.loc p), some (.lst (strsD (y0 :: r0))), none, some (.loc mu.length), tu]) ?_ ?_ _ _ _ ⟨strsD (y0 :: r0), none, pp, hml, hE, rfl⟩
    · rintro dl m ⟨xs, tu, pp, hxl, hx, rfl⟩
      refine ⟨trivial, ?_⟩
      obtain ⟨m', pp', rfl⟩ := pp.app hP
      have hseq : seqOf (m' ++ [D.lst xs]) (.loc mu.length) = some xs := asL_seq (by rw [← pp'.len]; exact app_get _ _)
      have htup : tupleD (m' ++ [D.lst xs]) [.loc mu.length] = some (True, .ptup xs) := by
        simp only [tupleD, hseq]
      ((repeat (first | rw [htup] | wtm_at "r" | ((conv => whnf); first | rw [htup] | wtm_at "r"))); (try conv => whnf))
      refine ⟨.ptup xs, m', Frz.drop (pp'.low l1) (by simp only [lowD]; exact elm_low hx _), pp'.le, hR _ _ (gv_ptup (by rw [hxl]; omega) hx) pp'⟩
    · rintro d ds dl m ⟨xs, tu, pp, hxl, hx, rfl⟩ nx hnx
      refine ⟨trivial, ?_⟩
      ((repeat wtm_at "s"); (try conv => whnf))
      refine call_law_pick (xs := strsD (y0 :: r0)) pp (hPA _) (fun _ _ => rfl) (by simp [strsD]) (by rw [hml]; omega) fun d1 m4 hd pp => ?_
      obtain ⟨z1, h1, rfl⟩ := strs_mem hd
      ((repeat wtm_at "s"); (try conv => whnf))
      refine call_law_pick (xs := strsD (y0 :: r0)) pp (hPA _) (fun _ _ => rfl) (by simp [strsD]) (by rw [hml]; omega) fun d2 m5 hd pp => ?_
      obtain ⟨z2, h2, rfl⟩ := strs_mem hd
      ((repeat wtm_at "s"); (try conv => whnf))
      refine call_law_bent pp (hPA _) (hz2 z1 h1) (hz2 z2 h2) fun d3 m6 h3 pp => ?_
      ((repeat wtm_at "s"); (try conv => whnf))
      refine call_law_draw pp (hPA _) (by rw [hml, hz1]; omega) (by rw [hml]; omega) fun k m7 k0 k1 pp => ?_
      have hm : m7[mu.length]? = some (.lst xs) := by
        rw [pp.get (by omega)]
        exact app_get _ _
      have hput : putO m7 (.loc mu.length) (.int k) d3 = some (m7.set mu.length (.lst (xs.set k.toNat d3))) := putL hm (ix_nat k0 (by rw [hxl, ← hml]; exact k1))
      ((repeat (first | rw [hput] | wtm_at "r" | ((conv => whnf); first | rw [hput] | wtm_at "r"))); (try conv => whnf))
      obtain ⟨m', pp', rfl⟩ := pp.app hP
      refine hnx _ _ ⟨xs.set k.toNat d3, _, ?_, by rw [List.length_set]; exact hxl, fun x hx2 => ?_, rfl⟩
      · rw [← pp'.len, app_set]
        exact PP.appR [D.lst (xs.set k.toNat d3)] hP pp'
      · rcases List.mem_or_eq_of_mem_set hx2 with h | h
        · exact hx x h
        · rw [h]
          exact h3
open TL
/-- the index that is due -/
def wrD (d : D) : D := match gradesO d with
  | .ok _ => .str ""
  | .err _ ((_, y) :: _) => y
  | .err _ [] => .non
theorem wrongG_le : ∀ (xs : List D) (seen : List Str) (j : Nat), seen.length ≤ 4 → wrongG seen xs = some j → j ≤ 4
  | [], _, _, _, h => by cases h
  | d :: r, seen, j, hs, h => by
    cases d with
    | str z =>
      have h : (if seen.length = 4 ∨ ¬ (labB z = true) ∨ z ∈ seen then some seen.length else wrongG (seen ++ [z]) r) = some j := h
      split at h
      · cases h
        exact hs
      · rename_i hn
        refine wrongG_le r (seen ++ [z]) j ?_ h
        rw [List.length_append]
        show seen.length + 1 ≤ 4
        have : ¬ seen.length = 4 := fun q => hn (.inl q)
        omega
    | _ =>
      have h : some seen.length = some j := h
      cases h
      exact hs
theorem grO_cases (d : D) : gradesO d = .ok .non ∨ ∃ y, gradesO d = .err "InvalidGrades" [("index", y)] ∧ (y = .non ∨ ∃ j : Nat, j ≤ 4 ∧ y = .int ((j : Nat) : Int)) := by
  unfold gradesO
  cases tupL d with
  | none => exact .inr ⟨_, rfl, .inl rfl⟩
  | some xs =>
    unfold gradesL
    by_cases h : xs.length < 2
    · simp only [if_pos h]
      exact .inr ⟨_, rfl, .inl rfl⟩
    · simp only [if_neg h]
      cases hw : wrongG [] xs with
      | none => exact .inl rfl
      | some j => exact .inr ⟨_, rfl, .inr ⟨j, wrongG_le xs [] j (by decide) hw, rfl⟩⟩
theorem asgC_go {d : D} {i : Nat} {rest : TSd} {A : EndsD} {dl : Lo} {mu : Mu} (h : rest A (dl.set i (some d)) mu) : sSeq (sAsg (dC d) (kName i)) rest A dl mu := h
theorem if_go {c : TTd} {a b rest : TSd} {A : EndsD} {dl : Lo} {mu : Mu} (h : c dl mu fun b' m => Br b' (a { A with nx := rest A } dl m) (b { A with nx := rest A } dl m)) : sSeq (sIf c a b) rest A dl mu := h
theorem orI_go {k : Ty0} {i : Nat} {d : D} {u : TTd} {dl : Lo} {mu : Mu} {Q : Bool → Mu → Prop} (e : dl[i]? = some (some d)) (h : isiB k d = some true) (z : u dl mu Q) : dOr (dNot (dTest (dIsi k (dVar i)))) u dl mu Q := by
  unfold dOr dNot dTest dIsi dVar
  simp only [e, h]
  exact brF z
theorem orLen_go {i : Nat} {z : Str} {u : TTd} {dl : Lo} {mu : Mu} {Q : Bool → Mu → Prop} {lo hi : Int} (e : dl[i]? = some (some (.str z))) (hz : z.length ≤ sizeLine) (h1 : lo < z.length → (z.length : Int) < hi → u dl mu Q) (h2 : ¬ (lo < z.length ∧ (z.length : Int) < hi) → Q true mu) : dOr (dNot (dTest (dChain fLt fLt (dC (.int lo)) (dB (gOf lenD) (dCons (dVar i) dNil)) (dC (.int hi))))) u dl mu Q := by
  unfold dOr dNot dTest dChain dB dCons dNil dVar dC
  simp only [e]
  refine ⟨hz, ?_⟩
  refine ⟨trivial, ?_⟩
  refine Br.by (fun ha => ?_) fun ha => ?_
  · refine ⟨trivial, ?_⟩
    show Br (!(decide ((z.length : Int) < hi))) _ _
    refine Br.by (fun hb => ?_) fun hb => ?_
    · exact h2 fun q => by
        rw [decide_eq_true q.2] at hb
        cases hb
    · exact h1 (of_decide_eq_true ha) (by
        cases hq : decide ((z.length : Int) < hi) with
        | true => exact of_decide_eq_true hq
        | false => rw [hq] at hb; cases hb)
  · show Br (!false) _ _
    refine brT ?_
    exact h2 fun q => by
      rw [decide_eq_true q.1] at ha
      cases ha
open TL
def s_law_is_name : SpD := spU 1 fun ds_ o_ => ∃ (d : D), ds_ = [d] ∧ (plainB d = true) ∧ (fitD d = true) ∧ o_ = .ok (.bl (nameD d))
theorem call_law_is_name {d : D} {mu : Mu} {Q : KD} {E : EdF} (h1 : plainB d = true) (h2 : fitD d = true) (kk_ : outK (.ok (.bl (nameD d))) mu Q E) : s_law_is_name [d] mu Q E := spU_at ⟨_, rfl, h1, h2, rfl⟩ rfl kk_
def t_law_is_name (Ed : EdT) : TSd :=
  sSeq (sAsg (dC (.str "abcdefghijklmnopqrstuvwxyz")) (kName 1)) (sSeq (sIf (dOr (dNot (dTest (dIsi .str (dVar 0)))) (dOr (dNot (dTest (dChain fLt fLt (dC (.int 0)) (dB (gOf lenD) (dCons (dVar 0) (dNil))) (dC (.int 9))))) (dTest (dBin (fIn true) (dBin fIx (dVar 0) (dC (.int 0))) (dVar 1))))) (sRet (dC (.bl false))) (sNext)) (sRet (dB (gOf allD) (dCons (dLc (iStr (dVar 0)) (kName 2) (dYes) (dBin (fIn false) (dVar 2) (dBin fAdd (dVar 1) (dC (.str "0123456789")))) [2]) (dNil)))))
abbrev N_law_is_name : List Str := ["_law_thing", "_law_letters", "_law_sign"]
theorem gs_law_is_name : GoodSp s_law_is_name := spU_good
theorem len_law_is_name : ∀ ds mu Q E, s_law_is_name ds mu Q E → ds.length = 1 := spU_len
theorem p_law_is_name : ∀ ds mu Q E, lowL mu.length mu = true → lowL mu.length ds = true → s_law_is_name ds mu Q E → t_law_is_name (fun _ c fs m => E c fs m) (endD mu.length Q) (startD N_law_is_name ds) mu := by
  intro ds mu Q E l1 l2 h
  obtain ⟨o_, ⟨d, rfl, h1, h2, rfl⟩, hR⟩ := spU_of h
  cases d <;> first | (cases h1; done) | skip
  case str z =>
    have hz : z.length ≤ 100000 := of_decide_eq_true h2
    have hlen := len_tl z
    have hsz : z.length ≤ sizeLine := small hz
    have fin : ∀ b, labL (tl z) = b → ∃ d' m', Frz mu (.bl b) m' d' ∧ mu.length ≤ List.length m' ∧ Q d' m' := fun b e => end_u hR (by rw [← e]; rfl)
    delta t_law_is_name
    refine asgC_go ?_
    refine if_go ?_
    refine orI_go rfl rfl ?_
    refine orLen_go rfl hsz (fun q1 q2 => ?_) fun q => ?_
    · rcases hc : tl z with _ | ⟨c, r⟩
      · rw [hc] at hlen
        rw [hlen] at q1
        exact absurd q1 (by decide)
      · have hat : atI z.cps.toList 0 = some c := by rw [show z.cps.toList = c :: r from hc]; exact atI0
        rw [hc, labL_eq] at fin
        rw [hc] at hlen
        have h8 : (c :: r).length ≤ 8 := by omega
        rw [decide_eq_true h8, Bool.and_true] at fin
        ((repeat (first | rw [ixT hat] | wtm_at "r" | ((conv => whnf); first | rw [ixT hat] | wtm_at "r"))); (try conv => whnf))
        rw [abc_mem]
        refine Br.by (fun he => ?_) (fun he => ?_)
        · have he : letB c = false := by
            cases hq : letB c with
            | false => rfl
            | true => rw [hq] at he; cases he
          rw [he, Bool.false_and] at fin
          ((repeat wtm_at "s"); (try conv => whnf))
          exact fin _ rfl
        · have he : letB c = true := by
            cases hq : letB c with
            | true => rfl
            | false => rw [hq] at he; cases he
          rw [he, Bool.true_and] at fin
          ((repeat wtm_at "s"); (try conv => whnf))
          refine lc_map z.cps.toList (fun c => .str ⟨#[c]⟩) (fun c => .bl (alnB c)) trivial (by rw [← len_tl]; omega) (fun c _ n hn => ?_) ?_
          · rw [← aln_mem] at hn
            ((repeat wtm_at "s"); (try conv => whnf))
            exact hn
          · ((repeat (first | rw [all_map] | wtm_at "r" | ((conv => whnf); first | rw [all_map] | wtm_at "r"))); (try conv => whnf))
            refine fin _ ?_
            rw [show z.cps.toList = c :: r from hc]
    · refine brT ?_
      ((repeat wtm_at "s"); (try conv => whnf))
      refine fin _ ?_
      rcases hc : tl z with _ | ⟨c, r⟩
      · rfl
      · rw [labL_eq]
        rw [hc] at hlen
        have : ¬ (c :: r).length ≤ 8 := fun w => q ⟨by rw [hlen, List.length_cons]; omega, by omega⟩
        rw [decide_eq_false this, Bool.and_false, Bool.and_false]
  all_goals
    ((repeat wtm_at "s"); (try conv => whnf))
    exact end_u hR rfl
open TL
theorem wrD_none {d : D} (h : tupL d = none) : wrD d = .non := by
  simp only [wrD, gradesO, h]
theorem wrD_few {d : D} {xs : List D} (h : tupL d = some xs) (h2 : xs.length < 2) : wrD d = .non := by
  simp only [wrD, gradesO, h, gradesL, if_pos h2]
theorem wrD_ok {d : D} {xs : List D} (h : tupL d = some xs) (h2 : ¬ xs.length < 2) (hw : wrongG [] xs = none) : wrD d = .str "" := by
  simp only [wrD, gradesO, h, gradesL, if_neg h2, hw]
theorem wrD_at {d : D} {xs : List D} {j : Nat} (h : tupL d = some xs) (h2 : ¬ xs.length < 2) (hw : wrongG [] xs = some j) : wrD d = .int ((j : Nat) : Int) := by
  simp only [wrD, gradesO, h, gradesL, if_neg h2, hw]
theorem at_seen {d : D} {seen : List Str} {x : D} {r : List D} (h : tupL d = some (strsD seen ++ x :: r)) (m : Mu) : ixD m d (.int ((seen.length : Nat) : Int)) = some (True, x) := by
  refine ixS (tupL_seq h m) ?_
  have e : (strsD seen ++ x :: r)[seen.length]? = some x := by
    rw [List.getElem?_append_right (by simp [strsD])]
    simp [strsD]
  have hj := (List.getElem?_eq_some_iff.mp e).1
  unfold atI ixN
  rw [if_pos (by omega), if_pos (by omega)]
  exact e
def s_law_wrong : SpD := spU 1 fun ds_ o_ => ∃ (d : D), ds_ = [d] ∧ (grdV d) ∧ o_ = .ok (wrD d)
theorem call_law_wrong {d : D} {mu : Mu} {Q : KD} {E : EdF} (h : grdV d) (kk_ : outK (.ok (wrD d)) mu Q E) : s_law_wrong [d] mu Q E := spU_at ⟨_, rfl, h, rfl⟩ rfl kk_
def t_law_wrong (Ed : EdT) : TSd :=
  sSeq (sIf (dOr (dNot (dTest (dIsi .tuple (dVar 0)))) (dTest (dBin fLt (dB (gOf lenD) (dCons (dVar 0) (dNil))) (dC (.int 2))))) (sRet (dC .non)) (sNext)) (sSeq (sFor (iRng1 (dCons (dB (gOf lenD) (dCons (dVar 0) (dNil))) (dNil))) (kName 1) (sIf (dOr (dTest (dBin fEq (dVar 1) (dC (.int 4)))) (dOr (dNot (dTest (dCall s_law_is_name Ed (dCons (dBin fIx (dVar 0) (dVar 1)) (dNil))))) (dTest (dBin (fIn false) (dBin fIx (dVar 0) (dVar 1)) (dSl (dVar 0) (oNo) (oPart (dVar 1))))))) (sRet (dVar 1)) (sNext))) (sRet (dC (.str ""))))
abbrev N_law_wrong : List Str := ["_law_some", "_law_k"]
theorem gs_law_wrong : GoodSp s_law_wrong := spU_good
theorem len_law_wrong : ∀ ds mu Q E, s_law_wrong ds mu Q E → ds.length = 1 := spU_len
theorem p_law_wrong : ∀ ds mu Q E, lowL mu.length mu = true → lowL mu.length ds = true → s_law_wrong ds mu Q E → t_law_wrong (fun _ c fs m => E c fs m) (endD mu.length Q) (startD N_law_wrong ds) mu := by
  intro ds mu Q E l1 l2 h
  obtain ⟨o_, ⟨d, rfl, h, rfl⟩, hR⟩ := spU_of h
  obtain ⟨⟨h1, h2⟩, h3, hl⟩ := h
  ((repeat wtm_at "s"); (try conv => whnf))
  rw [isi_tup h1]
  cases e : tupL d with
  | none =>
    rw [wrD_none e] at hR
    ((repeat wtm_at "s"); (try conv => whnf))
    exact end_u hR rfl
  | some xs =>
    have hx := h2 xs e
    have hl := hl xs e
    ((repeat (first | rw [lenS (tupL_seq e mu)] | wtm_at "r" | ((conv => whnf); first | rw [lenS (tupL_seq e mu)] | wtm_at "r"))); (try conv => whnf))
    refine Br.by (fun hb => ?_) (fun hb => ?_)
    · have hb2 : xs.length < 2 := by
        have := of_decide_eq_true hb
        omega
      rw [wrD_few e hb2] at hR
      ((repeat wtm_at "s"); (try conv => whnf))
      exact end_u hR rfl
    · have hb2 : ¬ xs.length < 2 := by
        have := of_decide_eq_false hb
        omega
      have bad : ∀ j, wrongG [] xs = some j → ∃ d' m', Frz mu (.int ((j : Nat) : Int)) m' d' ∧ mu.length ≤ List.length m' ∧ Q d' m' := fun j e2 => by
        rw [wrD_at e hb2 e2] at hR
        exact end_u hR rfl
      ((repeat (first | rw [lenS (tupL_seq e mu)] | wtm_at "r" | ((conv => whnf); first | rw [lenS (tupL_seq e mu)] | wtm_at "r"))); (try conv => whnf))
      rw [show (((xs.length : Nat) : Int)).toNat = xs.length from rfl]
      refine forD_by (fun ds dl m => m = mu ∧ ∃ seen r i1, xs = strsD seen ++ r ∧ (∀ x ∈ r, plainB x = true ∧ fitD x = true) ∧ seen.length ≤ 4 ∧ ds = rngD seen.length r.length ∧ dl = [some d, i1] ∧ wrongG seen r = wrongG [] xs) ?_ ?_ _ _ _ ⟨rfl, [], xs, none, rfl, hx, by decide, rfl, rfl, rfl⟩
      · rintro dl m ⟨rfl, seen, r, i1, e1, _, _, e2, rfl, hw⟩
        cases r with
        | cons x r =>
          rw [List.length_cons, rng_cons] at e2
          cases e2
        | nil =>
          refine ⟨trivial, ?_⟩
          ((repeat wtm_at "s"); (try conv => whnf))
          rw [wrD_ok e hb2 hw.symm] at hR
          exact end_u hR rfl
      · rintro q ds dl m ⟨rfl, seen, r, i1, e1, hr, h4, e2, rfl, hw⟩ n hn
        cases r with
        | nil => cases e2
        | cons x r =>
          rw [List.length_cons, rng_cons] at e2
          obtain ⟨rfl, rfl⟩ := List.cons.inj e2
          have hxr := hr x (by simp)
          have hat := at_seen (by rw [e, e1])
          refine ⟨trivial, ?_⟩
          ((repeat wtm_at "s"); (try conv => whnf))
          by_cases h5 : seen.length = 4
          · rw [show decide (((seen.length : Nat) : Int) = 4) = true from decide_eq_true (by omega)]
            ((repeat wtm_at "s"); (try conv => whnf))
            exact bad _ (hw.symm.trans (wrongG_four h5))
          · rw [show decide (((seen.length : Nat) : Int) = 4) = false from decide_eq_false (by omega)]
            ((repeat (first | rw [hat] | wtm_at "r" | ((conv => whnf); first | rw [hat] | wtm_at "r"))); (try conv => whnf))
            refine call_law_is_name hxr.1 hxr.2 ?_
            cases hn2 : nameD x with
            | false =>
              ((repeat wtm_at "s"); (try conv => whnf))
              exact bad _ (hw.symm.trans (wrongG_no hn2))
            | true =>
              obtain ⟨z, rfl, hz⟩ := name_of hn2
              have hsl : ∀ m, slD m d none (some ((seen.length : Nat) : Int)) = some (True, .tup (strsD seen)) := fun m => by
                rw [tupL_sl e m _ (by rw [e1, List.length_append]; simp [strsD]), e1, take_seen]
              have hst : wrongG seen (.str z :: r) = if seen.length = 4 ∨ ¬ (labB z = true) ∨ z ∈ seen then some seen.length else wrongG (seen ++ [z]) r := rfl
              ((repeat (first | rw [hat] | rw [hsl] | wtm_at "r" | ((conv => whnf); first | rw [hat] | rw [hsl] | wtm_at "r"))); (try conv => whnf))
              refine ⟨⟨rfl, flat_strs seen⟩, ?_⟩
              rw [any_strs]
              refine Br.by (fun hin => ?_) (fun hin => ?_)
              · ((repeat wtm_at "s"); (try conv => whnf))
                rw [if_pos (.inr (.inr (of_decide_eq_true hin)))] at hst
                exact bad _ (hw.symm.trans hst)
              · ((repeat wtm_at "s"); (try conv => whnf))
                rw [if_neg (fun q => q.elim h5 fun q => q.elim (fun q => q hz) (of_decide_eq_false hin))] at hst
                refine hn _ _ ⟨rfl, seen ++ [z], r, _, ?_, fun y hy => hr y (List.mem_cons_of_mem _ hy), by rw [List.length_append]; show seen.length + 1 ≤ 4; omega, by rw [List.length_append]; rfl, rfl, by rw [← hw, hst]⟩
                rw [e1]
                unfold strsD
                rw [List.map_append, List.append_assoc]
                rfl
open TL
theorem wrongG_none : ∀ (xs : List D) (seen : List Str), seen.Nodup → seen.length ≤ 4 → wrongG seen xs = none → ∃ zs, xs = strsD zs ∧ (∀ z ∈ zs, labB z = true) ∧ (seen ++ zs).Nodup ∧ (seen ++ zs).length ≤ 4
  | [], seen, nd, hl, _ => ⟨[], rfl, fun z hz => by simp at hz, by rw [List.append_nil]; exact nd, by rw [List.append_nil]; exact hl⟩
  | d :: r, seen, nd, hl, h => by
    cases d with
    | str z =>
      have h : (if seen.length = 4 ∨ ¬ (labB z = true) ∨ z ∈ seen then some seen.length else wrongG (seen ++ [z]) r) = none := h
      by_cases hc : seen.length = 4 ∨ ¬ (labB z = true) ∨ z ∈ seen
      · rw [if_pos hc] at h
        cases h
      · rw [if_neg hc] at h
        have hz : labB z = true := Classical.byContradiction fun q => hc (.inr (.inl q))
        have h4 : ¬ seen.length = 4 := fun q => hc (.inl q)
        have hs : z ∉ seen := fun q => hc (.inr (.inr q))
        obtain ⟨zs, e, h1, h2, h3⟩ := wrongG_none r (seen ++ [z]) (by
          rw [List.nodup_append]
          refine ⟨nd, by simp, fun a ha b hb => ?_⟩
          rw [List.mem_singleton.mp hb]
          exact fun q => hs (q ▸ ha)) (by rw [List.length_append]; show seen.length + 1 ≤ 4; omega) h
        refine ⟨z :: zs, by rw [e]; rfl, fun y hy => ?_, by rw [List.append_assoc] at h2; exact h2, by rw [List.append_assoc] at h3; exact h3⟩
        rcases List.mem_cons.mp hy with rfl | hy
        · exact hz
        · exact h1 y hy
    | _ =>
      have h : some seen.length = none := h
      cases h
theorem grO_ok {d : D} (h : gradesO d = .ok .non) : ∃ gs, (d = .tup (strsD gs) ∨ d = .ptup (strsD gs)) ∧ grdOk gs := by
  unfold gradesO at h
  cases e : tupL d with
  | none => rw [e] at h; cases h
  | some xs =>
    rw [e] at h
    have h : gradesL xs = .ok .non := h
    unfold gradesL at h
    by_cases h2 : xs.length < 2
    · rw [if_pos h2] at h; cases h
    · rw [if_neg h2] at h
      cases hw : wrongG [] xs with
      | some j => rw [hw] at h; cases h
      | none =>
        obtain ⟨zs, rfl, h3, h4, h5⟩ := wrongG_none xs [] List.nodup_nil (by decide) hw
        have hl : (strsD zs).length = zs.length := by simp [strsD]
        refine ⟨zs, ?_, by omega, h5, h3, h4⟩
        cases d <;> first | (cases e; done) | (cases e; exact .inl rfl) | (cases e; exact .inr rfl)
theorem strOk_asc {z : Str} (h : asc z) : PyData.strOk z = true := by
  unfold PyData.strOk
  rw [Array.all_eq_true]
  intro i hi
  have := h z.cps[i] (by show z.cps[i] ∈ z.cps.toList; simp)
  exact decide_eq_true (by omega)
theorem eq_due {m : Mu} {n : Nat} {w s : Str} (h : m[n]? = some (.lst [dueL w s, dueL w s])) (hw : asc w) (hs : asc s) : eqD0 m (.loc n) (.lst [dueL w s, dueL w s]) = some (True, .bl true) := by
  have e1 : pyAt m (.loc n) = some (.list [.list [.str w, .str s], .list [.str w, .str s]]) := by
    simp only [pyAt, h]
    rfl
  have e2 : pyAt m (.lst [dueL w s, dueL w s]) = some (.list [.list [.str w, .str s], .list [.str w, .str s]]) := rfl
  have k1 := strOk_asc hw
  have k2 := strOk_asc hs
  have e3 : SeqAt.shaped (.list [.list [.str w, .str s], .list [.str w, .str s]]) = true := by
    simp [SeqAt.shaped, PyData.canLay0, PyData.depth, PyData.canLayAll0, PyData.depthAll, k1, k2]
  have e4 : PyData.eqv (.list [.list [.str w, .str s], .list [.str w, .str s]]) (.list [.list [.str w, .str s], .list [.str w, .str s]]) = true := by
    simp [PyData.eqv, PyData.eqvAll]
  show (match eqS (.loc n) (.lst [dueL w s, dueL w s]) with | some k => some (True, D.bl k) | none => match pyAt m (.loc n), pyAt m (.lst [dueL w s, dueL w s]) with
    | some d, some e => some (SeqAt.shaped d = true ∧ SeqAt.shaped e = true, .bl (PyData.eqv d e))
    | _, _ => none) = _
  rw [e1, e2]
  show some (SeqAt.shaped _ = true ∧ SeqAt.shaped _ = true, D.bl _) = _
  rw [e3, e4]
  simp
theorem due_rl {d : D} (h : grdV d) : RL 2 (wrD d) ∧ (∀ n, lowD n (wrD d) = true) := by
  rcases grO_cases d with e | ⟨y, e, hy⟩
  · unfold wrD
    rw [e]
    exact ⟨RL.str (asc_of (by decide +kernel)) (by decide +kernel), fun _ => rfl⟩
  · unfold wrD
    rw [e]
    rcases hy with rfl | ⟨j, hj, rfl⟩
    · exact ⟨RL.non, fun _ => rfl⟩
    · exact ⟨RL.int (by omega), fun _ => rfl⟩
open TL
theorem tup_pl {zs : List Str} {d : D} (h : d = .tup (strsD zs) ∨ d = .ptup (strsD zs)) (hz : ∀ z ∈ zs, labB z = true) (hl : zs.length ≤ 15) : (∀ m, seqOf m d = some (strsD zs)) ∧ RL 1 d ∧ ∀ n, lowD n d = true := by
  have hl2 : (strsD zs).length ≤ 15 := by simpa [strsD] using hl
  rcases h with rfl | rfl
  · exact ⟨fun _ => rfl, RL.tup hl2 (strs_rl hz), fun _ => low_strs _ _⟩
  · exact ⟨fun _ => rfl, RL.ptup hl2 (strs_rl hz), fun _ => low_strs _ _⟩
def s_law_right : SpD := spW 0 fun p m as_ R_ => as_ = [] ∧ (D.tab ("_law_right", none) ∈ m) ∧ R_ = (fun d_ => d_ = .bl true)
theorem call_law_right  {p : Nat} {mu m : Mu} {Q : KD} {E : EdF} (pp : PP p mu m) (hP : hasP p mu) (ht : D.tab ("_law_right", none) ∈ m) (kk_ : ∀  m', PP p mu m' → Q (.bl true) m') : s_law_right (.loc p :: []) m Q E := spW_at ⟨rfl, ht, rfl⟩ rfl pp hP (fun d_ m' e_ pp => by rw [e_]; exact kk_ m' pp)
def t_law_right (Ed : EdT) : TSd :=
  sSeq (sAsg (dTup (dCons (dCall s_law_value Ed (dCons (dVar 0) (dNil))) (dCons (dCall s_law_pick Ed (dCons (dVar 0) (dCons (dLst (dCons (dC .non) (dCons (dTup (dNil)) (dCons (dLst (dNil)) (dCons (dC (.str "a")) (dCons (dTup (dCons (dC (.str "nope")) (dNil))) (dCons (dTup (dCons (dC (.str "points >= 1: a")) (dNil))) (dCons (dTup (dCons (dC .non) (dNil))) (dCons (dC (.int 3)) (dNil)))))))))) (dNil)))) (dNil)))) (kSeq 2 (kCons (kName 1) (kCons (kName 2) (kNil))))) (sSeq (sPar 3 4 (dCons (dCall s_law_wrong Ed (dCons (dVar 1) (dNil))) (dCons (dB (gOf reprD) (dCons (dVar 1) (dNil))) (dNil)))) (sSeq (sIf (dTest (dBin fNe (dVar 3) (dC (.str "")))) (sSeq (sAsg (dLstM (dCons (dLam ("_law_right", none) s_law_caught (fun Ed' => dMake "Rule" sRule_init Ed' (dCons (dVar 1) (dCons (dVar 2) (dNil)))) Ed) (dNil))) (kName 5)) (sSeq (sExpr (dApp (dVar 5) (dCons (dLam ("_law_right", none) s_law_caught (fun Ed' => dMakeK "Rule" sRule_init Ed' 2 [1, 0] (dCons (dVar 2) (dCons (dVar 1) (dNil)))) Ed) (dNil)))) (sRet (dAndV (dBin fEq (dVar 5) (dBin fMul (dLst (dCons (dLst (dCons (dC (.str "grades")) (dCons (dB (gOf reprD) (dCons (dVar 3) (dNil))) (dNil)))) (dNil))) (dC (.int 2)))) (dBin fEq (dB (gOf reprD) (dCons (dVar 1) (dNil))) (dVar 4)))))) (sNext)) (sSeq (sAsg (dCall s_law_pick Ed (dCons (dVar 0) (dCons (dVar 1) (dNil)))) (kName 6)) (sSeq (sAsg (dLam ("_law_right", none) s_law_caught (fun Ed' => dMake "Rule" sRule_init Ed' (dCons (dVar 1) (dCons (dTup (dCons (dVar 6) (dNil))) (dNil)))) Ed) (kName 5)) (sRet (dAndV (dBin fEq (dBin fIx (dVar 5) (dC (.int 0))) (dC (.str "told"))) (dBin fEq (dB (gOf reprD) (dCons (dLst (dCons (dProp "Rule" sRule_grades (dBin fIx (dVar 5) (dC (.int 1)))) (dCons (dProp "Rule" sRule_rows (dBin fIx (dVar 5) (dC (.int 1)))) (dNil)))) (dNil))) (dB (gOf reprD) (dCons (dLst (dCons (dVar 1) (dCons (dTup (dCons (dVar 6) (dNil))) (dNil)))) (dNil))))))))))
abbrev N_law_right : List Str := ["_law_purse_here", "_law_some", "_law_odd", "_law_due", "_law_kept", "_law_back", "_law_last"]
theorem gs_law_right : GoodSp s_law_right := spW_good
theorem len_law_right : ∀ ds mu Q E, s_law_right ds mu Q E → ds.length = 1 := spW_len
theorem p_law_right : ∀ ds mu Q E, lowL mu.length mu = true → lowL mu.length ds = true → s_law_right ds mu Q E → t_law_right (fun _ c fs m => E c fs m) (endD mu.length Q) (startD N_law_right ds) mu := by
  intro ds mu Q E l1 l2 h
  obtain ⟨p, _, _, rfl, ⟨rfl, ht, rfl⟩, hP, hR0⟩ := spW_of h
  have hR : ∀  m, PP p mu m → Q (.bl true) m := fun m pp => hR0 _ m rfl pp
  have pp := PP.refl hP
  have ht0 := ht
  ((repeat wtm_at "s"); (try conv => whnf))
  refine call_law_value pp hP fun d m1 h1 pp => ?_
  ((repeat wtm_at "s"); (try conv => whnf))
  refine call_law_pick pp hP (fun _ _ => rfl) (by simp) (by simp) fun od m2 hod pp => ?_
  have lm2 := pp.low l1
  have ht2 : D.tab ("_law_right", none) ∈ m2 := pp.mem hP ht0
  have hrd := fun m => repr_rl (mu := m) h1.2.1.up
  ((repeat wtm_at "s"); (try conv => whnf))
  refine call_law_wrong h1 ?_
  ((repeat (first | rw [hrd] | wtm_at "r" | ((conv => whnf); first | rw [hrd] | wtm_at "r"))); (try conv => whnf))
  rcases grO_cases d with hok | ⟨y, herr, hy⟩
  · obtain ⟨gs, hgs, hgr⟩ := grO_ok hok
    have hw : wrD d = .str "" := by
      unfold wrD
      rw [hok]
    have hpl := tup_pl hgs hgr.2.2.1 (by have := hgr.2.1; omega)
    have hgl : (strsD gs).length = gs.length := by simp [strsD]
    rw [hw]
    ((repeat wtm_at "s"); (try conv => whnf))
    simp only [eq_self, decide_true, Bool.not_true]
    ((repeat wtm_at "s"); (try conv => whnf))
    refine call_law_pick (xs := strsD gs) pp hP (fun m _ => hpl.1 m) (fun q => by rw [q] at hgl; have := hgr.1; simp at hgl; omega) (by rw [hgl]; have := hgr.2.1; omega) fun x m3 hx pp => ?_
    obtain ⟨z, hz, rfl⟩ := strs_mem hx
    have lm3 := pp.low l1
    have ht3 : D.tab ("_law_right", none) ∈ m3 := pp.mem hP ht0
    have hzl := hgr.2.2.1 z hz
    ((repeat wtm_at "s"); (try conv => whnf))
    refine ⟨_, _, fun _ _ k => k, fun _ _ _ k => k, ?_⟩
    ((repeat wtm_at "s"); (try conv => whnf))
    refine make_rule (gs := gs) (xs := [.str z]) lm3 hgs hgr (.inl rfl) (mem_one ⟨rfl, decide_eq_true (Nat.le_trans (lab_len hzl) (by decide))⟩) (rws_of (rx := []) hz [] rfl (by simp)) (by simp) (by simp) rfl ?_
    ((repeat wtm_at "s"); (try conv => whnf))
    refine call_Rule_grades ?_
    ((repeat wtm_at "s"); (try conv => whnf))
    refine call_Rule_rows ?_
    have hr2 : ∀ m : Mu, reprD m [D.lst [d, D.tup [D.str z]]] = some (True, .str (shw (D.lst [d, D.tup [D.str z]]))) := fun m => repr_rl (RL.lst (k := 1) (by simp) (mem_two hpl.2.1 (RL.tup (by simp) (mem_one (lab_rl hzl))))).up
    ((repeat (first | rw [hr2] | wtm_at "r" | ((conv => whnf); first | rw [hr2] | wtm_at "r"))); (try conv => whnf))
    simp only [eq_self, decide_true, Bool.not_true]
    ((repeat wtm_at "s"); (try conv => whnf))
    exact end_of pp.le (hR _ pp)
  · have hw : wrD d = y := by
      unfold wrD
      rw [herr]
    have hne : ∀ m, neD0 m y (.str "") = some (True, .bl true) := fun m => by
      rcases hy with rfl | ⟨j, _, rfl⟩ <;> rfl
    have hry : RL 2 y := hw ▸ (due_rl h1).1
    have hrd2 := fun m => repr_rl (mu := m) hry.up
    rw [hw]
    ((repeat (first | rw [hne] | wtm_at "r" | ((conv => whnf); first | rw [hne] | wtm_at "r"))); (try conv => whnf))
    refine ⟨_, _, fun _ _ k => k, fun _ _ _ k => k, ?_⟩
    ((repeat wtm_at "s"); (try conv => whnf))
    refine spE_at (.inr ⟨_, d, od, _, _, rfl, h1.1, herr, rfl, rfl⟩) rfl (fun _ _ z => z.elim) fun c fs ⟨e1, e2⟩ ms => ?_
    rw [e1, e2, List.append_assoc]
    refine xok_of (w := "grades") lm2 (by simp [shownT]) hry.up ?_
    have lmA : lowL (m2 ++ [D.lst [D.lst [.str "grades", .str (shw y)]]]).length (m2 ++ [D.lst [D.lst [.str "grades", .str (shw y)]]]) = true := low_snoc lm2 rfl
    have htA : D.tab ("_law_right", none) ∈ m2 ++ [D.lst [D.lst [.str "grades", .str (shw y)]]] := List.mem_append_left _ ht2
    ((repeat (first | rw [asL1_app] | wtm_at "r" | ((conv => whnf); first | rw [asL1_app] | wtm_at "r"))); (try conv => whnf))
    refine ⟨_, _, fun _ _ k => k, fun _ _ _ k => k, ?_⟩
    ((repeat wtm_at "s"); (try conv => whnf))
    refine spE_at (.inr ⟨_, d, od, _, _, rfl, h1.1, herr, rfl, rfl⟩) rfl (fun _ _ z => z.elim) fun c fs ⟨e1, e2⟩ ms => ?_
    rw [e1, e2, List.append_assoc]
    refine xok_of (w := "grades") lmA (by simp [shownT]) hry.up ?_
    ((repeat (first | rw [appO_app] | rw [hrd2] | rw [hrd] | wtm_at "r" | ((conv => whnf); first | rw [appO_app] | rw [hrd2] | rw [hrd] | wtm_at "r"))); (try conv => whnf))
    refine ⟨⟨by decide, by decide, by show 1 * 2 ≤ sizeLine; decide⟩, ?_⟩
    have hs := RD.asc hry.up
    have heq : eqD0 (m2 ++ [D.lst ([D.lst [.str "grades", .str (shw y)]] ++ [D.lst [.str "grades", .str (shw y)]])]) (.loc m2.length) (.lst (List.replicate (Int.toNat 2) [D.lst [.str "grades", .str (shw y)]]).flatten) = some (True, .bl true) := eq_due (app_get _ _) (asc_of (by decide +kernel)) hs.1
    ((repeat (first | rw [heq] | wtm_at "r" | ((conv => whnf); first | rw [heq] | wtm_at "r"))); (try conv => whnf))
    ((repeat (first | rw [hrd] | wtm_at "r" | ((conv => whnf); first | rw [hrd] | wtm_at "r"))); (try conv => whnf))
    simp only [eq_self, decide_true, Bool.not_true]
    ((repeat wtm_at "s"); (try conv => whnf))
    refine ⟨.bl true, m2, Frz.drop lm2 rfl, pp.le, hR _ pp⟩
/-- a drawn truth, again and again -/
theorem lc_all {k : TGd} {te : TEd} {alive : Mu → Prop} {dw : Lo} {Q : KD} {p : Nat} {mu m : Mu} (xs : List D) (pp : PP p mu m) (ha : ∀ m', PP p mu m' → alive m') (hl : xs.length ≤ 999999)
    (hs : ∀ x ∈ xs, ∀ (m : Mu) (n : D → Mu → Prop), PP p mu m → (∀ m', PP p mu m' → n (.bl true) m') → k x dw m fun dl' mu' => te dl' mu' n)
    (hQ : ∀ (n : Nat) (m' : Mu), PP p mu m' → Q (.lst (List.replicate n (.bl true))) m') : lcS k dYes te alive dw Q xs [] m :=
  lc_draw (α := Unit) xs (fun _ => .bl true) (fun _ => True) pp ha hl (fun x hx m n pp h => hs x hx m n pp fun m' pp' => h () m' trivial pp') fun as m' _ _ pp' => by
    have e : (as.map fun _ => D.bl true) = List.replicate as.length (.bl true) := List.map_const' ..
    rw [e]
    exact hQ _ m' pp'
theorem all_rep (mu : Mu) (n : Nat) : allD mu [.lst (List.replicate n (.bl true))] = some (True, .bl true) := by
  have e : blsOf (List.replicate n (D.bl true)) = some (List.replicate n true) := by
    have := blsOf_map (List.replicate n true)
    rwa [List.map_replicate] at this
  show (match asL mu (.lst (List.replicate n (.bl true))) with | some xs => (match blsOf xs with | some bs => some (True, D.bl (bs.all id)) | none => none) | none => none) = _
  simp only [asL, e]
  simp
def slaw : SpD := spR 1 fun ds mu R => ∃ ns : List Int, ds = [.scr ns] ∧ ns.length ≤ 63 ∧ mu = tfX.map D.tab ∧ R = fun d _ => d = .bl true
def tlaw (Ed : EdT) : TSd :=
  sSeq (sFor (iRng1 (dCons (dB (gOf maxD) (dCons (dC (.int 2)) (dCons (dB (gOf minD) (dCons (dB (gOf lenD) (dCons (dVar 0) (dNil))) (dCons (dC (.int 4)) (dNil)))) (dNil)))) (dNil))) (kName 1) (sSeq (sAsg (dCall s_law_purse Ed (dCons (dVar 0) (dCons (dVar 1) (dNil)))) (kName 2)) (sIf (dNot (dTest (dB (gOf allD) (dCons (dLc (iRng1 (dCons (dC (.int 6)) (dNil))) (kName 3) (dYes) (dCall s_law_right noE (dCons (dVar 2) (dNil))) [3]) (dNil))))) (sRet (dC (.bl false))) (sNext)))) (sRet (dC (.bl true)))
abbrev Nlaw : List Str := ["_law_script", "_law_k", "_law_purse_here", "_law_turn"]
theorem gslaw : GoodSp slaw := spR_good
theorem lenlaw : ∀ ds mu Q E, slaw ds mu Q E → ds.length = 1 := spR_len
theorem plaw : ∀ ds mu Q E, lowL mu.length mu = true → lowL mu.length ds = true → slaw ds mu Q E → tlaw (fun _ c fs m => E c fs m) (endD mu.length Q) (startD Nlaw ds) mu := by
  intro ds mu Q E l1 l2 h
  obtain ⟨R, ⟨ns, rfl, h0, rfl, rfl⟩, hR⟩ := spR_of h
  have fin : ∀ m, (tfX.map D.tab).length ≤ List.length m → ∃ d' m', Frz m (.bl true) m' d' ∧ (tfX.map D.tab).length ≤ List.length m' ∧ Q d' m' := fun m hm => end_of hm (hR _ _ rfl)
  generalize hM : (tfX.map D.tab).length = M at fin ⊢
  ((repeat wtm_at "s"); (try conv => whnf))
  refine forD_by (fun ds dl m => lowL m.length m = true ∧ M ≤ List.length m ∧ D.tab ("_law_right", none) ∈ m ∧ (∀ d ∈ ds, ∃ i, d = .int i ∧ 0 ≤ i ∧ i < 100) ∧ ∃ l1 l2 l3, dl = [some (.scr ns), l1, l2, l3]) ?_ ?_ _ _ _ ⟨rfl, Nat.le_of_eq hM.symm, by simp [tfX], fun d hd => ?_, none, none, none, rfl⟩
  · rintro dl m ⟨_, hm, _, _, l1, l2, l3, rfl⟩
    refine ⟨trivial, ?_⟩
    ((repeat wtm_at "s"); (try conv => whnf))
    exact fin m hm
  · rintro d ds dl m ⟨lw, hm, ht, hd, l1, l2, l3, rfl⟩ nx hnx
    obtain ⟨k, rfl, k0, k1⟩ := hd d (by simp)
    refine ⟨trivial, ?_⟩
    ((repeat wtm_at "s"); (try conv => whnf))
    refine call_law_purse k0 k1 fun P hP0 => ?_
    have hP : hasP (List.length m) (m ++ [P]) := ⟨P, app_get m P, hP0⟩
    have ht2 : D.tab ("_law_right", none) ∈ m ++ [P] := List.mem_append_left _ ht
    have lw2 : lowL (m ++ [P]).length (m ++ [P]) = true := by
      obtain ⟨x, s, c, rfl, _⟩ := hP0
      refine lowL_of fun d hd => ?_
      rcases List.mem_append.mp hd with h | h
      · exact lowD_le (by simp) d (lowL_mem lw d h)
      · rw [List.mem_singleton.mp h]; rfl
    ((repeat wtm_at "s"); (try conv => whnf))
    refine lc_all _ (PP.refl hP) (fun _ _ => trivial) (by rw [rng_len]; decide) (fun x hx m' nn pp hn => ?_) fun n m' pp => ?_
    · ((repeat wtm_at "s"); (try conv => whnf))
      exact call_law_right pp hP (pp.mem hP ht2) fun m2 pp => hn m2 pp
    ((repeat (first | rw [all_rep] | wtm_at "r" | ((conv => whnf); first | rw [all_rep] | wtm_at "r"))); (try conv => whnf))
    exact hnx _ _ ⟨pp.low lw2, Nat.le_trans (by simp; omega) pp.le, pp.mem hP ht2, fun d h => hd d (List.mem_cons_of_mem _ h), _, _, _, rfl⟩
  · obtain ⟨j, hj, e⟩ := rng_mem hd
    refine ⟨_, e, by omega, ?_⟩
    split at hj
    · split at hj <;> omega
    · omega
theorem ls_law : LawSpT 63 tfX slaw := fun ns h => spR_at ⟨ns, rfl, h, rfl, rfl⟩ rfl fun d m e => e
end VL

namespace VL
open PySem PySem.Spec PyProof.Rows L2
section
variable {P : Program} {w : World} {K : PySem.W.Frag} {mg : Str → Option Value} {base : Heap} {ca : Str → Addr}
theorem f_law_draw {f : Addr} {fd : FuncData} (F : Fun K "_law_draw" "_law_draw" (topS 46) f fd) (hm : mg "_law_draw" = some (.ref f)) (m_int : mg "int" = none) (m_divmod : mg "divmod" = none) : Fn P w K mg base (L2.CX P w) ca 1 "_law_draw" ["_law_purse_here", "_law_size"] s_law_draw (topS 46) := by
  have sc : FnScope N_law_draw ["_law_purse_here", "_law_size"] (defScope (topS 46)) := ⟨rfl, rfl, rfl, by decide +kernel, rfl, by decide +kernel, by decide +kernel⟩
  refine Fn.of (t := t_law_draw) F hm (F.binds fun _ _ _ _ _ _ us hl => match us, hl with | [_, _], _ => rfl) sc len_law_draw (fun cdv A outer s H E g Ed hr hgd hK hca hx => ?_) p_law_draw
  obtain ⟨gK, gc, gH, ga⟩ := g
  cases hK; cases hca
  exact qs_cons (qs_par rfl sc.nd rfl rfl (by decide) (qa_cons (pd_ix rfl (pd_var 0) (pd_int) (fun _ _ => rfl)) (qa_cons (pd_add rfl (pd_mod (pd_int1 rfl m_int (qa_cons (pd_ix rfl (pd_var 0) (pd_int) (fun _ _ => rfl)) (qa_nil))) (pd_int)) (pd_int)) (qa_nil))) (fun x => ps_par rfl sc.nd rfl rfl (by decide) rfl rfl x (by rfl))) (qs_cons (qs_asg (pd_add rfl (pd_ix rfl (pd_var 0) (pd_int) (fun _ _ => rfl)) (pd_int)) (qg_put (pd_var 0) (pd_int) (fun x y z => pg_sub x y z))) (qs_cons (qs_asg (pd_mod (pd_int1 rfl m_int (qa_cons (pd_add rfl (pd_add rfl (pd_mul (pd_var 2) (pd_var 3)) (pd_mul (pd_int) (pd_ix rfl (pd_var 0) (pd_int) (fun _ _ => rfl)))) (pd_int)) (qa_nil))) (pd_int)) (qg_put (pd_var 0) (pd_int) (fun x y z => pg_sub x y z))) (qs_cons (qs_if (qt_gt (pd_ix rfl (pd_var 0) (pd_int) (fun _ _ => rfl)) (pd_int)) (qs_cons (qs_asg (pd_divmod rfl m_divmod (qa_cons (pd_ix rfl (pd_var 0) (pd_int) (fun _ _ => rfl)) (qa_cons (pd_var 1) (qa_nil)))) (qg_tup rfl rfl (qgs_cons (qg_put (pd_var 0) (pd_int) (fun x y z => pg_sub x y z)) (qgs_cons (qg_name (i := 4) sc.nd rfl (by first | exact Or.inl rfl | exact Or.inr rfl)) (qgs_nil))))) (qs_one (qs_ret (pd_var 4)))) (qs_nil)) (qs_one (qs_ret (pd_mod (pd_int1 rfl m_int (qa_cons (pd_fdiv (pd_ix rfl (pd_var 0) (pd_int) (fun _ _ => rfl)) (pd_int)) (qa_nil))) (pd_var 1)))))))
theorem f_law_pick {f : Addr} {fd : FuncData} (F : Fun K "_law_pick" "_law_pick" (topS 47) f fd) (hm : mg "_law_pick" = some (.ref f)) (h__law_draw : Fn P w K mg base (L2.CX P w) ca 1 "_law_draw" ["_law_purse_here", "_law_size"] s_law_draw (topS 46)) (m_len : mg "len" = none) : Fn P w K mg base (L2.CX P w) ca 2 "_law_pick" ["_law_purse_here", "_law_menu"] s_law_pick (topS 47) := by
  have sc : FnScope N_law_pick ["_law_purse_here", "_law_menu"] (defScope (topS 47)) := ⟨rfl, rfl, rfl, by decide +kernel, rfl, by decide +kernel, by decide +kernel⟩
  refine Fn.of (t := t_law_pick) F hm (F.binds fun _ _ _ _ _ _ us hl => match us, hl with | [_, _], _ => rfl) sc len_law_pick (fun cdv A outer s H E g Ed hr hgd hK hca hx => ?_) p_law_pick
  obtain ⟨gK, gc, gH, ga⟩ := g
  cases hK; cases hca
  exact qs_one (qs_ret (pd_ix rfl (pd_var 1) (pd_call h__law_draw gs_law_draw rfl (hr.mono (by decide)) hgd rfl hx (qa_cons (pd_var 0) (qa_cons (pd_len rfl rfl m_len (qa_cons (pd_var 1) (qa_nil))) (qa_nil)))) (fun _ _ => rfl)))
theorem f_law_purse {f : Addr} {fd : FuncData} (F : Fun K "_law_purse" "_law_purse" (topS 45) f fd) (hm : mg "_law_purse" = some (.ref f)) (m_int : mg "int" = none) (m_len : mg "len" = none) (m_abs : mg "abs" = none) : Fn P w K mg base (L2.CX P w) ca 1 "_law_purse" ["_law_script", "_law_k"] s_law_purse (topS 45) := by
  have sc : FnScope N_law_purse ["_law_script", "_law_k"] (defScope (topS 45)) := ⟨rfl, rfl, rfl, by decide +kernel, rfl, by decide +kernel, by decide +kernel⟩
  refine Fn.of (t := t_law_purse) F hm (F.binds fun _ _ _ _ _ _ us hl => match us, hl with | [_, _], _ => rfl) sc len_law_purse (fun cdv A outer s H E g Ed hr hgd hK hca hx => ?_) p_law_purse
  obtain ⟨gK, gc, gH, ga⟩ := g
  cases hK; cases hca
  exact qs_cons (qs_if (qt_lt (pd_var 1) (pd_len rfl rfl m_len (qa_cons (pd_var 0) (qa_nil)))) (qs_cons (qs_set (i := 2) sc.nd rfl (by first | exact Or.inl rfl | exact Or.inr rfl) (pd_ix rfl (pd_var 0) (pd_var 1) (fun _ _ => rfl))) (qs_cons (qs_set (i := 3) sc.nd rfl (by first | exact Or.inl rfl | exact Or.inr rfl) (pd_if (QW.qt (qw_or (qt_lt (pd_var 2) (pd_int)) (qw_or1 (qt_ge (pd_var 2) (pd_pow (pd_int) (pd_int)))))) (pd_abs rfl m_abs (qa_cons (pd_var 2) (qa_nil))) (pd_int))) (qs_one (qs_ret (pd_lstM (qa_cons (pd_var 3) (qa_cons (pd_mod (pd_int1 rfl m_int (qa_cons (pd_add rfl (pd_add rfl (pd_mul (pd_var 2) (pd_int)) (pd_mul (pd_int) (pd_var 1))) (pd_int)) (qa_nil))) (pd_int)) (qa_cons (pd_int) (qa_nil))))))))) (qs_nil)) (qs_cons (qs_set (i := 4) sc.nd rfl (by first | exact Or.inl rfl | exact Or.inr rfl) (pd_add rfl (pd_mul (pd_int) (pd_var 1)) (pd_int))) (qs_cons (qs_for (passes_of rfl) rfl (qi_seq rfl (pd_sl rfl (pd_var 0) (qo_none) (qo_some (pd_int)))) (qg_name (i := 2) sc.nd rfl (by first | exact Or.inl rfl | exact Or.inr rfl)) (qs_one (qs_set (i := 4) sc.nd rfl (by first | exact Or.inl rfl | exact Or.inr rfl) (pd_mod (pd_int1 rfl m_int (qa_cons (pd_add rfl (pd_mul (pd_var 4) (pd_int)) (pd_var 2)) (qa_nil))) (pd_int)))) (fun x y z => ps_for (passes_of rfl) rfl x y z)) (qs_one (qs_ret (pd_lstM (qa_cons (pd_int) (qa_cons (pd_var 4) (qa_cons (pd_int) (qa_nil)))))))))
theorem f_law_label {f : Addr} {fd : FuncData} (F : Fun K "_law_label" "_law_label" (topS 48) f fd) (hm : mg "_law_label" = some (.ref f)) (h__law_draw : Fn P w K mg base (L2.CX P w) ca 1 "_law_draw" ["_law_purse_here", "_law_size"] s_law_draw (topS 46)) (h__law_pick : Fn P w K mg base (L2.CX P w) ca 2 "_law_pick" ["_law_purse_here", "_law_menu"] s_law_pick (topS 47)) (m_range : mg "range" = none) : Fn P w K mg base (L2.CX P w) ca 3 "_law_label" ["_law_purse_here"] s_law_label (topS 48) := by
  have sc : FnScope N_law_label ["_law_purse_here"] (defScope (topS 48)) := ⟨rfl, rfl, rfl, by decide +kernel, rfl, by decide +kernel, by decide +kernel⟩
  refine Fn.of (t := t_law_label) F hm (F.binds fun _ _ _ _ _ _ us hl => match us, hl with | [_], _ => rfl) sc len_law_label (fun cdv A outer s H E g Ed hr hgd hK hca hx => ?_) p_law_label
  obtain ⟨gK, gc, gH, ga⟩ := g
  cases hK; cases hca
  exact qs_cons (qs_if (qt_eq rfl hr.units (pd_call h__law_draw gs_law_draw rfl (hr.mono (by decide)) hgd rfl hx (qa_cons (pd_var 0) (qa_cons (pd_int) (qa_nil)))) (pd_int)) (qs_one (qs_ret (pd_call h__law_pick gs_law_pick rfl (hr.mono (by decide)) hgd rfl hx (qa_cons (pd_var 0) (qa_cons (pd_lst (qa_cons (pd_str) (qa_cons (pd_str) (qa_cons (pd_str) (qa_cons (pd_str) (qa_cons (pd_str) (qa_cons (pd_str) (qa_cons (pd_str) (qa_cons (pd_str) (qa_cons (pd_str) (qa_cons (pd_str) (qa_nil)))))))))))) (qa_nil)))))) (qs_nil)) (qs_cons (qs_set (i := 1) sc.nd rfl (by first | exact Or.inl rfl | exact Or.inr rfl) (pd_str)) (qs_cons (qs_set (i := 2) sc.nd rfl (by first | exact Or.inl rfl | exact Or.inr rfl) (pd_ix rfl (pd_var 1) (pd_call h__law_draw gs_law_draw rfl (hr.mono (by decide)) hgd rfl hx (qa_cons (pd_var 0) (qa_cons (pd_int) (qa_nil)))) (fun _ _ => rfl))) (qs_cons (qs_for (passes_of rfl) rfl (qi_range1 rfl m_range (qa_cons (pd_call h__law_draw gs_law_draw rfl (hr.mono (by decide)) hgd rfl hx (qa_cons (pd_var 0) (qa_cons (pd_int) (qa_nil)))) (qa_nil))) (qg_name (i := 3) sc.nd rfl (by first | exact Or.inl rfl | exact Or.inr rfl)) (qs_one (qs_set (i := 2) sc.nd rfl (by first | exact Or.inl rfl | exact Or.inr rfl) (pd_add rfl (pd_var 2) (pd_ix rfl (pd_add rfl (pd_var 1) (pd_str)) (pd_call h__law_draw gs_law_draw rfl (hr.mono (by decide)) hgd rfl hx (qa_cons (pd_var 0) (qa_cons (pd_int) (qa_nil)))) (fun _ _ => rfl))))) (fun x y z => ps_for (passes_of rfl) rfl x y z)) (qs_one (qs_ret (pd_var 2))))))
theorem f_law_labels {f : Addr} {fd : FuncData} (F : Fun K "_law_labels" "_law_labels" (topS 49) f fd) (hm : mg "_law_labels" = some (.ref f)) (h__law_draw : Fn P w K mg base (L2.CX P w) ca 1 "_law_draw" ["_law_purse_here", "_law_size"] s_law_draw (topS 46)) (h__law_pick : Fn P w K mg base (L2.CX P w) ca 2 "_law_pick" ["_law_purse_here", "_law_menu"] s_law_pick (topS 47)) (h__law_label : Fn P w K mg base (L2.CX P w) ca 3 "_law_label" ["_law_purse_here"] s_law_label (topS 48)) (m_range : mg "range" = none) (m_str : mg "str" = none) : Fn P w K mg base (L2.CX P w) ca 4 "_law_labels" ["_law_purse_here", "_law_many"] s_law_labels (topS 49) := by
  have sc : FnScope N_law_labels ["_law_purse_here", "_law_many"] (defScope (topS 49)) := ⟨rfl, rfl, rfl, by decide +kernel, rfl, by decide +kernel, by decide +kernel⟩
  refine Fn.of (t := t_law_labels) F hm (F.binds fun _ _ _ _ _ _ us hl => match us, hl with | [_, _], _ => rfl) sc len_law_labels (fun cdv A outer s H E g Ed hr hgd hK hca hx => ?_) p_law_labels
  obtain ⟨gK, gc, gH, ga⟩ := g
  cases hK; cases hca
  exact qs_cons (qs_set (i := 2) sc.nd rfl (by first | exact Or.inl rfl | exact Or.inr rfl) (pd_lstM (qa_nil))) (qs_cons (qs_for (passes_of rfl) rfl (qi_range1 rfl m_range (qa_cons (pd_var 1) (qa_nil))) (qg_name (i := 3) sc.nd rfl (by first | exact Or.inl rfl | exact Or.inr rfl)) (qs_cons (qs_set (i := 4) sc.nd rfl (by first | exact Or.inl rfl | exact Or.inr rfl) (pd_call h__law_label gs_law_label rfl (hr.mono (by decide)) hgd rfl hx (qa_cons (pd_var 0) (qa_nil)))) (qs_cons (qs_if (QW.qt (qw_and (qt_gt (pd_var 3) (pd_int)) (qw_and1 (qt_eq rfl hr.units (pd_call h__law_draw gs_law_draw rfl (hr.mono (by decide)) hgd rfl hx (qa_cons (pd_var 0) (qa_cons (pd_int) (qa_nil)))) (pd_int))))) (qs_one (qs_set (i := 4) sc.nd rfl (by first | exact Or.inl rfl | exact Or.inr rfl) (pd_sl rfl (pd_add rfl (pd_call h__law_pick gs_law_pick rfl (hr.mono (by decide)) hgd rfl hx (qa_cons (pd_var 0) (qa_cons (pd_var 2) (qa_nil)))) (pd_call h__law_pick gs_law_pick rfl (hr.mono (by decide)) hgd rfl hx (qa_cons (pd_var 0) (qa_cons (pd_lst (qa_cons (pd_str) (qa_cons (pd_str) (qa_cons (pd_str) (qa_cons (pd_str) (qa_nil)))))) (qa_nil))))) (qo_none) (qo_some (pd_int))))) (qs_nil)) (qs_cons (qs_set (i := 5) sc.nd rfl (by first | exact Or.inl rfl | exact Or.inr rfl) (pd_add rfl (pd_lst (qa_cons (pd_var 4) (qa_nil))) (pd_lc (own := [("_law_j", 6)]) (ws := [6]) rfl sc.nd (qi_range1 rfl m_range (qa_cons (pd_var 1) (qa_nil))) (blkOk_by (N := N_law_labels) (sc := defScope (topS 49)) (own := [("_law_j", 6)]) (by decide +kernel)) (by decide) (fun s H C cl fp g' e1 e2 => by obtain ⟨gK, gc, gH, ga⟩ := g'; cases e1; cases e2; exact qg_name (i := 6) sc.nd rfl (by first | exact Or.inl rfl | exact Or.inr rfl)) (fun s H C cl fp g' e1 e2 => by obtain ⟨gK, gc, gH, ga⟩ := g'; cases e1; cases e2; exact qts_nil) (fun s H C cl fp g' e1 e2 => by obtain ⟨gK, gc, gH, ga⟩ := g'; cases e1; cases e2; exact pd_add rfl (pd_sl rfl (pd_var 4) (qo_none) (qo_some (pd_int))) (pd_str1 rfl m_str (qa_cons (pd_add rfl (pd_int) (pd_var 6)) (qa_nil))))))) (qs_one (qs_expr (pd_append (pd_var 2) (qa_cons (pd_ix rfl (pd_lc (own := [("_law_each", 7)]) (ws := [7]) rfl sc.nd (qi_seq rfl (pd_var 5)) (blkOk_by (N := N_law_labels) (sc := defScope (topS 49)) (own := [("_law_each", 7)]) (by decide +kernel)) (by decide) (fun s H C cl fp g' e1 e2 => by obtain ⟨gK, gc, gH, ga⟩ := g'; cases e1; cases e2; exact qg_name (i := 7) sc.nd rfl (by first | exact Or.inl rfl | exact Or.inr rfl)) (fun s H C cl fp g' e1 e2 => by obtain ⟨gK, gc, gH, ga⟩ := g'; cases e1; cases e2; exact qts_one (qt_notin rfl (pd_var 7) (pd_var 2))) (fun s H C cl fp g' e1 e2 => by obtain ⟨gK, gc, gH, ga⟩ := g'; cases e1; cases e2; exact pd_var 7)) (pd_int) (fun _ _ => rfl)) (qa_nil)) rfl (fun x y => pe_bm PySem.F.plainAttrs_list PySem.F.slot_list_append PySem.F.type_list_append mt_append x y))))))) (fun x y z => ps_for (passes_of rfl) rfl x y z)) (qs_one (qs_ret (pd_var 2))))
theorem fis_integer {f : Addr} {fd : FuncData} (F : Fun K "is_integer" "is_integer" (topS 11) f fd) (hm : mg "is_integer" = some (.ref f)) (m_isinstance : mg "isinstance" = none) (m_int : mg "int" = none) (m_bool : mg "bool" = none) : Fn P w K mg base (L2.CX P w) ca 1 "is_integer" ["value"] sis_integer (topS 11) := by
  have sc : FnScope Nis_integer ["value"] (defScope (topS 11)) := ⟨rfl, rfl, rfl, by decide +kernel, rfl, by decide +kernel, by decide +kernel⟩
  refine Fn.of (t := tis_integer) F hm (F.binds fun _ _ _ _ _ _ us hl => match us, hl with | [_], _ => rfl) sc lenis_integer (fun cdv A outer s H E g Ed hr hgd hK hca hx => ?_) pis_integer
  obtain ⟨gK, gc, gH, ga⟩ := g
  cases hK; cases hca
  exact qs_one (qs_ret (pd_and (pd_isi .int rfl rfl m_isinstance rfl m_int (by decide +kernel) (pd_var 0)) (pd_one (pd_not (pd_isi .bool rfl rfl m_isinstance rfl m_bool (by decide +kernel) (pd_var 0))))))
theorem fis_number {f : Addr} {fd : FuncData} (F : Fun K "is_number" "is_number" (topS 14) f fd) (hm : mg "is_number" = some (.ref f)) (h_is_integer : Fn P w K mg base (L2.CX P w) ca 1 "is_integer" ["value"] sis_integer (topS 11)) (c_MOST_NUMBER : ∃ t, mg "MOST_NUMBER" = some (.int (1000000000000000) t)) : Fn P w K mg base (L2.CX P w) ca 2 "is_number" ["value"] sis_number (topS 14) := by
  have sc : FnScope Nis_number ["value"] (defScope (topS 14)) := ⟨rfl, rfl, rfl, by decide +kernel, rfl, by decide +kernel, by decide +kernel⟩
  refine Fn.of (t := tis_number) F hm (F.binds fun _ _ _ _ _ _ us hl => match us, hl with | [_], _ => rfl) sc lenis_number (fun cdv A outer s H E g Ed hr hgd hK hca hx => ?_) pis_number
  obtain ⟨gK, gc, gH, ga⟩ := g
  cases hK; cases hca
  exact qs_one (qs_ret (pd_and (pd_call h_is_integer gsis_integer rfl (hr.mono (by decide)) hgd rfl hx (qa_cons (pd_var 0) (qa_nil))) (pd_one (pd_lele (pd_int) (pd_var 0) (pd_gint rfl c_MOST_NUMBER)))))
theorem fare_points {f : Addr} {fd : FuncData} (F : Fun K "are_points" "are_points" (topS 15) f fd) (hm : mg "are_points" = some (.ref f)) (h_is_integer : Fn P w K mg base (L2.CX P w) ca 1 "is_integer" ["value"] sis_integer (topS 11)) : Fn P w K mg base (L2.CX P w) ca 2 "are_points" ["value"] sare_points (topS 15) := by
  have sc : FnScope Nare_points ["value"] (defScope (topS 15)) := ⟨rfl, rfl, rfl, by decide +kernel, rfl, by decide +kernel, by decide +kernel⟩
  refine Fn.of (t := tare_points) F hm (F.binds fun _ _ _ _ _ _ us hl => match us, hl with | [_], _ => rfl) sc lenare_points (fun cdv A outer s H E g Ed hr hgd hK hca hx => ?_) pare_points
  obtain ⟨gK, gc, gH, ga⟩ := g
  cases hK; cases hca
  exact qs_one (qs_ret (pd_and (pd_call h_is_integer gsis_integer rfl (hr.mono (by decide)) hgd rfl hx (qa_cons (pd_var 0) (qa_nil))) (pd_one (pd_ge (pd_var 0) (pd_int)))))
theorem fnumber {f : Addr} {fd : FuncData} (F : Fun K "number" "number" (topS 22) f fd) (hm : mg "number" = some (.ref f)) (c_TEN : ∃ t, mg "TEN" = some (.int (10) t)) : Fn P w K mg base (L2.CX P w) ca 1 "number" ["word", "members"] snumber (topS 22) := by
  have sc : FnScope Nnumber ["word", "members"] (defScope (topS 22)) := ⟨rfl, rfl, rfl, by decide +kernel, rfl, by decide +kernel, by decide +kernel⟩
  refine Fn.of (t := tnumber) F hm (F.binds fun _ _ _ _ _ _ us hl => match us, hl with | [_, _], _ => rfl) sc lennumber (fun cdv A outer s H E g Ed hr hgd hK hca hx => ?_) pnumber
  obtain ⟨gK, gc, gH, ga⟩ := g
  cases hK; cases hca
  exact qs_one (qs_ret (pd_add rfl (pd_fdiv (pd_mul (pd_ix rfl (pd_var 0) (pd_int) (fun _ _ => rfl)) (pd_var 1)) (pd_gint rfl c_TEN)) (pd_ix rfl (pd_var 0) (pd_int) (fun _ _ => rfl))))
theorem fis_name {f : Addr} {fd : FuncData} (F : Fun K "is_name" "is_name" (topS 12) f fd) (hm : mg "is_name" = some (.ref f)) (m_all : mg "all" = none) (m_isinstance : mg "isinstance" = none) (m_str : mg "str" = none) (m_len : mg "len" = none) (c_LETTERS : ∃ t, mg "LETTERS" = some (.str "abcdefghijklmnopqrstuvwxyz" t)) (c_DIGITS : ∃ t, mg "DIGITS" = some (.str "0123456789" t)) (c_LONGEST_NAME : ∃ t, mg "LONGEST_NAME" = some (.int (8) t)) : Fn P w K mg base (L2.CX P w) ca 1 "is_name" ["value"] sis_name (topS 12) := by
  have sc : FnScope Nis_name ["value"] (defScope (topS 12)) := ⟨rfl, rfl, rfl, by decide +kernel, rfl, by decide +kernel, by decide +kernel⟩
  refine Fn.of (t := tis_name) F hm (F.binds fun _ _ _ _ _ _ us hl => match us, hl with | [_], _ => rfl) sc lenis_name (fun cdv A outer s H E g Ed hr hgd hK hca hx => ?_) pis_name
  obtain ⟨gK, gc, gH, ga⟩ := g
  cases hK; cases hca
  exact qs_cons (qs_if (QW.qt (qw_or (qt_not (qt_val (pd_isi .str rfl rfl m_isinstance rfl m_str (by decide +kernel) (pd_var 0)))) (qw_or1 (qt_not (qt_lele (pd_int) (pd_len rfl rfl m_len (qa_cons (pd_var 0) (qa_nil))) (pd_gint rfl c_LONGEST_NAME)))))) (qs_one (qs_ret (pd_bl))) (qs_nil)) (qs_one (qs_ret (pd_and (pd_in rfl (pd_ix rfl (pd_var 0) (pd_int) (fun _ _ => rfl)) (pd_gstr rfl c_LETTERS)) (pd_one (pd_all rfl rfl rfl m_all (qa_cons (pd_lc (own := [("sign", 1)]) (ws := [1]) rfl sc.nd (qi_str (pd_var 0)) (blkOk_by (N := Nis_name) (sc := defScope (topS 12)) (own := [("sign", 1)]) (by decide +kernel)) (by decide) (fun s H C cl fp g' e1 e2 => by obtain ⟨gK, gc, gH, ga⟩ := g'; cases e1; cases e2; exact qg_name (i := 1) sc.nd rfl (by first | exact Or.inl rfl | exact Or.inr rfl)) (fun s H C cl fp g' e1 e2 => by obtain ⟨gK, gc, gH, ga⟩ := g'; cases e1; cases e2; exact qts_nil) (fun s H C cl fp g' e1 e2 => by obtain ⟨gK, gc, gH, ga⟩ := g'; cases e1; cases e2; exact pd_in rfl (pd_var 1) (pd_add rfl (pd_gstr rfl c_LETTERS) (pd_gstr rfl c_DIGITS)))) (qa_nil)))))))
theorem fmember_of {f : Addr} {fd : FuncData} (F : Fun K "member_of" "member_of" (topS 42) f fd) (hm : mg "member_of" = some (.ref f)) (m_sum : mg "sum" = none) (m_dict : mg "dict" = none) : Fn P w K mg base (L2.CX P w) ca 1 "member_of" ["group", "points"] smember_of (topS 42) := by
  have sc : FnScope Nmember_of ["group", "points"] (defScope (topS 42)) := ⟨rfl, rfl, rfl, by decide +kernel, rfl, by decide +kernel, by decide +kernel⟩
  refine Fn.of (t := tmember_of) F hm (F.binds fun _ _ _ _ _ _ us hl => match us, hl with | [_, _], _ => rfl) sc lenmember_of (fun cdv A outer s H E g Ed hr hgd hK hca hx => ?_) pmember_of
  obtain ⟨gK, gc, gH, ga⟩ := g
  cases hK; cases hca
  exact qs_cons (qs_set (i := 2) sc.nd rfl (by first | exact Or.inl rfl | exact Or.inr rfl) (pd_sum rfl rfl rfl m_sum (qa_cons (pd_lc (own := [("other", 3), ("members", 4)]) (ws := [3, 4]) rfl sc.nd (qi_seq rfl (pd_var 0)) (blkOk_by (N := Nmember_of) (sc := defScope (topS 42)) (own := [("other", 3), ("members", 4)]) (by decide +kernel)) (by decide) (fun s H C cl fp g' e1 e2 => by obtain ⟨gK, gc, gH, ga⟩ := g'; cases e1; cases e2; exact qg_tup rfl rfl (qgs_cons (qg_name (i := 3) sc.nd rfl (by first | exact Or.inl rfl | exact Or.inr rfl)) (qgs_cons (qg_name (i := 4) sc.nd rfl (by first | exact Or.inl rfl | exact Or.inr rfl)) (qgs_nil)))) (fun s H C cl fp g' e1 e2 => by obtain ⟨gK, gc, gH, ga⟩ := g'; cases e1; cases e2; exact qts_one (qt_gt (pd_var 3) (pd_var 1))) (fun s H C cl fp g' e1 e2 => by obtain ⟨gK, gc, gH, ga⟩ := g'; cases e1; cases e2; exact pd_var 4)) (qa_nil)))) (qs_one (qs_ret (pd_disp (QPs.cons (fun g' e1 e2 => by obtain ⟨gK, gc, gH, ga⟩ := g'; cases e1; cases e2; exact pd_str) (fun g' e1 e2 => by obtain ⟨gK, gc, gH, ga⟩ := g'; cases e1; cases e2; exact pd_var 1) (QPs.cons (fun g' e1 e2 => by obtain ⟨gK, gc, gH, ga⟩ := g'; cases e1; cases e2; exact pd_str) (fun g' e1 e2 => by obtain ⟨gK, gc, gH, ga⟩ := g'; cases e1; cases e2; exact pd_var 2) (QPs.cons (fun g' e1 e2 => by obtain ⟨gK, gc, gH, ga⟩ := g'; cases e1; cases e2; exact pd_str) (fun g' e1 e2 => by obtain ⟨gK, gc, gH, ga⟩ := g'; cases e1; cases e2; exact pd_add rfl (pd_var 2) (pd_get (hr.mono (Nat.le_refl _)) (pd_dict rfl rfl rfl m_dict (qa_cons (pd_var 0) (qa_nil))) (pd_var 1) (fun _ _ => rfl))) (QPs.cons (fun g' e1 e2 => by obtain ⟨gK, gc, gH, ga⟩ := g'; cases e1; cases e2; exact pd_str) (fun g' e1 e2 => by obtain ⟨gK, gc, gH, ga⟩ := g'; cases e1; cases e2; exact pd_sum rfl rfl rfl m_sum (qa_cons (pd_lc (own := [("other", 3), ("members", 4)]) (ws := [3, 4]) rfl sc.nd (qi_seq rfl (pd_var 0)) (blkOk_by (N := Nmember_of) (sc := defScope (topS 42)) (own := [("other", 3), ("members", 4)]) (by decide +kernel)) (by decide) (fun s H C cl fp g' e1 e2 => by obtain ⟨gK, gc, gH, ga⟩ := g'; cases e1; cases e2; exact qg_tup rfl rfl (qgs_cons (qg_name (i := 3) sc.nd rfl (by first | exact Or.inl rfl | exact Or.inr rfl)) (qgs_cons (qg_name (i := 4) sc.nd rfl (by first | exact Or.inl rfl | exact Or.inr rfl)) (qgs_nil)))) (fun s H C cl fp g' e1 e2 => by obtain ⟨gK, gc, gH, ga⟩ := g'; cases e1; cases e2; exact qts_nil) (fun s H C cl fp g' e1 e2 => by obtain ⟨gK, gc, gH, ga⟩ := g'; cases e1; cases e2; exact pd_var 4)) (qa_nil))) (QPs.nil))))))))
theorem fCondition_init {f : Addr} {fd : FuncData} (F : Fun K "__init__" "Condition.__init__" (mthS 20 0) f fd) (hm : L2.Mk K (ca "Condition") f) (gl : mg "Condition" = some (.ref (ca "Condition"))) (cl_Condition : Cls K (ca "Condition")) (na_Condition_word : NoAttr K (ca "Condition") "word") (na_Condition_is_at_most : NoAttr K (ca "Condition") "is_at_most") (na_Condition_quantity : NoAttr K (ca "Condition") "quantity") : Fc P w K mg base (L2.CX P w) ca 1 "Condition" ["self", "quantity", "is_at_most", "word"] sCondition_init (mthS 20 0) := by
  have sc : FnScope NCondition_init ["self", "quantity", "is_at_most", "word"] (defScope (mthS 20 0)) := ⟨rfl, rfl, rfl, by decide +kernel, rfl, by decide +kernel, by decide +kernel⟩
  refine ⟨gl, f, fd, hm, (F.binds fun _ _ _ _ _ _ us hl => match us, hl with | [_, _, _, _], _ => rfl), FnG.of (t := tCondition_init) F sc lenCondition_init (fun cdv A outer s H E g Ed hr hgd hK hca hx => ?_) pCondition_init, _, F⟩
  obtain ⟨gK, gc, gH, ga⟩ := g
  cases hK; cases hca
  exact qs_cons (qs_new (c := "Condition") (ks := []) rfl cl_Condition na_Condition_quantity (pd_var 0) (pd_var 1)) (qs_cons (qs_new (c := "Condition") (ks := ["quantity"]) rfl cl_Condition na_Condition_is_at_most (pd_var 0) (pd_var 2)) (qs_one (qs_new (c := "Condition") (ks := ["quantity", "is_at_most"]) rfl cl_Condition na_Condition_word (pd_var 0) (pd_var 3))))
theorem fRow_init {f : Addr} {fd : FuncData} (F : Fun K "__init__" "Row.__init__" (mthS 21 0) f fd) (hm : L2.Mk K (ca "Row") f) (gl : mg "Row" = some (.ref (ca "Row"))) (cl_Row : Cls K (ca "Row")) (na_Row_told : NoAttr K (ca "Row") "told") (na_Row_conditions : NoAttr K (ca "Row") "conditions") : Fc P w K mg base (L2.CX P w) ca 1 "Row" ["self", "conditions", "told"] sRow_init (mthS 21 0) := by
  have sc : FnScope NRow_init ["self", "conditions", "told"] (defScope (mthS 21 0)) := ⟨rfl, rfl, rfl, by decide +kernel, rfl, by decide +kernel, by decide +kernel⟩
  refine ⟨gl, f, fd, hm, (F.binds fun _ _ _ _ _ _ us hl => match us, hl with | [_, _, _], _ => rfl), FnG.of (t := tRow_init) F sc lenRow_init (fun cdv A outer s H E g Ed hr hgd hK hca hx => ?_) pRow_init, _, F⟩
  obtain ⟨gK, gc, gH, ga⟩ := g
  cases hK; cases hca
  exact qs_cons (qs_new (c := "Row") (ks := []) rfl cl_Row na_Row_conditions (pd_var 0) (pd_var 1)) (qs_one (qs_new (c := "Row") (ks := ["conditions"]) rfl cl_Row na_Row_told (pd_var 0) (pd_var 2)))
theorem fCondition_holds {f : Addr} {fd : FuncData} (F : Fun K "holds" "Condition.holds" (mthS 20 2) f fd) (hm : Meth K (ca "Condition") "holds" f) (cl_Condition : Cls K (ca "Condition")) (h_number : Fn P w K mg base (L2.CX P w) ca 1 "number" ["word", "members"] snumber (topS 22)) (na_Condition_quantity : NoAttr K (ca "Condition") "quantity") (na_Condition_word : NoAttr K (ca "Condition") "word") (na_Condition_is_at_most : NoAttr K (ca "Condition") "is_at_most") : Fm P w K mg base (L2.CX P w) ca 2 "Condition" "holds" ["self", "member"] sCondition_holds (mthS 20 2) := by
  have sc : FnScope NCondition_holds ["self", "member"] (defScope (mthS 20 2)) := ⟨rfl, rfl, rfl, by decide +kernel, rfl, by decide +kernel, by decide +kernel⟩
  refine ⟨cl_Condition, f, fd, hm, (F.binds fun _ _ _ _ _ _ us hl => match us, hl with | [_, _], _ => rfl), FnG.of (t := tCondition_holds) F sc lenCondition_holds (fun cdv A outer s H E g Ed hr hgd hK hca hx => ?_) pCondition_holds, _, F⟩
  obtain ⟨gK, gc, gH, ga⟩ := g
  cases hK; cases hca
  exact qs_one (qs_ret (pd_eq rfl hr.units (pd_le (pd_get (hr.mono (Nat.le_refl _)) (pd_var 1) (pd_at (c := "Condition") (ks := ksCondition) (i := 0) rfl cl_Condition na_Condition_quantity (pd_var 0)) (fun _ _ => rfl)) (pd_call h_number gsnumber rfl (hr.mono (by decide)) hgd rfl hx (qa_cons (pd_at (c := "Condition") (ks := ksCondition) (i := 2) rfl cl_Condition na_Condition_word (pd_var 0)) (qa_cons (pd_get (hr.mono (Nat.le_refl _)) (pd_var 1) (pd_str) (fun _ _ => rfl)) (qa_nil))))) (pd_at (c := "Condition") (ks := ksCondition) (i := 1) rfl cl_Condition na_Condition_is_at_most (pd_var 0))))
theorem fRow_holds {f : Addr} {fd : FuncData} (F : Fun K "holds" "Row.holds" (mthS 21 1) f fd) (hm : Meth K (ca "Row") "holds" f) (cl_Row : Cls K (ca "Row")) (h_Condition_holds : Fm P w K mg base (L2.CX P w) ca 2 "Condition" "holds" ["self", "member"] sCondition_holds (mthS 20 2)) (m_all : mg "all" = none) (na_Row_conditions : NoAttr K (ca "Row") "conditions") : Fm P w K mg base (L2.CX P w) ca 3 "Row" "holds" ["self", "member"] sRow_holds (mthS 21 1) := by
  have sc : FnScope NRow_holds ["self", "member"] (defScope (mthS 21 1)) := ⟨rfl, rfl, rfl, by decide +kernel, rfl, by decide +kernel, by decide +kernel⟩
  refine ⟨cl_Row, f, fd, hm, (F.binds fun _ _ _ _ _ _ us hl => match us, hl with | [_, _], _ => rfl), FnG.of (t := tRow_holds) F sc lenRow_holds (fun cdv A outer s H E g Ed hr hgd hK hca hx => ?_) pRow_holds, _, F⟩
  obtain ⟨gK, gc, gH, ga⟩ := g
  cases hK; cases hca
  exact qs_one (qs_ret (pd_all rfl rfl rfl m_all (qa_cons (pd_lc (own := [("condition", 2)]) (ws := [2]) rfl sc.nd (qi_seq rfl (pd_at (c := "Row") (ks := ksRow) (i := 0) rfl cl_Row na_Row_conditions (pd_var 0))) (blkOk_by (N := NRow_holds) (sc := defScope (mthS 21 1)) (own := [("condition", 2)]) (by decide +kernel)) (by decide) (fun s H C cl fp g' e1 e2 => by obtain ⟨gK, gc, gH, ga⟩ := g'; cases e1; cases e2; exact qg_name (i := 2) sc.nd rfl (by first | exact Or.inl rfl | exact Or.inr rfl)) (fun s H C cl fp g' e1 e2 => by obtain ⟨gK, gc, gH, ga⟩ := g'; cases e1; cases e2; exact qts_nil) (fun s H C cl fp g' e1 e2 => by obtain ⟨gK, gc, gH, ga⟩ := g'; cases e1; cases e2; exact pd_meth (ks := ksCondition) h_Condition_holds gsCondition_holds rfl (hr.mono (by decide)) hgd px_no (pd_var 2) (qa_cons (pd_var 1) (qa_nil)))) (qa_nil))))
theorem fRule_grade_of {f : Addr} {fd : FuncData} (F : Fun K "grade_of" "Rule.grade_of" (mthS 43 10) f fd) (hm : Meth K (ca "Rule") "grade_of" f) (cl_Rule : Cls K (ca "Rule")) (h_Row_holds : Fm P w K mg base (L2.CX P w) ca 3 "Row" "holds" ["self", "member"] sRow_holds (mthS 21 1)) (na_Rule_parsed : NoAttr K (ca "Rule") "parsed") (cl_Row : Cls K (ca "Row")) (na_Row_told : NoAttr K (ca "Row") "told") : Fm P w K mg base (L2.CX P w) ca 4 "Rule" "grade_of" ["self", "member"] sRule_grade_of (mthS 43 10) := by
  have sc : FnScope NRule_grade_of ["self", "member"] (defScope (mthS 43 10)) := ⟨rfl, rfl, rfl, by decide +kernel, rfl, by decide +kernel, by decide +kernel⟩
  refine ⟨cl_Rule, f, fd, hm, (F.binds fun _ _ _ _ _ _ us hl => match us, hl with | [_, _], _ => rfl), FnG.of (t := tRule_grade_of) F sc lenRule_grade_of (fun cdv A outer s H E g Ed hr hgd hK hca hx => ?_) pRule_grade_of, _, F⟩
  obtain ⟨gK, gc, gH, ga⟩ := g
  cases hK; cases hca
  exact qs_one (qs_ret (pd_ix rfl (pd_lc (own := [("row", 2)]) (ws := [2]) rfl sc.nd (qi_seq rfl (pd_at (c := "Rule") (ks := ksRule) (i := 0) rfl cl_Rule na_Rule_parsed (pd_var 0))) (blkOk_by (N := NRule_grade_of) (sc := defScope (mthS 43 10)) (own := [("row", 2)]) (by decide +kernel)) (by decide) (fun s H C cl fp g' e1 e2 => by obtain ⟨gK, gc, gH, ga⟩ := g'; cases e1; cases e2; exact qg_name (i := 2) sc.nd rfl (by first | exact Or.inl rfl | exact Or.inr rfl)) (fun s H C cl fp g' e1 e2 => by obtain ⟨gK, gc, gH, ga⟩ := g'; cases e1; cases e2; exact qts_one (qt_val (pd_meth (ks := ksRow) h_Row_holds gsRow_holds rfl (hr.mono (by decide)) hgd px_no (pd_var 2) (qa_cons (pd_var 1) (qa_nil))))) (fun s H C cl fp g' e1 e2 => by obtain ⟨gK, gc, gH, ga⟩ := g'; cases e1; cases e2; exact pd_at (c := "Row") (ks := ksRow) (i := 1) rfl cl_Row na_Row_told (pd_var 2))) (pd_int) (fun _ _ => rfl)))
theorem fwritten {f : Addr} {fd : FuncData} (F : Fun K "written" "written" (topS 13) f fd) (hm : mg "written" = some (.ref f)) (m_int : mg "int" = none) (m_len : mg "len" = none) (m_all : mg "all" = none) (c_MOST_WRITTEN : ∃ t, mg "MOST_WRITTEN" = some (.int (1000000000000) t)) (c_LONGEST_WRITTEN : ∃ t, mg "LONGEST_WRITTEN" = some (.int (13) t)) (c_DIGITS : ∃ t, mg "DIGITS" = some (.str "0123456789" t)) : Fn P w K mg base (L2.CX P w) ca 1 "written" ["text"] swritten (topS 13) := by
  have sc : FnScope Nwritten ["text"] (defScope (topS 13)) := ⟨rfl, rfl, rfl, by decide +kernel, rfl, by decide +kernel, by decide +kernel⟩
  refine Fn.of (t := twritten) F hm (F.binds fun _ _ _ _ _ _ us hl => match us, hl with | [_], _ => rfl) sc lenwritten (fun cdv A outer s H E g Ed hr hgd hK hca hx => ?_) pwritten
  obtain ⟨gK, gc, gH, ga⟩ := g
  cases hK; cases hca
  exact qs_cons (qs_if (QW.qt (qw_or (qt_not (qt_lele (pd_int) (pd_len rfl rfl m_len (qa_cons (pd_var 0) (qa_nil))) (pd_gint rfl c_LONGEST_WRITTEN))) (qw_or1 (qt_not (qt_val (pd_all rfl rfl rfl m_all (qa_cons (pd_lc (own := [("sign", 1)]) (ws := [1]) rfl sc.nd (qi_str (pd_var 0)) (blkOk_by (N := Nwritten) (sc := defScope (topS 13)) (own := [("sign", 1)]) (by decide +kernel)) (by decide) (fun s H C cl fp g' e1 e2 => by obtain ⟨gK, gc, gH, ga⟩ := g'; cases e1; cases e2; exact qg_name (i := 1) sc.nd rfl (by first | exact Or.inl rfl | exact Or.inr rfl)) (fun s H C cl fp g' e1 e2 => by obtain ⟨gK, gc, gH, ga⟩ := g'; cases e1; cases e2; exact qts_nil) (fun s H C cl fp g' e1 e2 => by obtain ⟨gK, gc, gH, ga⟩ := g'; cases e1; cases e2; exact pd_in rfl (pd_var 1) (pd_gstr rfl c_DIGITS))) (qa_nil)))))))) (qs_one (qs_ret (pd_non))) (qs_nil)) (qs_cons (qs_if (QW.qt (qw_or (QW.qt (qw_and (qt_eq rfl hr.units (pd_ix rfl (pd_var 0) (pd_int) (fun _ _ => rfl)) (pd_str)) (qw_and1 (qt_gt (pd_len rfl rfl m_len (qa_cons (pd_var 0) (qa_nil))) (pd_int))))) (qw_or1 (qt_gt (pd_int1 rfl m_int (qa_cons (pd_var 0) (qa_nil))) (pd_gint rfl c_MOST_WRITTEN))))) (qs_one (qs_ret (pd_non))) (qs_nil)) (qs_one (qs_ret (pd_int1 rfl m_int (qa_cons (pd_var 0) (qa_nil))))))
theorem fparsed_base {f : Addr} {fd : FuncData} (F : Fun K "parsed_base" "parsed_base" (topS 23) f fd) (hm : mg "parsed_base" = some (.ref f)) (m_len : mg "len" = none) (m_int : mg "int" = none) (c_TEN : ∃ t, mg "TEN" = some (.int (10) t)) : Fn P w K mg base (L2.CX P w) ca 1 "parsed_base" ["text"] sparsed_base (topS 23) := by
  have sc : FnScope Nparsed_base ["text"] (defScope (topS 23)) := ⟨rfl, rfl, rfl, by decide +kernel, rfl, by decide +kernel, by decide +kernel⟩
  refine Fn.of (t := tparsed_base) F hm (F.binds fun _ _ _ _ _ _ us hl => match us, hl with | [_], _ => rfl) sc lenparsed_base (fun cdv A outer s H E g Ed hr hgd hK hca hx => ?_) pparsed_base
  obtain ⟨gK, gc, gH, ga⟩ := g
  cases hK; cases hca
  exact qs_cons (qs_if (qt_eq rfl hr.units (pd_var 0) (pd_str)) (qs_one (qs_ret (pd_gint rfl c_TEN))) (qs_nil)) (qs_cons (qs_asg (pd_partition (pd_var 0) (qa_cons (pd_str) (qa_nil)) (fun m x y => pe_bm PySem.F.plainAttrs_str PySem.F.slot_str_partition PySem.F.type_str_partition m x y)) (qg_tup rfl rfl (qgs_cons (qg_name (i := 1) sc.nd rfl (by first | exact Or.inl rfl | exact Or.inr rfl)) (qgs_cons (qg_name (i := 2) sc.nd rfl (by first | exact Or.inl rfl | exact Or.inr rfl)) (qgs_cons (qg_name (i := 3) sc.nd rfl (by first | exact Or.inl rfl | exact Or.inr rfl)) (qgs_nil)))))) (qs_cons (qs_if (QW.qt (qw_and (qt_eq rfl hr.units (pd_len rfl rfl m_len (qa_cons (pd_var 1) (qa_nil))) (pd_int)) (qw_and (qt_in rfl (pd_var 1) (pd_str)) (qw_and (qt_eq rfl hr.units (pd_var 2) (pd_str)) (qw_and1 (qt_eq rfl hr.units (pd_var 3) (pd_str))))))) (qs_one (qs_ret (pd_int1 rfl m_int (qa_cons (pd_var 1) (qa_nil))))) (qs_nil)) (qs_one (qs_ret (pd_non)))))
theorem fparsed_word {f : Addr} {fd : FuncData} (F : Fun K "parsed_word" "parsed_word" (topS 24) f fd) (hm : mg "parsed_word" = some (.ref f)) (h_written : Fn P w K mg base (L2.CX P w) ca 1 "written" ["text"] swritten (topS 13)) (h_parsed_base : Fn P w K mg base (L2.CX P w) ca 1 "parsed_base" ["text"] sparsed_base (topS 23)) (c_TEN : ∃ t, mg "TEN" = some (.int (10) t)) : Fn P w K mg base (L2.CX P w) ca 2 "parsed_word" ["text"] sparsed_word (topS 24) := by
  have sc : FnScope Nparsed_word ["text"] (defScope (topS 24)) := ⟨rfl, rfl, rfl, by decide +kernel, rfl, by decide +kernel, by decide +kernel⟩
  refine Fn.of (t := tparsed_word) F hm (F.binds fun _ _ _ _ _ _ us hl => match us, hl with | [_], _ => rfl) sc lenparsed_word (fun cdv A outer s H E g Ed hr hgd hK hca hx => ?_) pparsed_word
  obtain ⟨gK, gc, gH, ga⟩ := g
  cases hK; cases hca
  exact qs_cons (qs_set (i := 1) sc.nd rfl (by first | exact Or.inl rfl | exact Or.inr rfl) (pd_call h_written gswritten rfl (hr.mono (by decide)) hgd rfl hx (qa_cons (pd_var 0) (qa_nil)))) (qs_cons (qs_if (qt_notN (pd_var 1) (pd_non)) (qs_one (qs_ret (pd_tup (qa_cons (pd_int) (qa_cons (pd_var 1) (qa_nil)))))) (qs_nil)) (qs_cons (qs_if (qt_notN (pd_call h_parsed_base gsparsed_base rfl (hr.mono (by decide)) hgd rfl hx (qa_cons (pd_var 0) (qa_nil))) (pd_non)) (qs_one (qs_ret (pd_tup (qa_cons (pd_call h_parsed_base gsparsed_base rfl (hr.mono (by decide)) hgd rfl hx (qa_cons (pd_var 0) (qa_nil))) (qa_cons (pd_int) (qa_nil)))))) (qs_nil)) (qs_cons (qs_for (passes_of rfl) rfl (qi_seq rfl (pd_tup (qa_cons (pd_tup (qa_cons (pd_str) (qa_cons (pd_int) (qa_nil)))) (qa_cons (pd_tup (qa_cons (pd_str) (qa_cons (pd_neg (pd_int)) (qa_nil)))) (qa_nil))))) (qg_tup rfl rfl (qgs_cons (qg_name (i := 2) sc.nd rfl (by first | exact Or.inl rfl | exact Or.inr rfl)) (qgs_cons (qg_name (i := 3) sc.nd rfl (by first | exact Or.inl rfl | exact Or.inr rfl)) (qgs_nil)))) (qs_cons (qs_asg (pd_partition (pd_var 0) (qa_cons (pd_var 2) (qa_nil)) (fun m x y => pe_bm PySem.F.plainAttrs_str PySem.F.slot_str_partition PySem.F.type_str_partition m x y)) (qg_tup rfl rfl (qgs_cons (qg_name (i := 4) sc.nd rfl (by first | exact Or.inl rfl | exact Or.inr rfl)) (qgs_cons (qg_name (i := 5) sc.nd rfl (by first | exact Or.inl rfl | exact Or.inr rfl)) (qgs_cons (qg_name (i := 6) sc.nd rfl (by first | exact Or.inl rfl | exact Or.inr rfl)) (qgs_nil)))))) (qs_cons (qs_par rfl sc.nd rfl rfl (by decide) (qa_cons (pd_call h_parsed_base gsparsed_base rfl (hr.mono (by decide)) hgd rfl hx (qa_cons (pd_var 4) (qa_nil))) (qa_cons (pd_call h_written gswritten rfl (hr.mono (by decide)) hgd rfl hx (qa_cons (pd_var 6) (qa_nil))) (qa_nil))) (fun x => ps_par rfl sc.nd rfl rfl (by decide) rfl rfl x (by rfl))) (qs_one (qs_if (QW.qt (qw_and (qt_eq rfl hr.units (pd_var 5) (pd_var 2)) (qw_and (qt_notN (pd_var 7) (pd_non)) (qw_and (qt_notN (pd_var 1) (pd_non)) (qw_and1 (QW.qt (qw_or (qt_eq rfl hr.units (pd_var 2) (pd_str)) (qw_or1 (qt_lt (pd_var 7) (pd_gint rfl c_TEN)))))))))) (qs_one (qs_ret (pd_tup (qa_cons (pd_var 7) (qa_cons (pd_mul (pd_var 3) (pd_var 1)) (qa_nil)))))) (qs_nil))))) (fun x y z => ps_for (passes_of rfl) rfl x y z)) (qs_one (qs_ret (pd_non))))))
theorem fparsed_condition {f : Addr} {fd : FuncData} (F : Fun K "parsed_condition" "parsed_condition" (topS 25) f fd) (hm : mg "parsed_condition" = some (.ref f)) (h_parsed_word : Fn P w K mg base (L2.CX P w) ca 2 "parsed_word" ["text"] sparsed_word (topS 24)) (h_Condition_init : Fc P w K mg base (L2.CX P w) ca 1 "Condition" ["self", "quantity", "is_at_most", "word"] sCondition_init (mthS 20 0)) (h_written : Fn P w K mg base (L2.CX P w) ca 1 "written" ["text"] swritten (topS 13)) (m_len : mg "len" = none) : Fn P w K mg base (L2.CX P w) ca 3 "parsed_condition" ["text"] sparsed_condition (topS 25) := by
  have sc : FnScope Nparsed_condition ["text"] (defScope (topS 25)) := ⟨rfl, rfl, rfl, by decide +kernel, rfl, by decide +kernel, by decide +kernel⟩
  refine Fn.of (t := tparsed_condition) F hm (F.binds fun _ _ _ _ _ _ us hl => match us, hl with | [_], _ => rfl) sc lenparsed_condition (fun cdv A outer s H E g Ed hr hgd hK hca hx => ?_) pparsed_condition
  obtain ⟨gK, gc, gH, ga⟩ := g
  cases hK; cases hca
  exact qs_cons (qs_set (i := 1) sc.nd rfl (by first | exact Or.inl rfl | exact Or.inr rfl) (pd_split (pd_var 0) (qa_cons (pd_str) (qa_nil)) (fun m x y => pe_bm PySem.F.plainAttrs_str PySem.F.slot_str_split PySem.F.type_str_split m x y))) (qs_cons (qs_if (qt_ne rfl hr.units (pd_len rfl rfl m_len (qa_cons (pd_var 1) (qa_nil))) (pd_int)) (qs_one (qs_ret (pd_non))) (qs_nil)) (qs_cons (qs_asg (pd_var 1) (qg_tup rfl rfl (qgs_cons (qg_name (i := 2) sc.nd rfl (by first | exact Or.inl rfl | exact Or.inr rfl)) (qgs_cons (qg_name (i := 3) sc.nd rfl (by first | exact Or.inl rfl | exact Or.inr rfl)) (qgs_cons (qg_name (i := 4) sc.nd rfl (by first | exact Or.inl rfl | exact Or.inr rfl)) (qgs_nil)))))) (qs_cons (qs_if (qt_in rfl (pd_var 2) (pd_tup (qa_cons (pd_str) (qa_cons (pd_str) (qa_nil))))) (qs_cons (qs_set (i := 5) sc.nd rfl (by first | exact Or.inl rfl | exact Or.inr rfl) (pd_call h_written gswritten rfl (hr.mono (by decide)) hgd rfl hx (qa_cons (pd_var 4) (qa_nil)))) (qs_cons (qs_if (QW.qt (qw_or (qt_notin rfl (pd_var 3) (pd_tup (qa_cons (pd_str) (qa_cons (pd_str) (qa_nil))))) (qw_or1 (qt_isN (pd_var 5) (pd_non))))) (qs_one (qs_ret (pd_non))) (qs_nil)) (qs_one (qs_ret (pd_make h_Condition_init gsCondition_init rfl (hr.mono (by decide)) hgd rfl hx (qa_cons (pd_var 2) (qa_cons (pd_eq rfl hr.units (pd_var 3) (pd_str)) (qa_cons (pd_tup (qa_cons (pd_int) (qa_cons (pd_sub (pd_var 5) (pd_int)) (qa_nil)))) (qa_nil))))))))) (qs_nil)) (qs_cons (qs_if (QW.qt (qw_or (qt_notin rfl (pd_var 2) (pd_tup (qa_cons (pd_str) (qa_cons (pd_str) (qa_nil))))) (qw_or (qt_notin rfl (pd_var 3) (pd_tup (qa_cons (pd_str) (qa_cons (pd_str) (qa_nil))))) (qw_or1 (qt_isN (pd_call h_parsed_word gsparsed_word rfl (hr.mono (by decide)) hgd rfl hx (qa_cons (pd_var 4) (qa_nil))) (pd_non)))))) (qs_one (qs_ret (pd_non))) (qs_nil)) (qs_one (qs_ret (pd_make h_Condition_init gsCondition_init rfl (hr.mono (by decide)) hgd rfl hx (qa_cons (pd_var 2) (qa_cons (pd_eq rfl hr.units (pd_var 3) (pd_str)) (qa_cons (pd_call h_parsed_word gsparsed_word rfl (hr.mono (by decide)) hgd rfl hx (qa_cons (pd_var 4) (qa_nil))) (qa_nil)))))))))))
theorem fparsed_row {f : Addr} {fd : FuncData} (F : Fun K "parsed_row" "parsed_row" (topS 26) f fd) (hm : mg "parsed_row" = some (.ref f)) (h_Row_init : Fc P w K mg base (L2.CX P w) ca 1 "Row" ["self", "conditions", "told"] sRow_init (mthS 21 0)) (h_parsed_condition : Fn P w K mg base (L2.CX P w) ca 3 "parsed_condition" ["text"] sparsed_condition (topS 25)) (m_len : mg "len" = none) (m_isinstance : mg "isinstance" = none) (m_str : mg "str" = none) (c_MOST_CONDITIONS : ∃ t, mg "MOST_CONDITIONS" = some (.int (2) t)) (eq_Condition : PySem.W.mroIn K (ca "Condition") (.type "object") = some true ∧ PySem.W.findIn K (.ref (ca "Condition")) "__eq__" = some (some (.builtin "object.__eq__"))) : Fn P w K mg base (L2.CX P w) ca 4 "parsed_row" ["text", "grades", "is_last"] sparsed_row (topS 26) := by
  have sc : FnScope Nparsed_row ["text", "grades", "is_last"] (defScope (topS 26)) := ⟨rfl, rfl, rfl, by decide +kernel, rfl, by decide +kernel, by decide +kernel⟩
  refine Fn.of (t := tparsed_row) F hm (F.binds fun _ _ _ _ _ _ us hl => match us, hl with | [_, _, _], _ => rfl) sc lenparsed_row (fun cdv A outer s H E g Ed hr hgd hK hca hx => ?_) pparsed_row
  obtain ⟨gK, gc, gH, ga⟩ := g
  cases hK; cases hca
  exact qs_cons (qs_if (qt_not (qt_val (pd_isi .str rfl rfl m_isinstance rfl m_str (by decide +kernel) (pd_var 0)))) (qs_one (qs_ret (pd_non))) (qs_nil)) (qs_cons (qs_if (qt_val (pd_var 2)) (qs_one (qs_ret (pd_if (qt_in rfl (pd_var 0) (pd_var 1)) (pd_make h_Row_init gsRow_init rfl (hr.mono (by decide)) hgd rfl hx (qa_cons (pd_lst (qa_nil)) (qa_cons (pd_var 0) (qa_nil)))) (pd_non)))) (qs_nil)) (qs_cons (qs_asg (pd_rpartition (pd_var 0) (qa_cons (pd_str) (qa_nil)) (fun m x y => pe_bm PySem.F.plainAttrs_str PySem.F.slot_str_rpartition PySem.F.type_str_rpartition m x y)) (qg_tup rfl rfl (qgs_cons (qg_name (i := 3) sc.nd rfl (by first | exact Or.inl rfl | exact Or.inr rfl)) (qgs_cons (qg_name (i := 4) sc.nd rfl (by first | exact Or.inl rfl | exact Or.inr rfl)) (qgs_cons (qg_name (i := 5) sc.nd rfl (by first | exact Or.inl rfl | exact Or.inr rfl)) (qgs_nil)))))) (qs_cons ((by first | exact qs_setLc (own := [("part", 7)]) (ws := [7]) (i := 6) rfl sc.nd rfl rfl (sw_true rfl rfl rfl (by decide +kernel)) (qi_seq rfl (pd_split (pd_var 3) (qa_cons (pd_str) (qa_nil)) (fun m x y => pe_bm PySem.F.plainAttrs_str PySem.F.slot_str_split PySem.F.type_str_split m x y))) (blkOk_by (N := Nparsed_row) (sc := defScope (topS 26)) (own := [("part", 7)]) (by decide +kernel)) (by decide) (fun s H C cl fp g' e1 e2 => by obtain ⟨gK, gc, gH, ga⟩ := g'; cases e1; cases e2; exact qg_name (i := 7) sc.nd rfl (by first | exact Or.inl rfl | exact Or.inr rfl)) (fun s H C cl fp g' e1 e2 => by obtain ⟨gK, gc, gH, ga⟩ := g'; cases e1; cases e2; exact qts_nil) (fun s H C cl fp g' e1 e2 => by obtain ⟨gK, gc, gH, ga⟩ := g'; cases e1; cases e2; exact pd_call h_parsed_condition gsparsed_condition rfl (hr.mono (by decide)) hgd rfl px_no (qa_cons (pd_var 7) (qa_nil))) | exact qs_set (i := 6) sc.nd rfl (by first | exact Or.inl rfl | exact Or.inr rfl) (pd_lc (own := [("part", 7)]) (ws := [7]) rfl sc.nd (qi_seq rfl (pd_split (pd_var 3) (qa_cons (pd_str) (qa_nil)) (fun m x y => pe_bm PySem.F.plainAttrs_str PySem.F.slot_str_split PySem.F.type_str_split m x y))) (blkOk_by (N := Nparsed_row) (sc := defScope (topS 26)) (own := [("part", 7)]) (by decide +kernel)) (by decide) (fun s H C cl fp g' e1 e2 => by obtain ⟨gK, gc, gH, ga⟩ := g'; cases e1; cases e2; exact qg_name (i := 7) sc.nd rfl (by first | exact Or.inl rfl | exact Or.inr rfl)) (fun s H C cl fp g' e1 e2 => by obtain ⟨gK, gc, gH, ga⟩ := g'; cases e1; cases e2; exact qts_nil) (fun s H C cl fp g' e1 e2 => by obtain ⟨gK, gc, gH, ga⟩ := g'; cases e1; cases e2; exact pd_call h_parsed_condition gsparsed_condition rfl (hr.mono (by decide)) hgd rfl px_no (qa_cons (pd_var 7) (qa_nil)))))) (qs_cons (qs_if (QW.qt (qw_or (qt_eq rfl hr.units (pd_var 4) (pd_str)) (qw_or (qt_notin rfl (pd_var 5) (pd_var 1)) (qw_or (qt_nin (cs := ["Condition"]) rfl (hr.mono (Nat.le_refl _)) (fun c hc => by cases List.mem_singleton.mp hc; exact eq_Condition) (pd_non) (pd_var 6)) (qw_or1 (qt_gt (pd_len rfl rfl m_len (qa_cons (pd_var 6) (qa_nil))) (pd_gint rfl c_MOST_CONDITIONS))))))) (qs_one (qs_ret (pd_non))) (qs_nil)) (qs_one (qs_ret (pd_make h_Row_init gsRow_init rfl (hr.mono (by decide)) hgd rfl hx (qa_cons (pd_var 6) (qa_cons (pd_var 5) (qa_nil))))))))))
theorem fcheck_rows {f : Addr} {fd : FuncData} (F : Fun K "check_rows" "check_rows" (topS 39) f fd) (hm : mg "check_rows" = some (.ref f)) (h_parsed_row : Fn P w K mg base (L2.CX P w) ca 4 "parsed_row" ["text", "grades", "is_last"] sparsed_row (topS 26)) (m_enumerate : mg "enumerate" = none) (m_len : mg "len" = none) (m_isinstance : mg "isinstance" = none) (m_tuple : mg "tuple" = none) (c_MOST_ROWS : ∃ t, mg "MOST_ROWS" = some (.int (5) t)) (xc_InvalidRows : Xc K mg ca "InvalidRows" "index") : Fn P w K mg base (L2.CX P w) ca 5 "check_rows" ["grades", "value"] scheck_rows (topS 39) := by
  have sc : FnScope Ncheck_rows ["grades", "value"] (defScope (topS 39)) := ⟨rfl, rfl, rfl, by decide +kernel, rfl, by decide +kernel, by decide +kernel⟩
  refine Fn.of (t := tcheck_rows) F hm (F.binds fun _ _ _ _ _ _ us hl => match us, hl with | [_, _], _ => rfl) sc lencheck_rows (fun cdv A outer s H E g Ed hr hgd hK hca hx => ?_) pcheck_rows
  obtain ⟨gK, gc, gH, ga⟩ := g
  cases hK; cases hca
  exact qs_cons (qs_if (QW.qt (qw_or (qt_not (qt_val (pd_isi .tuple rfl rfl m_isinstance rfl m_tuple (by decide +kernel) (pd_var 1)))) (qw_or1 (qt_eq rfl hr.units (pd_len rfl rfl m_len (qa_cons (pd_var 1) (qa_nil))) (pd_int))))) (qs_one (qs_raise xc_InvalidRows rfl rfl (hr.mono (Nat.le_refl _)) rfl hx (pd_non))) (qs_nil)) (qs_cons (qs_set (i := 2) sc.nd rfl (by first | exact Or.inl rfl | exact Or.inr rfl) (pd_lstM (qa_nil))) (qs_cons (qs_for (passes_of rfl) rfl (qi_enum rfl rfl m_enumerate (qa_cons (pd_var 1) (qa_nil))) (qg_tup rfl rfl (qgs_cons (qg_name (i := 3) sc.nd rfl (by first | exact Or.inl rfl | exact Or.inr rfl)) (qgs_cons (qg_name (i := 4) sc.nd rfl (by first | exact Or.inl rfl | exact Or.inr rfl)) (qgs_nil)))) (qs_cons (qs_set (i := 5) sc.nd rfl (by first | exact Or.inl rfl | exact Or.inr rfl) (pd_if (qt_lt (pd_var 3) (pd_gint rfl c_MOST_ROWS)) (pd_call h_parsed_row gsparsed_row rfl (hr.mono (by decide)) hgd rfl hx (qa_cons (pd_var 4) (qa_cons (pd_var 0) (qa_cons (pd_eq rfl hr.units (pd_var 3) (pd_sub (pd_len rfl rfl m_len (qa_cons (pd_var 1) (qa_nil))) (pd_int))) (qa_nil))))) (pd_non))) (qs_cons (qs_if (qt_isN (pd_var 5) (pd_non)) (qs_one (qs_raise xc_InvalidRows rfl rfl (hr.mono (Nat.le_refl _)) rfl hx (pd_var 3))) (qs_nil)) (qs_one (qs_expr (pd_append (pd_var 2) (qa_cons (pd_var 5) (qa_nil)) rfl (fun x y => pe_bm PySem.F.plainAttrs_list PySem.F.slot_list_append PySem.F.type_list_append mt_append x y)))))) (fun x y z => ps_for (passes_of rfl) rfl x y z)) (qs_one (qs_ret (pd_var 2)))))
theorem fcheck_grades {f : Addr} {fd : FuncData} (F : Fun K "check_grades" "check_grades" (topS 38) f fd) (hm : mg "check_grades" = some (.ref f)) (h_is_name : Fn P w K mg base (L2.CX P w) ca 1 "is_name" ["value"] sis_name (topS 12)) (m_enumerate : mg "enumerate" = none) (m_isinstance : mg "isinstance" = none) (m_tuple : mg "tuple" = none) (m_len : mg "len" = none) (c_MOST_GRADES : ∃ t, mg "MOST_GRADES" = some (.int (4) t)) (xc_InvalidGrades : Xc K mg ca "InvalidGrades" "index") : Fn P w K mg base (L2.CX P w) ca 2 "check_grades" ["value"] scheck_grades (topS 38) := by
  have sc : FnScope Ncheck_grades ["value"] (defScope (topS 38)) := ⟨rfl, rfl, rfl, by decide +kernel, rfl, by decide +kernel, by decide +kernel⟩
  refine Fn.of (t := tcheck_grades) F hm (F.binds fun _ _ _ _ _ _ us hl => match us, hl with | [_], _ => rfl) sc lencheck_grades (fun cdv A outer s H E g Ed hr hgd hK hca hx => ?_) pcheck_grades
  obtain ⟨gK, gc, gH, ga⟩ := g
  cases hK; cases hca
  exact qs_cons (qs_if (QW.qt (qw_or (qt_not (qt_val (pd_isi .tuple rfl rfl m_isinstance rfl m_tuple (by decide +kernel) (pd_var 0)))) (qw_or1 (qt_lt (pd_len rfl rfl m_len (qa_cons (pd_var 0) (qa_nil))) (pd_int))))) (qs_one (qs_raise xc_InvalidGrades rfl rfl (hr.mono (Nat.le_refl _)) rfl hx (pd_non))) (qs_nil)) (qs_one (qs_for (passes_of rfl) rfl (qi_enum rfl rfl m_enumerate (qa_cons (pd_var 0) (qa_nil))) (qg_tup rfl rfl (qgs_cons (qg_name (i := 1) sc.nd rfl (by first | exact Or.inl rfl | exact Or.inr rfl)) (qgs_cons (qg_name (i := 2) sc.nd rfl (by first | exact Or.inl rfl | exact Or.inr rfl)) (qgs_nil)))) (qs_one (qs_if (QW.qt (qw_or (qt_eq rfl hr.units (pd_var 1) (pd_gint rfl c_MOST_GRADES)) (qw_or (qt_not (qt_val (pd_call h_is_name gsis_name rfl (hr.mono (by decide)) hgd rfl hx (qa_cons (pd_var 2) (qa_nil))))) (qw_or1 (qt_in rfl (pd_var 2) (pd_sl rfl (pd_var 0) (qo_none) (qo_some (pd_var 1)))))))) (qs_one (qs_raise xc_InvalidGrades rfl rfl (hr.mono (Nat.le_refl _)) rfl hx (pd_var 1))) (qs_nil))) (fun x y z => ps_for (passes_of rfl) rfl x y z)))
theorem fRule_init {f : Addr} {fd : FuncData} (F : Fun K "__init__" "Rule.__init__" (mthS 43 0) f fd) (hm : L2.Mk K (ca "Rule") f) (gl : mg "Rule" = some (.ref (ca "Rule"))) (h_check_rows : Fn P w K mg base (L2.CX P w) ca 5 "check_rows" ["grades", "value"] scheck_rows (topS 39)) (h_check_grades : Fn P w K mg base (L2.CX P w) ca 2 "check_grades" ["value"] scheck_grades (topS 38)) (cl_Rule : Cls K (ca "Rule")) (na_Rule_held_rows : NoAttr K (ca "Rule") "held_rows") (na_Rule_held_grades : NoAttr K (ca "Rule") "held_grades") (na_Rule_parsed : NoAttr K (ca "Rule") "parsed") : Fc P w K mg base (L2.CX P w) ca 6 "Rule" ["self", "grades", "rows"] sRule_init (mthS 43 0) := by
  have sc : FnScope NRule_init ["self", "grades", "rows"] (defScope (mthS 43 0)) := ⟨rfl, rfl, rfl, by decide +kernel, rfl, by decide +kernel, by decide +kernel⟩
  refine ⟨gl, f, fd, hm, (F.binds fun _ _ _ _ _ _ us hl => match us, hl with | [_, _, _], _ => rfl), FnG.of (t := tRule_init) F sc lenRule_init (fun cdv A outer s H E g Ed hr hgd hK hca hx => ?_) pRule_init, _, F⟩
  obtain ⟨gK, gc, gH, ga⟩ := g
  cases hK; cases hca
  exact qs_cons (qs_expr (pd_call h_check_grades gscheck_grades rfl (hr.mono (by decide)) hgd rfl hx (qa_cons (pd_var 1) (qa_nil)))) (qs_cons (qs_new (c := "Rule") (ks := []) rfl cl_Rule na_Rule_parsed (pd_var 0) (pd_call h_check_rows gscheck_rows rfl (hr.mono (by decide)) hgd rfl hx (qa_cons (pd_var 1) (qa_cons (pd_var 2) (qa_nil))))) (qs_cons (qs_new (c := "Rule") (ks := ["parsed"]) rfl cl_Rule na_Rule_held_grades (pd_var 0) (pd_var 1)) (qs_one (qs_new (c := "Rule") (ks := ["parsed", "held_grades"]) rfl cl_Rule na_Rule_held_rows (pd_var 0) (pd_var 2)))))
theorem fRule_grades {f pa : Addr} {fd : FuncData} (F : Fun K "grades" "Rule.grades" (mthS 43 2) f fd) (hm : PropOf K (ca "Rule") "grades" pa f) (cl_Rule : Cls K (ca "Rule")) (na_Rule_held_grades : NoAttr K (ca "Rule") "held_grades") : Fp P w K mg base (L2.CX P w) ca 1 "Rule" "grades" ["self"] sRule_grades (mthS 43 2) := by
  have sc : FnScope NRule_grades ["self"] (defScope (mthS 43 2)) := ⟨rfl, rfl, rfl, by decide +kernel, rfl, by decide +kernel, by decide +kernel⟩
  refine ⟨cl_Rule, f, pa, fd, hm, (F.binds fun _ _ _ _ _ _ us hl => match us, hl with | [_], _ => rfl), FnG.of (t := tRule_grades) F sc lenRule_grades (fun cdv A outer s H E g Ed hr hgd hK hca hx => ?_) pRule_grades, _, F⟩
  obtain ⟨gK, gc, gH, ga⟩ := g
  cases hK; cases hca
  exact qs_one (qs_ret (pd_at (c := "Rule") (ks := ksRule) (i := 1) rfl cl_Rule na_Rule_held_grades (pd_var 0)))
theorem fRule_rows {f pa : Addr} {fd : FuncData} (F : Fun K "rows" "Rule.rows" (mthS 43 3) f fd) (hm : PropOf K (ca "Rule") "rows" pa f) (cl_Rule : Cls K (ca "Rule")) (na_Rule_held_rows : NoAttr K (ca "Rule") "held_rows") : Fp P w K mg base (L2.CX P w) ca 1 "Rule" "rows" ["self"] sRule_rows (mthS 43 3) := by
  have sc : FnScope NRule_rows ["self"] (defScope (mthS 43 3)) := ⟨rfl, rfl, rfl, by decide +kernel, rfl, by decide +kernel, by decide +kernel⟩
  refine ⟨cl_Rule, f, pa, fd, hm, (F.binds fun _ _ _ _ _ _ us hl => match us, hl with | [_], _ => rfl), FnG.of (t := tRule_rows) F sc lenRule_rows (fun cdv A outer s H E g Ed hr hgd hK hca hx => ?_) pRule_rows, _, F⟩
  obtain ⟨gK, gc, gH, ga⟩ := g
  cases hK; cases hca
  exact qs_one (qs_ret (pd_at (c := "Rule") (ks := ksRule) (i := 2) rfl cl_Rule na_Rule_held_rows (pd_var 0)))
theorem fRule___bool__ {f : Addr} {fd : FuncData} (F : Fun K "__bool__" "Rule.__bool__" (mthS 43 6) f fd) (hm : Meth K (ca "Rule") "__bool__" f) (cl_Rule : Cls K (ca "Rule")) : Fm P w K mg base (L2.CX P w) ca 1 "Rule" "__bool__" ["self"] sRule___bool__ (mthS 43 6) := by
  have sc : FnScope NRule___bool__ ["self"] (defScope (mthS 43 6)) := ⟨rfl, rfl, rfl, by decide +kernel, rfl, by decide +kernel, by decide +kernel⟩
  refine ⟨cl_Rule, f, fd, hm, (F.binds fun _ _ _ _ _ _ us hl => match us, hl with | [_], _ => rfl), FnG.of (t := tRule___bool__) F sc lenRule___bool__ (fun cdv A outer s H E g Ed hr hgd hK hca hx => ?_) pRule___bool__, _, F⟩
  obtain ⟨gK, gc, gH, ga⟩ := g
  cases hK; cases hca
  exact qs_one (qs_ret (pd_bl))
theorem fRule___len__ {f : Addr} {fd : FuncData} (F : Fun K "__len__" "Rule.__len__" (mthS 43 5) f fd) (hm : Meth K (ca "Rule") "__len__" f) (cl_Rule : Cls K (ca "Rule")) (m_len : mg "len" = none) (na_Rule_held_rows : NoAttr K (ca "Rule") "held_rows") : Fm P w K mg base (L2.CX P w) ca 1 "Rule" "__len__" ["self"] sRule___len__ (mthS 43 5) := by
  have sc : FnScope NRule___len__ ["self"] (defScope (mthS 43 5)) := ⟨rfl, rfl, rfl, by decide +kernel, rfl, by decide +kernel, by decide +kernel⟩
  refine ⟨cl_Rule, f, fd, hm, (F.binds fun _ _ _ _ _ _ us hl => match us, hl with | [_], _ => rfl), FnG.of (t := tRule___len__) F sc lenRule___len__ (fun cdv A outer s H E g Ed hr hgd hK hca hx => ?_) pRule___len__, _, F⟩
  obtain ⟨gK, gc, gH, ga⟩ := g
  cases hK; cases hca
  exact qs_one (qs_ret (pd_len rfl rfl m_len (qa_cons (pd_at (c := "Rule") (ks := ksRule) (i := 2) rfl cl_Rule na_Rule_held_rows (pd_var 0)) (qa_nil))))
theorem f_law_shown {f : Addr} {fd : FuncData} (F : Fun K "_law_shown" "_law_shown" (topS 51) f fd) (hm : mg "_law_shown" = some (.ref f)) (m_repr : mg "repr" = none) (m_isinstance : mg "isinstance" = none) (m_LookupError : mg "LookupError" = none) (m_ValueError : mg "ValueError" = none) (c_BadName : mg "BadName" = some (.ref (ca "BadName"))) (c_BadValue : mg "BadValue" = some (.ref (ca "BadValue"))) (c_UnknownName : mg "UnknownName" = some (.ref (ca "UnknownName"))) (c_InvalidGroup : mg "InvalidGroup" = some (.ref (ca "InvalidGroup"))) (c_InvalidRows : mg "InvalidRows" = some (.ref (ca "InvalidRows"))) (c_InvalidGrades : mg "InvalidGrades" = some (.ref (ca "InvalidGrades"))) (c_InvalidChange : mg "InvalidChange" = some (.ref (ca "InvalidChange"))) (c_InvalidPoints : mg "InvalidPoints" = some (.ref (ca "InvalidPoints"))) (c_InvalidText : mg "InvalidText" = some (.ref (ca "InvalidText"))) (xt : XT K mg ca xtab xtst ["given", "index"]) : Fh P w K mg base (L2.CX P w) ca 1 "_law_shown" ["_law_e"] s_law_shown (topS 51) := by
  have sc : FnScope N_law_shown ["_law_e"] (defScope (topS 51)) := ⟨rfl, rfl, rfl, by decide +kernel, rfl, by decide +kernel, by decide +kernel⟩
  refine Fh.of (t := t_law_shown) F hm (F.binds fun _ _ _ _ _ _ us hl => match us, hl with | [_], _ => rfl) sc len_law_shown (fun cdv A outer s H E g Ed pn hr hgd hK hca hx => ?_) p_law_shown
  obtain ⟨gK, gc, gH, ga⟩ := g
  cases hK; cases hca
  exact qs_cons (qs_set (i := 1) sc.nd rfl (by first | exact Or.inl rfl | exact Or.inr rfl) (pd_lst (qa_cons (pd_isx xt rfl rfl m_isinstance rfl c_InvalidText (pd_var 0)) (qa_cons (pd_isx xt rfl rfl m_isinstance rfl c_InvalidPoints (pd_var 0)) (qa_cons (pd_isx xt rfl rfl m_isinstance rfl c_InvalidChange (pd_var 0)) (qa_nil)))))) (qs_cons (qs_set (i := 1) sc.nd rfl (by first | exact Or.inl rfl | exact Or.inr rfl) (pd_add rfl (pd_var 1) (pd_lst (qa_cons (pd_isx xt rfl rfl m_isinstance rfl c_InvalidGrades (pd_var 0)) (qa_cons (pd_isx xt rfl rfl m_isinstance rfl c_InvalidRows (pd_var 0)) (qa_cons (pd_isx xt rfl rfl m_isinstance rfl c_InvalidGroup (pd_var 0)) (qa_nil))))))) (qs_cons (qs_set (i := 1) sc.nd rfl (by first | exact Or.inl rfl | exact Or.inr rfl) (pd_add rfl (pd_var 1) (pd_lst (qa_cons (pd_isx xt rfl rfl m_isinstance rfl c_UnknownName (pd_var 0)) (qa_nil))))) (qs_cons (qs_set (i := 2) sc.nd rfl (by first | exact Or.inl rfl | exact Or.inr rfl) (pd_lst (qa_cons (pd_and (pd_isx xt rfl rfl m_isinstance rfl c_BadValue (pd_var 0)) (pd_one (pd_isxB (n := "ValueError") xt rfl rfl m_isinstance rfl m_ValueError (by decide +kernel) (pd_var 0)))) (qa_nil)))) (qs_cons (qs_set (i := 2) sc.nd rfl (by first | exact Or.inl rfl | exact Or.inr rfl) (pd_add rfl (pd_var 2) (pd_lst (qa_cons (pd_and (pd_isx xt rfl rfl m_isinstance rfl c_BadName (pd_var 0)) (pd_one (pd_isxB (n := "LookupError") xt rfl rfl m_isinstance rfl m_LookupError (by decide +kernel) (pd_var 0)))) (qa_nil))))) (qs_cons (qs_set (i := 3) sc.nd rfl (by first | exact Or.inl rfl | exact Or.inr rfl) (pd_if (qt_eq rfl hr.units (pd_count (pd_var 1) (qa_cons (pd_bl) (qa_nil)) rfl (fun x y => pe_bm PySem.F.plainAttrs_list PySem.F.slot_list_count PySem.F.type_list_count mt_cntF x y)) (pd_int)) (pd_index (pd_var 1) (qa_cons (pd_bl) (qa_nil)) rfl (fun x y => pe_bm PySem.F.plainAttrs_list PySem.F.slot_list_index PySem.F.type_list_index mt_index x y)) (pd_int))) (qs_cons (qs_if (QW.qt (qw_or (qt_eq rfl hr.units (pd_var 3) (pd_int)) (qw_or1 (qt_ne rfl hr.units (pd_var 2) (pd_lst (qa_cons (pd_lt (pd_var 3) (pd_int)) (qa_cons (pd_eq rfl hr.units (pd_var 3) (pd_int)) (qa_nil)))))))) (qs_one (qs_ret (pd_lst (qa_cons (pd_str) (qa_cons (pd_str) (qa_nil)))))) (qs_nil)) (qs_cons (qs_set (i := 4) sc.nd rfl (by first | exact Or.inl rfl | exact Or.inr rfl) (pd_ix rfl (pd_lst (qa_cons (pd_str) (qa_cons (pd_str) (qa_cons (pd_str) (qa_cons (pd_str) (qa_cons (pd_str) (qa_cons (pd_str) (qa_cons (pd_str) (qa_nil))))))))) (pd_var 3) (fun _ _ => rfl))) (qs_one (qs_ret (pd_lst (qa_cons (pd_var 4) (qa_cons (pd_if (qt_ltlt (pd_int) (pd_var 3) (pd_int)) (pd_reprU rfl hr.units hgd rfl m_repr (qa_cons (pd_xat xt rfl (by decide) (pd_var 0)) (qa_nil))) (pd_reprU rfl hr.units hgd rfl m_repr (qa_cons (pd_xat xt rfl (by decide) (pd_var 0)) (qa_nil)))) (qa_nil)))))))))))))
theorem f_law_caught {f : Addr} {fd : FuncData} (F : Fun K "_law_caught" "_law_caught" (topS 52) f fd) (hm : mg "_law_caught" = some (.ref f)) (h__law_shown : Fh P w K mg base (L2.CX P w) ca 1 "_law_shown" ["_law_e"] s_law_shown (topS 51)) (c_BadValue : mg "BadValue" = some (.ref (ca "BadValue"))) (c_BadName : mg "BadName" = some (.ref (ca "BadName"))) (xt : XT K mg ca xtab xtst ["given", "index"]) : FnL P w K mg base ca 2 "_law_caught" s_law_caught (topS 52) := by
  have sc : FnScope N_law_caught ["_law_act"] (defScope (topS 52)) := ⟨rfl, rfl, rfl, by decide +kernel, rfl, by decide +kernel, by decide +kernel⟩
  refine FnL.of (t := t_law_caught) F hm (F.binds fun _ _ _ _ _ _ us hl => match us, hl with | [_], _ => rfl) sc (fun j fv S_ cdv A outer s H E g Ed hr hgd hK hca gsS hact hx => ?_) p_law_caught
  obtain ⟨gK, gc, gH, ga⟩ := g
  cases hK; cases hca
  exact qs_cons (qs_try xt rfl rfl rfl hx (fun g' Ed' pn xe e1 e2 hsb hbk hx' => by obtain ⟨gK, gc, gH, ga⟩ := g'; cases e1; cases e2; exact qs_one (qs_set (i := 1) sc.nd rfl (by first | exact Or.inl rfl | exact Or.inr rfl) (pd_act (hact.into rfl hsb hbk) gsS rfl rfl (hr.mono (by omega)) hgd hx' rfl (by first | exact Or.inl rfl | exact Or.inr (Or.inl rfl))))) (HdD.named (cs := ["BadValue", "BadName"]) (tst_two (nm_own rfl c_BadValue) (nm_own rfl c_BadName)) sc.nd rfl rfl (fun a pn => qs_one (qs_ret (pd_callh h__law_shown gs_law_shown rfl (hotRoom (hr.mono (by omega))) hgd rfl px_no (qa_cons (pd_var 2) (qa_nil))))) (HdD.nil))) (qs_one (qs_ret (pd_lst (qa_cons (pd_str) (qa_cons (pd_var 1) (qa_nil))))))
theorem f_law_bent {f : Addr} {fd : FuncData} (F : Fun K "_law_bent" "_law_bent" (topS 54) f fd) (hm : mg "_law_bent" = some (.ref f)) (h__law_pick : Fn P w K mg base (L2.CX P w) ca 2 "_law_pick" ["_law_purse_here", "_law_menu"] s_law_pick (topS 47)) : Fn P w K mg base (L2.CX P w) ca 3 "_law_bent" ["_law_purse_here", "_law_label_here", "_law_fellow"] s_law_bent (topS 54) := by
  have sc : FnScope N_law_bent ["_law_purse_here", "_law_label_here", "_law_fellow"] (defScope (topS 54)) := ⟨rfl, rfl, rfl, by decide +kernel, rfl, by decide +kernel, by decide +kernel⟩
  refine Fn.of (t := t_law_bent) F hm (F.binds fun _ _ _ _ _ _ us hl => match us, hl with | [_, _, _], _ => rfl) sc len_law_bent (fun cdv A outer s H E g Ed hr hgd hK hca hx => ?_) p_law_bent
  obtain ⟨gK, gc, gH, ga⟩ := g
  cases hK; cases hca
  exact qs_cons (qs_set (i := 3) sc.nd rfl (by first | exact Or.inl rfl | exact Or.inr rfl) (pd_lst (qa_cons (pd_str) (qa_cons (pd_str) (qa_cons (pd_add rfl (pd_var 1) (pd_str)) (qa_cons (pd_add rfl (pd_str) (pd_var 1)) (qa_cons (pd_add rfl (pd_var 1) (pd_str)) (qa_cons (pd_upper (pd_var 1) (fun m x => pe_bm0 PySem.F.plainAttrs_str PySem.F.slot_str_upper PySem.F.type_str_upper m x)) (qa_cons (pd_str) (qa_cons (pd_add rfl (pd_var 1) (pd_str)) (qa_cons (pd_add rfl (pd_str) (pd_var 1)) (qa_nil)))))))))))) (qs_cons (qs_set (i := 3) sc.nd rfl (by first | exact Or.inl rfl | exact Or.inr rfl) (pd_add rfl (pd_var 3) (pd_lst (qa_cons (pd_non) (qa_cons (pd_bl) (qa_cons (pd_int) (qa_cons (pd_int) (qa_cons (pd_tup (qa_nil)) (qa_cons (pd_tup (qa_cons (pd_var 1) (qa_nil))) (qa_cons (pd_lst (qa_cons (pd_var 1) (qa_nil))) (qa_cons (pd_d0) (qa_cons (pd_disp (QPs.cons (fun g' e1 e2 => by obtain ⟨gK, gc, gH, ga⟩ := g'; cases e1; cases e2; exact pd_var 1) (fun g' e1 e2 => by obtain ⟨gK, gc, gH, ga⟩ := g'; cases e1; cases e2; exact pd_int) (QPs.nil))) (qa_cons (pd_tup (qa_cons (pd_var 1) (qa_cons (pd_var 2) (qa_nil)))) (qa_cons (pd_var 2) (qa_cons (pd_var 2) (qa_cons (pd_var 2) (qa_nil))))))))))))))))) (qs_cons (qs_set (i := 3) sc.nd rfl (by first | exact Or.inl rfl | exact Or.inr rfl) (pd_add rfl (pd_var 3) (pd_lst (qa_cons (pd_str) (qa_cons (pd_str) (qa_cons (pd_str) (qa_cons (pd_str) (qa_cons (pd_str) (qa_cons (pd_add rfl (pd_var 1) (pd_str)) (qa_cons (pd_str) (qa_cons (pd_str) (qa_cons (pd_add rfl (pd_add rfl (pd_add rfl (pd_var 1) (pd_var 1)) (pd_var 1)) (pd_var 1)) (qa_nil))))))))))))) (qs_one (qs_ret (pd_call h__law_pick gs_law_pick rfl (hr.mono (by decide)) hgd rfl hx (qa_cons (pd_var 0) (qa_cons (pd_add rfl (pd_var 3) (pd_lst (qa_cons (pd_var 1) (qa_cons (pd_str) (qa_cons (pd_str) (qa_cons (pd_str) (qa_cons (pd_sl rfl (pd_var 1) (qo_none) (qo_some (pd_int))) (qa_cons (pd_str) (qa_cons (pd_str) (qa_cons (pd_str) (qa_cons (pd_str) (qa_nil)))))))))))) (qa_nil))))))))
theorem f_law_value {f : Addr} {fd : FuncData} (F : Fun K "_law_value" "_law_value" (topS 55) f fd) (hm : mg "_law_value" = some (.ref f)) (h__law_pick : Fn P w K mg base (L2.CX P w) ca 2 "_law_pick" ["_law_purse_here", "_law_menu"] s_law_pick (topS 47)) (h__law_bent : Fn P w K mg base (L2.CX P w) ca 3 "_law_bent" ["_law_purse_here", "_law_label_here", "_law_fellow"] s_law_bent (topS 54)) (h__law_draw : Fn P w K mg base (L2.CX P w) ca 1 "_law_draw" ["_law_purse_here", "_law_size"] s_law_draw (topS 46)) (h__law_labels : Fn P w K mg base (L2.CX P w) ca 4 "_law_labels" ["_law_purse_here", "_law_many"] s_law_labels (topS 49)) (m_tuple : mg "tuple" = none) (m_range : mg "range" = none) (m_len : mg "len" = none) (m_list : mg "list" = none) : Fn P w K mg base (L2.CX P w) ca 5 "_law_value" ["_law_purse_here"] s_law_value (topS 55) := by
  have sc : FnScope N_law_value ["_law_purse_here"] (defScope (topS 55)) := ⟨rfl, rfl, rfl, by decide +kernel, rfl, by decide +kernel, by decide +kernel⟩
  refine Fn.of (t := t_law_value) F hm (F.binds fun _ _ _ _ _ _ us hl => match us, hl with | [_], _ => rfl) sc len_law_value (fun cdv A outer s H E g Ed hr hgd hK hca hx => ?_) p_law_value
  obtain ⟨gK, gc, gH, ga⟩ := g
  cases hK; cases hca
  exact qs_cons (qs_set (i := 1) sc.nd rfl (by first | exact Or.inl rfl | exact Or.inr rfl) (pd_call h__law_labels gs_law_labels rfl (hr.mono (by decide)) hgd rfl hx (qa_cons (pd_var 0) (qa_cons (pd_call h__law_pick gs_law_pick rfl (hr.mono (by decide)) hgd rfl hx (qa_cons (pd_var 0) (qa_cons (pd_lst (qa_cons (pd_int) (qa_cons (pd_int) (qa_cons (pd_int) (qa_cons (pd_int) (qa_cons (pd_int) (qa_cons (pd_int) (qa_cons (pd_int) (qa_cons (pd_int) (qa_cons (pd_int) (qa_nil))))))))))) (qa_nil)))) (qa_nil))))) (qs_cons (qs_if (qt_eq rfl hr.units (pd_call h__law_draw gs_law_draw rfl (hr.mono (by decide)) hgd rfl hx (qa_cons (pd_var 0) (qa_cons (pd_int) (qa_nil)))) (pd_int)) (qs_cons (qs_set (i := 2) sc.nd rfl (by first | exact Or.inl rfl | exact Or.inr rfl) (pd_lst (qa_cons (pd_var 1) (qa_cons (pd_tup (qa_nil)) (qa_cons (pd_lst (qa_nil)) (qa_cons (pd_non) (qa_cons (pd_bl) (qa_cons (pd_int) (qa_cons (pd_ix rfl (pd_var 1) (pd_int) (fun _ _ => rfl)) (qa_cons (pd_str) (qa_cons (pd_str) (qa_cons (pd_d0) (qa_cons (pd_disp (QPs.cons (fun g' e1 e2 => by obtain ⟨gK, gc, gH, ga⟩ := g'; cases e1; cases e2; exact pd_ix rfl (pd_var 1) (pd_int) (fun _ _ => rfl)) (fun g' e1 e2 => by obtain ⟨gK, gc, gH, ga⟩ := g'; cases e1; cases e2; exact pd_int) (QPs.cons (fun g' e1 e2 => by obtain ⟨gK, gc, gH, ga⟩ := g'; cases e1; cases e2; exact pd_str) (fun g' e1 e2 => by obtain ⟨gK, gc, gH, ga⟩ := g'; cases e1; cases e2; exact pd_int) (QPs.nil)))) (qa_cons (pd_tup (qa_cons (pd_tup (qa_nil)) (qa_nil))) (qa_cons (pd_tup (qa_cons (pd_tuple rfl rfl m_tuple (qa_cons (pd_var 1) (qa_nil))) (qa_nil))) (qa_nil)))))))))))))))) (qs_one (qs_ret (pd_call h__law_pick gs_law_pick rfl (hr.mono (by decide)) hgd rfl hx (qa_cons (pd_var 0) (qa_cons (pd_add rfl (pd_var 2) (pd_lst (qa_cons (pd_tup (qa_cons (pd_tuple rfl rfl m_tuple (qa_cons (pd_var 1) (qa_nil))) (qa_cons (pd_tuple rfl rfl m_tuple (qa_cons (pd_var 1) (qa_nil))) (qa_nil)))) (qa_cons (pd_tup (qa_cons (pd_var 1) (qa_cons (pd_ix rfl (pd_var 1) (pd_int) (fun _ _ => rfl)) (qa_nil)))) (qa_cons (pd_tup (qa_cons (pd_str) (qa_cons (pd_str) (qa_nil)))) (qa_cons (pd_tup (qa_cons (pd_non) (qa_cons (pd_str) (qa_nil)))) (qa_cons (pd_tup (qa_cons (pd_str) (qa_cons (pd_int) (qa_nil)))) (qa_nil)))))))) (qa_nil))))))) (qs_nil)) (qs_cons (qs_set (i := 3) sc.nd rfl (by first | exact Or.inl rfl | exact Or.inr rfl) (pd_listM rfl rfl m_list (qa_cons (pd_var 1) (qa_nil)))) (qs_cons (qs_for (passes_of rfl) rfl (qi_range1 rfl m_range (qa_cons (pd_call h__law_pick gs_law_pick rfl (hr.mono (by decide)) hgd rfl hx (qa_cons (pd_var 0) (qa_cons (pd_lst (qa_cons (pd_int) (qa_cons (pd_int) (qa_cons (pd_int) (qa_cons (pd_int) (qa_nil)))))) (qa_nil)))) (qa_nil))) (qg_name (i := 4) sc.nd rfl (by first | exact Or.inl rfl | exact Or.inr rfl)) (qs_one (qs_asg (pd_call h__law_bent gs_law_bent rfl (hr.mono (by decide)) hgd rfl hx (qa_cons (pd_var 0) (qa_cons (pd_call h__law_pick gs_law_pick rfl (hr.mono (by decide)) hgd rfl hx (qa_cons (pd_var 0) (qa_cons (pd_var 1) (qa_nil)))) (qa_cons (pd_call h__law_pick gs_law_pick rfl (hr.mono (by decide)) hgd rfl hx (qa_cons (pd_var 0) (qa_cons (pd_var 1) (qa_nil)))) (qa_nil))))) (by refine qg_put ?_ ?_ (fun x y z => pg_sub x y z); exact (pd_var 3); exact (pd_call h__law_draw gs_law_draw rfl (hr.mono (by decide)) hgd rfl hx (qa_cons (pd_var 0) (qa_cons (pd_len rfl rfl m_len (qa_cons (pd_var 1) (qa_nil))) (qa_nil))))))) (fun x y z => ps_for (passes_of rfl) rfl x y z)) (qs_one (qs_ret (pd_tuple rfl rfl m_tuple (qa_cons (pd_var 3) (qa_nil))))))))
theorem f_law_is_name {f : Addr} {fd : FuncData} (F : Fun K "_law_is_name" "_law_is_name" (topS 50) f fd) (hm : mg "_law_is_name" = some (.ref f)) (m_all : mg "all" = none) (m_isinstance : mg "isinstance" = none) (m_str : mg "str" = none) (m_len : mg "len" = none) : Fn P w K mg base (L2.CX P w) ca 1 "_law_is_name" ["_law_thing"] s_law_is_name (topS 50) := by
  have sc : FnScope N_law_is_name ["_law_thing"] (defScope (topS 50)) := ⟨rfl, rfl, rfl, by decide +kernel, rfl, by decide +kernel, by decide +kernel⟩
  refine Fn.of (t := t_law_is_name) F hm (F.binds fun _ _ _ _ _ _ us hl => match us, hl with | [_], _ => rfl) sc len_law_is_name (fun cdv A outer s H E g Ed hr hgd hK hca hx => ?_) p_law_is_name
  obtain ⟨gK, gc, gH, ga⟩ := g
  cases hK; cases hca
  exact qs_cons (qs_set (i := 1) sc.nd rfl (by first | exact Or.inl rfl | exact Or.inr rfl) (pd_str)) (qs_cons (qs_if (QW.qt (qw_or (qt_not (qt_val (pd_isi .str rfl rfl m_isinstance rfl m_str (by decide +kernel) (pd_var 0)))) (qw_or (qt_not (qt_ltlt (pd_int) (pd_len rfl rfl m_len (qa_cons (pd_var 0) (qa_nil))) (pd_int))) (qw_or1 (qt_notin rfl (pd_ix rfl (pd_var 0) (pd_int) (fun _ _ => rfl)) (pd_var 1)))))) (qs_one (qs_ret (pd_bl))) (qs_nil)) (qs_one (qs_ret (pd_all rfl rfl rfl m_all (qa_cons (pd_lc (own := [("_law_sign", 2)]) (ws := [2]) rfl sc.nd (qi_str (pd_var 0)) (blkOk_by (N := N_law_is_name) (sc := defScope (topS 50)) (own := [("_law_sign", 2)]) (by decide +kernel)) (by decide) (fun s H C cl fp g' e1 e2 => by obtain ⟨gK, gc, gH, ga⟩ := g'; cases e1; cases e2; exact qg_name (i := 2) sc.nd rfl (by first | exact Or.inl rfl | exact Or.inr rfl)) (fun s H C cl fp g' e1 e2 => by obtain ⟨gK, gc, gH, ga⟩ := g'; cases e1; cases e2; exact qts_nil) (fun s H C cl fp g' e1 e2 => by obtain ⟨gK, gc, gH, ga⟩ := g'; cases e1; cases e2; exact pd_in rfl (pd_var 2) (pd_add rfl (pd_var 1) (pd_str)))) (qa_nil))))))
theorem f_law_wrong {f : Addr} {fd : FuncData} (F : Fun K "_law_wrong" "_law_wrong" (topS 53) f fd) (hm : mg "_law_wrong" = some (.ref f)) (h__law_is_name : Fn P w K mg base (L2.CX P w) ca 1 "_law_is_name" ["_law_thing"] s_law_is_name (topS 50)) (m_len : mg "len" = none) (m_range : mg "range" = none) (m_isinstance : mg "isinstance" = none) (m_tuple : mg "tuple" = none) : Fn P w K mg base (L2.CX P w) ca 2 "_law_wrong" ["_law_some"] s_law_wrong (topS 53) := by
  have sc : FnScope N_law_wrong ["_law_some"] (defScope (topS 53)) := ⟨rfl, rfl, rfl, by decide +kernel, rfl, by decide +kernel, by decide +kernel⟩
  refine Fn.of (t := t_law_wrong) F hm (F.binds fun _ _ _ _ _ _ us hl => match us, hl with | [_], _ => rfl) sc len_law_wrong (fun cdv A outer s H E g Ed hr hgd hK hca hx => ?_) p_law_wrong
  obtain ⟨gK, gc, gH, ga⟩ := g
  cases hK; cases hca
  exact qs_cons (qs_if (QW.qt (qw_or (qt_not (qt_val (pd_isi .tuple rfl rfl m_isinstance rfl m_tuple (by decide +kernel) (pd_var 0)))) (qw_or1 (qt_lt (pd_len rfl rfl m_len (qa_cons (pd_var 0) (qa_nil))) (pd_int))))) (qs_one (qs_ret (pd_non))) (qs_nil)) (qs_cons (qs_for (passes_of rfl) rfl (qi_range1 rfl m_range (qa_cons (pd_len rfl rfl m_len (qa_cons (pd_var 0) (qa_nil))) (qa_nil))) (qg_name (i := 1) sc.nd rfl (by first | exact Or.inl rfl | exact Or.inr rfl)) (qs_one (qs_if (QW.qt (qw_or (qt_eq rfl hr.units (pd_var 1) (pd_int)) (qw_or (qt_not (qt_val (pd_call h__law_is_name gs_law_is_name rfl (hr.mono (by decide)) hgd rfl hx (qa_cons (pd_ix rfl (pd_var 0) (pd_var 1) (fun _ _ => rfl)) (qa_nil))))) (qw_or1 (qt_in rfl (pd_ix rfl (pd_var 0) (pd_var 1) (fun _ _ => rfl)) (pd_sl rfl (pd_var 0) (qo_none) (qo_some (pd_var 1)))))))) (qs_one (qs_ret (pd_var 1))) (qs_nil))) (fun x y z => ps_for (passes_of rfl) rfl x y z)) (qs_one (qs_ret (pd_str))))
theorem f_law_right {f : Addr} {fd : FuncData} (F : Fun K "_law_right" "_law_right" (topS 56) f fd) (hm : mg "_law_right" = some (.ref f)) (h_Rule_rows : Fp P w K mg base (L2.CX P w) ca 1 "Rule" "rows" ["self"] sRule_rows (mthS 43 3)) (h_Rule_grades : Fp P w K mg base (L2.CX P w) ca 1 "Rule" "grades" ["self"] sRule_grades (mthS 43 2)) (h__law_caught : FnL P w K mg base ca 2 "_law_caught" s_law_caught (topS 52)) (h_Rule_init : Fc P w K mg base (L2.CX P w) ca 6 "Rule" ["self", "grades", "rows"] sRule_init (mthS 43 0)) (h__law_pick : Fn P w K mg base (L2.CX P w) ca 2 "_law_pick" ["_law_purse_here", "_law_menu"] s_law_pick (topS 47)) (h__law_wrong : Fn P w K mg base (L2.CX P w) ca 2 "_law_wrong" ["_law_some"] s_law_wrong (topS 53)) (h__law_value : Fn P w K mg base (L2.CX P w) ca 5 "_law_value" ["_law_purse_here"] s_law_value (topS 55)) (m_repr : mg "repr" = none) (hf_ : f = He.fAd K ("_law_right", none)) (tab_ : LamX.TabB base mg (He.cT K ("_law_right", none)).1 (He.cT K ("_law_right", none)).2) : Fn P w K mg base (L2.CX P w) ca 12 "_law_right" ["_law_purse_here"] s_law_right (topS 56) := by
  have sc : FnScope N_law_right ["_law_purse_here"] (defScope (topS 56)) := ⟨rfl, rfl, rfl, by decide +kernel, rfl, by decide +kernel, by decide +kernel⟩
  refine Fn.ofT (t := t_law_right) F hf_ hm (F.binds fun _ _ _ _ _ _ us hl => match us, hl with | [_], _ => rfl) sc len_law_right (fun cdv A outer s H E g Ed hcd_ hr hgd hK hca hx => ?_) p_law_right
  obtain ⟨gK, gc, gH, ga⟩ := g
  cases hK; cases hca
  exact qs_cons (qs_asg (pd_tup (qa_cons (pd_call h__law_value gs_law_value rfl (hr.mono (by decide)) hgd rfl hx (qa_cons (pd_var 0) (qa_nil))) (qa_cons (pd_call h__law_pick gs_law_pick rfl (hr.mono (by decide)) hgd rfl hx (qa_cons (pd_var 0) (qa_cons (pd_lst (qa_cons (pd_non) (qa_cons (pd_tup (qa_nil)) (qa_cons (pd_lst (qa_nil)) (qa_cons (pd_str) (qa_cons (pd_tup (qa_cons (pd_str) (qa_nil))) (qa_cons (pd_tup (qa_cons (pd_str) (qa_nil))) (qa_cons (pd_tup (qa_cons (pd_non) (qa_nil))) (qa_cons (pd_int) (qa_nil)))))))))) (qa_nil)))) (qa_nil)))) (qg_tup rfl rfl (qgs_cons (qg_name (i := 1) sc.nd rfl (by first | exact Or.inl rfl | exact Or.inr rfl)) (qgs_cons (qg_name (i := 2) sc.nd rfl (by first | exact Or.inl rfl | exact Or.inr rfl)) (qgs_nil))))) (qs_cons (qs_par rfl sc.nd rfl rfl (by decide) (qa_cons (pd_call h__law_wrong gs_law_wrong rfl (hr.mono (by decide)) hgd rfl hx (qa_cons (pd_var 1) (qa_nil))) (qa_cons (pd_repr rfl (hr.mono (Nat.le_refl _)) hgd rfl m_repr (qa_cons (pd_var 1) (qa_nil))) (qa_nil))) (fun x => ps_par rfl sc.nd rfl rfl (by decide) rfl rfl x (by rfl))) (qs_cons (qs_if (qt_ne rfl hr.units (pd_var 3) (pd_str)) (qs_cons (qs_set (i := 5) sc.nd rfl (by first | exact Or.inl rfl | exact Or.inr rfl) (pd_lstM (qa_cons (pd_lam (j := 8) h__law_caught gs_law_caught rfl (hr.mono (by decide)) hgd rfl hx tab_ (by rw [hcd_]; rfl) rfl (LamX.lamS_by (show LamX.lamSB (defScope (topS 56)) _ = true by decide +kernel)) rfl (fun _ _ _ _ _ => rfl) (fun A outer s H E f d g' Ed' e1 e2 hr hgd hx' => by obtain ⟨gK, gc, gH, ga⟩ := g'; cases e1; cases e2; exact pd_make h_Rule_init gsRule_init rfl (hr.mono (by decide)) hgd rfl hx' (qa_cons (pd_var 1) (qa_cons (pd_var 2) (qa_nil))))) (qa_nil)))) (qs_cons (qs_expr (pd_append (pd_var 5) (qa_cons (pd_lam (j := 8) h__law_caught gs_law_caught rfl (hr.mono (by decide)) hgd rfl hx tab_ (by rw [hcd_]; rfl) rfl (LamX.lamS_by (show LamX.lamSB (defScope (topS 56)) _ = true by decide +kernel)) rfl (fun _ _ _ _ _ => rfl) (fun A outer s H E f d g' Ed' e1 e2 hr hgd hx' => by obtain ⟨gK, gc, gH, ga⟩ := g'; cases e1; cases e2; exact pd_makeK (nks := ["rows", "grades"]) (perm := [1, 0]) h_Rule_init (fun _ _ _ F => Fun.kb F (by decide) fun _ _ _ _ _ _ us ws hu hw => match us, hu, ws, hw with | [_], _, [_, _], _ => rfl) gsRule_init rfl (hr.mono (by decide)) hgd rfl hx' (qk_cons (pd_var 2) (qk_cons (pd_var 1) (qk_nil))))) (qa_nil)) rfl (fun x y => pe_bm PySem.F.plainAttrs_list PySem.F.slot_list_append PySem.F.type_list_append mt_append x y))) (qs_one (qs_ret (pd_and (pd_eq rfl hr.units (pd_var 5) (pd_mul (pd_lst (qa_cons (pd_lst (qa_cons (pd_str) (qa_cons (pd_repr rfl (hr.mono (Nat.le_refl _)) hgd rfl m_repr (qa_cons (pd_var 3) (qa_nil))) (qa_nil)))) (qa_nil))) (pd_int))) (pd_one (pd_eq rfl hr.units (pd_repr rfl (hr.mono (Nat.le_refl _)) hgd rfl m_repr (qa_cons (pd_var 1) (qa_nil))) (pd_var 4)))))))) (qs_nil)) (qs_cons (qs_set (i := 6) sc.nd rfl (by first | exact Or.inl rfl | exact Or.inr rfl) (pd_call h__law_pick gs_law_pick rfl (hr.mono (by decide)) hgd rfl hx (qa_cons (pd_var 0) (qa_cons (pd_var 1) (qa_nil))))) (qs_cons (qs_set (i := 5) sc.nd rfl (by first | exact Or.inl rfl | exact Or.inr rfl) (pd_lam (j := 8) h__law_caught gs_law_caught rfl (hr.mono (by decide)) hgd rfl hx tab_ (by rw [hcd_]; rfl) rfl (LamX.lamS_by (show LamX.lamSB (defScope (topS 56)) _ = true by decide +kernel)) rfl (fun _ _ _ _ _ => rfl) (fun A outer s H E f d g' Ed' e1 e2 hr hgd hx' => by obtain ⟨gK, gc, gH, ga⟩ := g'; cases e1; cases e2; exact pd_make h_Rule_init gsRule_init rfl (hr.mono (by decide)) hgd rfl hx' (qa_cons (pd_var 1) (qa_cons (pd_tup (qa_cons (pd_var 6) (qa_nil))) (qa_nil)))))) (qs_one (qs_ret (pd_and (pd_eq rfl hr.units (pd_ix rfl (pd_var 5) (pd_int) (fun _ _ => rfl)) (pd_str)) (pd_one (pd_eq rfl hr.units (pd_repr rfl (hr.mono (Nat.le_refl _)) hgd rfl m_repr (qa_cons (pd_lst (qa_cons (pd_prop h_Rule_grades gsRule_grades rfl (hr.mono (by decide)) hgd (pd_ix rfl (pd_var 5) (pd_int) (fun _ _ => rfl))) (qa_cons (pd_prop h_Rule_rows gsRule_rows rfl (hr.mono (by decide)) hgd (pd_ix rfl (pd_var 5) (pd_int) (fun _ _ => rfl))) (qa_nil)))) (qa_nil))) (pd_repr rfl (hr.mono (Nat.le_refl _)) hgd rfl m_repr (qa_cons (pd_lst (qa_cons (pd_var 1) (qa_cons (pd_tup (qa_cons (pd_var 6) (qa_nil))) (qa_nil)))) (qa_nil))))))))))))
theorem flaw {f : Addr} {fd : FuncData} (F : Fun K "law" "law" (topS 57) f fd) (hm : mg "law" = some (.ref f)) (h__law_right : Fn P w K mg base (L2.CX P w) ca 12 "_law_right" ["_law_purse_here"] s_law_right (topS 56)) (h__law_purse : Fn P w K mg base (L2.CX P w) ca 1 "_law_purse" ["_law_script", "_law_k"] s_law_purse (topS 45)) (m_len : mg "len" = none) (m_min : mg "min" = none) (m_max : mg "max" = none) (m_range : mg "range" = none) (m_all : mg "all" = none) : FnG P w K mg base (L2.CX P w) 13 f fd ["_law_script"] (spOf K ca slaw) := by
  have sc : FnScope Nlaw ["_law_script"] (defScope (topS 57)) := ⟨rfl, rfl, rfl, by decide +kernel, rfl, by decide +kernel, by decide +kernel⟩
  refine FnG.of (t := tlaw) F sc lenlaw (fun cdv A outer s H E g Ed hr hgd hK hca hx => ?_) plaw
  obtain ⟨gK, gc, gH, ga⟩ := g
  cases hK; cases hca
  exact qs_cons (qs_for (passes_of rfl) rfl (qi_range1 rfl m_range (qa_cons (pd_max2 rfl rfl m_max (qa_cons (pd_int) (qa_cons (pd_min2 rfl rfl m_min (qa_cons (pd_len rfl rfl m_len (qa_cons (pd_var 0) (qa_nil))) (qa_cons (pd_int) (qa_nil)))) (qa_nil)))) (qa_nil))) (qg_name (i := 1) sc.nd rfl (by first | exact Or.inl rfl | exact Or.inr rfl)) (qs_cons (qs_set (i := 2) sc.nd rfl (by first | exact Or.inl rfl | exact Or.inr rfl) (pd_call h__law_purse gs_law_purse rfl (hr.mono (by decide)) hgd rfl hx (qa_cons (pd_var 0) (qa_cons (pd_var 1) (qa_nil))))) (qs_one (qs_if (qt_not (qt_val (pd_all rfl rfl rfl m_all (qa_cons (pd_lc (own := [("_law_turn", 3)]) (ws := [3]) rfl sc.nd (qi_range1 rfl m_range (qa_cons (pd_int) (qa_nil))) (blkOk_by (N := Nlaw) (sc := defScope (topS 57)) (own := [("_law_turn", 3)]) (by decide +kernel)) (by decide) (fun s H C cl fp g' e1 e2 => by obtain ⟨gK, gc, gH, ga⟩ := g'; cases e1; cases e2; exact qg_name (i := 3) sc.nd rfl (by first | exact Or.inl rfl | exact Or.inr rfl)) (fun s H C cl fp g' e1 e2 => by obtain ⟨gK, gc, gH, ga⟩ := g'; cases e1; cases e2; exact qts_nil) (fun s H C cl fp g' e1 e2 => by obtain ⟨gK, gc, gH, ga⟩ := g'; cases e1; cases e2; exact pd_call h__law_right gs_law_right rfl (hr.mono (by decide)) hgd rfl px_no (qa_cons (pd_var 2) (qa_nil)))) (qa_nil))))) (qs_one (qs_ret (pd_bl))) (qs_nil)))) (fun x y z => ps_for (passes_of rfl) rfl x y z)) (qs_one (qs_ret (pd_bl)))
end
end VL

namespace Hd
open PySem PySem.Spec PyProof.Rows L2 VL
theorem walk {q : Program} {lo : List Str} {XP : (Str → Option Value) → Heap → Prop} {d : DefRec} (hd : d.name = "law") (hdf : d.params.defaults = []) : PySem.W.WalkO q lo XP hk.says (PySem.W.OpenLaw.row PySem.Challenge.rw_classcurves_k03_grades_refused).toRowW d [] (fun f vs => PySem.call f vs) := by
  refine walk_endT (tf := tfX) (k := 13) (x := "_law_script") (S := slaw) rfl (by decide) hdf (by first | exact ⟨rfl, by decide +kernel, by decide +kernel⟩) gslaw ls_law fun w mg fa h Y gn hm => ?_
  obtain ⟨K, kin, c, hx, tOk⟩ := Y
  rw [hd] at hm
  have ex_at : ∀ (i : Nat) {b : Bool} (e : (exs K)[i]? = some b := by rfl), b = true := fun i b e => List.all_eq_true.mp hx b (List.mem_of_getElem? e)
  obtain ⟨fd0, F0⟩ := c.def_ 0
  obtain ⟨fd1, F1⟩ := c.def_ 1
  obtain ⟨fd2, F2⟩ := c.def_ 2
  obtain ⟨fd3, F3⟩ := c.def_ 3
  obtain ⟨fd4, F4⟩ := c.def_ 4
  obtain ⟨fd5, F5⟩ := c.def_ 5
  obtain ⟨fd6, F6⟩ := c.def_ 6
  obtain ⟨fd7, F7⟩ := c.def_ 7
  obtain ⟨fd8, F8⟩ := c.def_ 8
  obtain ⟨fd9, F9⟩ := c.def_ 9
  obtain ⟨fd10, F10⟩ := c.def_ 10
  obtain ⟨fd11, F11⟩ := c.def_ 11
  obtain ⟨fd12, F12⟩ := c.def_ 12
  obtain ⟨fd13, F13⟩ := c.def_ 13
  obtain ⟨fd14, F14⟩ := c.def_ 14
  obtain ⟨fd15, F15⟩ := c.def_ 15
  obtain ⟨fd16, F16⟩ := c.def_ 16
  obtain ⟨fd17, F17⟩ := c.def_ 17
  obtain ⟨fd18, F18⟩ := c.def_ 18
  obtain ⟨fd19, F19⟩ := c.def_ 19
  obtain ⟨fd20, F20⟩ := c.def_ 20
  obtain ⟨fd21, F21⟩ := c.def_ 21
  obtain ⟨fd22, F22⟩ := c.def_ 22
  obtain ⟨fd23, F23⟩ := c.def_ 23
  obtain ⟨fd24, F24⟩ := c.def_ 24
  obtain ⟨fd25, F25⟩ := c.def_ 25
  obtain ⟨fd26, F26⟩ := c.def_ 26
  obtain ⟨fd27, F27⟩ := c.def_ 27
  obtain ⟨fd28, F28⟩ := c.def_ 28
  obtain ⟨fd29, F29⟩ := c.def_ 29
  obtain ⟨fd30, F30⟩ := c.def_ 30
  obtain ⟨fd31, F31⟩ := c.def_ 31
  obtain ⟨fd32, F32⟩ := c.def_ 32
  obtain ⟨fd33, F33⟩ := c.def_ 33
  obtain ⟨fd34, F34⟩ := c.def_ 34
  obtain ⟨fd35, F35⟩ := c.def_ 35
  have e0 := He.glo_ok kin gn (c.fact 83)
  rw [hm] at e0
  have e1 : fa = He.ga K "law" := by
    injection e0 with e0
    injection e0
  subst e1
  have FL : Fun K "law" "law" (topS 57) (He.ga K "law") fd35 := fun_at F35
  refine ⟨K, fd35, He.ga K, kin, tOk, FL.binds fun _ _ _ _ _ _ us hl => match us, hl with | [_], _ => rfl, fun base _ _ TB => ?_⟩
  obtain ⟨fd36, F36⟩ := c.def_ 36
  have xcX_InvalidRows : Xc K mg (He.ga K) "InvalidRows" "index" := ⟨He.glo_ok kin gn (c.fact 55), He.eqO_ok (ex_at 1), _, _, _, _, _, fd36, _, mthS 34 0, exVE, oeB_ok (ex_at 2), fun_at F36, ⟨⟨_, _, _, _, rfl⟩, fun _ _ _ _ _ _ _ _ _ => rfl, by decide +kernel, by decide +kernel, by decide, by decide, rfl, rfl, rfl⟩, He.eqO_ok (ex_at 3), eq_of_beq (ex_at 4)⟩
  obtain ⟨fd37, F37⟩ := c.def_ 37
  have xcX_InvalidGrades : Xc K mg (He.ga K) "InvalidGrades" "index" := ⟨He.glo_ok kin gn (c.fact 58), He.eqO_ok (ex_at 5), _, _, _, _, _, fd37, _, mthS 33 0, exVE, oeB_ok (ex_at 6), fun_at F37, ⟨⟨_, _, _, _, rfl⟩, fun _ _ _ _ _ _ _ _ _ => rfl, by decide +kernel, by decide +kernel, by decide, by decide, rfl, rfl, rfl⟩, He.eqO_ok (ex_at 7), eq_of_beq (ex_at 8)⟩
  have hoX : ∀ C ∈ (["InvalidText", "InvalidPoints", "InvalidChange", "InvalidGrades", "InvalidRows", "InvalidGroup", "UnknownName", "BadValue", "BadName"] : List Str), mg C = some (.ref (He.ga K C)) := all_in (He.glo_ok kin gn (c.fact 75)) (all_in (He.glo_ok kin gn (c.fact 74)) (all_in (He.glo_ok kin gn (c.fact 73)) (all_in (He.glo_ok kin gn (c.fact 58)) (all_in (He.glo_ok kin gn (c.fact 55)) (all_in (He.glo_ok kin gn (c.fact 72)) (all_in (He.glo_ok kin gn (c.fact 71)) (all_in (He.glo_ok kin gn (c.fact 70)) (all_in (He.glo_ok kin gn (c.fact 69)) (all_no)))))))))
  have hbX : ∀ C ∈ xtst, C ∉ (["InvalidText", "InvalidPoints", "InvalidChange", "InvalidGrades", "InvalidRows", "InvalidGroup", "UnknownName", "BadValue", "BadName"] : List Str) → mg C = none := all_in (fun hn => absurd (by simp) hn) (all_in (fun hn => absurd (by simp) hn) (all_in (fun hn => absurd (by simp) hn) (all_in (fun hn => absurd (by simp) hn) (all_in (fun hn => absurd (by simp) hn) (all_in (fun hn => absurd (by simp) hn) (all_in (fun hn => absurd (by simp) hn) (all_in (fun hn => absurd (by simp) hn) (all_in (fun _ => He.free_ok kin gn (c.fact 68)) (all_in (fun hn => absurd (by simp) hn) (all_in (fun _ => He.free_ok kin gn (c.fact 67)) (all_no)))))))))))
  have xtX : XT K mg (He.ga K) xtab xtst ["given", "index"] := xtB_ok (own := ["InvalidText", "InvalidPoints", "InvalidChange", "InvalidGrades", "InvalidRows", "InvalidGroup", "UnknownName", "BadValue", "BadName"]) (ex_at 11) hoX hbX
  have eq_Condition : PySem.W.mroIn K (He.ga K "Condition") (.type "object") = some true ∧ PySem.W.findIn K (.ref (He.ga K "Condition")) "__eq__" = some (some (.builtin "object.__eq__")) := by
    obtain ⟨a1, a2⟩ := He.ba (ex_at 0)
    exact ⟨eq_of_beq a1, He.eqO_ok a2⟩
  have r_law_draw : Fn PySem.Challenge.rw_classcurves_k03_grades_refused.prog w K mg base (L2.CX PySem.Challenge.rw_classcurves_k03_grades_refused.prog w) (He.ga K) 1 "_law_draw" ["_law_purse_here", "_law_size"] s_law_draw (topS 46) := f_law_draw (fun_at F0) (He.glo_ok kin gn (c.fact 0)) (He.free_ok kin gn (c.fact 1)) (He.free_ok kin gn (c.fact 2))
  have r_law_pick : Fn PySem.Challenge.rw_classcurves_k03_grades_refused.prog w K mg base (L2.CX PySem.Challenge.rw_classcurves_k03_grades_refused.prog w) (He.ga K) 2 "_law_pick" ["_law_purse_here", "_law_menu"] s_law_pick (topS 47) := f_law_pick (fun_at F1) (He.glo_ok kin gn (c.fact 3)) r_law_draw (He.free_ok kin gn (c.fact 4))
  have r_law_purse : Fn PySem.Challenge.rw_classcurves_k03_grades_refused.prog w K mg base (L2.CX PySem.Challenge.rw_classcurves_k03_grades_refused.prog w) (He.ga K) 1 "_law_purse" ["_law_script", "_law_k"] s_law_purse (topS 45) := f_law_purse (fun_at F2) (He.glo_ok kin gn (c.fact 5)) (He.free_ok kin gn (c.fact 1)) (He.free_ok kin gn (c.fact 4)) (He.free_ok kin gn (c.fact 6))
  have r_law_label : Fn PySem.Challenge.rw_classcurves_k03_grades_refused.prog w K mg base (L2.CX PySem.Challenge.rw_classcurves_k03_grades_refused.prog w) (He.ga K) 3 "_law_label" ["_law_purse_here"] s_law_label (topS 48) := f_law_label (fun_at F3) (He.glo_ok kin gn (c.fact 7)) r_law_draw r_law_pick (He.free_ok kin gn (c.fact 8))
  have r_law_labels : Fn PySem.Challenge.rw_classcurves_k03_grades_refused.prog w K mg base (L2.CX PySem.Challenge.rw_classcurves_k03_grades_refused.prog w) (He.ga K) 4 "_law_labels" ["_law_purse_here", "_law_many"] s_law_labels (topS 49) := f_law_labels (fun_at F4) (He.glo_ok kin gn (c.fact 9)) r_law_draw r_law_pick r_law_label (He.free_ok kin gn (c.fact 8)) (He.free_ok kin gn (c.fact 10))
  have ris_integer : Fn PySem.Challenge.rw_classcurves_k03_grades_refused.prog w K mg base (L2.CX PySem.Challenge.rw_classcurves_k03_grades_refused.prog w) (He.ga K) 1 "is_integer" ["value"] sis_integer (topS 11) := fis_integer (fun_at F5) (He.glo_ok kin gn (c.fact 11)) (He.free_ok kin gn (c.fact 12)) (He.free_ok kin gn (c.fact 1)) (He.free_ok kin gn (c.fact 13))
  have ris_number : Fn PySem.Challenge.rw_classcurves_k03_grades_refused.prog w K mg base (L2.CX PySem.Challenge.rw_classcurves_k03_grades_refused.prog w) (He.ga K) 2 "is_number" ["value"] sis_number (topS 14) := fis_number (fun_at F6) (He.glo_ok kin gn (c.fact 14)) ris_integer (He.int_ok kin gn (c.fact 15))
  have rare_points : Fn PySem.Challenge.rw_classcurves_k03_grades_refused.prog w K mg base (L2.CX PySem.Challenge.rw_classcurves_k03_grades_refused.prog w) (He.ga K) 2 "are_points" ["value"] sare_points (topS 15) := fare_points (fun_at F7) (He.glo_ok kin gn (c.fact 16)) ris_integer
  have rnumber : Fn PySem.Challenge.rw_classcurves_k03_grades_refused.prog w K mg base (L2.CX PySem.Challenge.rw_classcurves_k03_grades_refused.prog w) (He.ga K) 1 "number" ["word", "members"] snumber (topS 22) := fnumber (fun_at F8) (He.glo_ok kin gn (c.fact 17)) (He.int_ok kin gn (c.fact 18))
  have ris_name : Fn PySem.Challenge.rw_classcurves_k03_grades_refused.prog w K mg base (L2.CX PySem.Challenge.rw_classcurves_k03_grades_refused.prog w) (He.ga K) 1 "is_name" ["value"] sis_name (topS 12) := fis_name (fun_at F9) (He.glo_ok kin gn (c.fact 19)) (He.free_ok kin gn (c.fact 20)) (He.free_ok kin gn (c.fact 12)) (He.free_ok kin gn (c.fact 10)) (He.free_ok kin gn (c.fact 4)) (He.str_ok kin gn (c.fact 21)) (He.str_ok kin gn (c.fact 22)) (He.int_ok kin gn (c.fact 23))
  have rmember_of : Fn PySem.Challenge.rw_classcurves_k03_grades_refused.prog w K mg base (L2.CX PySem.Challenge.rw_classcurves_k03_grades_refused.prog w) (He.ga K) 1 "member_of" ["group", "points"] smember_of (topS 42) := fmember_of (fun_at F10) (He.glo_ok kin gn (c.fact 24)) (He.free_ok kin gn (c.fact 25)) (He.free_ok kin gn (c.fact 26))
  have rCondition_init : Fc PySem.Challenge.rw_classcurves_k03_grades_refused.prog w K mg base (L2.CX PySem.Challenge.rw_classcurves_k03_grades_refused.prog w) (He.ga K) 1 "Condition" ["self", "quantity", "is_at_most", "word"] sCondition_init (mthS 20 0) := fCondition_init (fun_at F11) (He.mkr_ok (c.fact 27)) (He.glo_ok kin gn (c.fact 28)) (He.cls_ok (c.fact 29)) (He.noat_ok (c.fact 30)) (He.noat_ok (c.fact 31)) (He.noat_ok (c.fact 32))
  have rRow_init : Fc PySem.Challenge.rw_classcurves_k03_grades_refused.prog w K mg base (L2.CX PySem.Challenge.rw_classcurves_k03_grades_refused.prog w) (He.ga K) 1 "Row" ["self", "conditions", "told"] sRow_init (mthS 21 0) := fRow_init (fun_at F12) (He.mkr_ok (c.fact 33)) (He.glo_ok kin gn (c.fact 34)) (He.cls_ok (c.fact 35)) (He.noat_ok (c.fact 36)) (He.noat_ok (c.fact 37))
  have rCondition_holds : Fm PySem.Challenge.rw_classcurves_k03_grades_refused.prog w K mg base (L2.CX PySem.Challenge.rw_classcurves_k03_grades_refused.prog w) (He.ga K) 2 "Condition" "holds" ["self", "member"] sCondition_holds (mthS 20 2) := fCondition_holds (fun_at F13) (He.meth_ok (c.fact 38)) (He.cls_ok (c.fact 29)) rnumber (He.noat_ok (c.fact 32)) (He.noat_ok (c.fact 30)) (He.noat_ok (c.fact 31))
  have rRow_holds : Fm PySem.Challenge.rw_classcurves_k03_grades_refused.prog w K mg base (L2.CX PySem.Challenge.rw_classcurves_k03_grades_refused.prog w) (He.ga K) 3 "Row" "holds" ["self", "member"] sRow_holds (mthS 21 1) := fRow_holds (fun_at F14) (He.meth_ok (c.fact 39)) (He.cls_ok (c.fact 35)) rCondition_holds (He.free_ok kin gn (c.fact 20)) (He.noat_ok (c.fact 37))
  have rRule_grade_of : Fm PySem.Challenge.rw_classcurves_k03_grades_refused.prog w K mg base (L2.CX PySem.Challenge.rw_classcurves_k03_grades_refused.prog w) (He.ga K) 4 "Rule" "grade_of" ["self", "member"] sRule_grade_of (mthS 43 10) := fRule_grade_of (fun_at F15) (He.meth_ok (c.fact 40)) (He.cls_ok (c.fact 41)) rRow_holds (He.noat_ok (c.fact 42)) (He.cls_ok (c.fact 35)) (He.noat_ok (c.fact 36))
  have rwritten : Fn PySem.Challenge.rw_classcurves_k03_grades_refused.prog w K mg base (L2.CX PySem.Challenge.rw_classcurves_k03_grades_refused.prog w) (He.ga K) 1 "written" ["text"] swritten (topS 13) := fwritten (fun_at F16) (He.glo_ok kin gn (c.fact 43)) (He.free_ok kin gn (c.fact 1)) (He.free_ok kin gn (c.fact 4)) (He.free_ok kin gn (c.fact 20)) (He.int_ok kin gn (c.fact 44)) (He.int_ok kin gn (c.fact 45)) (He.str_ok kin gn (c.fact 22))
  have rparsed_base : Fn PySem.Challenge.rw_classcurves_k03_grades_refused.prog w K mg base (L2.CX PySem.Challenge.rw_classcurves_k03_grades_refused.prog w) (He.ga K) 1 "parsed_base" ["text"] sparsed_base (topS 23) := fparsed_base (fun_at F17) (He.glo_ok kin gn (c.fact 46)) (He.free_ok kin gn (c.fact 4)) (He.free_ok kin gn (c.fact 1)) (He.int_ok kin gn (c.fact 18))
  have rparsed_word : Fn PySem.Challenge.rw_classcurves_k03_grades_refused.prog w K mg base (L2.CX PySem.Challenge.rw_classcurves_k03_grades_refused.prog w) (He.ga K) 2 "parsed_word" ["text"] sparsed_word (topS 24) := fparsed_word (fun_at F18) (He.glo_ok kin gn (c.fact 47)) rwritten rparsed_base (He.int_ok kin gn (c.fact 18))
  have rparsed_condition : Fn PySem.Challenge.rw_classcurves_k03_grades_refused.prog w K mg base (L2.CX PySem.Challenge.rw_classcurves_k03_grades_refused.prog w) (He.ga K) 3 "parsed_condition" ["text"] sparsed_condition (topS 25) := fparsed_condition (fun_at F19) (He.glo_ok kin gn (c.fact 48)) rparsed_word rCondition_init rwritten (He.free_ok kin gn (c.fact 4))
  have rparsed_row : Fn PySem.Challenge.rw_classcurves_k03_grades_refused.prog w K mg base (L2.CX PySem.Challenge.rw_classcurves_k03_grades_refused.prog w) (He.ga K) 4 "parsed_row" ["text", "grades", "is_last"] sparsed_row (topS 26) := fparsed_row (fun_at F20) (He.glo_ok kin gn (c.fact 49)) rRow_init rparsed_condition (He.free_ok kin gn (c.fact 4)) (He.free_ok kin gn (c.fact 12)) (He.free_ok kin gn (c.fact 10)) (He.int_ok kin gn (c.fact 50)) eq_Condition
  have rcheck_rows : Fn PySem.Challenge.rw_classcurves_k03_grades_refused.prog w K mg base (L2.CX PySem.Challenge.rw_classcurves_k03_grades_refused.prog w) (He.ga K) 5 "check_rows" ["grades", "value"] scheck_rows (topS 39) := fcheck_rows (fun_at F21) (He.glo_ok kin gn (c.fact 51)) rparsed_row (He.free_ok kin gn (c.fact 52)) (He.free_ok kin gn (c.fact 4)) (He.free_ok kin gn (c.fact 12)) (He.free_ok kin gn (c.fact 53)) (He.int_ok kin gn (c.fact 54)) xcX_InvalidRows
  have rcheck_grades : Fn PySem.Challenge.rw_classcurves_k03_grades_refused.prog w K mg base (L2.CX PySem.Challenge.rw_classcurves_k03_grades_refused.prog w) (He.ga K) 2 "check_grades" ["value"] scheck_grades (topS 38) := fcheck_grades (fun_at F22) (He.glo_ok kin gn (c.fact 56)) ris_name (He.free_ok kin gn (c.fact 52)) (He.free_ok kin gn (c.fact 12)) (He.free_ok kin gn (c.fact 53)) (He.free_ok kin gn (c.fact 4)) (He.int_ok kin gn (c.fact 57)) xcX_InvalidGrades
  have rRule_init : Fc PySem.Challenge.rw_classcurves_k03_grades_refused.prog w K mg base (L2.CX PySem.Challenge.rw_classcurves_k03_grades_refused.prog w) (He.ga K) 6 "Rule" ["self", "grades", "rows"] sRule_init (mthS 43 0) := fRule_init (fun_at F23) (He.mkr_ok (c.fact 59)) (He.glo_ok kin gn (c.fact 60)) rcheck_rows rcheck_grades (He.cls_ok (c.fact 41)) (He.noat_ok (c.fact 61)) (He.noat_ok (c.fact 62)) (He.noat_ok (c.fact 42))
  have rRule_grades : Fp PySem.Challenge.rw_classcurves_k03_grades_refused.prog w K mg base (L2.CX PySem.Challenge.rw_classcurves_k03_grades_refused.prog w) (He.ga K) 1 "Rule" "grades" ["self"] sRule_grades (mthS 43 2) := fRule_grades (fun_at F24) (propB_ok (ex_at 9)) (He.cls_ok (c.fact 41)) (He.noat_ok (c.fact 62))
  have rRule_rows : Fp PySem.Challenge.rw_classcurves_k03_grades_refused.prog w K mg base (L2.CX PySem.Challenge.rw_classcurves_k03_grades_refused.prog w) (He.ga K) 1 "Rule" "rows" ["self"] sRule_rows (mthS 43 3) := fRule_rows (fun_at F25) (propB_ok (ex_at 10)) (He.cls_ok (c.fact 41)) (He.noat_ok (c.fact 61))
  have rRule___bool__ : Fm PySem.Challenge.rw_classcurves_k03_grades_refused.prog w K mg base (L2.CX PySem.Challenge.rw_classcurves_k03_grades_refused.prog w) (He.ga K) 1 "Rule" "__bool__" ["self"] sRule___bool__ (mthS 43 6) := fRule___bool__ (fun_at F26) (He.meth_ok (c.fact 63)) (He.cls_ok (c.fact 41))
  have rRule___len__ : Fm PySem.Challenge.rw_classcurves_k03_grades_refused.prog w K mg base (L2.CX PySem.Challenge.rw_classcurves_k03_grades_refused.prog w) (He.ga K) 1 "Rule" "__len__" ["self"] sRule___len__ (mthS 43 5) := fRule___len__ (fun_at F27) (He.meth_ok (c.fact 64)) (He.cls_ok (c.fact 41)) (He.free_ok kin gn (c.fact 4)) (He.noat_ok (c.fact 61))
  have r_law_shown : Fh PySem.Challenge.rw_classcurves_k03_grades_refused.prog w K mg base (L2.CX PySem.Challenge.rw_classcurves_k03_grades_refused.prog w) (He.ga K) 1 "_law_shown" ["_law_e"] s_law_shown (topS 51) := f_law_shown (fun_at F28) (He.glo_ok kin gn (c.fact 65)) (He.free_ok kin gn (c.fact 66)) (He.free_ok kin gn (c.fact 12)) (He.free_ok kin gn (c.fact 67)) (He.free_ok kin gn (c.fact 68)) (He.glo_ok kin gn (c.fact 69)) (He.glo_ok kin gn (c.fact 70)) (He.glo_ok kin gn (c.fact 71)) (He.glo_ok kin gn (c.fact 72)) (He.glo_ok kin gn (c.fact 55)) (He.glo_ok kin gn (c.fact 58)) (He.glo_ok kin gn (c.fact 73)) (He.glo_ok kin gn (c.fact 74)) (He.glo_ok kin gn (c.fact 75)) xtX
  have r_law_caught : FnL PySem.Challenge.rw_classcurves_k03_grades_refused.prog w K mg base (He.ga K) 2 "_law_caught" s_law_caught (topS 52) := f_law_caught (fun_at F29) (He.glo_ok kin gn (c.fact 76)) r_law_shown (He.glo_ok kin gn (c.fact 70)) (He.glo_ok kin gn (c.fact 69)) xtX
  have r_law_bent : Fn PySem.Challenge.rw_classcurves_k03_grades_refused.prog w K mg base (L2.CX PySem.Challenge.rw_classcurves_k03_grades_refused.prog w) (He.ga K) 3 "_law_bent" ["_law_purse_here", "_law_label_here", "_law_fellow"] s_law_bent (topS 54) := f_law_bent (fun_at F30) (He.glo_ok kin gn (c.fact 77)) r_law_pick
  have r_law_value : Fn PySem.Challenge.rw_classcurves_k03_grades_refused.prog w K mg base (L2.CX PySem.Challenge.rw_classcurves_k03_grades_refused.prog w) (He.ga K) 5 "_law_value" ["_law_purse_here"] s_law_value (topS 55) := f_law_value (fun_at F31) (He.glo_ok kin gn (c.fact 78)) r_law_pick r_law_bent r_law_draw r_law_labels (He.free_ok kin gn (c.fact 53)) (He.free_ok kin gn (c.fact 8)) (He.free_ok kin gn (c.fact 4)) (He.free_ok kin gn (c.fact 79))
  have r_law_is_name : Fn PySem.Challenge.rw_classcurves_k03_grades_refused.prog w K mg base (L2.CX PySem.Challenge.rw_classcurves_k03_grades_refused.prog w) (He.ga K) 1 "_law_is_name" ["_law_thing"] s_law_is_name (topS 50) := f_law_is_name (fun_at F32) (He.glo_ok kin gn (c.fact 80)) (He.free_ok kin gn (c.fact 20)) (He.free_ok kin gn (c.fact 12)) (He.free_ok kin gn (c.fact 10)) (He.free_ok kin gn (c.fact 4))
  have r_law_wrong : Fn PySem.Challenge.rw_classcurves_k03_grades_refused.prog w K mg base (L2.CX PySem.Challenge.rw_classcurves_k03_grades_refused.prog w) (He.ga K) 2 "_law_wrong" ["_law_some"] s_law_wrong (topS 53) := f_law_wrong (fun_at F33) (He.glo_ok kin gn (c.fact 81)) r_law_is_name (He.free_ok kin gn (c.fact 4)) (He.free_ok kin gn (c.fact 8)) (He.free_ok kin gn (c.fact 12)) (He.free_ok kin gn (c.fact 53))
  have r_law_right : Fn PySem.Challenge.rw_classcurves_k03_grades_refused.prog w K mg base (L2.CX PySem.Challenge.rw_classcurves_k03_grades_refused.prog w) (He.ga K) 12 "_law_right" ["_law_purse_here"] s_law_right (topS 56) := f_law_right (fun_at F34) (He.glo_ok kin gn (c.fact 82)) rRule_rows rRule_grades r_law_caught rRule_init r_law_pick r_law_wrong r_law_value (He.free_ok kin gn (c.fact 66)) rfl (TB ("_law_right", none) (by simp [tfX]))
  exact flaw (fun_at F35) (He.glo_ok kin gn (c.fact 83)) r_law_right r_law_purse (He.free_ok kin gn (c.fact 4)) (He.free_ok kin gn (c.fact 84)) (He.free_ok kin gn (c.fact 85)) (He.free_ok kin gn (c.fact 8)) (He.free_ok kin gn (c.fact 20))
end Hd
open PySem PySem.W PySem.Calls PyProof.Rows
theorem PySem.Challenge.cw_classcurves_k03_grades_refused_holds : PySem.Challenge.rw_classcurves_k03_grades_refused.Holds := by
  w_on; o_law
  refine HandSHeadRun.head_any (r := OpenLaw.row PySem.Challenge.rw_classcurves_k03_grades_refused) (q := view (OpenLaw.row PySem.Challenge.rw_classcurves_k03_grades_refused).prog [57]) (H := Hd.hk) (ob := Hd.ob) (M := 20000) (loose := Hd.loose) (d := HandSHeadRun.topDef (OpenLaw.row PySem.Challenge.rw_classcurves_k03_grades_refused).prog 57) (kwd := []) Hd.ob_eq
    (by kernel_rfl) (fun s => by kernel_rfl) Hd.run (by kernel_rfl) (by kernel_rfl) (by kernel_rfl) (by rfl) (by first | assumption | decide +kernel) (by decide +kernel) ⟨rfl, rfl, rfl, rfl, rfl, by decide +kernel⟩ ?hw ?hc
  case hw => w_witness2
  case hc => exact Hd.walk rfl rfl

